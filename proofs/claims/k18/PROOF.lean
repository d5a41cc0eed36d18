import PyProof.Rows.All
import Wide.All
import OpenK.AllK
import Wide.FinOn
import HandS.ForMost
import HandS.ForExc
import HandS.Wide
import HandS.Deep
import HandS.Style
import HandS.Flow
import HandS.IsInst
import HandS.Zip
import HandS.Defaults
import HandS.Gcd
import HandS.Codes
import KE.KRevSl
import PyProof.SliceStr2
import HandS.HeadHook3
import PyProof.StrOps2
import PyProof.Rows.StrIf
import PyProof.Rows.StrCountLaw
import PySem.Challenge.RW_evenlylaid_k18_closed_rows
import KE.KStateDown
import HandS.Head0
import HandS.Head1
import HandS.Head2
import HandS.HeadEnd
import HandS.HeadHook1
import HandS.HeadHook2
import HandS.HeadHook4
set_option Elab.async false
set_option linter.all false
set_option maxRecDepth 100000
set_option maxHeartbeats 0
/-! pure states over the hand layer's readings -/
namespace Pl
open PySem PySem.Spec PyProof.Rows L2

/-- plain data; raw: a value as it is -/
inductive D where
  | non | bl (b : Bool) | int (i : Int) | str (x : Str) | lst (xs : List D) | tup (xs : List D) | dic (kvs : List (Key × D)) | raw (v : V) | scr (ns : List Int)
/-- a slot's value: plain data, or what can change, by its number -/
inductive W where
  | d (x : D) | cel (k : Nat)

inductive All2 {α β : Type} (R : α → β → Prop) : List α → List β → Prop
  | nil : All2 R [] []
  | cons {x y xs ys} : R x y → All2 R xs ys → All2 R (x :: xs) (y :: ys)
theorem All2.length {α β : Type} {R : α → β → Prop} {xs : List α} {ys : List β} (h : All2 R xs ys) : xs.length = ys.length := by
  induction h with
  | nil => rfl
  | cons _ _ ih => simp [ih]
theorem All2.get {α β : Type} {R : α → β → Prop} {xs : List α} {ys : List β} (h : All2 R xs ys) : ∀ {i : Nat} {y : β}, ys[i]? = some y → ∃ x, xs[i]? = some x ∧ R x y := by
  induction h with
  | nil => intro i y e; simp at e
  | cons r _ ih =>
    intro i y e
    cases i with
    | zero => simp at e; subst e; exact ⟨_, rfl, r⟩
    | succ i => simp at e; obtain ⟨x, h1, h2⟩ := ih e; exact ⟨x, by simpa using h1, h2⟩
theorem All2.getL {α β : Type} {R : α → β → Prop} {xs : List α} {ys : List β} (h : All2 R xs ys) : ∀ {i : Nat} {x : α}, xs[i]? = some x → ∃ y, ys[i]? = some y ∧ R x y := by
  induction h with
  | nil => intro i y e; simp at e
  | cons r _ ih =>
    intro i y e
    cases i with
    | zero => simp at e; subst e; exact ⟨_, rfl, r⟩
    | succ i => simp at e; obtain ⟨x, h1, h2⟩ := ih e; exact ⟨x, by simpa using h1, h2⟩
theorem All2.append {α β : Type} {R : α → β → Prop} {xs xs' : List α} {ys ys' : List β} (h : All2 R xs ys) (h' : All2 R xs' ys') : All2 R (xs ++ xs') (ys ++ ys') := by
  induction h with
  | nil => exact h'
  | cons r _ ih => exact .cons r ih
theorem All2.imp {α β : Type} {R S : α → β → Prop} {xs : List α} {ys : List β} (h : All2 R xs ys) (f : ∀ x y, R x y → S x y) : All2 S xs ys := by
  induction h with
  | nil => exact .nil
  | cons r _ ih => exact .cons (f _ _ r) ih
theorem All2.take {α β : Type} {R : α → β → Prop} {xs : List α} {ys : List β} (h : All2 R xs ys) : ∀ n, All2 R (xs.take n) (ys.take n) := by
  induction h with
  | nil => intro n; simp; exact .nil
  | cons r _ ih =>
    intro n
    cases n with
    | zero => exact .nil
    | succ n => exact .cons r (ih n)
theorem All2.drop {α β : Type} {R : α → β → Prop} {xs : List α} {ys : List β} (h : All2 R xs ys) : ∀ n, All2 R (xs.drop n) (ys.drop n) := by
  induction h with
  | nil => intro n; simp; exact .nil
  | cons r h ih =>
    intro n
    cases n with
    | zero => exact .cons r h
    | succ n => exact ih n
theorem All2.set {α β : Type} {R : α → β → Prop} {xs : List α} {ys : List β} (h : All2 R xs ys) {x y} (r : R x y) : ∀ n, All2 R (xs.set n x) (ys.set n y) := by
  induction h with
  | nil => intro n; exact .nil
  | cons r' h ih =>
    intro n
    cases n with
    | zero => exact .cons r h
    | succ n => exact .cons r' (ih n)
theorem All2.reverse {α β : Type} {R : α → β → Prop} {xs : List α} {ys : List β} (h : All2 R xs ys) : All2 R xs.reverse ys.reverse := by
  induction h with
  | nil => exact .nil
  | cons r _ ih => rw [List.reverse_cons, List.reverse_cons]; exact ih.append (.cons r .nil)
theorem All2.map {α β γ δ : Type} {R : α → β → Prop} {S : γ → δ → Prop} {f : α → γ} {g : β → δ} {xs : List α} {ys : List β} (h : All2 R xs ys) (k : ∀ x y, R x y → S (f x) (g y)) : All2 S (xs.map f) (ys.map g) := by
  induction h with
  | nil => exact .nil
  | cons r _ ih => exact .cons (k _ _ r) ih
theorem All2.dropLast {α β : Type} {R : α → β → Prop} {xs : List α} {ys : List β} (h : All2 R xs ys) : All2 R xs.dropLast ys.dropLast := by
  rw [List.dropLast_eq_take, List.dropLast_eq_take, h.length]
  exact h.take _

/-- growth -/
def Ex (H H' : Hp) : Prop := ∀ a o, H a = some o → H' a = some o
theorem Ex.refl (H : Hp) : Ex H H := fun _ _ h => h
theorem Ex.trans {H H1 H2 : Hp} (a : Ex H H1) (b : Ex H1 H2) : Ex H H2 := fun x o h => b x o (a x o h)
theorem Ex.new {H : Hp} {p : Addr} {o : HO} (h : H p = none) : Ex H (upd H p o) := fun a u e => by
  rw [upd_ne (ne_of_none e h)]
  exact e
theorem Ex.mut {H H' : Hp} {p : Addr} {o : HO} (e : Ex H H') (h : H p = none) : Ex H (upd H' p o) := fun a u ha => by
  rw [upd_ne (ne_of_none ha h)]
  exact e a u ha
theorem Ex.back {H H' : Hp} {p : Addr} (e : Ex H H') (h : H' p = none) : H p = none := by
  cases h1 : H p with
  | none => rfl
  | some o => rw [e p o h1] at h; cases h
theorem ex_rd {H H' : Hp} {a : Addr} {u : HO} (e : Ex H H') (h : Rd H a u) : Rd H' a u := by
  rcases h with h | ⟨o, h⟩
  · exact .inl (e a _ h)
  · exact .inr ⟨o, e a _ h⟩
theorem ex_l {K : PySem.W.Frag} {H H' : Hp} {a : Addr} {xs : List V} (e : Ex H H') (h : SqL K H a xs) : SqL K H' a xs := h.elim (fun h => .inl (ex_rd e h)) .inr
theorem ex_t {K : PySem.W.Frag} {H H' : Hp} {a : Addr} {xs : List V} (e : Ex H H') (h : SqT K H a xs) : SqT K H' a xs := h.elim (fun h => .inl (ex_rd e h)) .inr

/-- the value v stands for the datum d: B what doesn't change -/
inductive Rp (K : PySem.W.Frag) (B : Hp) : V → D → Prop
  | non : Rp K B .non .non
  | bl (b : Bool) : Rp K B (.bl b) (.bl b)
  | int (i : Int) : Rp K B (.int i) (.int i)
  | str (x : Str) : Rp K B (.str x) (.str x)
  | lst {a : Addr} {xs : List V} {ds : List D} : B a = some (.lst xs) → xs.length = ds.length → (∀ (i : Nat) (x : V) (d : D), xs[i]? = some x → ds[i]? = some d → Rp K B x d) → Rp K B (.ref a) (.lst ds)
  | tup {a : Addr} {xs : List V} {ds : List D} : SqT K B a xs → xs.length = ds.length → (∀ (i : Nat) (x : V) (d : D), xs[i]? = some x → ds[i]? = some d → Rp K B x d) → Rp K B (.ref a) (.tup ds)
  | dic {a : Addr} {kv : List (Key × V)} {ds : List (Key × D)} : B a = some (.dK kv) → kv.map (·.1) = ds.map (·.1) → (∀ (i : Nat) (x : Key × V) (d : Key × D), kv[i]? = some x → ds[i]? = some d → Rp K B x.2 d.2) → Rp K B (.ref a) (.dic ds)
  | raw (v : V) : Rp K B v (.raw v)
  | scr {a : Addr} {ns : List Int} : SqL K B a (ns.map V.int) → Rp K B (.ref a) (.scr ns)
abbrev RpA (K : PySem.W.Frag) (B : Hp) : List V → List D → Prop := All2 (Rp K B)
theorem RpA.of {K : PySem.W.Frag} {B : Hp} : ∀ {xs : List V} {ds : List D}, xs.length = ds.length → (∀ (i : Nat) (x : V) (d : D), xs[i]? = some x → ds[i]? = some d → Rp K B x d) → RpA K B xs ds
  | [], [], _, _ => .nil
  | x :: xs, d :: ds, h, k => .cons (k 0 x d rfl rfl) (RpA.of (by simpa using h) fun i y e h1 h2 => k (i + 1) y e (by simpa using h1) (by simpa using h2))
theorem All2.at {α β : Type} {R : α → β → Prop} {xs : List α} {ds : List β} (h : All2 R xs ds) : ∀ (i : Nat) (x : α) (d : β), xs[i]? = some x → ds[i]? = some d → R x d := fun i x d h1 h2 => by
  obtain ⟨y, h3, h4⟩ := h.get h2
  rw [h1] at h3; cases h3; exact h4
/-- longer lists of addresses -/
def Pre (as as' : List Addr) : Prop := ∀ (k : Nat) (a : Addr), as[k]? = some a → as'[k]? = some a
theorem Pre.refl (as : List Addr) : Pre as as := fun _ _ h => h
theorem Pre.trans {a b c : List Addr} (h : Pre a b) (k : Pre b c) : Pre a c := fun i x e => k i x (h i x e)
theorem Pre.app (as bs : List Addr) : Pre as (as ++ bs) := fun k a h => by
  rw [List.getElem?_append_left (List.getElem?_eq_some_iff.mp h).1]; exact h
/-- a slot's value -/
def RW (K : PySem.W.Frag) (B : Hp) (as : List Addr) (v : V) : W → Prop
  | .d x => Rp K B v x
  | .cel k => ∃ a, as[k]? = some a ∧ v = .ref a
abbrev RWA (K : PySem.W.Frag) (B : Hp) (as : List Addr) : List V → List W → Prop := All2 (RW K B as)
section
variable {K : PySem.W.Frag} {B B' : Hp} {as as' : List Addr} {v : V} {d : D} {a : Addr} {x : W}
theorem Rp.mkL {xs : List V} {ds : List D} (h : B a = some (.lst xs)) (r : RpA K B xs ds) : Rp K B (.ref a) (.lst ds) := .lst h r.length r.at
theorem Rp.mkT {xs : List V} {ds : List D} (h : SqT K B a xs) (r : RpA K B xs ds) : Rp K B (.ref a) (.tup ds) := .tup h r.length r.at
theorem Rp.unL {ds : List D} (h : Rp K B v (.lst ds)) : ∃ a xs, v = .ref a ∧ B a = some (.lst xs) ∧ RpA K B xs ds := by
  cases h with
  | lst h l r => exact ⟨_, _, rfl, h, .of l r⟩
theorem Rp.unT {ds : List D} (h : Rp K B v (.tup ds)) : ∃ a xs, v = .ref a ∧ SqT K B a xs ∧ RpA K B xs ds := by
  cases h with
  | tup h l r => exact ⟨_, _, rfl, h, .of l r⟩
theorem Rp.unI {i : Int} (h : Rp K B v (.int i)) : v = .int i := by cases h; rfl
theorem Rp.unS {i : Str} (h : Rp K B v (.str i)) : v = .str i := by cases h; rfl
theorem Rp.unB {i : Bool} (h : Rp K B v (.bl i)) : v = .bl i := by cases h; rfl
theorem Rp.unN (h : Rp K B v .non) : v = .non := by cases h; rfl
theorem Rp.unR {u : V} (h : Rp K B v (.raw u)) : v = u := by cases h; rfl
theorem Rp.mono (e : Ex B B') (h : Rp K B v d) : Rp K B' v d := by
  induction h with
  | non => exact .non
  | bl b => exact .bl b
  | int i => exact .int i
  | str x => exact .str x
  | lst h l _ ih => exact .lst (e _ _ h) l ih
  | tup h l _ ih => exact .tup (ex_t e h) l ih
  | dic h l _ ih => exact .dic (e _ _ h) l ih
  | raw v => exact .raw v
  | scr h => exact .scr (ex_l e h)
theorem RpA.mono {xs : List V} {ds : List D} (e : Ex B B') (h : RpA K B xs ds) : RpA K B' xs ds := All2.imp h fun _ _ r => r.mono e
theorem RW.mono (e : Ex B B') (p : Pre as as') (h : RW K B as v x) : RW K B' as' v x := by
  cases x with
  | d x => exact Rp.mono e h
  | cel k => obtain ⟨a, h1, h2⟩ := h; exact ⟨a, p _ _ h1, h2⟩
theorem RWA.mono {xs : List V} {ds : List W} (e : Ex B B') (p : Pre as as') (h : RWA K B as xs ds) : RWA K B' as' xs ds := All2.imp h fun _ _ r => RW.mono e p r
theorem RWA.pure {xs : List V} : ∀ {ds : List D}, RWA K B as xs (ds.map W.d) → RpA K B xs ds
  | [], h => by cases h; exact .nil
  | d :: ds, h => by
    cases h with
    | cons r t => exact .cons r (RWA.pure t)
theorem RWA.impure {xs : List V} {ds : List D} (h : RpA K B xs ds) : RWA K B as xs (ds.map W.d) := by
  induction h with
  | nil => exact .nil
  | cons r _ ih => exact .cons r ih
end

/-- what can change -/
inductive Cell where
  | pl (ds : List D) | lst (ds : List W) | dic (kvs : List (Key × W)) | gone
def CellAt (K : PySem.W.Frag) (B : Hp) (as : List Addr) (H : Hp) (a : Addr) : Cell → Prop
  | .pl ds => B a = none ∧ ∃ vs, H a = some (.lst vs) ∧ RpA K B vs ds
  | .lst ds => B a = none ∧ ∃ vs, H a = some (.lst vs) ∧ RWA K B as vs ds
  | .dic kvs => B a = none ∧ ∃ kv, H a = some (.dK kv) ∧ All2 (fun (x : Key × V) (d : Key × W) => x.1 = d.1 ∧ RW K B as x.2 d.2) kv kvs
  | .gone => ∃ o, H a = some o
/-- a pure state: the slots, what can change -/
structure Ct where
  sl : List (Option W)
  cs : List Cell
structure Sc (K : PySem.W.Frag) (F B H : Hp) (as : List Addr) (cs : List Cell) : Prop where
  ex : Ex B H
  fr : ∀ a o, F a = some o → H a = some o ∧ B a = none ∧ a ∉ as
  nd : as.Nodup
  ln : as.length = cs.length
  ce : ∀ (k : Nat) (a : Addr) (c : Cell), as[k]? = some a → cs[k]? = some c → CellAt K B as H a c
structure Sta (K : PySem.W.Frag) (F : Hp) (σ : L2.St) (B H : Hp) (as : List Addr) (Γ : Ct) : Prop extends Sc K F B H as Γ.cs where
  ls : σ.length = Γ.sl.length
  sl : ∀ (i : Nat) (d : W), Γ.sl[i]? = some (some d) → ∃ v, σ[i]? = some (some v) ∧ RW K B as v d
section
variable {K : PySem.W.Frag} {F : Hp} {σ : L2.St} {B B' H H' : Hp} {as as' : List Addr} {Γ : Ct} {cs : List Cell}
theorem CellAt.some {a : Addr} {c : Cell} (h : CellAt K B as H a c) : ∃ o, H a = some o := by
  cases c with
  | pl ds => obtain ⟨_, vs, h, _⟩ := h; exact ⟨_, h⟩
  | lst ds => obtain ⟨_, vs, h, _⟩ := h; exact ⟨_, h⟩
  | dic ds => obtain ⟨_, vs, h, _⟩ := h; exact ⟨_, h⟩
  | gone => exact h
theorem CellAt.mono {a : Addr} {c : Cell} (h : CellAt K B as H a c) (e : Ex B B') (hB : B a = none → B' a = none) (p : Pre as as') (k : ∀ o, H a = .some o → H' a = .some o) : CellAt K B' as' H' a c := by
  cases c with
  | pl ds => obtain ⟨b, vs, h, r⟩ := h; exact ⟨hB b, vs, k _ h, RpA.mono e r⟩
  | lst ds => obtain ⟨b, vs, h, r⟩ := h; exact ⟨hB b, vs, k _ h, RWA.mono e p r⟩
  | dic ds => obtain ⟨b, vs, h, r⟩ := h; exact ⟨hB b, vs, k _ h, r.imp fun _ _ z => ⟨z.1, RW.mono e p z.2⟩⟩
  | gone => obtain ⟨o, h⟩ := h; exact ⟨o, k _ h⟩
theorem Sc.mem (S : Sc K F B H as cs) {a : Addr} (h : a ∈ as) : ∃ o, H a = some o := by
  obtain ⟨k, hk, rfl⟩ := List.mem_iff_getElem.mp h
  have hc : k < cs.length := by rw [← S.ln]; exact hk
  exact (S.ce k _ _ (List.getElem?_eq_getElem hk) (List.getElem?_eq_getElem hc)).some
/-- a new object that doesn't change -/
theorem Sc.newB (S : Sc K F B H as cs) {p : Addr} {o : HO} (h : H p = none) : Sc K F (upd B p o) (upd H p o) as cs := by
  have hB : B p = none := S.ex.back h
  refine ⟨fun a u e => ?_, fun a u e => ?_, S.nd, S.ln, fun k a c h1 h2 => ?_⟩
  · by_cases q : a = p
    · subst q; rw [upd_same] at e; rw [upd_same]; exact e
    · rw [upd_ne q] at e ⊢; exact S.ex _ _ e
  · obtain ⟨f1, f2, f3⟩ := S.fr a u e
    have q : a ≠ p := ne_of_none f1 h
    rw [upd_ne q, upd_ne q]
    exact ⟨f1, f2, f3⟩
  · have c2 := S.ce k a c h1 h2
    obtain ⟨u, hu⟩ := c2.some
    have q : a ≠ p := ne_of_none hu h
    exact c2.mono (Ex.new hB) (fun z => by rw [upd_ne q]; exact z) (Pre.refl _) fun o e => by rw [upd_ne q]; exact e
/-- a new object that can change -/
theorem Sc.newC (S : Sc K F B H as cs) {p : Addr} {o : HO} {c : Cell} (h : H p = none) (hc : CellAt K B (as ++ [p]) (upd H p o) p c) : Sc K F B (upd H p o) (as ++ [p]) (cs ++ [c]) := by
  have hB : B p = none := S.ex.back h
  have hp : p ∉ as := fun m => by
    obtain ⟨u, hu⟩ := S.mem m
    rw [h] at hu; cases hu
  refine ⟨S.ex.trans (Ex.new h), fun a u e => ?_, ?_, by simp [S.ln], fun k a c h1 h2 => ?_⟩
  · obtain ⟨f1, f2, f3⟩ := S.fr a u e
    have q : a ≠ p := ne_of_none f1 h
    rw [upd_ne q]
    exact ⟨f1, f2, by simp [f3, q]⟩
  · rw [List.nodup_append]
    exact ⟨S.nd, by simp, fun a ha b hb => by simp at hb; subst hb; rintro rfl; exact hp ha⟩
  · by_cases hk : k < as.length
    · rw [List.getElem?_append_left hk] at h1
      rw [List.getElem?_append_left (by rw [← S.ln]; exact hk)] at h2
      have c2 := S.ce k a c h1 h2
      obtain ⟨u, hu⟩ := c2.some
      have q : a ≠ p := ne_of_none hu h
      exact c2.mono (Ex.refl _) id (Pre.app _ _) fun o e => by rw [upd_ne q]; exact e
    · have e1 : k = as.length := by
        have := (List.getElem?_eq_some_iff.mp h1).1
        simp at this; omega
      subst e1
      rw [List.getElem?_append_right (Nat.le_refl _)] at h1
      rw [S.ln, List.getElem?_append_right (Nat.le_refl _)] at h2
      simp at h1 h2
      subst h1 h2
      exact hc
/-- a change -/
theorem Sc.setC (S : Sc K F B H as cs) {k : Nat} {p : Addr} {o : HO} {c : Cell} (hk : as[k]? = some p) (hB : B p = none) (hc : CellAt K B as (upd H p o) p c) : Sc K F B (upd H p o) as (cs.set k c) := by
  have hm : p ∈ as := List.mem_of_getElem? hk
  refine ⟨S.ex.mut hB, fun a u e => ?_, S.nd, by simp [S.ln], fun j a c' h1 h2 => ?_⟩
  · obtain ⟨f1, f2, f3⟩ := S.fr a u e
    have q : a ≠ p := by rintro rfl; exact f3 hm
    rw [upd_ne q]
    exact ⟨f1, f2, f3⟩
  · by_cases q : j = k
    · subst q
      rw [hk] at h1; cases h1
      have : j < cs.length := by rw [← S.ln]; exact (List.getElem?_eq_some_iff.mp hk).1
      rw [List.getElem?_set_self this] at h2
      cases h2
      exact hc
    · rw [List.getElem?_set_ne (fun z => q z.symm)] at h2
      have c2 := S.ce j a c' h1 h2
      have qa : a ≠ p := by
        rintro rfl
        exact q ((List.getElem?_inj (List.getElem?_eq_some_iff.mp h1).1 S.nd).mp (by rw [h1, hk]))
      exact c2.mono (Ex.refl _) id (Pre.refl _) fun o e => by rw [upd_ne qa]; exact e
/-- what can change, from now on as it stands -/
theorem Sc.frz (S : Sc K F B H as cs) {k : Nat} {p : Addr} {o : HO} (hk : as[k]? = some p) (hB : B p = none) (ho : H p = some o) : Sc K F (upd B p o) H as (cs.set k .gone) := by
  have hm : p ∈ as := List.mem_of_getElem? hk
  refine ⟨fun a u e => ?_, fun a u e => ?_, S.nd, by simp [S.ln], fun j a c' h1 h2 => ?_⟩
  · by_cases q : a = p
    · subst q; rw [upd_same] at e; cases e; exact ho
    · rw [upd_ne q] at e; exact S.ex _ _ e
  · obtain ⟨f1, f2, f3⟩ := S.fr a u e
    have q : a ≠ p := by rintro rfl; exact f3 hm
    rw [upd_ne q]
    exact ⟨f1, f2, f3⟩
  · by_cases q : j = k
    · subst q
      rw [hk] at h1; cases h1
      have : j < cs.length := by rw [← S.ln]; exact (List.getElem?_eq_some_iff.mp hk).1
      rw [List.getElem?_set_self this] at h2
      cases h2
      exact ⟨o, ho⟩
    · rw [List.getElem?_set_ne (fun z => q z.symm)] at h2
      have c2 := S.ce j a c' h1 h2
      have qa : a ≠ p := by
        rintro rfl
        exact q ((List.getElem?_inj (List.getElem?_eq_some_iff.mp h1).1 S.nd).mp (by rw [h1, hk]))
      exact c2.mono (Ex.new hB) (fun z => by rw [upd_ne qa]; exact z) (Pre.refl _) fun o e => e
theorem Sta.var {i : Nat} {d : W} (S : Sta K F σ B H as Γ) (h : Γ.sl[i]? = some (some d)) : ∃ v, σ[i]? = some (some v) ∧ RW K B as v d := S.sl i d h
/-- the slots stay while things are made -/
theorem Sta.step (S : Sta K F σ B H as Γ) (S' : Sc K F B' H' as' cs) (e : Ex B B') (p : Pre as as') : Sta K F σ B' H' as' ⟨Γ.sl, cs⟩ :=
  ⟨S', S.ls, fun i d h => by obtain ⟨v, h1, h2⟩ := S.sl i d h; exact ⟨v, h1, RW.mono e p h2⟩⟩
theorem Sta.set (S : Sta K F σ B H as Γ) {i : Nat} {v : V} {d : W} (r : RW K B as v d) : Sta K F (σ.set i (some v)) B H as ⟨Γ.sl.set i (some d), Γ.cs⟩ :=
  ⟨S.toSc, by simp [S.ls], fun j e h => by
    have h' : (Γ.sl.set i (some d))[j]? = some (some e) := h
    by_cases q : i = j
    · subst q
      have hj : i < Γ.sl.length := by
        have := (List.getElem?_eq_some_iff.mp h').1; simpa using this
      rw [List.getElem?_set_self hj] at h'
      cases h'
      exact ⟨v, by rw [List.getElem?_set_self (by rw [S.ls]; exact hj)], r⟩
    · rw [List.getElem?_set_ne q] at h'
      obtain ⟨u, h1, h2⟩ := S.sl j e h'
      exact ⟨u, by rw [List.getElem?_set_ne q]; exact h1, h2⟩⟩
/-- less is known -/
structure Fg (Γ Γ' : Ct) : Prop where
  ls : Γ.sl.length = Γ'.sl.length
  sl : ∀ (i : Nat) (x : W), Γ'.sl[i]? = some (some x) → Γ.sl[i]? = some (some x)
  cs : Γ.cs = Γ'.cs
theorem Fg.refl (Γ : Ct) : Fg Γ Γ := ⟨rfl, fun _ _ h => h, rfl⟩
theorem Sta.fg (S : Sta K F σ B H as Γ) {Γ' : Ct} (f : Fg Γ Γ') : Sta K F σ B H as Γ' := by
  obtain ⟨sl, cs⟩ := Γ
  obtain ⟨sl', cs'⟩ := Γ'
  cases f.cs
  exact ⟨S.toSc, S.ls.trans f.ls, fun i d h => S.sl i d (f.sl i d h)⟩
end
end Pl

namespace Pl
open PySem PySem.Spec PyProof.Rows L2
/-! expressions with what they ask -/
/-- what follows an expression -/
abbrev WQ := W → List Cell → Prop
def Ko (K : PySem.W.Frag) (F B : Hp) (as : List Addr) (Q : WQ) (R : VK) : Prop :=
  ∀ x cs v B' H' as', Q x cs → Sc K F B' H' as' cs → Ex B B' → Pre as as' → RW K B' as' v x → R v H'
def EW (K : PySem.W.Frag) (te : TE) (Γ : Ct) (Q : WQ) : Prop := ∀ F σ B H as, Sta K F σ B H as Γ → ∀ R : VK, Ko K F B as Q R → te σ H R
def KoA (K : PySem.W.Frag) (F B : Hp) (as : List Addr) (Q : List W → List Cell → Prop) (R : List V → Hp → Prop) : Prop :=
  ∀ xs cs vs B' H' as', Q xs cs → Sc K F B' H' as' cs → Ex B B' → Pre as as' → RWA K B' as' vs xs → R vs H'
def AW (K : PySem.W.Frag) (ta : TA) (Γ : Ct) (Q : List W → List Cell → Prop) : Prop := ∀ F σ B H as, Sta K F σ B H as Γ → ∀ R, KoA K F B as Q R → ta σ H R
def KoT (K : PySem.W.Frag) (F B : Hp) (as : List Addr) (Q : Bool → List Cell → Prop) (R : Bool → Hp → Prop) : Prop :=
  ∀ b cs B' H' as', Q b cs → Sc K F B' H' as' cs → Ex B B' → Pre as as' → R b H'
def TW (K : PySem.W.Frag) (tt : TT) (Γ : Ct) (Q : Bool → List Cell → Prop) : Prop := ∀ F σ B H as, Sta K F σ B H as Γ → ∀ R, KoT K F B as Q R → tt σ H R

structure ET (K : PySem.W.Frag) where
  te : TE
  w : Ct → WQ → Prop
  ok : ∀ Γ Q, w Γ Q → EW K te Γ Q
structure AT (K : PySem.W.Frag) where
  ta : TA
  w : Ct → (List W → List Cell → Prop) → Prop
  ok : ∀ Γ Q, w Γ Q → AW K ta Γ Q
structure TTs (K : PySem.W.Frag) where
  tt : TT
  w : Ct → (Bool → List Cell → Prop) → Prop
  ok : ∀ Γ Q, w Γ Q → TW K tt Γ Q
structure Op2 (K : PySem.W.Frag) where
  r : R2
  w : W → W → List Cell → WQ → Prop
  ok : ∀ x y cs Q, w x y cs Q → ∀ F B H as v u, Sc K F B H as cs → RW K B as v x → RW K B as u y → ∀ R, Ko K F B as Q R → r v u H R
structure Op1 (K : PySem.W.Frag) where
  r : V → Hp → VK → Prop
  w : W → List Cell → WQ → Prop
  ok : ∀ x cs Q, w x cs Q → ∀ F B H as v, Sc K F B H as cs → RW K B as v x → ∀ R, Ko K F B as Q R → r v H R
structure CB (K : PySem.W.Frag) where
  r : List V → Hp → VK → Prop
  w : List W → List Cell → WQ → Prop
  ok : ∀ xs cs Q, w xs cs Q → ∀ F B H as vs, Sc K F B H as cs → RWA K B as vs xs → ∀ R, Ko K F B as Q R → r vs H R
/-- a method of a builtin type T -/
structure MB (K : PySem.W.Frag) where
  T : String
  r : V → List V → Hp → VK → Prop
  ty : W → List Cell → Prop
  w : W → List W → List Cell → WQ → Prop
  tok : ∀ x cs, ty x cs → ∀ F B H as v, Sc K F B H as cs → RW K B as v x → tyV K T v H
  ok : ∀ x xs cs Q, w x xs cs Q → ∀ F B H as v vs, Sc K F B H as cs → RW K B as v x → RWA K B as vs xs → ∀ R, Ko K F B as Q R → r v vs H R

section
variable {K : PySem.W.Frag} {F B B' H H' : Hp} {as as' : List Addr} {Q : WQ} {R : VK} {cs : List Cell}
theorem Ko.trans (k : Ko K F B as Q R) (e : Ex B B') (p : Pre as as') : Ko K F B' as' Q R := fun x cs v B2 H2 as2 q S e2 p2 r => k x cs v B2 H2 as2 q S (e.trans e2) (p.trans p2) r
/-- a value that is there -/
theorem Ko.now {x : W} {v : V} (k : Ko K F B as Q R) (S : Sc K F B H as cs) (r : RW K B as v x) (q : Q x cs) : R v H := k x cs v B H as q S (Ex.refl _) (Pre.refl _) r
theorem Ko.newL {xs : List V} {ds : List D} (k : Ko K F B as Q R) (S : Sc K F B H as cs) (r : RpA K B xs ds) (q : Q (.d (.lst ds)) cs) : ∀ p, H p = none → R (.ref p) (upd H p (.lst xs)) := fun p hp =>
  k _ cs _ (upd B p (.lst xs)) _ as q (S.newB hp) (Ex.new (S.ex.back hp)) (Pre.refl _) (Rp.mkL upd_same (r.mono (Ex.new (S.ex.back hp))))
theorem Ko.newT {xs : List V} {ds : List D} (k : Ko K F B as Q R) (S : Sc K F B H as cs) (r : RpA K B xs ds) (q : Q (.d (.tup ds)) cs) : ∀ p, H p = none → R (.ref p) (upd H p (.tup xs)) := fun p hp =>
  k _ cs _ (upd B p (.tup xs)) _ as q (S.newB hp) (Ex.new (S.ex.back hp)) (Pre.refl _) (Rp.mkT (.inl (.inl upd_same)) (r.mono (Ex.new (S.ex.back hp))))
theorem Ko.newP {xs : List V} {ds : List D} (k : Ko K F B as Q R) (S : Sc K F B H as cs) (r : RpA K B xs ds) (q : Q (.cel cs.length) (cs ++ [.pl ds])) : ∀ p, H p = none → R (.ref p) (upd H p (.lst xs)) := fun p hp =>
  k _ _ _ B _ (as ++ [p]) q (S.newC hp ⟨S.ex.back hp, xs, upd_same, r⟩) (Ex.refl _) (Pre.app _ _) ⟨p, by rw [← S.ln, List.getElem?_append_right (Nat.le_refl _)]; simp, rfl⟩
theorem Ko.newC {xs : List V} {ds : List W} (k : Ko K F B as Q R) (S : Sc K F B H as cs) (r : RWA K B as xs ds) (q : Q (.cel cs.length) (cs ++ [.lst ds])) : ∀ p, H p = none → R (.ref p) (upd H p (.lst xs)) := fun p hp =>
  k _ _ _ B _ (as ++ [p]) q (S.newC hp ⟨S.ex.back hp, xs, upd_same, RWA.mono (Ex.refl _) (Pre.app _ _) r⟩) (Ex.refl _) (Pre.app _ _) ⟨p, by rw [← S.ln, List.getElem?_append_right (Nat.le_refl _)]; simp, rfl⟩
theorem RW.p {v : V} {d : D} (r : Rp K B v d) : RW K B as v (.d d) := r
/-- what a list holds: plain data, or what can change among them -/
inductive Lv where
  | pl (ds : List D) | mx (ws : List W) | no
def cellV : Option Cell → Lv
  | some (.pl ds) => .pl ds
  | some (.lst ws) => .mx ws
  | _ => .no
def lview : W → List Cell → Lv
  | .d (.lst ds), _ => .pl ds
  | .cel k, cs => cellV cs[k]?
  | _, _ => .no
theorem cellV_pl {o : Option Cell} {ds : List D} (h : cellV o = .pl ds) : o = some (.pl ds) := by
  unfold cellV at h
  split at h
  · cases h; rfl
  · cases h
  · cases h
theorem cellV_mx {o : Option Cell} {ds : List W} (h : cellV o = .mx ds) : o = some (.lst ds) := by
  unfold cellV at h
  split at h
  · cases h
  · cases h; rfl
  · cases h
theorem lview_pl {x : W} {ds : List D} {v : V} (h : lview x cs = .pl ds) (S : Sc K F B H as cs) (r : RW K B as v x) : ∃ p xs, v = .ref p ∧ H p = some (.lst xs) ∧ RpA K B xs ds := by
  unfold lview at h
  split at h
  · cases h
    obtain ⟨a, xs, rfl, hs, ra⟩ := Rp.unL r
    exact ⟨a, xs, rfl, S.ex _ _ hs, ra⟩
  · obtain ⟨a, ha, rfl⟩ := r
    obtain ⟨_, vs, hv, ra⟩ : CellAt K B as H a (.pl ds) := S.ce _ a _ ha (cellV_pl h)
    exact ⟨a, vs, rfl, hv, ra⟩
  · cases h
theorem lview_mx {x : W} {ds : List W} {v : V} (h : lview x cs = .mx ds) (S : Sc K F B H as cs) (r : RW K B as v x) : ∃ p xs, v = .ref p ∧ H p = some (.lst xs) ∧ RWA K B as xs ds := by
  unfold lview at h
  split at h
  · cases h
  · obtain ⟨a, ha, rfl⟩ := r
    obtain ⟨_, vs, hv, ra⟩ : CellAt K B as H a (.lst ds) := S.ce _ a _ ha (cellV_mx h)
    exact ⟨a, vs, rfl, hv, ra⟩
  · cases h
end

section
variable {K : PySem.W.Frag}
namespace E
def slotW (o : Option (Option W)) (Q : W → Prop) : Prop := match o with
  | some (some x) => Q x
  | _ => False
theorem slotW_ok {o : Option (Option W)} {Q : W → Prop} (h : slotW o Q) : ∃ x, o = some (some x) ∧ Q x := by
  unfold slotW at h
  split at h
  · exact ⟨_, rfl, h⟩
  · exact h.elim
def var (i : Nat) : ET K where
  te := tVar i
  w := fun Γ Q => slotW Γ.sl[i]? fun x => Q x Γ.cs
  ok := fun Γ Q h F σ B H as S R k => by
    obtain ⟨x, h, q⟩ := slotW_ok h
    obtain ⟨v, h1, h2⟩ := S.sl i x h
    exact ⟨v, h1, k.now S.toSc h2 q⟩
def int (i : Int) : ET K := ⟨tC (.int i), fun Γ Q => Q (.d (.int i)) Γ.cs, fun Γ Q q F σ B H as S R k => k.now S.toSc (RW.p <| Rp.int i) q⟩
def bl (b : Bool) : ET K := ⟨tC (.bl b), fun Γ Q => Q (.d (.bl b)) Γ.cs, fun Γ Q q F σ B H as S R k => k.now S.toSc (RW.p <| Rp.bl b) q⟩
def non : ET K := ⟨tC .non, fun Γ Q => Q (.d .non) Γ.cs, fun Γ Q q F σ B H as S R k => k.now S.toSc (RW.p <| Rp.non) q⟩
def str (x : Str) : ET K := ⟨tC (.str x), fun Γ Q => Q (.d (.str x)) Γ.cs, fun Γ Q q F σ B H as S R k => k.now S.toSc (RW.p <| Rp.str x) q⟩
/-- a value of the module's, as it is -/
def raw (v : V) : ET K := ⟨tC v, fun Γ Q => Q (.d (.raw v)) Γ.cs, fun Γ Q q F σ B H as S R k => k.now S.toSc (RW.p <| Rp.raw v) q⟩
def op (o : Op2 K) (a b : ET K) : ET K where
  te := tOp o.r a.te b.te
  w := fun Γ Q => a.w Γ fun x cs => b.w ⟨Γ.sl, cs⟩ fun y cs' => o.w x y cs' Q
  ok := fun Γ Q h F σ B H as S R k => a.ok _ _ h F σ B H as S _ fun x cs v B1 H1 as1 q1 S1 e1 p1 r1 =>
    b.ok _ _ q1 F σ B1 H1 as1 (S.step S1 e1 p1) _ fun y cs' u B2 H2 as2 q2 S2 e2 p2 r2 => o.ok x y cs' Q q2 F B2 H2 as2 v u S2 (RW.mono e2 p2 r1) r2 R (k.trans (e1.trans e2) (p1.trans p2))
def un (o : Op1 K) (a : ET K) : ET K where
  te := tUn o.r a.te
  w := fun Γ Q => a.w Γ fun x cs => o.w x cs Q
  ok := fun Γ Q h F σ B H as S R k => a.ok _ _ h F σ B H as S _ fun x cs v B1 H1 as1 q1 S1 e1 p1 r1 => o.ok x cs Q q1 F B1 H1 as1 v S1 r1 R (k.trans e1 p1)
end E
namespace A
def nil : AT K := ⟨tNil, fun Γ Q => Q [] Γ.cs, fun Γ Q q F σ B H as S R k => k [] _ [] B H as q S.toSc (Ex.refl _) (Pre.refl _) .nil⟩
def cons (a : ET K) (r : AT K) : AT K where
  ta := tCons a.te r.ta
  w := fun Γ Q => a.w Γ fun x cs => r.w ⟨Γ.sl, cs⟩ fun xs cs' => Q (x :: xs) cs'
  ok := fun Γ Q h F σ B H as S R k => a.ok _ _ h F σ B H as S _ fun x cs v B1 H1 as1 q1 S1 e1 p1 r1 =>
    r.ok _ _ q1 F σ B1 H1 as1 (S.step S1 e1 p1) _ fun xs cs' us B2 H2 as2 q2 S2 e2 p2 r2 => k (x :: xs) cs' (v :: us) B2 H2 as2 q2 S2 (e1.trans e2) (p1.trans p2) (.cons (RW.mono e2 p2 r1) r2)
end A
/-- all plain -/
def unD : List W → Option (List D)
  | [] => some []
  | .d x :: r => match unD r with
    | some ds => some (x :: ds)
    | none => none
  | .cel _ :: _ => none
theorem unD_ok : ∀ {ws : List W} {ds : List D}, unD ws = some ds → ws = ds.map W.d
  | [], ds, h => by cases h; rfl
  | .d x :: r, ds, h => by
    unfold unD at h
    split at h
    · rename_i ds' e
      cases h
      rw [unD_ok e]; rfl
    · cases h
  | .cel _ :: _, _, h => by cases h
theorem unD_map : ∀ ds : List D, unD (ds.map W.d) = some ds
  | [] => rfl
  | d :: ds => by
    show (match unD (ds.map W.d) with | some ds => some (d :: ds) | none => none) = _
    rw [unD_map ds]
def onD (ws : List W) (Q : List D → Prop) : Prop := match unD ws with
  | some ds => Q ds
  | none => False
theorem onD_ok {ws : List W} {Q : List D → Prop} (h : onD ws Q) : ∃ ds, unD ws = some ds ∧ Q ds := by
  unfold onD at h
  split at h
  · exact ⟨_, by assumption, h⟩
  · exact h.elim
def lineN : Nat := 1000000
theorem le_line {n : Nat} (h : n ≤ lineN) : n ≤ sizeLine := Nat.le_trans h (by decide)
theorem lt_line {n : Nat} (h : n < lineN) : n < sizeLine := Nat.lt_of_lt_of_le h (by decide)
namespace E
def tup (a : AT K) : ET K where
  te := tTup a.ta
  w := fun Γ Q => a.w Γ fun ws cs => onD ws fun ds => ds.length ≤ lineN ∧ Q (.d (.tup ds)) cs
  ok := fun Γ Q h F σ B H as S R k => a.ok _ _ h F σ B H as S _ fun xs cs vs B1 H1 as1 q1 S1 e1 p1 r1 => by
    obtain ⟨ds, hu, hl, q⟩ := onD_ok q1
    rw [unD_ok hu] at r1
    have r2 := RWA.pure r1
    exact ⟨le_line (by rw [r2.length]; exact hl), (k.trans e1 p1).newT S1 r2 q⟩
def lst (a : AT K) : ET K where
  te := tLst a.ta
  w := fun Γ Q => a.w Γ fun ws cs => onD ws fun ds => ds.length ≤ lineN ∧ Q (.d (.lst ds)) cs
  ok := fun Γ Q h F σ B H as S R k => a.ok _ _ h F σ B H as S _ fun xs cs vs B1 H1 as1 q1 S1 e1 p1 r1 => by
    obtain ⟨ds, hu, hl, q⟩ := onD_ok q1
    rw [unD_ok hu] at r1
    have r2 := RWA.pure r1
    exact ⟨le_line (by rw [r2.length]; exact hl), (k.trans e1 p1).newL S1 r2 q⟩
/-- a list that can change -/
def lstC (a : AT K) : ET K where
  te := tLst a.ta
  w := fun Γ Q => a.w Γ fun ws cs => ws.length ≤ lineN ∧ match unD ws with
    | some ds => Q (.cel cs.length) (cs ++ [.pl ds])
    | none => Q (.cel cs.length) (cs ++ [.lst ws])
  ok := fun Γ Q h F σ B H as S R k => a.ok _ _ h F σ B H as S _ fun xs cs vs B1 H1 as1 q1 S1 e1 p1 r1 => by
    obtain ⟨hl, q⟩ := q1
    refine ⟨le_line (by rw [r1.length]; exact hl), ?_⟩
    split at q
    · rename_i ds hu
      rw [unD_ok hu] at r1
      exact (k.trans e1 p1).newP S1 (RWA.pure r1) q
    · exact (k.trans e1 p1).newC S1 r1 q
def cb (c : CB K) (a : AT K) : ET K where
  te := tCB c.r a.ta
  w := fun Γ Q => a.w Γ fun xs cs => c.w xs cs Q
  ok := fun Γ Q h F σ B H as S R k => a.ok _ _ h F σ B H as S _ fun xs cs vs B1 H1 as1 q1 S1 e1 p1 r1 => c.ok xs cs Q q1 F B1 H1 as1 vs S1 r1 R (k.trans e1 p1)
def bm (m : MB K) (o : ET K) (a : AT K) : ET K where
  te := tBM K m.T m.r o.te a.ta
  w := fun Γ Q => o.w Γ fun x cs => m.ty x cs ∧ a.w ⟨Γ.sl, cs⟩ fun xs cs' => m.w x xs cs' Q
  ok := fun Γ Q h F σ B H as S R k => o.ok _ _ h F σ B H as S _ fun x cs v B1 H1 as1 q1 S1 e1 p1 r1 =>
    ⟨m.tok x cs q1.1 F B1 H1 as1 v S1 r1, a.ok _ _ q1.2 F σ B1 H1 as1 (S.step S1 e1 p1) _ fun xs cs' vs B2 H2 as2 q2 S2 e2 p2 r2 => m.ok x xs cs' Q q2 F B2 H2 as2 v vs S2 (RW.mono e2 p2 r1) r2 R (k.trans (e1.trans e2) (p1.trans p2))⟩
def bm0 (m : MB K) (o : ET K) : ET K where
  te := tBM0 K m.T m.r o.te
  w := fun Γ Q => o.w Γ fun x cs => m.ty x cs ∧ m.w x [] cs Q
  ok := fun Γ Q h F σ B H as S R k => o.ok _ _ h F σ B H as S _ fun x cs v B1 H1 as1 q1 S1 e1 p1 r1 =>
    ⟨m.tok x cs q1.1 F B1 H1 as1 v S1 r1, m.ok x [] cs Q q1.2 F B1 H1 as1 v [] S1 r1 .nil R (k.trans e1 p1)⟩
/-- what can change is told as it stands, and changes no more -/
def frz (e : ET K) : ET K where
  te := e.te
  w := fun Γ Q => e.w Γ fun x cs => match x with
    | .d x => Q (.d x) cs
    | .cel k => match lview (.cel k) cs with
      | .pl ds => Q (.d (.lst ds)) (cs.set k .gone)
      | _ => False
  ok := fun Γ Q h F σ B H as S R k => e.ok _ _ h F σ B H as S _ fun x cs v B1 H1 as1 q1 S1 e1 p1 r1 => by
    cases x with
    | d x => exact (k.trans e1 p1).now S1 r1 q1
    | cel j =>
      dsimp only at q1
      obtain ⟨a, ha, rfl⟩ := r1
      split at q1
      · rename_i ds hc
        obtain ⟨hB, vs, hv, ra⟩ : CellAt K B1 as1 H1 a (.pl ds) := S1.ce j a _ ha (cellV_pl hc)
        have eB : Ex B1 (upd B1 a (.lst vs)) := Ex.new hB
        exact k _ _ _ _ _ as1 q1 (S1.frz ha hB hv) (e1.trans eB) p1 (RW.p (Rp.mkL upd_same (ra.mono eB)))
      · exact q1.elim
end E
end
end Pl

namespace Pl
open PySem PySem.Spec PyProof.Rows L2
section
variable {K : PySem.W.Frag}
/-! truth, tests -/
def truW : W → List Cell → (Bool → Prop) → Prop
  | .d .non, _, Q => Q false
  | .d (.bl b), _, Q => Q b
  | .d (.int i), _, Q => Q (i != 0)
  | .d (.str s), _, Q => s.length ≤ lineN ∧ Q ((s.length : Int) != 0)
  | .d (.lst ds), _, Q => Q (!ds.isEmpty)
  | .d (.tup ds), _, Q => Q (!ds.isEmpty)
  | .d (.dic ds), _, Q => Q (!ds.isEmpty)
  | .d (.raw _), _, _ => False
  | .d (.scr _), _, _ => False
  | .cel k, cs, Q => match lview (.cel k) cs with
    | .pl ds => Q (!ds.isEmpty)
    | .mx ws => Q (!ws.isEmpty)
    | .no => False
theorem isE_of {α β : Type} {R : α → β → Prop} {xs : List α} {ys : List β} (h : All2 R xs ys) : (!xs.isEmpty) = !ys.isEmpty := by
  cases h <;> rfl
theorem truW_ok {x : W} {cs : List Cell} {Q : Bool → Prop} {F B H : Hp} {as : List Addr} {v : V} (h : truW x cs Q) (S : Sc K F B H as cs) (r : RW K B as v x) : ∃ k, TruV K v H k ∧ Q k := by
  cases x with
  | d d =>
    cases d with
    | non => cases Rp.unN r; exact ⟨false, rfl, h⟩
    | bl b => cases Rp.unB r; exact ⟨b, rfl, h⟩
    | int i => cases Rp.unI r; exact ⟨_, rfl, h⟩
    | str s => cases Rp.unS r; exact ⟨_, ⟨le_line h.1, rfl⟩, h.2⟩
    | lst ds =>
      obtain ⟨a, xs, rfl, hs, ra⟩ := Rp.unL r
      exact ⟨_, .inl ⟨xs, .inl (.inl (S.ex _ _ hs)), rfl⟩, by rw [isE_of ra]; exact h⟩
    | tup ds =>
      obtain ⟨a, xs, rfl, hs, ra⟩ := Rp.unT r
      exact ⟨_, .inr (.inl ⟨xs, ex_t S.ex hs, rfl⟩), by rw [isE_of ra]; exact h⟩
    | dic ds =>
      cases r with
      | @dic a kv _ hB hk _ =>
        refine ⟨_, .inr (.inr ⟨kv, S.ex _ _ hB, rfl⟩), ?_⟩
        have e : (!kv.isEmpty) = !ds.isEmpty := by
          have h2 := congrArg List.length hk
          simp only [List.length_map] at h2
          cases kv <;> cases ds <;> simp_all
        rw [e]; exact h
    | raw u => exact h.elim
    | scr u => exact h.elim
  | cel k =>
    have h : (match lview (.cel k) cs with | .pl ds => Q (!ds.isEmpty) | .mx ws => Q (!ws.isEmpty) | .no => False) := h
    split at h
    · rename_i ds hc
      obtain ⟨a, vs, rfl, hv, ra⟩ := lview_pl hc S r
      exact ⟨_, .inl ⟨vs, .inl (.inl hv), rfl⟩, by rw [isE_of ra]; exact h⟩
    · rename_i ds hc
      obtain ⟨a, vs, rfl, hv, ra⟩ := lview_mx hc S r
      exact ⟨_, .inl ⟨vs, .inl (.inl hv), rfl⟩, by rw [isE_of ra]; exact h⟩
    · exact h.elim
namespace T
/-- an expression as a test, by truth -/
def tru (e : ET K) : TTs K where
  tt := fun σ H Q => e.te σ H fun x H' => ∃ k, TruV K x H' k ∧ Q k H'
  w := fun Γ Q => e.w Γ fun x cs => truW x cs fun b => Q b cs
  ok := fun Γ Q h F σ B H as S R k => e.ok _ _ h F σ B H as S _ fun x cs v B1 H1 as1 q1 S1 e1 p1 r1 => by
    obtain ⟨b, h1, h2⟩ := truW_ok q1 S1 r1
    exact ⟨b, h1, k b cs B1 H1 as1 h2 S1 e1 p1⟩
/-- a comparison's answer -/
def cmp (e : ET K) : TTs K where
  tt := tTest e.te
  w := fun Γ Q => e.w Γ fun x cs => match x with
    | .d (.bl b) => Q b cs
    | _ => False
  ok := fun Γ Q h F σ B H as S R k => e.ok _ _ h F σ B H as S _ fun x cs v B1 H1 as1 q1 S1 e1 p1 r1 => by
    cases x with
    | d d =>
      cases d with
      | bl b => cases Rp.unB r1; exact ⟨b, rfl, k b cs B1 H1 as1 q1 S1 e1 p1⟩
      | _ => exact q1.elim
    | cel j => exact q1.elim
def and (a b : TTs K) : TTs K where
  tt := tAnd a.tt b.tt
  w := fun Γ Q => a.w Γ fun c cs => match c with
    | true => b.w ⟨Γ.sl, cs⟩ Q
    | false => Q false cs
  ok := fun Γ Q h F σ B H as S R k => a.ok _ _ h F σ B H as S _ fun c cs B1 H1 as1 q1 S1 e1 p1 => by
    cases c with
    | true => exact iteT (b.ok _ _ q1 F σ B1 H1 as1 (S.step S1 e1 p1) _ fun c' cs' B2 H2 as2 q2 S2 e2 p2 => k c' cs' B2 H2 as2 q2 S2 (e1.trans e2) (p1.trans p2))
    | false => exact iteF (k false cs B1 H1 as1 q1 S1 e1 p1)
def or (a b : TTs K) : TTs K where
  tt := tOr a.tt b.tt
  w := fun Γ Q => a.w Γ fun c cs => match c with
    | true => Q true cs
    | false => b.w ⟨Γ.sl, cs⟩ Q
  ok := fun Γ Q h F σ B H as S R k => a.ok _ _ h F σ B H as S _ fun c cs B1 H1 as1 q1 S1 e1 p1 => by
    cases c with
    | false => exact iteF (b.ok _ _ q1 F σ B1 H1 as1 (S.step S1 e1 p1) _ fun c' cs' B2 H2 as2 q2 S2 e2 p2 => k c' cs' B2 H2 as2 q2 S2 (e1.trans e2) (p1.trans p2))
    | true => exact iteT (k true cs B1 H1 as1 q1 S1 e1 p1)
def not (a : TTs K) : TTs K where
  tt := tNot a.tt
  w := fun Γ Q => a.w Γ fun c cs => Q (!c) cs
  ok := fun Γ Q h F σ B H as S R k => a.ok _ _ h F σ B H as S _ fun c cs B1 H1 as1 q1 S1 e1 p1 => k _ cs B1 H1 as1 q1 S1 e1 p1
def yes : TTs K := ⟨tYes, fun Γ Q => Q true Γ.cs, fun Γ Q h F σ B H as S R k => k true _ B H as h S.toSc (Ex.refl _) (Pre.refl _)⟩
end T
namespace E
def andT (a b : ET K) : ET K where
  te := tAndT K a.te b.te
  w := fun Γ Q => a.w Γ fun x cs => truW x cs fun c => match c with
    | true => b.w ⟨Γ.sl, cs⟩ Q
    | false => Q x cs
  ok := fun Γ Q h F σ B H as S R k => a.ok _ _ h F σ B H as S _ fun x cs v B1 H1 as1 q1 S1 e1 p1 r1 => by
    obtain ⟨c, h1, h2⟩ := truW_ok q1 S1 r1
    refine ⟨c, h1, ?_⟩
    cases c with
    | true => exact iteT (b.ok _ _ h2 F σ B1 H1 as1 (S.step S1 e1 p1) _ (k.trans e1 p1))
    | false => exact iteF (k x cs v B1 H1 as1 h2 S1 e1 p1 r1)
def orT (a b : ET K) : ET K where
  te := tOrT K a.te b.te
  w := fun Γ Q => a.w Γ fun x cs => truW x cs fun c => match c with
    | true => Q x cs
    | false => b.w ⟨Γ.sl, cs⟩ Q
  ok := fun Γ Q h F σ B H as S R k => a.ok _ _ h F σ B H as S _ fun x cs v B1 H1 as1 q1 S1 e1 p1 r1 => by
    obtain ⟨c, h1, h2⟩ := truW_ok q1 S1 r1
    refine ⟨c, h1, ?_⟩
    cases c with
    | false => exact iteF (b.ok _ _ h2 F σ B1 H1 as1 (S.step S1 e1 p1) _ (k.trans e1 p1))
    | true => exact iteT (k x cs v B1 H1 as1 h2 S1 e1 p1 r1)
def notT (a : ET K) : ET K where
  te := tNotT K a.te
  w := fun Γ Q => a.w Γ fun x cs => truW x cs fun c => Q (.d (.bl (!c))) cs
  ok := fun Γ Q h F σ B H as S R k => a.ok _ _ h F σ B H as S _ fun x cs v B1 H1 as1 q1 S1 e1 p1 r1 => by
    obtain ⟨c, h1, h2⟩ := truW_ok q1 S1 r1
    exact ⟨c, h1, (k.trans e1 p1).now S1 (RW.p (Rp.bl _)) h2⟩
def ite (t : TTs K) (a b : ET K) : ET K where
  te := tIf t.tt a.te b.te
  w := fun Γ Q => t.w Γ fun c cs => match c with
    | true => a.w ⟨Γ.sl, cs⟩ Q
    | false => b.w ⟨Γ.sl, cs⟩ Q
  ok := fun Γ Q h F σ B H as S R k => t.ok _ _ h F σ B H as S _ fun c cs B1 H1 as1 q1 S1 e1 p1 => by
    cases c with
    | true => exact iteT (a.ok _ _ q1 F σ B1 H1 as1 (S.step S1 e1 p1) _ (k.trans e1 p1))
    | false => exact iteF (b.ok _ _ q1 F σ B1 H1 as1 (S.step S1 e1 p1) _ (k.trans e1 p1))
/-- a op b op' c -/
def chain (o o' : Op2 K) (a b c : ET K) : ET K where
  te := tChain o.r o'.r a.te b.te c.te
  w := fun Γ Q => a.w Γ fun x cs => b.w ⟨Γ.sl, cs⟩ fun y cs' => o.w x y cs' fun z cs2 => match z with
    | .d (.bl true) => c.w ⟨Γ.sl, cs2⟩ fun z' cs3 => o'.w y z' cs3 Q
    | .d (.bl false) => Q (.d (.bl false)) cs2
    | _ => False
  ok := fun Γ Q h F σ B H as S R k => a.ok _ _ h F σ B H as S _ fun x cs v B1 H1 as1 q1 S1 e1 p1 r1 =>
    b.ok _ _ q1 F σ B1 H1 as1 (S.step S1 e1 p1) _ fun y cs' u B2 H2 as2 q2 S2 e2 p2 r2 => o.ok x y cs' _ q2 F B2 H2 as2 v u S2 (RW.mono e2 p2 r1) r2 _ fun z cs3 t B3 H3 as3 q3 S3 e3 p3 r3 => by
      cases z with
      | d d =>
        cases d with
        | bl bb =>
          cases Rp.unB r3
          refine ⟨bb, rfl, ?_⟩
          have e13 := e1.trans (e2.trans e3)
          have p13 := p1.trans (p2.trans p3)
          cases bb with
          | true => exact iteT (c.ok _ _ q3 F σ B3 H3 as3 (S.step S3 e13 p13) _ fun z' cs4 w' B4 H4 as4 q4 S4 e4 p4 r4 =>
              o'.ok y z' cs4 Q q4 F B4 H4 as4 u w' S4 (RW.mono (e3.trans e4) (p3.trans p4) r2) r4 R (k.trans (e13.trans e4) (p13.trans p4)))
          | false => exact iteF ((k.trans e13 p13).now S3 (RW.p (Rp.bl false)) q3)
        | _ => exact q3.elim
      | cel j => exact q3.elim
end E
end

section
variable {K : PySem.W.Frag}
/-! operators -/
/-- by ints -/
def oI (C : Int → Int → Prop) (g : Int → Int → D) (gv : Int → Int → V) (hg : ∀ (B : Hp) i j, Rp K B (gv i j) (g i j)) : Op2 K where
  r := rI C gv
  w := fun x y cs Q => match x, y with
    | .d (.int i), .d (.int j) => C i j ∧ Q (.d (g i j)) cs
    | _, _ => False
  ok := fun x y cs Q h F B H as v u S rx ry R k => by
    cases x with
    | d x =>
      cases x with
      | int i =>
        cases y with
        | d y =>
          cases y with
          | int j => cases Rp.unI rx; cases Rp.unI ry; exact ⟨i, j, rfl, rfl, h.1, k.now S (RW.p (hg _ _ _)) h.2⟩
          | _ => exact h.elim
        | cel _ => exact h.elim
      | _ => exact h.elim
    | cel _ => exact h.elim
def oI0 (g : Int → Int → D) (gv : Int → Int → V) (hg : ∀ (B : Hp) i j, Rp K B (gv i j) (g i j)) : Op2 K where
  r := rI0 gv
  w := fun x y cs Q => match x, y with
    | .d (.int i), .d (.int j) => Q (.d (g i j)) cs
    | _, _ => False
  ok := fun x y cs Q h F B H as v u S rx ry R k => by
    cases x with
    | d x =>
      cases x with
      | int i =>
        cases y with
        | d y =>
          cases y with
          | int j => cases Rp.unI rx; cases Rp.unI ry; exact ⟨i, j, rfl, rfl, k.now S (RW.p (hg _ _ _)) h⟩
          | _ => exact h.elim
        | cel _ => exact h.elim
      | _ => exact h.elim
    | cel _ => exact h.elim
namespace O
def sub : Op2 K := oI0 (fun i j => .int (i - j)) (fun i j => .int (i - j)) fun _ _ _ => .int _
def fdiv : Op2 K := oI CDivW (fun i j => .int (i / j)) (fun i j => .int (i / j)) fun _ _ _ => .int _
def mod : Op2 K := oI (fun _ j => 0 < j) (fun i j => .int (i % j)) (fun i j => .int (i % j)) fun _ _ _ => .int _
def pow : Op2 K := oI CPow (fun i j => .int (i ^ j.toNat)) (fun i j => .int (i ^ j.toNat)) fun _ _ _ => .int _
def lt : Op2 K := oI0 (fun i j => .bl (decide (i < j))) (fun i j => .bl (decide (i < j))) fun _ _ _ => .bl _
def le : Op2 K := oI0 (fun i j => .bl (decide (i ≤ j))) (fun i j => .bl (decide (i ≤ j))) fun _ _ _ => .bl _
def gt : Op2 K := oI0 (fun i j => .bl (decide (j < i))) (fun i j => .bl (decide (j < i))) fun _ _ _ => .bl _
def ge : Op2 K := oI0 (fun i j => .bl (decide (j ≤ i))) (fun i j => .bl (decide (j ≤ i))) fun _ _ _ => .bl _
/-- ints, texts, lists, tuples -/
def rAddS : R2 := fun x y H Q => ∃ i j, x = .str i ∧ y = .str j ∧ i.length + j.length ≤ sizeLine ∧ Q (.str (i ++ j)) H
def rAddG (K : PySem.W.Frag) : R2 := fun x y H Q => rI0 (fun i j => .int (i + j)) x y H Q ∨ rAddS x y H Q ∨ rCat x y H Q ∨ rCatT K x y H Q
theorem or2 {X : Cx} {f : Value → Value → Sem Value} {r r' : R2} (h : OpR X f r) (h' : OpR X f r') : OpR X f (fun x y H Q => r x y H Q ∨ r' x y H Q) := by
  intro pins s σ H x y v u Q I rx ry q
  rcases q with q | q
  · exact h pins s σ H x y v u Q I rx ry q
  · exact h' pins s σ H x y v u Q I rx ry q
theorem op_addG {X : Cx} : OpR X (binaryOp .Add) (rAddG X.K) := or2 op_add (or2 op_add_str (or2 op_cat op_catT))
/-- + -/
def addW : W → W → List Cell → WQ → Prop
  | .d (.int i), .d (.int j), cs, Q => Q (.d (.int (i + j))) cs
  | .d (.str i), .d (.str j), cs, Q => i.length + j.length ≤ lineN ∧ Q (.d (.str (i ++ j))) cs
  | .d (.tup xs), .d (.tup ys), cs, Q => xs ≠ [] ∧ xs.length + ys.length ≤ lineN ∧ Q (.d (.tup (xs ++ ys))) cs
  | x, y, cs, Q => match lview x cs, lview y cs with
    | .pl ds, .pl es => ds.length + es.length ≤ lineN ∧ Q (.d (.lst (ds ++ es))) cs
    | _, _ => False
theorem addL_ok {x y : W} {cs : List Cell} {Q : WQ} {F B H : Hp} {as : List Addr} {v u : V} (h : match lview x cs, lview y cs with
    | .pl ds, .pl es => ds.length + es.length ≤ lineN ∧ Q (.d (.lst (ds ++ es))) cs
    | _, _ => False) (S : Sc K F B H as cs) (rx : RW K B as v x) (ry : RW K B as u y) (R : VK) (k : Ko K F B as Q R) : rAddG K v u H R := by
  split at h
  · rename_i ds es h1 h2
    obtain ⟨p, vs, rfl, hp, r1⟩ := lview_pl h1 S rx
    obtain ⟨p2, us, rfl, hp2, r2⟩ := lview_pl h2 S ry
    exact .inr (.inr (.inl ⟨p, p2, vs, us, rfl, rfl, hp, hp2, le_line (by rw [r1.length, r2.length]; exact h.1), k.newL S (r1.append r2) h.2⟩))
  · exact h.elim
def add : Op2 K where
  r := rAddG K
  w := addW
  ok := fun x y cs Q h F B H as v u S rx ry R k => by
    unfold addW at h
    split at h
    · cases Rp.unI rx; cases Rp.unI ry; exact .inl ⟨_, _, rfl, rfl, k.now S (RW.p (Rp.int _)) h⟩
    · cases Rp.unS rx; cases Rp.unS ry; exact .inr (.inl ⟨_, _, rfl, rfl, le_line h.1, k.now S (RW.p (Rp.str _)) h.2⟩)
    · rename_i xs ys
      obtain ⟨a, vs, rfl, hs, ra⟩ := Rp.unT rx
      obtain ⟨a2, us, rfl, hs2, ra2⟩ := Rp.unT ry
      refine .inr (.inr (.inr ⟨a, a2, vs, us, rfl, rfl, ex_t S.ex hs, ex_t S.ex hs2, ?_, le_line (by rw [ra.length, ra2.length]; exact h.2.1), fun e => ?_, fun e => k.newT S (ra.append ra2) h.2.2⟩))
      · rintro rfl
        cases ra
        exact h.1 rfl
      · subst e
        cases ra2
        refine k.now S rx ?_
        have := h.2.2
        rwa [List.append_nil] at this
    · exact addL_ok h S rx ry R k
/-- * of ints; a text, a list times an int -/
def rRepS : R2 := fun x y H Q => False
def rMulG : R2 := fun x y H Q => rI CMulW (fun i j => .int (i * j)) x y H Q ∨ rRep x y H Q
theorem op_mulG {X : Cx} : OpR X (binaryOp .Mult) rMulG := or2 op_mulW op_rep
def mulW : W → W → List Cell → WQ → Prop
  | .d (.int i), .d (.int j), cs, Q => CMulW i j ∧ Q (.d (.int (i * j))) cs
  | x, .d (.int j), cs, Q => match lview x cs with
    | .pl ds => (-(2 ^ 63) ≤ j ∧ j < 2 ^ 63 ∧ ds.length * j.toNat ≤ lineN) ∧ Q (.d (.lst (List.replicate j.toNat ds).flatten)) cs
    | _ => False
  | _, _, _, _ => False
theorem all2_rep {α β : Type} {R : α → β → Prop} {xs : List α} {ys : List β} (h : All2 R xs ys) : ∀ n, All2 R (List.replicate n xs).flatten (List.replicate n ys).flatten
  | 0 => .nil
  | n + 1 => by
    rw [List.replicate_succ, List.replicate_succ, List.flatten_cons, List.flatten_cons]
    exact h.append (all2_rep h n)
def mul : Op2 K where
  r := rMulG
  w := mulW
  ok := fun x y cs Q h F B H as v u S rx ry R k => by
    unfold mulW at h
    split at h
    · cases Rp.unI rx; cases Rp.unI ry; exact .inl ⟨_, _, rfl, rfl, h.1, k.now S (RW.p (Rp.int _)) h.2⟩
    · cases Rp.unI ry
      split at h
      · rename_i ds h1
        obtain ⟨⟨h3, h4, hl⟩, q⟩ := h
        obtain ⟨p, vs, rfl, hp, r1⟩ := lview_pl h1 S rx
        exact .inr ⟨p, _, vs, rfl, rfl, hp, h3, h4, le_line (by rw [r1.length]; exact hl), k.newL S (all2_rep r1 _) q⟩
      · exact h.elim
    · exact h.elim
/-! ### equality -/
mutual
def pyD : D → Option PyData
  | .non => some .none
  | .bl b => some (.bool b)
  | .int i => some (.int i)
  | .str s => some (.str s)
  | .lst ds => (pyA ds).map .list
  | .tup ds => (pyA ds).map .tuple
  | .dic _ => none
  | .raw _ => none
  | .scr _ => none
def pyA : List D → Option (List PyData)
  | [] => some []
  | d :: ds => match pyD d, pyA ds with
    | some p, some ps => some (p :: ps)
    | _, _ => none
end
theorem pyA_get : ∀ {ds : List D} {ps : List PyData}, pyA ds = some ps → ds.length = ps.length ∧ ∀ (i : Nat) d p, ds[i]? = some d → ps[i]? = some p → pyD d = some p
  | [], ps, h => by
    unfold pyA at h; cases h
    exact ⟨rfl, fun i d p h => by simp at h⟩
  | d :: ds, ps, h => by
    unfold pyA at h
    split at h
    · rename_i p ps' e1 e2
      cases h
      obtain ⟨h1, h2⟩ := pyA_get e2
      refine ⟨by simp [h1], fun i d' p' a b => ?_⟩
      cases i with
      | zero => simp at a b; rw [← a, ← b]; exact e1
      | succ i => exact h2 i d' p' (by simpa using a) (by simpa using b)
    · cases h
theorem dpAll_of {B : Hp} : ∀ {xs : List V} {ps : List PyData}, xs.length = ps.length → (∀ (i : Nat) x p, xs[i]? = some x → ps[i]? = some p → Dp K B x p) → DpAll K B xs ps
  | [], [], _, _ => .nil
  | x :: xs, p :: ps, h, k => .cons (k 0 x p rfl rfl) (dpAll_of (by simpa using h) fun i y e h1 h2 => k (i + 1) y e (by simpa using h1) (by simpa using h2))
theorem dp_of {B H : Hp} (e : Ex B H) {v : V} {d : D} (r : Rp K B v d) : ∀ p, pyD d = some p → Dp K H v p := by
  induction r with
  | non => intro p h; unfold pyD at h; cases h; exact .non
  | bl b => intro p h; unfold pyD at h; cases h; exact .bl b
  | int b => intro p h; unfold pyD at h; cases h; exact .int b
  | str b => intro p h; unfold pyD at h; cases h; exact .str b
  | @lst a xs ds hs l r ih =>
    intro p h
    unfold pyD at h
    obtain ⟨ps, h1, rfl⟩ := Option.map_eq_some_iff.mp h
    obtain ⟨h2, h3⟩ := pyA_get h1
    refine .lst (.inl (.inl (e _ _ hs))) (dpAll_of (l.trans h2) fun i x p hx hp => ?_)
    have hi : i < ds.length := by rw [h2]; exact (List.getElem?_eq_some_iff.mp hp).1
    exact ih i x _ hx (List.getElem?_eq_getElem hi) p (h3 i _ p (List.getElem?_eq_getElem hi) hp)
  | @tup a xs ds hs l r ih =>
    intro p h
    unfold pyD at h
    obtain ⟨ps, h1, rfl⟩ := Option.map_eq_some_iff.mp h
    obtain ⟨h2, h3⟩ := pyA_get h1
    refine .tup (ex_t e hs) (dpAll_of (l.trans h2) fun i x p hx hp => ?_)
    have hi : i < ds.length := by rw [h2]; exact (List.getElem?_eq_some_iff.mp hp).1
    exact ih i x _ hx (List.getElem?_eq_getElem hi) p (h3 i _ p (List.getElem?_eq_getElem hi) hp)
  | dic _ _ _ _ => intro p h; unfold pyD at h; cases h
  | raw v => intro p h; unfold pyD at h; cases h
  | scr _ => intro p h; unfold pyD at h; cases h
def pyW : W → List Cell → Option PyData
  | .d x, _ => pyD x
  | .cel k, cs => match lview (.cel k) cs with
    | .pl ds => (pyA ds).map .list
    | .mx ws => (unD ws).bind fun ds => (pyA ds).map .list
    | .no => none
theorem pyW_ok {x : W} {cs : List Cell} {F B H : Hp} {as : List Addr} {v : V} (S : Sc K F B H as cs) (r : RW K B as v x) {p : PyData} (h : pyW x cs = some p) : Dp K H v p := by
  cases x with
  | d d => exact dp_of S.ex r p h
  | cel k =>
    have fin : ∀ {a : Addr} {vs : List V} {ds : List D}, H a = some (.lst vs) → RpA K B vs ds → (pyA ds).map PyData.list = some p → Dp K H (.ref a) p := fun {a vs ds} hv ra h => by
      obtain ⟨ps, h1, rfl⟩ := Option.map_eq_some_iff.mp h
      obtain ⟨h2, h3⟩ := pyA_get h1
      refine .lst (.inl (.inl hv)) (dpAll_of (ra.length.trans h2) fun i x p hx hp => ?_)
      have hi : i < ds.length := by rw [h2]; exact (List.getElem?_eq_some_iff.mp hp).1
      exact dp_of S.ex (ra.at i x _ hx (List.getElem?_eq_getElem hi)) p (h3 i _ p (List.getElem?_eq_getElem hi) hp)
    have h : (match lview (.cel k) cs with | .pl ds => (pyA ds).map PyData.list | .mx ws => (unD ws).bind fun ds => (pyA ds).map PyData.list | .no => none) = some p := h
    split at h
    · rename_i ds hc
      obtain ⟨a, vs, rfl, hv, ra⟩ := lview_pl hc S r
      exact fin hv ra h
    · rename_i ws hc
      obtain ⟨a, vs, rfl, hv, ra⟩ := lview_mx hc S r
      obtain ⟨ds, e2, h⟩ := Option.bind_eq_some_iff.mp h
      rw [unD_ok e2] at ra
      exact fin hv (RWA.pure ra) h
    · cases h
def eqW : W → W → List Cell → (Bool → Prop) → Prop
  | .d (.int i), .d (.int j), _, Q => Q (decide (i = j))
  | .d (.str i), .d (.str j), _, Q => Q (decide (i = j))
  | .d (.bl i), .d (.bl j), _, Q => Q (decide (i = j))
  | .d .non, .d .non, _, Q => Q true
  | x, y, cs, Q => ∃ p q, pyW x cs = some p ∧ pyW y cs = some q ∧ SeqAt.shaped p = true ∧ SeqAt.shaped q = true ∧ Q (PyData.eqv p q)
def rEqG (K : PySem.W.Frag) : R2 := fun x y H Q => rEq x y H Q ∨ rEqD K x y H Q
def rNeG (K : PySem.W.Frag) : R2 := fun x y H Q => rNe x y H Q ∨ rNeD K x y H Q
theorem op_eqG {X : Cx} (hu : X.A.units + 64 < cLine) : OpR X (compareOp .Eq) (rEqG X.K) := or2 op_eq (op_eqD hu)
theorem op_neG {X : Cx} (hu : X.A.units + 64 < cLine) : OpR X (compareOp .NotEq) (rNeG X.K) := or2 op_ne (op_neD hu)
theorem eqW_ok {x y : W} {cs : List Cell} {Q : Bool → Prop} {F B H : Hp} {as : List Addr} {v u : V} (h : eqW x y cs Q) (S : Sc K F B H as cs) (rx : RW K B as v x) (ry : RW K B as u y) :
    (∃ b, scal v u = true ∧ b = decide (v = u) ∧ Q b) ∨ ∃ p q, Dp K H v p ∧ Dp K H u q ∧ SeqAt.shaped p = true ∧ SeqAt.shaped q = true ∧ Q (PyData.eqv p q) := by
  unfold eqW at h
  split at h
  · cases Rp.unI rx; cases Rp.unI ry; refine .inl ⟨_, rfl, rfl, ?_⟩; rw [dec_int]; exact h
  · cases Rp.unS rx; cases Rp.unS ry; refine .inl ⟨_, rfl, rfl, ?_⟩; rw [dec_str]; exact h
  · cases Rp.unB rx; cases Rp.unB ry; refine .inl ⟨_, rfl, rfl, ?_⟩; rw [dec_bl]; exact h
  · cases Rp.unN rx; cases Rp.unN ry; exact .inl ⟨_, rfl, rfl, h⟩
  · obtain ⟨p, q, h1, h2, h3, h4, z⟩ := h
    exact .inr ⟨p, q, pyW_ok S rx h1, pyW_ok S ry h2, h3, h4, z⟩
def eq : Op2 K where
  r := rEqG K
  w := fun x y cs Q => eqW x y cs fun b => Q (.d (.bl b)) cs
  ok := fun x y cs Q h F B H as v u S rx ry R k => by
    rcases eqW_ok h S rx ry with ⟨b, h1, rfl, q⟩ | ⟨p, q, h1, h2, h3, h4, z⟩
    · exact .inl ⟨h1, k.now S (RW.p (Rp.bl _)) q⟩
    · exact .inr ⟨p, q, h1, h2, h3, h4, k.now S (RW.p (Rp.bl _)) z⟩
def ne : Op2 K where
  r := rNeG K
  w := fun x y cs Q => eqW x y cs fun b => Q (.d (.bl (!b))) cs
  ok := fun x y cs Q h F B H as v u S rx ry R k => by
    rcases eqW_ok h S rx ry with ⟨b, h1, rfl, q⟩ | ⟨p, q, h1, h2, h3, h4, z⟩
    · exact .inl ⟨h1, k.now S (RW.p (Rp.bl _)) q⟩
    · exact .inr ⟨p, q, h1, h2, h3, h4, k.now S (RW.p (Rp.bl _)) z⟩
/-- -n -/
def neg : Op1 K where
  r := rU fun i => .int (-i)
  w := fun x cs Q => match x with
    | .d (.int i) => Q (.d (.int (-i))) cs
    | _ => False
  ok := fun x cs Q h F B H as v S rx R k => by
    split at h
    · cases Rp.unI rx; exact ⟨_, rfl, k.now S (RW.p (Rp.int _)) h⟩
    · exact h.elim
/-- xs[i] -/
def ixW : W → W → List Cell → WQ → Prop
  | .d (.str s), .d (.int i), cs, Q => s.length ≤ lineN ∧ ∃ c, atI s.cps.toList i = some c ∧ Q (.d (.str ⟨#[c]⟩)) cs
  | .d (.tup ds), .d (.int i), cs, Q => ∃ d, atI ds i = some d ∧ Q (.d d) cs
  | x, .d (.int i), cs, Q => match lview x cs with
    | .pl ds => ∃ d, atI ds i = some d ∧ Q (.d d) cs
    | .mx ws => ∃ z, atI ws i = some z ∧ Q z cs
    | .no => False
  | _, _, _, _ => False
theorem atI_all2 {α β : Type} {R : α → β → Prop} {xs : List α} {ys : List β} {i : Int} {y : β} (h : All2 R xs ys) (e : atI ys i = some y) : ∃ x, atI xs i = some x ∧ R x y := by
  unfold atI at e ⊢
  rw [h.length]
  cases q : ixN ys.length i with
  | none => rw [q] at e; cases e
  | some j =>
    rw [q] at e
    exact h.get e
def ix : Op2 K where
  r := rIx K
  w := ixW
  ok := fun x y cs Q h F B H as v u S rx ry R k => by
    unfold ixW at h
    split at h
    · obtain ⟨hl, c, hc, q⟩ := h
      cases Rp.unS rx; cases Rp.unI ry
      exact .inr (.inr ⟨_, _, c, rfl, rfl, le_line hl, hc, k.now S (RW.p (Rp.str _)) q⟩)
    · obtain ⟨d, hd, q⟩ := h
      obtain ⟨a, vs, rfl, hs, ra⟩ := Rp.unT rx
      cases Rp.unI ry
      obtain ⟨x, hx, r⟩ := atI_all2 ra hd
      exact .inr (.inl ⟨a, vs, _, x, rfl, rfl, ex_t S.ex hs, hx, k.now S (RW.p r) q⟩)
    · cases Rp.unI ry
      split at h
      · rename_i ds hw
        obtain ⟨z, hz, q⟩ := h
        obtain ⟨p, vs, rfl, hp, ra⟩ := lview_pl hw S rx
        obtain ⟨x, hx, r⟩ := atI_all2 ra hz
        exact .inl ⟨p, vs, _, x, rfl, rfl, .inl (.inl hp), hx, k.now S (RW.p r) q⟩
      · rename_i ds hw
        obtain ⟨z, hz, q⟩ := h
        obtain ⟨p, vs, rfl, hp, ra⟩ := lview_mx hw S rx
        obtain ⟨x, hx, r⟩ := atI_all2 ra hz
        exact .inl ⟨p, vs, _, x, rfl, rfl, .inl (.inl hp), hx, k.now S r q⟩
      · exact h.elim
    · exact h.elim
end O
end
end Pl

namespace Pl
open PySem PySem.Spec PyProof.Rows L2
/-! ### statements -/
def W.below (n : Nat) : W → Prop
  | .d _ => True
  | .cel k => k < n
def Cell.below (n : Nat) : Cell → Prop
  | .pl _ => True
  | .lst ws => ∀ w ∈ ws, w.below n
  | .dic kvs => ∀ w ∈ kvs, w.2.below n
  | .gone => True
/-- less is known: slots, the last of what can change -/
structure Le (Γ Γ' : Ct) : Prop where
  ls : Γ.sl.length = Γ'.sl.length
  sl : ∀ (i : Nat) (x : W), Γ'.sl[i]? = some (some x) → Γ.sl[i]? = some (some x)
  cs : ∃ g, Γ.cs = Γ'.cs ++ g
  bs : ∀ (i : Nat) (x : W), Γ'.sl[i]? = some (some x) → x.below Γ'.cs.length
  bc : ∀ c ∈ Γ'.cs, c.below Γ'.cs.length
section
variable {K : PySem.W.Frag} {F : Hp} {σ : L2.St} {B B' H H' : Hp} {as as' : List Addr} {Γ Γ' : Ct} {cs cs' : List Cell}
theorem RW.take {v : V} {x : W} {n : Nat} (h : RW K B as v x) (b : x.below n) : RW K B (as.take n) v x := by
  cases x with
  | d x => exact h
  | cel k =>
    obtain ⟨a, h1, h2⟩ := h
    exact ⟨a, by rw [List.getElem?_take_of_lt b]; exact h1, h2⟩
theorem RWA.take {vs : List V} {xs : List W} {n : Nat} (h : RWA K B as vs xs) (b : ∀ w ∈ xs, w.below n) : RWA K B (as.take n) vs xs := by
  induction h with
  | nil => exact .nil
  | cons r _ ih => exact .cons (RW.take r (b _ List.mem_cons_self)) (ih fun w hw => b w (List.mem_cons_of_mem _ hw))
theorem CellAt.take {a : Addr} {c : Cell} {n : Nat} (h : CellAt K B as H a c) (b : c.below n) : CellAt K B (as.take n) H a c := by
  cases c with
  | pl ds => exact h
  | lst ws => obtain ⟨h1, vs, h2, r⟩ := h; exact ⟨h1, vs, h2, RWA.take r b⟩
  | dic kvs =>
    obtain ⟨h1, vs, h2, r⟩ := h
    refine ⟨h1, vs, h2, ?_⟩
    clear h2
    induction r with
    | nil => exact .nil
    | cons r _ ih => exact .cons ⟨r.1, RW.take r.2 (b _ List.mem_cons_self)⟩ (ih fun w hw => b w (List.mem_cons_of_mem _ hw))
  | gone => exact h
theorem Sc.take {g : List Cell} (S : Sc K F B H as (cs ++ g)) (b : ∀ c ∈ cs, c.below cs.length) : Sc K F B H (as.take cs.length) cs := by
  have hl : as.length = cs.length + g.length := by rw [S.ln, List.length_append]
  refine ⟨S.ex, fun a o e => ?_, S.nd.sublist (List.take_sublist _ _), by rw [List.length_take]; omega, fun k a c h1 h2 => ?_⟩
  · obtain ⟨f1, f2, f3⟩ := S.fr a o e
    exact ⟨f1, f2, fun m => f3 (List.mem_of_mem_take m)⟩
  · have hk : k < cs.length := (List.getElem?_eq_some_iff.mp h2).1
    rw [List.getElem?_take_of_lt hk] at h1
    exact (S.ce k a c h1 (by rw [List.getElem?_append_left hk]; exact h2)).take (b c (List.mem_of_getElem? h2))
theorem Sta.le (S : Sta K F σ B H as Γ) (l : Le Γ Γ') : Sta K F σ B H (as.take Γ'.cs.length) Γ' := by
  obtain ⟨g, hg⟩ := l.cs
  have S' : Sc K F B H as (Γ'.cs ++ g) := by rw [← hg]; exact S.toSc
  refine ⟨S'.take l.bc, S.ls.trans l.ls, fun i x h => ?_⟩
  obtain ⟨v, h1, h2⟩ := S.sl i x (l.sl i x h)
  exact ⟨v, h1, RW.take h2 (l.bs i x h)⟩
theorem Pre.take {n : Nat} (p : Pre as as') (h : as.length ≤ n) : Pre as (as'.take n) := fun k a e => by
  rw [List.getElem?_take_of_lt (Nat.lt_of_lt_of_le (List.getElem?_eq_some_iff.mp e).1 h)]
  exact p k a e
theorem Pre.len (p : Pre as as') : as.length ≤ as'.length := by
  by_cases h : as.length = 0
  · omega
  · have h1 : as.length - 1 < as.length := by omega
    have := p (as.length - 1) _ (List.getElem?_eq_getElem h1)
    have := (List.getElem?_eq_some_iff.mp this).1
    omega
end
/-- what is wanted behind a statement -/
structure En where
  nx : Ct → Prop
  rt : W → List Cell → Prop
  bk : Ct → Prop := fun _ => False
  ct : Ct → Prop := fun _ => False
structure Adm (K : PySem.W.Frag) (F B : Hp) (as : List Addr) (D : Ends) (N : En) : Prop where
  nx : ∀ Γ' σ' B' H' as', N.nx Γ' → Sta K F σ' B' H' as' Γ' → Ex B B' → Pre as as' → D.nx σ' H'
  rt : ∀ x cs v B' H' as', N.rt x cs → Sc K F B' H' as' cs → Ex B B' → Pre as as' → RW K B' as' v x → D.rt v H'
  bk : ∀ Γ' σ' B' H' as', N.bk Γ' → Sta K F σ' B' H' as' Γ' → Ex B B' → Pre as as' → D.bk σ' H'
  ct : ∀ Γ' σ' B' H' as', N.ct Γ' → Sta K F σ' B' H' as' Γ' → Ex B B' → Pre as as' → D.ct σ' H'
def WS (K : PySem.W.Frag) (ts : TS) (Γ : Ct) (N : En) : Prop := ∀ F σ B H as, Sta K F σ B H as Γ → ∀ D : Ends, Adm K F B as D N → ts D σ H
theorem Adm.trans {K : PySem.W.Frag} {F B B' : Hp} {as as' : List Addr} {D : Ends} {N : En} (A : Adm K F B as D N) (e : Ex B B') (p : Pre as as') : Adm K F B' as' D N :=
  ⟨fun Γ σ B2 H2 as2 n S e2 p2 => A.nx Γ σ B2 H2 as2 n S (e.trans e2) (p.trans p2), fun x cs v B2 H2 as2 n S e2 p2 r => A.rt x cs v B2 H2 as2 n S (e.trans e2) (p.trans p2) r,
    fun Γ σ B2 H2 as2 n S e2 p2 => A.bk Γ σ B2 H2 as2 n S (e.trans e2) (p.trans p2), fun Γ σ B2 H2 as2 n S e2 p2 => A.ct Γ σ B2 H2 as2 n S (e.trans e2) (p.trans p2)⟩
structure St (K : PySem.W.Frag) where
  ts : TS
  w : Ct → En → Prop
  ok : ∀ Γ N, w Γ N → WS K ts Γ N
/-- where a value goes -/
structure TGt (K : PySem.W.Frag) where
  g : TG
  w : W → Ct → (Ct → Prop) → Prop
  ok : ∀ x Γ Q, w x Γ Q → ∀ F σ B H as v, Sta K F σ B H as Γ → RW K B as v x → ∀ R : L2.St → Hp → Prop, (∀ Γ' σ' B' H' as', Q Γ' → Sta K F σ' B' H' as' Γ' → Ex B B' → Pre as as' → R σ' H') → g v σ H R
structure TGs' (K : PySem.W.Frag) where
  g : TGs
  w : List W → Ct → (Ct → Prop) → Prop
  ok : ∀ xs Γ Q, w xs Γ Q → ∀ F σ B H as vs, Sta K F σ B H as Γ → RWA K B as vs xs → ∀ R : L2.St → Hp → Prop, (∀ Γ' σ' B' H' as', Q Γ' → Sta K F σ' B' H' as' Γ' → Ex B B' → Pre as as' → R σ' H') → g vs σ H R
section
variable {K : PySem.W.Frag}
namespace G
def name (i : Nat) : TGt K := ⟨gName i, fun x Γ Q => Q ⟨Γ.sl.set i (some x), Γ.cs⟩, fun x Γ Q h F σ B H as v S r R k => k _ _ B H as h (S.set r) (Ex.refl _) (Pre.refl _)⟩
def nil : TGs' K := ⟨gNil, fun xs Γ Q => match xs with
    | [] => Q Γ
    | _ :: _ => False, fun xs Γ Q h F σ B H as vs S r R k => by
  cases r with
  | nil => exact ⟨rfl, k _ _ B H as h S (Ex.refl _) (Pre.refl _)⟩
  | cons _ _ => exact h.elim⟩
def cons (t : TGt K) (u : TGs' K) : TGs' K := ⟨gCons t.g u.g, fun xs Γ Q => match xs with
    | x :: r => t.w x Γ fun Γ' => u.w r Γ' Q
    | [] => False, fun xs Γ Q h F σ B H as vs S r R k => by
  cases r with
  | nil => exact h.elim
  | @cons _ x _ xr r rr =>
    exact ⟨_, _, rfl, t.ok x Γ _ h F σ B H as _ S r _ fun Γ1 σ1 B1 H1 as1 q1 S1 e1 p1 => u.ok xr Γ1 Q q1 F σ1 B1 H1 as1 _ S1 (RWA.mono e1 p1 rr) R fun Γ2 σ2 B2 H2 as2 q2 S2 e2 p2 => k Γ2 σ2 B2 H2 as2 q2 S2 (e1.trans e2) (p1.trans p2)⟩⟩
def tup (n : Nat) (t : TGs' K) : TGt K := ⟨gTup K n t.g, fun x Γ Q => match x with
    | .d (.tup ds) => ds.length = n ∧ t.w (ds.map W.d) Γ Q
    | _ => False, fun x Γ Q h F σ B H as v S r R k => by
  split at h
  · obtain ⟨a, xs, rfl, hs, ra⟩ := Rp.unT r
    exact ⟨a, xs, rfl, ex_t S.ex hs, by rw [ra.length]; exact h.1, t.ok _ Γ Q h.2 F σ B H as xs S (RWA.impure ra) R k⟩
  · exact h.elim⟩
/-- xs[i] = .. of what can change -/
def setC (k : Nat) (j : Int) (x : W) (cs : List Cell) (Q : List Cell → Prop) : Prop := match lview (.cel k) cs with
  | .pl ds => (match x with
    | .d d => ∃ n, ixN ds.length j = some n ∧ Q (cs.set k (.pl (ds.set n d)))
    | _ => False)
  | .mx ws => ∃ n, ixN ws.length j = some n ∧ Q (cs.set k (.lst (ws.set n x)))
  | .no => False
def sub (o i : ET K) : TGt K := ⟨gSub o.te i.te rSetL, fun x Γ Q => o.w Γ fun y cs => i.w ⟨Γ.sl, cs⟩ fun z cs' => match y, z with
    | .cel k, .d (.int j) => setC k j x cs' fun cs2 => Q ⟨Γ.sl, cs2⟩
    | _, _ => False, fun x Γ Q h F σ B H as v S r R k => o.ok _ _ h F σ B H as S _ fun y cs u B1 H1 as1 q1 S1 e1 p1 r1 =>
      i.ok _ _ q1 F σ B1 H1 as1 (S.step S1 e1 p1) _ fun z cs' t B2 H2 as2 q2 S2 e2 p2 r2 => by
        cases y with
        | d _ => exact q2.elim
        | cel kk =>
          cases z with
          | cel _ => exact q2.elim
          | d z =>
            cases z with
            | int j =>
              have q2 : setC kk j x cs' fun cs2 => Q ⟨Γ.sl, cs2⟩ := q2
              unfold setC at q2
              cases Rp.unI r2
              obtain ⟨a, ha, rfl⟩ := r1
              have ha := p2 _ _ ha
              split at q2
              · rename_i ds hc
                split at q2
                · obtain ⟨n, h2, q⟩ := q2
                  obtain ⟨hB, vs, hv, ra⟩ : CellAt K B2 as2 H2 a (.pl ds) := S2.ce kk a _ ha (cellV_pl hc)
                  refine ⟨a, vs, j, n, rfl, rfl, hv, by rw [ra.length]; exact h2, ?_⟩
                  exact k _ σ B2 _ as2 q ⟨S2.setC ha hB ⟨hB, _, upd_same, ra.set (Rp.mono (e1.trans e2) r) n⟩, S.ls, fun i d h => by
                    obtain ⟨v, h1, h2⟩ := S.sl i d h
                    exact ⟨v, h1, RW.mono (e1.trans e2) (p1.trans p2) h2⟩⟩ (e1.trans e2) (p1.trans p2)
                · exact q2.elim
              · rename_i ws hc
                obtain ⟨n, h2, q⟩ := q2
                obtain ⟨hB, vs, hv, ra⟩ : CellAt K B2 as2 H2 a (.lst ws) := S2.ce kk a _ ha (cellV_mx hc)
                refine ⟨a, vs, j, n, rfl, rfl, hv, by rw [ra.length]; exact h2, ?_⟩
                exact k _ σ B2 _ as2 q ⟨S2.setC ha hB ⟨hB, _, upd_same, ra.set (RW.mono (e1.trans e2) (p1.trans p2) r) n⟩, S.ls, fun i d h => by
                  obtain ⟨v, h1, h2⟩ := S.sl i d h
                  exact ⟨v, h1, RW.mono (e1.trans e2) (p1.trans p2) h2⟩⟩ (e1.trans e2) (p1.trans p2)
              · exact q2.elim
            | _ => exact q2.elim⟩
end G
namespace S
def nil : St K := ⟨tNext, fun Γ N => N.nx Γ, fun Γ N h F σ B H as S D A => A.nx Γ σ B H as h S (Ex.refl _) (Pre.refl _)⟩
def seq (a b : St K) : St K where
  ts := tSeq a.ts b.ts
  w := fun Γ N => a.w Γ { N with nx := fun Γ' => b.w Γ' N }
  ok := fun Γ N h F σ B H as S D A => a.ok Γ _ h F σ B H as S _
    ⟨fun Γ' σ' B' H' as' n S' e p => b.ok Γ' N n F σ' B' H' as' S' D (A.trans e p), A.rt, A.bk, A.ct⟩
def asg (e : ET K) (g : TGt K) : St K where
  ts := tAsg e.te g.g
  w := fun Γ N => e.w Γ fun x cs => g.w x ⟨Γ.sl, cs⟩ N.nx
  ok := fun Γ N h F σ B H as S D A => e.ok _ _ h F σ B H as S _ fun x cs v B1 H1 as1 q1 S1 e1 p1 r1 =>
    g.ok _ _ _ q1 F σ B1 H1 as1 v (S.step S1 e1 p1) r1 _ fun Γ2 σ2 B2 H2 as2 q2 S2 e2 p2 => A.nx Γ2 σ2 B2 H2 as2 q2 S2 (e1.trans e2) (p1.trans p2)
def drop (e : ET K) : St K where
  ts := tDrop e.te
  w := fun Γ N => e.w Γ fun x cs => N.nx ⟨Γ.sl, cs⟩
  ok := fun Γ N h F σ B H as S D A => e.ok _ _ h F σ B H as S _ fun x cs v B1 H1 as1 q1 S1 e1 p1 r1 => A.nx _ σ B1 H1 as1 q1 (S.step S1 e1 p1) e1 p1
def ret (e : ET K) : St K where
  ts := tRet e.te
  w := fun Γ N => e.w Γ fun x cs => N.rt x cs
  ok := fun Γ N h F σ B H as S D A => e.ok _ _ h F σ B H as S _ fun x cs v B1 H1 as1 q1 S1 e1 p1 r1 => A.rt x cs v B1 H1 as1 q1 S1 e1 p1 r1
def ite (t : TTs K) (a b : St K) : St K where
  ts := tIfS t.tt a.ts b.ts
  w := fun Γ N => t.w Γ fun c cs => match c with
    | true => a.w ⟨Γ.sl, cs⟩ N
    | false => b.w ⟨Γ.sl, cs⟩ N
  ok := fun Γ N h F σ B H as S D A => t.ok _ _ h F σ B H as S _ fun c cs B1 H1 as1 q1 S1 e1 p1 => by
    cases c with
    | true => exact iteT (a.ok _ _ q1 F σ B1 H1 as1 (S.step S1 e1 p1) D (A.trans e1 p1))
    | false => exact iteF (b.ok _ _ q1 F σ B1 H1 as1 (S.step S1 e1 p1) D (A.trans e1 p1))
def brk : St K := ⟨tBreak, fun Γ N => N.bk Γ, fun Γ N h F σ B H as S D A => A.bk Γ σ B H as h S (Ex.refl _) (Pre.refl _)⟩
def cont : St K := ⟨tCont, fun Γ N => N.ct Γ, fun Γ N h F σ B H as S D A => A.ct Γ σ B H as h S (Ex.refl _) (Pre.refl _)⟩
/-- what is never reached -/
def never : St K := ⟨tNever, fun _ _ => False, fun _ _ h => h.elim⟩
/-- a, b = x, y -/
def par (i j : Nat) (a : AT K) : St K where
  ts := tPar i j a.ta
  w := fun Γ N => a.w Γ fun ws cs => match ws with
    | [x, y] => N.nx ⟨(Γ.sl.set i (some x)).set j (some y), cs⟩
    | _ => False
  ok := fun Γ N h F σ B H as S D A => a.ok _ _ h F σ B H as S _ fun xs cs vs B1 H1 as1 q1 S1 e1 p1 r1 => by
    dsimp only at q1
    split at q1
    · cases r1 with
      | cons r1 r2 =>
        cases r2 with
        | cons r2 r3 =>
          cases r3
          exact ⟨_, _, rfl, A.nx _ _ B1 H1 as1 q1 (((S.step S1 e1 p1).set r1).set r2) e1 p1⟩
    · exact q1.elim
def par3 (i j l : Nat) (a : AT K) : St K where
  ts := tPar3 i j l a.ta
  w := fun Γ N => a.w Γ fun ws cs => match ws with
    | [x, y, z] => N.nx ⟨((Γ.sl.set i (some x)).set j (some y)).set l (some z), cs⟩
    | _ => False
  ok := fun Γ N h F σ B H as S D A => a.ok _ _ h F σ B H as S _ fun xs cs vs B1 H1 as1 q1 S1 e1 p1 r1 => by
    dsimp only at q1
    split at q1
    · cases r1 with
      | cons r1 r2 =>
        cases r2 with
        | cons r2 r3 =>
          cases r3 with
          | cons r3 r4 =>
            cases r4
            exact ⟨_, _, _, rfl, A.nx _ _ B1 H1 as1 q1 ((((S.step S1 e1 p1).set r1).set r2).set r3) e1 p1⟩
    · exact q1.elim
/-- the state that a loop's turn is to reach: n cells at least -/
def again (n : Nat) (I : Ct → Prop) : Ct → Prop := fun Γ => ∃ Γ', Le Γ Γ' ∧ n ≤ Γ'.cs.length ∧ I Γ'
def while_ (t : TTs K) (b : St K) : St K where
  ts := tWhile t.tt b.ts
  w := fun Γ N => ∃ (I : Nat → Ct → Prop) (m0 : Nat), I m0 Γ ∧ ∀ m Γ', I m Γ' → t.w Γ' fun c cs => match c with
    | true => b.w ⟨Γ'.sl, cs⟩ { nx := again Γ.cs.length fun Γ2 => ∃ m', m' < m ∧ I m' Γ2, ct := again Γ.cs.length fun Γ2 => ∃ m', m' < m ∧ I m' Γ2, bk := N.nx, rt := N.rt }
    | false => N.nx ⟨Γ'.sl, cs⟩
  ok := fun Γ N h F σ B H as S D A => by
    obtain ⟨I, m0, h0, hs⟩ := h
    refine ⟨fun m σ' H' => ∃ Γ' B' as', I m Γ' ∧ Sta K F σ' B' H' as' Γ' ∧ Ex B B' ∧ Pre as as', ⟨m0, Γ, B, as, h0, S, Ex.refl _, Pre.refl _⟩, fun m σ' H' hw => ?_⟩
    obtain ⟨Γ', B', as', hi, S', e, p⟩ := hw
    refine t.ok _ _ (hs m Γ' hi) F σ' B' H' as' S' _ fun c cs B1 H1 as1 q1 S1 e1 p1 => ?_
    have A1 := A.trans (e.trans e1) (p.trans p1)
    have goes : ∀ Γ2 σ2 B2 H2 as2, again Γ.cs.length (fun Γ2 => ∃ m', m' < m ∧ I m' Γ2) Γ2 → Sta K F σ2 B2 H2 as2 Γ2 → Ex B1 B2 → Pre as1 as2 →
        ∃ m', m' < m ∧ ∃ Γ' B' as', I m' Γ' ∧ Sta K F σ2 B' H2 as' Γ' ∧ Ex B B' ∧ Pre as as' := fun Γ2 σ2 B2 H2 as2 n S2 e2 p2 => by
      obtain ⟨Γ3, l, hn, m', hm, hi'⟩ := n
      exact ⟨m', hm, Γ3, B2, _, hi', S2.le l, (e.trans e1).trans e2, ((p.trans p1).trans p2).take (by rw [S.ln]; exact hn)⟩
    cases c with
    | true =>
      refine iteT ⟨fun σ2 H2 => ∃ m', m' < m ∧ ∃ Γ' B' as', I m' Γ' ∧ Sta K F σ2 B' H2 as' Γ' ∧ Ex B B' ∧ Pre as as', fun σ2 H2 z => z, b.ok _ _ q1 F σ' B1 H1 as1 (S'.step S1 e1 p1) _ ⟨goes, A1.rt, A1.nx, goes⟩⟩
    | false => exact iteF (A1.nx _ σ' B1 H1 as1 q1 (S'.step S1 e1 p1) (Ex.refl _) (Pre.refl _))
end S
end
/-- J walks these items while B0 stands -/
structure Walks (K : PySem.W.Frag) (J : It) (items : List D) (B0 : Hp) (as0 : List Addr) : Prop where
  go : ∀ i H, Ex B0 H → i < items.length → J.go i H
  st : ∀ i H, Ex B0 H → items.length ≤ i → J.stop i H
  yl : ∀ i x v H' F B H as cs, items[i]? = some x → J.yld i H v H' → Ex B0 B → Pre as0 as → Sc K F B H as cs → ∃ B', Sc K F B' H' as cs ∧ Ex B B' ∧ Rp K B' v x
structure IT (K : PySem.W.Frag) where
  wi : TI
  w : Ct → (List D → List Cell → Prop) → Prop
  ok : ∀ Γ Q, w Γ Q → ∀ F σ B H as, Sta K F σ B H as Γ → ∀ R : It → Hp → Prop, (∀ items cs J B' H' as', Q items cs → Sc K F B' H' as' cs → Ex B B' → Pre as as' → Walks K J items B' as' → R J H') → wi σ H R
section
variable {K : PySem.W.Frag}
namespace S
def for_ (it : IT K) (g : TGt K) (b : St K) : St K where
  ts := tFor it.wi g.g b.ts
  w := fun Γ N => it.w Γ fun items cs => ∃ I : Nat → Ct → Prop, I 0 ⟨Γ.sl, cs⟩ ∧ (∀ i x Γ', items[i]? = some x → I i Γ' → g.w (.d x) Γ' fun Γ2 => b.w Γ2 { nx := again cs.length (I (i + 1)), ct := again cs.length (I (i + 1)), bk := N.nx, rt := N.rt }) ∧ ∀ Γ', I items.length Γ' → N.nx Γ'
  ok := fun Γ N h F σ B H as S D A => it.ok Γ _ h F σ B H as S _ fun items cs J B1 H1 as1 q1 S1 e1 p1 wk => by
    obtain ⟨I, h0, hs, hd⟩ := q1
    refine ⟨fun i m σ' H' => m = items.length - i ∧ i ≤ items.length ∧ ∃ Γ' B' as', I i Γ' ∧ Sta K F σ' B' H' as' Γ' ∧ Ex B1 B' ∧ Pre as1 as', ⟨_, rfl, Nat.zero_le _, _, B1, as1, h0, S.step S1 e1 p1, Ex.refl _, Pre.refl _⟩, fun i m σ' H' hw => ?_⟩
    obtain ⟨rfl, hi, Γ', B', as', hI, S', e, p⟩ := hw
    have A1 := A.trans (e1.trans e) (p1.trans p)
    by_cases hlt : i < items.length
    · refine .inr ⟨wk.go i H' (e.trans S'.ex) hlt, fun σ2 H2 => ∃ Γ' B' as', I (i + 1) Γ' ∧ Sta K F σ2 B' H2 as' Γ' ∧ Ex B1 B' ∧ Pre as1 as', fun σ2 H2 z => ⟨items.length - (i + 1), by omega, rfl, hlt, z⟩, fun v H2 hy => ?_⟩
      obtain ⟨B2, S2, e2, r2⟩ := wk.yl i items[i] v H2 F B' H' as' Γ'.cs (List.getElem?_eq_getElem hlt) hy e p S'.toSc
      have S2' := S'.step S2 e2 (Pre.refl _)
      refine g.ok _ _ _ (hs i _ Γ' (List.getElem?_eq_getElem hlt) hI) F σ' B2 H2 as' v S2' (RW.p r2) _ fun Γ3 σ3 B3 H3 as3 q3 S3 e3 p3 => ?_
      have goes : ∀ Γ4 σ4 B4 H4 as4, again cs.length (I (i + 1)) Γ4 → Sta K F σ4 B4 H4 as4 Γ4 → Ex B3 B4 → Pre as3 as4 → ∃ Γ' B' as', I (i + 1) Γ' ∧ Sta K F σ4 B' H4 as' Γ' ∧ Ex B1 B' ∧ Pre as1 as' := fun Γ4 σ4 B4 H4 as4 n S4 e4 p4 => by
        obtain ⟨Γ5, l, hn, hI5⟩ := n
        exact ⟨Γ5, B4, _, hI5, S4.le l, ((e.trans e2).trans e3).trans e4, ((p.trans p3).trans p4).take (by rw [S1.ln]; exact hn)⟩
      have A3 := A1.trans (e2.trans e3) p3
      exact b.ok _ _ q3 F σ3 B3 H3 as3 S3 _ ⟨goes, A3.rt, A3.nx, goes⟩
    · have ei : i = items.length := by omega
      subst ei
      exact .inl ⟨wk.st _ H' (e.trans S'.ex) (Nat.le_refl _), A1.nx Γ' σ' B' H' as' (hd Γ' hI) S' (Ex.refl _) (Pre.refl _)⟩
end S
/-! ### comprehensions -/
def wipeS (sl : List (Option W)) : List Nat → List (Option W)
  | [] => sl
  | v :: vs => (wipeS sl vs).set v none
theorem wipe_get {σ : L2.St} {i : Nat} : ∀ {vs : List Nat}, (wipe σ vs)[i]? = if i ∈ vs then (if i < σ.length then some none else none) else σ[i]?
  | [] => by simp [wipe]
  | v :: vs => by
    unfold wipe
    by_cases h : v = i
    · subst h
      rw [if_pos List.mem_cons_self]
      by_cases hl : v < σ.length
      · rw [List.getElem?_set_self (by rw [wipe_length]; exact hl), if_pos hl]
      · rw [if_neg hl, List.getElem?_eq_none (by rw [List.length_set, wipe_length]; omega)]
    · rw [List.getElem?_set_ne h, wipe_get]
      have : (i ∈ v :: vs) ↔ i ∈ vs := by simp [Ne.symm h]
      by_cases hm : i ∈ vs
      · rw [if_pos hm, if_pos (this.mpr hm)]
      · rw [if_neg hm, if_neg (fun z => hm (this.mp z))]
theorem wipeS_len {sl : List (Option W)} : ∀ {vs : List Nat}, (wipeS sl vs).length = sl.length
  | [] => rfl
  | v :: vs => by unfold wipeS; rw [List.length_set, wipeS_len]
theorem wipeS_get {sl : List (Option W)} {i : Nat} {x : W} : ∀ {vs : List Nat}, (wipeS sl vs)[i]? = some (some x) → sl[i]? = some (some x) ∧ i ∉ vs
  | [], h => ⟨h, by simp⟩
  | v :: vs, h => by
    unfold wipeS at h
    by_cases hi : v = i
    · subst hi
      by_cases hv : v < (wipeS sl vs).length
      · rw [List.getElem?_set_self hv] at h; cases h
      · rw [List.getElem?_eq_none (by simpa using hv)] at h; cases h
    · rw [List.getElem?_set_ne hi] at h
      obtain ⟨h1, h2⟩ := wipeS_get h
      exact ⟨h1, by simp only [List.mem_cons, not_or]; exact ⟨fun e => hi e.symm, h2⟩⟩
theorem Sta.wipe {F B H : Hp} {σ : L2.St} {as : List Addr} {Γ : Ct} (S : Sta K F σ B H as Γ) (vs : List Nat) : Sta K F (L2.wipe σ vs) B H as ⟨wipeS Γ.sl vs, Γ.cs⟩ :=
  ⟨S.toSc, by rw [wipe_length]; show _ = (wipeS Γ.sl vs).length; rw [wipeS_len, S.ls], fun i x h => by
    obtain ⟨h1, h2⟩ := wipeS_get h
    obtain ⟨v, h3, h4⟩ := S.sl i x h1
    exact ⟨v, by rw [wipe_get, if_neg h2]; exact h3, h4⟩⟩
/-- a target that stores to these slots alone -/
structure TGi (K : PySem.W.Frag) (vs : List Nat) extends TGt K where
  mono : ∀ v σ H (R R' : L2.St → Hp → Prop), (∀ σ' H', R σ' H' → R' σ' H') → g v σ H R → g v σ H R'
  only : ∀ v σ H R, g v σ H R → g v σ H fun σ' H' => R σ' H' ∧ σ'.length = σ.length ∧ ∀ i, i ∉ vs → σ'[i]? = σ[i]?
structure TGsi (K : PySem.W.Frag) (vs : List Nat) extends TGs' K where
  only : ∀ us σ H R, g us σ H R → g us σ H fun σ' H' => R σ' H' ∧ σ'.length = σ.length ∧ ∀ i, i ∉ vs → σ'[i]? = σ[i]?
  mono : ∀ v σ H (R R' : L2.St → Hp → Prop), (∀ σ' H', R σ' H' → R' σ' H') → g v σ H R → g v σ H R'
namespace Gi
def name {vs : List Nat} (i : Nat) (h : i ∈ vs) : TGi K vs := { G.name i with
  mono := fun v σ H R R' k r => k _ _ r
  only := fun v σ H R r => ⟨r, by simp, fun j hj => by
    have : i ≠ j := by rintro rfl; exact hj h
    rw [List.getElem?_set_ne this]⟩ }
def nil {vs : List Nat} : TGsi K vs := { G.nil with
  only := fun us σ H R r => ⟨r.1, r.2, rfl, fun _ _ => rfl⟩
  mono := fun v σ H R R' k r => ⟨r.1, k _ _ r.2⟩ }
def cons {vs : List Nat} (t : TGi K vs) (u : TGsi K vs) : TGsi K vs := { G.cons t.toTGt u.toTGs' with
  only := fun us σ H R r => by
    obtain ⟨v, rr, e, r⟩ := r
    refine ⟨v, rr, e, ?_⟩
    refine t.mono v σ H _ _ (fun σ' H' h => ?_) (t.only v σ H _ r)
    obtain ⟨h1, h2, h3⟩ := h
    refine u.mono rr σ' H' _ _ (fun σ2 H2 z => ⟨z.1, z.2.1.trans h2, fun i hi => (z.2.2 i hi).trans (h3 i hi)⟩) (u.only rr σ' H' _ h1)
  mono := fun us σ H R R' k r => by
    obtain ⟨v, rr, e, r⟩ := r
    exact ⟨v, rr, e, t.mono v σ H _ _ (fun σ' H' h => u.mono rr σ' H' _ _ k h) r⟩ }
def tup {vs : List Nat} (n : Nat) (t : TGsi K vs) : TGi K vs := { G.tup n t.toTGs' with
  only := fun v σ H R r => by
    obtain ⟨a, xs, e, h1, h2, r⟩ := r
    exact ⟨a, xs, e, h1, h2, t.only xs σ H R r⟩
  mono := fun v σ H R R' k r => by
    obtain ⟨a, xs, e, h1, h2, r⟩ := r
    exact ⟨a, xs, e, h1, h2, t.mono xs σ H R R' k r⟩ }
end Gi
theorem wipe_only {σ σ' : L2.St} {vs : List Nat} (hl : σ'.length = σ.length) (h : ∀ i, i ∉ vs → σ'[i]? = (L2.wipe σ vs)[i]?) : L2.wipe σ' vs = L2.wipe σ vs := by
  refine List.ext_getElem? fun i => ?_
  rw [wipe_get, wipe_get]
  by_cases hi : i ∈ vs
  · rw [if_pos hi, if_pos hi, hl]
  · rw [if_neg hi, if_neg hi, h i hi, wipe_get, if_neg hi]
namespace E
/-- what a list made item by item asks -/
@[irreducible] def lcW (vs : List Nat) (g : TGi K vs) (t : TTs K) (e_1 : ET K) (sl : List (Option W)) (Q : WQ) (items : List D) (cs : List Cell) : Prop :=
  ∃ I : Nat → List D → List Cell → Prop, I 0 [] cs ∧
    (∀ i x acc cs', items[i]? = some x → I i acc cs' → g.w (.d x) ⟨wipeS sl vs, cs'⟩ fun Γ2 => t.w Γ2 fun b cs2 => match b with
      | true => e_1.w ⟨Γ2.sl, cs2⟩ fun y cs3 => match y with
        | .d z => acc.length < lineN ∧ I (i + 1) (acc ++ [z]) cs3
        | .cel _ => False
      | false => I (i + 1) acc cs2) ∧
    ∀ acc cs', I items.length acc cs' → Q (.d (.lst acc)) cs'
/-- [e for g in it if t] -/
def lc (vs : List Nat) (it : IT K) (g : TGi K vs) (t : TTs K) (e_1 : ET K) : ET K where
  te := tLc it.wi g.g t.tt e_1.te vs
  w := fun Γ Q => it.w Γ (lcW vs g t e_1 Γ.sl Q)
  ok := fun Γ Q h F σ B H as S R k => it.ok Γ _ h F σ B H as S _ fun items cs J B1 H1 as1 q1 S1 e1 p1 wk => by
    unfold lcW at q1
    obtain ⟨I, h0, hs, hd⟩ := q1
    intro Dl hD
    -- the new list stands apart: F with it
    let Fo : List V → Hp := fun vs => upd F Dl (.lst vs)
    have hF0 : F Dl = none := by
      cases q : F Dl with
      | none => rfl
      | some o => have := (S1.fr Dl o q).1; rw [hD] at this; cases this
    have hB0 : B1 Dl = none := S1.ex.back hD
    have hA0 : Dl ∉ as1 := fun m => by
      obtain ⟨o, ho⟩ := S1.mem m
      rw [hD] at ho; cases ho
    -- what stands while the list is made
    have into : ∀ {vs : List V} {F B H as cs} (S : Sc K F B H as cs), H Dl = none → Sc K (upd F Dl (.lst vs)) B (upd H Dl (.lst vs)) as cs := fun {vs F B H as cs} S h => by
      have hB : B Dl = none := S.ex.back h
      have hA : Dl ∉ as := fun m => by
        obtain ⟨o, ho⟩ := S.mem m
        rw [h] at ho; cases ho
      refine ⟨S.ex.trans (Ex.new h), fun a o e => ?_, S.nd, S.ln, fun j a c ha hc => ?_⟩
      · by_cases q : a = Dl
        · subst q; rw [upd_same] at e; cases e; exact ⟨upd_same, hB, hA⟩
        · rw [upd_ne q] at e
          obtain ⟨f1, f2, f3⟩ := S.fr a o e
          exact ⟨by rw [upd_ne q]; exact f1, f2, f3⟩
      · have c2 := S.ce j a c ha hc
        have q : a ≠ Dl := by rintro rfl; exact hA (List.mem_of_getElem? ha)
        exact c2.mono (Ex.refl _) id (Pre.refl _) fun o e => by rw [upd_ne q]; exact e
    have turn : ∀ {vs vs' : List V} {B H as cs} (S : Sc K (upd F Dl (.lst vs)) B H as cs), Sc K (upd F Dl (.lst vs')) B (upd H Dl (.lst vs')) as cs := fun {vs vs' B H as cs} S => by
      obtain ⟨d1, d2, d3⟩ := S.fr Dl (.lst vs) upd_same
      refine ⟨S.ex.mut d2, fun a o e => ?_, S.nd, S.ln, fun j a c ha hc => ?_⟩
      · by_cases q : a = Dl
        · subst q; rw [upd_same] at e; cases e; exact ⟨upd_same, d2, d3⟩
        · rw [upd_ne q] at e
          obtain ⟨f1, f2, f3⟩ := S.fr a o (by rw [upd_ne q]; exact e)
          exact ⟨by rw [upd_ne q]; exact f1, f2, f3⟩
      · have c2 := S.ce j a c ha hc
        have q : a ≠ Dl := by rintro rfl; exact d3 (List.mem_of_getElem? ha)
        exact c2.mono (Ex.refl _) id (Pre.refl _) fun o e => by rw [upd_ne q]; exact e
    have out : ∀ {vs : List V} {B H as cs} (S : Sc K (upd F Dl (.lst vs)) B H as cs), Sc K F (upd B Dl (.lst vs)) H as cs := fun {vs B H as cs} S => by
      obtain ⟨d1, d2, d3⟩ := S.fr Dl (.lst vs) upd_same
      refine ⟨fun a o e => ?_, fun a o e => ?_, S.nd, S.ln, fun j a c ha hc => ?_⟩
      · by_cases q : a = Dl
        · subst q; rw [upd_same] at e; cases e; exact d1
        · rw [upd_ne q] at e; exact S.ex _ _ e
      · have q : a ≠ Dl := by rintro rfl; rw [hF0] at e; cases e
        obtain ⟨f1, f2, f3⟩ := S.fr a o (by rw [upd_ne q]; exact e)
        exact ⟨f1, by rw [upd_ne q]; exact f2, f3⟩
      · have c2 := S.ce j a c ha hc
        have q : a ≠ Dl := by rintro rfl; exact d3 (List.mem_of_getElem? ha)
        exact c2.mono (Ex.new d2) (fun z => by rw [upd_ne q]; exact z) (Pre.refl _) fun o e => e
    refine ⟨fun i m H' => m = items.length - i ∧ i ≤ items.length ∧ ∃ acc cs' vs B' as', I i acc cs' ∧ Sc K (Fo vs) B' H' as' cs' ∧ Ex B1 B' ∧ Pre as1 as' ∧ RpA K B' vs acc, ⟨_, rfl, Nat.zero_le _, [], cs, [], B1, as1, h0, into S1 hD, Ex.refl _, Pre.refl _, .nil⟩, fun i m H' hw => ?_⟩
    obtain ⟨rfl, hi, acc, cs', vs', B', as', hI, S', e, p, ra⟩ := hw
    by_cases hlt : i < items.length
    · refine .inr ⟨wk.go i H' (e.trans S'.ex) hlt, fun H2 => ∃ acc cs' vs B' as', I (i + 1) acc cs' ∧ Sc K (Fo vs) B' H2 as' cs' ∧ Ex B1 B' ∧ Pre as1 as' ∧ RpA K B' vs acc, fun H2 z => ⟨items.length - (i + 1), by omega, rfl, hlt, z⟩, fun v H2 hy => ?_⟩
      obtain ⟨B2, S2, e2, r2⟩ := wk.yl i items[i] v H2 _ B' H' as' cs' (List.getElem?_eq_getElem hlt) hy e p S'
      have Sw : Sta K (Fo vs') (L2.wipe σ vs) B2 H2 as' ⟨wipeS Γ.sl vs, cs'⟩ := (Sta.wipe (Γ := ⟨Γ.sl, cs'⟩) ⟨S2, S.ls, fun j x hx => by
        obtain ⟨u, h3, h4⟩ := S.sl j x hx
        exact ⟨u, h3, RW.mono ((e1.trans e).trans e2) (p1.trans p) h4⟩⟩ vs)
      have step := g.ok _ _ _ (hs i _ acc cs' (List.getElem?_eq_getElem hlt) hI) (Fo vs') _ B2 H2 as' v Sw (RW.p r2) (fun σ3 H3 => t.tt σ3 H3 fun b H4 => if b = true then e_1.te σ3 H4 fun y H5 => ∃ a, H5 Dl = some (.lst a) ∧ a.length < sizeLine ∧ (∃ acc cs' vs B' as', I (i + 1) acc cs' ∧ Sc K (Fo vs) B' (upd H5 Dl (.lst (a ++ [y]))) as' cs' ∧ Ex B1 B' ∧ Pre as1 as' ∧ RpA K B' vs acc) else (∃ acc cs' vs B' as', I (i + 1) acc cs' ∧ Sc K (Fo vs) B' H4 as' cs' ∧ Ex B1 B' ∧ Pre as1 as' ∧ RpA K B' vs acc)) (fun Γ3 σ3 B3 H3 as3 q3 S3 e3 p3 => t.ok Γ3 _ q3 (Fo vs') σ3 B3 H3 as3 S3 _ fun b cs4 B4 H4 as4 q4 S4 e4 p4 => by
        have e14 : Ex B' B4 := (e2.trans e3).trans e4
        have p14 : Pre as' as4 := p3.trans p4
        cases b with
        | false => exact iteF ⟨acc, cs4, vs', B4, as4, q4, S4, e.trans e14, p.trans p14, RpA.mono e14 ra⟩
        | true =>
          refine iteT (e_1.ok _ _ q4 (Fo vs') σ3 B4 H4 as4 (S3.step S4 e4 p4) _ fun y cs5 u B5 H5 as5 q5 S5 e5 p5 r5 => ?_)
          cases y with
          | cel _ => exact q5.elim
          | d z =>
            obtain ⟨q5a, q5b⟩ := q5
            exact ⟨vs', (S5.fr Dl _ upd_same).1, lt_line (by rw [ra.length]; exact q5a), acc ++ [z], cs5, vs' ++ [u], B5, as5, q5b, turn S5, e.trans (e14.trans e5), p.trans (p14.trans p5), (RpA.mono (e14.trans e5) ra).append (.cons r5 .nil)⟩)
      exact g.mono v _ _ _ _ (fun σ' H' h => ⟨wipe_only (h.2.1.trans (wipe_length _ _)) h.2.2, h.1⟩) (g.only v _ _ _ step)
    · have ei : i = items.length := by omega
      subst ei
      have q := hd acc cs' hI
      have S4 := out S'
      have hB4 : B' Dl = none := (S'.fr Dl _ upd_same).2.1
      refine .inl ⟨wk.st _ H' (e.trans S'.ex) (Nat.le_refl _), k _ cs' _ _ H' as' q S4 ((e1.trans e).trans (Ex.new hB4)) (p1.trans p) (RW.p (Rp.mkL upd_same (ra.mono (Ex.new hB4))))⟩
end E
end
end Pl

namespace Pl
open PySem PySem.Spec PyProof.Rows L2
section
variable {K : PySem.W.Frag}
/-! ### what is walked -/
theorem getMap {α β : Type} {f : α → β} {l : List α} {i : Nat} {y : β} (h : (l.map f)[i]? = some y) : ∃ x, l[i]? = some x ∧ f x = y := by
  rw [List.getElem?_map] at h
  exact Option.map_eq_some_iff.mp h
theorem vals1R {xs : List V} {x : W} {B : Hp} {as : List Addr} (h : RWA K B as xs [x]) : ∃ v, xs = [v] ∧ RW K B as v x := by
  cases h with
  | cons r t => cases t; exact ⟨_, rfl, r⟩
theorem vals2R {xs : List V} {x y : W} {B : Hp} {as : List Addr} (h : RWA K B as xs [x, y]) : ∃ v u, xs = [v, u] ∧ RW K B as v x ∧ RW K B as u y := by
  cases h with
  | cons r t => obtain ⟨u, rfl, r2⟩ := vals1R t; exact ⟨_, _, rfl, r, r2⟩
theorem walksL {a : Addr} {xs : List V} {ds : List D} {B : Hp} {as : List Addr} (h : B a = some (.lst xs)) (r : RpA K B xs ds) : Walks K (Itl K a) ds B as where
  go := fun i H e hi => by
    rw [← r.length] at hi
    exact ⟨xs, xs[i], .inl (.inl (e _ _ h)), List.getElem?_eq_getElem hi⟩
  st := fun i H e hi => ⟨xs, .inl (.inl (e _ _ h)), by rw [← r.length] at hi; exact hi⟩
  yl := fun i x v H' F B' H as' cs hx hy e p S => by
    obtain ⟨rfl, hy⟩ := hy
    have hv := hy xs (.inl (.inl (S.ex _ _ (e _ _ h))))
    exact ⟨B', S, Ex.refl _, (r.at i v x hv hx).mono e⟩
theorem walksT {a : Addr} {xs : List V} {ds : List D} {B : Hp} {as : List Addr} (h : SqT K B a xs) (r : RpA K B xs ds) : Walks K (Itt K a) ds B as where
  go := fun i H e hi => by
    rw [← r.length] at hi
    exact ⟨xs, xs[i], ex_t e h, List.getElem?_eq_getElem hi⟩
  st := fun i H e hi => ⟨xs, ex_t e h, by rw [← r.length] at hi; exact hi⟩
  yl := fun i x v H' F B' H as' cs hx hy e p S => by
    obtain ⟨rfl, hy⟩ := hy
    have hv := hy xs (ex_t (e.trans S.ex) h)
    exact ⟨B', S, Ex.refl _, (r.at i v x hv hx).mono e⟩
def strD (c : Nat) : D := .str ⟨#[c]⟩
def rngD (lo : Int) (n : Nat) : List D := (List.range n).map fun i => .int (lo + (i : Nat))
namespace I
def list (e : ET K) : IT K where
  wi := iList K e.te
  w := fun Γ Q => e.w Γ fun x cs => match x with
    | .d (.lst ds) => Q ds cs
    | _ => False
  ok := fun Γ Q h F σ B H as S R k => e.ok _ _ h F σ B H as S _ fun x cs v B1 H1 as1 q1 S1 e1 p1 r1 => by
    dsimp only at q1
    split at q1
    · obtain ⟨a, xs, rfl, hs, ra⟩ := Rp.unL r1
      exact ⟨a, rfl, ⟨xs, .inl (.inl (S1.ex _ _ hs))⟩, k _ cs _ B1 H1 as1 q1 S1 e1 p1 (walksL hs ra)⟩
    · exact q1.elim
def tup (e : ET K) : IT K where
  wi := iTup K e.te
  w := fun Γ Q => e.w Γ fun x cs => match x with
    | .d (.tup ds) => Q ds cs
    | _ => False
  ok := fun Γ Q h F σ B H as S R k => e.ok _ _ h F σ B H as S _ fun x cs v B1 H1 as1 q1 S1 e1 p1 r1 => by
    dsimp only at q1
    split at q1
    · obtain ⟨a, xs, rfl, hs, ra⟩ := Rp.unT r1
      exact ⟨a, rfl, ⟨xs, ex_t S1.ex hs⟩, k _ cs _ B1 H1 as1 q1 S1 e1 p1 (walksT hs ra)⟩
    · exact q1.elim
def str (e : ET K) : IT K where
  wi := iStr e.te
  w := fun Γ Q => e.w Γ fun x cs => match x with
    | .d (.str s) => Q (s.cps.toList.map strD) cs
    | _ => False
  ok := fun Γ Q h F σ B H as S R k => e.ok _ _ h F σ B H as S _ fun x cs v B1 H1 as1 q1 S1 e1 p1 r1 => by
    cases x with
    | cel _ => exact q1.elim
    | d x =>
    cases x with
    | non => exact q1.elim
    | bl _ => exact q1.elim
    | int _ => exact q1.elim
    | lst _ => exact q1.elim
    | tup _ => exact q1.elim
    | dic _ => exact q1.elim
    | raw _ => exact q1.elim
    | scr _ => exact q1.elim
    | str s =>
    cases Rp.unS r1
    refine ⟨s, rfl, k _ cs _ B1 H1 as1 q1 S1 e1 p1 ⟨fun i H e hi => ?_, fun i H e hi => ?_, fun i x v H' F B' H as' cs hx hy e p S => ?_⟩⟩
    · show i < s.cps.size
      simpa using hi
    · show s.cps.size ≤ i
      simpa using hi
    · obtain ⟨c, hc, rfl⟩ := getMap hx
      obtain ⟨rfl, c', hc', rfl⟩ := hy
      have : c' = c := by
        rw [Array.getElem?_toList, hc'] at hc
        exact Option.some.inj hc
      subst this
      exact ⟨B', S, Ex.refl _, Rp.str _⟩
theorem walksR {lo : Int} {n : Nat} {B : Hp} {as : List Addr} : Walks K (Itr lo n) (rngD lo n) B as where
  go := fun i H e hi => by
    have : i < n := by simpa [rngD] using hi
    exact this
  st := fun i H e hi => by
    have : n ≤ i := by simpa [rngD] using hi
    exact this
  yl := fun i x v H' F B' H as' cs hx hy e p S => by
    obtain ⟨j, hj, rfl⟩ := getMap hx
    obtain ⟨rfl, rfl⟩ := hy
    have : j = i := by
      have h := (List.getElem?_eq_some_iff.mp hj)
      obtain ⟨_, h⟩ := h
      simpa using h.symm
    subst this
    exact ⟨B', S, Ex.refl _, Rp.int _⟩
def range1 (a : AT K) : IT K where
  wi := iRng1 a.ta
  w := fun Γ Q => a.w Γ fun ws cs => match ws with
    | [.d (.int j)] => (-(2 ^ 62) ≤ j ∧ j < 2 ^ 62) ∧ Q (rngD 0 j.toNat) cs
    | _ => False
  ok := fun Γ Q h F σ B H as S R k => a.ok _ _ h F σ B H as S _ fun xs cs vs B1 H1 as1 q1 S1 e1 p1 r1 => by
    dsimp only at q1
    split at q1
    · obtain ⟨⟨h1, h2⟩, q⟩ := q1
      obtain ⟨v, rfl, r⟩ := vals1R r1
      cases Rp.unI r
      exact ⟨_, rfl, h1, h2, k _ cs _ B1 H1 as1 q S1 e1 p1 walksR⟩
    · exact q1.elim
def range2 (a : AT K) : IT K where
  wi := iRng2 a.ta
  w := fun Γ Q => a.w Γ fun ws cs => match ws with
    | [.d (.int i), .d (.int j)] => (-(2 ^ 62) ≤ i ∧ i < 2 ^ 62 ∧ -(2 ^ 62) ≤ j ∧ j < 2 ^ 62) ∧ Q (rngD i (j - i).toNat) cs
    | _ => False
  ok := fun Γ Q h F σ B H as S R k => a.ok _ _ h F σ B H as S _ fun xs cs vs B1 H1 as1 q1 S1 e1 p1 r1 => by
    dsimp only at q1
    split at q1
    · obtain ⟨hb, q⟩ := q1
      obtain ⟨v, u, rfl, r, r2⟩ := vals2R r1
      cases Rp.unI r
      cases Rp.unI r2
      exact ⟨_, _, rfl, hb, k _ cs _ B1 H1 as1 q S1 e1 p1 walksR⟩
    · exact q1.elim
def zipD (ds es : List D) : List D := (ds.zip es).map fun p => .tup [p.1, p.2]
theorem walksZ {a b : Addr} {xs ys : List V} {ds es : List D} {B : Hp} {as : List Addr} (h : B a = some (.lst xs)) (r : RpA K B xs ds) (h' : B b = some (.lst ys)) (r' : RpA K B ys es) : Walks K (Itz K a b) (zipD ds es) B as where
  go := fun i H e hi => by
    have hi : i < ds.length ∧ i < es.length := by
      simp [zipD] at hi; omega
    rw [← r.length, ← r'.length] at hi
    exact ⟨xs, ys, xs[i]'hi.1, ys[i]'hi.2, .inl (.inl (e _ _ h)), .inl (.inl (e _ _ h')), List.getElem?_eq_getElem hi.1, List.getElem?_eq_getElem hi.2⟩
  st := fun i H e hi => by
    have hi : ds.length ≤ i ∨ es.length ≤ i := by
      simp [zipD] at hi; omega
    rw [← r.length, ← r'.length] at hi
    exact ⟨xs, ys, .inl (.inl (e _ _ h)), .inl (.inl (e _ _ h')), hi⟩
  yl := fun i x v H' F B' H as' cs hx hy e p S => by
    obtain ⟨⟨d1, d2⟩, hz, rfl⟩ := getMap hx
    obtain ⟨T, x1, x2, rfl, hT, rfl, h1, h2⟩ := hy
    obtain ⟨g1, g2⟩ : ds[i]? = some d1 ∧ es[i]? = some d2 := by
      rw [List.getElem?_zip_eq_some] at hz
      exact hz
    have v1 := h1 xs (.inl (.inl (S.ex _ _ (e _ _ h))))
    have v2 := h2 ys (.inl (.inl (S.ex _ _ (e _ _ h'))))
    have hB : B' T = none := S.ex.back hT
    have eB : Ex B' (upd B' T (.tup [x1, x2])) := Ex.new hB
    exact ⟨_, S.newB hT, eB, Rp.mkT (.inl (.inl upd_same)) (.cons ((r.at i _ _ v1 g1).mono (e.trans eB)) (.cons ((r'.at i _ _ v2 g2).mono (e.trans eB)) .nil))⟩
def enumD (ds : List D) : List D := ds.mapIdx fun i d => .tup [.int (i : Nat), d]
def enum (a : AT K) : IT K where
  wi := iEnum K a.ta
  w := fun Γ Q => a.w Γ fun ws cs => match ws with
    | [.d (.lst ds)] => Q (enumD ds) cs
    | _ => False
  ok := fun Γ Q h F σ B H as S R k => a.ok _ _ h F σ B H as S _ fun xs cs vs B1 H1 as1 q1 S1 e1 p1 r1 => by
    dsimp only at q1
    split at q1
    case h_2 => exact q1.elim
    case h_1 ds =>
      obtain ⟨v, rfl, r⟩ := vals1R r1
      obtain ⟨a, xs, rfl, hs, ra⟩ := Rp.unL r
      refine ⟨a, xs, rfl, .inl (.inl (S1.ex _ _ hs)), k _ cs _ B1 H1 as1 q1 S1 e1 p1 ⟨fun i H e hi => ?_, fun i H e hi => ?_, fun i x v H' F B' H as' cs hx hy e p S => ?_⟩⟩
      · have hi : i < ds.length := by simpa [enumD] using hi
        rw [← ra.length] at hi
        exact ⟨xs, xs[i], .inl (.inl (e _ _ hs)), List.getElem?_eq_getElem hi⟩
      · have hi : ds.length ≤ i := by simpa [enumD] using hi
        rw [← ra.length] at hi
        exact ⟨xs, .inl (.inl (e _ _ hs)), hi⟩
      · have hd := hx
        obtain ⟨T, x1, rfl, hT, rfl, h1⟩ := hy
        unfold enumD at hd
        rw [List.getElem?_mapIdx] at hd
        obtain ⟨d1, hd1, rfl⟩ := Option.map_eq_some_iff.mp hd
        have v1 := h1 xs (.inl (.inl (S.ex _ _ (e _ _ hs))))
        have hB : B' T = none := S.ex.back hT
        have eB : Ex B' (upd B' T (.tup [.int (i : Nat), x1])) := Ex.new hB
        exact ⟨_, S.newB hT, eB, Rp.mkT (.inl (.inl upd_same)) (.cons (Rp.int _) (.cons ((ra.at i _ _ v1 hd1).mono (e.trans eB)) .nil))⟩
end I
/-! ### built-in functions -/
def asInts : List D → Option (List Int)
  | [] => some []
  | .int i :: r => (asInts r).map (i :: ·)
  | _ => none
theorem asInts_map (ns : List Int) : asInts (ns.map .int) = some ns := by
  induction ns with
  | nil => rfl
  | cons n ns ih => simp [asInts, ih]
theorem asInts_ok : ∀ {ds : List D} {ns : List Int}, asInts ds = some ns → ds = ns.map .int
  | [], _, h => by cases h; rfl
  | .int i :: r, ns, h => by
    obtain ⟨ms, h1, rfl⟩ := Option.map_eq_some_iff.mp (show (asInts r).map (i :: ·) = some ns from h)
    rw [asInts_ok h1]; rfl
def asBls : List D → Option (List Bool)
  | [] => some []
  | .bl i :: r => (asBls r).map (i :: ·)
  | _ => none
theorem asBls_map (ns : List Bool) : asBls (ns.map .bl) = some ns := by
  induction ns with
  | nil => rfl
  | cons n ns ih => simp [asBls, ih]
theorem asBls_ok : ∀ {ds : List D} {ns : List Bool}, asBls ds = some ns → ds = ns.map .bl
  | [], _, h => by cases h; rfl
  | .bl i :: r, ns, h => by
    obtain ⟨ms, h1, rfl⟩ := Option.map_eq_some_iff.mp (show (asBls r).map (i :: ·) = some ns from h)
    rw [asBls_ok h1]; rfl
def asStrs : List D → Option (List Str)
  | [] => some []
  | .str i :: r => (asStrs r).map (i :: ·)
  | _ => none
theorem asStrs_map (ns : List Str) : asStrs (ns.map .str) = some ns := by
  induction ns with
  | nil => rfl
  | cons n ns ih => simp [asStrs, ih]
theorem asStrs_ok : ∀ {ds : List D} {ns : List Str}, asStrs ds = some ns → ds = ns.map .str
  | [], _, h => by cases h; rfl
  | .str i :: r, ns, h => by
    obtain ⟨ms, h1, rfl⟩ := Option.map_eq_some_iff.mp (show (asStrs r).map (i :: ·) = some ns from h)
    rw [asStrs_ok h1]; rfl
theorem vInts {B : Hp} : ∀ {ns : List Int} {xs : List V}, RpA K B xs (ns.map .int) → xs = ns.map V.int
  | [], _, h => by cases h; rfl
  | n :: ns, _, h => by
    cases h with
    | cons r t => rw [Rp.unI r, vInts t]; rfl
theorem vBls {B : Hp} : ∀ {ns : List Bool} {xs : List V}, RpA K B xs (ns.map .bl) → xs = ns.map V.bl
  | [], _, h => by cases h; rfl
  | n :: ns, _, h => by
    cases h with
    | cons r t => rw [Rp.unB r, vBls t]; rfl
theorem vStrs {B : Hp} : ∀ {ns : List Str} {xs : List V}, RpA K B xs (ns.map .str) → xs = ns.map V.str
  | [], _, h => by cases h; rfl
  | n :: ns, _, h => by
    cases h with
    | cons r t => rw [Rp.unS r, vStrs t]; rfl
namespace C
def lenW : W → List Cell → (Nat → Prop) → Prop
  | .d (.str s), _, Q => s.length ≤ lineN ∧ Q s.length
  | .d (.tup ds), _, Q => Q ds.length
  | x, cs, Q => match lview x cs with
    | .pl ds => Q ds.length
    | .mx ws => Q ws.length
    | .no => False
/-- len -/
def len : CB K where
  r := fun xs H Q => ∃ x n, xs = [x] ∧ LenV K x H n ∧ Q (.int n) H
  w := fun xs cs Q => match xs with
    | [x] => lenW x cs fun n => Q (.d (.int n)) cs
    | _ => False
  ok := fun xs cs Q h F B H as vs S r R k => by
    split at h
    · rename_i x
      obtain ⟨v, rfl, rv⟩ := vals1R r
      unfold lenW at h
      split at h
      · cases Rp.unS rv; exact ⟨_, _, rfl, ⟨le_line h.1, rfl⟩, k.now S (RW.p (Rp.int _)) h.2⟩
      · obtain ⟨a, ys, rfl, hs, ra⟩ := Rp.unT rv
        exact ⟨_, _, rfl, .inr ⟨ys, ex_t S.ex hs, rfl⟩, k.now S (by rw [ra.length]; exact RW.p (Rp.int _)) h⟩
      · split at h
        · rename_i h1
          obtain ⟨p, ys, rfl, hp, ra⟩ := lview_pl h1 S rv
          exact ⟨_, _, rfl, .inl ⟨ys, .inl (.inl hp), rfl⟩, k.now S (by rw [ra.length]; exact RW.p (Rp.int _)) h⟩
        · rename_i h1
          obtain ⟨p, ys, rfl, hp, ra⟩ := lview_mx h1 S rv
          exact ⟨_, _, rfl, .inl ⟨ys, .inl (.inl hp), rfl⟩, k.now S (by rw [ra.length]; exact RW.p (Rp.int _)) h⟩
        · exact h.elim
    · exact h.elim
def int : CB K where
  r := fun xs H Q => (∃ i, xs = [.int i] ∧ Q (.int i) H) ∨ ∃ k, xs = [.bl k] ∧ Q (.int (if k then 1 else 0)) H
  w := fun xs cs Q => match xs with
    | [.d (.int i)] => Q (.d (.int i)) cs
    | [.d (.bl b)] => Q (.d (.int (if b then 1 else 0))) cs
    | _ => False
  ok := fun xs cs Q h F B H as vs S r R k => by
    split at h
    · obtain ⟨v, rfl, rv⟩ := vals1R r
      cases Rp.unI rv
      exact .inl ⟨_, rfl, k.now S (RW.p (Rp.int _)) h⟩
    · obtain ⟨v, rfl, rv⟩ := vals1R r
      cases Rp.unB rv
      exact .inr ⟨_, rfl, k.now S (RW.p (Rp.int _)) h⟩
    · exact h.elim
def abs : CB K where
  r := fun xs H Q => ∃ i, xs = [.int i] ∧ Q (.int (if i < 0 then -i else i)) H
  w := fun xs cs Q => match xs with
    | [.d (.int i)] => Q (.d (.int (if i < 0 then -i else i))) cs
    | _ => False
  ok := fun xs cs Q h F B H as vs S r R k => by
    split at h
    · obtain ⟨v, rfl, rv⟩ := vals1R r
      cases Rp.unI rv
      exact ⟨_, rfl, k.now S (RW.p (Rp.int _)) h⟩
    · exact h.elim
def sum : CB K where
  r := rSum K
  w := fun xs cs Q => match xs with
    | [x] => (match lview x cs with
      | .pl ds => ∃ ns, asInts ds = some ns ∧ Q (.d (.int ns.sum)) cs
      | _ => False)
    | _ => False
  ok := fun xs cs Q h F B H as vs S r R k => by
    split at h
    · obtain ⟨v, rfl, rv⟩ := vals1R r
      split at h
      · rename_i h1
        obtain ⟨ns, h2, q⟩ := h
        obtain ⟨p, ys, rfl, hp, ra⟩ := lview_pl h1 S rv
        rw [asInts_ok h2] at ra
        rw [vInts ra] at hp
        exact ⟨p, ns, rfl, .inl (.inl hp), k.now S (RW.p (Rp.int _)) q⟩
      · exact h.elim
    · exact h.elim
def all : CB K where
  r := rAll K
  w := fun xs cs Q => match xs with
    | [x] => (match lview x cs with
      | .pl ds => ∃ ns, asBls ds = some ns ∧ Q (.d (.bl (ns.all id))) cs
      | _ => False)
    | _ => False
  ok := fun xs cs Q h F B H as vs S r R k => by
    split at h
    · obtain ⟨v, rfl, rv⟩ := vals1R r
      split at h
      · rename_i h1
        obtain ⟨ns, h2, q⟩ := h
        obtain ⟨p, ys, rfl, hp, ra⟩ := lview_pl h1 S rv
        rw [asBls_ok h2] at ra
        rw [vBls ra] at hp
        exact ⟨p, ns, rfl, .inl (.inl hp), k.now S (RW.p (Rp.bl _)) q⟩
      · exact h.elim
    · exact h.elim
def any : CB K where
  r := rAny K
  w := fun xs cs Q => match xs with
    | [x] => (match lview x cs with
      | .pl ds => ∃ ns, asBls ds = some ns ∧ Q (.d (.bl (ns.any id))) cs
      | _ => False)
    | _ => False
  ok := fun xs cs Q h F B H as vs S r R k => by
    split at h
    · obtain ⟨v, rfl, rv⟩ := vals1R r
      split at h
      · rename_i h1
        obtain ⟨ns, h2, q⟩ := h
        obtain ⟨p, ys, rfl, hp, ra⟩ := lview_pl h1 S rv
        rw [asBls_ok h2] at ra
        rw [vBls ra] at hp
        exact ⟨p, ns, rfl, .inl (.inl hp), k.now S (RW.p (Rp.bl _)) q⟩
      · exact h.elim
    · exact h.elim
/-- list(x): a new list -/
def rListG (K : PySem.W.Frag) : List V → Hp → VK → Prop := fun xs H Q => ∃ p ys, xs = [.ref p] ∧ (SqL K H p ys ∨ SqT K H p ys) ∧ ∀ l, H l = none → Q (.ref l) (upd H l (.lst ys))
def list : CB K where
  r := rListG K
  w := fun xs cs Q => match xs with
    | [.d (.tup ds)] => Q (.d (.lst ds)) cs
    | [x] => (match lview x cs with
      | .pl ds => Q (.d (.lst ds)) cs
      | _ => False)
    | _ => False
  ok := fun xs cs Q h F B H as vs S r R k => by
    split at h
    · obtain ⟨v, rfl, rv⟩ := vals1R r
      obtain ⟨a, ys, rfl, hs, ra⟩ := Rp.unT rv
      exact ⟨a, ys, rfl, .inr (ex_t S.ex hs), k.newL S ra h⟩
    · obtain ⟨v, rfl, rv⟩ := vals1R r
      split at h
      · rename_i h1
        obtain ⟨p, ys, rfl, hp, ra⟩ := lview_pl h1 S rv
        exact ⟨p, ys, rfl, .inl (.inl (.inl hp)), k.newL S ra h⟩
      · exact h.elim
    · exact h.elim
/-- list(x), to be changed; of the script, too -/
def listC : CB K where
  r := rListG K
  w := fun xs cs Q => match xs with
    | [.d (.scr ns)] => Q (.cel cs.length) (cs ++ [.pl (ns.map D.int)])
    | [.d (.tup ds)] => Q (.cel cs.length) (cs ++ [.pl ds])
    | [x] => (match lview x cs with
      | .pl ds => Q (.cel cs.length) (cs ++ [.pl ds])
      | .mx ws => Q (.cel cs.length) (cs ++ [.lst ws])
      | .no => False)
    | _ => False
  ok := fun xs cs Q h F B H as vs S r R k => by
    split at h
    · rename_i ns
      obtain ⟨v, rfl, rv⟩ := vals1R r
      cases rv with
      | @scr a ns hs =>
        refine ⟨a, _, rfl, .inl (ex_l S.ex hs), k.newP S ?_ h⟩
        clear h hs r
        induction ns with
        | nil => exact .nil
        | cons n ns ih => exact .cons (Rp.int n) ih
    · obtain ⟨v, rfl, rv⟩ := vals1R r
      obtain ⟨a, ys, rfl, hs, ra⟩ := Rp.unT rv
      exact ⟨a, ys, rfl, .inr (ex_t S.ex hs), k.newP S ra h⟩
    · obtain ⟨v, rfl, rv⟩ := vals1R r
      split at h
      · rename_i h1
        obtain ⟨p, ys, rfl, hp, ra⟩ := lview_pl h1 S rv
        exact ⟨p, ys, rfl, .inl (.inl (.inl hp)), k.newP S ra h⟩
      · rename_i h1
        obtain ⟨p, ys, rfl, hp, ra⟩ := lview_mx h1 S rv
        exact ⟨p, ys, rfl, .inl (.inl (.inl hp)), k.newC S ra h⟩
      · exact h.elim
    · exact h.elim
def tuple : CB K where
  r := fun xs H Q => ∃ p ys, xs = [.ref p] ∧ ((SqL K H p ys ∧ ∀ l, H l = none → Q (.ref l) (upd H l (.tup ys))) ∨ (SqT K H p ys ∧ Q (.ref p) H))
  w := fun xs cs Q => match xs with
    | [.d (.tup ds)] => Q (.d (.tup ds)) cs
    | [x] => (match lview x cs with
      | .pl ds => Q (.d (.tup ds)) cs
      | _ => False)
    | _ => False
  ok := fun xs cs Q h F B H as vs S r R k => by
    split at h
    · obtain ⟨v, rfl, rv⟩ := vals1R r
      obtain ⟨a, ys, rfl, hs, ra⟩ := Rp.unT rv
      exact ⟨a, ys, rfl, .inr ⟨ex_t S.ex hs, k.now S rv h⟩⟩
    · obtain ⟨v, rfl, rv⟩ := vals1R r
      split at h
      · rename_i h1
        obtain ⟨p, ys, rfl, hp, ra⟩ := lview_pl h1 S rv
        exact ⟨p, ys, rfl, .inl ⟨.inl (.inl hp), k.newT S ra h⟩⟩
      · exact h.elim
    · exact h.elim
end C
/-! ### methods of built-in types -/
def isStr : W → List Cell → Prop
  | .d (.str _), _ => True
  | _, _ => False
theorem isStr_ok {x : W} {cs : List Cell} {F B H : Hp} {as : List Addr} {v : V} (h : isStr x cs) (r : RW K B as v x) : tyV K "str" v H := by
  cases x with
  | d d =>
    cases d with
    | str s => cases Rp.unS r; rfl
    | _ => exact h.elim
  | cel _ => exact h.elim
def isLst (x : W) (cs : List Cell) : Prop := match lview x cs with
  | .no => False
  | _ => True
theorem isLst_ok {x : W} {cs : List Cell} {F B H : Hp} {as : List Addr} {v : V} (h : isLst x cs) (S : Sc K F B H as cs) (r : RW K B as v x) : tyV K "list" v H := by
  unfold isLst at h
  cases e : lview x cs with
  | pl ds => obtain ⟨p, xs, rfl, hp, _⟩ := lview_pl e S r; exact .inl ⟨rfl, xs, .inl (.inl hp)⟩
  | mx ws => obtain ⟨p, xs, rfl, hp, _⟩ := lview_mx e S r; exact .inl ⟨rfl, xs, .inl (.inl hp)⟩
  | no => rw [e] at h; exact h.elim
namespace M
/-- sep.join(texts) -/
def join : MB K where
  T := "str"
  r := fun x xs H Q => ∃ a p, ∃ ys : List Str, x = .str a ∧ xs = [.ref p] ∧ (SqL K H p (ys.map V.str) ∨ SqT K H p (ys.map V.str)) ∧ (ys.map (·.length)).sum + ys.length * a.length ≤ 16777216 ∧ Q (.str (Txt.join a ys)) H
  ty := isStr
  tok := fun x cs h F B H as v S r => isStr_ok (F := F) (as := as) h r
  w := fun x xs cs Q => match x, xs with
    | .d (.str a), [y] => (match lview y cs with
      | .pl ds => ∃ ys, asStrs ds = some ys ∧ (ys.map (·.length)).sum + ys.length * a.length ≤ lineN ∧ Q (.d (.str (Txt.join a ys))) cs
      | _ => False)
    | _, _ => False
  ok := fun x xs cs Q h F B H as v vs S rx r R k => by
    split at h
    · obtain ⟨u, rfl, rv⟩ := vals1R r
      cases Rp.unS rx
      split at h
      · rename_i h1
        obtain ⟨ys, h2, hl, q⟩ := h
        obtain ⟨p, zs, rfl, hp, ra⟩ := lview_pl h1 S rv
        rw [asStrs_ok h2] at ra
        rw [vStrs ra] at hp
        exact ⟨_, p, ys, rfl, rfl, .inl (.inl (.inl hp)), Nat.le_trans hl (by decide), k.now S (RW.p (Rp.str _)) q⟩
      · exact h.elim
    · exact h.elim
/-- what can change grows at its end -/
def append : MB K where
  T := "list"
  r := rAppend
  ty := isLst
  tok := fun x cs h F B H as v S r => isLst_ok h S r
  w := fun x xs cs Q => match x, xs with
    | .cel k, [.d y] => (match lview (.cel k) cs with
      | .pl ds => ds.length < lineN ∧ Q (.d .non) (cs.set k (.pl (ds ++ [y])))
      | .mx ws => ws.length < lineN ∧ Q (.d .non) (cs.set k (.lst (ws ++ [.d y])))
      | .no => False)
    | _, _ => False
  ok := fun x xs cs Q h F B H as v vs S rx r R k => by
    split at h
    · rename_i kk y
      obtain ⟨u, rfl, rv⟩ := vals1R r
      obtain ⟨a, ha, rfl⟩ := rx
      split at h
      · rename_i ds h1
        obtain ⟨hl, q⟩ := h
        obtain ⟨hB, us, hv, ra⟩ : CellAt K B as H a (.pl ds) := S.ce kk a _ ha (cellV_pl h1)
        refine ⟨a, us, u, rfl, rfl, hv, lt_line (by rw [ra.length]; exact hl), ?_⟩
        exact k _ _ _ B _ as q (S.setC ha hB ⟨hB, _, upd_same, ra.append (.cons rv .nil)⟩) (Ex.refl _) (Pre.refl _) (RW.p Rp.non)
      · rename_i ws h1
        obtain ⟨hl, q⟩ := h
        obtain ⟨hB, us, hv, ra⟩ : CellAt K B as H a (.lst ws) := S.ce kk a _ ha (cellV_mx h1)
        refine ⟨a, us, u, rfl, rfl, hv, lt_line (by rw [ra.length]; exact hl), ?_⟩
        exact k _ _ _ B _ as q (S.setC ha hB ⟨hB, _, upd_same, ra.append (.cons rv .nil)⟩) (Ex.refl _) (Pre.refl _) (RW.p Rp.non)
      · exact h.elim
    · exact h.elim
/-- .. loses its last item -/
def pop : MB K where
  T := "list"
  r := rPop
  ty := isLst
  tok := fun x cs h F B H as v S r => isLst_ok h S r
  w := fun x xs cs Q => match x, xs with
    | .cel k, [] => (match lview (.cel k) cs with
      | .pl ds => ∃ z, ds[ds.length - 1]? = some z ∧ Q (.d z) (cs.set k (.pl ds.dropLast))
      | _ => False)
    | _, _ => False
  ok := fun x xs cs Q h F B H as v vs S rx r R k => by
    split at h
    · rename_i kk
      cases r
      obtain ⟨a, ha, rfl⟩ := rx
      split at h
      · rename_i ds h1
        obtain ⟨z, hz, q⟩ := h
        obtain ⟨hB, us, hv, ra⟩ : CellAt K B as H a (.pl ds) := S.ce kk a _ ha (cellV_pl h1)
        obtain ⟨u, hu, ru⟩ := ra.get hz
        refine ⟨a, us, u, rfl, rfl, hv, by rw [ra.length]; exact hu, ?_⟩
        exact k _ _ _ B _ as q (S.setC ha hB ⟨hB, _, upd_same, ra.dropLast⟩) (Ex.refl _) (Pre.refl _) (RW.p ru)
      · exact h.elim
    · exact h.elim
end M
end
end Pl

namespace Pl
open PySem PySem.Spec PyProof.Rows L2
section
variable {K : PySem.W.Frag}
namespace M
/-- xs.pop(i) of what can change -/
def popAt : MB K where
  T := "list"
  r := rPopAt
  ty := isLst
  tok := fun x cs h F B H as v S r => isLst_ok h S r
  w := fun x xs cs Q => match x, xs with
    | .cel k, [.d (.int 0)] => (match lview (.cel k) cs with
      | .pl (z :: ds) => Q (.d z) (cs.set k (.pl ds))
      | _ => False)
    | _, _ => False
  ok := fun x xs cs Q h F B H as v vs S rx r R k => by
    split at h
    · rename_i kk
      obtain ⟨u, rfl, rv⟩ := vals1R r
      cases Rp.unI rv
      split at h
      · rename_i z ds h1
        obtain ⟨a, ha, rfl⟩ := rx
        obtain ⟨hB, us, hv, ra⟩ : CellAt K B as H a (.pl (z :: ds)) := S.ce kk a _ ha (cellV_pl h1)
        cases ra with
        | @cons y _ ys _ ry rt =>
          refine ⟨a, y :: ys, 0, 0, y, rfl, rfl, hv, by decide, by decide, ?_, rfl, ?_⟩
          · exact PySem.seqIndex_of (k := 0) (by decide) (by rw [List.length_cons]; omega)
          · exact k _ _ _ B _ as h (S.setC ha hB ⟨hB, _, upd_same, rt⟩) (Ex.refl _) (Pre.refl _) (RW.p ry)
      · exact h.elim
    · exact h.elim
/-- xs.extend(ys) -/
def extend : MB K where
  T := "list"
  r := rExtend
  ty := isLst
  tok := fun x cs h F B H as v S r => isLst_ok h S r
  w := fun x xs cs Q => match x, xs with
    | .cel k, [y] => (match lview (.cel k) cs, lview y cs with
      | .pl ds, .pl es => ds.length + es.length ≤ lineN ∧ Q (.d .non) (cs.set k (.pl (ds ++ es)))
      | _, _ => False)
    | _, _ => False
  ok := fun x xs cs Q h F B H as v vs S rx r R k => by
    split at h
    · rename_i kk y
      obtain ⟨u, rfl, rv⟩ := vals1R r
      split at h
      · rename_i ds es h1 h2
        obtain ⟨hl, q⟩ := h
        obtain ⟨p, ys, rfl, hp, rp⟩ := lview_pl h2 S rv
        obtain ⟨a, ha, rfl⟩ := rx
        obtain ⟨hB, vs1, hv, ra⟩ : CellAt K B as H a (.pl ds) := S.ce kk a _ ha (cellV_pl h1)
        refine ⟨a, p, vs1, ys, rfl, rfl, hv, hp, le_line (by rw [ra.length, rp.length]; exact hl), ?_⟩
        exact k _ _ _ B _ as q (S.setC ha hB ⟨hB, _, upd_same, ra.append rp⟩) (Ex.refl _) (Pre.refl _) (RW.p Rp.non)
      · exact h.elim
    · exact h.elim
end M
/-! ### slices -/
structure OT (K : PySem.W.Frag) where
  t : TO
  w : Ct → (Option Int → List Cell → Prop) → Prop
  ok : ∀ Γ Q, w Γ Q → ∀ F σ B H as, Sta K F σ B H as Γ → ∀ R : Option Int → Hp → Prop, (∀ o cs B' H' as', Q o cs → Sc K F B' H' as' cs → Ex B B' → Pre as as' → R o H') → t σ H R
namespace OO
def none : OT K := ⟨tNoPart, fun Γ Q => Q .none Γ.cs, fun Γ Q h F σ B H as S R k => k _ _ B H as h S.toSc (Ex.refl _) (Pre.refl _)⟩
def part (e : ET K) : OT K := ⟨tPart e.te, fun Γ Q => e.w Γ fun x cs => match x with
  | .d (.int i) => Q (some i) cs
  | _ => False, fun Γ Q h F σ B H as S R k => e.ok _ _ h F σ B H as S _ fun x cs v B1 H1 as1 q1 S1 e1 p1 r1 => by
    cases x with
    | d d =>
      cases d with
      | int i => cases Rp.unI r1; exact ⟨i, rfl, k _ cs B1 H1 as1 q1 S1 e1 p1⟩
      | _ => exact q1.elim
    | cel _ => exact q1.elim⟩
end OO
/-- what a slice of a sequence holds -/
def cutL {α : Type} (xs : List α) (lo hi : Option Int) : List α := (xs.drop (HT.sIx xs.length 0 lo)).take (HT.sIx xs.length xs.length hi - HT.sIx xs.length 0 lo)
theorem cutL_all2 {α β : Type} {R : α → β → Prop} {xs : List α} {ys : List β} (h : All2 R xs ys) (lo hi : Option Int) : All2 R (cutL xs lo hi) (cutL ys lo hi) := by
  unfold cutL
  rw [h.length]
  exact (h.drop _).take _
def rSlG (K : PySem.W.Frag) : V → Option Int → Option Int → Hp → VK → Prop := fun x lo hi H Q => rSlS x lo hi H Q ∨ rSlL K x lo hi H Q ∨ rSlT K x lo hi H Q
theorem sl_G {X : Cx} : SlR X (rSlG X.K) := sl_str.or (sl_list.or sl_tup)
def slW : W → Option Int → Option Int → List Cell → WQ → Prop
  | .d (.str s), lo, hi, cs, Q => s.length ≤ lineN ∧ Q (.d (.str (cutS s lo hi))) cs
  | .d (.tup ds), lo, hi, cs, Q => ¬ (HT.sIx ds.length 0 lo = 0 ∧ HT.sIx ds.length ds.length hi = ds.length) ∧ Q (.d (.tup (cutL ds lo hi))) cs
  | x, lo, hi, cs, Q => match lview x cs with
    | .pl ds => Q (.d (.lst (cutL ds lo hi))) cs
    | _ => False
namespace E
def slice (e : ET K) (l u : OT K) : ET K where
  te := tSl (rSlG K) e.te l.t u.t
  w := fun Γ Q => e.w Γ fun x cs => l.w ⟨Γ.sl, cs⟩ fun lo cs2 => u.w ⟨Γ.sl, cs2⟩ fun hi cs3 => slW x lo hi cs3 Q
  ok := fun Γ Q h F σ B H as S R k => e.ok _ _ h F σ B H as S _ fun x cs v B1 H1 as1 q1 S1 e1 p1 r1 =>
    l.ok _ _ q1 F σ B1 H1 as1 (S.step S1 e1 p1) _ fun lo cs2 B2 H2 as2 q2 S2 e2 p2 => u.ok _ _ q2 F σ B2 H2 as2 (S.step S2 (e1.trans e2) (p1.trans p2)) _ fun hi cs3 B3 H3 as3 q3 S3 e3 p3 => by
      have r3 := RW.mono (e2.trans e3) (p2.trans p3) r1
      have k3 := k.trans (e1.trans (e2.trans e3)) (p1.trans (p2.trans p3))
      unfold slW at q3
      split at q3
      · cases Rp.unS r3
        exact .inl ⟨_, rfl, le_line q3.1, k3.now S3 (RW.p (Rp.str _)) q3.2⟩
      · obtain ⟨a, xs, rfl, hs, ra⟩ := Rp.unT r3
        refine .inr (.inr ⟨a, xs, rfl, ex_t S3.ex hs, by rw [ra.length]; exact q3.1, k3.newT S3 (cutL_all2 ra lo hi) q3.2⟩)
      · split at q3
        · rename_i h1
          obtain ⟨p, xs, rfl, hp, ra⟩ := lview_pl h1 S3 r3
          exact .inr (.inl ⟨p, xs, rfl, .inl (.inl hp), k3.newL S3 (cutL_all2 ra lo hi) q3⟩)
        · exact q3.elim
/-- a text read backwards -/
def tRevS (te : TE) : TE := fun σ H Q => te σ H fun x H1 => ∃ z, x = .str z ∧ z.length ≤ sizeLine ∧ Q (.str ⟨z.cps.toList.reverse.toArray⟩) H1
def revS (e : ET K) : ET K where
  te := tRevS e.te
  w := fun Γ Q => e.w Γ fun x cs => match x with
    | .d (.str s) => s.length ≤ lineN ∧ Q (.d (.str ⟨s.cps.toList.reverse.toArray⟩)) cs
    | _ => False
  ok := fun Γ Q h F σ B H as S R k => e.ok _ _ h F σ B H as S _ fun x cs v B1 H1 as1 q1 S1 e1 p1 r1 => by
    cases x with
    | d d =>
      cases d with
      | str s => cases Rp.unS r1; exact ⟨s, rfl, le_line q1.1, (k.trans e1 p1).now S1 (RW.p (Rp.str _)) q1.2⟩
      | _ => exact q1.elim
    | cel _ => exact q1.elim
def revL (e : ET K) : ET K where
  te := tRevL K e.te
  w := fun Γ Q => e.w Γ fun x cs => match lview x cs with
    | .pl ds => Q (.d (.lst ds.reverse)) cs
    | _ => False
  ok := fun Γ Q h F σ B H as S R k => e.ok _ _ h F σ B H as S _ fun x cs v B1 H1 as1 q1 S1 e1 p1 r1 => by
    dsimp only at q1
    split at q1
    · rename_i h1
      obtain ⟨p, xs, rfl, hp, ra⟩ := lview_pl h1 S1 r1
      exact ⟨p, xs, rfl, .inl (.inl hp), (k.trans e1 p1).newL S1 ra.reverse q1⟩
    · exact q1.elim
end E
theorem sliceIdx_rev (n : Nat) : Builtin.Str.strSliceIndices none none (-1) n = (List.range n).reverse := by
  have h : ¬ ((-1 : Int) > 0) := by decide
  have e : Builtin.Str.strSliceIndices none none (-1) n = sliceRange ((n : Int) - 1) (-1) (-1) := by
    unfold Builtin.Str.strSliceIndices
    simp only [h, if_false]
  rw [e, PySem.W.krv_sliceRange, PySem.W.krv_range]
theorem revPick (z : Str) : ((List.range z.length).reverse).filterMap (z.cps[·]?) = z.cps.toList.reverse := by
  rw [List.filterMap_reverse]
  exact congrArg List.reverse (PySem.W.krv_all z.cps)
/-- the slice's three parts as they lie -/
theorem revParts {s : Shared} {vl vu vs : Value} (h1 : IsPart vl none) (h2 : IsPart vu none) (h3 : IsPart vs (some (-1))) : vl = Value.none ∧ vu = Value.none ∧ ∃ tk, vs = .int (-1) tk := by
  obtain ⟨a1, b1, c1⟩ := IsPart.raw h1
  obtain ⟨a2, b2, c2⟩ := IsPart.raw h2
  obtain ⟨a3, b3, c3⟩ := IsPart.raw h3
  cases a1 with
  | some _ => cases c1
  | none =>
    cases a2 with
    | some _ => cases c2
    | none =>
      cases a3 with
      | none => cases c3
      | some z =>
        obtain ⟨i, tk⟩ := z
        cases c3
        exact ⟨b1, b2, tk, b3⟩
section
variable {X : Cx} {e : Expr} {te : TE} {k : Nat} {p1 p2 p3 pos : Pos}
theorem pe_revS (hE : PE X e te) : PE X (.Subscript e (.Slice none none (some (.UnaryOp .USub (.Constant (.int 1) k p1) p2)) p3) pos) (E.tRevS te) := ⟨fun pins s σ H Q I hQ => by
  refine Subscript_ (thn (hE.run pins s σ H _ I hQ) ?_)
  rintro v sA ⟨_, HA, IA, rA, z, rfl, hz, hQ2⟩
  obtain ⟨t, rfl⟩ := rA
  have minus : PO X (some (.UnaryOp .USub (.Constant (.int 1) k p1) p2)) (tPart (tUn (rU fun i => .int (-i)) (tC (.int 1)))) :=
    po_some (pe_un un_neg pe_int)
  refine wpAny_Slice (thn (po_none.run pins sA σ HA (fun o G => o = none ∧ G = HA) IA ⟨rfl, rfl⟩) ?_)
  rintro vl sB ⟨_, _, IB, pB, rfl, rfl⟩
  refine thn (po_none.run pins sB σ _ (fun o G => o = none ∧ G = _) IB ⟨rfl, rfl⟩) ?_
  rintro vu sC ⟨_, _, IC, pC, rfl, rfl⟩
  refine thn (minus.run pins sC σ _ (fun o G => o = some (-1) ∧ G = _) IC ⟨1, rfl, -1, rfl, rfl, rfl⟩) ?_
  rintro vs sD ⟨_, _, ID, pD, rfl, rfl⟩
  obtain ⟨rfl, rfl, tk, rfl⟩ := revParts (s := s) pB pC pD
  have IE : Inv X pins σ _ { sD with heap := sD.heap.push { cls := .type "slice", data := .fields #[Value.none, Value.none, .int (-1) tk] } } :=
    ID.kept (t' := sD.toks) fun _ _ h => Heap.get?_push_of_some _ h
  refine tail_any (ops := [.str z t, .ref sD.heap.objs.size]) (typeIs_str _ z t) F.slot_str_getitem.lookup ?_ (by with_unfolding_all rfl)
  refine wpAny_getItem_str_slice (l := none) (u := none) (st := some (-1, tk)) ⟨_, Heap.get?_push_size _ rfl, rfl, rfl⟩ rfl ?_
  have e1 : (Builtin.Str.strSliceIndices none none (-1) z.length).filterMap (z.cps[·]?) = z.cps.toList.reverse := by
    rw [sliceIdx_rev, revPick]
  show Made.post (Made.str ⟨((Builtin.Str.strSliceIndices none none (-1) z.length).filterMap (z.cps[·]?)).toArray⟩) _ _
  rw [e1]
  refine ⟨?_, .str _, _, IE.tok _, ⟨_, rfl⟩, hQ2⟩
  show (z.cps.toList.reverse.toArray).size ≤ sizeLine
  have : z.cps.size ≤ sizeLine := hz
  simpa using this⟩
end
/-! ### calls -/
/-- a def that changes nothing: it makes d of ds -/
def SpD (K : PySem.W.Frag) (R : List D → D → Prop) : Sp := fun vs H Q _ => ∃ F B ds d, Sc K F B H [] [] ∧ RpA K B vs ds ∧ R ds d ∧ ∀ v B' H', Sc K F B' H' [] [] → Ex B B' → Rp K B' v d → Q v H'
theorem Sc.lend {F B H : Hp} {as : List Addr} {cs : List Cell} (S : Sc K F B H as cs) : Sc K (fun a => if a ∈ as then (match B a with | none => H a | some _ => none) else F a) B H [] [] := by
  refine ⟨S.ex, fun a o e => ?_, List.nodup_nil, rfl, fun k a c h => by cases h⟩
  by_cases q : a ∈ as
  · simp only [if_pos q] at e
    cases hb : B a with
    | none => rw [hb] at e; exact ⟨e, rfl, by simp⟩
    | some u => rw [hb] at e; cases e
  · simp only [if_neg q] at e
    obtain ⟨f1, f2, _⟩ := S.fr a o e
    exact ⟨f1, f2, by simp⟩
theorem Sc.back {F B B' H H' : Hp} {as : List Addr} {cs : List Cell} (S : Sc K F B H as cs) (S' : Sc K (fun a => if a ∈ as then (match B a with | none => H a | some _ => none) else F a) B' H' [] []) (e : Ex B B') : Sc K F B' H' as cs := by
  have key : ∀ a ∈ as, ∀ o, H a = some o → B a = none → H' a = some o ∧ B' a = none := fun a ha o h hb => by
    obtain ⟨h1, h2, _⟩ := S'.fr a o (by simp only [if_pos ha, hb]; exact h)
    exact ⟨h1, h2⟩
  refine ⟨S'.ex, fun a o h => ?_, S.nd, S.ln, fun k a c h1 h2 => ?_⟩
  · obtain ⟨f1, f2, f3⟩ := S.fr a o h
    obtain ⟨g1, g2, _⟩ := S'.fr a o (by simp only [if_neg f3]; exact h)
    exact ⟨g1, g2, f3⟩
  · have ha := List.mem_of_getElem? h1
    have c2 := S.ce k a c h1 h2
    cases c with
    | pl ds =>
      obtain ⟨hb, vs, hv, ra⟩ := c2
      obtain ⟨g1, g2⟩ := key a ha _ hv hb
      exact ⟨g2, vs, g1, RpA.mono e ra⟩
    | lst ds =>
      obtain ⟨hb, vs, hv, ra⟩ := c2
      obtain ⟨g1, g2⟩ := key a ha _ hv hb
      exact ⟨g2, vs, g1, RWA.mono e (Pre.refl _) ra⟩
    | dic ds =>
      obtain ⟨hb, vs, hv, ra⟩ := c2
      obtain ⟨g1, g2⟩ := key a ha _ hv hb
      exact ⟨g2, vs, g1, ra.imp fun _ _ z => ⟨z.1, RW.mono e (Pre.refl _) z.2⟩⟩
    | gone =>
      obtain ⟨o, ho⟩ := c2
      cases hb : B a with
      | none => exact ⟨o, (key a ha _ ho hb).1⟩
      | some u => exact ⟨u, S'.ex _ _ (e _ _ hb)⟩
namespace E
def call (R : List D → D → Prop) (a : AT K) : ET K where
  te := tCall (SpD K R) [] E0 a.ta
  w := fun Γ Q => a.w Γ fun ws cs => onD ws fun ds => ∃ d, R ds d ∧ Q (.d d) cs
  ok := fun Γ Q h F σ B H as S Rk k => a.ok _ _ h F σ B H as S _ fun xs cs vs B1 H1 as1 q1 S1 e1 p1 r1 => by
    obtain ⟨ds, hu, d, hR, q⟩ := onD_ok q1
    rw [unD_ok hu] at r1
    show SpD K R (vs ++ []) H1 Rk E0
    rw [List.append_nil]
    exact ⟨_, B1, ds, d, S1.lend, RWA.pure r1, hR, fun v B' H' S' e r => k _ cs v B' H' as1 q (S1.back S' e) (e1.trans e) p1 (RW.p r)⟩
end E
/-- a def that may change what it is given: Φ, over the first n of what can change -/
def SpC (K : PySem.W.Frag) (Φ : List W → List Cell → WQ → Prop) : Sp := fun vs H Q _ => ∃ F B as ws cs κ, Sc K F B H as cs ∧ RWA K B as vs ws ∧ Φ ws cs κ ∧ ∀ x cs' v B' H', κ x cs' → Sc K F B' H' as cs' → Ex B B' → RW K B' as v x → Q v H'
theorem RWA.takeA {B : Hp} {as : List Addr} {vs : List V} {ws : List W} {n : Nat} (h : RWA K B as vs ws) (b : ∀ w ∈ ws, w.below n) : RWA K B (as.take n) vs ws := RWA.take h b
/-- the first n are lent, the others stand -/
theorem Sc.part {F B H : Hp} {as : List Addr} {c1 c2 : List Cell} (S : Sc K F B H as (c1 ++ c2)) (b : ∀ c ∈ c1, c.below c1.length) :
    Sc K (fun a => if a ∈ as.drop c1.length then (match B a with | none => H a | some _ => none) else F a) B H (as.take c1.length) c1 := by
  have S1 := S.take b
  have hd : ∀ a, a ∈ as.drop c1.length → a ∉ as.take c1.length := fun a h1 h2 => by
    have nd := S.nd
    rw [← List.take_append_drop c1.length as, List.nodup_append] at nd
    exact nd.2.2 a h2 a h1 rfl
  refine ⟨S.ex, fun a o e => ?_, S1.nd, S1.ln, S1.ce⟩
  by_cases q : a ∈ as.drop c1.length
  · simp only [if_pos q] at e
    cases hb : B a with
    | none => rw [hb] at e; exact ⟨e, rfl, hd a q⟩
    | some u => rw [hb] at e; cases e
  · simp only [if_neg q] at e
    exact S1.fr a o e
theorem Sc.partBack {F B B' H H' : Hp} {as : List Addr} {c1 c2 c1' : List Cell} (S : Sc K F B H as (c1 ++ c2)) (S' : Sc K (fun a => if a ∈ as.drop c1.length then (match B a with | none => H a | some _ => none) else F a) B' H' (as.take c1.length) c1') (e : Ex B B') :
    Sc K F B' H' as (c1' ++ c2) := by
  have hl : as.length = c1.length + c2.length := by rw [S.ln, List.length_append]
  have hl' : c1'.length = c1.length := by
    have := S'.ln
    rw [List.length_take] at this; omega
  have key : ∀ a ∈ as.drop c1.length, ∀ o, H a = some o → B a = none → H' a = some o ∧ B' a = none := fun a ha o h hb => by
    obtain ⟨h1, h2, _⟩ := S'.fr a o (by simp only [if_pos ha, hb]; exact h)
    exact ⟨h1, h2⟩
  refine ⟨S'.ex, fun a o h => ?_, S.nd, by rw [List.length_append]; omega, fun k a c h1 h2 => ?_⟩
  · obtain ⟨f1, f2, f3⟩ := S.fr a o h
    obtain ⟨g1, g2, _⟩ := S'.fr a o (by simp only [if_neg (fun m => f3 (List.mem_of_mem_drop m))]; exact h)
    exact ⟨g1, g2, f3⟩
  · by_cases hk : k < c1.length
    · rw [List.getElem?_append_left (by omega)] at h2
      have h1' : (as.take c1.length)[k]? = some a := by rw [List.getElem?_take_of_lt hk]; exact h1
      have p : Pre (as.take c1.length) as := fun j x hx => by
        have hj : j < c1.length := by
          have := (List.getElem?_eq_some_iff.mp hx).1
          rw [List.length_take] at this; omega
        rw [List.getElem?_take_of_lt hj] at hx; exact hx
      exact (S'.ce k a c h1' h2).mono (Ex.refl _) id p fun o h => h
    · rw [List.getElem?_append_right (by omega), hl'] at h2
      have ha : a ∈ as.drop c1.length := by
        refine List.mem_of_getElem? (i := k - c1.length) ?_
        rw [List.getElem?_drop, show c1.length + (k - c1.length) = k by omega]; exact h1
      have c2 := S.ce k a c h1 (by rw [List.getElem?_append_right (by omega)]; exact h2)
      cases c with
      | pl ds =>
        obtain ⟨hb, vs, hv, ra⟩ := c2
        obtain ⟨g1, g2⟩ := key a ha _ hv hb
        exact ⟨g2, vs, g1, RpA.mono e ra⟩
      | lst ds =>
        obtain ⟨hb, vs, hv, ra⟩ := c2
        obtain ⟨g1, g2⟩ := key a ha _ hv hb
        exact ⟨g2, vs, g1, RWA.mono e (Pre.refl _) ra⟩
      | dic ds =>
        obtain ⟨hb, vs, hv, ra⟩ := c2
        obtain ⟨g1, g2⟩ := key a ha _ hv hb
        exact ⟨g2, vs, g1, ra.imp fun _ _ z => ⟨z.1, RW.mono e (Pre.refl _) z.2⟩⟩
      | gone =>
        obtain ⟨o, ho⟩ := c2
        cases hb : B a with
        | none => exact ⟨o, (key a ha _ ho hb).1⟩
        | some u => exact ⟨u, S'.ex _ _ (e _ _ hb)⟩
namespace E
/-- a call that may change the first n of what can change -/
def callC (n : Nat) (Φ : List W → List Cell → WQ → Prop) (a : AT K) : ET K where
  te := tCall (SpC K Φ) [] E0 a.ta
  w := fun Γ Q => a.w Γ fun ws cs => n ≤ cs.length ∧ (∀ w ∈ ws, w.below n) ∧ (∀ c ∈ cs.take n, c.below n) ∧ Φ ws (cs.take n) fun x cs' => Q x (cs' ++ cs.drop n)
  ok := fun Γ Q h F σ B H as S Rk k => a.ok _ _ h F σ B H as S _ fun xs cs vs B1 H1 as1 q1 S1 e1 p1 r1 => by
    obtain ⟨hn, hb, hc, hΦ⟩ := q1
    show SpC K Φ (vs ++ []) H1 Rk E0
    rw [List.append_nil]
    have el : (cs.take n).length = n := by rw [List.length_take]; omega
    have S1' : Sc K F B1 H1 as1 (cs.take n ++ cs.drop n) := by rw [List.take_append_drop]; exact S1
    have SP := S1'.part (by rw [el]; exact hc)
    refine ⟨_, B1, _, xs, cs.take n, _, SP, ?_, hΦ, fun x cs' v B' H' q S' e r => ?_⟩
    · rw [el]; exact RWA.take r1 hb
    · have S2 := S1'.partBack S' e
      refine k x _ v B' H' as1 q S2 (e1.trans e) p1 ?_
      have p : Pre (as1.take (cs.take n).length) as1 := fun j y hx => by
        have hj : j < (cs.take n).length := by
          have := (List.getElem?_eq_some_iff.mp hx).1
          rw [List.length_take] at this; omega
        rw [List.getElem?_take_of_lt hj] at hx; exact hx
      exact RW.mono (Ex.refl _) p r
end E
/-! ### a def by its body -/
theorem start_get {N : List Str} {vs : List V} {i : Nat} {v : V} (h : vs[i]? = some v) : (L2.start N vs)[i]? = some (some v) := by
  unfold L2.start
  have hi : i < vs.length := (List.getElem?_eq_some_iff.mp h).1
  rw [List.getElem?_append_left (by simpa using hi), List.getElem?_map, h]; rfl
theorem start_sta {N : List Str} {F B H : Hp} {as : List Addr} {vs : List V} {ws : List W} {cs : List Cell} (S : Sc K F B H as cs) (r : RWA K B as vs ws) : Sta K F (L2.start N vs) B H as ⟨ws.map some ++ List.replicate (N.length - ws.length) none, cs⟩ := by
  refine ⟨S, ?_, fun i d h => ?_⟩
  · unfold L2.start
    simp [r.length]
  · have h' : (ws.map some ++ List.replicate (N.length - ws.length) none)[i]? = some (some d) := h
    have hi : i < ws.length := by
      by_cases hi : i < ws.length
      · exact hi
      · rw [List.getElem?_append_right (by simpa using hi)] at h'
        rw [List.getElem?_replicate] at h'
        split at h' <;> cases h'
    rw [List.getElem?_append_left (by simpa using hi), List.getElem?_map] at h'
    obtain ⟨w, hw, e⟩ := Option.map_eq_some_iff.mp h'
    cases e
    obtain ⟨v, hv, rv⟩ := r.get hw
    exact ⟨v, start_get hv, rv⟩
/-- the slots at the entry -/
def entry (N : List Str) (ws : List W) (cs : List Cell) : Ct := ⟨ws.map some ++ List.replicate (N.length - ws.length) none, cs⟩
theorem body_D {R : List D → D → Prop} (N : List Str) (b : St K) (h : ∀ ds d, R ds d → b.w (entry N (ds.map W.d) []) { nx := fun _ => d = .non, rt := fun x _ => x = .d d }) :
    ∀ vs H Q E, SpD K R vs H Q E → b.ts { nx := fun _ H' => Q .non H', rt := Q } (L2.start N vs) H := fun vs H Q E hs => by
  obtain ⟨F, B, ds, d, S, r, hR, k⟩ := hs
  refine b.ok _ _ (h ds d hR) F _ B H [] (start_sta S (RWA.impure r)) _ ⟨fun Γ' σ' B' H' as' n S' e p => ?_, fun x cs v B' H' as' n S' e p r' => ?_, fun Γ' σ' B' H' as' n => n.elim, fun Γ' σ' B' H' as' n => n.elim⟩
  · subst n
    exact k .non B' H' ⟨S'.ex, fun a o z => ⟨(S'.fr a o z).1, (S'.fr a o z).2.1, by simp⟩, List.nodup_nil, rfl, fun k a c z => by cases z⟩ e .non
  · subst n
    exact k v B' H' ⟨S'.ex, fun a o z => ⟨(S'.fr a o z).1, (S'.fr a o z).2.1, by simp⟩, List.nodup_nil, rfl, fun k a c z => by cases z⟩ e r'
/-- what a def that may change things is to leave: as many cells as it found -/
def leaves (n : Nat) (κ : WQ) : WQ := fun x cs => ∃ c1 g, cs = c1 ++ g ∧ c1.length = n ∧ x.below n ∧ (∀ c ∈ c1, c.below n) ∧ κ x c1
theorem body_C {Φ : List W → List Cell → WQ → Prop} (N : List Str) (b : St K) (h : ∀ ws cs κ, Φ ws cs κ → b.w (entry N ws cs) { nx := fun Γ => leaves cs.length κ (.d .non) Γ.cs, rt := leaves cs.length κ }) :
    ∀ vs H Q E, SpC K Φ vs H Q E → b.ts { nx := fun _ H' => Q .non H', rt := Q } (L2.start N vs) H := fun vs H Q E hs => by
  obtain ⟨F, B, as, ws, cs, κ, S, r, hΦ, k⟩ := hs
  have fin : ∀ x cs2 v B' H' as', leaves cs.length κ x cs2 → Sc K F B' H' as' cs2 → Ex B B' → Pre as as' → RW K B' as' v x → Q v H' := fun x cs2 v B' H' as' n S' e p r' => by
    obtain ⟨c1, g, rfl, hl, hx, hc, q⟩ := n
    have S2 := S'.take (by rw [hl]; exact hc)
    have ea : as'.take c1.length = as := by
      rw [hl, ← S.ln]
      refine List.ext_getElem? fun i => ?_
      by_cases hi : i < as.length
      · rw [List.getElem?_take_of_lt hi, List.getElem?_eq_getElem hi]
        exact p i _ (List.getElem?_eq_getElem hi)
      · rw [List.getElem?_eq_none (by simp; omega), List.getElem?_eq_none (by omega)]
    have r2 := RW.take (n := c1.length) r' (by rw [hl]; exact hx)
    rw [ea] at S2 r2
    exact k x c1 v B' H' q S2 e r2
  refine b.ok _ _ (h ws cs κ hΦ) F _ B H as (start_sta S r) _ ⟨fun Γ' σ' B' H' as' n S' e p => ?_, fun x cs v B' H' as' n S' e p r' => fin x cs v B' H' as' n S' e p r', fun Γ' σ' B' H' as' n => n.elim, fun Γ' σ' B' H' as' n => n.elim⟩
  exact fin (.d .non) _ .non B' H' as' n S'.toSc e p (RW.p Rp.non)
end
end Pl

namespace Pl
open PySem PySem.Spec PyProof.Rows L2
section
variable {K : PySem.W.Frag}
theorem walksZT {a b : Addr} {xs ys : List V} {ds es : List D} {B : Hp} {as : List Addr} (h : SqT K B a xs) (r : RpA K B xs ds) (h' : SqT K B b ys) (r' : RpA K B ys es) : Walks K (RZ.ItzT K a b) (I.zipD ds es) B as where
  go := fun i H e hi => by
    have hi : i < ds.length ∧ i < es.length := by
      simp [I.zipD] at hi; omega
    rw [← r.length, ← r'.length] at hi
    exact ⟨xs, ys, xs[i]'hi.1, ys[i]'hi.2, ex_t e h, ex_t e h', List.getElem?_eq_getElem hi.1, List.getElem?_eq_getElem hi.2⟩
  st := fun i H e hi => by
    have hi : ds.length ≤ i ∨ es.length ≤ i := by
      simp [I.zipD] at hi; omega
    rw [← r.length, ← r'.length] at hi
    exact ⟨xs, ys, ex_t e h, ex_t e h', hi⟩
  yl := fun i x v H' F B' H as' cs hx hy e p S => by
    obtain ⟨⟨d1, d2⟩, hz, rfl⟩ := getMap hx
    obtain ⟨T, x1, x2, rfl, hT, rfl, h1, h2⟩ := hy
    obtain ⟨g1, g2⟩ : ds[i]? = some d1 ∧ es[i]? = some d2 := by
      rw [List.getElem?_zip_eq_some] at hz
      exact hz
    have v1 := h1 xs (ex_t (e.trans S.ex) h)
    have v2 := h2 ys (ex_t (e.trans S.ex) h')
    have hB : B' T = none := S.ex.back hT
    have eB : Ex B' (upd B' T (.tup [x1, x2])) := Ex.new hB
    exact ⟨_, S.newB hT, eB, Rp.mkT (.inl (.inl upd_same)) (.cons ((r.at i _ _ v1 g1).mono (e.trans eB)) (.cons ((r'.at i _ _ v2 g2).mono (e.trans eB)) .nil))⟩
/-- zip of two lists or two tuples -/
def I.zipA (a : AT K) : IT K where
  wi := RZ.iZipA K a.ta
  w := fun Γ Q => a.w Γ fun ws cs => match ws with
    | [.d (.lst ds), .d (.lst es)] => Q (I.zipD ds es) cs
    | [.d (.tup ds), .d (.tup es)] => Q (I.zipD ds es) cs
    | _ => False
  ok := fun Γ Q h F σ B H as S R k => a.ok _ _ h F σ B H as S _ fun xs cs vs B1 H1 as1 q1 S1 e1 p1 r1 => by
    dsimp only at q1
    split at q1
    · obtain ⟨v, u, rfl, r, r2⟩ := vals2R r1
      obtain ⟨a, xs, rfl, hs, ra⟩ := Rp.unL r
      obtain ⟨b, ys, rfl, hs2, ra2⟩ := Rp.unL r2
      exact ⟨a, b, xs, ys, rfl, .inl ⟨.inl (.inl (S1.ex _ _ hs)), .inl (.inl (S1.ex _ _ hs2)), k _ cs _ B1 H1 as1 q1 S1 e1 p1 (I.walksZ hs ra hs2 ra2)⟩⟩
    · obtain ⟨v, u, rfl, r, r2⟩ := vals2R r1
      obtain ⟨a, xs, rfl, hs, ra⟩ := Rp.unT r
      obtain ⟨b, ys, rfl, hs2, ra2⟩ := Rp.unT r2
      exact ⟨a, b, xs, ys, rfl, .inr ⟨ex_t S1.ex hs, ex_t S1.ex hs2, k _ cs _ B1 H1 as1 q1 S1 e1 p1 (walksZT hs ra hs2 ra2)⟩⟩
    · exact q1.elim
/-! ### isinstance -/
def tyN : W → Option String
  | .d .non => some "NoneType"
  | .d (.bl _) => some "bool"
  | .d (.int _) => some "int"
  | .d (.str _) => some "str"
  | .d (.lst _) => some "list"
  | .d (.tup _) => some "tuple"
  | .d (.dic _) => some "dict"
  | _ => none
theorem tyN_ok {x : W} {t : String} {cs : List Cell} {F B H : Hp} {as : List Addr} {v : V} (h : tyN x = some t) (S : Sc K F B H as cs) (r : RW K B as v x) : TyX K H v (.type t) := by
  cases x with
  | cel k => cases h
  | d d =>
    cases d with
    | non => cases h; cases Rp.unN r; exact .base .non
    | bl b => cases h; cases Rp.unB r; exact .base (.bl b)
    | int i => cases h; cases Rp.unI r; exact .base (.int i)
    | str s => cases h; cases Rp.unS r; exact .base (.str s)
    | lst ds => cases h; obtain ⟨a, xs, rfl, hs, _⟩ := Rp.unL r; exact .base (.lst (S.ex _ _ hs))
    | tup ds =>
      cases h
      obtain ⟨a, xs, rfl, hs, _⟩ := Rp.unT r
      rcases hs with (hs | ⟨o, hs⟩) | ⟨o, its, n, hl, hc, _⟩
      · exact .base (.tup (S.ex _ _ hs))
      · exact .fTuple (S.ex _ _ hs)
      · exact .kTuple hl hc
    | dic ds =>
      cases h
      cases r with
      | dic hB _ _ => exact .base (.dK (S.ex _ _ hB))
    | raw _ => cases h
    | scr _ => cases h
/-- the built-in classes of a tuple -/
def tyNs : List D → Option (List String)
  | [] => some []
  | .raw (.ty n) :: r => (tyNs r).map (n :: ·)
  | _ => none
theorem tyNs_ok {B : Hp} : ∀ {ds : List D} {ns : List String} {xs : List V}, tyNs ds = some ns → RpA K B xs ds → xs = ns.map V.ty
  | [], ns, xs, h, r => by cases h; cases r; rfl
  | .raw (.ty n) :: ds, ns, xs, h, r => by
    obtain ⟨ms, h1, rfl⟩ := Option.map_eq_some_iff.mp (show (tyNs ds).map (n :: ·) = some ns from h)
    cases r with
    | cons r rr => rw [Rp.unR r, tyNs_ok h1 rr]; rfl
def kitA (t : String) : List String → Option Bool
  | [] => some false
  | n :: ns => match kitB t n with
    | some true => some true
    | some false => kitA t ns
    | none => none
theorem kitA_ok {t : String} : ∀ {ns : List String} {b : Bool}, kitA t ns = some b → PySem.W.kitAny K (.type t) (ns.map Value.type) = some b
  | [], b, h => by cases h; exact kitAny_nil
  | n :: ns, b, h => by
    unfold kitA at h
    split at h
    · rename_i e; cases h; exact kitAny_cons (kit_ty e) (fun z => by cases z) (fun _ => rfl)
    · rename_i e; exact kitAny_cons (kit_ty e) (fun _ => kitA_ok h) (fun z => by cases z)
    · cases h
theorem clsVs : ∀ ns : List String, Paired ClsV (ns.map V.ty) (ns.map Value.type)
  | [] => .nil
  | n :: ns => .cons (.ty n) (clsVs ns)
namespace C
def isi : CB K where
  r := rIsi K
  w := fun xs cs Q => match xs with
    | [x, .d (.raw (.ty n))] => ∃ t b, tyN x = some t ∧ kitB t n = some b ∧ Q (.d (.bl b)) cs
    | _ => False
  ok := fun xs cs Q h F B H as vs S r R k => by
    split at h
    · obtain ⟨v, u, rfl, r1, r2⟩ := vals2R r
      cases Rp.unR r2
      obtain ⟨t, b, h1, h2, q⟩ := h
      exact ⟨v, _, _, _, b, rfl, .ty _, tyN_ok h1 S r1, kit_ty h2, k.now S (RW.p (Rp.bl _)) q⟩
    · exact h.elim
end C
def tTys : List String → TA
  | [] => tNil
  | n :: ns => tCons (tC (.ty n)) (tTys ns)
theorem tTys_ok {σ : L2.St} {H : Hp} : ∀ {ns : List String} {Q : List V → Hp → Prop}, Q (ns.map V.ty) H → tTys ns σ H Q
  | [], Q, h => h
  | n :: ns, Q, h => by
    show tTys ns σ H fun xs H2 => Q (.ty n :: xs) H2
    exact tTys_ok h
/-- isinstance(e, (a, b, ..)) -/
def E.isiT (a : ET K) (ns : List String) : ET K where
  te := tCB (rIsiT K) (tCons a.te (tCons (tTup (tTys ns)) tNil))
  w := fun Γ Q => a.w Γ fun x cs => ∃ t b, tyN x = some t ∧ ns.length ≤ lineN ∧ kitA t ns = some b ∧ Q (.d (.bl b)) cs
  ok := fun Γ Q h F σ B H as S R k => a.ok _ _ h F σ B H as S _ fun x cs v B1 H1 as1 q1 S1 e1 p1 r1 => by
    obtain ⟨t, b, h1, hl, h2, q⟩ := q1
    show tTys ns σ H1 _
    refine tTys_ok ⟨le_line (by rw [List.length_map]; exact hl), fun p hp => ?_⟩
    have eB : Ex B1 (upd B1 p (.tup (ns.map V.ty))) := Ex.new (S1.ex.back hp)
    have S2 := S1.newB (o := .tup (ns.map V.ty)) hp
    exact ⟨v, p, ns.map V.ty, .type t, ns.map Value.type, b, rfl, upd_same, clsVs ns, tyN_ok h1 S2 (RW.mono eB (Pre.refl _) r1), kitA_ok h2, (k.trans (e1.trans eB) p1).now S2 (RW.p (Rp.bl _)) q⟩
/-! ### is -/
namespace O
def isN : Op2 K where
  r := fun x y H Q => y = .non ∧ Q (.bl (decide (x = .non))) H
  w := fun x y cs Q => match y with
    | .d .non => (match x with
      | .d .non => Q (.d (.bl true)) cs
      | .d (.raw v) => Q (.d (.bl (decide (v = .non)))) cs
      | _ => Q (.d (.bl false)) cs)
    | _ => False
  ok := fun x y cs Q h F B H as v u S rx ry R k => by
    split at h
    · cases Rp.unN ry
      refine ⟨rfl, ?_⟩
      split at h
      · cases Rp.unN rx; exact k.now S (RW.p (Rp.bl _)) h
      · cases Rp.unR rx; exact k.now S (RW.p (Rp.bl _)) h
      · rename_i hx hr
        have : decide (v = .non) = false := by
          refine decide_eq_false ?_
          rintro rfl
          cases x with
          | cel j => obtain ⟨a, _, e⟩ := rx; cases e
          | d d =>
            cases d with
            | non => exact hx rfl
            | raw v => exact hr v rfl
            | _ => cases rx
        rw [this]
        exact k.now S (RW.p (Rp.bl _)) h
    · exact h.elim
def notN : Op2 K where
  r := fun x y H Q => y = .non ∧ Q (.bl (!decide (x = .non))) H
  w := fun x y cs Q => match y with
    | .d .non => (match x with
      | .d .non => Q (.d (.bl false)) cs
      | .d (.raw v) => Q (.d (.bl (!decide (v = .non)))) cs
      | _ => Q (.d (.bl true)) cs)
    | _ => False
  ok := fun x y cs Q h F B H as v u S rx ry R k => by
    split at h
    · cases Rp.unN ry
      refine ⟨rfl, ?_⟩
      split at h
      · cases Rp.unN rx; exact k.now S (RW.p (Rp.bl _)) h
      · cases Rp.unR rx; exact k.now S (RW.p (Rp.bl _)) h
      · rename_i hx hr
        have : decide (v = .non) = false := by
          refine decide_eq_false ?_
          rintro rfl
          cases x with
          | cel j => obtain ⟨a, _, e⟩ := rx; cases e
          | d d =>
            cases d with
            | non => exact hx rfl
            | raw v => exact hr v rfl
            | _ => cases rx
        rw [this]
        exact k.now S (RW.p (Rp.bl _)) h
    · exact h.elim
def isB : Op2 K where
  r := rIsB
  w := fun x y cs Q => match x, y with
    | .d (.bl a), .d (.bl b) => Q (.d (.bl (decide (a = b)))) cs
    | _, _ => False
  ok := fun x y cs Q h F B H as v u S rx ry R k => by
    split at h
    · cases Rp.unB rx; cases Rp.unB ry; exact ⟨_, _, rfl, rfl, k.now S (RW.p (Rp.bl _)) h⟩
    · exact h.elim
def notB : Op2 K where
  r := rNotB
  w := fun x y cs Q => match x, y with
    | .d (.bl a), .d (.bl b) => Q (.d (.bl (!decide (a = b)))) cs
    | _, _ => False
  ok := fun x y cs Q h F B H as v u S rx ry R k => by
    split at h
    · cases Rp.unB rx; cases Rp.unB ry; exact ⟨_, _, rfl, rfl, k.now S (RW.p (Rp.bl _)) h⟩
    · exact h.elim
end O
/-! ### a written dict with text keys -/
/-- at d: the dict of kvs, told of every text -/
structure KTab (w : World) (K : PySem.W.Frag) (d : Addr) (kvs : List (Str × V)) : Prop where
  dk : ∃ es n, KDict K w d es n
  at_ : ∀ z : Str, ∃ r, PySem.W.nsIn K d z = some r ∧ (match kvs.lookup z with
    | some v => ∃ u, r = some u ∧ RelV v u
    | none => r = none)
theorem look_of {kvs : List (Str × He.Dv)} {z : Str} : z ∈ kvs.map (·.1) → ∃ q ∈ kvs, q.1 = z ∧ (kvs.map fun q => (q.1, q.2.v K)).lookup z = some (q.2.v K) := by
  induction kvs with
  | nil => intro h; cases h
  | cons q kvs ih =>
    intro h
    by_cases e : z = q.1
    · subst e
      exact ⟨q, List.mem_cons_self, rfl, by simp⟩
    · have h2 : z ∈ kvs.map (·.1) := by
        rcases List.mem_cons.mp h with h | h
        · exact absurd h e
        · exact h
      obtain ⟨q', h3, h4, h5⟩ := ih h2
      refine ⟨q', List.mem_cons_of_mem _ h3, h4, ?_⟩
      have e' : (z == q.1) = false := by simpa using e
      rw [List.map_cons, List.lookup_cons, e']
      exact h5
theorem look_no {kvs : List (Str × He.Dv)} {z : Str} : z ∉ kvs.map (·.1) → (kvs.map fun q => (q.1, q.2.v K)).lookup z = none := by
  induction kvs with
  | nil => intro _; rfl
  | cons q kvs ih =>
    intro h
    rw [List.map_cons, List.mem_cons, not_or] at h
    have e' : (z == q.1) = false := by simpa using h.1
    rw [List.map_cons, List.lookup_cons, e']
    exact ih h.2
theorem keys_str {w : World} : ∀ {l : List DictEntry} {ks : List Str}, l.map He.keyOf = He.keysIn w.params ks → ∀ e ∈ l, ∃ x t, e.key = .str x t ∧ x ∈ ks
  | [], _, _ => fun e h => by cases h
  | e :: r, [], h => by cases h
  | e :: r, k :: ks, h => by
    have h1 : He.keyOf e :: r.map He.keyOf = some (k, PyData.keyHash w.params k) :: He.keysIn w.params ks := h
    injection h1 with h2 h3
    intro e' he'
    rcases List.mem_cons.mp he' with h | h
    · subst h
      unfold He.keyOf at h2
      split at h2
      · rename_i x t q
        have h4 := (Prod.mk.inj (Option.some.inj h2)).1
        exact ⟨x, t, q, by rw [h4]; exact List.mem_cons_self⟩
      · cases h2
    · obtain ⟨x, t, h5, h6⟩ := keys_str h3 e' h
      exact ⟨x, t, h5, List.mem_cons_of_mem _ h6⟩
theorem ktab_of {w : World} {d : Addr} {ks : List Str} {kvs : List (Str × He.Dv)} (h : He.dicW K d = some (He.keysIn w.params ks)) (hv : He.valsB K d kvs = true) (e : kvs.map (·.1) = ks) : KTab w K d (kvs.map fun q => (q.1, q.2.v K)) := by
  refine ⟨He.dicW_ok h, fun z => ?_⟩
  by_cases hz : z ∈ kvs.map (·.1)
  · obtain ⟨q, hq, rfl, hl⟩ := look_of (K := K) hz
    obtain ⟨u, h1, h2⟩ := He.valsB_ok hv hq
    exact ⟨_, h1, by rw [hl]; exact ⟨u, rfl, h2⟩⟩
  · refine ⟨none, ?_, by rw [look_no hz]⟩
    obtain ⟨es, n, dk⟩ := He.dicW_ok h
    have hd := dk.at_
    have hk : es.toList.map He.keyOf = He.keysIn w.params ks := by
      unfold He.dicW at h
      rw [hd] at h
      dsimp only at h
      split at h
      · exact Option.some.inj h
      · cases h
    have hs := keys_str hk
    unfold PySem.W.nsIn
    rw [hd]
    dsimp only
    have e1 : es.toList.find? (·.key.isStr z) = none := by
      rw [List.find?_eq_none]
      intro x hx hc
      obtain ⟨y, t, h1, h2⟩ := hs x hx
      rw [h1] at hc
      have : z = y := by
        rw [PySem.W.isStr_of] at hc
        obtain ⟨t', e'⟩ := Value.isStrOf_shape hc
        cases e'; rfl
      subst this
      rw [e] at hz
      exact hz h2
    have e2 : (es.toList.any (·.refKey)) = false := by
      rw [List.any_eq_false]
      intro x hx hc
      obtain ⟨y, t, h1, h2⟩ := hs x hx
      unfold DictEntry.refKey at hc
      rw [h1] at hc
      cases hc
    rw [e1]
    dsimp only
    rw [e2, if_neg Bool.false_ne_true]
section
variable {w : World} {d : Addr} {kvs : List (Str × V)}
def rInK (K : PySem.W.Frag) (d : Addr) (neg : Bool) : R2 := fun x y H Q => ∃ (z : Str) (r : Option Value), x = .str z ∧ y = .ref d ∧ PySem.W.nsIn K d z = some r ∧ Q (.bl (if neg then !r.isSome else r.isSome)) H
theorem O.op_inK {X : Cx} (T : KTab X.w X.K d kvs) : OpR X (compareOp .In) (rInK X.K d false) := by
  obtain ⟨es, n, dk⟩ := T.dk
  exact op_in_kd dk
theorem O.op_notInK {X : Cx} (T : KTab X.w X.K d kvs) : OpR X (compareOp .NotIn) (rInK X.K d true) := by
  obtain ⟨es, n, dk⟩ := T.dk
  exact op_notIn_kd dk
theorem KTab.some {z : Str} (T : KTab w K d kvs) : ∃ r, PySem.W.nsIn K d z = Option.some r ∧ r.isSome = (kvs.lookup z).isSome := by
  obtain ⟨r, h1, h2⟩ := T.at_ z
  refine ⟨r, h1, ?_⟩
  cases e : kvs.lookup z with
  | none => rw [e] at h2; rw [h2]; rfl
  | some v => rw [e] at h2; obtain ⟨u, rfl, _⟩ := h2; rfl
def O.inK (T : KTab w K d kvs) : Op2 K where
  r := rInK K d false
  w := fun x y cs Q => match x, y with
    | .d (.str z), .d (.raw (.ref d')) => d' = d ∧ Q (.d (.bl (kvs.lookup z).isSome)) cs
    | _, _ => False
  ok := fun x y cs Q h F B H as v u S rx ry R k => by
    split at h
    · cases Rp.unS rx; cases Rp.unR ry
      obtain ⟨rfl, q⟩ := h
      obtain ⟨r, h1, h2⟩ := T.some
      exact ⟨_, r, rfl, rfl, h1, k.now S (by rw [if_neg Bool.false_ne_true, h2]; exact RW.p (Rp.bl _)) q⟩
    · exact h.elim
def O.notInK (T : KTab w K d kvs) : Op2 K where
  r := rInK K d true
  w := fun x y cs Q => match x, y with
    | .d (.str z), .d (.raw (.ref d')) => d' = d ∧ Q (.d (.bl (!(kvs.lookup z).isSome))) cs
    | _, _ => False
  ok := fun x y cs Q h F B H as v u S rx ry R k => by
    split at h
    · cases Rp.unS rx; cases Rp.unR ry
      obtain ⟨rfl, q⟩ := h
      obtain ⟨r, h1, h2⟩ := T.some
      exact ⟨_, r, rfl, rfl, h1, k.now S (by rw [if_pos rfl, h2]; exact RW.p (Rp.bl _)) q⟩
    · exact h.elim
/-- d[z]: its values are scalars -/
def dOf : V → Option D
  | .non => some .non
  | .bl b => some (.bl b)
  | .int i => some (.int i)
  | .str s => some (.str s)
  | _ => none
theorem dOf_ok {B : Hp} {v : V} {x : D} (h : dOf v = Option.some x) : Rp K B v x := by
  cases v with
  | non => cases h; exact .non
  | bl b => cases h; exact .bl b
  | int i => cases h; exact .int i
  | str s => cases h; exact .str s
  | _ => cases h
def rIxK (K : PySem.W.Frag) (d : Addr) : R2 := fun x y H Q => ∃ (z : Str) (u0 : Value) (v0 : V), x = .ref d ∧ y = .str z ∧ PySem.W.nsIn K d z = some (some u0) ∧ RelV v0 u0 ∧ Q v0 H
theorem O.op_ixK {X : Cx} (T : KTab X.w X.K d kvs) : IxR X (rIxK X.K d) := by
  obtain ⟨es, n, dk⟩ := T.dk
  intro value slice pins s σ H x y v u Q I rx ry h hs
  obtain ⟨z, u0, v0, rfl, rfl, e, r, q⟩ := h
  have hm := PySem.W.mapOf_K (prog := X.prog) (w := X.w) I.kIn dk.at_ dk.lit
  cases rx
  obtain ⟨t, rfl⟩ := ry
  exact tail_any hm.typeIs slot_dict_getitem.lookup (wpAny_getItem_of (strKind_is X.prog X.w z t) hm (PySem.W.find_K dk.at_ e) ⟨v0, H, I.tok _, r, q⟩) hs
def O.ixK (T : KTab w K d kvs) : Op2 K where
  r := rIxK K d
  w := fun x y cs Q => match x, y with
    | .d (.raw (.ref d')), .d (.str z) => d' = d ∧ ∃ v x, kvs.lookup z = some v ∧ dOf v = some x ∧ Q (.d x) cs
    | _, _ => False
  ok := fun x y cs Q h F B H as v u S rx ry R k => by
    split at h
    · rename_i z
      cases Rp.unR rx; cases Rp.unS ry
      obtain ⟨rfl, v, x, h1, h2, q⟩ := h
      obtain ⟨r, h3, h4⟩ := T.at_ z
      rw [h1] at h4
      obtain ⟨u, rfl, h5⟩ := h4
      exact ⟨z, u, v, rfl, rfl, h3, h5, k.now S (RW.p (dOf_ok h2)) q⟩
    · exact h.elim
end
/-! ### dicts of the def's own -/
/-- pairs written -/
structure PT' (K : PySem.W.Frag) where
  ps : List (TE × TE)
  w : Ct → (List (W × W) → List Cell → Prop) → Prop
  ok : ∀ Γ Q, w Γ Q → ∀ F σ B H as, Sta K F σ B H as Γ → ∀ R : List (V × V) → Hp → Prop, (∀ xs cs vs B' H' as', Q xs cs → Sc K F B' H' as' cs → Ex B B' → Pre as as' → All2 (fun (v : V × V) (x : W × W) => RW K B' as' v.1 x.1 ∧ RW K B' as' v.2 x.2) vs xs → R vs H') → tPairs ps σ H R
namespace P
def nil : PT' K := ⟨[], fun Γ Q => Q [] Γ.cs, fun Γ Q h F σ B H as S R k => k [] _ [] B H as h S.toSc (Ex.refl _) (Pre.refl _) .nil⟩
def cons (a b : ET K) (r : PT' K) : PT' K where
  ps := (a.te, b.te) :: r.ps
  w := fun Γ Q => a.w Γ fun x cs => b.w ⟨Γ.sl, cs⟩ fun y cs2 => r.w ⟨Γ.sl, cs2⟩ fun xs cs3 => Q ((x, y) :: xs) cs3
  ok := fun Γ Q h F σ B H as S R k => a.ok _ _ h F σ B H as S _ fun x cs v B1 H1 as1 q1 S1 e1 p1 r1 =>
    b.ok _ _ q1 F σ B1 H1 as1 (S.step S1 e1 p1) _ fun y cs2 u B2 H2 as2 q2 S2 e2 p2 r2 => r.ok _ _ q2 F σ B2 H2 as2 (S.step S2 (e1.trans e2) (p1.trans p2)) _ fun xs cs3 vs B3 H3 as3 q3 S3 e3 p3 r3 =>
      k _ cs3 _ B3 H3 as3 q3 S3 (e1.trans (e2.trans e3)) (p1.trans (p2.trans p3)) (.cons ⟨RW.mono (e2.trans e3) (p2.trans p3) r1, RW.mono e3 p3 r2⟩ r3)
end P
def asKey : W → Option Key
  | .d (.int i) => some (.inl i)
  | .d (.str s) => some (.inr s)
  | _ => none
def asPairs : List (W × W) → Option (List (Key × D))
  | [] => some []
  | (k, .d x) :: r => match asKey k, asPairs r with
    | some k, some ps => some ((k, x) :: ps)
    | _, _ => none
  | _ => none
/-- of two that stand at one key the later one -/
def putD (kvs : List (Key × D)) (k : Key) (v : D) : List (Key × D) := if (kvs.any fun kv => decide (kv.1 = k)) = true then kvs.map (fun kv => if kv.1 = k then (kv.1, v) else kv) else kvs ++ [(k, v)]
def mergeD (kvs more : List (Key × D)) : List (Key × D) := more.foldl (fun acc kv => putD acc kv.1 kv.2) kvs
abbrev RpK (K : PySem.W.Frag) (B : Hp) : List (Key × V) → List (Key × D) → Prop := All2 fun (v : Key × V) (x : Key × D) => v.1 = x.1 ∧ Rp K B v.2 x.2
theorem put_ok {B : Hp} {kv : List (Key × V)} {ds : List (Key × D)} {k : Key} {v : V} {x : D} (h : RpK K B kv ds) (r : Rp K B v x) : RpK K B (putK kv k v) (putD ds k x) := by
  have e : (kv.any fun q => decide (q.1 = k)) = ds.any fun q => decide (q.1 = k) := by
    clear r
    induction h with
    | nil => rfl
    | cons r _ ih => rw [List.any_cons, List.any_cons, ih, r.1]
  unfold putK putD
  rw [e]
  split
  · refine h.map fun p q z => ?_
    rw [z.1]
    split
    · exact ⟨rfl, r⟩
    · exact z
  · exact h.append (.cons ⟨rfl, r⟩ .nil)
theorem merge_ok {B : Hp} : ∀ {m : List (Key × V)} {md : List (Key × D)} {kv : List (Key × V)} {ds : List (Key × D)}, RpK K B m md → RpK K B kv ds → RpK K B (mergeK kv m) (mergeD ds md)
  | _, _, _, _, .nil, h => h
  | _, _, kv, ds, .cons (x := p) (y := q) r t, h => by
    have h2 := put_ok (k := p.1) h r.2
    have e : p.1 = q.1 := r.1
    show RpK K B (mergeK (putK kv p.1 p.2) _) (mergeD (putD ds q.1 q.2) _)
    rw [← e]
    exact merge_ok t h2
theorem Rp.mkD {B : Hp} {a : Addr} {kv : List (Key × V)} {ds : List (Key × D)} (h : B a = some (.dK kv)) (r : RpK K B kv ds) : Rp K B (.ref a) (.dic ds) := by
  refine .dic h ?_ fun i x d h1 h2 => (All2.at r i x d h1 h2).2
  clear h
  induction r with
  | nil => rfl
  | cons r _ ih => rw [List.map_cons, List.map_cons, ih, r.1]
theorem Rp.unD {B : Hp} {v : V} {ds : List (Key × D)} (h : Rp K B v (.dic ds)) : ∃ a kv, v = .ref a ∧ B a = some (.dK kv) ∧ RpK K B kv ds := by
  cases h with
  | @dic a kv _ hB hk r =>
    refine ⟨a, kv, rfl, hB, ?_⟩
    clear hB
    induction kv generalizing ds with
    | nil => cases ds with
      | nil => exact .nil
      | cons d ds => simp at hk
    | cons p kv ih => cases ds with
      | nil => simp at hk
      | cons d ds =>
        simp at hk
        exact .cons ⟨hk.1, r 0 p d rfl rfl⟩ (ih hk.2 fun i x d h1 h2 => r (i + 1) x d (by simpa using h1) (by simpa using h2))
namespace E
def dnew : ET K where
  te := tDNewK
  w := fun Γ Q => Q (.d (.dic [])) Γ.cs
  ok := fun Γ Q h F σ B H as S R k => fun p hp => k _ _ _ (upd B p (.dK [])) _ as h (S.newB hp) (Ex.new (S.ex.back hp)) (Pre.refl _) (RW.p (Rp.mkD upd_same .nil))
def disp (a : PT' K) : ET K where
  te := tDisp a.ps
  w := fun Γ Q => a.w Γ fun xs cs => ∃ ps, asPairs xs = some ps ∧ ps.length ≤ 15 ∧ Q (.d (.dic (mergeD [] ps))) cs
  ok := fun Γ Q h F σ B H as S R k => by
    intro p hp
    have hF0 : F p = none := by
      cases q : F p with
      | none => rfl
      | some o => have := (S.fr p o q).1; rw [hp] at this; cases this
    have hA : p ∉ as := fun m => by
      obtain ⟨o, ho⟩ := S.mem m
      rw [hp] at ho; cases ho
    have S0 : Sta K (upd F p (.dK [])) σ B (upd H p (.dK [])) as Γ := by
      refine ⟨⟨S.ex.trans (Ex.new hp), fun a o e => ?_, S.nd, S.ln, fun j a c ha hc => ?_⟩, S.ls, S.sl⟩
      · by_cases q : a = p
        · subst q; rw [upd_same] at e; cases e; exact ⟨upd_same, S.ex.back hp, hA⟩
        · rw [upd_ne q] at e
          obtain ⟨f1, f2, f3⟩ := S.fr a o e
          exact ⟨by rw [upd_ne q]; exact f1, f2, f3⟩
      · have c2 := S.ce j a c ha hc
        have q : a ≠ p := by rintro rfl; exact hA (List.mem_of_getElem? ha)
        exact c2.mono (Ex.refl _) id (Pre.refl _) fun o e => by rw [upd_ne q]; exact e
    refine a.ok _ _ h _ σ B _ as S0 _ fun xs cs vs B1 H1 as1 q1 S1 e1 p1 r1 => ?_
    obtain ⟨ps, h1, hl, q⟩ := q1
    obtain ⟨d1, d2, d3⟩ := S1.fr p _ upd_same
    have key : ∀ {xs : List (W × W)} {vs : List (V × V)} {ps : List (Key × D)}, asPairs xs = some ps → All2 (fun (v : V × V) (x : W × W) => RW K B1 as1 v.1 x.1 ∧ RW K B1 as1 v.2 x.2) vs xs → ∃ kvs : List (Key × V), vs = kvs.map (fun kv => (kV kv.1, kv.2)) ∧ RpK K B1 kvs ps := by
      intro xs
      induction xs with
      | nil => intro vs ps h r; cases h; cases r; exact ⟨[], rfl, .nil⟩
      | cons x xs ih =>
        intro vs ps h r
        obtain ⟨kx, vx⟩ := x
        cases vx with
        | cel j => cases h
        | d y =>
          unfold asPairs at h
          split at h
          · rename_i k' ps' g1 g2
            cases h
            cases r with
            | cons r rr =>
              obtain ⟨kvs, e, rk⟩ := ih g2 rr
              rename_i v' vs'
              obtain ⟨v1, v2⟩ := v'
              have ek : v1 = kV k' := by
                have r1 := r.1
                unfold asKey at g1
                split at g1
                · cases g1; exact Rp.unI r1
                · cases g1; exact Rp.unS r1
                · cases g1
              exact ⟨(k', v2) :: kvs, by rw [e, ek]; rfl, .cons ⟨rfl, r.2⟩ rk⟩
          · cases h
    obtain ⟨kvs, ekv, rk⟩ := key h1 r1
    have eB : Ex B1 (upd B1 p (.dK (mergeK [] kvs))) := Ex.new d2
    have S2 : Sc K F (upd B1 p (.dK (mergeK [] kvs))) (upd H1 p (.dK (mergeK [] kvs))) as1 cs := by
      refine ⟨fun a o e => ?_, fun a o e => ?_, S1.nd, S1.ln, fun j a c ha hc => ?_⟩
      · by_cases q : a = p
        · subst q; rw [upd_same] at e; cases e; exact upd_same
        · rw [upd_ne q] at e ⊢; exact S1.ex _ _ e
      · have q : a ≠ p := by rintro rfl; rw [hF0] at e; cases e
        obtain ⟨f1, f2, f3⟩ := S1.fr a o (by rw [upd_ne q]; exact e)
        rw [upd_ne q, upd_ne q]
        exact ⟨f1, f2, f3⟩
      · have c2 := S1.ce j a c ha hc
        have q : a ≠ p := by rintro rfl; exact d3 (List.mem_of_getElem? ha)
        exact c2.mono eB (fun z => by rw [upd_ne q]; exact z) (Pre.refl _) fun o e => by rw [upd_ne q]; exact e
    exact ⟨d1, kvs, ekv, by rw [rk.length]; exact hl, k _ cs _ _ _ as1 q S2 (e1.trans eB) p1 (RW.p (Rp.mkD upd_same (merge_ok (rk.imp fun _ _ z => ⟨z.1, z.2.mono eB⟩) .nil)))⟩
def valD (kvs : List (Key × D)) (k : Key) : Option D := (kvs.find? fun kv => decide (kv.1 = k)).map (·.2)
theorem valD_ok {B : Hp} {kv : List (Key × V)} {ds : List (Key × D)} {k : Key} {x : D} (h : RpK K B kv ds) (e : valD ds k = some x) : ∃ v, valV kv k = some v ∧ Rp K B v x := by
  induction h with
  | nil => cases e
  | @cons p q ps qs r _ ih =>
    unfold valD at e
    by_cases hq : q.1 = k
    · rw [List.find?_cons_of_pos (by simpa using hq)] at e
      cases e
      exact ⟨p.2, valV_pos (r.1.trans hq), r.2⟩
    · rw [List.find?_cons_of_neg (by simpa using hq)] at e
      obtain ⟨v, h1, h2⟩ := ih e
      exact ⟨v, by rw [valV_neg (fun z => hq (r.1.symm.trans z))]; exact h1, h2⟩
/-- d[k], there -/
def dget (a b : ET K) : ET K where
  te := tDGet a.te b.te
  w := fun Γ Q => a.w Γ fun x cs => b.w ⟨Γ.sl, cs⟩ fun y cs2 => match x with
    | .d (.dic ds) => ∃ k z, asKey y = some k ∧ valD ds k = some z ∧ Q (.d z) cs2
    | _ => False
  ok := fun Γ Q h F σ B H as S R k => a.ok _ _ h F σ B H as S _ fun x cs v B1 H1 as1 q1 S1 e1 p1 r1 =>
    b.ok _ _ q1 F σ B1 H1 as1 (S.step S1 e1 p1) _ fun y cs2 u B2 H2 as2 q2 S2 e2 p2 r2 => by
      cases x with
      | cel _ => exact q2.elim
      | d x =>
        cases x with
        | dic ds =>
          obtain ⟨ky, z, h1, h2, q⟩ := q2
          obtain ⟨a, kv, rfl, hB, rk⟩ := Rp.unD (Rp.mono e2 r1)
          obtain ⟨zv, h3, h4⟩ := valD_ok rk h2
          have eu : u = kV ky := by
            unfold asKey at h1
            split at h1
            · cases h1; exact Rp.unI r2
            · cases h1; exact Rp.unS r2
            · cases h1
          refine ⟨a, zv, rfl, .inl ⟨kv, ky, .inl (S2.ex _ _ hB), eu, h3.symm⟩, (k.trans (e1.trans e2) (p1.trans p2)).now S2 (RW.p h4) q⟩
        | _ => exact q2.elim
end E
/-- a call whose def lays what can change anew -/
def SpN (K : PySem.W.Frag) (Φ : List W → WQ → Prop) : Sp := fun vs H Q _ => ∃ F B ws κ, Sc K F B H [] [] ∧ RWA K B [] vs ws ∧ Φ ws κ ∧ ∀ x cs' v B' H' as', κ x cs' → Sc K F B' H' as' cs' → Ex B B' → RW K B' as' v x → Q v H'
def E.callN (Φ : List W → WQ → Prop) (a : AT K) : ET K where
  te := tCall (SpN K Φ) [] E0 a.ta
  w := fun Γ Q => a.w Γ fun ws cs => cs = [] ∧ Φ ws Q
  ok := fun Γ Q h F σ B H as S Rk k => a.ok _ _ h F σ B H as S _ fun xs cs vs B1 H1 as1 q1 S1 e1 p1 r1 => by
    obtain ⟨rfl, q⟩ := q1
    show SpN K Φ (vs ++ []) H1 Rk E0
    rw [List.append_nil]
    have ea : as1 = [] := List.eq_nil_of_length_eq_zero (by rw [S1.ln]; rfl)
    subst ea
    exact ⟨F, B1, xs, Q, S1, r1, q, fun x cs' v B' H' as' q' S' e r => k x cs' v B' H' as' q' S' (e1.trans e) (p1.trans fun k a h => by cases h) r⟩
theorem body_N {Φ : List W → WQ → Prop} (N : List Str) (b : St K) (h : ∀ ws κ, Φ ws κ → b.w (entry N ws []) { nx := fun _ => False, rt := κ }) :
    ∀ vs H Q E, SpN K Φ vs H Q E → b.ts { nx := fun _ H' => Q .non H', rt := Q } (L2.start N vs) H := fun vs H Q E hs => by
  obtain ⟨F, B, ws, κ, S, r, hΦ, k⟩ := hs
  exact b.ok _ _ (h ws κ hΦ) F _ B H [] (start_sta S r) _ ⟨fun Γ' σ' B' H' as' n => n.elim, fun x cs v B' H' as' n S' e p r' => k x cs v B' H' as' n S' e r', fun Γ' σ' B' H' as' n => n.elim, fun Γ' σ' B' H' as' n => n.elim⟩
/-! ### keywords -/
section
variable {X : Cx} {CX : CXT} {k : Nat} {f : Addr} {fd : FuncData} {ps : List Str} {sp : Sp} {E : XK} {x : Str} {p pos : Pos} {kws : List Keyword} {tk : TA}
def KwB (K : PySem.W.Frag) (fd : FuncData) (ps : List Str) : Prop := ∀ (s : Shared) (ws : List Value), ws.length = ps.length → BindsTo s fd ⟨[], ps.zip ws⟩ (ps.zip ws)
/-- f(k = v, ..), all by keywords in the parameters' order -/
theorem pe_callKw (F : FnOk X.prog X.w X.K X.mg X.base CX k f fd ps sp) (hr : Room k X.A) (hg : Gl X x) (hm : X.mg x = some (.ref f)) (hk : PySem.W.keepIn X.K (.ref f) = true) (hb : KwB X.K fd ps) (hx : Passes CX X E) (hkw : PK X kws tk)
    (hall : (backToKw pos (keywordEach kws X.env)).all (·.1.isSome) = true := by rfl) (hks : (backToKw pos (keywordEach kws X.env)).filterMap (·.1) = ps := by rfl) (hdb : (x == ("__debug__" : Str)) = false := by decide)
    (hpl : ((backTo pos (starEach [] X.env)).any (·.1) || (backToKw pos (keywordEach kws X.env)).any (·.1.isNone)) = false := by rfl) : PE X (.Call (.Name x p) [] kws pos) (tCall sp [] E tk) := ⟨fun pins s σ H Q I h => by
  refine wpAny_Call_Name_kw (ld_glob I hg hm ?_ hdb)
  refine PySem.W.callWith_KW0 (h₀ := X.base) I.ok.mod.kin hk hall (thn (hkw.run pos pins s σ H _ I h) ?_) hpl
  rintro ws s2 ⟨zs, H2, I2, rz, q2⟩
  refine ⟨I2.kIn, ?_⟩
  rw [hks]
  have q3 : sp zs H2 Q E := by rw [← List.append_nil zs]; exact q2
  have hl : ws.length = ps.length := by rw [← rz.length]; exact F.len _ _ _ _ q3
  refine wpAny_call (codeAny_mono (F.run X.A X.stack s2 H2 _ ws zs Q E hr I2.env0 (hb s2 ws hl) rz q3) fun r s' hq => ?_)
  cases r with
  | error e => exact hx pins σ H2 s2 e s' I2 hq
  | ok fl =>
    cases fl with
    | ret u => exact I2.after hq
    | _ => exact hq.elim⟩
end
theorem kwB_of {x qual : Str} {params : Arguments} {body : List Stmt} {scope : Scope} {f : Addr} {fd : FuncData} {ps : List Str} (F : FunD K x qual params body scope [] [] f fd)
    (h : ∀ (kV doc pm : Value) (an : Option Addr) (cdv ct : Value) (ws : List Value), ws.length = ps.length → bindArgs (PySem.W.fnOf x qual params body scope .none kV doc pm an cdv ct) ⟨[], ps.zip ws⟩ = pure (ps.zip ws)) : KwB K fd ps := by
  obtain ⟨oc, od, dV, kV, doc, pm, an, cdv, ct, osl, rfl, lk, hcd, hD, hK⟩ := F.ex
  rcases hD with ⟨_, rfl⟩ | ⟨e, _⟩
  · exact fun s ws hl => .of_eq (h kV doc pm an cdv ct ws hl)
  · exact absurd rfl e
/-! ### a def that is kept -/
section
variable {P : Program} {w : World} {mg : Str → Option Value} {base : Heap} {x qual : Str} {params : Arguments} {body : List Stmt} {scope : Scope} {dvs : List V} {kws : List (Str × V)} {f : Addr} {fd : FuncData} {N ps : List Str} {k : Nat} {sp : Sp}
theorem fn_ok (F : FunD K x qual params body scope dvs kws f fd) (S : FnScope N ps scope) (len : ∀ vs H Q E, sp vs H Q E → vs.length = ps.length) (b : St K)
    (hd : ∀ (cdv : Value) (A : Around) (outer : List Env) (s : Shared) (H : Hp) (E : XK), Room k (A.deeper (envOfC qual scope s.heap.objs.size f cdv)) → PSs (cxOf CX0 P w K mg base N qual scope f cdv A outer s H E).nox body b.ts)
    (hs : ∀ vs H Q E, sp vs H Q E → b.ts { nx := fun _ H' => Q .non H', rt := Q } (L2.start N vs) H) : FnOk P w K mg base CX0 (k + 1) f fd ps sp :=
  F.ok S len fun cdv A outer s H vs Q E hr h => ⟨b.ts, (hd cdv A outer s H E hr).nox, hs vs H Q E h⟩
end
end
end Pl

namespace Pl
open PySem PySem.Spec PyProof.Rows L2
/-! ### the rules of derivation, told of the bundles -/
section
variable {X : Cx} {s : Stmt} {r l l2 : List Stmt} {pos p p' p2 p3 : Pos}
theorem dss_nil : PSs X [] (S.nil (K := X.K)).ts := pss_nil
theorem dss_one {a : St X.K} (h : PS X s a.ts) : PSs X [s] a.ts := pss_one h
theorem dss_cons {a b : St X.K} (h : PS X s a.ts) (h2 : PSs X r b.ts) : PSs X (s :: r) (S.seq a b).ts := pss_cons (t := a.ts) (u := b.ts) h h2
theorem ds_ret {e : Expr} {a : ET X.K} (h : PE X e a.te) : PS X (.Return (some e) pos) (S.ret a).ts := ps_ret h
theorem ds_expr {e : Expr} {a : ET X.K} (h : PE X e a.te) (h2 : swapsWith e none pos.line X.env = pure false := by rfl) : PS X (.Expr e pos) (S.drop a).ts := ps_expr h h2
theorem ds_set {i : Nat} {x : Str} {e : Expr} {a : ET X.K} (nd : X.N.Nodup) (h : X.N[i]? = some x) (l : L2.Loc X.env.scope x) (he : PE X e a.te)
    (h2 : swapsWith e (some (.Name x p')) pos.line X.env = pure false := by rfl) (h3 : X.fn x = true ∨ X.env.scope.names.lookup x = some .local := by first | exact .inl rfl | exact .inr rfl) :
    PS X (.Assign [.Name x p'] e pos) (S.asg a (G.name i)).ts := ps_set nd h l he h2 h3
theorem ds_asg {tg e : Expr} {a : ET X.K} {g : TGt X.K} (h : PE X e a.te) (hg : PG X tg g.g) (h1 : swapsWithSole [tg] e pos.line X.env = pure false := by rfl)
    (h2 : swappedStores [tg] e X.env = pure none := by rfl) (h3 : (assignEach [tg] X.env).map (·.2) = [assign tg X.env] := by rfl) : PS X (.Assign [tg] e pos) (S.asg a g).ts := ps_asg h hg h1 h2 h3
theorem ds_par {i j : Nat} {x y : Str} {a b : Expr} {c : AT X.K} {px py pt pt2 : Pos} {kt k2 : Nat} (hc : X.calm = true) (nd : X.N.Nodup) (hi : X.N[i]? = some x) (hj : X.N[j]? = some y) (ij : i ≠ j)
    (lx : X.env.scope.names.lookup x = some .local) (ly : X.env.scope.names.lookup y = some .local) (ha : PA X [a, b] c.ta)
    (hs : swappedStores [.Tuple [.Name x px, .Name y py] kt pt] (.Tuple [a, b] k2 pt2) X.env = pure (some [x, y]))
    (h1 : swapsWithSole [.Tuple [.Name x px, .Name y py] kt pt] (.Tuple [a, b] k2 pt2) pos.line X.env = pure false := by rfl) :
    PS X (.Assign [.Tuple [.Name x px, .Name y py] kt pt] (.Tuple [a, b] k2 pt2) pos) (S.par i j c).ts := ps_par hc nd hi hj ij lx ly ha hs h1
theorem ds_par3 {i j l : Nat} {x y z : Str} {a b c : Expr} {d : AT X.K} {px py pz pt pt2 : Pos} {kt k2 : Nat} (hc : X.calm = true) (nd : X.N.Nodup) (hi : X.N[i]? = some x) (hj : X.N[j]? = some y) (hl : X.N[l]? = some z) (ij : i ≠ j) (il : i ≠ l) (jl : j ≠ l)
    (lx : X.env.scope.names.lookup x = some .local) (ly : X.env.scope.names.lookup y = some .local) (lz : X.env.scope.names.lookup z = some .local) (ha : PA X [a, b, c] d.ta)
    (hs : swappedStores [.Tuple [.Name x px, .Name y py, .Name z pz] kt pt] (.Tuple [a, b, c] k2 pt2) X.env = pure (some [x, y, z]))
    (h1 : swapsWithSole [.Tuple [.Name x px, .Name y py, .Name z pz] kt pt] (.Tuple [a, b, c] k2 pt2) pos.line X.env = pure false := by rfl) :
    PS X (.Assign [.Tuple [.Name x px, .Name y py, .Name z pz] kt pt] (.Tuple [a, b, c] k2 pt2) pos) (S.par3 i j l d).ts := ps_par3 hc nd hi hj hl ij il jl lx ly lz ha hs h1
theorem ds_if {c : Expr} {t : TTs X.K} {a b : St X.K} (h : PT X c t.tt) (ha : PSs X l a.ts) (hb : PSs X l2 b.ts) : PS X (.If c l l2 pos) (S.ite t a b).ts := ps_if h ha hb
theorem ds_for {tg iter : Expr} {it : IT X.K} {g : TGt X.K} {b : St X.K} (ho : PassesOwn (model X.prog X.w) X.A X.env X.xe) (hc : X.calm = true) (hi : PI X tg iter it.wi) (hg : PG X tg g.g) (hb : PSs X l b.ts)
    (h1 : ∀ x, foldedSetIterable iter X.env x = pure x := by intro _; rfl) : PS X (.For tg iter l [] pos) (S.for_ it g b).ts := ps_for ho hc hi hg hb h1
theorem ds_while {c : Expr} {t : TTs X.K} {b : St X.K} (ho : PassesOwn (model X.prog X.w) X.A X.env X.xe) (h : PT X c t.tt) (hb : PSs X l b.ts) : PS X (.While c l [] pos) (S.while_ t b).ts := ps_while ho h hb
theorem ds_never : PS X s (S.never (K := X.K)).ts := ps_never
theorem ds_break : PS X (.Break pos) (S.brk (K := X.K)).ts := ps_break
theorem ds_continue : PS X (.Continue pos) (S.cont (K := X.K)).ts := ps_continue
theorem ds_setLc {i : Nat} {y : Str} {py spos : Pos} {elt tg iter : Expr} {ifs : List Expr} {scope : Scope} {own : List (Str × Nat)} {it : IT X.K} {g : TGi X.K (own.map (·.2))} {t : TTs X.K} {e : ET X.K}
    (hc : X.calm = true) (nd : X.N.Nodup) (hi : X.N[i]? = some y) (ly : X.env.scope.names.lookup y = some .local)
    (hs : swapsWith (.ListComp elt [{ target := tg, iter := iter, ifs := ifs, is_async := 0 }] scope pos) (some (.Name y py)) spos.line X.env = pure true)
    (h1 : PI X tg iter it.wi) (h2 : BlkOk X.N X.env.scope scope own) (h3 : ∀ s H C cl fp, PG (X.blk s H scope (compEnvC scope cl C X.env) fp) tg g.g) (h4 : ∀ s H C cl fp, PTs (X.blk s H scope (compEnvC scope cl C X.env) fp) ifs t.tt)
    (h5 : ∀ s H C cl fp, PE (X.blk s H scope (compEnvC scope cl C X.env) fp) elt e.te) (h6 : ∀ x, foldedSetIterable iter X.env x = pure x := by intro _; rfl) :
    PS X (.Assign [.Name y py] (.ListComp elt [{ target := tg, iter := iter, ifs := ifs, is_async := 0 }] scope pos) spos) (S.asg (E.lc (own.map (·.2)) it g t e) (G.name i)).ts := ps_setLc hc nd hi ly hs h1 h2 h3 h4 h5 h6
section
variable {a b c : Expr} {ea eb ec : ET X.K} {op op' : CmpOp} {o o' : Op2 X.K}
theorem de_lc {elt tg iter : Expr} {ifs : List Expr} {scope : Scope} {own : List (Str × Nat)} {it : IT X.K} {g : TGi X.K (own.map (·.2))} {t : TTs X.K} {e : ET X.K}
    (hc : X.calm = true) (nd : X.N.Nodup) (h1 : PI X tg iter it.wi) (h2 : BlkOk X.N X.env.scope scope own) (h3 : ∀ s H C cl fp, PG (X.blk s H scope (compEnvC scope cl C X.env) fp) tg g.g) (h4 : ∀ s H C cl fp, PTs (X.blk s H scope (compEnvC scope cl C X.env) fp) ifs t.tt)
    (h5 : ∀ s H C cl fp, PE (X.blk s H scope (compEnvC scope cl C X.env) fp) elt e.te) (h6 : ∀ x, foldedSetIterable iter X.env x = pure x := by intro _; rfl) :
    PE X (.ListComp elt [{ target := tg, iter := iter, ifs := ifs, is_async := 0 }] scope pos) (E.lc (own.map (·.2)) it g t e).te := pe_lc hc nd h1 h2 h3 h4 h5 h6
theorem dts_nil : PTs X [] (T.yes (K := X.K)).tt := pts_nil
theorem de_op {oo : Operator} (ho : OpR X (binaryOp oo) o.r) (ha : PE X a ea.te) (hb : PE X b eb.te) : PE X (.BinOp a oo b pos) (E.op o ea eb).te := pe_op ho ha hb
theorem de_un {oo : UnaryOp} {u : Op1 X.K} (ho : UnR X (unaryOp oo) u.r) (ha : PE X a ea.te) : PE X (.UnaryOp oo a pos) (E.un u ea).te := pe_un (r := u.r) ho ha
theorem de_ix (ho : IxR X o.r) (ha : PE X a ea.te) (hb : PE X b eb.te) (hp : PlainIx b) : PE X (.Subscript a b pos) (E.op o ea eb).te := pe_ix ho ha hb hp
theorem de_cmpR (ho : OpR X (compareOp op) o.r) (ha : PE X a ea.te) (hb : PE X b eb.te) (hm : behindInMarks op b = false) : PE X (.Compare a [op] [b] pos) (E.op o ea eb).te := pe_cmpR ho ha hb hm
theorem dt_cmpR (ho : OpR X (compareOp op) o.r) (ha : PE X a ea.te) (hb : PE X b eb.te) (hm : behindInMarks op b = false) : PT X (.Compare a [op] [b] pos) (T.cmp (E.op o ea eb)).tt := pt_cmpR ho ha hb hm
theorem de_chain (ho : OpR X (compareOp op) o.r) (ho' : OpR X (compareOp op') o'.r) (ha : PE X a ea.te) (hb : PE X b eb.te) (hc : PE X c ec.te) (hm : lastMarks [op, op'] [b, c] = false := by rfl) :
    PE X (.Compare a [op, op'] [b, c] pos) (E.chain o o' ea eb ec).te := pe_chain ho ho' ha hb hc hm
theorem dt_chain (ho : OpR X (compareOp op) o.r) (ho' : OpR X (compareOp op') o'.r) (ha : PE X a ea.te) (hb : PE X b eb.te) (hc : PE X c ec.te) (hm : lastMarks [op, op'] [b, c] = false := by rfl) :
    PT X (.Compare a [op, op'] [b, c] pos) (T.cmp (E.chain o o' ea eb ec)).tt := pt_chain ho ho' ha hb hc hm
theorem dt_truth (ha : PE X a ea.te) (h : ∀ whole : Sem Value, PySem.isTrue a X.env whole = (do let v ← whole; standAt a.pos; holding [v] (truthy v))) : PT X a (T.tru ea).tt := pt_truth ha h
theorem dt_not {t : TTs X.K} (h : PT X a t.tt) : PT X (.UnaryOp .Not a pos) (T.not t).tt := pt_not h
theorem de_andT {rest : List Expr} (ha : PE X a ea.te) (hb : PE X (.BoolOp .And (b :: rest) pos) eb.te) : PE X (.BoolOp .And (a :: b :: rest) pos) (E.andT ea eb).te := pe_andT ha hb
theorem de_orT {rest : List Expr} (ha : PE X a ea.te) (hb : PE X (.BoolOp .Or (b :: rest) pos) eb.te) : PE X (.BoolOp .Or (a :: b :: rest) pos) (E.orT ea eb).te := pe_orT ha hb
theorem de_notT (ha : PE X a ea.te) : PE X (.UnaryOp .Not a pos) (E.notT ea).te := pe_notT ha
theorem de_one {op : BoolOp} (ha : PE X a ea.te) : PE X (.BoolOp op [a] pos) ea.te := pe_one ha
theorem dw_and {rest : List Expr} {t u : TTs X.K} (ha : PT X a t.tt) (hb : PW X (.BoolOp .And (b :: rest) pos) u.tt) : PW X (.BoolOp .And (a :: b :: rest) pos) (T.and t u).tt := pw_and ha hb
theorem dw_and1 {t : TTs X.K} (ha : PT X a t.tt) : PW X (.BoolOp .And [a] pos) t.tt := pw_and1 ha
theorem dw_or {rest : List Expr} {t u : TTs X.K} (ha : PT X a t.tt) (hb : PW X (.BoolOp .Or (b :: rest) pos) u.tt) : PW X (.BoolOp .Or (a :: b :: rest) pos) (T.or t u).tt := pw_or ha hb
theorem dw_or1 {t : TTs X.K} (ha : PT X a t.tt) : PW X (.BoolOp .Or [a] pos) t.tt := pw_or1 ha
theorem dw_pt {t : TTs X.K} (h : PW X a t.tt) : PT X a t.tt := PW.pt h
theorem de_ifExp {t : TTs X.K} (h : PT X c t.tt) (ha : PE X a ea.te) (hb : PE X b eb.te) : PE X (.IfExp c a b pos) (E.ite t ea eb).te := pe_ifExp h ha hb
variable {es : List Expr} {at' : AT X.K} {n : Nat}
theorem de_tup (h : PA X es at'.ta) : PE X (.Tuple es n pos) (E.tup at').te := pe_tup h
theorem de_lst (h : PA X es at'.ta) : PE X (.List es pos) (E.lst at').te := pe_lst h
theorem de_lstC (h : PA X es at'.ta) : PE X (.List es pos) (E.lstC at').te := pe_lst h
theorem de_frz (h : PE X a ea.te) : PE X a (E.frz ea).te := h
theorem da_nil : PA X [] (A.nil (K := X.K)).ta := pa_nil
theorem da_cons (ha : PE X a ea.te) (h : PA X es at'.ta) (hs : starEach (a :: es) X.env = (false, eval a X.env) :: starEach es X.env := by rfl) : PA X (a :: es) (A.cons ea at').ta := pa_cons ha h hs
theorem dps_nil : PPs X pos [] [] (P.nil (K := X.K)).ps := pps_nil
theorem dps_cons {ks : List (Option Expr)} {vs : List Expr} {t : PT' X.K} (ha : PE X a ea.te) (hb : PE X b eb.te) (h : PPs X pos ks vs t.ps) : PPs X pos (some a :: ks) (b :: vs) (P.cons ea eb t).ps := pps_cons ha hb h
theorem de_disp {ks : List (Option Expr)} {vs : List Expr} {t : PT' X.K} (h : PPs X pos ks vs t.ps) (h1 : (ks.all fun x => x.isSome) = true) (h2 : ks.length = vs.length) (h3 : ks ≠ []) (h4 : ks.length ≤ 15) : PE X (.Dict ks vs pos) (E.disp t).te := pe_disp h h1 h2 h3 h4
theorem de_dnewK : PE X (.Dict [] [] pos) (E.dnew (K := X.K)).te := pe_dnewK
theorem de_revS {k : Nat} {p1 : Pos} (h : PE X a ea.te) : PE X (.Subscript a (.Slice none none (some (.UnaryOp .USub (.Constant (.int 1) k p1) p2)) p3) pos) (E.revS ea).te := pe_revS h
theorem de_revL {k : Nat} {p1 : Pos} (h : PE X a ea.te) : PE X (.Subscript a (.Slice none none (some (.UnaryOp .USub (.Constant (.int 1) k p1) p2)) p3) pos) (E.revL ea).te := pe_revL h
variable {lo hi : Option Expr} {ol oh : OT X.K}
theorem de_slice (h : PE X a ea.te) (hl : PO X lo ol.t) (hh : PO X hi oh.t) : PE X (.Subscript a (.Slice lo hi none p2) pos) (E.slice ea ol oh).te := pe_slice sl_G h hl hh
theorem do_none : PO X none (OO.none (K := X.K)).t := po_none
theorem do_some (h : PE X a ea.te) : PO X (some a) (OO.part ea).t := po_some h
theorem de_dget (hu : X.A.units + 1 < cLine) (ha : PE X a ea.te) (hb : PE X b eb.te) (hn : NoSl b) : PE X (.Subscript a b pos) (E.dget ea eb).te := pe_dget hu ha hb hn
variable {tg : Expr}
theorem di_str (h : PE X a ea.te) : PI X tg a (I.str ea).wi := pi_str h
theorem di_list (h : PE X a ea.te) : PI X tg a (I.list ea).wi := pi_list h
theorem di_tup (h : PE X a ea.te) : PI X tg a (I.tup ea).wi := pi_tup h
theorem di_range1 (hg : Gl X "range") (hm : X.mg "range" = none) (h : PA X [a] at'.ta) (h1 : starEach [a] X.env = [(false, eval a X.env)] := by rfl) : PI X tg (.Call (.Name "range" p) [a] [] pos) (I.range1 at').wi := pi_range1 hg hm h h1
theorem di_range2 (hg : Gl X "range") (hm : X.mg "range" = none) (h : PA X [a, b] at'.ta) (h1 : starEach [a, b] X.env = [(false, eval a X.env), (false, eval b X.env)] := by rfl) (h2 : starEach [b] X.env = [(false, eval b X.env)] := by rfl) : PI X tg (.Call (.Name "range" p) [a, b] [] pos) (I.range2 at').wi := pi_range2 hg hm h h1 h2
theorem di_enum {elts : List Expr} {kk : Nat} {tpos : Pos} (hg : Gl X "enumerate") (hm : X.mg "enumerate" = none) (h : PA X [a] at'.ta) (h1 : starEach [a] X.env = [(false, eval a X.env)] := by rfl) : PI X (.Tuple elts kk tpos) (.Call (.Name "enumerate" p) [a] [] pos) (I.enum at').wi := pi_enum hg hm h h1
theorem di_zipA {elts : List Expr} {kk : Nat} {tpos : Pos} (hg : Gl X "zip") (hm : X.mg "zip" = none) (h : PA X [a, b] at'.ta) (h1 : starEach [a, b] X.env = (false, eval a X.env) :: starEach [b] X.env := by rfl) (h2 : ((backTo pos (starEach [b] X.env)).any fun x => x.1) = false := by rfl) : PI X (.Tuple elts kk tpos) (.Call (.Name "zip" p) [a, b] [] pos) (I.zipA at').wi := RZ.pi_zipA hg hm h h1 h2
theorem dg_name {i : Nat} {x : Str} (nd : X.N.Nodup) (h : X.N[i]? = some x) (l : L2.Loc X.env.scope x) (h3 : X.fn x = true ∨ X.env.scope.names.lookup x = some .local := by first | exact .inl rfl | exact .inr rfl) : PG X (.Name x pos) (G.name (K := X.K) i).g := pg_name nd h l h3
theorem dg_nameI {vs : List Nat} {i : Nat} {hv : i ∈ vs} {x : Str} (nd : X.N.Nodup) (h : X.N[i]? = some x) (l : L2.Loc X.env.scope x) (h3 : X.fn x = true ∨ X.env.scope.names.lookup x = some .local := by first | exact .inl rfl | exact .inr rfl) : PG X (.Name x pos) (Gi.name (K := X.K) (vs := vs) i hv).g := pg_name nd h l h3
theorem dg_tup {gs : TGs' X.K} (hc : X.calm = true) (h : PGs X es gs.g) (h1 : (assignEach es X.env).length = n := by rfl) (h2 : (assignEach es X.env).findIdx? (fun x => x.1) = none := by rfl) {kk : Nat} : PG X (.Tuple es kk pos) (G.tup n gs).g := pg_tup hc h h1 h2
theorem dg_tupI {vs : List Nat} {gs : TGsi X.K vs} (hc : X.calm = true) (h : PGs X es gs.g) (h1 : (assignEach es X.env).length = n := by rfl) (h2 : (assignEach es X.env).findIdx? (fun x => x.1) = none := by rfl) {kk : Nat} : PG X (.Tuple es kk pos) (Gi.tup n gs).g := pg_tup hc h h1 h2
theorem dgs_nil : PGs X [] (G.nil (K := X.K)).g := pgs_nil
theorem dgs_nilI {vs : List Nat} : PGs X [] (Gi.nil (K := X.K) (vs := vs)).g := pgs_nil
theorem dgs_cons {g : TGt X.K} {gs : TGs' X.K} (hg : PG X a g.g) (h : PGs X es gs.g) (h1 : (assignEach (a :: es) X.env).map (·.2) = assign a X.env :: (assignEach es X.env).map (·.2) := by rfl) : PGs X (a :: es) (G.cons g gs).g := pgs_cons hg h h1
theorem dgs_consI {vs : List Nat} {g : TGi X.K vs} {gs : TGsi X.K vs} (hg : PG X a g.g) (h : PGs X es gs.g) (h1 : (assignEach (a :: es) X.env).map (·.2) = assign a X.env :: (assignEach es X.env).map (·.2) := by rfl) : PGs X (a :: es) (Gi.cons g gs).g := pgs_cons hg h h1
theorem dg_sub (ha : PE X a ea.te) (hb : PE X b eb.te) (hs : PSet X rSetL)
    (h1 : ∀ v, assign (.Subscript a b pos) X.env v = (do let ov ← holding [v] (eval a X.env); let iv ← holding [v, ov] (eval b X.env); standAt pos; holding [v, ov, iv] (setItem ov iv v); release [v, ov, iv] []) := by intro _; rfl) :
    PG X (.Subscript a b pos) (G.sub ea eb).g := pg_sub ha hb hs h1
end
section
variable {CX : CXT} {k n : Nat} {f : Addr} {fd : FuncData} {ps : List Str} {x : Str} {e : Expr} {es : List Expr} {t : AT X.K} {kws : List Keyword} {R : List D → D → Prop} {Φ : List W → List Cell → WQ → Prop} {Φn : List W → WQ → Prop}
theorem de_call (F : FnOk X.prog X.w X.K X.mg X.base CX0 k f fd ps (SpD X.K R)) (hr : Room k X.A) (hg : Gl X x) (hm : X.mg x = some (.ref f)) (hk : PySem.W.keepIn X.K (.ref f) = true) (hb : L2.Binds X.K fd ps []) (ha : PA X (e :: es) t.ta)
    (h1 : (x == "__debug__") = false := by rfl) (h2 : starEach (e :: es) X.env = (false, eval e X.env) :: starEach es X.env := by rfl) (h3 : ((backTo pos (starEach es X.env)).any fun x => x.1) = false := by rfl) :
    PE X (.Call (.Name x p) (e :: es) [] pos) (E.call R t).te := pe_call F hr hg hm hk hb .nil pass0 ha h1 h2 h3
theorem de_callC (F : FnOk X.prog X.w X.K X.mg X.base CX0 k f fd ps (SpC X.K Φ)) (hr : Room k X.A) (hg : Gl X x) (hm : X.mg x = some (.ref f)) (hk : PySem.W.keepIn X.K (.ref f) = true) (hb : L2.Binds X.K fd ps []) (ha : PA X (e :: es) t.ta)
    (h1 : (x == "__debug__") = false := by rfl) (h2 : starEach (e :: es) X.env = (false, eval e X.env) :: starEach es X.env := by rfl) (h3 : ((backTo pos (starEach es X.env)).any fun x => x.1) = false := by rfl) :
    PE X (.Call (.Name x p) (e :: es) [] pos) (E.callC n Φ t).te := pe_call F hr hg hm hk hb .nil pass0 ha h1 h2 h3
theorem de_callN (F : FnOk X.prog X.w X.K X.mg X.base CX0 k f fd ps (SpN X.K Φn)) (hr : Room k X.A) (hg : Gl X x) (hm : X.mg x = some (.ref f)) (hk : PySem.W.keepIn X.K (.ref f) = true) (hb : L2.Binds X.K fd ps []) (ha : PA X (e :: es) t.ta)
    (h1 : (x == "__debug__") = false := by rfl) (h2 : starEach (e :: es) X.env = (false, eval e X.env) :: starEach es X.env := by rfl) (h3 : ((backTo pos (starEach es X.env)).any fun x => x.1) = false := by rfl) :
    PE X (.Call (.Name x p) (e :: es) [] pos) (E.callN Φn t).te := pe_call F hr hg hm hk hb .nil pass0 ha h1 h2 h3
theorem de_call0 (F : FnOk X.prog X.w X.K X.mg X.base CX0 k f fd ps (SpD X.K R)) (hr : Room k X.A) (hg : Gl X x) (hm : X.mg x = some (.ref f)) (hk : PySem.W.keepIn X.K (.ref f) = true) (hb : L2.Binds X.K fd ps []) (h1 : (x == "__debug__") = false := by rfl) :
    PE X (.Call (.Name x p) [] [] pos) (E.call (K := X.K) R A.nil).te := pe_call0 F hr hg hm hk hb .nil pass0 h1
theorem de_callKw (F : FnOk X.prog X.w X.K X.mg X.base CX0 k f fd ps (SpD X.K R)) (hr : Room k X.A) (hg : Gl X x) (hm : X.mg x = some (.ref f)) (hk : PySem.W.keepIn X.K (.ref f) = true) (hb : KwB X.K fd ps) (ha : PK X kws t.ta)
    (h0 : ((backToKw pos (keywordEach kws X.env)).all fun x => x.1.isSome) = true := by rfl) (h1 : (backToKw pos (keywordEach kws X.env)).filterMap (fun x => x.1) = ps := by rfl) (h2 : (x == "__debug__") = false := by rfl)
    (h3 : (((backTo pos (starEach [] X.env)).any fun x => x.1) || ((backToKw pos (keywordEach kws X.env)).any fun x => x.1.isNone)) = false := by rfl) :
    PE X (.Call (.Name x p) [] kws pos) (E.call R t).te := pe_callKw F hr hg hm hk hb pass0 ha h0 h1 h2 h3
theorem de_callB {id : String} {c : CB X.K} (F : CallR X (.builtin id) c.r) (hg : Gl X x) (hm : X.mg x = none) (hb : bootBuiltins x = some (.builtin id)) (ha : PA X (e :: es) t.ta) (h0 : x ≠ "__name__" := by decide)
    (h1 : (x == "__debug__") = false := by rfl) (h2 : starEach (e :: es) X.env = (false, eval e X.env) :: starEach es X.env := by rfl) (h3 : ((backTo pos (starEach es X.env)).any fun x => x.1) = false := by rfl) :
    PE X (.Call (.Name x p) (e :: es) [] pos) (E.cb c t).te := pe_callB F hg hm hb ha h0 h1 h2 h3
theorem de_callTy {T : String} {c : CB X.K} (F : CallR X (.type T) c.r) (hg : Gl X x) (hm : X.mg x = none) (hb : bootBuiltins x = some (.type T)) (ha : PA X (e :: es) t.ta) (h0 : x ≠ "__name__" := by decide)
    (h1 : (x == "__debug__") = false := by rfl) (h2 : starEach (e :: es) X.env = (false, eval e X.env) :: starEach es X.env := by rfl) (h3 : ((backTo pos (starEach es X.env)).any fun x => x.1) = false := by rfl) :
    PE X (.Call (.Name x p) (e :: es) [] pos) (E.cb c t).te := pe_callTy F hg hm hb ha h0 h1 h2 h3
theorem de_bm {o : Expr} {eo : ET X.K} {m : MB X.K} {name : Str} {id : String} {apos : Pos} (h1 : PlainAttrs m.T) (h2 : Slot m.T name id) (h3 : typeOf (.builtin id) = pure (.type "method_descriptor")) (h4 : MtR X id m.r) (ho : PE X o eo.te) (ha : PA X (e :: es) t.ta)
    (q1 : attributeBase o name X.env (eval o X.env) = eval o X.env := by rfl)
    (q2 : ((((backTo pos (starEach (e :: es) X.env)).all fun x => !x.1) && ((backToKw pos (keywordEach [] X.env)).all fun x => x.1.isSome)) && decide (((e :: es).length + ([] : List Keyword).length + if ([] : List Keyword).isEmpty = true then 0 else 1) < 30)) = true := by rfl)
    (q3 : (apos.endLine == pos.line) = true := by rfl) (q4 : starEach (e :: es) X.env = (false, eval e X.env) :: starEach es X.env := by rfl) (q5 : ((backTo pos (starEach es X.env)).any fun x => x.1) = false := by rfl) :
    PE X (.Call (.Attribute o name apos) (e :: es) [] pos) (E.bm m eo t).te := pe_bm h1 h2 h3 h4 ho ha q1 q2 q3 q4 q5
theorem de_bm0 {o : Expr} {eo : ET X.K} {m : MB X.K} {name : Str} {id : String} {apos : Pos} (h1 : PlainAttrs m.T) (h2 : Slot m.T name id) (h3 : typeOf (.builtin id) = pure (.type "method_descriptor")) (h4 : MtR X id m.r) (ho : PE X o eo.te)
    (q1 : attributeBase o name X.env (eval o X.env) = eval o X.env := by rfl) (q3 : (apos.endLine == pos.line) = true := by rfl) :
    PE X (.Call (.Attribute o name apos) [] [] pos) (E.bm0 m eo).te := pe_bm0 h1 h2 h3 h4 ho q1 q3
end
section
variable {x : Str} {j : Nat} {v : V} {u : Value}
theorem de_str : PE X (.Constant (.str x) j pos) (E.str (K := X.K) x).te := pe_str
theorem de_int {i : Int} : PE X (.Constant (.int i) j pos) (E.int (K := X.K) i).te := pe_int
theorem dv (i : Nat) (h : X.N[i]? = some x := by rfl) (h1 : Vis X.env.scope x := by first | exact Or.inl rfl | exact Or.inr (Or.inl rfl) | exact Or.inr (Or.inr rfl)) (h2 : (x == "__debug__") = false := by rfl) (h3 : (x == "__classdict__") = false := by rfl) : PE X (.Name x pos) (E.var (K := X.K) i).te := pv i h h1 h2 h3
theorem de_glob (hg : Gl X x) (hm : X.mg x = some u) (hr : L2.RelV v u) (h : (x == "__debug__") = false := by rfl) : PE X (.Name x pos) (E.raw (K := X.K) v).te := pe_glob hg hm hr h
theorem de_globS {y : Str} (hg : Gl X x) (hm : X.mg x = some u) (hr : L2.RelV (.str y) u) (h : (x == "__debug__") = false := by rfl) : PE X (.Name x pos) (E.str (K := X.K) y).te := pe_glob hg hm hr h
theorem de_globI {y : Int} (hg : Gl X x) (hm : X.mg x = some u) (hr : L2.RelV (.int y) u) (h : (x == "__debug__") = false := by rfl) : PE X (.Name x pos) (E.int (K := X.K) y).te := pe_glob hg hm hr h
theorem de_bltn (hg : Gl X x) (hm : X.mg x = none) (hb : bootBuiltins x = some u) (hr : L2.RelV v u) (h0 : x ≠ "__name__" := by decide) (h : (x == "__debug__") = false := by rfl) : PE X (.Name x pos) (E.raw (K := X.K) v).te := pe_bltn hg hm hb hr h0 h
end
section
variable {a : Expr} {ea : ET X.K} {es : List Expr} {t : AT X.K}
theorem dk_nil : PK X [] (A.nil (K := X.K)).ta := pk_nil
theorem dk_cons {kws : List Keyword} {nm : Option Str} (ha : PE X a ea.te) (h : PK X kws t.ta) : PK X ({ arg := nm, value := a, pos := p } :: kws) (A.cons ea t).ta := pk_cons ha h
theorem dts_one {t : TTs X.K} (h : PT X a t.tt) : PTs X [a] t.tt := pts_one h
theorem de_bl {b : Bool} {j : Nat} : PE X (.Constant (.bool b) j pos) (E.bl (K := X.K) b).te := pe_bl
theorem de_non {j : Nat} : PE X (.Constant .none j pos) (E.non (K := X.K)).te := pe_non
theorem dty_nil : PA X [] (tTys []) := pa_nil
theorem dty_cons {x : Str} {T : String} {ns : List String} (hg : Gl X x) (hm : X.mg x = none) (hb : bootBuiltins x = some (.type T)) (h : PA X es (tTys ns)) (h0 : x ≠ "__name__" := by decide) (h1 : (x == "__debug__") = false := by rfl)
    (hs : starEach (.Name x p :: es) X.env = (false, eval (.Name x p) X.env) :: starEach es X.env := by rfl) : PA X (.Name x p :: es) (tTys (T :: ns)) := pa_cons (pe_bltn (v := .ty T) hg hm hb rfl h0 h1) h hs
theorem de_isiT {ns : List String} {n : Nat} (hg : Gl X "isinstance") (hm : X.mg "isinstance" = none) (hb : bootBuiltins "isinstance" = some (.builtin "isinstance")) (ha : PE X a ea.te) (h : PA X es (tTys ns))
    (h2 : starEach [a, .Tuple es n p3] X.env = (false, eval a X.env) :: starEach [.Tuple es n p3] X.env := by rfl) (h3 : ((backTo pos (starEach [.Tuple es n p3] X.env)).any fun x => x.1) = false := by rfl)
    (h4 : starEach [.Tuple es n p3] X.env = [(false, eval (.Tuple es n p3) X.env)] := by rfl) :
    PE X (.Call (.Name "isinstance" p) [a, .Tuple es n p3] [] pos) (E.isiT ea ns).te := pe_callB call_isiT hg hm hb (pa_cons ha (pa_cons (pe_tup h) pa_nil h4) h2) (by decide) rfl h2 h3
end
end
end Pl

namespace Pl
open PySem PySem.Spec PyProof.Rows L2
/-! the draws of a law -/
abbrev dI (i : Int) : W := .d (.int i)
/-- the stream's cells -/
abbrev ss (ns : List Int) (g n h : Int) : List Cell := [.pl (ns.map D.int), .lst [.cel 0, dI g, dI n, dI h]]
/-- a stream of at most n draws so far -/
def Sm (n : Nat) (cs : List Cell) : Prop := ∃ ns g c h, cs = ss ns g c h ∧ 0 ≤ g ∧ 0 ≤ c ∧ c ≤ (n : Int) ∧ 0 ≤ h ∧ h < 2147483647
theorem Sm.mono {n m : Nat} {cs : List Cell} (h : Sm n cs) (l : n ≤ m) : Sm m cs := by
  obtain ⟨ns, g, c, k, h1, h2, h3, h4, h5, h6⟩ := h
  exact ⟨ns, g, c, k, h1, h2, h3, by omega, h5, h6⟩
def lim : Nat := 2 ^ 40
def Φ__law_draw (ws : List W) (cs : List Cell) (κ : WQ) : Prop := ∃ (n : Nat) (m : Int), ws = [.cel 1, dI m] ∧ Sm n cs ∧ n + 1 < lim ∧ 0 < m ∧ m ≤ 1000000000 ∧ ∀ r cs', 0 ≤ r → r < m → Sm (n + 1) cs' → κ (dI r) cs'
theorem ss_below (ns : List Int) (g n h : Int) : ∀ c ∈ ss ns g n h, c.below 2 := by
  intro z hz
  rcases List.mem_cons.mp hz with rfl | hz
  · trivial
  · cases List.mem_singleton.mp hz
    intro w hw
    rcases List.mem_cons.mp hw with rfl | hw
    · show 0 < 2; decide
    · simp at hw
      rcases hw with rfl | rfl | rfl <;> trivial
theorem Sm.below {n : Nat} {cs : List Cell} (h : Sm n cs) : cs.length = 2 ∧ ∀ c ∈ cs, c.below 2 := by
  obtain ⟨ns, g, c, k, rfl, _⟩ := h
  exact ⟨rfl, ss_below ns g c k⟩
/-- nothing is left out but slots -/
theorem Le.of {Γ Γ' : Ct} (ls : Γ.sl.length = Γ'.sl.length) (sl : ∀ (i : Nat) (x : W), Γ'.sl[i]? = some (some x) → Γ.sl[i]? = some (some x) ∧ x.below Γ'.cs.length) (cs : ∃ g, Γ.cs = Γ'.cs ++ g) (bc : ∀ c ∈ Γ'.cs, c.below Γ'.cs.length) : Le Γ Γ' :=
  ⟨ls, fun i x h => (sl i x h).1, cs, fun i x h => (sl i x h).2, bc⟩
/-- slot by slot -/
inductive LeS (n : Nat) : List (Option W) → List (Option W) → Prop
  | nil : LeS n [] []
  | keep {x : W} {l l'} : x.below n → LeS n l l' → LeS n (some x :: l) (some x :: l')
  | drop {x : Option W} {l l'} : LeS n l l' → LeS n (x :: l) (none :: l')
theorem LeS.ls {n : Nat} {l l' : List (Option W)} (h : LeS n l l') : l.length = l'.length := by
  induction h with
  | nil => rfl
  | keep _ _ ih => simp [ih]
  | drop _ ih => simp [ih]
theorem LeS.sl {n : Nat} {l l' : List (Option W)} (h : LeS n l l') : ∀ (i : Nat) (x : W), l'[i]? = some (some x) → l[i]? = some (some x) ∧ x.below n := by
  induction h with
  | nil => intro i x h; simp at h
  | keep b _ ih =>
    intro i x h
    cases i with
    | zero => simp at h; subst h; exact ⟨rfl, b⟩
    | succ i => simpa using ih i x (by simpa using h)
  | drop _ ih =>
    intro i x h
    cases i with
    | zero => simp at h
    | succ i => simpa using ih i x (by simpa using h)
theorem Le.mk' {l l' : List (Option W)} {c g : List Cell} (h : LeS c.length l l') (bc : ∀ x ∈ c, x.below c.length) : Le ⟨l, c ++ g⟩ ⟨l', c⟩ := .of h.ls h.sl ⟨g, rfl⟩ bc
theorem Le.mk0 {l l' : List (Option W)} {c : List Cell} (h : LeS c.length l l') (bc : ∀ x ∈ c, x.below c.length) : Le ⟨l, c⟩ ⟨l', c⟩ := .of h.ls h.sl ⟨[], by simp⟩ bc
theorem pyA_ints (ns : List Int) : O.pyA (ns.map D.int) = some (ns.map PyData.int) := by
  induction ns with
  | nil => rfl
  | cons n ns ih =>
    rw [List.map_cons]
    unfold O.pyA
    rw [ih]
    rfl
theorem lay_ints (ns : List Int) : PyData.canLayAll0 (ns.map PyData.int) = true := by
  induction ns with
  | nil => rfl
  | cons n ns ih => simp [PyData.canLayAll0, PyData.canLay0, ih]
theorem dep_ints (ns : List Int) : PyData.depthAll (ns.map PyData.int) = 0 := by
  induction ns with
  | nil => rfl
  | cons n ns ih => simp [PyData.depthAll, PyData.depth, ih]
theorem shaped_ints (ns : List Int) : SeqAt.shaped (.list (ns.map PyData.int)) = true := by
  unfold SeqAt.shaped
  have e : PyData.depth (.list (ns.map PyData.int)) = 1 := by simp [PyData.depth, dep_ints]
  rw [e]
  simp [PyData.canLay0, lay_ints]
theorem log2_small {n : Nat} (h : n < 2 ^ 100) : n.log2 < 1000 := by
  have := PySem.Flt.log2_lt_of (n := n) (k := 100) (by decide) h
  omega
theorem cmul_ok {i j : Int} (h : j.natAbs < 2 ^ 100) (h2 : i.natAbs < 2 ^ 100) : CMulW i j := by
  have := log2_small h
  have := log2_small h2
  unfold CMulW
  omega
theorem cdiv_ok {i j : Int} (h0 : 0 < j) (h : j.natAbs < 2 ^ 100) : CDivW i j := by
  have := log2_small h
  exact ⟨h0, by omega⟩
local macro_rules | `(tactic| walk_at "n") => `(tactic| (conv => whnf))
local macro_rules | `(tactic| walk_at "s") => `(tactic| first | decide | omega | assumption)
local macro_rules | `(tactic| walk_at "g") => `(tactic| (repeat (first | refine ⟨_, rfl, ?_⟩ | refine ⟨by decide, ?_⟩ | refine ⟨by omega, ?_⟩)))
section
variable {K : PySem.W.Frag}
def b_draw2 : St K := (S.seq (S.ite (T.cmp (E.op O.gt (E.op O.ix (E.var 0) (E.int 1)) (E.int 0))) (S.seq (S.asg (E.op O.mod (E.cb C.int (A.cons (E.op O.ix (E.var 0) (E.int 1)) A.nil)) (E.var 1)) (G.name 3))
    (S.seq (S.asg (E.op O.fdiv (E.op O.ix (E.var 0) (E.int 1)) (E.var 1)) (G.sub (E.var 0) (E.int 1)))
    (S.ret (E.var 3)))) S.nil)
    (S.seq (S.asg (E.op O.mod (E.cb C.int (A.cons (E.op O.pow (E.op O.add (E.op O.add (E.op O.ix (E.var 0) (E.int 3)) (E.op O.mul (E.int 7919) (E.op O.ix (E.var 0) (E.int 2)))) (E.int 104729)) (E.int 5)) A.nil)) (E.int 2147483629)) (G.name 4))
    (S.ret (E.op O.mod (E.op O.mod (E.cb C.int (A.cons (E.op O.pow (E.op O.add (E.op O.add (E.op O.mul (E.var 4) (E.int 48271)) (E.op O.mul (E.int 30011) (E.op O.ix (E.var 0) (E.int 2)))) (E.int 29)) (E.int 3)) A.nil)) (E.int 1000000007)) (E.var 1)))))
def b_draw1 : St K := S.while_ (T.and (T.cmp (E.op O.eq (E.op O.ix (E.var 0) (E.int 1)) (E.int 0))) (T.cmp (E.op O.ne (E.op O.ix (E.var 0) (E.int 0)) (E.lst A.nil)))) (S.seq (S.asg (E.cb C.abs (A.cons (E.bm M.popAt (E.op O.ix (E.var 0) (E.int 0)) (A.cons (E.int 0) A.nil)) A.nil)) (G.name 2))
    (S.seq (S.asg (E.op O.mod (E.cb C.int (A.cons (E.op O.add (E.op O.add (E.op O.mul (E.op O.ix (E.var 0) (E.int 3)) (E.int 8191)) (E.var 2)) (E.int 3)) A.nil)) (E.int 2147483647)) (G.sub (E.var 0) (E.int 3)))
    (S.asg (E.ite (T.cmp (E.op O.ge (E.var 2) (E.op O.pow (E.int 10) (E.int 18)))) (E.var 2) (E.int 0)) (G.sub (E.var 0) (E.int 1)))))
def b__law_draw : St K := S.seq (S.asg (E.op O.add (E.op O.ix (E.var 0) (E.int 2)) (E.int 1)) (G.sub (E.var 0) (E.int 2))) (S.seq b_draw1 b_draw2)
abbrev N__law_draw : List Str := ["stream", "many", "cell", "digit", "mixed"]
theorem sem_draw (ws : List W) (cs : List Cell) (κ : WQ) (h : Φ__law_draw ws cs κ) : (b__law_draw (K := K)).w (entry N__law_draw ws cs) { nx := fun Γ => leaves cs.length κ (.d .non) Γ.cs, rt := leaves cs.length κ } := by
  obtain ⟨n, m, rfl, ⟨ns, g, c, hh, rfl, g0, c0, c1, h0, h1⟩, hn, m0, m1, k⟩ := h
  have hlim : lim = 1099511627776 := by decide
  have hlim : lim = 1099511627776 := by decide
  show (S.seq _ _).w _ _
  refine ⟨dI c, rfl, 2, rfl, ?_⟩
  refine ⟨fun q Γ => ∃ ns g h x2 x3 x4, Γ = ⟨[some (.cel 1), some (dI m), x2, x3, x4], ss ns g (c + 1) h⟩ ∧ q = ns.length ∧ 0 ≤ g ∧ 0 ≤ h ∧ h < 2147483647, ns.length, ⟨ns, g, hh, _, _, _, rfl, rfl, g0, h0, h1⟩, ?_⟩
  rintro q _ ⟨ns, g, h, x2, x3, x4, rfl, rfl, g0, h0, h1⟩
  have done : ∀ ns g h r, 0 ≤ g → 0 ≤ h → h < 2147483647 → 0 ≤ r → r < m → leaves 2 κ (dI r) (ss ns g (c + 1) h) := fun ns g h r g0 h0 h1 r0 r1 => by
    refine ⟨ss ns g (c + 1) h, [], rfl, rfl, trivial, ?_, k _ _ r0 r1 ⟨ns, g, c + 1, h, rfl, g0, by omega, by omega, h0, h1⟩⟩
    exact ss_below _ _ _ _
  -- behind the loop
  have fin : (b_draw2 (K := K)).w ⟨[some (.cel 1), some (dI m), x2, x3, x4], ss ns g (c + 1) h⟩ { nx := fun Γ => leaves 2 κ (.d .non) Γ.cs, rt := leaves 2 κ } := by
    refine ⟨dI g, rfl, ?_⟩
    conv => whnf
    split
    · refine ⟨dI g, rfl, m0, dI g, rfl, cdiv_ok m0 (by omega), 1, rfl, ?_⟩
      exact done _ _ _ _ (Int.ediv_nonneg g0 (by omega)) h0 h1 (Int.emod_nonneg g (by omega)) (Int.emod_lt_of_pos g m0)
    · refine ⟨dI h, rfl, dI (c + 1), rfl, cmul_ok (by omega) (by omega), ⟨by decide, by decide, by omega⟩, (show (0 : Int) < 2147483629 by decide), cmul_ok (by decide) ?_, dI (c + 1), rfl, cmul_ok (by omega) (by decide), ⟨by decide, by decide, ?_⟩, (show (0 : Int) < 1000000007 by decide), m0, ?_⟩
      · have e1 := Int.emod_nonneg ((h + 7919 * (c + 1) + 104729) ^ (5 : Int).toNat) (show (2147483629 : Int) ≠ 0 by decide)
        have e2 := Int.emod_lt_of_pos ((h + 7919 * (c + 1) + 104729) ^ (5 : Int).toNat) (show (0 : Int) < 2147483629 by decide)
        omega
      · have e1 := Int.emod_nonneg ((h + 7919 * (c + 1) + 104729) ^ (5 : Int).toNat) (show (2147483629 : Int) ≠ 0 by decide)
        have e2 := Int.emod_lt_of_pos ((h + 7919 * (c + 1) + 104729) ^ (5 : Int).toNat) (show (0 : Int) < 2147483629 by decide)
        omega
      · exact done _ _ _ _ g0 h0 h1 (Int.emod_nonneg _ (by omega)) (Int.emod_lt_of_pos _ m0)
  refine ⟨dI g, rfl, ?_⟩
  conv => whnf
  split
  · refine ⟨.cel 0, rfl, by decide, ?_⟩
    cases ns with
    | nil =>
      refine ⟨_, _, rfl, rfl, rfl, rfl, ?_⟩
      exact fin
    | cons y ns =>
      have e1 : O.pyD (.lst ((y :: ns).map D.int)) = some (.list ((y :: ns).map PyData.int)) := by
        unfold O.pyD
        rw [pyA_ints]
        rfl
      refine ⟨.list ((y :: ns).map PyData.int), .list [], e1, rfl, shaped_ints (y :: ns), rfl, ?_⟩
      have e2 : PyData.eqv (.list ((y :: ns).map PyData.int)) (.list []) = false := rfl
      rw [e2]
      refine ⟨.cel 0, rfl, trivial, dI h, rfl, cmul_ok (by decide) (by omega), (show (0 : Int) < 2147483647 by decide), 3, rfl, ⟨by decide, by decide, by decide⟩, ?_⟩
      have e3 := Int.emod_nonneg (h * 8191 + (if y < 0 then -y else y) + 3) (show (2147483647 : Int) ≠ 0 by decide)
      have e4 := Int.emod_lt_of_pos (h * 8191 + (if y < 0 then -y else y) + 3) (show (0 : Int) < 2147483647 by decide)
      have again : ∀ g', 0 ≤ g' → S.again 2 (fun Γ2 => ∃ m', m' < (y :: ns).length ∧ ∃ ns g h x2 x3 x4, Γ2 = ⟨[some (.cel 1), some (dI m), x2, x3, x4], ss ns g (c + 1) h⟩ ∧ m' = ns.length ∧ 0 ≤ g ∧ 0 ≤ h ∧ h < 2147483647)
          ⟨[some (.cel 1), some (dI m), some (dI (if y < 0 then -y else y)), x3, x4], ss ns g' (c + 1) ((h * 8191 + (if y < 0 then -y else y) + 3) % 2147483647)⟩ := fun g' hg => by
        refine ⟨⟨[some (.cel 1), some (dI m), none, none, none], _⟩, .mk0 (.keep (by show 1 < 2; decide) (.keep trivial (.drop (.drop (.drop .nil))))) (ss_below _ _ _ _), Nat.le_refl _, ns.length, by simp, ns, g', _, none, none, none, rfl, rfl, hg, e3, e4⟩
      conv => whnf
      split
      · refine ⟨1, rfl, ?_⟩
        refine again _ ?_
        split <;> omega
      · refine ⟨1, rfl, ?_⟩
        exact again _ (by decide)
  · exact fin
end
end Pl

namespace Pl
open PySem PySem.Spec PyProof.Rows L2
section
variable {K : PySem.W.Frag}
/-- a list made item by item, nothing changed -/
theorem lcI {vs : List Nat} {g : TGi K vs} {e : ET K} {sl : List (Option W)} {items : List D} {cs : List Cell} {Q : WQ} (f : D → D) (hl : items.length ≤ lineN)
    (step : ∀ (x : D), x ∈ items → ∀ (R : WQ), R (.d (f x)) cs → g.w (.d x) ⟨wipeS sl vs, cs⟩ fun Γ2 => e.w ⟨Γ2.sl, Γ2.cs⟩ R) (fin : Q (.d (.lst (items.map f))) cs) :
    E.lcW vs g T.yes e sl Q items cs := by
  unfold E.lcW
  refine ⟨fun i acc cs' => cs' = cs ∧ acc = (items.take i).map f ∧ i ≤ items.length, ⟨rfl, by simp, Nat.zero_le _⟩, ?_, ?_⟩
  · rintro i x _ _ hx ⟨rfl, rfl, _⟩
    have hi := (List.getElem?_eq_some_iff.mp hx).1
    refine step x (List.mem_of_getElem? hx) _ ⟨?_, rfl, ?_, hi⟩
    · rw [List.length_map, List.length_take]; omega
    · rw [List.take_add_one, hx]; simp
  · rintro _ _ ⟨rfl, rfl, _⟩
    rw [List.take_length]; exact fin
theorem lcW_of {vs : List Nat} {g : TGi K vs} {t : TTs K} {e : ET K} {sl : List (Option W)} {items : List D} {cs : List Cell} {Q : WQ} (I : Nat → List D → List Cell → Prop) (h0 : I 0 [] cs)
    (hs : ∀ i x acc cs', items[i]? = some x → I i acc cs' → g.w (.d x) ⟨wipeS sl vs, cs'⟩ fun Γ2 => t.w Γ2 fun b cs2 => match b with
      | true => e.w ⟨Γ2.sl, cs2⟩ fun y cs3 => match y with
        | .d z => acc.length < lineN ∧ I (i + 1) (acc ++ [z]) cs3
        | .cel _ => False
      | false => I (i + 1) acc cs2) (hd : ∀ acc cs', I items.length acc cs' → Q (.d (.lst acc)) cs') : E.lcW vs g t e sl Q items cs := by
  unfold E.lcW
  exact ⟨I, h0, hs, hd⟩
/-! ### the stream -/
def Φ__law_stream (ws : List W) (κ : WQ) : Prop := ∃ ns, ws = [.d (.scr ns)] ∧ κ (.cel 1) (ss ns 0 0 17)
def b__law_stream : St K := (S.ret (E.lstC (A.cons (E.cb C.listC (A.cons (E.var 0) A.nil)) (A.cons (E.int 0) (A.cons (E.int 0) (A.cons (E.int 17) A.nil))))))
abbrev N__law_stream : List Str := ["script"]
theorem sem_stream (ws : List W) (κ : WQ) (h : Φ__law_stream ws κ) : (b__law_stream (K := K)).w (entry N__law_stream ws []) { nx := fun _ => False, rt := κ } := by
  obtain ⟨ns, rfl, k⟩ := h
  exact ⟨(by decide : 4 ≤ lineN), k⟩
theorem sm0 (ns : List Int) : Sm 0 (ss ns 0 0 17) := ⟨ns, 0, 0, 17, rfl, by decide, by decide, by decide, by decide, by decide⟩
/-- a call that draws: the stream's two cells, others stand -/
def E.callS (Φ : List W → List Cell → WQ → Prop) (a : AT K) : ET K where
  te := tCall (SpC K Φ) [] E0 a.ta
  w := fun Γ Q => a.w Γ fun ws cs => ∃ m cs0 rest, cs = cs0 ++ rest ∧ Sm m cs0 ∧ (∀ w ∈ ws, w.below 2) ∧ Φ ws cs0 fun x cs' => Q x (cs' ++ rest)
  ok := fun Γ Q h F σ B H as S Rk k => a.ok _ _ h F σ B H as S _ fun xs cs vs B1 H1 as1 q1 S1 e1 p1 r1 => by
    obtain ⟨m, cs0, rest, rfl, sm, hb, hΦ⟩ := q1
    obtain ⟨hl, hc⟩ := sm.below
    show SpC K Φ (vs ++ []) H1 Rk E0
    rw [List.append_nil]
    have SP := S1.part (by rw [hl]; exact hc)
    refine ⟨_, B1, _, xs, cs0, _, SP, ?_, hΦ, fun x cs' v B' H' q S' e r => ?_⟩
    · rw [hl]; exact RWA.take r1 hb
    · have S2 := S1.partBack S' e
      refine k x _ v B' H' as1 q S2 (e1.trans e) p1 ?_
      have p : Pre (as1.take cs0.length) as1 := fun j y hx => by
        have hj : j < cs0.length := by
          have := (List.getElem?_eq_some_iff.mp hx).1
          rw [List.length_take] at this; omega
        rw [List.getElem?_take_of_lt hj] at hx; exact hx
      exact RW.mono (Ex.refl _) p r
section
variable {X : Cx} {pos p : Pos} {k : Nat} {f : Addr} {fd : FuncData} {ps : List Str} {x : Str} {e : Expr} {es : List Expr} {t : AT X.K} {Φ : List W → List Cell → WQ → Prop}
theorem de_callS (F : FnOk X.prog X.w X.K X.mg X.base CX0 k f fd ps (SpC X.K Φ)) (hr : Room k X.A) (hg : Gl X x) (hm : X.mg x = some (.ref f)) (hk : PySem.W.keepIn X.K (.ref f) = true) (hb : L2.Binds X.K fd ps []) (ha : PA X (e :: es) t.ta)
    (h1 : (x == "__debug__") = false := by rfl) (h2 : starEach (e :: es) X.env = (false, eval e X.env) :: starEach es X.env := by rfl) (h3 : ((backTo pos (starEach es X.env)).any fun x => x.1) = false := by rfl) :
    PE X (.Call (.Name x p) (e :: es) [] pos) (E.callS Φ t).te := pe_call F hr hg hm hk hb .nil pass0 ha h1 h2 h3
end
theorem bel1 : ∀ w ∈ [W.cel 1], w.below 2 := by
  intro w hw
  cases List.mem_singleton.mp hw; show 1 < 2; decide
theorem bel1d {x : D} : ∀ w ∈ [W.cel 1, .d x], w.below 2 := by
  intro w hw
  rcases List.mem_cons.mp hw with rfl | hw
  · show 1 < 2; decide
  · cases List.mem_singleton.mp hw; trivial
/-! ### one of some -/
def Φ__law_pick (ws : List W) (cs : List Cell) (κ : WQ) : Prop := ∃ (n : Nat) (ds : List D), ws = [.cel 1, .d (.lst ds)] ∧ Sm n cs ∧ n + 1 < lim ∧ 0 < ds.length ∧ ds.length ≤ 1000000 ∧ ∀ d ∈ ds, ∀ cs', Sm (n + 1) cs' → κ (.d d) cs'
def b__law_pick : St K := (S.ret (E.op O.ix (E.var 1) (E.callS Φ__law_draw (A.cons (E.var 0) (A.cons (E.cb C.len (A.cons (E.var 1) A.nil)) A.nil)))))
abbrev N__law_pick : List Str := ["stream", "things"]
theorem ixN_in {n : Nat} {i : Int} (h : 0 ≤ i) (h2 : i < n) : ixN n i = some i.toNat := by
  unfold ixN
  rw [if_pos h, if_pos (by omega)]
theorem sem_pick (ws : List W) (cs : List Cell) (κ : WQ) (h : Φ__law_pick ws cs κ) : (b__law_pick (K := K)).w (entry N__law_pick ws cs) { nx := fun Γ => leaves cs.length κ (.d .non) Γ.cs, rt := leaves cs.length κ } := by
  obtain ⟨n, ds, rfl, ⟨ns, g, c, hh, rfl, hq⟩, hn, h0, h1, k⟩ := h
  have sm : Sm n (ss ns g c hh) := ⟨_, _, _, _, rfl, hq⟩
  refine ⟨n, _, [], rfl, sm, bel1d, n, ds.length, rfl, sm, hn, by omega, by omega, ?_⟩
  rintro r _ r0 r1 ⟨ns', g', c', h', rfl, hq'⟩
  have e := ixN_in r0 r1
  have hr : r.toNat < ds.length := by omega
  refine ⟨ds[r.toNat], ?_, ss ns' g' c' h', [], rfl, rfl, trivial, ss_below _ _ _ _, k _ (List.getElem_mem hr) _ ⟨_, _, _, _, rfl, hq'⟩⟩
  show atI ds r = _
  unfold atI
  rw [e]
  exact List.getElem?_eq_getElem hr
/-! ### the same -/
def Pln : Nat → D → Prop
  | _, .int _ => True
  | _, .str _ => True
  | _, .bl _ => True
  | _, .non => True
  | k + 1, .lst ds => ds.length ≤ lineN ∧ ∀ d ∈ ds, Pln k d
  | k + 1, .tup ds => ds.length ≤ lineN ∧ ∀ d ∈ ds, Pln k d
  | _, _ => False
def RSame : Nat → List D → D → Prop
  | 0, _, _ => False
  | k + 1, ds, d => ∃ x, ds = [x, x] ∧ d = .bl true ∧ Pln k x
abbrev N__law_same : List Str := ["found", "due", "mine", "theirs"]
def b__law_same (R__law_same : List D → D → Prop) : St K :=
  (S.seq (S.ite (T.tru (E.isiT (E.var 1) ["list", "tuple"])) (S.seq (S.ite (T.or (T.cmp (E.op O.ne (E.cb C.isi (A.cons (E.var 0) (A.cons (E.raw (.ty "list")) A.nil))) (E.cb C.isi (A.cons (E.var 1) (A.cons (E.raw (.ty "list")) A.nil))))) (T.cmp (E.op O.ne (E.cb C.isi (A.cons (E.var 0) (A.cons (E.raw (.ty "tuple")) A.nil))) (E.cb C.isi (A.cons (E.var 1) (A.cons (E.raw (.ty "tuple")) A.nil)))))) (S.ret (E.bl false)) S.nil)
    (S.ret (E.andT (E.op O.eq (E.cb C.len (A.cons (E.var 0) A.nil)) (E.cb C.len (A.cons (E.var 1) A.nil))) (E.cb C.all (A.cons (E.lc [2, 3] (I.zipA (A.cons (E.var 0) (A.cons (E.var 1) A.nil))) (Gi.tup 2 (Gi.cons (Gi.name 2 (by decide)) (Gi.cons (Gi.name 3 (by decide)) Gi.nil))) T.yes (E.call R__law_same (A.cons (E.var 2) (A.cons (E.var 3) A.nil)))) A.nil))))) S.nil)
    (S.seq (S.ite (T.tru (E.cb C.isi (A.cons (E.var 1) (A.cons (E.raw (.ty "dict")) A.nil)))) S.never S.nil)
    (S.seq (S.ite (T.or (T.tru (E.cb C.isi (A.cons (E.var 1) (A.cons (E.raw (.ty "bool")) A.nil)))) (T.tru (E.cb C.isi (A.cons (E.var 0) (A.cons (E.raw (.ty "bool")) A.nil))))) (S.ret (E.andT (E.cb C.isi (A.cons (E.var 1) (A.cons (E.raw (.ty "bool")) A.nil))) (E.andT (E.cb C.isi (A.cons (E.var 0) (A.cons (E.raw (.ty "bool")) A.nil))) (E.op O.eq (E.var 0) (E.var 1))))) S.nil)
    (S.seq (S.ite (T.or (T.cmp (E.op O.isN (E.var 1) E.non)) (T.cmp (E.op O.isN (E.var 0) E.non))) (S.ret (E.andT (E.op O.isN (E.var 1) E.non) (E.op O.isN (E.var 0) E.non))) S.nil)
    (S.seq (S.ite (T.or (T.cmp (E.op O.ne (E.cb C.isi (A.cons (E.var 1) (A.cons (E.raw (.ty "int")) A.nil))) (E.cb C.isi (A.cons (E.var 0) (A.cons (E.raw (.ty "int")) A.nil))))) (T.cmp (E.op O.ne (E.cb C.isi (A.cons (E.var 1) (A.cons (E.raw (.ty "str")) A.nil))) (E.cb C.isi (A.cons (E.var 0) (A.cons (E.raw (.ty "str")) A.nil)))))) (S.ret (E.bl false)) S.nil)
    (S.ret (E.andT (E.notT (E.isiT (E.var 0) ["list", "tuple", "dict"])) (E.op O.eq (E.var 0) (E.var 1)))))))))
theorem zip_self (ds : List D) : I.zipD ds ds = ds.map fun d => .tup [d, d] := by
  unfold I.zipD
  rw [show ds.zip ds = ds.map fun d => (d, d) from ?_, List.map_map]; rfl
  induction ds with
  | nil => rfl
  | cons d ds ih => simp [ih]
theorem all_true (n : Nat) : (List.replicate n true).all id = true := by simp
theorem rep_bl (n : Nat) : asBls (List.replicate n (D.bl true)) = some (List.replicate n true) := by
  rw [← asBls_map, List.map_replicate]
def isLT : D → Bool
  | .lst _ => true
  | .tup _ => true
  | _ => false
def b_same_ret (R__law_same : List D → D → Prop) : St K := (S.ret (E.andT (E.op O.eq (E.cb C.len (A.cons (E.var 0) A.nil)) (E.cb C.len (A.cons (E.var 1) A.nil))) (E.cb C.all (A.cons (E.lc [2, 3] (I.zipA (A.cons (E.var 0) (A.cons (E.var 1) A.nil))) (Gi.tup 2 (Gi.cons (Gi.name 2 (by decide)) (Gi.cons (Gi.name 3 (by decide)) Gi.nil))) T.yes (E.call R__law_same (A.cons (E.var 2) (A.cons (E.var 3) A.nil)))) A.nil))))
abbrev lcJ (k : Nat) (ds : List D) (sl : List (Option W)) (Q : WQ) : Prop := E.lcW (K := K) [2, 3] (Gi.tup 2 (Gi.cons (Gi.name 2 (by decide)) (Gi.cons (Gi.name 3 (by decide)) Gi.nil))) T.yes (E.call (K := K) (RSame k) (A.cons (E.var 2) (A.cons (E.var 3) A.nil))) sl (fun x cs => (C.all (K := K)).w [x] cs Q) (I.zipD ds ds) []
theorem same_ret {k : Nat} (ds : List D) {x : D} (hx : x = .lst ds ∨ x = .tup ds) {a b : Option W} (key : ∀ Q : WQ, Q (.d (.bl true)) [] → lcJ (K := K) k ds [some (.d x), some (.d x), a, b] Q) {N : En} (q : N.rt (.d (.bl true)) []) : (b_same_ret (K := K) (RSame k)).w ⟨[some (.d x), some (.d x), a, b], []⟩ N := by
  have cnt : decide ((ds.length : Int) = ds.length) = true := by simp
  rcases hx with rfl | rfl
  · show truW (.d (.bl (decide ((ds.length : Int) = ds.length)))) [] fun t => match t with | true => lcJ (K := K) k ds [_, _, _, _] N.rt | false => N.rt (.d (.bl (decide ((ds.length : Int) = ds.length)))) []
    rw [cnt]
    exact key _ q
  · show truW (.d (.bl (decide ((ds.length : Int) = ds.length)))) [] fun t => match t with | true => lcJ (K := K) k ds [_, _, _, _] N.rt | false => N.rt (.d (.bl (decide ((ds.length : Int) = ds.length)))) []
    rw [cnt]
    exact key _ q
theorem sem_same (k : Nat) (ds : List D) (d : D) (h : RSame (k + 1) ds d) : (b__law_same (K := K) (RSame k)).w (entry N__law_same (ds.map W.d) []) { nx := fun _ => d = .non, rt := fun x _ => x = .d d } := by
  obtain ⟨x, rfl, rfl, hp⟩ := h
  have key : ∀ ds : List D, ds.length ≤ lineN → (∃ j, k = j + 1 ∧ ∀ d ∈ ds, Pln j d) → ∀ sl : List (Option W), sl.length = 4 → ∀ Q : WQ, Q (.d (.bl true)) [] →
      lcJ (K := K) k ds sl Q := by
    intro ds hl ⟨j, hj, hd⟩ sl hsl Q q
    subst hj
    have z := zip_self ds
    match sl, hsl with
    | [a, b, c, e], _ =>
    refine lcI (fun _ => .bl true) (by rw [z, List.length_map]; exact hl) ?_ ?_
    · intro x hx R r
      rw [z] at hx
      obtain ⟨y, hy, rfl⟩ := List.mem_map.mp hx
      exact ⟨rfl, .bl true, ⟨y, rfl, rfl, hd y hy⟩, r⟩
    · rw [z, List.map_map, show ((fun _ => D.bl true) ∘ fun d => D.tup [d, d]) = fun _ : D => D.bl true from rfl, List.map_const']
      refine ⟨_, rep_bl _, ?_⟩
      rw [all_true]; exact q
  have cnt : ∀ n : Nat, decide ((n : Int) = n) = true := fun n => by simp
  have l2 : 2 ≤ lineN := by decide
  have l3 : 3 ≤ lineN := by decide
  have f1 : ∀ b : Bool, b = true → W.d (D.bl b) = W.d (D.bl true) := fun b h => by rw [h]
  cases x with
  | int i =>
    refine ⟨_, _, rfl, l2, rfl, _, _, rfl, rfl, _, _, rfl, rfl, _, _, rfl, rfl, _, _, rfl, rfl, _, _, rfl, rfl, _, _, rfl, rfl, _, _, rfl, rfl, _, _, rfl, l3, rfl, ?_⟩
    exact f1 _ (decide_eq_true rfl)
  | str s =>
    refine ⟨_, _, rfl, l2, rfl, _, _, rfl, rfl, _, _, rfl, rfl, _, _, rfl, rfl, _, _, rfl, rfl, _, _, rfl, rfl, _, _, rfl, rfl, _, _, rfl, rfl, _, _, rfl, l3, rfl, ?_⟩
    exact f1 _ (decide_eq_true rfl)
  | bl b =>
    refine ⟨_, _, rfl, l2, rfl, _, _, rfl, rfl, _, _, rfl, rfl, _, _, rfl, rfl, _, _, rfl, rfl, ?_⟩
    exact f1 _ (decide_eq_true rfl)
  | non =>
    refine ⟨_, _, rfl, l2, rfl, _, _, rfl, rfl, _, _, rfl, rfl, _, _, rfl, rfl, ?_⟩
    exact f1 _ rfl
  | lst ds =>
    cases k with
    | zero => exact hp.elim
    | succ k =>
      obtain ⟨hl, hd⟩ := hp
      refine ⟨_, _, rfl, l2, rfl, _, _, rfl, rfl, _, _, rfl, rfl, _, _, rfl, rfl, _, _, rfl, rfl, ?_⟩
      refine same_ret ds (x := .lst ds) (.inl rfl) (fun Q q => key ds hl ⟨k, rfl, hd⟩ [_, _, _, _] rfl Q q) (N := { nx := _, rt := fun x _ => x = .d (.bl true), bk := _, ct := _ }) rfl
  | tup ds =>
    cases k with
    | zero => exact hp.elim
    | succ k =>
      obtain ⟨hl, hd⟩ := hp
      refine ⟨_, _, rfl, l2, rfl, _, _, rfl, rfl, _, _, rfl, rfl, _, _, rfl, rfl, _, _, rfl, rfl, ?_⟩
      refine same_ret ds (x := .tup ds) (.inr rfl) (fun Q q => key ds hl ⟨k, rfl, hd⟩ [_, _, _, _] rfl Q q) (N := { nx := _, rt := fun x _ => x = .d (.bl true), bk := _, ct := _ }) rfl
  | _ => cases k <;> exact hp.elim
end
end Pl

namespace Pl
open PySem PySem.Spec PyProof.Rows L2
/-! texts by their points -/
def tx (l : List Nat) : Str := ⟨l.toArray⟩
abbrev dT (l : List Nat) : D := .str (tx l)
theorem tx_len (l : List Nat) : (tx l).length = l.length := rfl
theorem tx_app (a b : List Nat) : tx a ++ tx b = tx (a ++ b) := by
  show Str.mk (a.toArray ++ b.toArray) = _
  rw [List.append_toArray]; rfl
theorem tx_inj {a b : List Nat} : (tx a = tx b) ↔ a = b := by
  constructor
  · intro h; have := congrArg (fun s => s.cps.toList) h; exact this
  · rintro rfl; rfl
theorem tx_all (s : Str) : s = tx s.cps.toList := by cases s; rfl
theorem join_tx : ∀ l : List (List Nat), Txt.join (tx []) (l.map tx) = tx l.flatten := by
  intro l
  rw [TL.join_eq]
  induction l with
  | nil => rfl
  | cons x r ih =>
    cases r with
    | nil => show tx x = _; simp
    | cons y r =>
      show tx x ++ tx [] ++ Str.join (tx []) ((y :: r).map tx) = _
      rw [ih, tx_app, tx_app]
      simp
theorem lim_line : lineN = 1000000 := rfl
theorem sum_tx1 (l : List Nat) : ((l.map fun c => tx [c]).map (·.length)).sum = l.length := by
  induction l with
  | nil => rfl
  | cons a l ih => simp only [List.map_cons, List.sum_cons, ih, List.length_cons, tx_len, List.length_nil]; omega
theorem join_tx1 (l : List Nat) : Txt.join (tx []) (l.map fun c => tx [c]) = tx l := by
  have := join_tx (l.map fun c => [c])
  rw [List.map_map] at this
  rw [show (l.map fun c => [c]).flatten = l from ?_] at this
  · exact this
  · clear this
    induction l with
    | nil => rfl
    | cons a l ih => simp at ih ⊢; exact ih
theorem bls_map (l : List Nat) (f : Nat → Bool) : asBls ((l.map fun c => D.bl (f c))) = some (l.map f) := by
  have := asBls_map (l.map f)
  rw [List.map_map] at this
  exact this
theorem txs_map (l : List Nat) (f : Nat → Nat) : asStrs (l.map fun c => dT [f c]) = some ((l.map f).map fun c => tx [c]) := by
  have := asStrs_map ((l.map f).map fun c => tx [c])
  rw [List.map_map] at this
  rw [← this, List.map_map]; rfl
theorem sum_tx (l : List Nat) (f : Nat → Nat) : (((l.map f).map fun c => tx [c]).map (·.length)).sum + ((l.map f).map fun c => tx [c]).length * (tx []).length = l.length := by
  rw [sum_tx1, List.length_map]
  show l.length + _ * 0 = _
  omega
theorem rng_len (lo : Int) (n : Nat) : (rngD lo n).length = n := by unfold rngD; simp
theorem pyA_strs {α : Type} (f : α → Str) (l : List α) : O.pyA (l.map fun c => D.str (f c)) = some (l.map fun c => PyData.str (f c)) := by
  induction l with
  | nil => rfl
  | cons n l ih =>
    rw [List.map_cons]
    unfold O.pyA
    rw [ih]
    rfl
theorem shaped_strs {α : Type} (f : α → Str) (l : List α) (hok : ∀ c ∈ l, PyData.strOk (f c) = true) : SeqAt.shaped (.list (l.map fun c => PyData.str (f c))) = true := by
  have h1 : PyData.canLayAll0 (l.map fun c => PyData.str (f c)) = true := by
    induction l with
    | nil => rfl
    | cons n l ih => simp [PyData.canLayAll0, PyData.canLay0, ih fun c hc => hok c (List.mem_cons_of_mem _ hc), hok n List.mem_cons_self]
  have h2 : PyData.depthAll (l.map fun c => PyData.str (f c)) = 0 := by
    clear h1 hok
    induction l with
    | nil => rfl
    | cons n l ih => simp [PyData.depthAll, PyData.depth, ih]
  unfold SeqAt.shaped
  have e : PyData.depth (.list (l.map fun c => PyData.str (f c))) = 1 := by simp [PyData.depth, h2]
  rw [e]
  simp [PyData.canLay0, h1]
theorem cut_take (l : List Nat) {i : Int} (h : 0 ≤ i) : cutS (tx l) none (some i) = tx (l.take i.toNat) := by
  unfold cutS HT.sIx
  simp only [tx_len]
  rw [if_neg (by omega), List.drop_zero, Nat.sub_zero]
  show tx (l.take _) = _
  rw [← List.take_take, List.take_length]
theorem cut_drop (l : List Nat) {i : Int} (h : 0 ≤ i) (h2 : i ≤ l.length) : cutS (tx l) (some i) none = tx (l.drop i.toNat) := by
  unfold cutS HT.sIx
  simp only [tx_len]
  rw [if_neg (by omega)]
  show tx ((l.drop _).take _) = _
  rw [Nat.min_eq_left (by omega), List.take_of_length_le (by rw [List.length_drop]; omega)]
example : Str.ofString "ab" = tx [97, 98] := by rfl
example : (Str.ofString "") = tx [] := by rfl
end Pl

namespace Pl
open PySem PySem.Spec PyProof.Rows L2
/-! ### helpers of the walks -/
section
variable {K : PySem.W.Frag}
/-! what a comparison asks, its outcome known -/
theorem w_eq_str {x y : Str} {cs : List Cell} {Q : WQ} (b : Bool) (hb : decide (x = y) = b) (h : Q (.d (.bl b)) cs) : (O.eq (K := K)).w (.d (.str x)) (.d (.str y)) cs Q := by
  subst hb; exact h
theorem w_eq_int {x y : Int} {cs : List Cell} {Q : WQ} (b : Bool) (hb : decide (x = y) = b) (h : Q (.d (.bl b)) cs) : (O.eq (K := K)).w (.d (.int x)) (.d (.int y)) cs Q := by
  subst hb; exact h
theorem w_eq_bl {x y : Bool} {cs : List Cell} {Q : WQ} (b : Bool) (hb : decide (x = y) = b) (h : Q (.d (.bl b)) cs) : (O.eq (K := K)).w (.d (.bl x)) (.d (.bl y)) cs Q := by
  subst hb; exact h
theorem w_ne_str {x y : Str} {cs : List Cell} {Q : WQ} (b : Bool) (hb : decide (x = y) = b) (h : Q (.d (.bl (!b))) cs) : (O.ne (K := K)).w (.d (.str x)) (.d (.str y)) cs Q := by
  subst hb; exact h
theorem w_ne_int {x y : Int} {cs : List Cell} {Q : WQ} (b : Bool) (hb : decide (x = y) = b) (h : Q (.d (.bl (!b))) cs) : (O.ne (K := K)).w (.d (.int x)) (.d (.int y)) cs Q := by
  subst hb; exact h
theorem w_ne_bl {x y : Bool} {cs : List Cell} {Q : WQ} (b : Bool) (hb : decide (x = y) = b) (h : Q (.d (.bl (!b))) cs) : (O.ne (K := K)).w (.d (.bl x)) (.d (.bl y)) cs Q := by
  subst hb; exact h
theorem w_lt {x y : Int} {cs : List Cell} {Q : WQ} (b : Bool) (hb : decide (x < y) = b) (h : Q (.d (.bl b)) cs) : (O.lt (K := K)).w (.d (.int x)) (.d (.int y)) cs Q := by
  subst hb; exact h
theorem w_le {x y : Int} {cs : List Cell} {Q : WQ} (b : Bool) (hb : decide (x ≤ y) = b) (h : Q (.d (.bl b)) cs) : (O.le (K := K)).w (.d (.int x)) (.d (.int y)) cs Q := by
  subst hb; exact h
theorem w_gt {x y : Int} {cs : List Cell} {Q : WQ} (b : Bool) (hb : decide (y < x) = b) (h : Q (.d (.bl b)) cs) : (O.gt (K := K)).w (.d (.int x)) (.d (.int y)) cs Q := by
  subst hb; exact h
theorem w_ge {x y : Int} {cs : List Cell} {Q : WQ} (b : Bool) (hb : decide (y ≤ x) = b) (h : Q (.d (.bl b)) cs) : (O.ge (K := K)).w (.d (.int x)) (.d (.int y)) cs Q := by
  subst hb; exact h
/-- what is known is kept -/
theorem again0 {n : Nat} {I : Ct → Prop} {l l' : List (Option W)} {c g : List Cell} (h : LeS c.length l l') (hl : n ≤ c.length) (bc : ∀ x ∈ c, x.below c.length) (hI : I ⟨l', c⟩) : S.again n I ⟨l, c ++ g⟩ := ⟨_, .mk' h bc, hl, hI⟩
theorem below_app {n : Nat} {a b : List Cell} (h : ∀ x ∈ a, x.below n) (h2 : ∀ x ∈ b, x.below n) : ∀ x ∈ a ++ b, x.below n := fun x hx => (List.mem_append.mp hx).elim (h x) (h2 x)
theorem below_pl {n : Nat} {ds : List D} : ∀ x ∈ [Cell.pl ds], x.below n := fun x hx => by cases List.mem_singleton.mp hx; trivial
theorem Cell.below.mono {n m : Nat} {c : Cell} (h : c.below n) (l : n ≤ m) : c.below m := by
  have wb : ∀ w : W, w.below n → w.below m := fun w hw => by
    cases w with
    | d _ => trivial
    | cel k => exact Nat.lt_of_lt_of_le hw l
  cases c with
  | pl _ => trivial
  | lst ws => exact fun w hw => wb w (h w hw)
  | dic kvs => exact fun w hw => wb w.2 (h w hw)
  | gone => trivial
theorem ss_below' {m : Nat} (ns : List Int) (g n h : Int) (l : 2 ≤ m) : ∀ c ∈ ss ns g n h, c.below m := fun c hc => (ss_below ns g n h c hc).mono l
theorem len_D {R : List D → D → Prop} {n : Nat} (h : ∀ ds d, R ds d → ds.length = n) (vs : List V) (H : Hp) (Q : VK) (E : XK) (s : SpD K R vs H Q E) : vs.length = n := by
  obtain ⟨_, _, ds, d, _, r, hR, _⟩ := s
  rw [r.length]; exact h ds d hR
theorem len_C {Φ : List W → List Cell → WQ → Prop} {n : Nat} (h : ∀ ws cs κ, Φ ws cs κ → ws.length = n) (vs : List V) (H : Hp) (Q : VK) (E : XK) (s : SpC K Φ vs H Q E) : vs.length = n := by
  obtain ⟨_, _, _, ws, cs, κ, _, r, hR, _⟩ := s
  rw [r.length]; exact h ws cs κ hR
theorem len_N {Φ : List W → WQ → Prop} {n : Nat} (h : ∀ ws κ, Φ ws κ → ws.length = n) (vs : List V) (H : Hp) (Q : VK) (E : XK) (s : SpN K Φ vs H Q E) : vs.length = n := by
  obtain ⟨_, _, ws, κ, _, r, hR, _⟩ := s
  rw [r.length]; exact h ws κ hR
theorem len__law_same {k : Nat} : ∀ ds d, RSame k ds d → ds.length = 2 := fun ds d h => by
  cases k with
  | zero => exact h.elim
  | succ k => obtain ⟨x, rfl, _⟩ := h; rfl
/-- a law's promise, of its script -/
theorem sp_law {R : List D → D → Prop} (hR : ∀ ns, R [.scr ns] (.bl true)) (H : Hp) (a : Addr) (ns : List Int) (h : SqL K H a (ns.map V.int)) : SpD K R [.ref a] H (fun v _ => v = .bl true) fun _ _ _ => False :=
  ⟨fun _ => none, H, [.scr ns], .bl true, ⟨Ex.refl _, (fun a o e => by cases e), List.nodup_nil, rfl, (fun k a c h => by cases h)⟩, .cons (.scr h) .nil, hR ns, fun v B' H' _ _ r => Rp.unB r⟩
end
end Pl

namespace Pl
open PySem PySem.Spec PyProof.Rows L2
/-! ### more operators, methods, built-ins -/
def repT (z : Str) (k : Nat) : Str := ⟨(List.replicate k z.cps.toList).flatten.toArray⟩
theorem repT_len (z : Str) (k : Nat) : (repT z k).length = k * z.length := by
  show ((List.replicate k z.cps.toList).flatten.toArray).size = _
  rw [List.size_toArray, List.length_flatten, List.map_replicate, List.sum_replicate_nat]
  show k * z.cps.toList.length = k * z.cps.size
  rw [Array.length_toList]
def rRepS : R2 := fun x y H Q => ∃ z k, x = .str z ∧ y = .int k ∧ 0 ≤ k ∧ k ≤ 1000000 ∧ z.length * k.toNat ≤ lineN ∧ Q (.str (repT z k.toNat)) H
theorem fold_rep (k : Nat) (a : Array Nat) : ∀ b : Array Nat, (List.replicate k a).foldl (· ++ ·) b = b ++ (List.replicate k a.toList).flatten.toArray := by
  induction k with
  | zero => intro b; simp
  | succ k ih =>
    intro b
    rw [List.replicate_succ, List.foldl_cons, ih, List.replicate_succ, List.flatten_cons]
    cases a; cases b
    simp
theorem op_repS {X : Cx} : OpR X (binaryOp .Mult) rRepS := by
  intro pins s σ H x y v u Q I rx ry h
  obtain ⟨z, k, rfl, rfl, h0, h1, hl, q⟩ := h
  obtain ⟨t, rfl⟩ := rx
  obtain ⟨t', rfl⟩ := ry
  have hl' : z.length * k.toNat ≤ 1000000 := hl
  have hs : sizeLine = 16777216 := by decide
  refine P.mul_str ?_ ?_ ?_ ?_
  · rw [decide_eq_false (by omega), decide_eq_false (by omega)]; rfl
  · intro hk _ hgt
    have hk' : 0 < k := by omega
    have h3 : (z.length : Int) * k ≤ 1000000 := by
      have : ((z.length * k.toNat : Nat) : Int) ≤ 1000000 := by omega
      rw [Int.natCast_mul, Int.toNat_of_nonneg h0] at this
      exact this
    have h4 : (z.length : Int) ≤ (2 ^ 63 - 1) / k := by
      rw [Int.le_ediv_iff_mul_le hk']
      omega
    omega
  · intro hk _
    unfold Builtin.Str.tooLong
    exact decide_eq_false (by omega)
  · by_cases hk : k < 1
    · rw [if_pos hk]
      refine ⟨by decide, .str (repT z k.toNat), H, I.tok _, ?_, q⟩
      have : k.toNat = 0 := by omega
      rw [this]
      exact ⟨_, rfl⟩
    · rw [if_neg hk]
      by_cases h2 : (k == 1 || z.length == 0) = true
      · rw [if_pos h2]
        refine ⟨.str (repT z k.toNat), H, I, ?_, q⟩
        refine ⟨t, ?_⟩
        have : repT z k.toNat = z := by
          rw [Bool.or_eq_true, beq_iff_eq, beq_iff_eq] at h2
          unfold repT
          rcases h2 with h2 | h2
          · subst h2; simp
          · have : z.cps = #[] := Array.eq_empty_of_size_eq_zero h2
            cases z; subst this; simp
        rw [this]
      · rw [if_neg h2]
        have e : (⟨(List.replicate k.toNat z.cps).foldl (· ++ ·) #[]⟩ : Str) = repT z k.toNat := by
          rw [fold_rep]; unfold repT; simp
        rw [e]
        refine ⟨?_, .str (repT z k.toNat), H, I.tok _, ⟨_, rfl⟩, q⟩
        rw [repT_len, Nat.mul_comm]
        omega

theorem rep_tx (l : List Nat) (k : Nat) : repT (tx l) k = tx (List.replicate k l).flatten := rfl
def inStr (i j : Str) : Bool := !(Builtin.Str.occurrences j i 0 j.length 1).isEmpty
theorem in_one (l : List Nat) (c : Nat) : inStr (tx [c]) (tx l) = decide (c ∈ l) := by
  unfold inStr
  exact StrLaws.found_one (tx l) c
theorem count_one (l : List Nat) (c : Nat) : Txt.count (tx l) (tx [c]) = (l.count c : Nat) := by
  refine (count_is (tx l) c).trans ?_
  show countIn (.str ⟨#[c]⟩) (l.map fun n => PyData.str ⟨#[n]⟩) = _
  induction l with
  | nil => rfl
  | cons n r ih =>
    show (if same (.str ⟨#[n]⟩) (.str ⟨#[c]⟩) then 1 else 0) + countIn (.str ⟨#[c]⟩) (r.map fun n => PyData.str ⟨#[n]⟩) = _
    rw [ih, same_sign, List.count_cons]
    by_cases h : n = c
    · subst h; simp; omega
    · simp [h]
section
variable {K : PySem.W.Frag}
namespace O
/-- a text times an int -/
def mulS : Op2 K where
  r := Pl.rRepS
  w := fun x y cs Q => match x, y with
    | .d (.str z), .d (.int k) => 0 ≤ k ∧ k ≤ 1000000 ∧ z.length * k.toNat ≤ lineN ∧ Q (.d (.str (repT z k.toNat))) cs
    | _, _ => False
  ok := fun x y cs Q h F B H as v u S rx ry R k => by
    split at h
    · cases Rp.unS rx; cases Rp.unI ry
      exact ⟨_, _, rfl, rfl, h.1, h.2.1, h.2.2.1, k.now S (RW.p (Rp.str _)) h.2.2.2⟩
    · exact h.elim
def inS : Op2 K where
  r := fun x y H Q => ∃ i j, x = .str i ∧ y = .str j ∧ Q (.bl (!(Builtin.Str.occurrences j i 0 j.length 1).isEmpty)) H
  w := fun x y cs Q => match x, y with
    | .d (.str i), .d (.str j) => Q (.d (.bl (inStr i j))) cs
    | _, _ => False
  ok := fun x y cs Q h F B H as v u S rx ry R k => by
    split at h
    · cases Rp.unS rx; cases Rp.unS ry
      exact ⟨_, _, rfl, rfl, k.now S (RW.p (Rp.bl _)) h⟩
    · exact h.elim
def notInS : Op2 K where
  r := fun x y H Q => ∃ i j, x = .str i ∧ y = .str j ∧ Q (.bl (!(!(Builtin.Str.occurrences j i 0 j.length 1).isEmpty))) H
  w := fun x y cs Q => match x, y with
    | .d (.str i), .d (.str j) => Q (.d (.bl (!inStr i j))) cs
    | _, _ => False
  ok := fun x y cs Q h F B H as v u S rx ry R k => by
    split at h
    · cases Rp.unS rx; cases Rp.unS ry
      exact ⟨_, _, rfl, rfl, k.now S (RW.p (Rp.bl _)) h⟩
    · exact h.elim
/-- x in a list of data -/
def inLW (x y : W) (cs : List Cell) (Q : Bool → Prop) : Prop := ∃ d ds, pyW x cs = some d ∧ pyW y cs = some (.list ds) ∧ SeqAt.shaped d = true ∧ SeqAt.shaped (.list ds) = true ∧ Q (ds.any fun z => PyData.eqv z d)
def inL : Op2 K where
  r := rInD K
  w := fun x y cs Q => inLW x y cs fun b => Q (.d (.bl b)) cs
  ok := fun x y cs Q h F B H as v u S rx ry R k => by
    obtain ⟨d, ds, h1, h2, h3, h4, q⟩ := h
    exact ⟨d, ds, pyW_ok S rx h1, pyW_ok S ry h2, h3, h4, k.now S (RW.p (Rp.bl _)) q⟩
def notInL : Op2 K where
  r := rNotInD K
  w := fun x y cs Q => inLW x y cs fun b => Q (.d (.bl (!b))) cs
  ok := fun x y cs Q h F B H as v u S rx ry R k => by
    obtain ⟨d, ds, h1, h2, h3, h4, q⟩ := h
    exact ⟨d, ds, pyW_ok S rx h1, pyW_ok S ry h2, h3, h4, k.now S (RW.p (Rp.bl _)) q⟩
end O
namespace C
def max2 : CB K where
  r := fun xs H Q => ∃ i j, xs = [.int i, .int j] ∧ Q (.int (if j > i then j else i)) H
  w := fun xs cs Q => match xs with
    | [.d (.int i), .d (.int j)] => Q (.d (.int (if j > i then j else i))) cs
    | _ => False
  ok := fun xs cs Q h F B H as vs S r R k => by
    split at h
    · obtain ⟨v, u, rfl, r1, r2⟩ := vals2R r
      cases Rp.unI r1; cases Rp.unI r2
      exact ⟨_, _, rfl, k.now S (RW.p (Rp.int _)) h⟩
    · exact h.elim
def min2 : CB K where
  r := fun xs H Q => ∃ i j, xs = [.int i, .int j] ∧ Q (.int (if j < i then j else i)) H
  w := fun xs cs Q => match xs with
    | [.d (.int i), .d (.int j)] => Q (.d (.int (if j < i then j else i))) cs
    | _ => False
  ok := fun xs cs Q h F B H as vs S r R k => by
    split at h
    · obtain ⟨v, u, rfl, r1, r2⟩ := vals2R r
      cases Rp.unI r1; cases Rp.unI r2
      exact ⟨_, _, rfl, k.now S (RW.p (Rp.int _)) h⟩
    · exact h.elim
end C
namespace M
def count : MB K where
  T := "str"
  r := fun x xs H Q => ∃ a b, x = .str a ∧ xs = [.str b] ∧ Q (.int (Txt.count a b)) H
  ty := isStr
  tok := fun x cs h F B H as v S r => isStr_ok (F := F) (as := as) h r
  w := fun x xs cs Q => match x, xs with
    | .d (.str a), [.d (.str b)] => Q (.d (.int (Txt.count a b))) cs
    | _, _ => False
  ok := fun x xs cs Q h F B H as v vs S rx r R k => by
    split at h
    · obtain ⟨u, rfl, rv⟩ := vals1R r
      cases Rp.unS rx; cases Rp.unS rv
      exact ⟨_, _, rfl, rfl, k.now S (RW.p (Rp.int _)) h⟩
    · exact h.elim
end M
end
theorem hu65 {A : Around} {k : Nat} (hr : Room k A) : A.units + 65 < cLine := by have := hr.un; omega
section
variable {K : PySem.W.Frag}
/-- a list made of the items that pass, nothing changed -/
theorem lcF {vs : List Nat} {g : TGi K vs} {t : TTs K} {e : ET K} {sl : List (Option W)} {items : List D} {cs : List Cell} {Q : WQ} (f : D → D) (p : D → Bool) (hl : items.length ≤ lineN)
    (step : ∀ (x : D), x ∈ items → ∀ (R : WQ) (R2 : List Cell → Prop), (p x = true → R (.d (f x)) cs) → (p x = false → R2 cs) → g.w (.d x) ⟨wipeS sl vs, cs⟩ fun Γ2 => t.w Γ2 fun b cs2 => match b with
      | true => e.w ⟨Γ2.sl, cs2⟩ R
      | false => R2 cs2) (fin : Q (.d (.lst ((items.filter p).map f))) cs) : E.lcW vs g t e sl Q items cs := by
  refine lcW_of (fun i acc cs' => cs' = cs ∧ acc = ((items.take i).filter p).map f ∧ i ≤ items.length) ⟨rfl, by simp, Nat.zero_le _⟩ ?_ ?_
  · rintro i x acc cs' hx ⟨e1, e2, _⟩
    subst e1 e2
    have hi := (List.getElem?_eq_some_iff.mp hx).1
    refine step x (List.mem_of_getElem? hx) _ (fun cs2 => cs2 = cs' ∧ ((items.take i).filter p).map f = ((items.take (i + 1)).filter p).map f ∧ i + 1 ≤ items.length) (fun hp => ⟨?_, rfl, ?_, hi⟩) (fun hp => ⟨rfl, ?_, hi⟩)
    · rw [List.length_map]
      have := List.length_filter_le p (items.take i)
      rw [List.length_take] at this
      omega
    · rw [List.take_add_one, hx]; simp [hp]
    · rw [List.take_add_one, hx]; simp [hp]
  · rintro _ _ ⟨rfl, rfl, _⟩
    rw [List.take_length]; exact fin
end
end Pl

namespace Pl
open PySem PySem.Spec PyProof.Rows L2
/-! ### what many laws share: rows of two letters, drawn -/
def Ab (l : List Nat) : Prop := ∀ c ∈ l, c = 97 ∨ c = 98
theorem ab0 : Ab [] := fun _ h => by cases h
theorem ab_a : Ab [97] := fun _ h => .inl (List.mem_singleton.mp h)
theorem ab_b : Ab [98] := fun _ h => .inr (List.mem_singleton.mp h)
theorem Ab.app {a b : List Nat} (h : Ab a) (h2 : Ab b) : Ab (a ++ b) := fun c hc => (List.mem_append.mp hc).elim (h c) (h2 c)
theorem Ab.take {a : List Nat} (h : Ab a) (n : Nat) : Ab (a.take n) := fun c hc => h c (List.mem_of_mem_take hc)
theorem Ab.drop {a : List Nat} (h : Ab a) (n : Nat) : Ab (a.drop n) := fun c hc => h c (List.mem_of_mem_drop hc)
theorem Ab.rev {a : List Nat} (h : Ab a) : Ab a.reverse := fun c hc => h c (List.mem_reverse.mp hc)
theorem Ab.one {c : Nat} (h : c = 97 ∨ c = 98) : Ab [c] := fun d hd => by cases List.mem_singleton.mp hd; exact h
theorem Ab.rep {a : List Nat} (h : Ab a) (n : Nat) : Ab (List.replicate n a).flatten := fun c hc => by
  obtain ⟨l, hl, hc⟩ := List.mem_flatten.mp hc
  rw [(List.mem_replicate.mp hl).2] at hc
  exact h c hc
theorem rep_len (a : List Nat) (n : Nat) : (List.replicate n a).flatten.length = n * a.length := by
  rw [List.length_flatten, List.map_replicate, List.sum_replicate_nat]
local macro_rules | `(tactic| walk_at "n") => `(tactic| ((conv => whnf); (try dsimp only [List.set_cons_zero, List.set_cons_succ, List.cons_append, List.nil_append])))
section
variable {K : PySem.W.Frag}
abbrev N__law_v_drawn : List Str := ["stream", "many", "at"]
def b__law_v_drawn : St K :=
  (S.ret (E.bm M.join (E.str (PySem.Str.ofString "")) (A.cons (E.lc [2] (I.range1 (A.cons (E.var 1) A.nil)) (Gi.name 2 (by decide)) T.yes (E.callS Φ__law_pick (A.cons (E.var 0) (A.cons (E.lst (A.cons (E.str (PySem.Str.ofString "a")) (A.cons (E.str (PySem.Str.ofString "b")) A.nil))) A.nil)))) A.nil)))
def Φ__law_v_drawn : List W → List Cell → WQ → Prop := fun ws cs κ => ∃ (n : Nat) (m : Int), ws = [.cel 1, dI m] ∧ Sm n cs ∧ 0 ≤ m ∧ m ≤ 100000 ∧ n + 200000 < lim ∧ ∀ l cs', Ab l → l.length = m.toNat → Sm (n + m.toNat) cs' → κ (.d (dT l)) cs'
theorem sem__law_v_drawn (ws : List W) (cs : List Cell) (κ : WQ) (h : Φ__law_v_drawn ws cs κ) : (b__law_v_drawn (K := K)).w (entry N__law_v_drawn ws cs) { nx := fun Γ => leaves cs.length κ (.d .non) Γ.cs, rt := leaves cs.length κ } := by
  obtain ⟨n, m, rfl, ⟨ns, g, c, hh, rfl, hq⟩, m0, m1, hn, k⟩ := h
  refine ⟨trivial, ⟨by omega, by omega⟩, ?_⟩
  refine lcW_of (fun i acc cs => ∃ l ns g c h, acc = l.map (fun c => dT [c]) ∧ Ab l ∧ l.length = i ∧ i ≤ m.toNat ∧ cs = ss ns g c h ∧ Sm (n + i) (ss ns g c h)) ⟨[], ns, g, c, hh, rfl, ab0, rfl, Nat.zero_le _, rfl, ⟨_, _, _, _, rfl, hq⟩⟩ ?_ ?_
  · rintro i x _ _ hx ⟨l, ns, g, c, h, rfl, ml, rfl, hi, rfl, sm⟩
    have hi' : l.length < m.toNat := by
      have := (List.getElem?_eq_some_iff.mp hx).1
      rw [rng_len] at this; exact this
    refine ⟨(by decide : 2 ≤ lineN), n + l.length, _, [], rfl, sm, bel1d, n + l.length, _, rfl, sm, by omega, by decide, by decide, ?_⟩
    rintro d hd _ ⟨ns, g, c, hh, rfl, hq⟩
    have fin : ∀ k : Nat, (k = 97 ∨ k = 98) → (l.map fun c => dT [c]).length < lineN ∧ ∃ l_1 ns' g' c' h', (l.map fun c => dT [c]) ++ [dT [k]] = l_1.map (fun c => dT [c]) ∧ Ab l_1 ∧ l_1.length = l.length + 1 ∧ l.length + 1 ≤ m.toNat ∧ ss ns g c hh ++ [] = ss ns' g' c' h' ∧ Sm (n + (l.length + 1)) (ss ns' g' c' h') := fun k hk => by
      refine ⟨by rw [List.length_map, lim_line]; omega, l ++ [k], ns, g, c, hh, by simp, ml.app (Ab.one hk), by simp, hi', rfl, ⟨_, _, _, _, rfl, hq⟩⟩
    rcases List.mem_cons.mp hd with rfl | hd
    · exact fin 97 (.inl rfl)
    rcases List.mem_cons.mp hd with rfl | hd
    · exact fin 98 (.inr rfl)
    cases hd
  · rintro _ _ ⟨l, ns, g, c, h, rfl, ml, hl, hi, rfl, sm⟩
    have hl' : l.length = m.toNat := by rw [hl]; exact rng_len _ _
    have l1 : l.length ≤ lineN := by rw [lim_line]; omega
    refine ⟨l.map fun c => tx [c], ?_, ?_, ss ns g c h, [], rfl, rfl, trivial, ss_below _ _ _ _, ?_⟩
    · have := txs_map l id
      rw [List.map_id] at this
      exact this
    · show _ + _ * (tx []).length ≤ _
      have := sum_tx l id
      rw [List.map_id] at this
      rw [this]; exact l1
    · show κ (.d (.str (Txt.join (tx []) (l.map fun c => tx [c])))) _
      rw [join_tx1]
      exact k l _ ml hl' (sm.mono (by rw [rng_len]; omega))
/-! the spread -/
def spHit (many q r at_ : Nat) : Bool := (List.range (many + 2)).any fun k => decide ((r : Int) + q * at_ < k * many) && decide ((k : Int) * many ≤ r + q * (at_ + 1))
def spL (many q r : Nat) : List Nat := (List.range many).map fun i => if spHit many q r i = true then 98 else 97
theorem spL_len (many q r : Nat) : (spL many q r).length = many := by unfold spL; simp
theorem spL_ab (many q r : Nat) : Ab (spL many q r) := fun c hc => by
  obtain ⟨i, _, rfl⟩ := List.mem_map.mp hc
  split
  · exact .inr rfl
  · exact .inl rfl
abbrev N__law_v_spread : List Str := ["p", "q", "r", "many", "found", "reached", "at", "later", "hits", "k"]
def b__law_v_spread : St K :=
  (S.seq (S.asg (E.tup (A.cons (E.op O.add (E.var 0) (E.var 1)) (A.cons (E.str (PySem.Str.ofString "")) (A.cons (E.var 2) A.nil)))) (G.tup 3 (G.cons (G.name 3) (G.cons (G.name 4) (G.cons (G.name 5) G.nil)))))
    (S.seq (S.for_ (I.range1 (A.cons (E.var 3) A.nil)) (G.name 6) (S.seq (S.asg (E.op O.add (E.var 5) (E.var 1)) (G.name 7))
    (S.seq (S.asg (E.lc [9] (I.range1 (A.cons (E.op O.add (E.var 3) (E.int 2)) A.nil)) (Gi.name 9 (by decide)) (T.cmp (E.chain O.lt O.le (E.var 5) (E.op O.mul (E.var 9) (E.var 3)) (E.var 7))) (E.var 9)) (G.name 8))
    (S.asg (E.tup (A.cons (E.op O.add (E.var 4) (E.ite (T.cmp (E.op O.ne (E.var 8) (E.lst A.nil))) (E.str (PySem.Str.ofString "b")) (E.str (PySem.Str.ofString "a")))) (A.cons (E.var 7) A.nil))) (G.tup 2 (G.cons (G.name 4) (G.cons (G.name 5) G.nil)))))))
    (S.ret (E.var 4))))
def R__law_v_spread : List D → D → Prop := fun ds d => ∃ p q r : Nat, ds = [.int p, .int q, .int r] ∧ d = dT (spL (p + q) q r) ∧ p + q ≤ 1000 ∧ r ≤ 1000
theorem filter_empty {α : Type} (p : α → Bool) (l : List α) : (l.filter p).isEmpty = !l.any p := by
  induction l with
  | nil => rfl
  | cons a l ih => cases h : p a <;> simp [h, ih]
theorem pyD_ints (L : List Int) : O.pyD (.lst (L.map D.int)) = some (.list (L.map PyData.int)) := by
  unfold O.pyD
  rw [pyA_ints]; rfl
theorem eqv_nil (L : List Int) : PyData.eqv (.list (L.map PyData.int)) (.list []) = L.isEmpty := by
  cases L <;> rfl
theorem sem__law_v_spread (ds : List D) (d : D) (h : R__law_v_spread ds d) : (b__law_v_spread (K := K)).w (entry N__law_v_spread (ds.map W.d) []) { nx := fun _ => d = .non, rt := fun x _ => x = .d d } := by
  obtain ⟨p, q, r, rfl, rfl, hm, hr⟩ := h
  refine ⟨(by decide : 3 ≤ lineN), rfl, ⟨by omega, by omega⟩, ?_⟩
  refine ⟨fun i Γ => ∃ x6 x7 x8 x9, Γ = ⟨[some (dI p), some (dI q), some (dI r), some (dI (p + q)), some (.d (dT ((spL (p + q) q r).take i))), some (dI (r + q * (i : Nat))), x6, x7, x8, x9], []⟩ ∧ i ≤ p + q, ⟨none, none, none, none, ?_, Nat.zero_le _⟩, ?_, ?_⟩
  · show (⟨[_, _, _, _, _, some (dI r), _, _, _, _], []⟩ : Ct) = _
    rw [show (r : Int) + q * ((0 : Nat) : Int) = r by simp]; rfl
  · rintro i x _ hx ⟨x6, x7, x8, x9, rfl, _⟩
    have hi : i < p + q := by
      have := (List.getElem?_eq_some_iff.mp hx).1
      rw [rng_len] at this; omega
    refine ⟨⟨by omega, by omega⟩, ?_⟩
    walk_at "n"
    refine lcF id (fun x => match x with | .int k => decide ((r : Int) + q * (i : Nat) < k * (p + q)) && decide (k * (p + q) ≤ r + q * (i : Nat) + q) | _ => false) ?_ ?_ ?_
    · rw [rng_len, lim_line]; omega
    · intro x hx R R2 h1 h2
      obtain ⟨k, hk, rfl⟩ := List.mem_map.mp hx
      have hk := List.mem_range.mp hk
      refine ⟨cmul_ok (by omega) (by omega), ?_⟩
      walk_at "n"
      by_cases c1 : (r : Int) + q * (i : Nat) < (0 + (k : Nat)) * (p + q)
      · rw [decide_eq_true c1]
        walk_at "n"
        by_cases c2 : (0 + ((k : Nat) : Int)) * (p + q) ≤ r + q * (i : Nat) + q
        · rw [decide_eq_true c2]
          exact h1 (by show (decide _ && decide _) = true; rw [decide_eq_true c1, decide_eq_true c2]; rfl)
        · rw [decide_eq_false c2]
          exact h2 (by show (decide _ && decide _) = false; rw [decide_eq_true c1, decide_eq_false c2]; rfl)
      · rw [decide_eq_false c1]
        exact h2 (by show (decide _ && decide _) = false; rw [decide_eq_false c1]; rfl)
    · obtain ⟨L, eL, hL⟩ : ∃ L : List Int, (List.map id (List.filter (fun x => match x with | .int k => decide ((r : Int) + q * (i : Nat) < k * (p + q)) && decide (k * (p + q) ≤ r + q * (i : Nat) + q) | _ => false) (rngD 0 ((p : Int) + q + 2).toNat))) = L.map D.int ∧ L.isEmpty = !(spHit (p + q) q r i) := by
        refine ⟨((List.range (p + q + 2)).filter fun k : Nat => decide ((r : Int) + q * (i : Nat) < (0 + (k : Int)) * (p + q)) && decide ((0 + (k : Int)) * (p + q) ≤ r + q * (i : Nat) + q)).map fun k : Nat => (0 + (k : Int)), ?_, ?_⟩
        · rw [List.map_id, show ((p : Int) + q + 2).toNat = p + q + 2 by omega]
          unfold rngD
          rw [List.filter_map, List.map_map]; rfl
        · rw [List.isEmpty_map, filter_empty]
          unfold spHit
          congr 2
          funext k
          rw [show ((p + q : Nat) : Int) = (p : Int) + q by omega, show (0 + (k : Int)) = k by omega, show (r : Int) + q * ((i : Int) + 1) = r + q * (i : Int) + q by rw [Int.mul_add]; omega]
      rw [eL]
      have es : (spL (p + q) q r).take (i + 1) = (spL (p + q) q r).take i ++ [if spHit (p + q) q r i = true then 98 else 97] := by
        rw [List.take_add_one]
        unfold spL
        rw [List.getElem?_map, List.getElem?_range hi]; rfl
      have ll : ((spL (p + q) q r).take i).length = i := by rw [List.length_take, spL_len]; omega
      have fin : ∀ c : Nat, c = (if spHit (p + q) q r i = true then 98 else 97) → ∀ x8 x9 y, S.again 0 (fun Γ => ∃ x6 x7 x8 x9, Γ = ⟨[some (dI p), some (dI q), some (dI r), some (dI (p + q)), some (.d (dT ((spL (p + q) q r).take (i + 1)))), some (dI (r + q * ((i + 1 : Nat) : Int))), x6, x7, x8, x9], []⟩ ∧ i + 1 ≤ p + q)
          ⟨[some (dI p), some (dI q), some (dI r), some (dI (p + q)), some (.d (.str (tx ((spL (p + q) q r).take i) ++ tx [c]))), some (dI (r + q * (i : Nat) + q)), some y, some (dI (r + q * (i : Nat) + q)), x8, x9], []⟩ := by
        rintro c rfl x8 x9 y
        rw [tx_app, ← es, show (r : Int) + q * (i : Nat) + q = r + q * ((i + 1 : Nat) : Int) by rw [Int.natCast_add, Int.mul_add]; omega]
        exact again0 (c := []) (g := []) (.keep trivial (.keep trivial (.keep trivial (.keep trivial (.keep trivial (.keep trivial (.drop (.drop (.drop (.drop .nil)))))))))) (Nat.le_refl _) (fun x hx => by cases hx) ⟨none, none, none, none, rfl, hi⟩
      refine ⟨(by decide : 0 ≤ lineN), _, .list [], pyD_ints L, rfl, shaped_ints L, rfl, ?_⟩
      rw [eqv_nil, hL]
      cases hh : spHit (p + q) q r i with
      | true =>
        refine ⟨by rw [tx_len, ll, lim_line]; show i + 1 ≤ _; omega, (by decide : 2 ≤ lineN), rfl, ?_⟩
        exact fin 98 (by rw [hh]; rfl) _ _ _
      | false =>
        refine ⟨by rw [tx_len, ll, lim_line]; show i + 1 ≤ _; omega, (by decide : 2 ≤ lineN), rfl, ?_⟩
        exact fin 97 (by rw [hh]; rfl) _ _ _
  · rintro _ ⟨x6, x7, x8, x9, rfl, _⟩
    show W.d (dT ((spL (p + q) q r).take (rngD 0 ((p : Int) + q).toNat).length)) = _
    rw [rng_len, show ((p : Int) + q).toNat = p + q by omega, List.take_of_length_le (by rw [spL_len]; omega)]
abbrev N__law_v_even : List Str := ["stream", "most", "many", "q", "ring"]
abbrev N__law_v_bent : List Str := ["stream", "ring", "way", "at", "to"]
abbrev N__law_v_row : List Str := ["stream", "most", "way", "many", "ring", "at", "row"]
abbrev N_is_of : List Str := ["thing", "signs", "sign"]
abbrev N_is_row : List Str := ["thing"]
abbrev N_need_row : List Str := ["row"]
def Φ__law_v_even : List W → List Cell → WQ → Prop := fun ws cs κ => ∃ (n : Nat) (m : Int), ws = [.cel 1, dI m] ∧ Sm n cs ∧ 1 ≤ m ∧ m ≤ 500 ∧ n + 10 < lim ∧ ∀ l cs', Ab l → 1 ≤ l.length → l.length ≤ m.toNat → Sm (n + 4) cs' → κ (.d (dT l)) cs'
def Φ__law_v_bent : List W → List Cell → WQ → Prop := fun ws cs κ => ∃ (n : Nat) (l : List Nat), ws = [.cel 1, .d (dT l)] ∧ Sm n cs ∧ Ab l ∧ 1 ≤ l.length ∧ l.length ≤ 5000 ∧ n + 10 < lim ∧ ∀ l' cs', Ab l' → l'.length ≤ l.length + 1 → Sm (n + 3) cs' → κ (.d (dT l')) cs'
def Φ__law_v_row : List W → List Cell → WQ → Prop := fun ws cs κ => ∃ (n : Nat) (m : Int), ws = [.cel 1, dI m] ∧ Sm n cs ∧ 1 ≤ m ∧ m ≤ 500 ∧ n + 200100 < lim ∧ ∀ l cs', Ab l → l.length ≤ m.toNat → Sm (n + 510) cs' → κ (.d (dT l)) cs'
/-- all of the text's signs among these; any other thing: no -/
def isOf (s : Str) : D → Option Bool
  | .str z => some (z.cps.toList.all fun c => decide (c ∈ s.cps.toList))
  | .non => some false
  | .bl _ => some false
  | .int _ => some false
  | .lst _ => some false
  | .tup _ => some false
  | .dic _ => some false
  | _ => none
def smallD : D → Prop
  | .str s => s.length ≤ 100000
  | _ => True
def R_is_of : List D → D → Prop := fun ds d => ∃ x s b, ds = [x, .str s] ∧ d = .bl b ∧ isOf s x = some b ∧ smallD x
def R_is_row : List D → D → Prop := fun ds d => ∃ x b, ds = [x] ∧ d = .bl b ∧ isOf (tx [97, 98]) x = some b ∧ smallD x
def R_need_row : List D → D → Prop := fun ds d => ∃ l, ds = [dT l] ∧ d = dT l ∧ Ab l ∧ l.length ≤ 100000
def b__law_v_even : St K :=
  (S.seq (S.asg (E.op O.add (E.int 1) (E.callS Φ__law_draw (A.cons (E.var 0) (A.cons (E.var 1) A.nil)))) (G.name 2))
    (S.seq (S.asg (E.callS Φ__law_draw (A.cons (E.var 0) (A.cons (E.op O.add (E.var 2) (E.int 1)) A.nil))) (G.name 3))
    (S.seq (S.asg (E.call R__law_v_spread (A.cons (E.op O.sub (E.var 2) (E.var 3)) (A.cons (E.var 3) (A.cons (E.callS Φ__law_draw (A.cons (E.var 0) (A.cons (E.var 2) A.nil))) A.nil)))) (G.name 4))
    (S.ret (E.ite (T.cmp (E.op O.eq (E.callS Φ__law_draw (A.cons (E.var 0) (A.cons (E.int 6) A.nil))) (E.int 0))) (E.op O.mulS (E.var 4) (E.cb C.int (A.cons (E.op O.fdiv (E.var 1) (E.var 2)) A.nil))) (E.var 4))))))
def b__law_v_bent : St K :=
  (S.seq (S.par 2 3 (A.cons (E.callS Φ__law_draw (A.cons (E.var 0) (A.cons (E.int 4) A.nil))) (A.cons (E.callS Φ__law_draw (A.cons (E.var 0) (A.cons (E.cb C.len (A.cons (E.var 1) A.nil)) A.nil))) A.nil)))
    (S.seq (S.ite (T.and (T.cmp (E.op O.eq (E.var 2) (E.int 0))) (T.cmp (E.op O.lt (E.op O.add (E.var 3) (E.int 1)) (E.cb C.len (A.cons (E.var 1) A.nil))))) (S.ret (E.op O.add (E.op O.add (E.op O.add (E.slice (E.var 1) OO.none (OO.part (E.var 3))) (E.op O.ix (E.var 1) (E.op O.add (E.var 3) (E.int 1)))) (E.op O.ix (E.var 1) (E.var 3))) (E.slice (E.var 1) (OO.part (E.op O.add (E.var 3) (E.int 2))) OO.none))) S.nil)
    (S.seq (S.ite (T.cmp (E.op O.eq (E.var 2) (E.int 1))) (S.ret (E.op O.add (E.op O.add (E.slice (E.var 1) OO.none (OO.part (E.var 3))) (E.ite (T.cmp (E.op O.eq (E.op O.ix (E.var 1) (E.var 3)) (E.str (PySem.Str.ofString "a")))) (E.str (PySem.Str.ofString "b")) (E.str (PySem.Str.ofString "a")))) (E.slice (E.var 1) (OO.part (E.op O.add (E.var 3) (E.int 1))) OO.none))) S.nil)
    (S.seq (S.ite (T.cmp (E.op O.eq (E.var 2) (E.int 2))) (S.ret (E.op O.add (E.op O.add (E.slice (E.var 1) OO.none (OO.part (E.var 3))) (E.callS Φ__law_pick (A.cons (E.var 0) (A.cons (E.lst (A.cons (E.str (PySem.Str.ofString "a")) (A.cons (E.str (PySem.Str.ofString "b")) A.nil))) A.nil)))) (E.slice (E.var 1) (OO.part (E.var 3)) OO.none))) S.nil)
    (S.seq (S.asg (E.callS Φ__law_draw (A.cons (E.var 0) (A.cons (E.cb C.len (A.cons (E.var 1) A.nil)) A.nil))) (G.name 4))
    (S.ret (E.op O.add (E.op O.add (E.slice (E.var 1) (OO.part (E.cb C.min2 (A.cons (E.var 3) (A.cons (E.var 4) A.nil)))) (OO.part (E.cb C.max2 (A.cons (E.var 3) (A.cons (E.var 4) A.nil))))) (E.slice (E.var 1) OO.none (OO.part (E.cb C.min2 (A.cons (E.var 3) (A.cons (E.var 4) A.nil)))))) (E.slice (E.var 1) (OO.part (E.cb C.max2 (A.cons (E.var 3) (A.cons (E.var 4) A.nil)))) OO.none))))))))
def b__law_v_row : St K :=
  (S.seq (S.par 2 3 (A.cons (E.callS Φ__law_draw (A.cons (E.var 0) (A.cons (E.int 4) A.nil))) (A.cons (E.callS Φ__law_draw (A.cons (E.var 0) (A.cons (E.op O.add (E.var 1) (E.int 1)) A.nil))) A.nil)))
    (S.seq (S.ite (T.or (T.cmp (E.op O.eq (E.var 2) (E.int 0))) (T.cmp (E.op O.eq (E.var 3) (E.int 0)))) (S.ret (E.callS Φ__law_v_drawn (A.cons (E.var 0) (A.cons (E.var 3) A.nil)))) S.nil)
    (S.seq (S.asg (E.callS Φ__law_v_even (A.cons (E.var 0) (A.cons (E.var 1) A.nil))) (G.name 4))
    (S.seq (S.asg (E.callS Φ__law_draw (A.cons (E.var 0) (A.cons (E.cb C.len (A.cons (E.var 4) A.nil)) A.nil))) (G.name 5))
    (S.seq (S.asg (E.slice (E.op O.mulS (E.var 4) (E.op O.add (E.cb C.int (A.cons (E.op O.fdiv (E.var 3) (E.cb C.len (A.cons (E.var 4) A.nil))) A.nil)) (E.int 2))) (OO.part (E.var 5)) (OO.part (E.op O.add (E.var 5) (E.var 3)))) (G.name 6))
    (S.ret (E.ite (T.cmp (E.op O.lt (E.var 2) (E.int 3))) (E.var 6) (E.slice (E.callS Φ__law_v_bent (A.cons (E.var 0) (A.cons (E.var 6) A.nil))) OO.none (OO.part (E.var 1))))))))))
def b_is_of : St K :=
  (S.ret (E.andT (E.cb C.isi (A.cons (E.var 0) (A.cons (E.raw (.ty "str")) A.nil))) (E.cb C.all (A.cons (E.lc [2] (I.str (E.var 0)) (Gi.name 2 (by decide)) T.yes (E.op O.inS (E.var 2) (E.var 1))) A.nil))))
def b_is_row : St K :=
  (S.ret (E.call R_is_of (A.cons (E.var 0) (A.cons (E.str (PySem.Str.ofString "ab")) A.nil))))
def b_need_row : St K :=
  (S.seq (S.ite (T.not (T.tru (E.call R_is_row (A.cons (E.var 0) A.nil)))) S.never S.nil)
    (S.ret (E.var 0)))
theorem sem__law_v_even (ws : List W) (cs : List Cell) (κ : WQ) (h : Φ__law_v_even ws cs κ) : (b__law_v_even (K := K)).w (entry N__law_v_even ws cs) { nx := fun Γ => leaves cs.length κ (.d .non) Γ.cs, rt := leaves cs.length κ } := by
  obtain ⟨n, m, rfl, ⟨ns, g, c, hh, rfl, hq⟩, m0, m1, hn, k⟩ := h
  have sm : Sm n (ss ns g c hh) := ⟨_, _, _, _, rfl, hq⟩
  refine ⟨n, _, [], rfl, sm, bel1d, n, m, rfl, sm, by omega, by omega, by omega, ?_⟩
  rintro r _ r0 r1 ⟨ns, g, c, hh, rfl, hq⟩
  have sm : Sm (n + 1) (ss ns g c hh) := ⟨_, _, _, _, rfl, hq⟩
  refine ⟨n + 1, _, [], rfl, sm, bel1d, n + 1, _, rfl, sm, by omega, by omega, by omega, ?_⟩
  rintro q _ q0 q1 ⟨ns, g, c, hh, rfl, hq⟩
  have sm : Sm (n + 1 + 1) (ss ns g c hh) := ⟨_, _, _, _, rfl, hq⟩
  refine ⟨n + 1 + 1, _, [], rfl, sm, bel1d, n + 1 + 1, _, rfl, sm, by omega, by omega, by omega, ?_⟩
  rintro a _ a0 a1 ⟨ns, g, c, hh, rfl, hq⟩
  have sm : Sm (n + 1 + 1 + 1) (ss ns g c hh) := ⟨_, _, _, _, rfl, hq⟩
  obtain ⟨r, rfl⟩ := Int.eq_ofNat_of_zero_le r0
  obtain ⟨q, rfl⟩ := Int.eq_ofNat_of_zero_le q0
  obtain ⟨a, rfl⟩ := Int.eq_ofNat_of_zero_le a0
  have hp : (1 : Int) + (r : Nat) - (q : Nat) = ((1 + r - q : Nat) : Int) := by omega
  refine ⟨dT (spL (1 + r - q + q) q a), ⟨1 + r - q, q, a, by show [D.int (1 + (r : Int) - q), D.int q, D.int a] = _; rw [hp], rfl, by omega, by omega⟩, ?_⟩
  refine ⟨n + 1 + 1 + 1, _, [], rfl, sm, bel1d, n + 1 + 1 + 1, 6, rfl, sm, by omega, by decide, by decide, ?_⟩
  rintro z _ z0 z1 ⟨ns, g, c, hh, rfl, hq⟩
  have sm : Sm (n + 4) (ss ns g c hh) := ⟨_, _, _, _, rfl, hq⟩
  have el : 1 + r - q + q = 1 + r := by omega
  rw [el]
  have fin : ∀ l : List Nat, Ab l → 1 ≤ l.length → l.length ≤ m.toNat → leaves 2 κ (.d (dT l)) (ss ns g c hh) := fun l h1 h2 h3 => ⟨_, [], rfl, rfl, trivial, ss_below _ _ _ _, k l _ h1 h2 h3 sm⟩
  walk_at "n"
  by_cases hz : z = 0
  · rw [decide_eq_true hz]
    have hd : (0 : Int) < 1 + (r : Int) := by omega
    have e1 : 0 ≤ m / (1 + (r : Int)) := Int.ediv_nonneg (by omega) (by omega)
    have e2 : m / (1 + (r : Int)) * (1 + (r : Int)) ≤ m := Int.ediv_mul_le m (by omega)
    have e3 : 1 ≤ m / (1 + (r : Int)) := by
      rw [Int.le_ediv_iff_mul_le hd]; omega
    obtain ⟨t, ht⟩ := Int.eq_ofNat_of_zero_le e1
    rw [ht] at e2 e3
    have e4 : ((t * (1 + r) : Nat) : Int) ≤ m := by
      rw [Int.natCast_mul]; simpa using e2
    have e5 : (1 + r) * t = t * (1 + r) := Nat.mul_comm _ _
    have e6 : t ≤ t * (1 + r) := Nat.le_mul_of_pos_right t (by omega)
    refine ⟨cdiv_ok hd (by omega), ?_⟩
    show 0 ≤ m / (1 + (r : Int)) ∧ m / (1 + (r : Int)) ≤ 1000000 ∧ (tx (spL (1 + r) q a)).length * (m / (1 + (r : Int))).toNat ≤ lineN ∧ leaves 2 κ (.d (.str (repT (tx (spL (1 + r) q a)) (m / (1 + (r : Int))).toNat))) _
    rw [ht, Int.toNat_natCast, tx_len, spL_len, rep_tx]
    refine ⟨by omega, by omega, by rw [e5, lim_line]; omega, fin _ ((spL_ab _ _ _).rep _) ?_ ?_⟩
    · rw [rep_len, spL_len]
      have : 1 * 1 ≤ t * (1 + r) := Nat.mul_le_mul (by omega) (by omega)
      omega
    · rw [rep_len, spL_len]; omega
  · rw [decide_eq_false hz]
    exact fin _ (spL_ab _ _ _) (by rw [spL_len]; omega) (by rw [spL_len]; omega)
theorem cutS_len (z : Str) (a b : Option Int) : (cutS z a b).length ≤ z.length := by
  unfold cutS
  show ((z.cps.toList.drop _).take _).length ≤ z.cps.size
  rw [List.length_take, List.length_drop, Array.length_toList]
  omega
theorem cut_tx (l : List Nat) (a b : Option Int) : ∃ i j, cutS (tx l) a b = tx ((l.drop i).take j) := ⟨_, _, rfl⟩
theorem Ab.cut {l : List Nat} (h : Ab l) (a b : Option Int) : ∃ l', cutS (tx l) a b = tx l' ∧ Ab l' := by
  obtain ⟨i, j, e⟩ := cut_tx l a b
  exact ⟨_, e, (h.drop i).take j⟩
theorem sem__law_v_bent (ws : List W) (cs : List Cell) (κ : WQ) (h : Φ__law_v_bent ws cs κ) : (b__law_v_bent (K := K)).w (entry N__law_v_bent ws cs) { nx := fun Γ => leaves cs.length κ (.d .non) Γ.cs, rt := leaves cs.length κ } := by
  obtain ⟨n, l, rfl, ⟨ns, g, c, hh, rfl, hq⟩, al, l1, l2, hn, k⟩ := h
  have sm : Sm n (ss ns g c hh) := ⟨_, _, _, _, rfl, hq⟩
  have ll : (tx l).length ≤ lineN := by rw [tx_len, lim_line]; omega
  refine ⟨n, _, [], rfl, sm, bel1d, n, 4, rfl, sm, by omega, by decide, by decide, ?_⟩
  rintro way _ w0 w1 ⟨ns, g, c, hh, rfl, hq⟩
  have sm : Sm (n + 1) (ss ns g c hh) := ⟨_, _, _, _, rfl, hq⟩
  refine ⟨ll, n + 1, _, [], rfl, sm, bel1d, n + 1, (l.length : Int), rfl, sm, by omega, by omega, by omega, ?_⟩
  rintro a _ a0 a1 ⟨ns, g, c, hh, rfl, hq⟩
  have sm : Sm (n + 2) (ss ns g c hh) := ⟨_, _, _, _, rfl, hq⟩
  have fin : ∀ (s : Str) ns g c hh, Sm (n + 3) (ss ns g c hh) → (∃ l', s = tx l' ∧ Ab l' ∧ l'.length ≤ l.length + 1) → leaves 2 κ (.d (.str s)) (ss ns g c hh) := by
    rintro _ ns g c hh sm ⟨l', rfl, h1, h2⟩
    exact ⟨_, [], rfl, rfl, trivial, ss_below _ _ _ _, k l' _ h1 h2 sm⟩
  obtain ⟨a, rfl⟩ := Int.eq_ofNat_of_zero_le a0
  have ha : a < l.length := by omega
  have at1 : ∀ i : Nat, i < l.length → ∃ c, atI (tx l).cps.toList (i : Nat) = some c ∧ (c = 97 ∨ c = 98) := fun i hi => by
    refine ⟨l[i], ?_, al _ (List.getElem_mem hi)⟩
    show (ixN l.length (i : Int)).bind (fun j => l[j]?) = some l[i]
    rw [ixN_in (by omega) (by omega)]
    exact List.getElem?_eq_getElem hi
  have ct : cutS (tx l) none (some (a : Int)) = tx (l.take a) := by rw [cut_take l (by omega)]; rfl
  have cd : ∀ i : Nat, i ≤ l.length → cutS (tx l) (some (i : Int)) none = tx (l.drop i) := fun i hi => by rw [cut_drop l (by omega) (by omega)]; rfl
  have bnd : ∀ x y : Str, x.length ≤ l.length + 1 → y.length ≤ l.length + 1 → x.length + y.length ≤ lineN := fun x y h1 h2 => by rw [lim_line]; omega
  have c1 : (tx (l.take a)).length ≤ l.length := by rw [tx_len, List.length_take]; omega
  have o1 : ∀ c : Nat, (⟨#[c]⟩ : Str) = tx [c] := fun _ => rfl
  have la : (l.take a).length ≤ a := by rw [List.length_take]; omega
  -- two behind the first
  have end3 : ∀ (s : Str) ns g c hh, Sm (n + 2) (ss ns g c hh) → (∃ l', s = tx l' ∧ Ab l' ∧ l'.length ≤ l.length + 1) → leaves 2 κ (.d (.str s)) (ss ns g c hh) := fun s ns g c hh sm => fin s ns g c hh (sm.mono (by omega))
  have rest : ∀ x2 x3, (S.seq (S.asg (E.callS Φ__law_draw (A.cons (E.var 0) (A.cons (E.cb C.len (A.cons (E.var 1) A.nil)) A.nil))) (G.name 4))
    (S.ret (E.op O.add (E.op O.add (E.slice (E.var 1) (OO.part (E.cb C.min2 (A.cons (E.var 3) (A.cons (E.var 4) A.nil)))) (OO.part (E.cb C.max2 (A.cons (E.var 3) (A.cons (E.var 4) A.nil))))) (E.slice (E.var 1) OO.none (OO.part (E.cb C.min2 (A.cons (E.var 3) (A.cons (E.var 4) A.nil)))))) (E.slice (E.var 1) (OO.part (E.cb C.max2 (A.cons (E.var 3) (A.cons (E.var 4) A.nil)))) OO.none))) : St K).w ⟨[some (.cel 1), some (.d (dT l)), x2, some (dI a), x3], ss ns g c hh⟩ { nx := fun Γ => leaves 2 κ (.d .non) Γ.cs, rt := leaves 2 κ } := fun x2 x3 => by
    refine ⟨ll, n + 2, _, [], rfl, sm, bel1d, n + 2, (l.length : Int), rfl, sm, by omega, by omega, by omega, ?_⟩
    rintro t _ t0 t1 ⟨ns, g, c, hh, rfl, hq⟩
    have sm : Sm (n + 3) (ss ns g c hh) := ⟨_, _, _, _, rfl, hq⟩
    obtain ⟨t, rfl⟩ := Int.eq_ofNat_of_zero_le t0
    have ht : t < l.length := by omega
    obtain ⟨lo, hlo⟩ : ∃ lo : Nat, (if (t : Int) < (a : Int) then (t : Int) else a) = lo := by split <;> exact ⟨_, rfl⟩
    obtain ⟨hi, hhi⟩ : ∃ hi : Nat, (if (t : Int) > (a : Int) then (t : Int) else a) = hi := by split <;> exact ⟨_, rfl⟩
    have hle : lo ≤ hi ∧ hi < l.length := by
      have h1 := hlo; have h2 := hhi
      split at h1 <;> split at h2 <;> omega
    have e1 : cutS (tx l) (some (lo : Int)) (some (hi : Int)) = tx ((l.drop lo).take (hi - lo)) := by
      unfold cutS HT.sIx
      simp only [tx_len]
      rw [if_neg (by omega), if_neg (by omega)]
      show tx ((l.drop (min (lo : Int).toNat _)).take _) = _
      rw [Int.toNat_natCast, Int.toNat_natCast, Nat.min_eq_left (by omega), Nat.min_eq_left (by omega)]
    have e2 : cutS (tx l) none (some (lo : Int)) = tx (l.take lo) := by rw [cut_take l (by omega)]; rfl
    have e3 := cd hi (by omega)
    have k1 : ((l.drop lo).take (hi - lo)).length = hi - lo := by rw [List.length_take, List.length_drop]; omega
    have k2 : (l.take lo).length = lo := by rw [List.length_take]; omega
    show (tx l).length ≤ lineN ∧ (tx l).length ≤ lineN ∧ (cutS (tx l) (some (if (t : Int) < (a : Int) then (t : Int) else a)) (some (if (t : Int) > (a : Int) then (t : Int) else a))).length + (cutS (tx l) none (some (if (t : Int) < (a : Int) then (t : Int) else a))).length ≤ lineN ∧ (tx l).length ≤ lineN ∧
      (cutS (tx l) (some (if (t : Int) < (a : Int) then (t : Int) else a)) (some (if (t : Int) > (a : Int) then (t : Int) else a)) ++ cutS (tx l) none (some (if (t : Int) < (a : Int) then (t : Int) else a))).length + (cutS (tx l) (some (if (t : Int) > (a : Int) then (t : Int) else a)) none).length ≤ lineN ∧
      leaves 2 κ (.d (.str (cutS (tx l) (some (if (t : Int) < (a : Int) then (t : Int) else a)) (some (if (t : Int) > (a : Int) then (t : Int) else a)) ++ cutS (tx l) none (some (if (t : Int) < (a : Int) then (t : Int) else a)) ++ cutS (tx l) (some (if (t : Int) > (a : Int) then (t : Int) else a)) none))) _
    rw [hlo, hhi, e1, e2, e3, tx_app, tx_app]
    refine ⟨ll, ll, ?_, ll, ?_, fin _ _ _ _ _ sm ⟨_, rfl, (((al.drop _).take _).app (al.take _)).app (al.drop _), ?_⟩⟩
    · rw [tx_len, tx_len, lim_line]; omega
    · rw [tx_len, tx_len, List.length_append, List.length_drop, lim_line]; omega
    · rw [List.length_append, List.length_append, List.length_drop]; omega
  have rest1 : ∀ x2 x3 : Option W, x2 = some (dI way) → ¬ way = 0 ∨ ¬ ((a : Int) + 1 < (l.length : Nat)) → (S.seq (S.ite (T.cmp (E.op O.eq (E.var 2) (E.int 1))) (S.ret (E.op O.add (E.op O.add (E.slice (E.var 1) OO.none (OO.part (E.var 3))) (E.ite (T.cmp (E.op O.eq (E.op O.ix (E.var 1) (E.var 3)) (E.str (PySem.Str.ofString "a")))) (E.str (PySem.Str.ofString "b")) (E.str (PySem.Str.ofString "a")))) (E.slice (E.var 1) (OO.part (E.op O.add (E.var 3) (E.int 1))) OO.none))) S.nil)
    (S.seq (S.ite (T.cmp (E.op O.eq (E.var 2) (E.int 2))) (S.ret (E.op O.add (E.op O.add (E.slice (E.var 1) OO.none (OO.part (E.var 3))) (E.callS Φ__law_pick (A.cons (E.var 0) (A.cons (E.lst (A.cons (E.str (PySem.Str.ofString "a")) (A.cons (E.str (PySem.Str.ofString "b")) A.nil))) A.nil)))) (E.slice (E.var 1) (OO.part (E.var 3)) OO.none))) S.nil)
    (S.seq (S.asg (E.callS Φ__law_draw (A.cons (E.var 0) (A.cons (E.cb C.len (A.cons (E.var 1) A.nil)) A.nil))) (G.name 4))
    (S.ret (E.op O.add (E.op O.add (E.slice (E.var 1) (OO.part (E.cb C.min2 (A.cons (E.var 3) (A.cons (E.var 4) A.nil)))) (OO.part (E.cb C.max2 (A.cons (E.var 3) (A.cons (E.var 4) A.nil))))) (E.slice (E.var 1) OO.none (OO.part (E.cb C.min2 (A.cons (E.var 3) (A.cons (E.var 4) A.nil)))))) (E.slice (E.var 1) (OO.part (E.cb C.max2 (A.cons (E.var 3) (A.cons (E.var 4) A.nil)))) OO.none))))) : St K).w ⟨[some (.cel 1), some (.d (dT l)), x2, some (dI a), x3], ss ns g c hh⟩ { nx := fun Γ => leaves 2 κ (.d .non) Γ.cs, rt := leaves 2 κ } := by
    rintro _ x3 rfl _
    walk_at "n"
    obtain ⟨c0, ec0, hc0⟩ := at1 a ha
    by_cases w1 : way = 1
    · rw [decide_eq_true w1]
      refine ⟨ll, ll, c0, ec0, ?_⟩
      walk_at "n"
      have e1 := cd (a + 1) (by omega)
      have body : ∀ c1 : Nat, (c1 = 97 ∨ c1 = 98) → (cutS (tx l) none (some (a : Int))).length + (tx [c1]).length ≤ lineN ∧ (tx l).length ≤ lineN ∧ (cutS (tx l) none (some (a : Int)) ++ tx [c1]).length + (cutS (tx l) (some ((a + 1 : Nat) : Int)) none).length ≤ lineN ∧ leaves 2 κ (.d (.str (cutS (tx l) none (some (a : Int)) ++ tx [c1] ++ cutS (tx l) (some ((a + 1 : Nat) : Int)) none))) (ss ns g c hh) := fun c1 h1 => by
        rw [ct, e1, tx_app, tx_app]
        refine ⟨?_, ll, ?_, end3 _ _ _ _ _ sm ⟨_, rfl, ((al.take _).app (Ab.one h1)).app (al.drop _), ?_⟩⟩
        · rw [tx_len, tx_len, lim_line]; simp only [List.length_singleton]; omega
        · rw [tx_len, tx_len, List.length_append, List.length_drop, lim_line]; simp only [List.length_singleton]; omega
        · rw [List.length_append, List.length_append, List.length_drop]; simp only [List.length_singleton]; omega
      by_cases h97 : (⟨#[c0]⟩ : Str) = Str.ofString "a"
      · rw [decide_eq_true h97]; exact body 98 (.inr rfl)
      · rw [decide_eq_false h97]; exact body 97 (.inl rfl)
    · rw [decide_eq_false w1]
      walk_at "n"
      by_cases w2 : way = 2
      · rw [decide_eq_true w2]
        refine ⟨ll, (by decide : 2 ≤ lineN), n + 2, _, [], rfl, sm, bel1d, n + 2, _, rfl, sm, by omega, by decide, by decide, ?_⟩
        rintro d hd _ ⟨ns, g, c, hh, rfl, hq⟩
        have sm : Sm (n + 3) (ss ns g c hh) := ⟨_, _, _, _, rfl, hq⟩
        have e1 := cd a (by omega)
        have body : ∀ c1 : Nat, (c1 = 97 ∨ c1 = 98) → (cutS (tx l) none (some (a : Int))).length + (tx [c1]).length ≤ lineN ∧ (tx l).length ≤ lineN ∧ (cutS (tx l) none (some (a : Int)) ++ tx [c1]).length + (cutS (tx l) (some (a : Int)) none).length ≤ lineN ∧ leaves 2 κ (.d (.str (cutS (tx l) none (some (a : Int)) ++ tx [c1] ++ cutS (tx l) (some (a : Int)) none))) (ss ns g c hh) := fun c1 h1 => by
          rw [ct, e1, tx_app, tx_app]
          refine ⟨?_, ll, ?_, fin _ _ _ _ _ sm ⟨_, rfl, ((al.take _).app (Ab.one h1)).app (al.drop _), ?_⟩⟩
          · rw [tx_len, tx_len, lim_line]; simp only [List.length_singleton]; omega
          · rw [tx_len, tx_len, List.length_append, List.length_drop, lim_line]; simp only [List.length_singleton]; omega
          · rw [List.length_append, List.length_append, List.length_drop]; simp only [List.length_singleton]; omega
        rcases List.mem_cons.mp hd with rfl | hd
        · exact body 97 (.inl rfl)
        rcases List.mem_cons.mp hd with rfl | hd
        · exact body 98 (.inr rfl)
        cases hd
      · rw [decide_eq_false w2]
        exact rest _ _
  walk_at "n"
  by_cases hw : way = 0
  · rw [decide_eq_true hw]
    refine ⟨ll, ?_⟩
    walk_at "n"
    by_cases hb : (a : Int) + 1 < ((tx l).length : Nat)
    · rw [decide_eq_true hb]
      have hb' : a + 1 < l.length := by rw [tx_len] at hb; omega
      obtain ⟨c0, ec0, hc0⟩ := at1 a ha
      obtain ⟨c1, ec1, hc1⟩ := at1 (a + 1) hb'
      have e2 := cd (a + 2) (by omega)
      have big : (cutS (tx l) none (some (a : Int))).length + (tx [c1]).length ≤ lineN ∧ (cutS (tx l) none (some (a : Int)) ++ tx [c1]).length + (tx [c0]).length ≤ lineN ∧ (cutS (tx l) none (some (a : Int)) ++ tx [c1] ++ tx [c0]).length + (cutS (tx l) (some ((a + 2 : Nat) : Int)) none).length ≤ lineN ∧ leaves 2 κ (.d (.str (cutS (tx l) none (some (a : Int)) ++ tx [c1] ++ tx [c0] ++ cutS (tx l) (some ((a + 2 : Nat) : Int)) none))) (ss ns g c hh) := by
        rw [ct, e2, tx_app, tx_app, tx_app]
        refine ⟨?_, ?_, ?_, end3 _ _ _ _ _ sm ⟨_, rfl, (((al.take _).app (Ab.one hc1)).app (Ab.one hc0)).app (al.drop _), ?_⟩⟩
        · rw [tx_len, tx_len, lim_line]; simp only [List.length_singleton]; omega
        · rw [tx_len, tx_len, List.length_append, lim_line]; simp only [List.length_singleton]; omega
        · rw [tx_len, tx_len, List.length_append, List.length_append, List.length_drop, lim_line]; simp only [List.length_singleton]; omega
        · rw [List.length_append, List.length_append, List.length_append, List.length_drop]; simp only [List.length_singleton]; omega
      obtain ⟨b1, b2, b3, b4⟩ := big
      exact ⟨ll, ll, c1, ec1, b1, ll, c0, ec0, b2, ll, b3, b4⟩
    · rw [decide_eq_false hb]
      exact rest1 _ _ rfl (.inr (by rw [tx_len] at hb; exact hb))
  · rw [decide_eq_false hw]
    exact rest1 _ _ rfl (.inl hw)
theorem sem__law_v_row (ws : List W) (cs : List Cell) (κ : WQ) (h : Φ__law_v_row ws cs κ) : (b__law_v_row (K := K)).w (entry N__law_v_row ws cs) { nx := fun Γ => leaves cs.length κ (.d .non) Γ.cs, rt := leaves cs.length κ } := by
  obtain ⟨n, m, rfl, ⟨ns, g, c, hh, rfl, hq⟩, m0, m1, hn, k⟩ := h
  have sm : Sm n (ss ns g c hh) := ⟨_, _, _, _, rfl, hq⟩
  refine ⟨n, _, [], rfl, sm, bel1d, n, 4, rfl, sm, by omega, by decide, by decide, ?_⟩
  rintro way _ w0 w1 ⟨ns, g, c, hh, rfl, hq⟩
  have sm : Sm (n + 1) (ss ns g c hh) := ⟨_, _, _, _, rfl, hq⟩
  refine ⟨n + 1, _, [], rfl, sm, bel1d, n + 1, m + 1, rfl, sm, by omega, by omega, by omega, ?_⟩
  rintro many _ y0 y1 ⟨ns, g, c, hh, rfl, hq⟩
  have sm : Sm (n + 2) (ss ns g c hh) := ⟨_, _, _, _, rfl, hq⟩
  have fin : ∀ l ns g c hh, Sm (n + 510) (ss ns g c hh) → Ab l → l.length ≤ m.toNat → leaves 2 κ (.d (dT l)) (ss ns g c hh) := fun l ns g c hh sm h1 h2 => ⟨_, [], rfl, rfl, trivial, ss_below _ _ _ _, k l _ h1 h2 sm⟩
  have plain : ∃ m_1 cs0 rest, ss ns g c hh = cs0 ++ rest ∧ Sm m_1 cs0 ∧ (∀ w ∈ [W.cel 1, dI many], w.below 2) ∧ Φ__law_v_drawn [.cel 1, dI many] cs0 fun x cs' => leaves 2 κ x (cs' ++ rest) := by
    refine ⟨n + 2, _, [], rfl, sm, bel1d, n + 2, many, rfl, sm, by omega, by omega, by omega, ?_⟩
    rintro l _ al ll ⟨ns, g, c, hh, rfl, hq⟩
    exact fin l _ _ _ _ (Sm.mono ⟨_, _, _, _, rfl, hq⟩ (by omega)) al (by omega)
  walk_at "n"
  by_cases hw : way = 0
  · rw [decide_eq_true hw]; exact plain
  rw [decide_eq_false hw]
  walk_at "n"
  by_cases hm : many = 0
  · rw [decide_eq_true hm]; exact plain
  rw [decide_eq_false hm]
  refine ⟨n + 2, _, [], rfl, sm, bel1d, n + 2, m, rfl, sm, by omega, by omega, by omega, ?_⟩
  rintro ring _ ar r1 r2 ⟨ns, g, c, hh, rfl, hq⟩
  have sm : Sm (n + 6) (ss ns g c hh) := ⟨_, _, _, _, rfl, hq⟩
  have lr : (tx ring).length ≤ lineN := by rw [tx_len, lim_line]; omega
  refine ⟨lr, n + 6, _, [], rfl, sm, bel1d, n + 6, (ring.length : Int), rfl, sm, by omega, by omega, by omega, ?_⟩
  rintro a _ a0 a1 ⟨ns, g, c, hh, rfl, hq⟩
  have sm : Sm (n + 7) (ss ns g c hh) := ⟨_, _, _, _, rfl, hq⟩
  obtain ⟨a, rfl⟩ := Int.eq_ofNat_of_zero_le a0
  obtain ⟨many, rfl⟩ := Int.eq_ofNat_of_zero_le y0
  have hd : (0 : Int) < (ring.length : Nat) := by omega
  obtain ⟨t, ht⟩ := Int.eq_ofNat_of_zero_le (Int.ediv_nonneg (show (0 : Int) ≤ (many : Nat) by omega) (show (0 : Int) ≤ (ring.length : Nat) by omega))
  have e1 : (many : Int) < (t + 1) * (ring.length : Nat) := by
    have := Int.lt_ediv_add_one_mul_self (many : Int) hd
    rw [ht] at this; exact this
  have e2 : (t : Int) * (ring.length : Nat) ≤ many := by
    have := Int.ediv_mul_le (many : Int) (show ((ring.length : Nat) : Int) ≠ 0 by omega)
    rw [ht] at this; exact this
  have e1' : many < (t + 1) * ring.length := by
    have : ((many : Nat) : Int) < (((t + 1) * ring.length : Nat) : Int) := by rw [Int.natCast_mul]; exact e1
    omega
  have e2' : t * ring.length ≤ many := by
    have : ((t * ring.length : Nat) : Int) ≤ (many : Nat) := by rw [Int.natCast_mul]; exact e2
    omega
  have e3 : (t + 2) * ring.length = (t + 1) * ring.length + ring.length := by rw [Nat.add_mul t 2, Nat.add_mul t 1]; omega
  have e4 : (t + 2) * ring.length = t * ring.length + 2 * ring.length := Nat.add_mul _ _ _
  have e5 : t ≤ t * ring.length := Nat.le_mul_of_pos_right t (by omega)
  have eR : repT (tx ring) ((t : Int) + 2).toNat = tx (List.replicate (t + 2) ring).flatten := by rw [show ((t : Int) + 2).toNat = t + 2 by omega]; rfl
  have lR : (List.replicate (t + 2) ring).flatten.length = (t + 2) * ring.length := rep_len _ _
  have aR : Ab (List.replicate (t + 2) ring).flatten := ar.rep _
  generalize (List.replicate (t + 2) ring).flatten = R at eR lR aR
  have eC : cutS (tx R) (some (a : Int)) (some ((a : Int) + (many : Nat))) = tx ((R.drop a).take many) := by
    unfold cutS HT.sIx
    simp only [tx_len]
    rw [if_neg (by omega), if_neg (by omega)]
    show tx ((R.drop (min (a : Int).toNat _)).take _) = _
    rw [show (a : Int).toNat = a by omega, show ((a : Int) + (many : Nat)).toNat = a + many by omega, Nat.min_eq_left (by omega), Nat.min_eq_left (by omega), Nat.add_sub_cancel_left]
  have lC : ((R.drop a).take many).length = many := by rw [List.length_take, List.length_drop]; omega
  have aC : Ab ((R.drop a).take many) := (aR.drop _).take _
  generalize (R.drop a).take many = row at eC lC aC
  have go : ∀ s : Str, s = tx row → (S.ret (E.ite (T.cmp (E.op O.lt (E.var 2) (E.int 3))) (E.var 6) (E.slice (E.callS Φ__law_v_bent (A.cons (E.var 0) (A.cons (E.var 6) A.nil))) OO.none (OO.part (E.var 1)))) : St K).w ⟨[some (.cel 1), some (dI m), some (dI way), some (dI (many : Nat)), some (.d (dT ring)), some (dI (a : Nat)), some (.d (.str s))], ss ns g c hh⟩ { nx := fun Γ => leaves 2 κ (.d .non) Γ.cs, rt := leaves 2 κ } := by
    rintro _ rfl
    walk_at "n"
    by_cases h3 : way < 3
    · rw [decide_eq_true h3]; exact fin row _ _ _ _ (sm.mono (by omega)) aC (by omega)
    · rw [decide_eq_false h3]
      refine ⟨n + 7, _, [], rfl, sm, bel1d, n + 7, row, rfl, sm, aC, by omega, by omega, by omega, ?_⟩
      rintro l' _ al' ll' ⟨ns, g, c, hh, rfl, hq⟩
      have sm : Sm (n + 10) (ss ns g c hh) := ⟨_, _, _, _, rfl, hq⟩
      show (tx l').length ≤ lineN ∧ leaves 2 κ (.d (.str (cutS (tx l') none (some m)))) (ss ns g c hh)
      rw [cut_take l' (by omega)]
      exact ⟨by rw [tx_len, lim_line]; omega, fin _ _ _ _ _ (sm.mono (by omega)) (al'.take _) (by rw [List.length_take]; omega)⟩
  refine ⟨lr, cdiv_ok hd (by show ((ring.length : Nat) : Int).natAbs < _; omega), ?_⟩
  show 0 ≤ (many : Int) / (ring.length : Nat) + 2 ∧ (many : Int) / (ring.length : Nat) + 2 ≤ 1000000 ∧ (tx ring).length * ((many : Int) / (ring.length : Nat) + 2).toNat ≤ lineN ∧ (repT (tx ring) ((many : Int) / (ring.length : Nat) + 2).toNat).length ≤ lineN ∧ (S.ret (E.ite (T.cmp (E.op O.lt (E.var 2) (E.int 3))) (E.var 6) (E.slice (E.callS Φ__law_v_bent (A.cons (E.var 0) (A.cons (E.var 6) A.nil))) OO.none (OO.part (E.var 1)))) : St K).w ⟨[some (.cel 1), some (dI m), some (dI way), some (dI (many : Nat)), some (.d (dT ring)), some (dI (a : Nat)), some (.d (.str (cutS (repT (tx ring) ((many : Int) / (ring.length : Nat) + 2).toNat) (some (a : Int)) (some ((a : Int) + (many : Nat))))))], ss ns g c hh⟩ { nx := fun Γ => leaves 2 κ (.d .non) Γ.cs, rt := leaves 2 κ }
  rw [ht]
  have ht2 : ((t : Int) + 2).toNat = t + 2 := by omega
  refine ⟨by omega, by omega, by rw [ht2, tx_len, Nat.mul_comm, lim_line]; omega, by rw [eR, tx_len, lR, lim_line]; omega, go _ (by rw [eR, eC])⟩
theorem sem_is_of (ds : List D) (d : D) (h : R_is_of ds d) : (b_is_of (K := K)).w (entry N_is_of (ds.map W.d) []) { nx := fun _ => d = .non, rt := fun x _ => x = .d d } := by
  obtain ⟨x, s, b, rfl, rfl, hm, hs⟩ := h
  cases x with
  | str z =>
    have hb : (z.cps.toList.all fun c => decide (c ∈ s.cps.toList)) = b := Option.some.inj hm
    have hl : z.cps.toList.length ≤ 100000 := hs
    refine ⟨_, _, rfl, rfl, ?_⟩
    refine lcI (fun x => match x with | .str ⟨⟨[c]⟩⟩ => .bl (decide (c ∈ s.cps.toList)) | _ => .non) ?_ ?_ ?_
    · rw [List.length_map]; exact Nat.le_trans hl (by decide)
    · intro x hx R k
      obtain ⟨c, hc, rfl⟩ := List.mem_map.mp hx
      have e : inStr (⟨#[c]⟩ : Str) s = decide (c ∈ s.cps.toList) := in_one s.cps.toList c
      show R (.d (.bl (inStr (⟨#[c]⟩ : Str) s))) []
      rw [e]; exact k
    · refine ⟨z.cps.toList.map fun c => decide (c ∈ s.cps.toList), ?_, ?_⟩
      · rw [List.map_map, ← bls_map]; rfl
      · show W.d (D.bl ((z.cps.toList.map fun c => decide (c ∈ s.cps.toList)).all id)) = _
        rw [List.all_map]
        show W.d (D.bl (z.cps.toList.all fun c => decide (c ∈ s.cps.toList))) = _
        rw [hb]
  | non => cases hm; exact ⟨_, _, rfl, rfl, rfl⟩
  | bl _ => cases hm; exact ⟨_, _, rfl, rfl, rfl⟩
  | int _ => cases hm; exact ⟨_, _, rfl, rfl, rfl⟩
  | lst _ => cases hm; exact ⟨_, _, rfl, rfl, rfl⟩
  | tup _ => cases hm; exact ⟨_, _, rfl, rfl, rfl⟩
  | dic _ => cases hm; exact ⟨_, _, rfl, rfl, rfl⟩
  | raw _ => cases hm
  | scr _ => cases hm
theorem sem_is_row (ds : List D) (d : D) (h : R_is_row ds d) : (b_is_row (K := K)).w (entry N_is_row (ds.map W.d) []) { nx := fun _ => d = .non, rt := fun x _ => x = .d d } := by
  obtain ⟨x, b, rfl, rfl, hm, hs⟩ := h
  exact ⟨.bl b, ⟨x, tx [97, 98], b, rfl, rfl, hm, hs⟩, rfl⟩
theorem isOf_ab {l : List Nat} (h : Ab l) : isOf (tx [97, 98]) (dT l) = some true := by
  refine congrArg some (List.all_eq_true.mpr fun c hc => decide_eq_true ?_)
  show c ∈ [97, 98]
  rcases h c hc with rfl | rfl <;> simp
theorem sem_need_row (ds : List D) (d : D) (h : R_need_row ds d) : (b_need_row (K := K)).w (entry N_need_row (ds.map W.d) []) { nx := fun _ => d = .non, rt := fun x _ => x = .d d } := by
  obtain ⟨l, rfl, rfl, m, hl⟩ := h
  exact ⟨.bl true, ⟨_, true, rfl, rfl, isOf_ab m, hl⟩, rfl⟩
end
end Pl

namespace K18
open PySem PySem.Spec PyProof.Rows L2 Pl
/-! ### plainly -/
def pal (l : List Nat) : Bool := decide (l = l.reverse)
/-- where the longest palindrome at the end begins -/
def fst : List Nat → Nat
  | [] => 0
  | a :: r => if pal (a :: r) = true then 0 else fst r + 1
theorem pal_nil : pal [] = true := rfl
theorem fst_le : ∀ l : List Nat, fst l ≤ l.length
  | [] => Nat.le_refl _
  | a :: r => by
    unfold fst
    have := fst_le r
    split
    · omega
    · rw [List.length_cons]; omega
theorem fst_pal : ∀ l : List Nat, pal (l.drop (fst l)) = true
  | [] => rfl
  | a :: r => by
    unfold fst
    split
    · assumption
    · exact fst_pal r
theorem fst_least : ∀ (l : List Nat) (k : Nat), k < fst l → pal (l.drop k) = false
  | [], k, h => by unfold fst at h; omega
  | a :: r, k, h => by
    unfold fst at h
    split at h
    · omega
    · rename_i hp
      cases k with
      | zero => simpa using hp
      | succ k => exact fst_least r k (by omega)
def close (l : List Nat) : List Nat := l ++ (l.take (fst l)).reverse
theorem pal_app {x y : List Nat} : pal (x ++ y ++ x.reverse) = pal y := by
  unfold pal
  have : (x ++ y ++ x.reverse = (x ++ y ++ x.reverse).reverse) ↔ y = y.reverse := by
    constructor
    · intro h
      rw [List.reverse_append, List.reverse_append, List.reverse_reverse, ← List.append_assoc] at h
      have h1 := List.append_cancel_right h
      exact List.append_cancel_left h1
    · intro h
      rw [List.reverse_append, List.reverse_append, List.reverse_reverse, ← h, List.append_assoc]
  by_cases hy : y = y.reverse
  · rw [decide_eq_true hy, decide_eq_true (this.mpr hy)]
  · rw [decide_eq_false hy, decide_eq_false (fun z => hy (this.mp z))]
theorem close_at (l : List Nat) (k : Nat) : pal (l ++ (l.take k).reverse) = pal (l.drop k) := by
  have := pal_app (x := l.take k) (y := l.drop k)
  rw [List.take_append_drop] at this
  exact this
theorem close_pal (l : List Nat) : pal (close l) = true := by
  unfold close
  rw [close_at]; exact fst_pal l
theorem fst_of_pal {l : List Nat} (h : pal l = true) : fst l = 0 := by
  cases l with
  | nil => rfl
  | cons a r => unfold fst; rw [if_pos h]
theorem close_close (l : List Nat) : close (close l) = close l := by
  have h := fst_of_pal (close_pal l)
  generalize close l = c at h
  unfold close; rw [h]; simp
theorem close_len (l : List Nat) : (close l).length ≤ 2 * l.length := by
  unfold close
  rw [List.length_append, List.length_reverse, List.length_take]; omega
theorem close_ab {l : List Nat} (h : Ab l) : Ab (close l) := h.app (h.take _).rev
/-! ### what each def does -/
def pers (l : List Nat) : List Int := ((List.range l.length).map fun (i : Nat) => (1 + (i : Int))).filter fun k => decide (l.drop k.toNat = l.take (l.length - k.toNat))
def R_periods_by : List D → D → Prop := fun ds d => ∃ l, ds = [dT l] ∧ d = .lst ((pers l).map .int) ∧ l.length ≤ 100000
def R_periods_of : List D → D → Prop := fun ds d => ∃ l, ds = [dT l] ∧ d = .lst ((pers l).map .int) ∧ l.length ≤ 100000 ∧ Ab l
def R_closed_by : List D → D → Prop := fun ds d => ∃ l, ds = [dT l] ∧ d = dT (close l) ∧ l.length ≤ 10000
def R_closed : List D → D → Prop := fun ds d => ∃ l, ds = [dT l] ∧ d = dT (close l) ∧ l.length ≤ 10000 ∧ Ab l
abbrev R__law_same : List D → D → Prop := RSame 10
def R_law : List D → D → Prop := fun ds d => ∃ ns, ds = [.scr ns] ∧ d = .bl true
end K18

namespace K18
open PySem PySem.Spec PyProof.Rows L2 Pl
/-! ### the text -/
def topS (i : Nat) : Stmt := PySem.Challenge.pw_evenlylaid_k18_closed_rows.main.body.getD i (.Pass ⟨0, 0, 0, 0⟩)
abbrev s__law_stream : Stmt := topS 14
abbrev N__law_stream : List Str := ["script"]
theorem sc__law_stream : FnScope N__law_stream ["script"] (defScope s__law_stream) := ⟨rfl, rfl, rfl, by decide +kernel, rfl, by decide +kernel, by decide +kernel⟩
abbrev s__law_draw : Stmt := topS 15
abbrev N__law_draw : List Str := ["stream", "many", "cell", "digit", "mixed"]
theorem sc__law_draw : FnScope N__law_draw ["stream", "many"] (defScope s__law_draw) := ⟨rfl, rfl, rfl, by decide +kernel, rfl, by decide +kernel, by decide +kernel⟩
abbrev s__law_pick : Stmt := topS 16
abbrev N__law_pick : List Str := ["stream", "things"]
theorem sc__law_pick : FnScope N__law_pick ["stream", "things"] (defScope s__law_pick) := ⟨rfl, rfl, rfl, by decide +kernel, rfl, by decide +kernel, by decide +kernel⟩
abbrev s__law_v_drawn : Stmt := topS 19
abbrev N__law_v_drawn : List Str := ["stream", "many", "at"]
theorem sc__law_v_drawn : FnScope N__law_v_drawn ["stream", "many"] (defScope s__law_v_drawn) := ⟨rfl, rfl, rfl, by decide +kernel, rfl, by decide +kernel, by decide +kernel⟩
abbrev s__law_v_spread : Stmt := topS 18
abbrev N__law_v_spread : List Str := ["p", "q", "r", "many", "found", "reached", "at", "later", "hits", "k"]
theorem sc__law_v_spread : FnScope N__law_v_spread ["p", "q", "r"] (defScope s__law_v_spread) := ⟨rfl, rfl, rfl, by decide +kernel, rfl, by decide +kernel, by decide +kernel⟩
abbrev s__law_v_even : Stmt := topS 20
abbrev N__law_v_even : List Str := ["stream", "most", "many", "q", "ring"]
theorem sc__law_v_even : FnScope N__law_v_even ["stream", "most"] (defScope s__law_v_even) := ⟨rfl, rfl, rfl, by decide +kernel, rfl, by decide +kernel, by decide +kernel⟩
abbrev s__law_v_bent : Stmt := topS 21
abbrev N__law_v_bent : List Str := ["stream", "ring", "way", "at", "to"]
theorem sc__law_v_bent : FnScope N__law_v_bent ["stream", "ring"] (defScope s__law_v_bent) := ⟨rfl, rfl, rfl, by decide +kernel, rfl, by decide +kernel, by decide +kernel⟩
abbrev s__law_v_row : Stmt := topS 22
abbrev N__law_v_row : List Str := ["stream", "most", "way", "many", "ring", "at", "row"]
theorem sc__law_v_row : FnScope N__law_v_row ["stream", "most"] (defScope s__law_v_row) := ⟨rfl, rfl, rfl, by decide +kernel, rfl, by decide +kernel, by decide +kernel⟩
abbrev s__law_same : Stmt := topS 17
abbrev N__law_same : List Str := ["found", "due", "mine", "theirs"]
theorem sc__law_same : FnScope N__law_same ["found", "due"] (defScope s__law_same) := ⟨rfl, rfl, rfl, by decide +kernel, rfl, by decide +kernel, by decide +kernel⟩
abbrev s_periods_by : Stmt := topS 9
abbrev N_periods_by : List Str := ["row", "step"]
theorem sc_periods_by : FnScope N_periods_by ["row"] (defScope s_periods_by) := ⟨rfl, rfl, rfl, by decide +kernel, rfl, by decide +kernel, by decide +kernel⟩
abbrev s_is_of : Stmt := topS 4
abbrev N_is_of : List Str := ["thing", "signs", "sign"]
theorem sc_is_of : FnScope N_is_of ["thing", "signs"] (defScope s_is_of) := ⟨rfl, rfl, rfl, by decide +kernel, rfl, by decide +kernel, by decide +kernel⟩
abbrev s_is_row : Stmt := topS 6
abbrev N_is_row : List Str := ["thing"]
theorem sc_is_row : FnScope N_is_row ["thing"] (defScope s_is_row) := ⟨rfl, rfl, rfl, by decide +kernel, rfl, by decide +kernel, by decide +kernel⟩
abbrev s_need_row : Stmt := topS 7
abbrev N_need_row : List Str := ["row"]
theorem sc_need_row : FnScope N_need_row ["row"] (defScope s_need_row) := ⟨rfl, rfl, rfl, by decide +kernel, rfl, by decide +kernel, by decide +kernel⟩
abbrev s_periods_of : Stmt := topS 10
abbrev N_periods_of : List Str := ["row"]
theorem sc_periods_of : FnScope N_periods_of ["row"] (defScope s_periods_of) := ⟨rfl, rfl, rfl, by decide +kernel, rfl, by decide +kernel, by decide +kernel⟩
abbrev s_closed_by : Stmt := topS 11
abbrev N_closed_by : List Str := ["row", "begin"]
theorem sc_closed_by : FnScope N_closed_by ["row"] (defScope s_closed_by) := ⟨rfl, rfl, rfl, by decide +kernel, rfl, by decide +kernel, by decide +kernel⟩
abbrev s_closed : Stmt := topS 12
abbrev N_closed : List Str := ["row"]
theorem sc_closed : FnScope N_closed ["row"] (defScope s_closed) := ⟨rfl, rfl, rfl, by decide +kernel, rfl, by decide +kernel, by decide +kernel⟩
abbrev s_law : Stmt := topS 23
abbrev N_law : List Str := ["script", "stream", "turn", "way", "row", "half", "tails", "ahead", "due", "k"]
theorem sc_law : FnScope N_law ["script"] (defScope s_law) := ⟨rfl, rfl, rfl, by decide +kernel, rfl, by decide +kernel, by decide +kernel⟩
/-! ### what the top leaves -/
abbrev FnP (K : PySem.W.Frag) (x : Str) (st : Stmt) (f : Addr) (fd : FuncData) : Prop := FunD K x x (defArgs st) (defBody st) (defScope st) [] [] f fd
structure Tx (w : World) (K : PySem.W.Frag) (mg : Str → Option Value) where
  d__law_stream : FuncData
  F__law_stream : FnP K "_law_stream" s__law_stream (He.ga K "_law_stream") d__law_stream
  g__law_stream : mg "_law_stream" = some (.ref (He.ga K "_law_stream"))
  d__law_draw : FuncData
  F__law_draw : FnP K "_law_draw" s__law_draw (He.ga K "_law_draw") d__law_draw
  g__law_draw : mg "_law_draw" = some (.ref (He.ga K "_law_draw"))
  d__law_pick : FuncData
  F__law_pick : FnP K "_law_pick" s__law_pick (He.ga K "_law_pick") d__law_pick
  g__law_pick : mg "_law_pick" = some (.ref (He.ga K "_law_pick"))
  d__law_v_drawn : FuncData
  F__law_v_drawn : FnP K "_law_v_drawn" s__law_v_drawn (He.ga K "_law_v_drawn") d__law_v_drawn
  g__law_v_drawn : mg "_law_v_drawn" = some (.ref (He.ga K "_law_v_drawn"))
  d__law_v_spread : FuncData
  F__law_v_spread : FnP K "_law_v_spread" s__law_v_spread (He.ga K "_law_v_spread") d__law_v_spread
  g__law_v_spread : mg "_law_v_spread" = some (.ref (He.ga K "_law_v_spread"))
  d__law_v_even : FuncData
  F__law_v_even : FnP K "_law_v_even" s__law_v_even (He.ga K "_law_v_even") d__law_v_even
  g__law_v_even : mg "_law_v_even" = some (.ref (He.ga K "_law_v_even"))
  d__law_v_bent : FuncData
  F__law_v_bent : FnP K "_law_v_bent" s__law_v_bent (He.ga K "_law_v_bent") d__law_v_bent
  g__law_v_bent : mg "_law_v_bent" = some (.ref (He.ga K "_law_v_bent"))
  d__law_v_row : FuncData
  F__law_v_row : FnP K "_law_v_row" s__law_v_row (He.ga K "_law_v_row") d__law_v_row
  g__law_v_row : mg "_law_v_row" = some (.ref (He.ga K "_law_v_row"))
  d__law_same : FuncData
  F__law_same : FnP K "_law_same" s__law_same (He.ga K "_law_same") d__law_same
  g__law_same : mg "_law_same" = some (.ref (He.ga K "_law_same"))
  d_periods_by : FuncData
  F_periods_by : FnP K "periods_by" s_periods_by (He.ga K "periods_by") d_periods_by
  g_periods_by : mg "periods_by" = some (.ref (He.ga K "periods_by"))
  d_is_of : FuncData
  F_is_of : FnP K "is_of" s_is_of (He.ga K "is_of") d_is_of
  g_is_of : mg "is_of" = some (.ref (He.ga K "is_of"))
  d_is_row : FuncData
  F_is_row : FnP K "is_row" s_is_row (He.ga K "is_row") d_is_row
  g_is_row : mg "is_row" = some (.ref (He.ga K "is_row"))
  d_need_row : FuncData
  F_need_row : FnP K "need_row" s_need_row (He.ga K "need_row") d_need_row
  g_need_row : mg "need_row" = some (.ref (He.ga K "need_row"))
  d_periods_of : FuncData
  F_periods_of : FnP K "periods_of" s_periods_of (He.ga K "periods_of") d_periods_of
  g_periods_of : mg "periods_of" = some (.ref (He.ga K "periods_of"))
  d_closed_by : FuncData
  F_closed_by : FnP K "closed_by" s_closed_by (He.ga K "closed_by") d_closed_by
  g_closed_by : mg "closed_by" = some (.ref (He.ga K "closed_by"))
  d_closed : FuncData
  F_closed : FnP K "closed" s_closed (He.ga K "closed") d_closed
  g_closed : mg "closed" = some (.ref (He.ga K "closed"))
  d_law : FuncData
  F_law : FnP K "law" s_law (He.ga K "law") d_law
  g_law : mg "law" = some (.ref (He.ga K "law"))
  f_abs : mg "abs" = none
  f_all : mg "all" = none
  f_any : mg "any" = none
  f_bool : mg "bool" = none
  f_dict : mg "dict" = none
  f_int : mg "int" = none
  f_isinstance : mg "isinstance" = none
  f_len : mg "len" = none
  f_list : mg "list" = none
  f_max : mg "max" = none
  f_min : mg "min" = none
  f_range : mg "range" = none
  f_str : mg "str" = none
  f_tuple : mg "tuple" = none
  f_zip : mg "zip" = none
section
variable {Pg : Program} {w : World} {K : PySem.W.Frag} {mg : Str → Option Value} {base : Heap}
theorem Tx.b__law_stream (Zx : Tx w K mg) : Binds K Zx.d__law_stream ["script"] [] := Zx.F__law_stream.bindsN fun _ _ _ _ _ _ us hl => match us, hl with | [_], _ => rfl
theorem Tx.b__law_draw (Zx : Tx w K mg) : Binds K Zx.d__law_draw ["stream", "many"] [] := Zx.F__law_draw.bindsN fun _ _ _ _ _ _ us hl => match us, hl with | [_, _], _ => rfl
theorem Tx.b__law_pick (Zx : Tx w K mg) : Binds K Zx.d__law_pick ["stream", "things"] [] := Zx.F__law_pick.bindsN fun _ _ _ _ _ _ us hl => match us, hl with | [_, _], _ => rfl
theorem Tx.b__law_v_drawn (Zx : Tx w K mg) : Binds K Zx.d__law_v_drawn ["stream", "many"] [] := Zx.F__law_v_drawn.bindsN fun _ _ _ _ _ _ us hl => match us, hl with | [_, _], _ => rfl
theorem Tx.b__law_v_spread (Zx : Tx w K mg) : Binds K Zx.d__law_v_spread ["p", "q", "r"] [] := Zx.F__law_v_spread.bindsN fun _ _ _ _ _ _ us hl => match us, hl with | [_, _, _], _ => rfl
theorem Tx.b__law_v_even (Zx : Tx w K mg) : Binds K Zx.d__law_v_even ["stream", "most"] [] := Zx.F__law_v_even.bindsN fun _ _ _ _ _ _ us hl => match us, hl with | [_, _], _ => rfl
theorem Tx.b__law_v_bent (Zx : Tx w K mg) : Binds K Zx.d__law_v_bent ["stream", "ring"] [] := Zx.F__law_v_bent.bindsN fun _ _ _ _ _ _ us hl => match us, hl with | [_, _], _ => rfl
theorem Tx.b__law_v_row (Zx : Tx w K mg) : Binds K Zx.d__law_v_row ["stream", "most"] [] := Zx.F__law_v_row.bindsN fun _ _ _ _ _ _ us hl => match us, hl with | [_, _], _ => rfl
theorem Tx.b__law_same (Zx : Tx w K mg) : Binds K Zx.d__law_same ["found", "due"] [] := Zx.F__law_same.bindsN fun _ _ _ _ _ _ us hl => match us, hl with | [_, _], _ => rfl
theorem Tx.b_periods_by (Zx : Tx w K mg) : Binds K Zx.d_periods_by ["row"] [] := Zx.F_periods_by.bindsN fun _ _ _ _ _ _ us hl => match us, hl with | [_], _ => rfl
theorem Tx.b_is_of (Zx : Tx w K mg) : Binds K Zx.d_is_of ["thing", "signs"] [] := Zx.F_is_of.bindsN fun _ _ _ _ _ _ us hl => match us, hl with | [_, _], _ => rfl
theorem Tx.b_is_row (Zx : Tx w K mg) : Binds K Zx.d_is_row ["thing"] [] := Zx.F_is_row.bindsN fun _ _ _ _ _ _ us hl => match us, hl with | [_], _ => rfl
theorem Tx.b_need_row (Zx : Tx w K mg) : Binds K Zx.d_need_row ["row"] [] := Zx.F_need_row.bindsN fun _ _ _ _ _ _ us hl => match us, hl with | [_], _ => rfl
theorem Tx.b_periods_of (Zx : Tx w K mg) : Binds K Zx.d_periods_of ["row"] [] := Zx.F_periods_of.bindsN fun _ _ _ _ _ _ us hl => match us, hl with | [_], _ => rfl
theorem Tx.b_closed_by (Zx : Tx w K mg) : Binds K Zx.d_closed_by ["row"] [] := Zx.F_closed_by.bindsN fun _ _ _ _ _ _ us hl => match us, hl with | [_], _ => rfl
theorem Tx.b_closed (Zx : Tx w K mg) : Binds K Zx.d_closed ["row"] [] := Zx.F_closed.bindsN fun _ _ _ _ _ _ us hl => match us, hl with | [_], _ => rfl
theorem Tx.kb_closed (Zx : Tx w K mg) : KwB K Zx.d_closed ["row"] := kwB_of Zx.F_closed fun _ _ _ _ _ _ us hl => match us, hl with | [_], _ => rfl
theorem Tx.b_law (Zx : Tx w K mg) : Binds K Zx.d_law ["script"] [] := Zx.F_law.bindsN fun _ _ _ _ _ _ us hl => match us, hl with | [_], _ => rfl
/-! ### the bodies -/
abbrev b__law_stream (Zx : Tx w K mg) : St K := Pl.b__law_stream
abbrev b__law_draw (Zx : Tx w K mg) : St K := Pl.b__law_draw
abbrev b__law_pick (Zx : Tx w K mg) : St K := Pl.b__law_pick
abbrev b__law_v_drawn (Zx : Tx w K mg) : St K := Pl.b__law_v_drawn
abbrev b__law_v_spread (Zx : Tx w K mg) : St K := Pl.b__law_v_spread
abbrev b__law_v_even (Zx : Tx w K mg) : St K := Pl.b__law_v_even
abbrev b__law_v_bent (Zx : Tx w K mg) : St K := Pl.b__law_v_bent
abbrev b__law_v_row (Zx : Tx w K mg) : St K := Pl.b__law_v_row
abbrev b__law_same (Zx : Tx w K mg) (R__law_same : List D → D → Prop) : St K := (Pl.b__law_same R__law_same)
def b_periods_by (Zx : Tx w K mg) : St K :=
  (S.ret (E.lc [1] (I.range2 (A.cons (E.int 1) (A.cons (E.op O.add (E.cb C.len (A.cons (E.var 0) A.nil)) (E.int 1)) A.nil))) (Gi.name 1 (by decide)) (T.cmp (E.op O.eq (E.slice (E.var 0) (OO.part (E.var 1)) OO.none) (E.slice (E.var 0) OO.none (OO.part (E.op O.sub (E.cb C.len (A.cons (E.var 0) A.nil)) (E.var 1)))))) (E.var 1)))
abbrev b_is_of (Zx : Tx w K mg) : St K := Pl.b_is_of
abbrev b_is_row (Zx : Tx w K mg) : St K := Pl.b_is_row
abbrev b_need_row (Zx : Tx w K mg) : St K := Pl.b_need_row
def b_periods_of (Zx : Tx w K mg) : St K :=
  (S.ret (E.call R_periods_by (A.cons (E.call R_need_row (A.cons (E.var 0) A.nil)) A.nil)))
def b_closed_by (Zx : Tx w K mg) : St K :=
  (S.seq (S.asg (E.int 0) (G.name 1))
    (S.seq (S.while_ (T.cmp (E.op O.ne (E.slice (E.var 0) (OO.part (E.var 1)) OO.none) (E.revS (E.slice (E.var 0) (OO.part (E.var 1)) OO.none)))) (S.asg (E.op O.add (E.var 1) (E.int 1)) (G.name 1)))
    (S.ret (E.op O.add (E.var 0) (E.revS (E.slice (E.var 0) OO.none (OO.part (E.var 1))))))))
def b_closed (Zx : Tx w K mg) : St K :=
  (S.ret (E.call R_closed_by (A.cons (E.call R_need_row (A.cons (E.var 0) A.nil)) A.nil)))
def b_law (Zx : Tx w K mg) : St K :=
  (S.seq (S.asg (E.callN Φ__law_stream (A.cons (E.var 0) A.nil)) (G.name 1))
    (S.seq (S.for_ (I.range1 (A.cons (E.int 12) A.nil)) (G.name 2) (S.seq (S.asg (E.callS Φ__law_draw (A.cons (E.var 1) (A.cons (E.int 4) A.nil))) (G.name 3))
    (S.seq (S.asg (E.ite (T.cmp (E.op O.lt (E.var 3) (E.int 2))) (E.callS Φ__law_v_drawn (A.cons (E.var 1) (A.cons (E.callS Φ__law_draw (A.cons (E.var 1) (A.cons (E.int 51) A.nil))) A.nil))) (E.callS Φ__law_v_row (A.cons (E.var 1) (A.cons (E.int 50) A.nil)))) (G.name 4))
    (S.seq (S.ite (T.cmp (E.op O.eq (E.var 3) (E.int 3))) (S.seq (S.asg (E.callS Φ__law_v_drawn (A.cons (E.var 1) (A.cons (E.callS Φ__law_draw (A.cons (E.var 1) (A.cons (E.int 20) A.nil))) A.nil))) (G.name 5))
    (S.asg (E.op O.add (E.op O.add (E.callS Φ__law_v_drawn (A.cons (E.var 1) (A.cons (E.callS Φ__law_draw (A.cons (E.var 1) (A.cons (E.int 9) A.nil))) A.nil))) (E.var 5)) (E.revS (E.var 5))) (G.name 4))) S.nil)
    (S.seq (S.asg (E.lc [9] (I.range1 (A.cons (E.op O.add (E.cb C.len (A.cons (E.var 4) A.nil)) (E.int 1)) A.nil)) (Gi.name 9 (by decide)) (T.cmp (E.op O.eq (E.slice (E.var 4) (OO.part (E.var 9)) OO.none) (E.revS (E.slice (E.var 4) (OO.part (E.var 9)) OO.none)))) (E.var 9)) (G.name 6))
    (S.seq (S.asg (E.slice (E.var 4) OO.none (OO.part (E.op O.ix (E.var 6) (E.int 0)))) (G.name 7))
    (S.seq (S.asg (E.op O.add (E.var 4) (E.revS (E.var 7))) (G.name 8))
    (S.seq (S.ite (T.or (T.not (T.tru (E.call R__law_same (A.cons (E.lst (A.cons (E.call R_closed (A.cons (E.var 4) A.nil)) (A.cons (E.call R_closed (A.cons (E.var 4) A.nil)) (A.cons (E.call R_closed (A.cons (E.var 8) A.nil)) A.nil)))) (A.cons (E.lst (A.cons (E.var 8) (A.cons (E.var 8) (A.cons (E.var 8) A.nil)))) A.nil))))) (T.cmp (E.op O.ne (E.var 8) (E.revS (E.var 8))))) (S.ret (E.bl false)) S.nil)
    (S.seq (S.ite (T.cmp (E.op O.gt (E.cb C.len (A.cons (E.var 8) A.nil)) (E.int 100))) S.cont S.nil)
    (S.seq (S.ite (T.tru (E.cb C.any (A.cons (E.lc [9] (I.range1 (A.cons (E.cb C.len (A.cons (E.var 7) A.nil)) A.nil)) (Gi.name 9 (by decide)) T.yes (E.op O.eq (E.op O.add (E.var 4) (E.revS (E.slice (E.var 4) OO.none (OO.part (E.var 9))))) (E.revS (E.op O.add (E.var 4) (E.revS (E.slice (E.var 4) OO.none (OO.part (E.var 9)))))))) A.nil))) (S.ret (E.bl false)) S.nil)
    (S.ite (T.and (T.cmp (E.op O.ne (E.var 4) (E.str (PySem.Str.ofString "")))) (T.and (T.cmp (E.op O.ne (E.var 7) (E.str (PySem.Str.ofString "")))) (T.cmp (E.op O.notInL (E.op O.sub (E.op O.add (E.op O.mul (E.int 2) (E.cb C.len (A.cons (E.var 7) A.nil))) (E.cb C.len (A.cons (E.var 4) A.nil))) (E.op O.mul (E.int 2) (E.cb C.len (A.cons (E.var 7) A.nil)))) (E.op O.add (E.call R_periods_of (A.cons (E.var 8) A.nil)) (E.lst (A.cons (E.cb C.len (A.cons (E.var 4) A.nil)) A.nil))))))) (S.ret (E.bl false)) S.nil)))))))))))
    (S.ret (E.bl true))))
/-! ### their derivations -/
theorem der__law_stream (Zx : Tx w K mg) (cdv : Value) (A : Around) (outer : List Env) (s : Shared) (H : Hp) (E : XK) (hr : Room 0 (A.deeper (envOfC "_law_stream" (defScope s__law_stream) s.heap.objs.size (He.ga K "_law_stream") cdv))) :
    PSs (cxOf CX0 Pg w K mg base N__law_stream "_law_stream" (defScope s__law_stream) (He.ga K "_law_stream") cdv A outer s H E).nox (defBody s__law_stream) (b__law_stream Zx).ts := by
  have nd := sc__law_stream.nd
  exact (dss_one (ds_ret (de_lstC (da_cons (de_callTy call_list_of (by rfl) Zx.f_list (by decide +kernel) (da_cons (dv 0) da_nil)) (da_cons de_int (da_cons de_int (da_cons de_int da_nil)))))))
theorem der__law_draw (Zx : Tx w K mg) (cdv : Value) (A : Around) (outer : List Env) (s : Shared) (H : Hp) (E : XK) (hr : Room 0 (A.deeper (envOfC "_law_draw" (defScope s__law_draw) s.heap.objs.size (He.ga K "_law_draw") cdv))) :
    PSs (cxOf CX0 Pg w K mg base N__law_draw "_law_draw" (defScope s__law_draw) (He.ga K "_law_draw") cdv A outer s H E).nox (defBody s__law_draw) (b__law_draw Zx).ts := by
  have nd := sc__law_draw.nd
  exact (dss_cons (ds_asg (de_op O.op_addG (de_ix ix_seq (dv 0) de_int (fun _ _ => rfl)) de_int) (dg_sub (dv 0) de_int set_list))
    (dss_cons (ds_while PassesOwn.never (dw_pt (dw_and (dt_cmpR (O.op_eqG hr.units) (de_ix ix_seq (dv 0) de_int (fun _ _ => rfl)) de_int (nomark _)) (dw_and1 (dt_cmpR (O.op_neG hr.units) (de_ix ix_seq (dv 0) de_int (fun _ _ => rfl)) (de_lst da_nil) (nomark _))))) (dss_cons (ds_set (i := 2) nd rfl (Or.inl rfl) (de_callB call_abs (by rfl) Zx.f_abs (by decide +kernel) (da_cons (de_bm PySem.F.plainAttrs_list PySem.F.slot_list_pop PySem.F.type_list_pop mt_popAt (de_ix ix_seq (dv 0) de_int (fun _ _ => rfl)) (da_cons de_int da_nil)) da_nil)))
    (dss_cons (ds_asg (de_op op_mod (de_callTy call_int1 (by rfl) Zx.f_int (by decide +kernel) (da_cons (de_op O.op_addG (de_op O.op_addG (de_op O.op_mulG (de_ix ix_seq (dv 0) de_int (fun _ _ => rfl)) de_int) (dv 2)) de_int) da_nil)) de_int) (dg_sub (dv 0) de_int set_list))
    (dss_one (ds_asg (de_ifExp (dt_cmpR op_ge (dv 2) (de_op op_pow de_int de_int) (nomark _)) (dv 2) de_int) (dg_sub (dv 0) de_int set_list))))))
    (dss_cons (ds_if (dt_cmpR op_gt (de_ix ix_seq (dv 0) de_int (fun _ _ => rfl)) de_int (nomark _)) (dss_cons (ds_set (i := 3) nd rfl (Or.inl rfl) (de_op op_mod (de_callTy call_int1 (by rfl) Zx.f_int (by decide +kernel) (da_cons (de_ix ix_seq (dv 0) de_int (fun _ _ => rfl)) da_nil)) (dv 1)))
    (dss_cons (ds_asg (de_op op_fdivW (de_ix ix_seq (dv 0) de_int (fun _ _ => rfl)) (dv 1)) (dg_sub (dv 0) de_int set_list))
    (dss_one (ds_ret (dv 3))))) dss_nil)
    (dss_cons (ds_set (i := 4) nd rfl (Or.inl rfl) (de_op op_mod (de_callTy call_int1 (by rfl) Zx.f_int (by decide +kernel) (da_cons (de_op op_pow (de_op O.op_addG (de_op O.op_addG (de_ix ix_seq (dv 0) de_int (fun _ _ => rfl)) (de_op O.op_mulG de_int (de_ix ix_seq (dv 0) de_int (fun _ _ => rfl)))) de_int) de_int) da_nil)) de_int))
    (dss_one (ds_ret (de_op op_mod (de_op op_mod (de_callTy call_int1 (by rfl) Zx.f_int (by decide +kernel) (da_cons (de_op op_pow (de_op O.op_addG (de_op O.op_addG (de_op O.op_mulG (dv 4) de_int) (de_op O.op_mulG de_int (de_ix ix_seq (dv 0) de_int (fun _ _ => rfl)))) de_int) de_int) da_nil)) de_int) (dv 1))))))))
theorem der__law_pick (Zx : Tx w K mg) (G__law_draw : FnOk Pg w K mg base CX0 1 (He.ga K "_law_draw") Zx.d__law_draw ["stream", "many"] (SpC K Φ__law_draw)) (cdv : Value) (A : Around) (outer : List Env) (s : Shared) (H : Hp) (E : XK) (hr : Room 1 (A.deeper (envOfC "_law_pick" (defScope s__law_pick) s.heap.objs.size (He.ga K "_law_pick") cdv))) :
    PSs (cxOf CX0 Pg w K mg base N__law_pick "_law_pick" (defScope s__law_pick) (He.ga K "_law_pick") cdv A outer s H E).nox (defBody s__law_pick) (b__law_pick Zx).ts := by
  have nd := sc__law_pick.nd
  exact (dss_one (ds_ret (de_ix ix_seq (dv 1) (de_callS G__law_draw (hr.mono (by decide)) (by rfl) Zx.g__law_draw Zx.F__law_draw.kp Zx.b__law_draw (da_cons (dv 0) (da_cons (de_callB call_len (by rfl) Zx.f_len (by decide +kernel) (da_cons (dv 1) da_nil)) da_nil))) (fun _ _ => rfl))))
theorem der__law_v_drawn (Zx : Tx w K mg) (G__law_pick : FnOk Pg w K mg base CX0 2 (He.ga K "_law_pick") Zx.d__law_pick ["stream", "things"] (SpC K Φ__law_pick)) (cdv : Value) (A : Around) (outer : List Env) (s : Shared) (H : Hp) (E : XK) (hr : Room 2 (A.deeper (envOfC "_law_v_drawn" (defScope s__law_v_drawn) s.heap.objs.size (He.ga K "_law_v_drawn") cdv))) :
    PSs (cxOf CX0 Pg w K mg base N__law_v_drawn "_law_v_drawn" (defScope s__law_v_drawn) (He.ga K "_law_v_drawn") cdv A outer s H E).nox (defBody s__law_v_drawn) (b__law_v_drawn Zx).ts := by
  have nd := sc__law_v_drawn.nd
  exact (dss_one (ds_ret (de_bm PySem.F.plainAttrs_str PySem.F.slot_str_join PySem.F.type_str_join mt_join de_str (da_cons (de_lc (own := [("at", 2)]) (by rfl) nd ((di_range1 (by rfl) Zx.f_range (da_cons (dv 1) da_nil))) (blkOk_by (N := N__law_v_drawn) (sc := defScope s__law_v_drawn) (own := [("at", 2)]) (by decide +kernel)) (fun _ _ _ _ _ => (dg_nameI (i := 2) nd rfl (Or.inl rfl))) (fun _ _ _ _ _ => dts_nil) (fun _ _ _ _ _ => (de_callS G__law_pick (hr.mono (by decide)) (by rfl) Zx.g__law_pick Zx.F__law_pick.kp Zx.b__law_pick (da_cons (dv 0) (da_cons (de_lst (da_cons de_str (da_cons de_str da_nil))) da_nil))))) da_nil))))
theorem der__law_v_spread (Zx : Tx w K mg) (cdv : Value) (A : Around) (outer : List Env) (s : Shared) (H : Hp) (E : XK) (hr : Room 0 (A.deeper (envOfC "_law_v_spread" (defScope s__law_v_spread) s.heap.objs.size (He.ga K "_law_v_spread") cdv))) :
    PSs (cxOf CX0 Pg w K mg base N__law_v_spread "_law_v_spread" (defScope s__law_v_spread) (He.ga K "_law_v_spread") cdv A outer s H E).nox (defBody s__law_v_spread) (b__law_v_spread Zx).ts := by
  have nd := sc__law_v_spread.nd
  exact (dss_cons (ds_asg (de_tup (da_cons (de_op O.op_addG (dv 0) (dv 1)) (da_cons de_str (da_cons (dv 2) da_nil)))) (dg_tup rfl (dgs_cons (dg_name (i := 3) nd rfl (Or.inr rfl)) (dgs_cons (dg_name (i := 4) nd rfl (Or.inl rfl)) (dgs_cons (dg_name (i := 5) nd rfl (Or.inr rfl)) dgs_nil)))))
    (dss_cons (ds_for PassesOwn.never rfl (di_range1 (by rfl) Zx.f_range (da_cons (dv 3) da_nil)) (dg_name (i := 6) nd rfl (Or.inl rfl)) (dss_cons (ds_set (i := 7) nd rfl (Or.inr rfl) (de_op O.op_addG (dv 5) (dv 1)))
    (dss_cons (ds_setLc (i := 8) (own := [("k", 9)]) rfl nd rfl rfl (sw_true rfl rfl rfl (by decide +kernel)) ((di_range1 (by rfl) Zx.f_range (da_cons (de_op O.op_addG (dv 3) de_int) da_nil))) (blkOk_by (N := N__law_v_spread) (sc := defScope s__law_v_spread) (own := [("k", 9)]) (by decide +kernel)) (fun _ _ _ _ _ => (dg_nameI (i := 9) nd rfl (Or.inl rfl))) (fun _ _ _ _ _ => (dts_one (dt_chain op_lt op_le (dv 5) (de_op O.op_mulG (dv 9) (dv 3)) (dv 7)))) (fun _ _ _ _ _ => (dv 9)))
    (dss_one (ds_asg (de_tup (da_cons (de_op O.op_addG (dv 4) (de_ifExp (dt_cmpR (O.op_neG hr.units) (dv 8) (de_lst da_nil) (nomark _)) de_str de_str)) (da_cons (dv 7) da_nil))) (dg_tup rfl (dgs_cons (dg_name (i := 4) nd rfl (Or.inl rfl)) (dgs_cons (dg_name (i := 5) nd rfl (Or.inr rfl)) dgs_nil))))))))
    (dss_one (ds_ret (dv 4)))))
theorem der__law_v_even (Zx : Tx w K mg) (G__law_draw : FnOk Pg w K mg base CX0 1 (He.ga K "_law_draw") Zx.d__law_draw ["stream", "many"] (SpC K Φ__law_draw)) (G__law_v_spread : FnOk Pg w K mg base CX0 1 (He.ga K "_law_v_spread") Zx.d__law_v_spread ["p", "q", "r"] (SpD K R__law_v_spread)) (cdv : Value) (A : Around) (outer : List Env) (s : Shared) (H : Hp) (E : XK) (hr : Room 1 (A.deeper (envOfC "_law_v_even" (defScope s__law_v_even) s.heap.objs.size (He.ga K "_law_v_even") cdv))) :
    PSs (cxOf CX0 Pg w K mg base N__law_v_even "_law_v_even" (defScope s__law_v_even) (He.ga K "_law_v_even") cdv A outer s H E).nox (defBody s__law_v_even) (b__law_v_even Zx).ts := by
  have nd := sc__law_v_even.nd
  exact (dss_cons (ds_set (i := 2) nd rfl (Or.inl rfl) (de_op O.op_addG de_int (de_callS G__law_draw (hr.mono (by decide)) (by rfl) Zx.g__law_draw Zx.F__law_draw.kp Zx.b__law_draw (da_cons (dv 0) (da_cons (dv 1) da_nil)))))
    (dss_cons (ds_set (i := 3) nd rfl (Or.inl rfl) (de_callS G__law_draw (hr.mono (by decide)) (by rfl) Zx.g__law_draw Zx.F__law_draw.kp Zx.b__law_draw (da_cons (dv 0) (da_cons (de_op O.op_addG (dv 2) de_int) da_nil))))
    (dss_cons (ds_set (i := 4) nd rfl (Or.inl rfl) (de_call G__law_v_spread (hr.mono (by decide)) (by rfl) Zx.g__law_v_spread Zx.F__law_v_spread.kp Zx.b__law_v_spread (da_cons (de_op op_sub (dv 2) (dv 3)) (da_cons (dv 3) (da_cons (de_callS G__law_draw (hr.mono (by decide)) (by rfl) Zx.g__law_draw Zx.F__law_draw.kp Zx.b__law_draw (da_cons (dv 0) (da_cons (dv 2) da_nil))) da_nil)))))
    (dss_one (ds_ret (de_ifExp (dt_cmpR (O.op_eqG hr.units) (de_callS G__law_draw (hr.mono (by decide)) (by rfl) Zx.g__law_draw Zx.F__law_draw.kp Zx.b__law_draw (da_cons (dv 0) (da_cons de_int da_nil))) de_int (nomark _)) (de_op op_repS (dv 4) (de_callTy call_int1 (by rfl) Zx.f_int (by decide +kernel) (da_cons (de_op op_fdivW (dv 1) (dv 2)) da_nil))) (dv 4)))))))
theorem der__law_v_bent (Zx : Tx w K mg) (G__law_draw : FnOk Pg w K mg base CX0 1 (He.ga K "_law_draw") Zx.d__law_draw ["stream", "many"] (SpC K Φ__law_draw)) (G__law_pick : FnOk Pg w K mg base CX0 2 (He.ga K "_law_pick") Zx.d__law_pick ["stream", "things"] (SpC K Φ__law_pick)) (cdv : Value) (A : Around) (outer : List Env) (s : Shared) (H : Hp) (E : XK) (hr : Room 2 (A.deeper (envOfC "_law_v_bent" (defScope s__law_v_bent) s.heap.objs.size (He.ga K "_law_v_bent") cdv))) :
    PSs (cxOf CX0 Pg w K mg base N__law_v_bent "_law_v_bent" (defScope s__law_v_bent) (He.ga K "_law_v_bent") cdv A outer s H E).nox (defBody s__law_v_bent) (b__law_v_bent Zx).ts := by
  have nd := sc__law_v_bent.nd
  exact (dss_cons (ds_par (i := 2) (j := 3) (by rfl) nd rfl rfl (by decide) rfl rfl (da_cons (de_callS G__law_draw (hr.mono (by decide)) (by rfl) Zx.g__law_draw Zx.F__law_draw.kp Zx.b__law_draw (da_cons (dv 0) (da_cons de_int da_nil))) (da_cons (de_callS G__law_draw (hr.mono (by decide)) (by rfl) Zx.g__law_draw Zx.F__law_draw.kp Zx.b__law_draw (da_cons (dv 0) (da_cons (de_callB call_len (by rfl) Zx.f_len (by decide +kernel) (da_cons (dv 1) da_nil)) da_nil))) da_nil)) (by rfl))
    (dss_cons (ds_if (dw_pt (dw_and (dt_cmpR (O.op_eqG hr.units) (dv 2) de_int (nomark _)) (dw_and1 (dt_cmpR op_lt (de_op O.op_addG (dv 3) de_int) (de_callB call_len (by rfl) Zx.f_len (by decide +kernel) (da_cons (dv 1) da_nil)) (nomark _))))) (dss_one (ds_ret (de_op O.op_addG (de_op O.op_addG (de_op O.op_addG (de_slice (dv 1) do_none (do_some (dv 3))) (de_ix ix_seq (dv 1) (de_op O.op_addG (dv 3) de_int) (fun _ _ => rfl))) (de_ix ix_seq (dv 1) (dv 3) (fun _ _ => rfl))) (de_slice (dv 1) (do_some (de_op O.op_addG (dv 3) de_int)) do_none)))) dss_nil)
    (dss_cons (ds_if (dt_cmpR (O.op_eqG hr.units) (dv 2) de_int (nomark _)) (dss_one (ds_ret (de_op O.op_addG (de_op O.op_addG (de_slice (dv 1) do_none (do_some (dv 3))) (de_ifExp (dt_cmpR (O.op_eqG hr.units) (de_ix ix_seq (dv 1) (dv 3) (fun _ _ => rfl)) de_str (nomark _)) de_str de_str)) (de_slice (dv 1) (do_some (de_op O.op_addG (dv 3) de_int)) do_none)))) dss_nil)
    (dss_cons (ds_if (dt_cmpR (O.op_eqG hr.units) (dv 2) de_int (nomark _)) (dss_one (ds_ret (de_op O.op_addG (de_op O.op_addG (de_slice (dv 1) do_none (do_some (dv 3))) (de_callS G__law_pick (hr.mono (by decide)) (by rfl) Zx.g__law_pick Zx.F__law_pick.kp Zx.b__law_pick (da_cons (dv 0) (da_cons (de_lst (da_cons de_str (da_cons de_str da_nil))) da_nil)))) (de_slice (dv 1) (do_some (dv 3)) do_none)))) dss_nil)
    (dss_cons (ds_set (i := 4) nd rfl (Or.inl rfl) (de_callS G__law_draw (hr.mono (by decide)) (by rfl) Zx.g__law_draw Zx.F__law_draw.kp Zx.b__law_draw (da_cons (dv 0) (da_cons (de_callB call_len (by rfl) Zx.f_len (by decide +kernel) (da_cons (dv 1) da_nil)) da_nil))))
    (dss_one (ds_ret (de_op O.op_addG (de_op O.op_addG (de_slice (dv 1) (do_some (de_callB (call_min2 (by rfl)) (by rfl) Zx.f_min (by decide +kernel) (da_cons (dv 3) (da_cons (dv 4) da_nil)))) (do_some (de_callB (call_max2 (by rfl)) (by rfl) Zx.f_max (by decide +kernel) (da_cons (dv 3) (da_cons (dv 4) da_nil))))) (de_slice (dv 1) do_none (do_some (de_callB (call_min2 (by rfl)) (by rfl) Zx.f_min (by decide +kernel) (da_cons (dv 3) (da_cons (dv 4) da_nil)))))) (de_slice (dv 1) (do_some (de_callB (call_max2 (by rfl)) (by rfl) Zx.f_max (by decide +kernel) (da_cons (dv 3) (da_cons (dv 4) da_nil)))) do_none)))))))))
theorem der__law_v_row (Zx : Tx w K mg) (G__law_draw : FnOk Pg w K mg base CX0 1 (He.ga K "_law_draw") Zx.d__law_draw ["stream", "many"] (SpC K Φ__law_draw)) (G__law_v_bent : FnOk Pg w K mg base CX0 3 (He.ga K "_law_v_bent") Zx.d__law_v_bent ["stream", "ring"] (SpC K Φ__law_v_bent)) (G__law_v_drawn : FnOk Pg w K mg base CX0 3 (He.ga K "_law_v_drawn") Zx.d__law_v_drawn ["stream", "many"] (SpC K Φ__law_v_drawn)) (G__law_v_even : FnOk Pg w K mg base CX0 2 (He.ga K "_law_v_even") Zx.d__law_v_even ["stream", "most"] (SpC K Φ__law_v_even)) (cdv : Value) (A : Around) (outer : List Env) (s : Shared) (H : Hp) (E : XK) (hr : Room 3 (A.deeper (envOfC "_law_v_row" (defScope s__law_v_row) s.heap.objs.size (He.ga K "_law_v_row") cdv))) :
    PSs (cxOf CX0 Pg w K mg base N__law_v_row "_law_v_row" (defScope s__law_v_row) (He.ga K "_law_v_row") cdv A outer s H E).nox (defBody s__law_v_row) (b__law_v_row Zx).ts := by
  have nd := sc__law_v_row.nd
  exact (dss_cons (ds_par (i := 2) (j := 3) (by rfl) nd rfl rfl (by decide) rfl rfl (da_cons (de_callS G__law_draw (hr.mono (by decide)) (by rfl) Zx.g__law_draw Zx.F__law_draw.kp Zx.b__law_draw (da_cons (dv 0) (da_cons de_int da_nil))) (da_cons (de_callS G__law_draw (hr.mono (by decide)) (by rfl) Zx.g__law_draw Zx.F__law_draw.kp Zx.b__law_draw (da_cons (dv 0) (da_cons (de_op O.op_addG (dv 1) de_int) da_nil))) da_nil)) (by rfl))
    (dss_cons (ds_if (dw_pt (dw_or (dt_cmpR (O.op_eqG hr.units) (dv 2) de_int (nomark _)) (dw_or1 (dt_cmpR (O.op_eqG hr.units) (dv 3) de_int (nomark _))))) (dss_one (ds_ret (de_callS G__law_v_drawn (hr.mono (by decide)) (by rfl) Zx.g__law_v_drawn Zx.F__law_v_drawn.kp Zx.b__law_v_drawn (da_cons (dv 0) (da_cons (dv 3) da_nil))))) dss_nil)
    (dss_cons (ds_set (i := 4) nd rfl (Or.inl rfl) (de_callS G__law_v_even (hr.mono (by decide)) (by rfl) Zx.g__law_v_even Zx.F__law_v_even.kp Zx.b__law_v_even (da_cons (dv 0) (da_cons (dv 1) da_nil))))
    (dss_cons (ds_set (i := 5) nd rfl (Or.inl rfl) (de_callS G__law_draw (hr.mono (by decide)) (by rfl) Zx.g__law_draw Zx.F__law_draw.kp Zx.b__law_draw (da_cons (dv 0) (da_cons (de_callB call_len (by rfl) Zx.f_len (by decide +kernel) (da_cons (dv 4) da_nil)) da_nil))))
    (dss_cons (ds_set (i := 6) nd rfl (Or.inl rfl) (de_slice (de_op op_repS (dv 4) (de_op O.op_addG (de_callTy call_int1 (by rfl) Zx.f_int (by decide +kernel) (da_cons (de_op op_fdivW (dv 3) (de_callB call_len (by rfl) Zx.f_len (by decide +kernel) (da_cons (dv 4) da_nil))) da_nil)) de_int)) (do_some (dv 5)) (do_some (de_op O.op_addG (dv 5) (dv 3)))))
    (dss_one (ds_ret (de_ifExp (dt_cmpR op_lt (dv 2) de_int (nomark _)) (dv 6) (de_slice (de_callS G__law_v_bent (hr.mono (by decide)) (by rfl) Zx.g__law_v_bent Zx.F__law_v_bent.kp Zx.b__law_v_bent (da_cons (dv 0) (da_cons (dv 6) da_nil))) do_none (do_some (dv 1)))))))))))
theorem der__law_same (Zx : Tx w K mg) {R__law_same : List D → D → Prop} {k : Nat} (G__law_same : FnOk Pg w K mg base CX0 k (He.ga K "_law_same") Zx.d__law_same ["found", "due"] (SpD K R__law_same)) (cdv : Value) (A : Around) (outer : List Env) (s : Shared) (H : Hp) (E : XK) (hr : Room k (A.deeper (envOfC "_law_same" (defScope s__law_same) s.heap.objs.size (He.ga K "_law_same") cdv))) :
    PSs (cxOf CX0 Pg w K mg base N__law_same "_law_same" (defScope s__law_same) (He.ga K "_law_same") cdv A outer s H E).nox (defBody s__law_same) (b__law_same Zx R__law_same).ts := by
  have nd := sc__law_same.nd
  exact (dss_cons (ds_if (dt_truth (de_isiT (by rfl) Zx.f_isinstance (by decide +kernel) (dv 1) (dty_cons (by rfl) Zx.f_list boot_list (dty_cons (by rfl) Zx.f_tuple boot_tuple dty_nil))) (by intro _; rfl)) (dss_cons (ds_if (dw_pt (dw_or (dt_cmpR (O.op_neG hr.units) (de_callB call_isi (by rfl) Zx.f_isinstance (by decide +kernel) (da_cons (dv 0) (da_cons (de_bltn (v := .ty "list") (by rfl) Zx.f_list boot_list rfl) da_nil))) (de_callB call_isi (by rfl) Zx.f_isinstance (by decide +kernel) (da_cons (dv 1) (da_cons (de_bltn (v := .ty "list") (by rfl) Zx.f_list boot_list rfl) da_nil))) (nomark _)) (dw_or1 (dt_cmpR (O.op_neG hr.units) (de_callB call_isi (by rfl) Zx.f_isinstance (by decide +kernel) (da_cons (dv 0) (da_cons (de_bltn (v := .ty "tuple") (by rfl) Zx.f_tuple boot_tuple rfl) da_nil))) (de_callB call_isi (by rfl) Zx.f_isinstance (by decide +kernel) (da_cons (dv 1) (da_cons (de_bltn (v := .ty "tuple") (by rfl) Zx.f_tuple boot_tuple rfl) da_nil))) (nomark _))))) (dss_one (ds_ret de_bl)) dss_nil)
    (dss_one (ds_ret (de_andT (de_cmpR (O.op_eqG hr.units) (de_callB call_len (by rfl) Zx.f_len (by decide +kernel) (da_cons (dv 0) da_nil)) (de_callB call_len (by rfl) Zx.f_len (by decide +kernel) (da_cons (dv 1) da_nil)) (nomark _)) (de_one (de_callB (cr_all rfl) (by rfl) Zx.f_all (by decide +kernel) (da_cons (de_lc (own := [("mine", 2), ("theirs", 3)]) (by rfl) nd ((di_zipA (by rfl) Zx.f_zip (da_cons (dv 0) (da_cons (dv 1) da_nil)))) (blkOk_by (N := N__law_same) (sc := defScope s__law_same) (own := [("mine", 2), ("theirs", 3)]) (by decide +kernel)) (fun _ _ _ _ _ => (dg_tupI rfl (dgs_consI (dg_nameI (i := 2) nd rfl (Or.inl rfl)) (dgs_consI (dg_nameI (i := 3) nd rfl (Or.inl rfl)) dgs_nilI)))) (fun _ _ _ _ _ => dts_nil) (fun _ _ _ _ _ => (de_call G__law_same hr (by rfl) Zx.g__law_same Zx.F__law_same.kp Zx.b__law_same (da_cons (dv 2) (da_cons (dv 3) da_nil))))) da_nil))))))) dss_nil)
    (dss_cons (ds_if (dt_truth (de_callB call_isi (by rfl) Zx.f_isinstance (by decide +kernel) (da_cons (dv 1) (da_cons (de_bltn (v := .ty "dict") (by rfl) Zx.f_dict boot_dict rfl) da_nil))) (by intro _; rfl)) (dss_one ds_never) dss_nil)
    (dss_cons (ds_if (dw_pt (dw_or (dt_truth (de_callB call_isi (by rfl) Zx.f_isinstance (by decide +kernel) (da_cons (dv 1) (da_cons (de_bltn (v := .ty "bool") (by rfl) Zx.f_bool boot_bool rfl) da_nil))) (by intro _; rfl)) (dw_or1 (dt_truth (de_callB call_isi (by rfl) Zx.f_isinstance (by decide +kernel) (da_cons (dv 0) (da_cons (de_bltn (v := .ty "bool") (by rfl) Zx.f_bool boot_bool rfl) da_nil))) (by intro _; rfl))))) (dss_one (ds_ret (de_andT (de_callB call_isi (by rfl) Zx.f_isinstance (by decide +kernel) (da_cons (dv 1) (da_cons (de_bltn (v := .ty "bool") (by rfl) Zx.f_bool boot_bool rfl) da_nil))) (de_andT (de_callB call_isi (by rfl) Zx.f_isinstance (by decide +kernel) (da_cons (dv 0) (da_cons (de_bltn (v := .ty "bool") (by rfl) Zx.f_bool boot_bool rfl) da_nil))) (de_one (de_cmpR (O.op_eqG hr.units) (dv 0) (dv 1) (nomark _))))))) dss_nil)
    (dss_cons (ds_if (dw_pt (dw_or (dt_cmpR op_isN (dv 1) de_non (nomark _)) (dw_or1 (dt_cmpR op_isN (dv 0) de_non (nomark _))))) (dss_one (ds_ret (de_andT (de_cmpR op_isN (dv 1) de_non (nomark _)) (de_one (de_cmpR op_isN (dv 0) de_non (nomark _)))))) dss_nil)
    (dss_cons (ds_if (dw_pt (dw_or (dt_cmpR (O.op_neG hr.units) (de_callB call_isi (by rfl) Zx.f_isinstance (by decide +kernel) (da_cons (dv 1) (da_cons (de_bltn (v := .ty "int") (by rfl) Zx.f_int boot_int rfl) da_nil))) (de_callB call_isi (by rfl) Zx.f_isinstance (by decide +kernel) (da_cons (dv 0) (da_cons (de_bltn (v := .ty "int") (by rfl) Zx.f_int boot_int rfl) da_nil))) (nomark _)) (dw_or1 (dt_cmpR (O.op_neG hr.units) (de_callB call_isi (by rfl) Zx.f_isinstance (by decide +kernel) (da_cons (dv 1) (da_cons (de_bltn (v := .ty "str") (by rfl) Zx.f_str boot_str rfl) da_nil))) (de_callB call_isi (by rfl) Zx.f_isinstance (by decide +kernel) (da_cons (dv 0) (da_cons (de_bltn (v := .ty "str") (by rfl) Zx.f_str boot_str rfl) da_nil))) (nomark _))))) (dss_one (ds_ret de_bl)) dss_nil)
    (dss_one (ds_ret (de_andT (de_notT (de_isiT (by rfl) Zx.f_isinstance (by decide +kernel) (dv 0) (dty_cons (by rfl) Zx.f_list boot_list (dty_cons (by rfl) Zx.f_tuple boot_tuple (dty_cons (by rfl) Zx.f_dict boot_dict dty_nil))))) (de_one (de_cmpR (O.op_eqG hr.units) (dv 0) (dv 1) (nomark _)))))))))))
theorem der_periods_by (Zx : Tx w K mg) (cdv : Value) (A : Around) (outer : List Env) (s : Shared) (H : Hp) (E : XK) (hr : Room 0 (A.deeper (envOfC "periods_by" (defScope s_periods_by) s.heap.objs.size (He.ga K "periods_by") cdv))) :
    PSs (cxOf CX0 Pg w K mg base N_periods_by "periods_by" (defScope s_periods_by) (He.ga K "periods_by") cdv A outer s H E).nox (defBody s_periods_by) (b_periods_by Zx).ts := by
  have nd := sc_periods_by.nd
  delta b_periods_by
  exact (dss_one (ds_ret (de_lc (own := [("step", 1)]) (by rfl) nd ((di_range2 (by rfl) Zx.f_range (da_cons de_int (da_cons (de_op O.op_addG (de_callB call_len (by rfl) Zx.f_len (by decide +kernel) (da_cons (dv 0) da_nil)) de_int) da_nil)))) (blkOk_by (N := N_periods_by) (sc := defScope s_periods_by) (own := [("step", 1)]) (by decide +kernel)) (fun _ _ _ _ _ => (dg_nameI (i := 1) nd rfl (Or.inl rfl))) (fun _ _ _ _ _ => (dts_one (dt_cmpR (O.op_eqG hr.units) (de_slice (dv 0) (do_some (dv 1)) do_none) (de_slice (dv 0) do_none (do_some (de_op op_sub (de_callB call_len (by rfl) Zx.f_len (by decide +kernel) (da_cons (dv 0) da_nil)) (dv 1)))) (nomark _)))) (fun _ _ _ _ _ => (dv 1)))))
theorem der_is_of (Zx : Tx w K mg) (cdv : Value) (A : Around) (outer : List Env) (s : Shared) (H : Hp) (E : XK) (hr : Room 0 (A.deeper (envOfC "is_of" (defScope s_is_of) s.heap.objs.size (He.ga K "is_of") cdv))) :
    PSs (cxOf CX0 Pg w K mg base N_is_of "is_of" (defScope s_is_of) (He.ga K "is_of") cdv A outer s H E).nox (defBody s_is_of) (b_is_of Zx).ts := by
  have nd := sc_is_of.nd
  exact (dss_one (ds_ret (de_andT (de_callB call_isi (by rfl) Zx.f_isinstance (by decide +kernel) (da_cons (dv 0) (da_cons (de_bltn (v := .ty "str") (by rfl) Zx.f_str boot_str rfl) da_nil))) (de_one (de_callB (cr_all rfl) (by rfl) Zx.f_all (by decide +kernel) (da_cons (de_lc (own := [("sign", 2)]) (by rfl) nd ((di_str (dv 0))) (blkOk_by (N := N_is_of) (sc := defScope s_is_of) (own := [("sign", 2)]) (by decide +kernel)) (fun _ _ _ _ _ => (dg_nameI (i := 2) nd rfl (Or.inl rfl))) (fun _ _ _ _ _ => dts_nil) (fun _ _ _ _ _ => (de_cmpR op_in_str (dv 2) (dv 1) (by with_unfolding_all rfl)))) da_nil))))))
theorem der_is_row (Zx : Tx w K mg) (G_is_of : FnOk Pg w K mg base CX0 1 (He.ga K "is_of") Zx.d_is_of ["thing", "signs"] (SpD K R_is_of)) (cdv : Value) (A : Around) (outer : List Env) (s : Shared) (H : Hp) (E : XK) (hr : Room 1 (A.deeper (envOfC "is_row" (defScope s_is_row) s.heap.objs.size (He.ga K "is_row") cdv))) :
    PSs (cxOf CX0 Pg w K mg base N_is_row "is_row" (defScope s_is_row) (He.ga K "is_row") cdv A outer s H E).nox (defBody s_is_row) (b_is_row Zx).ts := by
  have nd := sc_is_row.nd
  exact (dss_one (ds_ret (de_call G_is_of (hr.mono (by decide)) (by rfl) Zx.g_is_of Zx.F_is_of.kp Zx.b_is_of (da_cons (dv 0) (da_cons de_str da_nil)))))
theorem der_need_row (Zx : Tx w K mg) (G_is_row : FnOk Pg w K mg base CX0 2 (He.ga K "is_row") Zx.d_is_row ["thing"] (SpD K R_is_row)) (cdv : Value) (A : Around) (outer : List Env) (s : Shared) (H : Hp) (E : XK) (hr : Room 2 (A.deeper (envOfC "need_row" (defScope s_need_row) s.heap.objs.size (He.ga K "need_row") cdv))) :
    PSs (cxOf CX0 Pg w K mg base N_need_row "need_row" (defScope s_need_row) (He.ga K "need_row") cdv A outer s H E).nox (defBody s_need_row) (b_need_row Zx).ts := by
  have nd := sc_need_row.nd
  exact (dss_cons (ds_if (dt_not (dt_truth (de_call G_is_row (hr.mono (by decide)) (by rfl) Zx.g_is_row Zx.F_is_row.kp Zx.b_is_row (da_cons (dv 0) da_nil)) (by intro _; rfl))) (dss_one ds_never) dss_nil)
    (dss_one (ds_ret (dv 0))))
theorem der_periods_of (Zx : Tx w K mg) (G_need_row : FnOk Pg w K mg base CX0 3 (He.ga K "need_row") Zx.d_need_row ["row"] (SpD K R_need_row)) (G_periods_by : FnOk Pg w K mg base CX0 1 (He.ga K "periods_by") Zx.d_periods_by ["row"] (SpD K R_periods_by)) (cdv : Value) (A : Around) (outer : List Env) (s : Shared) (H : Hp) (E : XK) (hr : Room 3 (A.deeper (envOfC "periods_of" (defScope s_periods_of) s.heap.objs.size (He.ga K "periods_of") cdv))) :
    PSs (cxOf CX0 Pg w K mg base N_periods_of "periods_of" (defScope s_periods_of) (He.ga K "periods_of") cdv A outer s H E).nox (defBody s_periods_of) (b_periods_of Zx).ts := by
  have nd := sc_periods_of.nd
  delta b_periods_of
  exact (dss_one (ds_ret (de_call G_periods_by (hr.mono (by decide)) (by rfl) Zx.g_periods_by Zx.F_periods_by.kp Zx.b_periods_by (da_cons (de_call G_need_row (hr.mono (by decide)) (by rfl) Zx.g_need_row Zx.F_need_row.kp Zx.b_need_row (da_cons (dv 0) da_nil)) da_nil))))
theorem der_closed_by (Zx : Tx w K mg) (cdv : Value) (A : Around) (outer : List Env) (s : Shared) (H : Hp) (E : XK) (hr : Room 0 (A.deeper (envOfC "closed_by" (defScope s_closed_by) s.heap.objs.size (He.ga K "closed_by") cdv))) :
    PSs (cxOf CX0 Pg w K mg base N_closed_by "closed_by" (defScope s_closed_by) (He.ga K "closed_by") cdv A outer s H E).nox (defBody s_closed_by) (b_closed_by Zx).ts := by
  have nd := sc_closed_by.nd
  delta b_closed_by
  exact (dss_cons (ds_set (i := 1) nd rfl (Or.inl rfl) de_int)
    (dss_cons (ds_while PassesOwn.never (dt_cmpR (O.op_neG hr.units) (de_slice (dv 0) (do_some (dv 1)) do_none) (de_revS (de_slice (dv 0) (do_some (dv 1)) do_none)) (nomark _)) (dss_one (ds_set (i := 1) nd rfl (Or.inl rfl) (de_op O.op_addG (dv 1) de_int))))
    (dss_one (ds_ret (de_op O.op_addG (dv 0) (de_revS (de_slice (dv 0) do_none (do_some (dv 1)))))))))
theorem der_closed (Zx : Tx w K mg) (G_closed_by : FnOk Pg w K mg base CX0 1 (He.ga K "closed_by") Zx.d_closed_by ["row"] (SpD K R_closed_by)) (G_need_row : FnOk Pg w K mg base CX0 3 (He.ga K "need_row") Zx.d_need_row ["row"] (SpD K R_need_row)) (cdv : Value) (A : Around) (outer : List Env) (s : Shared) (H : Hp) (E : XK) (hr : Room 3 (A.deeper (envOfC "closed" (defScope s_closed) s.heap.objs.size (He.ga K "closed") cdv))) :
    PSs (cxOf CX0 Pg w K mg base N_closed "closed" (defScope s_closed) (He.ga K "closed") cdv A outer s H E).nox (defBody s_closed) (b_closed Zx).ts := by
  have nd := sc_closed.nd
  delta b_closed
  exact (dss_one (ds_ret (de_call G_closed_by (hr.mono (by decide)) (by rfl) Zx.g_closed_by Zx.F_closed_by.kp Zx.b_closed_by (da_cons (de_call G_need_row (hr.mono (by decide)) (by rfl) Zx.g_need_row Zx.F_need_row.kp Zx.b_need_row (da_cons (dv 0) da_nil)) da_nil))))
theorem der_law (Zx : Tx w K mg) (G__law_draw : FnOk Pg w K mg base CX0 1 (He.ga K "_law_draw") Zx.d__law_draw ["stream", "many"] (SpC K Φ__law_draw)) (G__law_same : FnOk Pg w K mg base CX0 10 (He.ga K "_law_same") Zx.d__law_same ["found", "due"] (SpD K R__law_same)) (G__law_stream : FnOk Pg w K mg base CX0 1 (He.ga K "_law_stream") Zx.d__law_stream ["script"] (SpN K Φ__law_stream)) (G__law_v_drawn : FnOk Pg w K mg base CX0 3 (He.ga K "_law_v_drawn") Zx.d__law_v_drawn ["stream", "many"] (SpC K Φ__law_v_drawn)) (G__law_v_row : FnOk Pg w K mg base CX0 4 (He.ga K "_law_v_row") Zx.d__law_v_row ["stream", "most"] (SpC K Φ__law_v_row)) (G_closed : FnOk Pg w K mg base CX0 4 (He.ga K "closed") Zx.d_closed ["row"] (SpD K R_closed)) (G_periods_of : FnOk Pg w K mg base CX0 4 (He.ga K "periods_of") Zx.d_periods_of ["row"] (SpD K R_periods_of)) (cdv : Value) (A : Around) (outer : List Env) (s : Shared) (H : Hp) (E : XK) (hr : Room 10 (A.deeper (envOfC "law" (defScope s_law) s.heap.objs.size (He.ga K "law") cdv))) :
    PSs (cxOf CX0 Pg w K mg base N_law "law" (defScope s_law) (He.ga K "law") cdv A outer s H E).nox (defBody s_law) (b_law Zx).ts := by
  have nd := sc_law.nd
  delta b_law
  exact (dss_cons (ds_set (i := 1) nd rfl (Or.inl rfl) (de_callN G__law_stream (hr.mono (by decide)) (by rfl) Zx.g__law_stream Zx.F__law_stream.kp Zx.b__law_stream (da_cons (dv 0) da_nil)))
    (dss_cons (ds_for PassesOwn.never rfl (di_range1 (by rfl) Zx.f_range (da_cons de_int da_nil)) (dg_name (i := 2) nd rfl (Or.inl rfl)) (dss_cons (ds_set (i := 3) nd rfl (Or.inl rfl) (de_callS G__law_draw (hr.mono (by decide)) (by rfl) Zx.g__law_draw Zx.F__law_draw.kp Zx.b__law_draw (da_cons (dv 1) (da_cons de_int da_nil))))
    (dss_cons (ds_set (i := 4) nd rfl (Or.inr rfl) (de_ifExp (dt_cmpR op_lt (dv 3) de_int (nomark _)) (de_callS G__law_v_drawn (hr.mono (by decide)) (by rfl) Zx.g__law_v_drawn Zx.F__law_v_drawn.kp Zx.b__law_v_drawn (da_cons (dv 1) (da_cons (de_callS G__law_draw (hr.mono (by decide)) (by rfl) Zx.g__law_draw Zx.F__law_draw.kp Zx.b__law_draw (da_cons (dv 1) (da_cons de_int da_nil))) da_nil))) (de_callS G__law_v_row (hr.mono (by decide)) (by rfl) Zx.g__law_v_row Zx.F__law_v_row.kp Zx.b__law_v_row (da_cons (dv 1) (da_cons de_int da_nil)))))
    (dss_cons (ds_if (dt_cmpR (O.op_eqG hr.units) (dv 3) de_int (nomark _)) (dss_cons (ds_set (i := 5) nd rfl (Or.inl rfl) (de_callS G__law_v_drawn (hr.mono (by decide)) (by rfl) Zx.g__law_v_drawn Zx.F__law_v_drawn.kp Zx.b__law_v_drawn (da_cons (dv 1) (da_cons (de_callS G__law_draw (hr.mono (by decide)) (by rfl) Zx.g__law_draw Zx.F__law_draw.kp Zx.b__law_draw (da_cons (dv 1) (da_cons de_int da_nil))) da_nil))))
    (dss_one (ds_set (i := 4) nd rfl (Or.inr rfl) (de_op O.op_addG (de_op O.op_addG (de_callS G__law_v_drawn (hr.mono (by decide)) (by rfl) Zx.g__law_v_drawn Zx.F__law_v_drawn.kp Zx.b__law_v_drawn (da_cons (dv 1) (da_cons (de_callS G__law_draw (hr.mono (by decide)) (by rfl) Zx.g__law_draw Zx.F__law_draw.kp Zx.b__law_draw (da_cons (dv 1) (da_cons de_int da_nil))) da_nil))) (dv 5)) (de_revS (dv 5)))))) dss_nil)
    (dss_cons (ds_setLc (i := 6) (own := [("k", 9)]) rfl nd rfl rfl (sw_true rfl rfl rfl (by decide +kernel)) ((di_range1 (by rfl) Zx.f_range (da_cons (de_op O.op_addG (de_callB call_len (by rfl) Zx.f_len (by decide +kernel) (da_cons (dv 4) da_nil)) de_int) da_nil))) (blkOk_by (N := N_law) (sc := defScope s_law) (own := [("k", 9)]) (by decide +kernel)) (fun _ _ _ _ _ => (dg_nameI (i := 9) nd rfl (Or.inl rfl))) (fun _ _ _ _ _ => (dts_one (dt_cmpR (O.op_eqG hr.units) (de_slice (dv 4) (do_some (dv 9)) do_none) (de_revS (de_slice (dv 4) (do_some (dv 9)) do_none)) (nomark _)))) (fun _ _ _ _ _ => (dv 9)))
    (dss_cons (ds_set (i := 7) nd rfl (Or.inl rfl) (de_slice (dv 4) do_none (do_some (de_ix ix_seq (dv 6) de_int (fun _ _ => rfl)))))
    (dss_cons (ds_set (i := 8) nd rfl (Or.inl rfl) (de_op O.op_addG (dv 4) (de_revS (dv 7))))
    (dss_cons (ds_if (dw_pt (dw_or (dt_not (dt_truth (de_call G__law_same (hr.mono (by decide)) (by rfl) Zx.g__law_same Zx.F__law_same.kp Zx.b__law_same (da_cons (de_lst (da_cons (de_call G_closed (hr.mono (by decide)) (by rfl) Zx.g_closed Zx.F_closed.kp Zx.b_closed (da_cons (dv 4) da_nil)) (da_cons (de_callKw G_closed (hr.mono (by decide)) (by rfl) Zx.g_closed Zx.F_closed.kp Zx.kb_closed (dk_cons (dv 4) dk_nil)) (da_cons (de_call G_closed (hr.mono (by decide)) (by rfl) Zx.g_closed Zx.F_closed.kp Zx.b_closed (da_cons (dv 8) da_nil)) da_nil)))) (da_cons (de_lst (da_cons (dv 8) (da_cons (dv 8) (da_cons (dv 8) da_nil)))) da_nil))) (by intro _; rfl))) (dw_or1 (dt_cmpR (O.op_neG hr.units) (dv 8) (de_revS (dv 8)) (nomark _))))) (dss_one (ds_ret de_bl)) dss_nil)
    (dss_cons (ds_if (dt_cmpR op_gt (de_callB call_len (by rfl) Zx.f_len (by decide +kernel) (da_cons (dv 8) da_nil)) de_int (nomark _)) (dss_one ds_continue) dss_nil)
    (dss_cons (ds_if (dt_truth (de_callB (cr_any rfl) (by rfl) Zx.f_any (by decide +kernel) (da_cons (de_lc (own := [("k", 9)]) (by rfl) nd ((di_range1 (by rfl) Zx.f_range (da_cons (de_callB call_len (by rfl) Zx.f_len (by decide +kernel) (da_cons (dv 7) da_nil)) da_nil))) (blkOk_by (N := N_law) (sc := defScope s_law) (own := [("k", 9)]) (by decide +kernel)) (fun _ _ _ _ _ => (dg_nameI (i := 9) nd rfl (Or.inl rfl))) (fun _ _ _ _ _ => dts_nil) (fun _ _ _ _ _ => (de_cmpR (O.op_eqG hr.units) (de_op O.op_addG (dv 4) (de_revS (de_slice (dv 4) do_none (do_some (dv 9))))) (de_revS (de_op O.op_addG (dv 4) (de_revS (de_slice (dv 4) do_none (do_some (dv 9)))))) (nomark _)))) da_nil)) (by intro _; rfl)) (dss_one (ds_ret de_bl)) dss_nil)
    (dss_one (ds_if (dw_pt (dw_and (dt_cmpR (O.op_neG hr.units) (dv 4) de_str (nomark _)) (dw_and (dt_cmpR (O.op_neG hr.units) (dv 7) de_str (nomark _)) (dw_and1 (dt_cmpR (op_notInD (hu65 hr)) (de_op op_sub (de_op O.op_addG (de_op O.op_mulG de_int (de_callB call_len (by rfl) Zx.f_len (by decide +kernel) (da_cons (dv 7) da_nil))) (de_callB call_len (by rfl) Zx.f_len (by decide +kernel) (da_cons (dv 4) da_nil))) (de_op O.op_mulG de_int (de_callB call_len (by rfl) Zx.f_len (by decide +kernel) (da_cons (dv 7) da_nil)))) (de_op O.op_addG (de_call G_periods_of (hr.mono (by decide)) (by rfl) Zx.g_periods_of Zx.F_periods_of.kp Zx.b_periods_of (da_cons (dv 8) da_nil)) (de_lst (da_cons (de_callB call_len (by rfl) Zx.f_len (by decide +kernel) (da_cons (dv 4) da_nil)) da_nil))) (by with_unfolding_all rfl)))))) (dss_one (ds_ret de_bl)) dss_nil))))))))))))
    (dss_one (ds_ret de_bl))))
end
end K18

namespace K18
open PySem PySem.Spec PyProof.Rows L2 Pl
local macro_rules | `(tactic| walk_at "n") => `(tactic| ((conv => whnf); (try dsimp only [List.set_cons_zero, List.set_cons_succ, List.cons_append, List.nil_append])))
section
variable {w : World} {K : PySem.W.Frag} {mg : Str → Option Value}
theorem dec_tx (a b : List Nat) : decide (tx a = tx b) = decide (a = b) := by
  by_cases h : a = b
  · rw [decide_eq_true h, decide_eq_true (tx_inj.mpr h)]
  · rw [decide_eq_false h, decide_eq_false (fun z => h (tx_inj.mp z))]
theorem dec_pal (a : List Nat) : decide (tx a = ⟨(tx a).cps.toList.reverse.toArray⟩) = pal a := dec_tx a a.reverse
theorem cutd (l : List Nat) {i : Int} (h : 0 ≤ i) : cutS (tx l) (some i) none = tx (l.drop i.toNat) := by
  by_cases hi : i ≤ l.length
  · exact cut_drop l h hi
  · unfold cutS HT.sIx
    simp only [tx_len]
    rw [if_neg (by omega)]
    show tx ((l.drop _).take _) = _
    rw [Nat.min_eq_right (by omega), List.drop_of_length_le (Nat.le_refl _), List.drop_of_length_le (by omega)]; simp
theorem sem_periods_by (Zx : Tx w K mg) (ds : List D) (d : D) (h : R_periods_by ds d) : (b_periods_by Zx).w (entry N_periods_by (ds.map W.d) []) { nx := fun _ => d = .non, rt := fun x _ => x = .d d } := by
  obtain ⟨l, rfl, rfl, hl⟩ := h
  have ll : (tx l).length ≤ lineN := by rw [tx_len, lim_line]; omega
  have e0 : ((l.length : Nat) : Int) + 1 - 1 = (l.length : Nat) := by omega
  refine ⟨ll, ⟨by decide, by decide, by show _ ≤ ((l.length : Nat) : Int) + 1; omega, by show ((l.length : Nat) : Int) + 1 < _; omega⟩, ?_⟩
  refine lcF id (fun x => match x with | .int k => decide (l.drop k.toNat = l.take (l.length - k.toNat)) | _ => false) ?_ ?_ ?_
  · rw [rng_len]; show (((l.length : Nat) : Int) + 1 - 1).toNat ≤ _; rw [e0, lim_line]; omega
  · intro x hx R R2 h1 h2
    obtain ⟨k, hk, rfl⟩ := List.mem_map.mp hx
    have hk : k < (((l.length : Nat) : Int) + 1 - 1).toNat := List.mem_range.mp hk
    rw [e0] at hk
    have e1 := cutd l (i := 1 + (k : Int)) (by omega)
    have e2 := cut_take l (i := (l.length : Int) - (1 + (k : Int))) (by omega)
    refine ⟨ll, ll, ll, ?_⟩
    walk_at "n"
    have e3 : decide (cutS (tx l) (some (1 + (k : Int))) none = cutS (tx l) none (some (((tx l).length : Int) - (1 + (k : Int))))) = decide (l.drop (1 + (k : Int)).toNat = l.take (l.length - (1 + (k : Int)).toNat)) := by
      rw [e1, tx_len, e2, dec_tx, show ((l.length : Int) - (1 + (k : Int))).toNat = l.length - (1 + (k : Int)).toNat by omega]
    rw [e3]
    cases hd : decide (l.drop (1 + (k : Int)).toNat = l.take (l.length - (1 + (k : Int)).toNat)) with
    | true => exact h1 hd
    | false => exact h2 hd
  · show W.d (D.lst _) = W.d (D.lst _)
    congr 2
    rw [List.map_id]
    show (rngD 1 (((l.length : Nat) : Int) + 1 - 1).toNat).filter _ = _
    rw [e0, Int.toNat_natCast]
    unfold rngD pers
    rw [List.filter_map, List.filter_map, List.map_map]; rfl
theorem sem_periods_of (Zx : Tx w K mg) (ds : List D) (d : D) (h : R_periods_of ds d) : (b_periods_of Zx).w (entry N_periods_of (ds.map W.d) []) { nx := fun _ => d = .non, rt := fun x _ => x = .d d } := by
  obtain ⟨l, rfl, rfl, hl, al⟩ := h
  exact ⟨_, ⟨l, rfl, rfl, al, hl⟩, _, ⟨l, rfl, rfl, hl⟩, rfl⟩
theorem sem_closed (Zx : Tx w K mg) (ds : List D) (d : D) (h : R_closed ds d) : (b_closed Zx).w (entry N_closed (ds.map W.d) []) { nx := fun _ => d = .non, rt := fun x _ => x = .d d } := by
  obtain ⟨l, rfl, rfl, hl, al⟩ := h
  exact ⟨_, ⟨l, rfl, rfl, al, by omega⟩, _, ⟨l, rfl, rfl, hl⟩, rfl⟩
theorem sem_closed_by (Zx : Tx w K mg) (ds : List D) (d : D) (h : R_closed_by ds d) : (b_closed_by Zx).w (entry N_closed_by (ds.map W.d) []) { nx := fun _ => d = .non, rt := fun x _ => x = .d d } := by
  obtain ⟨l, rfl, rfl, hl⟩ := h
  have ll : (tx l).length ≤ lineN := by rw [tx_len, lim_line]; omega
  refine ⟨fun m Γ => ∃ b : Nat, Γ = ⟨[some (.d (dT l)), some (dI b)], []⟩ ∧ b ≤ fst l ∧ m = fst l - b, fst l, ⟨0, rfl, Nat.zero_le _, rfl⟩, ?_⟩
  rintro m _ ⟨b, rfl, hb, rfl⟩
  have e1 := cutd l (i := (b : Int)) (by omega)
  rw [Int.toNat_natCast] at e1
  refine ⟨ll, ll, by rw [e1, tx_len, List.length_drop, lim_line]; omega, ?_⟩
  walk_at "n"
  have e2 : decide (cutS (tx l) (some (b : Int)) none = ⟨(cutS (tx l) (some (b : Int)) none).cps.toList.reverse.toArray⟩) = pal (l.drop b) := by rw [e1]; exact dec_pal _
  rw [e2]
  by_cases hbf : b = fst l
  · subst hbf
    rw [fst_pal]
    have e3 := cut_take l (i := (fst l : Int)) (by omega)
    rw [Int.toNat_natCast] at e3
    show (tx l).length ≤ lineN ∧ (cutS (tx l) none (some (fst l : Int))).length ≤ lineN ∧ (tx l).length + (⟨(cutS (tx l) none (some (fst l : Int))).cps.toList.reverse.toArray⟩ : Str).length ≤ lineN ∧ W.d (D.str (tx l ++ ⟨(cutS (tx l) none (some (fst l : Int))).cps.toList.reverse.toArray⟩)) = W.d (dT (close l))
    rw [e3]
    have e4 : (⟨(tx (l.take (fst l))).cps.toList.reverse.toArray⟩ : Str) = tx (l.take (fst l)).reverse := rfl
    rw [e4, tx_app]
    refine ⟨ll, ?_, ?_, rfl⟩
    · rw [tx_len, List.length_take, lim_line]; omega
    · rw [tx_len, tx_len, List.length_reverse, List.length_take, lim_line]; omega
  · rw [fst_least l b (by omega)]
    exact again0 (c := []) (g := []) (l' := [some (.d (dT l)), some (dI ((b : Int) + 1))]) (.keep trivial (.keep trivial .nil)) (Nat.le_refl _) (fun x hx => by cases hx) ⟨fst l - (b + 1), by omega, b + 1, rfl, by omega, rfl⟩
end
end K18

namespace K18
open PySem PySem.Spec PyProof.Rows L2 Pl
local macro_rules | `(tactic| walk_at "n") => `(tactic| ((conv => whnf); (try dsimp only [List.set_cons_zero, List.set_cons_succ, List.cons_append, List.nil_append])))
section
variable {w : World} {K : PySem.W.Frag} {mg : Str → Option Value}
def b_rest2 : St K :=
  (S.seq (S.ite (T.or (T.not (T.tru (E.call R__law_same (A.cons (E.lst (A.cons (E.call R_closed (A.cons (E.var 4) A.nil)) (A.cons (E.call R_closed (A.cons (E.var 4) A.nil)) (A.cons (E.call R_closed (A.cons (E.var 8) A.nil)) A.nil)))) (A.cons (E.lst (A.cons (E.var 8) (A.cons (E.var 8) (A.cons (E.var 8) A.nil)))) A.nil))))) (T.cmp (E.op O.ne (E.var 8) (E.revS (E.var 8))))) (S.ret (E.bl false)) S.nil)
    (S.seq (S.ite (T.cmp (E.op O.gt (E.cb C.len (A.cons (E.var 8) A.nil)) (E.int 100))) S.cont S.nil)
    (S.seq (S.ite (T.tru (E.cb C.any (A.cons (E.lc [9] (I.range1 (A.cons (E.cb C.len (A.cons (E.var 7) A.nil)) A.nil)) (Gi.name 9 (by decide)) T.yes (E.op O.eq (E.op O.add (E.var 4) (E.revS (E.slice (E.var 4) OO.none (OO.part (E.var 9))))) (E.revS (E.op O.add (E.var 4) (E.revS (E.slice (E.var 4) OO.none (OO.part (E.var 9)))))))) A.nil))) (S.ret (E.bl false)) S.nil)
    (S.ite (T.and (T.cmp (E.op O.ne (E.var 4) (E.str (PySem.Str.ofString "")))) (T.and (T.cmp (E.op O.ne (E.var 7) (E.str (PySem.Str.ofString "")))) (T.cmp (E.op O.notInL (E.op O.sub (E.op O.add (E.op O.mul (E.int 2) (E.cb C.len (A.cons (E.var 7) A.nil))) (E.cb C.len (A.cons (E.var 4) A.nil))) (E.op O.mul (E.int 2) (E.cb C.len (A.cons (E.var 7) A.nil)))) (E.op O.add (E.call R_periods_of (A.cons (E.var 8) A.nil)) (E.lst (A.cons (E.cb C.len (A.cons (E.var 4) A.nil)) A.nil))))))) (S.ret (E.bl false)) S.nil))))
def b_rest : St K :=
  (S.seq (S.asg (E.lc [9] (I.range1 (A.cons (E.op O.add (E.cb C.len (A.cons (E.var 4) A.nil)) (E.int 1)) A.nil)) (Gi.name 9 (by decide)) (T.cmp (E.op O.eq (E.slice (E.var 4) (OO.part (E.var 9)) OO.none) (E.revS (E.slice (E.var 4) (OO.part (E.var 9)) OO.none)))) (E.var 9)) (G.name 6))
    (S.seq (S.asg (E.slice (E.var 4) OO.none (OO.part (E.op O.ix (E.var 6) (E.int 0)))) (G.name 7))
    (S.seq (S.asg (E.op O.add (E.var 4) (E.revS (E.var 7))) (G.name 8))
    (b_rest2 (K := K)))))
theorem pers_len (l : List Nat) : (pers l).length ≤ l.length := by
  unfold pers
  refine Nat.le_trans (List.length_filter_le _ _) ?_
  rw [List.length_map, List.length_range]; exact Nat.le_refl _
theorem sem_rest2 {N : En} {row : List Nat} {x0 x2 x3 x5 x6 x9 : Option W} {ns : List Int} {g c h : Int} (ar : Ab row) (lr : row.length ≤ 100)
    (hnx : ∀ x9, N.nx ⟨[x0, some (.cel 1), x2, x3, some (.d (dT row)), x5, x6, some (.d (dT (row.take (fst row)))), some (.d (dT (close row))), x9], ss ns g c h⟩)
    (hct : ∀ x9, N.ct ⟨[x0, some (.cel 1), x2, x3, some (.d (dT row)), x5, x6, some (.d (dT (row.take (fst row)))), some (.d (dT (close row))), x9], ss ns g c h⟩) :
    (b_rest2 (K := K)).w ⟨[x0, some (.cel 1), x2, x3, some (.d (dT row)), x5, x6, some (.d (dT (row.take (fst row)))), some (.d (dT (close row))), x9], ss ns g c h⟩ N := by
  have ac := close_ab ar
  have lc := close_len row
  have dd : ∀ x : Str, decide (x = x) = true := fun x => decide_eq_true rfl
  have lf := fst_le row
  have la : (row.take (fst row)).length = fst row := by rw [List.length_take]; have := fst_le row; omega
  refine ⟨_, ⟨row, rfl, rfl, by omega, ar⟩, _, ⟨row, rfl, rfl, by omega, ar⟩, dT (close row), ⟨close row, rfl, by rw [close_close], by omega, ac⟩, (by decide : 3 ≤ lineN), (by decide : 3 ≤ lineN), .bl true, ⟨.lst [dT (close row), dT (close row), dT (close row)], rfl, rfl, (by decide : 3 ≤ lineN), fun d hd => ?_⟩, ?_⟩
  · simp at hd; subst hd; trivial
  refine ⟨by rw [tx_len, lim_line]; omega, ?_⟩
  walk_at "n"
  have e1 : decide (tx (close row) = ⟨(tx (close row)).cps.toList.reverse.toArray⟩) = true := by rw [dec_pal]; exact close_pal row
  rw [e1]
  refine ⟨by rw [tx_len, lim_line]; omega, ?_⟩
  walk_at "n"
  by_cases h100 : (100 : Int) < ((tx (close row)).length : Nat)
  · rw [decide_eq_true h100]; exact hct _
  rw [decide_eq_false h100]
  refine ⟨by rw [tx_len, lim_line]; omega, ⟨by show _ ≤ (((row.take (fst row)).length : Nat) : Int); omega, by show (((row.take (fst row)).length : Nat) : Int) < _; omega⟩, ?_⟩
  refine lcI (fun _ => .bl false) ?_ ?_ ?_
  · rw [rng_len]; show ((((row.take (fst row)).length : Nat) : Int)).toNat ≤ _; rw [lim_line]; omega
  · intro x hx R k
    obtain ⟨a, ha, rfl⟩ := List.mem_map.mp hx
    have ha : a < ((((row.take (fst row)).length : Nat) : Int)).toNat := List.mem_range.mp ha
    rw [la, Int.toNat_natCast] at ha
    have e2 := cut_take row (i := 0 + (a : Int)) (by omega)
    rw [show (0 + (a : Int)).toNat = a by omega] at e2
    show (tx row).length ≤ lineN ∧ (cutS (tx row) none (some (0 + (a : Int)))).length ≤ lineN ∧ (tx row).length + (⟨(cutS (tx row) none (some (0 + (a : Int)))).cps.toList.reverse.toArray⟩ : Str).length ≤ lineN ∧ (tx row).length ≤ lineN ∧ (cutS (tx row) none (some (0 + (a : Int)))).length ≤ lineN ∧ (tx row).length + (⟨(cutS (tx row) none (some (0 + (a : Int)))).cps.toList.reverse.toArray⟩ : Str).length ≤ lineN ∧ (tx row ++ (⟨(cutS (tx row) none (some (0 + (a : Int)))).cps.toList.reverse.toArray⟩ : Str)).length ≤ lineN ∧
      R (.d (.bl (decide (tx row ++ (⟨(cutS (tx row) none (some (0 + (a : Int)))).cps.toList.reverse.toArray⟩ : Str) = ⟨(tx row ++ (⟨(cutS (tx row) none (some (0 + (a : Int)))).cps.toList.reverse.toArray⟩ : Str)).cps.toList.reverse.toArray⟩)))) _
    rw [e2]
    have e4 : (⟨(tx (row.take a)).cps.toList.reverse.toArray⟩ : Str) = tx (row.take a).reverse := rfl
    rw [e4, tx_app, dec_pal, close_at, fst_least row a ha]
    have l1 : (tx row).length ≤ lineN := by rw [tx_len, lim_line]; omega
    have l2 : (tx (row.take a)).length ≤ lineN := by rw [tx_len, List.length_take, lim_line]; omega
    have l3 : (tx row).length + (tx (row.take a).reverse).length ≤ lineN := by rw [tx_len, tx_len, List.length_reverse, List.length_take, lim_line]; omega
    exact ⟨l1, l2, l3, l1, l2, l3, by rw [tx_len, List.length_append, List.length_reverse, List.length_take, lim_line]; omega, k⟩
  refine ⟨List.replicate (rngD 0 ((((row.take (fst row)).length : Nat) : Int)).toNat).length false, ?_, ?_⟩
  · show asBls (List.map _ (rngD 0 ((((row.take (fst row)).length : Nat) : Int)).toNat)) = _
    rw [List.map_const', ← asBls_map, List.map_replicate]
  have e5 : (List.replicate (rngD 0 ((((row.take (fst row)).length : Nat) : Int)).toNat).length false).any id = false := by simp
  rw [e5]
  walk_at "n"
  by_cases hr0 : tx row = Str.ofString ""
  · rw [decide_eq_true hr0]; exact hnx _
  rw [decide_eq_false hr0]
  walk_at "n"
  by_cases ha0 : tx (row.take (fst row)) = Str.ofString ""
  · rw [decide_eq_true ha0]; exact hnx _
  rw [decide_eq_false ha0]
  have l1 : (tx row).length ≤ lineN := by rw [tx_len, lim_line]; omega
  have l2 : (tx (row.take (fst row))).length ≤ lineN := by rw [tx_len, la, lim_line]; omega
  have cm : CMulW 2 (((tx (row.take (fst row))).length : Nat) : Int) := cmul_ok (by rw [tx_len, la]; omega) (by decide)
  refine ⟨l2, cm, l1, l2, cm, _, ⟨close row, rfl, rfl, by omega, ac⟩, l1, (by decide : 1 ≤ lineN), ?_⟩
  have pl := pers_len (close row)
  have eL : (pers (close row)).map D.int ++ [D.int (((tx row).length : Nat) : Int)] = (pers (close row) ++ [(((tx row).length : Nat) : Int)]).map D.int := by simp
  refine ⟨by rw [List.length_map, lim_line]; show _ + 1 ≤ _; omega, .int (2 * (((tx (row.take (fst row))).length : Nat) : Int) + (((tx row).length : Nat) : Int) - 2 * (((tx (row.take (fst row))).length : Nat) : Int)), (pers (close row) ++ [(((tx row).length : Nat) : Int)]).map PyData.int, rfl, ?_, rfl, shaped_ints _, ?_⟩
  · show O.pyD (.lst ((pers (close row)).map D.int ++ [D.int (((tx row).length : Nat) : Int)])) = _
    rw [eL]; exact pyD_ints _
  have e6 : (((pers (close row) ++ [(((tx row).length : Nat) : Int)]).map PyData.int).any fun z => PyData.eqv z (.int (2 * (((tx (row.take (fst row))).length : Nat) : Int) + (((tx row).length : Nat) : Int) - 2 * (((tx (row.take (fst row))).length : Nat) : Int)))) = true := by
    rw [List.any_eq_true]
    refine ⟨.int (((tx row).length : Nat) : Int), List.mem_map.mpr ⟨_, List.mem_append_right _ List.mem_cons_self, rfl⟩, ?_⟩
    rw [show 2 * (((tx (row.take (fst row))).length : Nat) : Int) + (((tx row).length : Nat) : Int) - 2 * (((tx (row.take (fst row))).length : Nat) : Int) = (((tx row).length : Nat) : Int) by omega]
    simp [PyData.eqv]
  rw [e6]
  exact hnx _
theorem tails_of (row : List Nat) : ∃ T : List Int, List.map id ((rngD 0 (((row.length : Nat) : Int) + 1).toNat).filter fun x => match x with | .int k => pal (row.drop k.toNat) | _ => false) = T.map D.int ∧ atI (T.map D.int) 0 = some (.int (fst row : Nat)) := by
  refine ⟨((List.range (row.length + 1)).filter fun k => pal (row.drop k)).map fun (k : Nat) => (0 + (k : Int)), ?_, ?_⟩
  · rw [List.map_id, show (((row.length : Nat) : Int) + 1).toNat = row.length + 1 by omega]
    unfold rngD
    rw [List.filter_map, List.map_map]
    congr 1
    refine List.filter_congr fun k _ => ?_
    show pal (row.drop (0 + (k : Int)).toNat) = _
    rw [show (0 + (k : Int)).toNat = k by omega]
  · have key : ∀ (n : Nat), fst row < n → ((List.range n).filter fun k => pal (row.drop k))[0]? = some (fst row) := by
      intro n
      induction n with
      | zero => intro h; omega
      | succ n ih =>
        intro h
        rw [List.range_succ, List.filter_append]
        by_cases hn : fst row < n
        · have := ih hn
          rw [List.getElem?_append_left (List.getElem?_eq_some_iff.mp this).1]; exact this
        · have e : n = fst row := by omega
          have z : (List.range n).filter (fun k => pal (row.drop k)) = [] := by
            rw [List.filter_eq_nil_iff]
            intro k hk
            rw [fst_least row k (by have := List.mem_range.mp hk; omega)]; decide
          rw [z, List.nil_append]
          subst e
          simp [fst_pal]
    have k2 := key (row.length + 1) (by have := fst_le row; omega)
    have hl := (List.getElem?_eq_some_iff.mp k2).1
    unfold atI
    rw [List.length_map, List.length_map, ixN_in (by omega) (by omega)]
    show ((List.map _ _).map _)[0]? = _
    rw [List.getElem?_map, List.getElem?_map, k2]
    show some (D.int (0 + (fst row : Int))) = _
    rw [show (0 + (fst row : Int)) = fst row by omega]
theorem sem_rest {N : En} {row : List Nat} {x0 x2 x3 x5 x6 x7 x8 x9 : Option W} {ns : List Int} {g c h : Int} (ar : Ab row) (lr : row.length ≤ 100)
    (hnx : ∀ x5 x6 x7 x8 x9, N.nx ⟨[x0, some (.cel 1), x2, x3, some (.d (dT row)), x5, x6, x7, x8, x9], ss ns g c h⟩)
    (hct : ∀ x5 x6 x7 x8 x9, N.ct ⟨[x0, some (.cel 1), x2, x3, some (.d (dT row)), x5, x6, x7, x8, x9], ss ns g c h⟩) :
    (b_rest (K := K)).w ⟨[x0, some (.cel 1), x2, x3, some (.d (dT row)), x5, x6, x7, x8, x9], ss ns g c h⟩ N := by
  have lf := fst_le row
  have l1 : (tx row).length ≤ lineN := by rw [tx_len, lim_line]; omega
  have la : (row.take (fst row)).length = fst row := by rw [List.length_take]; omega
  refine ⟨l1, ⟨by show _ ≤ ((row.length : Nat) : Int) + 1; omega, by show ((row.length : Nat) : Int) + 1 < _; omega⟩, ?_⟩
  refine lcF id (fun x => match x with | .int k => pal (row.drop k.toNat) | _ => false) ?_ ?_ ?_
  · rw [rng_len]; show (((row.length : Nat) : Int) + 1).toNat ≤ _; rw [lim_line]; omega
  · intro x hx R R2 h1 h2
    obtain ⟨k, hk, rfl⟩ := List.mem_map.mp hx
    have e1 := cutd row (i := 0 + (k : Int)) (by omega)
    refine ⟨l1, l1, by rw [e1, tx_len, List.length_drop, lim_line]; omega, ?_⟩
    walk_at "n"
    have e2 : decide (cutS (tx row) (some (0 + (k : Int))) none = ⟨(cutS (tx row) (some (0 + (k : Int))) none).cps.toList.reverse.toArray⟩) = pal (row.drop (0 + (k : Int)).toNat) := by rw [e1]; exact dec_pal _
    rw [e2]
    cases hd : pal (row.drop (0 + (k : Int)).toNat) with
    | true => exact h1 hd
    | false => exact h2 hd
  · obtain ⟨T, eT, hT⟩ := tails_of row
    have e1 := cut_take row (i := (fst row : Int)) (by omega)
    rw [Int.toNat_natCast] at e1
    have go : ∀ (s1 s2 : Str) x6, s1 = tx (row.take (fst row)) → s2 = tx (close row) → (b_rest2 (K := K)).w ⟨[x0, some (.cel 1), x2, x3, some (.d (dT row)), x5, x6, some (.d (.str s1)), some (.d (.str s2)), x9], ss ns g c h⟩ N := by
      rintro _ _ x6 rfl rfl
      exact sem_rest2 ar lr (fun _ => hnx _ _ _ _ _) (fun _ => hct _ _ _ _ _)
    have go2 : ∀ d : D, d = .lst (T.map D.int) → (S.seq (S.asg (E.slice (E.var 4) OO.none (OO.part (E.op O.ix (E.var 6) (E.int 0)))) (G.name 7)) (S.seq (S.asg (E.op O.add (E.var 4) (E.revS (E.var 7))) (G.name 8)) (b_rest2 (K := K)))).w ⟨[x0, some (.cel 1), x2, x3, some (.d (dT row)), x5, some (.d d), x7, x8, x9], ss ns g c h⟩ N := by
      rintro _ rfl
      refine ⟨_, hT, l1, ?_⟩
      walk_at "n"
      have e4 : (⟨(tx (row.take (fst row))).cps.toList.reverse.toArray⟩ : Str) = tx (row.take (fst row)).reverse := rfl
      rw [e1, e4]
      refine ⟨by rw [tx_len, la, lim_line]; omega, ?_⟩
      walk_at "n"
      rw [tx_app]
      refine ⟨by rw [tx_len, tx_len, List.length_reverse, la, lim_line]; omega, ?_⟩
      dsimp only [G.name, List.set_cons_zero, List.set_cons_succ]
      exact go _ _ _ rfl rfl
    exact go2 _ (congrArg D.lst eT)
end
end K18

namespace K18
open PySem PySem.Spec PyProof.Rows L2 Pl
local macro_rules | `(tactic| walk_at "n") => `(tactic| ((conv => whnf); (try dsimp only [List.set_cons_zero, List.set_cons_succ, List.cons_append, List.nil_append])))
section
variable {w : World} {K : PySem.W.Frag} {mg : Str → Option Value}
theorem sem_law (Zx : Tx w K mg) (ds : List D) (d : D) (h : R_law ds d) : (b_law Zx).w (entry N_law (ds.map W.d) []) { nx := fun _ => d = .non, rt := fun x _ => x = .d d } := by
  obtain ⟨ns, rfl, rfl⟩ := h
  have hlim : lim = 1099511627776 := by decide
  refine ⟨rfl, ns, rfl, ⟨by decide, by decide⟩, fun i Γ => ∃ x0 x2 x3 x4 x5 x6 x7 x8 x9 ns g c h, Γ = ⟨[x0, some (.cel 1), x2, x3, x4, x5, x6, x7, x8, x9], ss ns g c h⟩ ∧ Sm (3000 * i) (ss ns g c h), ⟨_, _, _, _, _, _, _, _, _, _, _, _, _, rfl, sm0 ns⟩, ?_, ?_⟩
  · rintro i x _ hx ⟨x0, x2, x3, x4, x5, x6, x7, x8, x9, ns, g, c, h, rfl, sm⟩
    have hi : i < 12 := by have := (List.getElem?_eq_some_iff.mp hx).1; rw [rng_len] at this; exact this
    have fin : ∀ y2 y3 row y5 y6 y7 y8 y9 ns g c h, Sm (3000 * i + 2000) (ss ns g c h) → S.again 2 (fun Γ => ∃ x0 x2 x3 x4 x5 x6 x7 x8 x9 ns g c h, Γ = ⟨[x0, some (.cel 1), x2, x3, x4, x5, x6, x7, x8, x9], ss ns g c h⟩ ∧ Sm (3000 * (i + 1)) (ss ns g c h)) ⟨[x0, some (.cel 1), y2, y3, row, y5, y6, y7, y8, y9], ss ns g c h⟩ := fun y2 y3 row y5 y6 y7 y8 y9 ns g c h sm =>
      again0 (c := ss ns g c h) (g := []) (.drop (.keep (x := .cel 1) (by show 1 < 2; decide) (.drop (.drop (.drop (.drop (.drop (.drop (.drop (.drop .nil)))))))))) (Nat.le_refl 2) (ss_below _ _ _ _) ⟨none, none, none, none, none, none, none, none, none, ns, g, c, h, rfl, sm.mono (by omega)⟩
    refine ⟨3000 * i, _, [], rfl, sm, bel1d, 3000 * i, 4, rfl, sm, by omega, by decide, by decide, ?_⟩
    rintro way _ w0 w1 ⟨ns, g, c, h, rfl, hq⟩
    have sm : Sm (3000 * i + 1) (ss ns g c h) := ⟨_, _, _, _, rfl, hq⟩
    have rest : ∀ (N : En) (row : List Nat) y2 y5 y6 y7 y8 y9 ns g c h, Sm (3000 * i + 2000) (ss ns g c h) → Ab row → row.length ≤ 100 →
        (∀ Γ, S.again 2 (fun Γ => ∃ x0 x2 x3 x4 x5 x6 x7 x8 x9 ns g c h, Γ = ⟨[x0, some (.cel 1), x2, x3, x4, x5, x6, x7, x8, x9], ss ns g c h⟩ ∧ Sm (3000 * (i + 1)) (ss ns g c h)) Γ → N.nx Γ) →
        (∀ Γ, S.again 2 (fun Γ => ∃ x0 x2 x3 x4 x5 x6 x7 x8 x9 ns g c h, Γ = ⟨[x0, some (.cel 1), x2, x3, x4, x5, x6, x7, x8, x9], ss ns g c h⟩ ∧ Sm (3000 * (i + 1)) (ss ns g c h)) Γ → N.ct Γ) →
        (b_rest (K := K)).w ⟨[x0, some (.cel 1), y2, some (dI way), some (.d (dT row)), y5, y6, y7, y8, y9], ss ns g c h⟩ N := fun N row y2 y5 y6 y7 y8 y9 ns g c h sm ar lr hn hc =>
      sem_rest ar lr (fun _ _ _ _ _ => hn _ (fin _ _ _ _ _ _ _ _ _ _ _ _ sm)) (fun _ _ _ _ _ => hc _ (fin _ _ _ _ _ _ _ _ _ _ _ _ sm))
    walk_at "n"
    by_cases h2 : way < 2
    · rw [decide_eq_true h2]
      refine ⟨_, _, [], rfl, sm, bel1d, _, 51, rfl, sm, by omega, by decide, by decide, ?_⟩
      rintro r _ r0 r1 ⟨ns, g, c, h, rfl, hq⟩
      have sm : Sm (3000 * i + 2) (ss ns g c h) := ⟨_, _, _, _, rfl, hq⟩
      refine ⟨_, _, [], rfl, sm, bel1d, _, r, rfl, sm, r0, by omega, by omega, ?_⟩
      rintro row _ ar lr ⟨ns, g, c, h, rfl, hq⟩
      have sm : Sm (3000 * i + 2 + r.toNat) (ss ns g c h) := ⟨_, _, _, _, rfl, hq⟩
      walk_at "n"
      rw [decide_eq_false (show ¬ way = 3 by omega)]
      dsimp only [S.nil]
      exact rest _ row _ _ _ _ _ _ _ _ _ _ (sm.mono (by omega)) ar (by omega) (fun _ h => h) (fun _ h => h)
    · rw [decide_eq_false h2]
      refine ⟨_, _, [], rfl, sm, bel1d, _, 50, rfl, sm, by decide, by decide, by omega, ?_⟩
      rintro row _ ar lr ⟨ns, g, c, h, rfl, hq⟩
      have sm : Sm (3000 * i + 1 + 510) (ss ns g c h) := ⟨_, _, _, _, rfl, hq⟩
      have lr : row.length ≤ 50 := lr
      walk_at "n"
      by_cases h3 : way = 3
      · rw [decide_eq_true h3]
        refine ⟨_, _, [], rfl, sm, bel1d, _, 20, rfl, sm, by omega, by decide, by decide, ?_⟩
        rintro r _ r0 r1 ⟨ns, g, c, h, rfl, hq⟩
        have sm : Sm (3000 * i + 512) (ss ns g c h) := ⟨_, _, _, _, rfl, hq⟩
        refine ⟨_, _, [], rfl, sm, bel1d, _, r, rfl, sm, r0, by omega, by omega, ?_⟩
        rintro half _ ah lh ⟨ns, g, c, h, rfl, hq⟩
        have sm : Sm (3000 * i + 512 + r.toNat) (ss ns g c h) := ⟨_, _, _, _, rfl, hq⟩
        refine ⟨_, _, [], rfl, sm, bel1d, _, 9, rfl, sm, by omega, by decide, by decide, ?_⟩
        rintro q _ q0 q1 ⟨ns, g, c, h, rfl, hq⟩
        have sm : Sm (3000 * i + 512 + r.toNat + 1) (ss ns g c h) := ⟨_, _, _, _, rfl, hq⟩
        refine ⟨_, _, [], rfl, sm, bel1d, _, q, rfl, sm, q0, by omega, by omega, ?_⟩
        rintro lead _ al ll ⟨ns, g, c, h, rfl, hq⟩
        have sm : Sm (3000 * i + 512 + r.toNat + 1 + q.toNat) (ss ns g c h) := ⟨_, _, _, _, rfl, hq⟩
        refine ⟨by rw [tx_len, tx_len, lim_line]; omega, by rw [tx_len, lim_line]; omega, ?_⟩
        have e4 : (⟨(tx half).cps.toList.reverse.toArray⟩ : Str) = tx half.reverse := rfl
        rw [e4, tx_app]
        refine ⟨by rw [tx_len, tx_len, List.length_append, List.length_reverse, lim_line]; omega, ?_⟩
        rw [tx_app]
        dsimp only [G.name, List.set_cons_zero, List.set_cons_succ]
        exact rest _ (lead ++ half ++ half.reverse) _ _ _ _ _ _ _ _ _ _ (sm.mono (by omega)) ((al.app ah).app ah.rev) (by rw [List.length_append, List.length_append, List.length_reverse]; omega) (fun _ h => h) (fun _ h => h)
      · rw [decide_eq_false h3]
        dsimp only [S.nil]
        exact rest _ row _ _ _ _ _ _ _ _ _ _ (sm.mono (by omega)) ar (by omega) (fun _ h => h) (fun _ h => h)
  · rintro _ ⟨x0, x2, x3, x4, x5, x6, x7, x8, x9, ns, g, c, h, rfl, sm⟩
    rfl
end
end K18

namespace K18
open PySem PySem.Spec PyProof.Rows L2 Pl
section
variable {Pg : Program} {w : World} {K : PySem.W.Frag} {mg : Str → Option Value} {base : Heap}
theorem len__law_stream (ws : List W) (κ : WQ) (h : Pl.Φ__law_stream ws κ) : ws.length = 1 := by first | (obtain ⟨_, rfl, _⟩ := h; rfl) | (obtain ⟨_, _, rfl, _⟩ := h; rfl) | (obtain ⟨_, _, _, rfl, _⟩ := h; rfl) | (obtain ⟨_, _, _, _, rfl, _⟩ := h; rfl) | (obtain ⟨_, _, _, _, _, rfl, _⟩ := h; rfl)
theorem ok__law_stream (Zx : Tx w K mg) : FnOk Pg w K mg base CX0 1 (He.ga K "_law_stream") Zx.d__law_stream ["script"] (SpN K Φ__law_stream) := fn_ok Zx.F__law_stream sc__law_stream (len_N len__law_stream) (b__law_stream Zx) (fun cdv A outer s H E hr => der__law_stream Zx  cdv A outer s H E hr) (body_N N__law_stream _ (Pl.sem_stream))
theorem len__law_draw (ws : List W) (cs : List Cell) (κ : WQ) (h : Pl.Φ__law_draw ws cs κ) : ws.length = 2 := by first | (obtain ⟨_, rfl, _⟩ := h; rfl) | (obtain ⟨_, _, rfl, _⟩ := h; rfl) | (obtain ⟨_, _, _, rfl, _⟩ := h; rfl) | (obtain ⟨_, _, _, _, rfl, _⟩ := h; rfl) | (obtain ⟨_, _, _, _, _, rfl, _⟩ := h; rfl)
theorem ok__law_draw (Zx : Tx w K mg) : FnOk Pg w K mg base CX0 1 (He.ga K "_law_draw") Zx.d__law_draw ["stream", "many"] (SpC K Φ__law_draw) := fn_ok Zx.F__law_draw sc__law_draw (len_C len__law_draw) (b__law_draw Zx) (fun cdv A outer s H E hr => der__law_draw Zx  cdv A outer s H E hr) (body_C N__law_draw _ (Pl.sem_draw))
theorem len__law_pick (ws : List W) (cs : List Cell) (κ : WQ) (h : Pl.Φ__law_pick ws cs κ) : ws.length = 2 := by first | (obtain ⟨_, rfl, _⟩ := h; rfl) | (obtain ⟨_, _, rfl, _⟩ := h; rfl) | (obtain ⟨_, _, _, rfl, _⟩ := h; rfl) | (obtain ⟨_, _, _, _, rfl, _⟩ := h; rfl) | (obtain ⟨_, _, _, _, _, rfl, _⟩ := h; rfl)
theorem ok__law_pick (Zx : Tx w K mg) : FnOk Pg w K mg base CX0 2 (He.ga K "_law_pick") Zx.d__law_pick ["stream", "things"] (SpC K Φ__law_pick) := fn_ok Zx.F__law_pick sc__law_pick (len_C len__law_pick) (b__law_pick Zx) (fun cdv A outer s H E hr => der__law_pick Zx (ok__law_draw Zx) cdv A outer s H E hr) (body_C N__law_pick _ (Pl.sem_pick))
theorem len__law_v_drawn (ws : List W) (cs : List Cell) (κ : WQ) (h : Pl.Φ__law_v_drawn ws cs κ) : ws.length = 2 := by first | (obtain ⟨_, rfl, _⟩ := h; rfl) | (obtain ⟨_, _, rfl, _⟩ := h; rfl) | (obtain ⟨_, _, _, rfl, _⟩ := h; rfl) | (obtain ⟨_, _, _, _, rfl, _⟩ := h; rfl) | (obtain ⟨_, _, _, _, _, rfl, _⟩ := h; rfl)
theorem ok__law_v_drawn (Zx : Tx w K mg) : FnOk Pg w K mg base CX0 3 (He.ga K "_law_v_drawn") Zx.d__law_v_drawn ["stream", "many"] (SpC K Φ__law_v_drawn) := fn_ok Zx.F__law_v_drawn sc__law_v_drawn (len_C len__law_v_drawn) (b__law_v_drawn Zx) (fun cdv A outer s H E hr => der__law_v_drawn Zx (ok__law_pick Zx) cdv A outer s H E hr) (body_C N__law_v_drawn _ (Pl.sem__law_v_drawn))
theorem len__law_v_spread (ds : List D) (d : D) (h : Pl.R__law_v_spread ds d) : ds.length = 3 := by first | (obtain ⟨_, rfl, _⟩ := h; rfl) | (obtain ⟨_, _, rfl, _⟩ := h; rfl) | (obtain ⟨_, _, _, rfl, _⟩ := h; rfl) | (obtain ⟨_, _, _, _, rfl, _⟩ := h; rfl) | (obtain ⟨_, _, _, _, _, rfl, _⟩ := h; rfl)
theorem ok__law_v_spread (Zx : Tx w K mg) : FnOk Pg w K mg base CX0 1 (He.ga K "_law_v_spread") Zx.d__law_v_spread ["p", "q", "r"] (SpD K R__law_v_spread) := fn_ok Zx.F__law_v_spread sc__law_v_spread (len_D len__law_v_spread) (b__law_v_spread Zx) (fun cdv A outer s H E hr => der__law_v_spread Zx  cdv A outer s H E hr) (body_D N__law_v_spread _ (Pl.sem__law_v_spread))
theorem len__law_v_even (ws : List W) (cs : List Cell) (κ : WQ) (h : Pl.Φ__law_v_even ws cs κ) : ws.length = 2 := by first | (obtain ⟨_, rfl, _⟩ := h; rfl) | (obtain ⟨_, _, rfl, _⟩ := h; rfl) | (obtain ⟨_, _, _, rfl, _⟩ := h; rfl) | (obtain ⟨_, _, _, _, rfl, _⟩ := h; rfl) | (obtain ⟨_, _, _, _, _, rfl, _⟩ := h; rfl)
theorem ok__law_v_even (Zx : Tx w K mg) : FnOk Pg w K mg base CX0 2 (He.ga K "_law_v_even") Zx.d__law_v_even ["stream", "most"] (SpC K Φ__law_v_even) := fn_ok Zx.F__law_v_even sc__law_v_even (len_C len__law_v_even) (b__law_v_even Zx) (fun cdv A outer s H E hr => der__law_v_even Zx (ok__law_draw Zx) (ok__law_v_spread Zx) cdv A outer s H E hr) (body_C N__law_v_even _ (Pl.sem__law_v_even))
theorem len__law_v_bent (ws : List W) (cs : List Cell) (κ : WQ) (h : Pl.Φ__law_v_bent ws cs κ) : ws.length = 2 := by first | (obtain ⟨_, rfl, _⟩ := h; rfl) | (obtain ⟨_, _, rfl, _⟩ := h; rfl) | (obtain ⟨_, _, _, rfl, _⟩ := h; rfl) | (obtain ⟨_, _, _, _, rfl, _⟩ := h; rfl) | (obtain ⟨_, _, _, _, _, rfl, _⟩ := h; rfl)
theorem ok__law_v_bent (Zx : Tx w K mg) : FnOk Pg w K mg base CX0 3 (He.ga K "_law_v_bent") Zx.d__law_v_bent ["stream", "ring"] (SpC K Φ__law_v_bent) := fn_ok Zx.F__law_v_bent sc__law_v_bent (len_C len__law_v_bent) (b__law_v_bent Zx) (fun cdv A outer s H E hr => der__law_v_bent Zx (ok__law_draw Zx) (ok__law_pick Zx) cdv A outer s H E hr) (body_C N__law_v_bent _ (Pl.sem__law_v_bent))
theorem len__law_v_row (ws : List W) (cs : List Cell) (κ : WQ) (h : Pl.Φ__law_v_row ws cs κ) : ws.length = 2 := by first | (obtain ⟨_, rfl, _⟩ := h; rfl) | (obtain ⟨_, _, rfl, _⟩ := h; rfl) | (obtain ⟨_, _, _, rfl, _⟩ := h; rfl) | (obtain ⟨_, _, _, _, rfl, _⟩ := h; rfl) | (obtain ⟨_, _, _, _, _, rfl, _⟩ := h; rfl)
theorem ok__law_v_row (Zx : Tx w K mg) : FnOk Pg w K mg base CX0 4 (He.ga K "_law_v_row") Zx.d__law_v_row ["stream", "most"] (SpC K Φ__law_v_row) := fn_ok Zx.F__law_v_row sc__law_v_row (len_C len__law_v_row) (b__law_v_row Zx) (fun cdv A outer s H E hr => der__law_v_row Zx (ok__law_draw Zx) (ok__law_v_bent Zx) (ok__law_v_drawn Zx) (ok__law_v_even Zx) cdv A outer s H E hr) (body_C N__law_v_row _ (Pl.sem__law_v_row))
theorem ok__law_same (Zx : Tx w K mg) : ∀ k, FnOk Pg w K mg base CX0 k (He.ga K "_law_same") Zx.d__law_same ["found", "due"] (SpD K (RSame k))
  | 0 => ⟨len_D len__law_same, fun A outer s H args us vs Q E hr he hb hv hs => by obtain ⟨_, _, ds, d, _, r, hR, _⟩ := hs; exact hR.elim⟩
  | k + 1 => fn_ok Zx.F__law_same sc__law_same (len_D len__law_same) _ (fun cdv A outer s H E hr => der__law_same Zx (ok__law_same Zx k)  cdv A outer s H E hr) (body_D N__law_same _ (Pl.sem_same k))
theorem len_periods_by (ds : List D) (d : D) (h : R_periods_by ds d) : ds.length = 1 := by first | (obtain ⟨_, rfl, _⟩ := h; rfl) | (obtain ⟨_, _, rfl, _⟩ := h; rfl) | (obtain ⟨_, _, _, rfl, _⟩ := h; rfl) | (obtain ⟨_, _, _, _, rfl, _⟩ := h; rfl) | (obtain ⟨_, _, _, _, _, rfl, _⟩ := h; rfl)
theorem ok_periods_by (Zx : Tx w K mg) : FnOk Pg w K mg base CX0 1 (He.ga K "periods_by") Zx.d_periods_by ["row"] (SpD K R_periods_by) := fn_ok Zx.F_periods_by sc_periods_by (len_D len_periods_by) (b_periods_by Zx) (fun cdv A outer s H E hr => der_periods_by Zx  cdv A outer s H E hr) (body_D N_periods_by _ (sem_periods_by Zx))
theorem len_is_of (ds : List D) (d : D) (h : Pl.R_is_of ds d) : ds.length = 2 := by first | (obtain ⟨_, rfl, _⟩ := h; rfl) | (obtain ⟨_, _, rfl, _⟩ := h; rfl) | (obtain ⟨_, _, _, rfl, _⟩ := h; rfl) | (obtain ⟨_, _, _, _, rfl, _⟩ := h; rfl) | (obtain ⟨_, _, _, _, _, rfl, _⟩ := h; rfl)
theorem ok_is_of (Zx : Tx w K mg) : FnOk Pg w K mg base CX0 1 (He.ga K "is_of") Zx.d_is_of ["thing", "signs"] (SpD K R_is_of) := fn_ok Zx.F_is_of sc_is_of (len_D len_is_of) (b_is_of Zx) (fun cdv A outer s H E hr => der_is_of Zx  cdv A outer s H E hr) (body_D N_is_of _ (Pl.sem_is_of))
theorem len_is_row (ds : List D) (d : D) (h : Pl.R_is_row ds d) : ds.length = 1 := by first | (obtain ⟨_, rfl, _⟩ := h; rfl) | (obtain ⟨_, _, rfl, _⟩ := h; rfl) | (obtain ⟨_, _, _, rfl, _⟩ := h; rfl) | (obtain ⟨_, _, _, _, rfl, _⟩ := h; rfl) | (obtain ⟨_, _, _, _, _, rfl, _⟩ := h; rfl)
theorem ok_is_row (Zx : Tx w K mg) : FnOk Pg w K mg base CX0 2 (He.ga K "is_row") Zx.d_is_row ["thing"] (SpD K R_is_row) := fn_ok Zx.F_is_row sc_is_row (len_D len_is_row) (b_is_row Zx) (fun cdv A outer s H E hr => der_is_row Zx (ok_is_of Zx) cdv A outer s H E hr) (body_D N_is_row _ (Pl.sem_is_row))
theorem len_need_row (ds : List D) (d : D) (h : Pl.R_need_row ds d) : ds.length = 1 := by first | (obtain ⟨_, rfl, _⟩ := h; rfl) | (obtain ⟨_, _, rfl, _⟩ := h; rfl) | (obtain ⟨_, _, _, rfl, _⟩ := h; rfl) | (obtain ⟨_, _, _, _, rfl, _⟩ := h; rfl) | (obtain ⟨_, _, _, _, _, rfl, _⟩ := h; rfl)
theorem ok_need_row (Zx : Tx w K mg) : FnOk Pg w K mg base CX0 3 (He.ga K "need_row") Zx.d_need_row ["row"] (SpD K R_need_row) := fn_ok Zx.F_need_row sc_need_row (len_D len_need_row) (b_need_row Zx) (fun cdv A outer s H E hr => der_need_row Zx (ok_is_row Zx) cdv A outer s H E hr) (body_D N_need_row _ (Pl.sem_need_row))
theorem len_periods_of (ds : List D) (d : D) (h : R_periods_of ds d) : ds.length = 1 := by first | (obtain ⟨_, rfl, _⟩ := h; rfl) | (obtain ⟨_, _, rfl, _⟩ := h; rfl) | (obtain ⟨_, _, _, rfl, _⟩ := h; rfl) | (obtain ⟨_, _, _, _, rfl, _⟩ := h; rfl) | (obtain ⟨_, _, _, _, _, rfl, _⟩ := h; rfl)
theorem ok_periods_of (Zx : Tx w K mg) : FnOk Pg w K mg base CX0 4 (He.ga K "periods_of") Zx.d_periods_of ["row"] (SpD K R_periods_of) := fn_ok Zx.F_periods_of sc_periods_of (len_D len_periods_of) (b_periods_of Zx) (fun cdv A outer s H E hr => der_periods_of Zx (ok_need_row Zx) (ok_periods_by Zx) cdv A outer s H E hr) (body_D N_periods_of _ (sem_periods_of Zx))
theorem len_closed_by (ds : List D) (d : D) (h : R_closed_by ds d) : ds.length = 1 := by first | (obtain ⟨_, rfl, _⟩ := h; rfl) | (obtain ⟨_, _, rfl, _⟩ := h; rfl) | (obtain ⟨_, _, _, rfl, _⟩ := h; rfl) | (obtain ⟨_, _, _, _, rfl, _⟩ := h; rfl) | (obtain ⟨_, _, _, _, _, rfl, _⟩ := h; rfl)
theorem ok_closed_by (Zx : Tx w K mg) : FnOk Pg w K mg base CX0 1 (He.ga K "closed_by") Zx.d_closed_by ["row"] (SpD K R_closed_by) := fn_ok Zx.F_closed_by sc_closed_by (len_D len_closed_by) (b_closed_by Zx) (fun cdv A outer s H E hr => der_closed_by Zx  cdv A outer s H E hr) (body_D N_closed_by _ (sem_closed_by Zx))
theorem len_closed (ds : List D) (d : D) (h : R_closed ds d) : ds.length = 1 := by first | (obtain ⟨_, rfl, _⟩ := h; rfl) | (obtain ⟨_, _, rfl, _⟩ := h; rfl) | (obtain ⟨_, _, _, rfl, _⟩ := h; rfl) | (obtain ⟨_, _, _, _, rfl, _⟩ := h; rfl) | (obtain ⟨_, _, _, _, _, rfl, _⟩ := h; rfl)
theorem ok_closed (Zx : Tx w K mg) : FnOk Pg w K mg base CX0 4 (He.ga K "closed") Zx.d_closed ["row"] (SpD K R_closed) := fn_ok Zx.F_closed sc_closed (len_D len_closed) (b_closed Zx) (fun cdv A outer s H E hr => der_closed Zx (ok_closed_by Zx) (ok_need_row Zx) cdv A outer s H E hr) (body_D N_closed _ (sem_closed Zx))
theorem len_law (ds : List D) (d : D) (h : R_law ds d) : ds.length = 1 := by first | (obtain ⟨_, rfl, _⟩ := h; rfl) | (obtain ⟨_, _, rfl, _⟩ := h; rfl) | (obtain ⟨_, _, _, rfl, _⟩ := h; rfl) | (obtain ⟨_, _, _, _, rfl, _⟩ := h; rfl) | (obtain ⟨_, _, _, _, _, rfl, _⟩ := h; rfl)
theorem ok_law (Zx : Tx w K mg) : FnOk Pg w K mg base CX0 11 (He.ga K "law") Zx.d_law ["script"] (SpD K R_law) := fn_ok Zx.F_law sc_law (len_D len_law) (b_law Zx) (fun cdv A outer s H E hr => der_law Zx (ok__law_draw Zx) (ok__law_same Zx 10) (ok__law_stream Zx) (ok__law_v_drawn Zx) (ok__law_v_row Zx) (ok_closed Zx) (ok_periods_of Zx) cdv A outer s H E hr) (body_D N_law _ (sem_law Zx))
end
/-! ### the head -/
def dd__law_stream : He.DefD := ⟨("_law_stream", none), "_law_stream", "_law_stream", defArgs s__law_stream, defBody s__law_stream, defScope s__law_stream, [], []⟩
def dd__law_draw : He.DefD := ⟨("_law_draw", none), "_law_draw", "_law_draw", defArgs s__law_draw, defBody s__law_draw, defScope s__law_draw, [], []⟩
def dd__law_pick : He.DefD := ⟨("_law_pick", none), "_law_pick", "_law_pick", defArgs s__law_pick, defBody s__law_pick, defScope s__law_pick, [], []⟩
def dd__law_v_drawn : He.DefD := ⟨("_law_v_drawn", none), "_law_v_drawn", "_law_v_drawn", defArgs s__law_v_drawn, defBody s__law_v_drawn, defScope s__law_v_drawn, [], []⟩
def dd__law_v_spread : He.DefD := ⟨("_law_v_spread", none), "_law_v_spread", "_law_v_spread", defArgs s__law_v_spread, defBody s__law_v_spread, defScope s__law_v_spread, [], []⟩
def dd__law_v_even : He.DefD := ⟨("_law_v_even", none), "_law_v_even", "_law_v_even", defArgs s__law_v_even, defBody s__law_v_even, defScope s__law_v_even, [], []⟩
def dd__law_v_bent : He.DefD := ⟨("_law_v_bent", none), "_law_v_bent", "_law_v_bent", defArgs s__law_v_bent, defBody s__law_v_bent, defScope s__law_v_bent, [], []⟩
def dd__law_v_row : He.DefD := ⟨("_law_v_row", none), "_law_v_row", "_law_v_row", defArgs s__law_v_row, defBody s__law_v_row, defScope s__law_v_row, [], []⟩
def dd__law_same : He.DefD := ⟨("_law_same", none), "_law_same", "_law_same", defArgs s__law_same, defBody s__law_same, defScope s__law_same, [], []⟩
def dd_periods_by : He.DefD := ⟨("periods_by", none), "periods_by", "periods_by", defArgs s_periods_by, defBody s_periods_by, defScope s_periods_by, [], []⟩
def dd_is_of : He.DefD := ⟨("is_of", none), "is_of", "is_of", defArgs s_is_of, defBody s_is_of, defScope s_is_of, [], []⟩
def dd_is_row : He.DefD := ⟨("is_row", none), "is_row", "is_row", defArgs s_is_row, defBody s_is_row, defScope s_is_row, [], []⟩
def dd_need_row : He.DefD := ⟨("need_row", none), "need_row", "need_row", defArgs s_need_row, defBody s_need_row, defScope s_need_row, [], []⟩
def dd_periods_of : He.DefD := ⟨("periods_of", none), "periods_of", "periods_of", defArgs s_periods_of, defBody s_periods_of, defScope s_periods_of, [], []⟩
def dd_closed_by : He.DefD := ⟨("closed_by", none), "closed_by", "closed_by", defArgs s_closed_by, defBody s_closed_by, defScope s_closed_by, [], []⟩
def dd_closed : He.DefD := ⟨("closed", none), "closed", "closed", defArgs s_closed, defBody s_closed, defScope s_closed, [], []⟩
def dd_law : He.DefD := ⟨("law", none), "law", "law", defArgs s_law, defBody s_law, defScope s_law, [], []⟩
def hfn : List He.DefD := [dd__law_stream, dd__law_draw, dd__law_pick, dd__law_v_drawn, dd__law_v_spread, dd__law_v_even, dd__law_v_bent, dd__law_v_row, dd__law_same, dd_periods_by, dd_is_of, dd_is_row, dd_need_row, dd_periods_of, dd_closed_by, dd_closed, dd_law]
def hfa : List He.Fa := ([.glo "_law_stream", .glo "_law_draw", .glo "_law_pick", .glo "_law_v_drawn", .glo "_law_v_spread", .glo "_law_v_even", .glo "_law_v_bent", .glo "_law_v_row", .glo "_law_same", .glo "periods_by", .glo "is_of", .glo "is_row", .glo "need_row", .glo "periods_of", .glo "closed_by", .glo "closed", .glo "law", .free "abs", .free "all", .free "any", .free "bool", .free "dict", .free "int", .free "isinstance", .free "len", .free "list", .free "max", .free "min", .free "range", .free "str"] : List He.Fa) ++ ([.free "tuple", .free "zip"] : List He.Fa)
def hts : List He.Tab := []
def hex (K : PySem.W.Frag) : Bool := true
abbrev Rw : PySem.W.OpenRow := PySem.W.OpenLaw.row PySem.Challenge.rw_evenlylaid_k18_closed_rows
abbrev hk : PySem.W.Hook := He.hookX 4 hfa hfn hts [] hex
def hob (s : PySem.W.SharedT) : He.AlX := He.obsX 4 hfa hfn hts [] hex (HandSHeadRun.getT s)
theorem hob_eq (s : PySem.W.SharedT) : hob s = hk.obs s.abs := He.obsX_eq (HandSHeadRun.getT_eq s)
def loose : List Str := (["EvenError", "BadRow", "is_of", "is_row", "need_row", "periods_by", "periods_of", "closed_by", "closed", "_law_stream", "_law_draw", "_law_pick", "_law_same", "_law_v_spread", "_law_v_drawn", "_law_v_even", "_law_v_bent", "_law_v_row"] : List Str)
theorem hrun_false (w : World) : HandSHeadRun.RunEq Rw (PySem.W.view Rw.prog [23]) hk hob 3000 loose (w.withFollow "special-get-raises" false) := by
  intro os
  kernel_rfl
theorem hrun_true (w : World) : HandSHeadRun.RunEq Rw (PySem.W.view Rw.prog [23]) hk hob 3000 loose (w.withFollow "special-get-raises" true) := by
  intro os
  kernel_rfl
theorem hrun (w : World) : HandSHeadRun.RunEq Rw (PySem.W.view Rw.prog [23]) hk hob 3000 loose w := PySem.W.byRow2 "special-get-raises" (P := fun w => HandSHeadRun.RunEq Rw (PySem.W.view Rw.prog [23]) hk hob 3000 loose w) hrun_false hrun_true w
theorem facts {w : World} {K : PySem.W.Frag} {h : Heap} {mg : Str → Option Value} (X : K.In h) (G : h.Ns mainGlobals mg) (c : He.SaysX hfa hfn hts [] hex w h K) : Nonempty (Tx w K mg) := by
  obtain ⟨d0, F0⟩ := c.t.d.def_ 0 (d := dd__law_stream) rfl
  obtain ⟨d1, F1⟩ := c.t.d.def_ 1 (d := dd__law_draw) rfl
  obtain ⟨d2, F2⟩ := c.t.d.def_ 2 (d := dd__law_pick) rfl
  obtain ⟨d3, F3⟩ := c.t.d.def_ 3 (d := dd__law_v_drawn) rfl
  obtain ⟨d4, F4⟩ := c.t.d.def_ 4 (d := dd__law_v_spread) rfl
  obtain ⟨d5, F5⟩ := c.t.d.def_ 5 (d := dd__law_v_even) rfl
  obtain ⟨d6, F6⟩ := c.t.d.def_ 6 (d := dd__law_v_bent) rfl
  obtain ⟨d7, F7⟩ := c.t.d.def_ 7 (d := dd__law_v_row) rfl
  obtain ⟨d8, F8⟩ := c.t.d.def_ 8 (d := dd__law_same) rfl
  obtain ⟨d9, F9⟩ := c.t.d.def_ 9 (d := dd_periods_by) rfl
  obtain ⟨d10, F10⟩ := c.t.d.def_ 10 (d := dd_is_of) rfl
  obtain ⟨d11, F11⟩ := c.t.d.def_ 11 (d := dd_is_row) rfl
  obtain ⟨d12, F12⟩ := c.t.d.def_ 12 (d := dd_need_row) rfl
  obtain ⟨d13, F13⟩ := c.t.d.def_ 13 (d := dd_periods_of) rfl
  obtain ⟨d14, F14⟩ := c.t.d.def_ 14 (d := dd_closed_by) rfl
  obtain ⟨d15, F15⟩ := c.t.d.def_ 15 (d := dd_closed) rfl
  obtain ⟨d16, F16⟩ := c.t.d.def_ 16 (d := dd_law) rfl
  exact ⟨⟨d0, F0, He.glo_ok X G (c.t.d.fact 0 (f := .glo "_law_stream") rfl), d1, F1, He.glo_ok X G (c.t.d.fact 1 (f := .glo "_law_draw") rfl), d2, F2, He.glo_ok X G (c.t.d.fact 2 (f := .glo "_law_pick") rfl), d3, F3, He.glo_ok X G (c.t.d.fact 3 (f := .glo "_law_v_drawn") rfl), d4, F4, He.glo_ok X G (c.t.d.fact 4 (f := .glo "_law_v_spread") rfl), d5, F5, He.glo_ok X G (c.t.d.fact 5 (f := .glo "_law_v_even") rfl), d6, F6, He.glo_ok X G (c.t.d.fact 6 (f := .glo "_law_v_bent") rfl), d7, F7, He.glo_ok X G (c.t.d.fact 7 (f := .glo "_law_v_row") rfl), d8, F8, He.glo_ok X G (c.t.d.fact 8 (f := .glo "_law_same") rfl), d9, F9, He.glo_ok X G (c.t.d.fact 9 (f := .glo "periods_by") rfl), d10, F10, He.glo_ok X G (c.t.d.fact 10 (f := .glo "is_of") rfl), d11, F11, He.glo_ok X G (c.t.d.fact 11 (f := .glo "is_row") rfl), d12, F12, He.glo_ok X G (c.t.d.fact 12 (f := .glo "need_row") rfl), d13, F13, He.glo_ok X G (c.t.d.fact 13 (f := .glo "periods_of") rfl), d14, F14, He.glo_ok X G (c.t.d.fact 14 (f := .glo "closed_by") rfl), d15, F15, He.glo_ok X G (c.t.d.fact 15 (f := .glo "closed") rfl), d16, F16, He.glo_ok X G (c.t.d.fact 16 (f := .glo "law") rfl), He.free_ok X G (c.t.d.fact 17 (f := .free "abs") rfl), He.free_ok X G (c.t.d.fact 18 (f := .free "all") rfl), He.free_ok X G (c.t.d.fact 19 (f := .free "any") rfl), He.free_ok X G (c.t.d.fact 20 (f := .free "bool") rfl), He.free_ok X G (c.t.d.fact 21 (f := .free "dict") rfl), He.free_ok X G (c.t.d.fact 22 (f := .free "int") rfl), He.free_ok X G (c.t.d.fact 23 (f := .free "isinstance") rfl), He.free_ok X G (c.t.d.fact 24 (f := .free "len") rfl), He.free_ok X G (c.t.d.fact 25 (f := .free "list") rfl), He.free_ok X G (c.t.d.fact 26 (f := .free "max") rfl), He.free_ok X G (c.t.d.fact 27 (f := .free "min") rfl), He.free_ok X G (c.t.d.fact 28 (f := .free "range") rfl), He.free_ok X G (c.t.d.fact 29 (f := .free "str") rfl), He.free_ok X G (c.t.d.fact 30 (f := .free "tuple") rfl), He.free_ok X G (c.t.d.fact 31 (f := .free "zip") rfl)⟩⟩
end K18
open PySem PySem.W PySem.Calls PyProof.Rows
theorem PySem.Challenge.cw_evenlylaid_k18_closed_rows_holds : PySem.Challenge.rw_evenlylaid_k18_closed_rows.Holds := by
  w_on; o_law
  refine HandSHeadRun.head_any (r := OpenLaw.row PySem.Challenge.rw_evenlylaid_k18_closed_rows) (q := view (OpenLaw.row PySem.Challenge.rw_evenlylaid_k18_closed_rows).prog [23]) (H := K18.hk) (ob := K18.hob) (M := 3000) (loose := K18.loose) (d := HandSHeadRun.topDef (OpenLaw.row PySem.Challenge.rw_evenlylaid_k18_closed_rows).prog 23) (kwd := []) K18.hob_eq
    (by kernel_rfl) (fun s => by kernel_rfl) K18.hrun (by kernel_rfl) (by kernel_rfl) (by kernel_rfl) (by rfl) (by first | assumption | decide +kernel) (by decide +kernel) ⟨rfl, rfl, rfl, rfl, rfl, by decide +kernel⟩ ?hw ?hc
  case hw => w_witness2
  case hc =>
    refine L2.walk_ofE (l := PySem.Challenge.rw_evenlylaid_k18_closed_rows) (n := 63) (k := 11) (x := "script") (CX := L2.CX0) rfl (by decide) (by kernel_rfl) ⟨rfl, by decide, by decide⟩ ?F (fun _ _ _ _ z => z)
    intro w mg fa h Y G hmg0
    obtain ⟨K, KX, c⟩ := Y
    have hmg : mg ("law" : PySem.Str) = some (.ref fa) := by
      have e : (HandSHeadRun.topDef (OpenLaw.row PySem.Challenge.rw_evenlylaid_k18_closed_rows).prog 23).name = ("law" : PySem.Str) := by kernel_rfl
      rw [← e]
      exact hmg0
    obtain ⟨Zx⟩ := K18.facts KX G c
    have e := hmg.symm.trans Zx.g_law
    cases e
    exact ⟨K, Zx.d_law, Pl.SpD K K18.R_law, KX, fun s u => L2.FunD.bindsA (ps := ["script"]) Zx.F_law (fun _ _ _ _ _ _ us hl => match us, hl with | [_], _ => rfl) s [u] rfl, fun H a ns hl _ hS => Pl.sp_law (fun ns => ⟨ns, rfl, rfl⟩) H a ns hS, fun base _ _ => K18.ok_law Zx⟩


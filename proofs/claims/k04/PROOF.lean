import PyProof.Rows.All
import HandS.Conv
import HandS.Deep
import HandS.Defaults
import HandS.Flow
import HandS.ForExc
import HandS.ForMost
import HandS.Head0
import HandS.Head1
import HandS.Head2
import HandS.HeadEnd
import HandS.HeadHook1
import HandS.HeadHook2
import HandS.IsInst
import HandS.SetFor
import HandS.SortInts
import HandS.Strs
import HandS.Style
import HandS.Text
import HandS.TupAny
import HandS.TupMul
import HandS.Zip
import KE.KStateDown
import OpenK.AllK
import Wide.All
import Wide.FinOn
import PySem.Challenge.RW_onewordhome_k04_whole_letters_words_lots
/-! part Z0 -/
set_option Elab.async false
set_option linter.all false
set_option maxRecDepth 100000
set_option maxHeartbeats 4000000
namespace L2.Z
open PySem PySem.Spec PyProof.Rows

/-! ### data -/
inductive D where
  | non | bl (b : Bool) | int (i : Int) | str (s : Str) | tup (xs : List D) | lst (xs : List D) | dct (kvs : List (D × D)) | fn (n : Nat) | scr (ns : List Int)
/-- what a slot holds: nothing known, a value that stays, an own list, an own dict, the caller's list -/
inductive SV where
  | un | va (d : D) | li (xs : List D) | di (kvs : List (D × D)) | io (xs : List D) | l2 (xss : List (List D))
abbrev Lo := List SV
/-- an exception: its class, its argument -/
structure Ex where
  c : Nat
  arg : Option D := none
inductive R (α : Type) where
  | ok (a : α) (L : Lo) | ex (x : Ex) (L : Lo) | no
/-- a value, or the content of a slot -/
inductive RV where
  | v (d : D) | s (i : Nat)
inductive SR where
  | nx (L : Lo) | rt (d : D) (L : Lo) | bk (L : Lo) | ct (L : Lo) | ex (x : Ex) (L : Lo) | no | rf (xs : List D) (L : Lo)
/-- a def's answer -/
inductive FR (α : Type) where
  | ok (a : α) | ex (x : Ex) | no

/-- addresses of defs and of exception classes -/
structure Nm where
  fa : Nat → Addr
  xa : Nat → Addr

def keyD : Key → D
  | .inl i => .int i
  | .inr x => .str x
def keyT (k : List Key) : D := .tup (k.map keyD)

mutual
inductive Val (K : PySem.W.Frag) (g : Nm) (P : Hp) : V → D → Prop
  | non : Val K g P .non .non
  | bl (b : Bool) : Val K g P (.bl b) (.bl b)
  | int (i : Int) : Val K g P (.int i) (.int i)
  | str (x : Str) : Val K g P (.str x) (.str x)
  | tup {a : Addr} {vs : List V} {ds : List D} : SqT K P a vs → ValL K g P vs ds → Val K g P (.ref a) (.tup ds)
  | lst {a : Addr} {vs : List V} {ds : List D} : P a = some (.lst vs) → ValL K g P vs ds → Val K g P (.ref a) (.lst ds)
  | scr {a : Addr} (ns : List Int) : SqL K P a (ns.map V.int) → Val K g P (.ref a) (.scr ns)
  | dT {a : Addr} {ks : List (List Key)} {vs : List V} {ds : List D} : P a = some (.dT (ks.zip vs)) → ks.length = vs.length → ValL K g P vs ds → Val K g P (.ref a) (.dct ((ks.map keyT).zip ds))
  | dK {a : Addr} {ks : List Key} {vs : List V} {ds : List D} : P a = some (.dK (ks.zip vs)) → ks.length = vs.length → ValL K g P vs ds → Val K g P (.ref a) (.dct ((ks.map keyD).zip ds))
  | fn (n : Nat) : Val K g P (.ref (g.fa n)) (.fn n)
inductive ValL (K : PySem.W.Frag) (g : Nm) (P : Hp) : List V → List D → Prop
  | nil : ValL K g P [] []
  | cons {v : V} {vs : List V} {d : D} {ds : List D} : Val K g P v d → ValL K g P vs ds → ValL K g P (v :: vs) (d :: ds)
end

/-- more is known -/
def Up (P P' : Hp) : Prop := ∀ a o, P a = some o → P' a = some o
theorem Up.refl (P : Hp) : Up P P := fun _ _ h => h
theorem Up.trans {P P1 P2 : Hp} (a : Up P P1) (b : Up P1 P2) : Up P P2 := fun x o h => b x o (a x o h)
theorem Up.rd {P P' : Hp} (u : Up P P') {a : Addr} {o : HO} (h : Rd P a o) : Rd P' a o := h.elim (fun h => .inl (u _ _ h)) fun ⟨x, h⟩ => .inr ⟨x, u _ _ h⟩
theorem Up.sqL {K : PySem.W.Frag} {P P' : Hp} (u : Up P P') {a : Addr} {xs : List V} (h : SqL K P a xs) : SqL K P' a xs := h.elim (fun h => .inl (u.rd h)) .inr
theorem Up.sqT {K : PySem.W.Frag} {P P' : Hp} (u : Up P P') {a : Addr} {xs : List V} (h : SqT K P a xs) : SqT K P' a xs := h.elim (fun h => .inl (u.rd h)) .inr
section
variable {K : PySem.W.Frag} {g : Nm} {P P' : Hp}
mutual
theorem Val.up (u : Up P P') : ∀ {v : V} {d : D}, Val K g P v d → Val K g P' v d
  | _, _, .non => .non
  | _, _, .bl b => .bl b
  | _, _, .int i => .int i
  | _, _, .str x => .str x
  | _, _, .tup h r => .tup (u.sqT h) (ValL.up u r)
  | _, _, .lst h r => .lst (u _ _ h) (ValL.up u r)
  | _, _, .scr ns h => .scr ns (u.sqL h)
  | _, _, .dT h e r => .dT (u _ _ h) e (ValL.up u r)
  | _, _, .dK h e r => .dK (u _ _ h) e (ValL.up u r)
  | _, _, .fn n => .fn n
theorem ValL.up (u : Up P P') : ∀ {v : List V} {d : List D}, ValL K g P v d → ValL K g P' v d
  | _, _, .nil => .nil
  | _, _, .cons a b => .cons (Val.up u a) (ValL.up u b)
end
theorem ValL.length : ∀ {vs : List V} {ds : List D}, ValL K g P vs ds → vs.length = ds.length
  | _, _, .nil => rfl
  | _, _, .cons _ t => by rw [List.length_cons, List.length_cons, t.length]
theorem ValL.get : ∀ {vs : List V} {ds : List D} {i : Nat} {v : V}, ValL K g P vs ds → vs[i]? = some v → ∃ d, ds[i]? = some d ∧ Val K g P v d
  | _, _, _, _, .nil, e => by simp at e
  | _, _, 0, _, .cons r _, e => by simp at e; subst e; exact ⟨_, rfl, r⟩
  | _, _, i + 1, v, .cons _ t, e => by
    obtain ⟨d, h1, h2⟩ := ValL.get (i := i) (v := v) t (by simpa using e)
    exact ⟨d, by simpa using h1, h2⟩
theorem ValL.getD' : ∀ {vs : List V} {ds : List D} {i : Nat} {d : D}, ValL K g P vs ds → ds[i]? = some d → ∃ v, vs[i]? = some v ∧ Val K g P v d
  | _, _, _, _, .nil, e => by simp at e
  | _, _, 0, _, .cons r _, e => by simp at e; subst e; exact ⟨_, rfl, r⟩
  | _, _, i + 1, v, .cons _ t, e => by
    obtain ⟨d, h1, h2⟩ := ValL.getD' (i := i) (d := v) t (by simpa using e)
    exact ⟨d, by simpa using h1, h2⟩
theorem ValL.append : ∀ {vs ws : List V} {ds es : List D}, ValL K g P vs ds → ValL K g P ws es → ValL K g P (vs ++ ws) (ds ++ es)
  | _, _, _, _, .nil, s => s
  | _, _, _, _, .cons r t, s => .cons r (ValL.append t s)
theorem ValL.take : ∀ {vs : List V} {ds : List D} (n : Nat), ValL K g P vs ds → ValL K g P (vs.take n) (ds.take n)
  | _, _, 0, _ => .nil
  | _, _, _ + 1, .nil => .nil
  | _, _, n + 1, .cons r t => .cons r (ValL.take n t)
theorem ValL.drop : ∀ {vs : List V} {ds : List D} (n : Nat), ValL K g P vs ds → ValL K g P (vs.drop n) (ds.drop n)
  | _, _, 0, r => r
  | _, _, _ + 1, .nil => .nil
  | _, _, n + 1, .cons _ t => ValL.drop n t
theorem ValL.set {v : V} {d : D} (r : Val K g P v d) : ∀ {vs : List V} {ds : List D} (i : Nat), ValL K g P vs ds → ValL K g P (vs.set i v) (ds.set i d)
  | _, _, _, .nil => .nil
  | _, _, 0, .cons _ t => .cons r t
  | _, _, i + 1, .cons q t => .cons q (ValL.set r i t)
theorem ValL.erase : ∀ {vs : List V} {ds : List D} (i : Nat), ValL K g P vs ds → ValL K g P (vs.eraseIdx i) (ds.eraseIdx i)
  | _, _, _, .nil => .nil
  | _, _, 0, .cons _ t => t
  | _, _, i + 1, .cons q t => .cons q (ValL.erase i t)
theorem ValL.dropLast : ∀ {vs : List V} {ds : List D}, ValL K g P vs ds → ValL K g P vs.dropLast ds.dropLast
  | _, _, .nil => .nil
  | _, _, .cons _ .nil => .nil
  | _, _, .cons r (.cons r' t) => .cons r (ValL.dropLast (.cons r' t))
theorem ValL.reverse {vs : List V} {ds : List D} (h : ValL K g P vs ds) : ValL K g P vs.reverse ds.reverse := by
  induction h using ValL.rec (motive_1 := fun _ _ _ => True) with
  | nil => exact .nil
  | cons r t ih1 ih2 => rw [List.reverse_cons, List.reverse_cons]; exact ih2.append (.cons r .nil)
  | _ => trivial
theorem ValL.one {v : V} {d : D} (h : Val K g P v d) : ValL K g P [v] [d] := .cons h .nil
theorem Val.int_inv {v : V} {i : Int} (h : Val K g P v (.int i)) : v = .int i := by cases h; rfl
theorem Val.bl_inv {v : V} {b : Bool} (h : Val K g P v (.bl b)) : v = .bl b := by cases h; rfl
theorem Val.str_inv {v : V} {b : Str} (h : Val K g P v (.str b)) : v = .str b := by cases h; rfl
theorem Val.non_inv {v : V} (h : Val K g P v .non) : v = .non := by cases h; rfl
theorem ValL.ints : ∀ {vs : List V} {ns : List Int}, ValL K g P vs (ns.map D.int) → vs = ns.map V.int
  | _, [], .nil => rfl
  | _, n :: ns, .cons r t => by rw [Val.int_inv r, ValL.ints t]; rfl
theorem ValL.bls : ∀ {vs : List V} {ns : List Bool}, ValL K g P vs (ns.map D.bl) → vs = ns.map V.bl
  | _, [], .nil => rfl
  | _, n :: ns, .cons r t => by rw [Val.bl_inv r, ValL.bls t]; rfl
theorem ValL.of_ints : ∀ (ns : List Int), ValL K g P (ns.map V.int) (ns.map D.int)
  | [] => .nil
  | n :: ns => .cons (.int n) (ValL.of_ints ns)
end

/-- an own dict's object and its pairs -/
inductive DicO (K : PySem.W.Frag) (g : Nm) (P : Hp) : HO → List (D × D) → Prop
  | dT {ks : List (List Key)} {vs : List V} {ds : List D} : ks.length = vs.length → ValL K g P vs ds → DicO K g P (.dT (ks.zip vs)) ((ks.map keyT).zip ds)
  | dK {ks : List Key} {vs : List V} {ds : List D} : ks.length = vs.length → ValL K g P vs ds → DicO K g P (.dK (ks.zip vs)) ((ks.map keyD).zip ds)
theorem DicO.up {K : PySem.W.Frag} {g : Nm} {P P' : Hp} (u : Up P P') {o : HO} {kvs : List (D × D)} (h : DicO K g P o kvs) : DicO K g P' o kvs := by
  cases h with
  | dT e r => exact .dT e (r.up u)
  | dK e r => exact .dK e (r.up u)

/-- tuples never change -/
def isTup : HO → Prop
  | .tup _ => True
  | .frz _ (.tup _) => True
  | _ => False

/-- own lists in an own list -/
inductive InL (K : PySem.W.Frag) (g : Nm) (F P H : Hp) : List V → List (List D) → Prop
  | nil : InL K g F P H [] []
  | cons {b : Addr} {ws vs : List V} {xs : List D} {xss : List (List D)} : H b = some (.lst ws) → P b = none → F b = none → ValL K g P ws xs → V.ref b ∉ vs → InL K g F P H vs xss → InL K g F P H (.ref b :: vs) (xs :: xss)
/-- a slot's value v and what is known of it -/
def SlotOk (K : PySem.W.Frag) (g : Nm) (F P H : Hp) (so : Option (Option V)) : SV → Prop
  | .un => True
  | .va d => ∃ v, so = some (some v) ∧ Val K g P v d
  | .li xs => ∃ a vs, so = some (some (.ref a)) ∧ H a = some (.lst vs) ∧ P a = none ∧ F a = none ∧ ValL K g P vs xs
  | .io xs => ∃ a vs, so = some (some (.ref a)) ∧ H a = some (.lst vs) ∧ P a = none ∧ F a = none ∧ ValL K g P vs xs
  | .di kvs => ∃ a o, so = some (some (.ref a)) ∧ H a = some o ∧ P a = none ∧ F a = none ∧ DicO K g P o kvs
  | .l2 xss => ∃ a vs, so = some (some (.ref a)) ∧ H a = some (.lst vs) ∧ P a = none ∧ F a = none ∧ V.ref a ∉ vs ∧ InL K g F P H vs xss
def isOwn : SV → Bool
  | .li _ => true
  | .di _ => true
  | .io _ => true
  | .l2 _ => true
  | _ => false
/-- what a slot owns whose value is at c -/
def ownA (H : Hp) (s : SV) (c a : Addr) : Prop := isOwn s = true ∧ (a = c ∨ ∃ vs xss, s = .l2 xss ∧ H c = some (.lst vs) ∧ V.ref a ∈ vs)
/-- slot i owns the object at a -/
def Own (σ : St) (H : Hp) (L : Lo) (i : Nat) (a : Addr) : Prop := ∃ s c, L[i]? = some s ∧ σ[i]? = some (some (.ref c)) ∧ ownA H s c a
section
variable {K : PySem.W.Frag} {g : Nm} {F P H F' P' H' : Hp}
theorem InL.get {b : Addr} : ∀ {vs : List V} {xss : List (List D)}, InL K g F P H vs xss → V.ref b ∈ vs → (∃ ws, H b = some (.lst ws)) ∧ P b = none ∧ F b = none
  | _, _, .nil, m => nomatch m
  | _, _, .cons (b := b') e1 e2 e3 _ _ t, m => by
    by_cases h : b = b'
    · subst h; exact ⟨⟨_, e1⟩, e2, e3⟩
    · rcases List.mem_cons.mp m with z | z
      · cases z; exact absurd rfl h
      · exact t.get z
theorem InL.chg (u : Up P P') : ∀ {vs : List V} {xss : List (List D)}, InL K g F P H vs xss → (∀ a, V.ref a ∈ vs → H' a = H a ∧ P' a = none ∧ F' a = none) → InL K g F' P' H' vs xss
  | _, _, .nil, _ => .nil
  | _, _, .cons e1 e2 e3 e4 e5 t, k => by
    obtain ⟨k1, k2, k3⟩ := k _ (List.mem_cons_self ..)
    exact .cons (k1.trans e1) k2 k3 (e4.up u) e5 (t.chg u fun a m => k a (List.mem_cons_of_mem _ m))
theorem SlotOk.own {so : Option (Option V)} {s : SV} {c a : Addr} (h : SlotOk K g F P H so s) (e : so = some (some (.ref c))) (w : ownA H s c a) : ∃ o, H a = some o ∧ ¬ isTup o ∧ P a = none ∧ F a = none := by
  obtain ⟨w1, w2⟩ := w
  cases s with
  | un => cases w1
  | va d => cases w1
  | li xs =>
    obtain ⟨b, vs, e1, e2, e3, e4, _⟩ := h
    rw [e] at e1; cases e1
    rcases w2 with rfl | ⟨_, _, z, _⟩
    · exact ⟨_, e2, fun z => z, e3, e4⟩
    · cases z
  | io xs =>
    obtain ⟨b, vs, e1, e2, e3, e4, _⟩ := h
    rw [e] at e1; cases e1
    rcases w2 with rfl | ⟨_, _, z, _⟩
    · exact ⟨_, e2, fun z => z, e3, e4⟩
    · cases z
  | di xs =>
    obtain ⟨b, o, e1, e2, e3, e4, e5⟩ := h
    rw [e] at e1; cases e1
    rcases w2 with rfl | ⟨_, _, z, _⟩
    · exact ⟨_, e2, by cases e5 <;> exact fun z => z, e3, e4⟩
    · cases z
  | l2 xss =>
    obtain ⟨b, vs, e1, e2, e3, e4, e5, e6⟩ := h
    rw [e] at e1; cases e1
    rcases w2 with rfl | ⟨vs', _, z, z1, z2⟩
    · exact ⟨_, e2, fun z => z, e3, e4⟩
    · cases z
      rw [e2] at z1; cases z1
      obtain ⟨⟨ws, q1⟩, q2, q3⟩ := e6.get z2
      exact ⟨_, q1, fun z => z, q2, q3⟩
theorem SlotOk.chg {so : Option (Option V)} {s : SV} (h : SlotOk K g F P H so s) (u : Up P P') (k : ∀ c a, so = some (some (.ref c)) → ownA H s c a → H' a = H a ∧ P' a = none ∧ F' a = none) : SlotOk K g F' P' H' so s := by
  cases s with
  | un => trivial
  | va d => obtain ⟨v, e, r⟩ := h; exact ⟨v, e, r.up u⟩
  | li xs =>
    obtain ⟨a, vs, e, e1, e2, e3, r⟩ := h
    obtain ⟨k1, k2, k3⟩ := k a a e ⟨rfl, .inl rfl⟩
    exact ⟨a, vs, e, k1.trans e1, k2, k3, r.up u⟩
  | io xs =>
    obtain ⟨a, vs, e, e1, e2, e3, r⟩ := h
    obtain ⟨k1, k2, k3⟩ := k a a e ⟨rfl, .inl rfl⟩
    exact ⟨a, vs, e, k1.trans e1, k2, k3, r.up u⟩
  | di kvs =>
    obtain ⟨a, vs, e, e1, e2, e3, r⟩ := h
    obtain ⟨k1, k2, k3⟩ := k a a e ⟨rfl, .inl rfl⟩
    exact ⟨a, vs, e, k1.trans e1, k2, k3, r.up u⟩
  | l2 xss =>
    obtain ⟨a, vs, e, e1, e2, e3, e4, r⟩ := h
    obtain ⟨k1, k2, k3⟩ := k a a e ⟨rfl, .inl rfl⟩
    exact ⟨a, vs, e, k1.trans e1, k2, k3, e4, r.chg u fun b m => k a b e ⟨rfl, .inr ⟨vs, xss, rfl, e1, m⟩⟩⟩
theorem ownA.eq {s : SV} {c a : Addr} (e : H' c = H c) (w : ownA H' s c a) : ownA H s c a := by unfold ownA at *; rw [e] at w; exact w
theorem Own.eq {σ : St} {L : Lo} {i : Nat} {a : Addr} (w : Own σ H' L i a) (k : ∀ c, Own σ H L i c → H' c = H c) : Own σ H L i a := by
  obtain ⟨s, c, z1, z2, z3⟩ := w
  exact ⟨s, c, z1, z2, z3.eq (k c ⟨s, c, z1, z2, z3.1, .inl rfl⟩)⟩
end

/-- the state: F is kept as it is, P is what values stand on, the slots own the rest -/
structure Rep (K : PySem.W.Frag) (g : Nm) (io : Option Addr) (F P : Hp) (σ : St) (H : Hp) (L : Lo) : Prop where
  ph : Up P H
  fh : Up F H
  fp : ∀ a o, F a = some o → P a = none ∧ ¬ isTup o
  len : σ.length = L.length
  sl : ∀ (i : Nat) (s : SV), L[i]? = some s → SlotOk K g F P H σ[i]? s
  dj : ∀ i j a, Own σ H L i a → Own σ H L j a → i = j
  pin : ∀ a, io = some a → σ[0]? = some (some (.ref a)) ∧ ∃ xs, L[0]? = some (.io xs)
  ion : io = none → ∀ (i : Nat) (xs : List D), L[i]? ≠ some (.io xs)
  ioz : ∀ (i : Nat) (xs : List D), L[i]? = some (.io xs) → i = 0

/-- what an expression gives -/
def RVok (K : PySem.W.Frag) (g : Nm) (P : Hp) (σ : St) (v : V) : RV → Prop
  | .v d => Val K g P v d
  | .s i => σ[i]? = some (some v)
def RV.get (L : Lo) : RV → Option D
  | .v d => some d
  | .s i => match L[i]? with
    | some (.va d) => some d
    | some (.li xs) => some (.lst xs)
    | some (.io xs) => some (.lst xs)
    | some (.di kvs) => some (.dct kvs)
    | _ => none
/-- what may be read: a value, or an own list or dict -/
inductive VW (K : PySem.W.Frag) (g : Nm) (P H : Hp) : V → D → Prop
  | va {v : V} {d : D} : Val K g P v d → VW K g P H v d
  | li {a : Addr} {vs : List V} {xs : List D} : H a = some (.lst vs) → ValL K g P vs xs → VW K g P H (.ref a) (.lst xs)
  | di {a : Addr} {o : HO} {kvs : List (D × D)} : H a = some o → DicO K g P o kvs → VW K g P H (.ref a) (.dct kvs)
inductive VWL (K : PySem.W.Frag) (g : Nm) (P H : Hp) : List V → List D → Prop
  | nil : VWL K g P H [] []
  | cons {v : V} {vs : List V} {d : D} {ds : List D} : VW K g P H v d → VWL K g P H vs ds → VWL K g P H (v :: vs) (d :: ds)
def RVokL (K : PySem.W.Frag) (g : Nm) (P : Hp) (σ : St) : List V → List RV → Prop
  | [], [] => True
  | v :: vs, r :: rs => RVok K g P σ v r ∧ RVokL K g P σ vs rs
  | _, _ => False
theorem RVok.up {K : PySem.W.Frag} {g : Nm} {P P' : Hp} {σ : St} {v : V} {r : RV} (u : Up P P') (h : RVok K g P σ v r) : RVok K g P' σ v r := by
  cases r with
  | v d => exact Val.up u h
  | s i => exact h
theorem RVokL.up {K : PySem.W.Frag} {g : Nm} {P P' : Hp} {σ : St} (u : Up P P') : ∀ {vs : List V} {rs : List RV}, RVokL K g P σ vs rs → RVokL K g P' σ vs rs
  | [], [], _ => trivial
  | _ :: _, _ :: _, h => ⟨RVok.up u h.1, RVokL.up u h.2⟩
  | [], _ :: _, h => h.elim
  | _ :: _, [], h => h.elim
def getL (L : Lo) : List RV → Option (List D)
  | [] => some []
  | r :: rs => match r.get L, getL L rs with
    | some d, some ds => some (d :: ds)
    | _, _ => none
section
variable {K : PySem.W.Frag} {g : Nm} {io : Option Addr} {F P H : Hp} {σ : St} {L : Lo}
theorem Rep.vw (r : Rep K g io F P σ H L) {v : V} {rv : RV} {d : D} (h : RVok K g P σ v rv) (e : rv.get L = some d) : VW K g P H v d := by
  cases rv with
  | v d' => cases e; exact .va h
  | s i =>
    have h : σ[i]? = some (some v) := h
    replace e : (match L[i]? with | some (.va d) => some d | some (.li xs) => some (.lst xs) | some (.io xs) => some (.lst xs) | some (.di kvs) => some (.dct kvs) | _ => none) = some d := e
    cases q : L[i]? with
    | none => rw [q] at e; cases e
    | some s =>
      rw [q] at e
      have z := r.sl i s q
      cases s with
      | un => cases e
      | va d' =>
        cases e
        obtain ⟨w, e1, e2⟩ := z
        rw [h] at e1; cases e1; exact .va e2
      | li xs =>
        cases e
        obtain ⟨a, vs, e1, e2, _, _, e3⟩ := z
        rw [h] at e1; cases e1; exact .li e2 e3
      | io xs =>
        cases e
        obtain ⟨a, vs, e1, e2, _, _, e3⟩ := z
        rw [h] at e1; cases e1; exact .li e2 e3
      | di kvs =>
        cases e
        obtain ⟨a, o, e1, e2, _, _, e3⟩ := z
        rw [h] at e1; cases e1; exact .di e2 e3
      | l2 xss => cases e
theorem Rep.vwL (r : Rep K g io F P σ H L) : ∀ {vs : List V} {rs : List RV} {ds : List D}, RVokL K g P σ vs rs → getL L rs = some ds → VWL K g P H vs ds
  | [], [], ds, _, e => by cases e; exact .nil
  | v :: vs, rv :: rs, ds, h, e => by
    unfold getL at e
    split at e
    · next d ds' e1 e2 => cases e; exact .cons (r.vw h.1 e1) (r.vwL h.2 e2)
    · cases e
  | [], _ :: _, _, h, _ => h.elim
  | _ :: _, [], _, h, _ => h.elim
end

/-! ### growth: new things are laid, nothing else happens -/
structure Grow (P H P' H' : Hp) : Prop where
  p : Up P P'
  h : Up H H'
  ph : Up P' H'
  new : ∀ a o, H a = some o → P a = none → ¬ isTup o → P' a = none
/-- behind a call: what P does not hold (but tuples) is kept and stays out of P -/
structure Nxt (P H P' H' : Hp) : Prop where
  p : Up P P'
  ph : Up P' H'
  keep : ∀ a o, H a = some o → P a = none → ¬ isTup o → H' a = some o ∧ P' a = none
theorem Grow.nxt {P H P' H' : Hp} (x : Grow P H P' H') : Nxt P H P' H' := ⟨x.p, x.ph, fun a o e n t => ⟨x.h a o e, x.new a o e n t⟩⟩
theorem Grow.refl {P H : Hp} (u : Up P H) : Grow P H P H := ⟨.refl _, .refl _, u, fun _ _ _ n _ => n⟩
section
variable {K : PySem.W.Frag} {g : Nm} {io : Option Addr} {F P H P' H' : Hp} {σ : St} {L : Lo}
theorem Rep.own (r : Rep K g io F P σ H L) {i : Nat} {a : Addr} (w : Own σ H L i a) : ∃ o, H a = some o ∧ ¬ isTup o ∧ P a = none ∧ F a = none := by
  obtain ⟨s, c, z1, z2, z3⟩ := w
  exact (r.sl i s z1).own z2 z3
/-- what the slots own is as it was: all else may change -/
theorem Rep.chg {F' : Hp} (r : Rep K g io F P σ H L) (ph : Up P' H') (fh : Up F' H') (fp : ∀ a o, F' a = some o → P' a = none ∧ ¬ isTup o) (u : Up P P') (k : ∀ i a, Own σ H L i a → H' a = H a ∧ P' a = none ∧ F' a = none) : Rep K g io F' P' σ H' L where
  ph := ph
  fh := fh
  fp := fp
  len := r.len
  sl := fun i s e => (r.sl i s e).chg u fun c a z w => k i a ⟨s, c, e, z, w⟩
  dj := fun i j a x y => r.dj i j a (x.eq fun c w => (k i c w).1) (y.eq fun c w => (k j c w).1)
  pin := r.pin
  ion := r.ion
  ioz := r.ioz
theorem Rep.nxt (r : Rep K g io F P σ H L) (x : Nxt P H P' H') : Rep K g io F P' σ H' L :=
  r.chg x.ph (fun a o e => (x.keep a o (r.fh a o e) (r.fp a o e).1 (r.fp a o e).2).1) (fun a o e => ⟨(x.keep a o (r.fh a o e) (r.fp a o e).1 (r.fp a o e).2).2, (r.fp a o e).2⟩) x.p fun i a w => by
    obtain ⟨o, e1, e2, e3, e4⟩ := r.own w
    obtain ⟨k1, k2⟩ := x.keep a o e1 e3 e2
    exact ⟨k1.trans e1.symm, k2, e4⟩
end

/-! ### the readings -/
/-- an exception's value -/
def ExV (K : PySem.W.Frag) (g : Nm) (x : Ex) (c : Value) (dd : Option Addr) (P H : Hp) : Prop :=
  c = .ref (g.xa x.c) ∧ match x.arg with
    | none => dd = none
    | some d => ∃ a v, dd = some a ∧ H a = some (.xd [("line", v)]) ∧ Val K g P v d
def XPost (K : PySem.W.Frag) (g : Nm) (W : WX) (io : Option Addr) (F P : Hp) (σ : St) (x : Ex) (L : Lo) : Prop :=
  ∀ P' H' c dd, Up P P' → Rep K g io F P' σ H' L → ExV K g x c dd P' H' → W c dd σ H'
def tE (K : PySem.W.Frag) (g : Nm) (W : WX) (m : Lo → R RV) : TE := fun σ H Q => ∃ io F P L, Rep K g io F P σ H L ∧ match m L with
  | .ok rv L' => ∀ P' H' v, Up P P' → Rep K g io F P' σ H' L' → RVok K g P' σ v rv → Q v H'
  | .ex x L' => XPost K g W io F P σ x L'
  | .no => False
/-- a new list that nothing else knows -/
def tF (K : PySem.W.Frag) (g : Nm) (W : WX) (m : Lo → R (List D)) : TE := fun σ H Q => ∃ io F P L, Rep K g io F P σ H L ∧ match m L with
  | .ok xs L' => ∀ P' H' a vs, Up P P' → Rep K g io F P' σ H' L' → H' a = some (.lst vs) → P' a = none → F a = none → (∀ i, ¬ Own σ H' L' i a) → ValL K g P' vs xs → Q (.ref a) H'
  | .ex x L' => XPost K g W io F P σ x L'
  | .no => False
def tT (K : PySem.W.Frag) (g : Nm) (W : WX) (m : Lo → R Bool) : TT := fun σ H Q => ∃ io F P L, Rep K g io F P σ H L ∧ match m L with
  | .ok b L' => ∀ P' H', Up P P' → Rep K g io F P' σ H' L' → Q b H'
  | .ex x L' => XPost K g W io F P σ x L'
  | .no => False
def tA (K : PySem.W.Frag) (g : Nm) (W : WX) (m : Lo → R (List RV)) : TA := fun σ H Q => ∃ io F P L, Rep K g io F P σ H L ∧ match m L with
  | .ok rs L' => ∀ P' H' vs, Up P P' → Rep K g io F P' σ H' L' → RVokL K g P' σ vs rs → Q vs H'
  | .ex x L' => XPost K g W io F P σ x L'
  | .no => False
def SPost (K : PySem.W.Frag) (g : Nm) (W : WX) (io : Option Addr) (F P : Hp) (E : Ends) : SR → Prop
  | .nx L => ∀ P' σ' H', Up P P' → Rep K g io F P' σ' H' L → E.nx σ' H'
  | .rt d L => ∀ P' σ' H' v, Up P P' → Rep K g io F P' σ' H' L → Val K g P' v d → E.rt v H'
  | .bk L => ∀ P' σ' H', Up P P' → Rep K g io F P' σ' H' L → E.bk σ' H'
  | .ct L => ∀ P' σ' H', Up P P' → Rep K g io F P' σ' H' L → E.ct σ' H'
  | .ex x L => ∀ P' σ' H' c dd, Up P P' → Rep K g io F P' σ' H' L → ExV K g x c dd P' H' → W c dd σ' H'
  | .no => False
  | .rf xs L => ∀ P' σ' H' a vs, Up P P' → Rep K g io F P' σ' H' L → H' a = some (.lst vs) → P' a = none → F a = none → (∀ i, ¬ Own σ' H' L i a) → ValL K g P' vs xs → E.rt (.ref a) H'
def tS (K : PySem.W.Frag) (g : Nm) (W : WX) (m : Lo → SR) : TS := fun E σ H => ∃ io F P L, Rep K g io F P σ H L ∧ SPost K g W io F P E (m L)
theorem SPost.up {K : PySem.W.Frag} {g : Nm} {W : WX} {io : Option Addr} {F P P1 : Hp} {E : Ends} (u : Up P P1) : ∀ {r : SR}, SPost K g W io F P E r → SPost K g W io F P1 E r
  | .nx L, h => fun P' σ' H' v => h P' σ' H' (u.trans v)
  | .rt d L, h => fun P' σ' H' w v => h P' σ' H' w (u.trans v)
  | .bk L, h => fun P' σ' H' v => h P' σ' H' (u.trans v)
  | .ct L, h => fun P' σ' H' v => h P' σ' H' (u.trans v)
  | .ex x L, h => fun P' σ' H' c dd v => h P' σ' H' c dd (u.trans v)
  | .no, h => h
  | .rf xs L, h => fun P' σ' H' a vs v => h P' σ' H' a vs (u.trans v)
theorem XPost.up {K : PySem.W.Frag} {g : Nm} {W : WX} {io : Option Addr} {F P P1 : Hp} {σ : St} {x : Ex} {L : Lo} (u : Up P P1) (h : XPost K g W io F P σ x L) : XPost K g W io F P1 σ x L :=
  fun P' H' c dd v => h P' H' c dd (u.trans v)
end L2.Z

namespace L2
theorem PE.weak {X : Cx} {e : PySem.Expr} {t t' : TE} (h : PE X e t) (w : ∀ σ H Q, t' σ H Q → t σ H Q) : PE X e t' := ⟨fun pins s σ H Q I q => h.run pins s σ H Q I (w σ H Q q)⟩
theorem PT.weak {X : Cx} {e : PySem.Expr} {t t' : TT} (h : PT X e t) (w : ∀ σ H Q, t' σ H Q → t σ H Q) : PT X e t' := ⟨fun pins s σ H Q I q => h.run pins s σ H Q I (w σ H Q q)⟩
theorem PW.weak {X : Cx} {e : PySem.Expr} {t t' : TT} (h : PW X e t) (w : ∀ σ H Q, t' σ H Q → t σ H Q) : PW X e t' := ⟨fun wh pins s σ H Q I q => h.run wh pins s σ H Q I (w σ H Q q)⟩
theorem PA.weak {X : Cx} {e : List PySem.Expr} {t t' : TA} (h : PA X e t) (w : ∀ σ H Q, t' σ H Q → t σ H Q) : PA X e t' := ⟨fun pos pins s σ H Q I q => h.run pos pins s σ H Q I (w σ H Q q)⟩
theorem PS.weak {X : Cx} {e : PySem.Stmt} {t t' : TS} (h : PS X e t) (w : ∀ D σ H, t' D σ H → t D σ H) : PS X e t' := ⟨fun pins s σ H D I q => h.run pins s σ H D I (w D σ H q)⟩
theorem PSs.weak {X : Cx} {e : List PySem.Stmt} {t t' : TS} (h : PSs X e t) (w : ∀ D σ H, t' D σ H → t D σ H) : PSs X e t' := ⟨fun pins s σ H D I q => h.run pins s σ H D I (w D σ H q)⟩
theorem PTs.weak {X : Cx} {e : List PySem.Expr} {t t' : TT} (h : PTs X e t) (w : ∀ σ H Q, t' σ H Q → t σ H Q) : PTs X e t' := ⟨fun pins s σ H Q I q => h.run pins s σ H Q I (w σ H Q q)⟩
theorem PG.weak {X : Cx} {e : PySem.Expr} {t t' : TG} (h : PG X e t) (w : ∀ v σ H Q, t' v σ H Q → t v σ H Q) : PG X e t' := ⟨fun pins s σ H v u Q I r q => h.run pins s σ H v u Q I r (w v σ H Q q)⟩
end L2

/-! part Z1 -/
set_option Elab.async false
set_option linter.all false
set_option maxRecDepth 100000
set_option maxHeartbeats 4000000
namespace L2.Z
open PySem PySem.Spec PyProof.Rows

/-! ### the state changed -/
section
variable {K : PySem.W.Frag} {g : Nm} {io : Option Addr} {F P H : Hp} {σ : St} {L : Lo}
theorem Rep.lt (r : Rep K g io F P σ H L) {i : Nat} {s : SV} (e : L[i]? = some s) : i < σ.length := by
  rw [r.len]; exact (List.getElem?_eq_some_iff.mp e).1
theorem up_new {a : Addr} {o : HO} (ep : P a = none) : Up P (upd P a o) := fun b u q => by rw [upd_ne (ne_of_none q ep)]; exact q
/-- an address of the heap outside of P, F and the slots is taken into P -/
theorem Rep.add (r : Rep K g io F P σ H L) {a : Addr} {o : HO} (e : H a = some o) (ep : P a = none) (ef : F a = none) (no : ∀ i, ¬ Own σ H L i a) : Rep K g io F (upd P a o) σ H L :=
  r.chg (fun b u q => by
    by_cases h : b = a
    · subst h; rw [upd_same] at q; cases q; exact e
    · rw [upd_ne h] at q; exact r.ph b u q) r.fh (fun b u q => by
    refine ⟨?_, (r.fp b u q).2⟩
    by_cases h : b = a
    · subst h; rw [ef] at q; cases q
    · rw [upd_ne h]; exact (r.fp b u q).1) (up_new ep) fun i b w => by
    obtain ⟨o', e1, e2, e3, e4⟩ := r.own w
    refine ⟨rfl, ?_, e4⟩
    have nb : b ≠ a := fun z => no i (z ▸ w)
    rw [upd_ne nb]; exact e3
/-- slot i is changed, with what it owns; its value may be new -/
theorem Rep.slot {F' P' H' : Hp} {σ' : St} (r : Rep K g io F P σ H L) {i : Nat} {s s0 : SV} (e0 : L[i]? = some s0) (eσ : ∀ j, j ≠ i → σ'[j]? = σ[j]?) (el : σ'.length = σ.length) (ez : (∃ xs, s0 = .io xs) → σ'[i]? = σ[i]?) (ph : Up P' H') (fh : Up F' H') (fp : ∀ a o, F' a = some o → P' a = none ∧ ¬ isTup o) (u : Up P P')
    (kio : (∃ xs, s0 = .io xs) ↔ ∃ xs, s = .io xs)
    (k : ∀ j a, j ≠ i → Own σ H L j a → H' a = H a ∧ P' a = none ∧ F' a = none) (ok : SlotOk K g F' P' H' σ'[i]? s)
    (ow : ∀ c a, σ'[i]? = some (some (.ref c)) → ownA H' s c a → ∀ j, j ≠ i → ¬ Own σ H L j a) : Rep K g io F' P' σ' H' (L.set i s) := by
  have hl : i < L.length := (List.getElem?_eq_some_iff.mp e0).1
  have back : ∀ {j : Nat} {a : Addr}, j ≠ i → Own σ' H' (L.set i s) j a → Own σ H L j a := fun {j a} h ⟨t, c, z1, z2, z3⟩ => by
    rw [List.getElem?_set_ne (fun z => h z.symm)] at z1
    rw [eσ j h] at z2
    exact ⟨t, c, z1, z2, z3.eq (k j c h ⟨t, c, z1, z2, z3.1, .inl rfl⟩).1⟩
  have here : ∀ {a : Addr}, Own σ' H' (L.set i s) i a → ∃ c, σ'[i]? = some (some (.ref c)) ∧ ownA H' s c a := fun {a} ⟨t, c, z1, z2, z3⟩ => by
    rw [List.getElem?_set_self hl] at z1; cases z1; exact ⟨c, z2, z3⟩
  refine ⟨ph, fh, fp, by rw [List.length_set, el, r.len], fun j t q => ?_, fun j l a x y => ?_, fun a e => ?_, fun e j xs q => ?_, fun j xs q => ?_⟩
  · by_cases h : j = i
    · subst h; rw [List.getElem?_set_self hl] at q; cases q; exact ok
    · rw [List.getElem?_set_ne (fun z => h z.symm)] at q
      rw [eσ j h]
      exact (r.sl j t q).chg u fun c a z w => k j a h ⟨t, c, q, z, w⟩
  · by_cases h1 : j = i
    · by_cases h2 : l = i
      · rw [h1, h2]
      · subst h1
        obtain ⟨c, w1, w2⟩ := here x
        exact absurd (back h2 y) (ow c a w1 w2 l h2)
    · by_cases h2 : l = i
      · subst h2
        obtain ⟨c, w1, w2⟩ := here y
        exact absurd (back h1 x) (ow c a w1 w2 j h1)
      · exact r.dj j l a (back h1 x) (back h2 y)
  · obtain ⟨z1, xs, z2⟩ := r.pin a e
    by_cases h : i = 0
    · subst h
      rw [e0] at z2; cases z2
      obtain ⟨ys, hy⟩ := kio.mp ⟨xs, rfl⟩
      rw [ez ⟨xs, rfl⟩, List.getElem?_set_self hl, hy]
      exact ⟨z1, ys, rfl⟩
    · rw [eσ 0 (fun z => h z.symm), List.getElem?_set_ne h]; exact ⟨z1, xs, z2⟩
  · by_cases h : i = j
    · subst h
      rw [List.getElem?_set_self hl] at q; cases q
      obtain ⟨ys, hy⟩ := kio.mpr ⟨xs, rfl⟩
      exact r.ion e i ys (hy ▸ e0)
    · rw [List.getElem?_set_ne h] at q; exact r.ion e j xs q
  · by_cases h : i = j
    · subst h
      rw [List.getElem?_set_self hl] at q; cases q
      obtain ⟨ys, hy⟩ := kio.mpr ⟨xs, rfl⟩
      exact r.ioz i ys (hy ▸ e0)
    · rw [List.getElem?_set_ne h] at q; exact r.ioz j xs q
theorem noIo {s s0 : SV} (n0 : ∀ xs, s0 ≠ .io xs) (n1 : ∀ xs, s ≠ .io xs) : (∃ xs, s0 = .io xs) ↔ ∃ xs, s = .io xs := ⟨fun ⟨xs, h⟩ => absurd h (n0 xs), fun ⟨xs, h⟩ => absurd h (n1 xs)⟩
theorem Rep.keepOwn (r : Rep K g io F P σ H L) : ∀ {j : Nat} {a : Addr}, Own σ H L j a → H a = H a ∧ P a = none ∧ F a = none := fun w => by
  obtain ⟨o, e1, e2, e3, e4⟩ := r.own w
  exact ⟨rfl, e3, e4⟩
/-- slot i is given s, its value v -/
theorem Rep.set (r : Rep K g io F P σ H L) {i : Nat} {v : V} {s s0 : SV} (e0 : L[i]? = some s0) (n0 : ∀ xs, s0 ≠ .io xs) (n1 : ∀ xs, s ≠ .io xs) (ok : SlotOk K g F P H (some (some v)) s)
    (no : ∀ c a, v = .ref c → ownA H s c a → ∀ j, ¬ Own σ H L j a) : Rep K g io F P (σ.set i (some v)) H (L.set i s) := by
  have hs : (σ.set i (some v))[i]? = some (some v) := List.getElem?_set_self (r.lt e0)
  refine r.slot e0 (fun j h => List.getElem?_set_ne (fun z => h z.symm)) (by rw [List.length_set]) (fun ⟨xs, h⟩ => absurd h (n0 xs)) r.ph r.fh r.fp (.refl P) (noIo n0 n1) (fun j a _ w => r.keepOwn w) (by rw [hs]; exact ok) fun c a z w j _ => ?_
  rw [hs] at z; cases z
  exact no c a rfl w j
theorem Rep.setVa (r : Rep K g io F P σ H L) {i : Nat} {v : V} {d : D} {s0 : SV} (e0 : L[i]? = some s0) (n0 : ∀ xs, s0 ≠ .io xs) (h : Val K g P v d) : Rep K g io F P (σ.set i (some v)) H (L.set i (.va d)) :=
  r.set e0 n0 (fun _ z => nomatch z) ⟨v, rfl, h⟩ fun _ _ _ z => nomatch z.1
/-- slot i is known anew, its value as it was -/
theorem Rep.know (r : Rep K g io F P σ H L) {i : Nat} {s s0 : SV} (e0 : L[i]? = some s0) (n0 : ∀ xs, s0 ≠ .io xs) (n1 : ∀ xs, s ≠ .io xs) (ok : SlotOk K g F P H σ[i]? s) (no : ∀ c a, ownA H s c a → ownA H s0 c a) : Rep K g io F P σ H (L.set i s) :=
  r.slot e0 (fun j _ => rfl) rfl (fun _ => rfl) r.ph r.fh r.fp (.refl P) (noIo n0 n1) (fun j a _ w => r.keepOwn w) ok fun c a z w j h y => h (r.dj j i a y ⟨s0, c, e0, z, no c a w⟩)
theorem noOwnA {H : Hp} {s : SV} {c a : Addr} {q : Prop} (h : isOwn s = false) (w : ownA H s c a) : q := by rw [w.1] at h; cases h
/-- an own object is written: slot i's list becomes xs -/
theorem Rep.write (r : Rep K g io F P σ H L) {i : Nat} {a : Addr} {o : HO} {s s0 : SV} (e0 : L[i]? = some s0) (ev : σ[i]? = some (some (.ref a))) (o0 : isOwn s0 = true) (o1 : ∀ xss, s ≠ .l2 xss)
    (k0 : (∃ xs, s0 = .io xs) ↔ ∃ xs, s = .io xs) (ok : SlotOk K g F P (upd H a o) σ[i]? s) : Rep K g io F P σ (upd H a o) (L.set i s) := by
  have me : Own σ H L i a := ⟨s0, a, e0, ev, o0, .inl rfl⟩
  obtain ⟨o', h1, h2, h3, h4⟩ := r.own me
  refine r.slot e0 (fun j _ => rfl) rfl (fun _ => rfl) (fun b u q => ?_) (fun b u q => ?_) r.fp (.refl P) k0 (fun j b h w => ?_) ok fun c b z w j h y => ?_
  · rw [upd_ne (ne_of_none q h3)]; exact r.ph b u q
  · rw [upd_ne (ne_of_none q h4)]; exact r.fh b u q
  · have nb : b ≠ a := fun z => h (r.dj j i a (z ▸ w) me)
    exact ⟨by rw [upd_ne nb], (r.keepOwn w).2⟩
  · rw [ev] at z; cases z
    rcases w.2 with rfl | ⟨_, _, z, _⟩
    · exact h (r.dj j i _ y me)
    · exact absurd z (o1 _)
end

/-- a borrowed list or dict becomes a value: its slot may not change it any more -/
def frz (rv : RV) (L : Lo) : Option (D × Lo) := match rv with
  | .v d => some (d, L)
  | .s i => match L[i]? with
    | some (.va d) => some (d, L)
    | some (.li xs) => some (.lst xs, L.set i (.va (.lst xs)))
    | some (.di kvs) => some (.dct kvs, L.set i (.va (.dct kvs)))
    | _ => none
/-- an own object of a slot that owns but one becomes a value -/
theorem Rep.give {K : PySem.W.Frag} {g : Nm} {io : Option Addr} {F P H : Hp} {σ : St} {L : Lo} (r : Rep K g io F P σ H L) {i : Nat} {s : SV} {a : Addr} {o : HO} {d : D} (q : L[i]? = some s) (n0 : ∀ xs, s ≠ .io xs) (ev : σ[i]? = some (some (.ref a))) (w : isOwn s = true) (e2 : H a = some o) (e3 : P a = none) (e4 : F a = none) (hv : Val K g (upd P a o) (.ref a) d) :
    Rep K g io F (upd P a o) σ H (L.set i (.va d)) := by
  have r1 : Rep K g io F P σ H (L.set i .un) := r.know q n0 (fun _ z => nomatch z) trivial (fun _ _ z => nomatch z.1)
  have hl : i < L.length := (List.getElem?_eq_some_iff.mp q).1
  have r2 := r1.add e2 e3 e4 (fun j ⟨t, c, z1, z2, z3⟩ => by
    by_cases hj : i = j
    · subst hj; rw [List.getElem?_set_self hl] at z1; cases z1; cases z3.1
    · rw [List.getElem?_set_ne hj] at z1; exact hj (r.dj i j a ⟨_, a, q, ev, w, .inl rfl⟩ ⟨t, c, z1, z2, z3⟩))
  have r3 := r2.know (i := i) (s := .va d) (s0 := .un) (by rw [List.getElem?_set_self hl]) (fun _ z => nomatch z) (fun _ z => nomatch z) ⟨.ref a, ev, hv⟩ (fun _ _ z => nomatch z.1)
  rw [List.set_set] at r3
  exact r3
theorem DicO.val {K : PySem.W.Frag} {g : Nm} {P : Hp} {a : Addr} {o : HO} {kvs : List (D × D)} (h : DicO K g P o kvs) (e : P a = some o) : Val K g P (.ref a) (.dct kvs) := by
  cases h with
  | dT e1 r => exact .dT e e1 r
  | dK e1 r => exact .dK e e1 r
theorem Rep.frz {K : PySem.W.Frag} {g : Nm} {io : Option Addr} {F P H : Hp} {σ : St} {L L' : Lo} (r : Rep K g io F P σ H L) {rv : RV} {v : V} {d : D} (h : RVok K g P σ v rv) (e : frz rv L = some (d, L')) : ∃ P', Up P P' ∧ Rep K g io F P' σ H L' ∧ Val K g P' v d := by
  cases rv with
  | v d' => cases e; exact ⟨P, .refl P, r, h⟩
  | s i =>
    have h : σ[i]? = some (some v) := h
    replace e : (match L[i]? with | some (.va d) => some (d, L) | some (.li xs) => some (.lst xs, L.set i (.va (.lst xs))) | some (.di kvs) => some (.dct kvs, L.set i (.va (.dct kvs))) | _ => none) = some (d, L') := e
    cases q : L[i]? with
    | none => rw [q] at e; cases e
    | some s =>
      rw [q] at e
      have z := r.sl i s q
      cases s with
      | un => cases e
      | io xs => cases e
      | va d' =>
        cases e
        obtain ⟨w, e1, e2⟩ := z
        rw [h] at e1; cases e1; exact ⟨P, .refl P, r, e2⟩
      | li xs =>
        cases e
        obtain ⟨a, vs, e1, e2, e3, e4, e5⟩ := z
        rw [h] at e1; cases e1
        have hv : Val K g (upd P a (.lst vs)) (.ref a) (.lst xs) := .lst upd_same (e5.up (up_new e3))
        exact ⟨_, up_new e3, r.give q (fun _ z => nomatch z) h rfl e2 e3 e4 hv, hv⟩
      | di kvs =>
        cases e
        obtain ⟨a, o, e1, e2, e3, e4, e5⟩ := z
        rw [h] at e1; cases e1
        have hv : Val K g (upd P a o) (.ref a) (.dct kvs) := (e5.up (up_new e3)).val upd_same
        exact ⟨_, up_new e3, r.give q (fun _ z => nomatch z) h rfl e2 e3 e4 hv, hv⟩
      | l2 xss => cases e

section
variable {X : Cx} {g : Nm} {W : WX}

/-! ### statements -/
def sSeq (a b : Lo → SR) : Lo → SR := fun L => match a L with
  | .nx L' => b L'
  | r => r
theorem mss_nil : PSs X [] (tS X.K g W .nx) := pss_nil.weak fun D σ H ⟨io, F, P, L, r, h⟩ => h P σ H (.refl P) r
theorem mss_cons {st : Stmt} {rest : List Stmt} {a b : Lo → SR} (h1 : PS X st (tS X.K g W a)) (h2 : PSs X rest (tS X.K g W b)) : PSs X (st :: rest) (tS X.K g W (sSeq a b)) :=
  (pss_cons h1 h2).weak fun D σ H ⟨io, F, P, L, r, h⟩ => by
    refine ⟨io, F, P, L, r, ?_⟩
    unfold sSeq at h
    cases e : a L with
    | nx L' => rw [e] at h; exact fun P' σ' H' u r' => ⟨io, F, P', L', r', SPost.up u h⟩
    | rt d L' => rw [e] at h; exact h
    | bk L' => rw [e] at h; exact h
    | ct L' => rw [e] at h; exact h
    | ex x L' => rw [e] at h; exact h
    | no => rw [e] at h; exact h
    | rf xs L' => rw [e] at h; exact h
theorem mss_one {st : Stmt} {a : Lo → SR} (h1 : PS X st (tS X.K g W a)) : PSs X [st] (tS X.K g W a) := (pss_one h1)
def sRet (m : Lo → R RV) : Lo → SR := fun L => match m L with
  | .ok rv L1 => match frz rv L1 with
    | some (d, L2) => .rt d L2
    | none => .no
  | .ex x L1 => .ex x L1
  | .no => .no
theorem XPost.spost {K : PySem.W.Frag} {g : Nm} {W : WX} {io : Option Addr} {F P : Hp} {σ : St} {x : Ex} {L : Lo} {E : Ends} (h : ∀ P' σ' H' c dd, Up P P' → Rep K g io F P' σ' H' L → ExV K g x c dd P' H' → W c dd σ' H') : XPost K g W io F P σ x L :=
  fun P' H' c dd u r e => h P' σ H' c dd u r e
theorem ms_ret {st : Stmt} {m : Lo → R RV} (h : PS X st (tRet (tE X.K g W m))) : PS X st (tS X.K g W (sRet m)) := h.weak fun D σ H ⟨io, F, P, L, r, h⟩ => by
  refine ⟨io, F, P, L, r, ?_⟩
  unfold sRet at h
  cases e : m L with
  | ok rv L1 =>
    rw [e] at h; try dsimp only at h
    intro P' H' v u r' hv
    cases e2 : frz rv L1 with
    | none => rw [e2] at h; exact h.elim
    | some q =>
      obtain ⟨d, L2⟩ := q
      rw [e2] at h; try dsimp only at h
      obtain ⟨P2, u2, r2, v2⟩ := r'.frz hv e2
      exact h P2 σ H' v (u.trans u2) r2 v2
  | ex x L1 => rw [e] at h; exact fun P' H' c dd u r' e' => h P' σ H' c dd u r' e'
  | no => rw [e] at h; exact h
theorem ms_retN {st : Stmt} (h : PS X st tRetN) : PS X st (tS X.K g W (fun L => .rt .non L)) := h.weak fun D σ H ⟨io, F, P, L, r, h⟩ => h P σ H _ (.refl P) r .non
def isIo : SV → Bool
  | .io _ => true
  | _ => false
theorem isIo_ne {s : SV} (h : isIo s = false) : ∀ xs, s ≠ .io xs := fun xs e => by subst e; cases h
/-- slot i is given s; the caller's list stays -/
def putS (i : Nat) (s : SV) (L : Lo) : SR := match L[i]? with
  | some s0 => if isIo s0 then .no else .nx (L.set i s)
  | none => .no
def sSet (i : Nat) (m : Lo → R RV) : Lo → SR := fun L => match m L with
  | .ok rv L1 => match frz rv L1 with
    | some (d, L2) => putS i (.va d) L2
    | none => .no
  | .ex x L1 => .ex x L1
  | .no => .no
theorem ms_set {st : Stmt} {i : Nat} {m : Lo → R RV} (h : PS X st (tAsg (tE X.K g W m) (gName i))) : PS X st (tS X.K g W (sSet i m)) := h.weak fun D σ H ⟨io, F, P, L, r, h⟩ => by
  refine ⟨io, F, P, L, r, ?_⟩
  unfold sSet at h
  cases e : m L with
  | ok rv L1 =>
    rw [e] at h; try dsimp only at h
    intro P' H' v u r' hv
    cases e2 : frz rv L1 with
    | none => rw [e2] at h; exact h.elim
    | some q =>
      obtain ⟨d, L2⟩ := q
      rw [e2] at h; try dsimp only at h
      obtain ⟨P2, u2, r2, v2⟩ := r'.frz hv e2
      simp only [putS] at h
      cases e3 : L2[i]? with
      | none => rw [e3] at h; exact h.elim
      | some s0 =>
        rw [e3] at h
        try dsimp only at h
        cases e4 : isIo s0 with
        | true => rw [e4] at h; exact h.elim
        | false =>
          rw [e4] at h
          exact h P2 _ H' (u.trans u2) (r2.setVa e3 (isIo_ne e4) v2)
  | ex x L1 => rw [e] at h; exact fun P' H' c dd u r' e' => h P' σ H' c dd u r' e'
  | no => rw [e] at h; exact h
/-- a new list is the slot's own -/
def sSetF (i : Nat) (m : Lo → R (List D)) : Lo → SR := fun L => match m L with
  | .ok xs L1 => putS i (.li xs) L1
  | .ex x L1 => .ex x L1
  | .no => .no
theorem ms_setF {st : Stmt} {i : Nat} {m : Lo → R (List D)} (h : PS X st (tAsg (tF X.K g W m) (gName i))) : PS X st (tS X.K g W (sSetF i m)) := h.weak fun D σ H ⟨io, F, P, L, r, h⟩ => by
  refine ⟨io, F, P, L, r, ?_⟩
  unfold sSetF at h
  cases e : m L with
  | ok xs L1 =>
    rw [e] at h; try dsimp only at h
    intro P' H' a vs u r' e1 e2 e3 e4 e5
    simp only [putS] at h
    cases e6 : L1[i]? with
    | none => rw [e6] at h; exact h.elim
    | some s0 =>
      rw [e6] at h
      try dsimp only at h
      cases e7 : isIo s0 with
      | true => rw [e7] at h; exact h.elim
      | false =>
        rw [e7] at h
        exact h P' _ H' u (r'.set e6 (isIo_ne e7) (fun _ z => nomatch z) ⟨a, vs, rfl, e1, e2, e3, e5⟩ (fun c b z w j q => by
          cases z
          rcases w.2 with rfl | ⟨_, _, z, _⟩
          · exact e4 j q
          · cases z))
  | ex x L1 => rw [e] at h; exact fun P' H' c dd u r' e' => h P' σ H' c dd u r' e'
  | no => rw [e] at h; exact h
/-- a new list as a value -/
def eFz (m : Lo → R (List D)) : Lo → R RV := fun L => match m L with
  | .ok xs L1 => .ok (.v (.lst xs)) L1
  | .ex x L1 => .ex x L1
  | .no => .no
theorem me_fz {e : Expr} {m : Lo → R (List D)} (h : PE X e (tF X.K g W m)) : PE X e (tE X.K g W (eFz m)) := h.weak fun σ H Q ⟨io, F, P, L, r, h⟩ => by
  refine ⟨io, F, P, L, r, ?_⟩
  unfold eFz at h
  cases e : m L with
  | ok xs L1 =>
    rw [e] at h; try dsimp only at h
    intro P' H' a vs u r' e1 e2 e3 e4 e5
    exact h _ H' _ (u.trans (up_new e2)) (r'.add e1 e2 e3 e4) (.lst upd_same (e5.up (up_new e2)))
  | ex x L1 => rw [e] at h; exact h
  | no => rw [e] at h; exact h
def sDrop (m : Lo → R RV) : Lo → SR := fun L => match m L with
  | .ok _ L1 => .nx L1
  | .ex x L1 => .ex x L1
  | .no => .no
theorem ms_drop {st : Stmt} {m : Lo → R RV} (h : PS X st (tDrop (tE X.K g W m))) : PS X st (tS X.K g W (sDrop m)) := h.weak fun D σ H ⟨io, F, P, L, r, h⟩ => by
  refine ⟨io, F, P, L, r, ?_⟩
  unfold sDrop at h
  cases e : m L with
  | ok rv L1 => rw [e] at h; exact fun P' H' v u r' _ => h P' σ H' u r'
  | ex x L1 => rw [e] at h; exact fun P' H' c dd u r' e' => h P' σ H' c dd u r' e'
  | no => rw [e] at h; exact h
def sIf (c : Lo → R Bool) (a b : Lo → SR) : Lo → SR := fun L => match c L with
  | .ok true L1 => a L1
  | .ok false L1 => b L1
  | .ex x L1 => .ex x L1
  | .no => .no
theorem ms_if {st : Stmt} {c : Lo → R Bool} {a b : Lo → SR} (h : PS X st (tIfS (tT X.K g W c) (tS X.K g W a) (tS X.K g W b))) : PS X st (tS X.K g W (sIf c a b)) := h.weak fun D σ H ⟨io, F, P, L, r, h⟩ => by
  refine ⟨io, F, P, L, r, ?_⟩
  unfold sIf at h
  cases e : c L with
  | ok k L1 =>
    rw [e] at h; try dsimp only at h
    intro P' H' u r'
    cases k with
    | true => rw [if_pos rfl]; exact ⟨io, F, P', L1, r', SPost.up u h⟩
    | false => rw [if_neg (by decide)]; exact ⟨io, F, P', L1, r', SPost.up u h⟩
  | ex x L1 => rw [e] at h; exact fun P' H' c dd u r' e' => h P' σ H' c dd u r' e'
  | no => rw [e] at h; exact h
theorem ms_pass {st : Stmt} (h : PS X st tNext) : PS X st (tS X.K g W .nx) := h.weak fun D σ H ⟨io, F, P, L, r, h⟩ => h P σ H (.refl P) r
theorem ms_brk {st : Stmt} (h : PS X st tBreak) : PS X st (tS X.K g W .bk) := h.weak fun D σ H ⟨io, F, P, L, r, h⟩ => h P σ H (.refl P) r
theorem ms_cnt {st : Stmt} (h : PS X st tCont) : PS X st (tS X.K g W .ct) := h.weak fun D σ H ⟨io, F, P, L, r, h⟩ => h P σ H (.refl P) r

/-! ### raise -/
/-- X(), X an own class without own __init__ -/
theorem pmk_own0 {C : Addr} {bmB : List Value} {B newId initId : String} {x : Str} {p pos : Pos} (F : ExcBaseFacts B newId initId bmB) (q : PySem.W.excIn X.K C bmB newId = true) (gC : X.mg x = some (.ref C)) (kC : PySem.W.keepIn X.K (.ref C) = true) (r : Raises X (.ref C)) (hg : Gl X x)
    (hdb : (x == ("__debug__" : Str)) = false := by decide) : PMk X (.Call (.Name x p) [] [] pos) (fun _ H Q => Q (.ref C) none H) := by
  intro pins s σ H Q I h
  refine wpAny_Call_Name_kw (ld_glob I hg gC ?_ hdb)
  refine PySem.W.callWith_K0 I.kIn kC ?_
  show wpAny _ _ (call (.ref C) []) _ _ _
  obtain ⟨bm, N, nm, qn, bs, hdct, sn, sub, ab, col, dd, k0, k1, k2, k3, k5, mN, hC, hN, hni, T⟩ := exc_obj I.kIn q
  refine wpAny_call_exc_subT F T hC hN hni (fun h' e hm => ?_) (Nat.zero_le _)
  exact mk_of I hm r h (I.hok.gone hm.new)
theorem ms_raise0 {st : Stmt} {n : Nat} (h : PS X st (fun _ σ H => W (.ref (g.xa n)) none σ H)) : PS X st (tS X.K g W (fun L => .ex ⟨n, none⟩ L)) := h.weak fun D σ H ⟨io, F, P, L, r, h⟩ => h P σ H _ _ (.refl P) r ⟨rfl, rfl⟩

/-! ### expressions: names, constants -/
def eVar (i : Nat) : Lo → R RV := fun L => match L[i]? with
  | some (.va d) => .ok (.v d) L
  | some .un => .no
  | some (.l2 _) => .no
  | some _ => .ok (.s i) L
  | none => .no
theorem me_var {e : Expr} {i : Nat} (h : PE X e (tVar i)) : PE X e (tE X.K g W (eVar i)) := h.weak fun σ H Q ⟨io, F, P, L, r, h⟩ => by
  unfold eVar at h
  cases e : L[i]? with
  | none => rw [e] at h; exact h.elim
  | some s =>
    rw [e] at h
    have z := r.sl i s e
    cases s with
    | un => exact h.elim
    | va d => obtain ⟨v, e1, e2⟩ := z; exact ⟨v, e1, h P H v (.refl P) r e2⟩
    | li xs => obtain ⟨a, vs, e1, _⟩ := z; exact ⟨_, e1, h P H _ (.refl P) r e1⟩
    | io xs => obtain ⟨a, vs, e1, _⟩ := z; exact ⟨_, e1, h P H _ (.refl P) r e1⟩
    | di xs => obtain ⟨a, vs, e1, _⟩ := z; exact ⟨_, e1, h P H _ (.refl P) r e1⟩
    | l2 xs => exact h.elim
def eC (d : D) : Lo → R RV := fun L => .ok (.v d) L
theorem me_const {e : Expr} {v : V} {d : D} (h : PE X e (tC v)) (q : ∀ P, Val X.K g P v d) : PE X e (tE X.K g W (eC d)) := h.weak fun σ H Q ⟨io, F, P, L, r, h⟩ => h P H v (.refl P) r (q P)
theorem me_int {i : Int} {j pos} : PE X (.Constant (.int i) j pos) (tE X.K g W (eC (.int i))) := me_const pe_int fun _ => .int i
theorem me_str {x : Str} {j pos} : PE X (.Constant (.str x) j pos) (tE X.K g W (eC (.str x))) := me_const pe_str fun _ => .str x
theorem me_bl {b : Bool} {j pos} : PE X (.Constant (.bool b) j pos) (tE X.K g W (eC (.bl b))) := me_const pe_bl fun _ => .bl b
theorem me_non {j pos} : PE X (.Constant .none j pos) (tE X.K g W (eC .non)) := me_const pe_non fun _ => .non

/-! ### argument lists -/
def aNil : Lo → R (List RV) := fun L => .ok [] L
def aCons (m : Lo → R RV) (ms : Lo → R (List RV)) : Lo → R (List RV) := fun L => match m L with
  | .ok rv L1 => match ms L1 with
    | .ok rs L2 => .ok (rv :: rs) L2
    | .ex x L2 => .ex x L2
    | .no => .no
  | .ex x L1 => .ex x L1
  | .no => .no
theorem ma_nil : PA X [] (tA X.K g W aNil) := pa_nil.weak fun σ H Q ⟨io, F, P, L, r, h⟩ => h P H [] (.refl P) r trivial
theorem ma_cons {e : Expr} {es : List Expr} {m : Lo → R RV} {ms : Lo → R (List RV)} (ha : PE X e (tE X.K g W m)) (hr : PA X es (tA X.K g W ms)) (hs : starEach (e :: es) X.env = (false, eval e X.env) :: starEach es X.env := by rfl) : PA X (e :: es) (tA X.K g W (aCons m ms)) :=
  (pa_cons ha hr hs).weak fun σ H Q ⟨io, F, P, L, r, h⟩ => by
    refine ⟨io, F, P, L, r, ?_⟩
    unfold aCons at h
    cases e : m L with
    | ok rv L1 =>
      rw [e] at h
      intro P' H' v u r' hv
      refine ⟨io, F, P', L1, r', ?_⟩
      try dsimp only at h
      cases e2 : ms L1 with
      | ok rs L2 => rw [e2] at h; exact fun P2 H2 vs u2 r2 hvs => h P2 H2 (v :: vs) (u.trans u2) r2 ⟨hv.up u2, hvs⟩
      | ex x L2 => rw [e2] at h; exact XPost.up u h
      | no => rw [e2] at h; exact h
    | ex x L1 => rw [e] at h; exact h
    | no => rw [e] at h; exact h

/-! ### tuple displays -/
/-- all become values -/
def frzL : List RV → Lo → Option (List D × Lo)
  | [], L => some ([], L)
  | r :: rs, L => match frz r L with
    | some (d, L1) => match frzL rs L1 with
      | some (ds, L2) => some (d :: ds, L2)
      | none => none
    | none => none
theorem Rep.frzL {K : PySem.W.Frag} {g : Nm} {io : Option Addr} {F H : Hp} {σ : St} : ∀ {rs : List RV} {vs : List V} {ds : List D} {P : Hp} {L L' : Lo}, Rep K g io F P σ H L → RVokL K g P σ vs rs → frzL rs L = some (ds, L') → ∃ P', Up P P' ∧ Rep K g io F P' σ H L' ∧ ValL K g P' vs ds
  | [], [], ds, P, L, L', r, _, e => by cases e; exact ⟨P, .refl P, r, .nil⟩
  | rv :: rs, v :: vs, ds, P, L, L', r, h, e => by
    unfold Z.frzL at e
    split at e
    · next d L1 e1 =>
      split at e
      · next ds' L2 e2 =>
        cases e
        obtain ⟨P1, u1, r1, v1⟩ := r.frz h.1 e1
        obtain ⟨P2, u2, r2, v2⟩ := r1.frzL (h.2.up u1) e2
        exact ⟨P2, u1.trans u2, r2, .cons (v1.up u2) v2⟩
      · cases e
    · cases e
  | [], _ :: _, _, _, _, _, _, h, _ => h.elim
  | _ :: _, [], _, _, _, _, _, h, _ => h.elim
theorem Rep.grow_new {K : PySem.W.Frag} {g : Nm} {io : Option Addr} {F P H : Hp} {σ : St} {L : Lo} (r : Rep K g io F P σ H L) {p : Addr} {o : HO} (n : H p = none) : Grow P H (upd P p o) (upd H p o) where
  p := up_new (by cases q : P p with | none => rfl | some u => rw [r.ph p u q] at n; cases n)
  h := up_new n
  ph := fun b u q => by
    by_cases h : b = p
    · subst h; rw [upd_same] at q ⊢; exact q
    · rw [upd_ne h] at q ⊢; exact r.ph b u q
  new := fun b u e np _ => by rw [upd_ne (ne_of_none e n)]; exact np
/-- .. where P has nothing of it -/
theorem Rep.new0 {K : PySem.W.Frag} {g : Nm} {io : Option Addr} {F P H : Hp} {σ : St} {L : Lo} (r : Rep K g io F P σ H L) {p : Addr} {o : HO} (n : H p = none) : Rep K g io F P σ (upd H p o) L ∧ P p = none ∧ F p = none ∧ ∀ i, ¬ Own σ (upd H p o) L i p := by
  have np : P p = none := by cases q : P p with | none => rfl | some u => rw [r.ph p u q] at n; cases n
  have nf : F p = none := by cases q : F p with | none => rfl | some u => rw [r.fh p u q] at n; cases n
  have nxt : Nxt P H P (upd H p o) := ⟨.refl P, fun b u q => by rw [upd_ne (ne_of_none q np)]; exact r.ph b u q, fun b u e np _ => ⟨by rw [upd_ne (ne_of_none e n)]; exact e, np⟩⟩
  refine ⟨r.nxt nxt, np, nf, fun i w => ?_⟩
  have w' : Own σ H L i p := w.eq fun c wc => by
    obtain ⟨o', e1, e2, e3, e4⟩ := r.own wc
    exact ((nxt.keep c o' e1 e3 e2).1).trans e1.symm
  obtain ⟨o', e1, _⟩ := r.own w'
  rw [n] at e1; cases e1
def lineN : Nat := 1000000
theorem line_le {n : Nat} (h : n ≤ lineN) : n ≤ sizeLine := by
  have e : sizeLine = 16777216 := sizeLine_eq
  rw [e]; unfold lineN at h; omega
def eTup (ms : Lo → R (List RV)) : Lo → R RV := fun L => match ms L with
  | .ok rs L1 => match frzL rs L1 with
    | some (ds, L2) => if ds.length ≤ lineN then .ok (.v (.tup ds)) L2 else .no
    | none => .no
  | .ex x L1 => .ex x L1
  | .no => .no
theorem me_tup {es : List Expr} {k : Nat} {pos : Pos} {ms : Lo → R (List RV)} (h : PA X es (tA X.K g W ms)) : PE X (.Tuple es k pos) (tE X.K g W (eTup ms)) := (pe_tup h).weak fun σ H Q ⟨io, F, P, L, r, h⟩ => by
  refine ⟨io, F, P, L, r, ?_⟩
  unfold eTup at h
  cases e : ms L with
  | ok rs L1 =>
    rw [e] at h; try dsimp only at h
    intro P' H' vs u r' hv
    cases e2 : frzL rs L1 with
    | none => rw [e2] at h; exact h.elim
    | some q =>
      obtain ⟨ds, L2⟩ := q
      rw [e2] at h; try dsimp only at h
      obtain ⟨P2, u2, r2, v2⟩ := r'.frzL hv e2
      try dsimp only at h
      by_cases hl : ds.length ≤ lineN
      · rw [if_pos hl] at h; dsimp only at h
        refine ⟨by rw [v2.length]; exact line_le hl, fun p np => ?_⟩
        have gr := r2.grow_new (o := .tup vs) np
        exact h _ _ _ ((u.trans u2).trans gr.p) (r2.nxt gr.nxt) (.tup (.inl (.inl upd_same)) (v2.up gr.p))
      · rw [if_neg hl] at h; exact h.elim
  | ex x L1 => rw [e] at h; exact h
  | no => rw [e] at h; exact h
def fLst (ms : Lo → R (List RV)) : Lo → R (List D) := fun L => match ms L with
  | .ok rs L1 => match frzL rs L1 with
    | some (ds, L2) => if ds.length ≤ lineN then .ok ds L2 else .no
    | none => .no
  | .ex x L1 => .ex x L1
  | .no => .no
theorem mf_lst {es : List Expr} {pos : Pos} {ms : Lo → R (List RV)} (h : PA X es (tA X.K g W ms)) : PE X (.List es pos) (tF X.K g W (fLst ms)) := (pe_lst h).weak fun σ H Q ⟨io, F, P, L, r, h⟩ => by
  refine ⟨io, F, P, L, r, ?_⟩
  unfold fLst at h
  cases e : ms L with
  | ok rs L1 =>
    rw [e] at h; try dsimp only at h
    intro P' H' vs u r' hv
    cases e2 : frzL rs L1 with
    | none => rw [e2] at h; exact h.elim
    | some q =>
      obtain ⟨ds, L2⟩ := q
      rw [e2] at h; try dsimp only at h
      obtain ⟨P2, u2, r2, v2⟩ := r'.frzL hv e2
      try dsimp only at h
      by_cases hl : ds.length ≤ lineN
      · rw [if_pos hl] at h; dsimp only at h
        refine ⟨by rw [v2.length]; exact line_le hl, fun p np => ?_⟩
        obtain ⟨r3, n1, n2, n3⟩ := r2.new0 (o := .lst vs) np
        exact h P2 _ p vs (u.trans u2) r3 upd_same n1 n2 n3 v2
      · rw [if_neg hl] at h; exact h.elim
  | ex x L1 => rw [e] at h; exact h
  | no => rw [e] at h; exact h
end
end L2.Z

/-! part Z2 -/
set_option Elab.async false
set_option linter.all false
set_option maxRecDepth 100000
set_option maxHeartbeats 4000000
namespace L2.Z
open PySem PySem.Spec PyProof.Rows

def isB (r : RV) (L : Lo) : Bool := match r with
  | .v _ => false
  | .s i => match L[i]? with
    | some s => isOwn s
    | none => false
/-- what an operation on values does, by data -/
def Op1 (K : PySem.W.Frag) (g : Nm) (r : V → Hp → VK → Prop) (f : D → Option D) : Prop := ∀ P H x dx d Q, Up P H → VW K g P H x dx → f dx = some d → (∀ P' H' v, Grow P H P' H' → Val K g P' v d → Q v H') → r x H Q
def Op2 (K : PySem.W.Frag) (g : Nm) (r : R2) (f : D → D → Option D) : Prop := ∀ P H x y dx dy d Q, Up P H → VW K g P H x dx → VW K g P H y dy → f dx dy = some d → (∀ P' H' v, Grow P H P' H' → Val K g P' v d → Q v H') → r x y H Q
def OpN (K : PySem.W.Frag) (g : Nm) (r : List V → Hp → VK → Prop) (f : List D → Option D) : Prop := ∀ P H vs ds d Q, Up P H → VWL K g P H vs ds → f ds = some d → (∀ P' H' v, Grow P H P' H' → Val K g P' v d → Q v H') → r vs H Q
/-- .. that lays a new list -/
def OpF2 (K : PySem.W.Frag) (g : Nm) (r : R2) (f : D → D → Option (List D)) : Prop := ∀ P H x y dx dy ds Q, Up P H → VW K g P H x dx → VW K g P H y dy → f dx dy = some ds → (∀ p vs, H p = none → ValL K g P vs ds → Q (.ref p) (upd H p (.lst vs))) → r x y H Q
def OpFN (K : PySem.W.Frag) (g : Nm) (r : List V → Hp → VK → Prop) (f : List D → Option (List D)) : Prop := ∀ P H vs ds d Q, Up P H → VWL K g P H vs ds → f ds = some d → (∀ P' H' p ws, Grow P H P' H' → H' p = none → ValL K g P' ws d → Q (.ref p) (upd H' p (.lst ws))) → r vs H Q
def eOp1 (f : D → Option D) (a : Lo → R RV) : Lo → R RV := fun L => match a L with
  | .ok x L1 => match x.get L1 with
    | some dx => match f dx with
      | some d => .ok (.v d) L1
      | none => .no
    | none => .no
  | .ex x L1 => .ex x L1
  | .no => .no
def eOp2 (f : D → D → Option D) (a b : Lo → R RV) : Lo → R RV := fun L => match a L with
  | .ok x L1 => match b L1 with
    | .ok y L2 => match x.get L2, y.get L2 with
      | some dx, some dy => match f dx dy with
        | some d => .ok (.v d) L2
        | none => .no
      | _, _ => .no
    | .ex x L2 => .ex x L2
    | .no => .no
  | .ex x L1 => .ex x L1
  | .no => .no
def fOp2 (f : D → D → Option (List D)) (a b : Lo → R RV) : Lo → R (List D) := fun L => match a L with
  | .ok x L1 => match b L1 with
    | .ok y L2 => match x.get L2, y.get L2 with
      | some dx, some dy => match f dx dy with
        | some d => .ok d L2
        | none => .no
      | _, _ => .no
    | .ex x L2 => .ex x L2
    | .no => .no
  | .ex x L1 => .ex x L1
  | .no => .no
def eOpN (f : List D → Option D) (a : Lo → R (List RV)) : Lo → R RV := fun L => match a L with
  | .ok rs L1 => match getL L1 rs with
    | some ds => match f ds with
      | some d => .ok (.v d) L1
      | none => .no
    | none => .no
  | .ex x L1 => .ex x L1
  | .no => .no
def fOpN (f : List D → Option (List D)) (a : Lo → R (List RV)) : Lo → R (List D) := fun L => match a L with
  | .ok rs L1 => match getL L1 rs with
    | some ds => match f ds with
      | some d => .ok d L1
      | none => .no
    | none => .no
  | .ex x L1 => .ex x L1
  | .no => .no
section
variable {X : Cx} {g : Nm} {W : WX} {K : PySem.W.Frag}
theorem op1_w {r : V → Hp → VK → Prop} {f : D → Option D} (o : Op1 K g r f) {a : Lo → R RV} (σ : L2.St) (H : Hp) (Q : VK) (h : tE K g W (eOp1 f a) σ H Q) : tUn r (tE K g W a) σ H Q := by
  obtain ⟨io, F, P, L, q, h⟩ := h
  refine ⟨io, F, P, L, q, ?_⟩
  unfold eOp1 at h
  cases e : a L with
  | no => rw [e] at h; exact h
  | ex x L1 => rw [e] at h; exact h
  | ok x L1 =>
    rw [e] at h; dsimp only at h
    intro P' H' v u r' hv
    cases e2 : x.get L1 with
    | none => rw [e2] at h; exact h.elim
    | some dx =>
      rw [e2] at h; dsimp only at h
      cases e3 : f dx with
      | none => rw [e3] at h; exact h.elim
      | some d =>
        rw [e3] at h; dsimp only at h
        exact o P' H' v dx d Q r'.ph (r'.vw hv e2) e3 fun P2 H2 w gr hw => h P2 H2 w (u.trans gr.p) (r'.nxt gr.nxt) hw
theorem op2_w {r : R2} {f : D → D → Option D} (o : Op2 K g r f) {a b : Lo → R RV} (σ : L2.St) (H : Hp) (Q : VK) (h : tE K g W (eOp2 f a b) σ H Q) : tOp r (tE K g W a) (tE K g W b) σ H Q := by
  obtain ⟨io, F, P, L, q, h⟩ := h
  refine ⟨io, F, P, L, q, ?_⟩
  unfold eOp2 at h
  cases e : a L with
  | no => rw [e] at h; exact h
  | ex x L1 => rw [e] at h; exact h
  | ok x L1 =>
    rw [e] at h; dsimp only at h
    intro P' H' v u r' hv
    refine ⟨io, F, P', L1, r', ?_⟩
    cases e1 : b L1 with
    | no => rw [e1] at h; exact h
    | ex x L1 => rw [e1] at h; exact XPost.up u h
    | ok y L2 =>
      rw [e1] at h; dsimp only at h
      intro P2 H2 w u2 r2 hw
      cases e2 : x.get L2 with
      | none => rw [e2] at h; exact h.elim
      | some dx =>
        cases e4 : y.get L2 with
        | none => rw [e2, e4] at h; exact h.elim
        | some dy =>
          rw [e2, e4] at h; dsimp only at h
          cases e3 : f dx dy with
          | none => rw [e3] at h; exact h.elim
          | some d =>
            rw [e3] at h; dsimp only at h
            exact o P2 H2 v w dx dy d Q r2.ph (r2.vw (hv.up u2) e2) (r2.vw hw e4) e3 fun P3 H3 w gr hw => h P3 H3 w ((u.trans u2).trans gr.p) (r2.nxt gr.nxt) hw
theorem opF2_w {r : R2} {f : D → D → Option (List D)} (o : OpF2 K g r f) {a b : Lo → R RV} (σ : L2.St) (H : Hp) (Q : VK) (h : tF K g W (fOp2 f a b) σ H Q) : tOp r (tE K g W a) (tE K g W b) σ H Q := by
  obtain ⟨io, F, P, L, q, h⟩ := h
  refine ⟨io, F, P, L, q, ?_⟩
  unfold fOp2 at h
  cases e : a L with
  | no => rw [e] at h; exact h
  | ex x L1 => rw [e] at h; exact h
  | ok x L1 =>
    rw [e] at h; dsimp only at h
    intro P' H' v u r' hv
    refine ⟨io, F, P', L1, r', ?_⟩
    cases e1 : b L1 with
    | no => rw [e1] at h; exact h
    | ex x L1 => rw [e1] at h; exact XPost.up u h
    | ok y L2 =>
      rw [e1] at h; dsimp only at h
      intro P2 H2 w u2 r2 hw
      cases e2 : x.get L2 with
      | none => rw [e2] at h; exact h.elim
      | some dx =>
        cases e4 : y.get L2 with
        | none => rw [e2, e4] at h; exact h.elim
        | some dy =>
          rw [e2, e4] at h; dsimp only at h
          cases e3 : f dx dy with
          | none => rw [e3] at h; exact h.elim
          | some d =>
            rw [e3] at h; dsimp only at h
            refine o P2 H2 v w dx dy d Q r2.ph (r2.vw (hv.up u2) e2) (r2.vw hw e4) e3 fun p vs np hvs => ?_
            obtain ⟨r3, n1, n2, n3⟩ := r2.new0 (o := .lst vs) np
            exact h P2 _ p vs (u.trans u2) r3 upd_same n1 n2 n3 hvs
theorem opN_w {r : List V → Hp → VK → Prop} {f : List D → Option D} (o : OpN K g r f) {a : Lo → R (List RV)} (σ : L2.St) (H : Hp) (Q : VK) (h : tE K g W (eOpN f a) σ H Q) : tCB r (tA K g W a) σ H Q := by
  obtain ⟨io, F, P, L, q, h⟩ := h
  refine ⟨io, F, P, L, q, ?_⟩
  unfold eOpN at h
  cases e : a L with
  | no => rw [e] at h; exact h
  | ex x L1 => rw [e] at h; exact h
  | ok x L1 =>
    rw [e] at h; dsimp only at h
    intro P' H' v u r' hv
    cases e2 : getL L1 x with
    | none => rw [e2] at h; exact h.elim
    | some dx =>
      rw [e2] at h; dsimp only at h
      cases e3 : f dx with
      | none => rw [e3] at h; exact h.elim
      | some d =>
        rw [e3] at h; dsimp only at h
        exact o P' H' v dx d Q r'.ph (r'.vwL hv e2) e3 fun P2 H2 w gr hw => h P2 H2 w (u.trans gr.p) (r'.nxt gr.nxt) hw
theorem opFN_w {r : List V → Hp → VK → Prop} {f : List D → Option (List D)} (o : OpFN K g r f) {a : Lo → R (List RV)} (σ : L2.St) (H : Hp) (Q : VK) (h : tF K g W (fOpN f a) σ H Q) : tCB r (tA K g W a) σ H Q := by
  obtain ⟨io, F, P, L, q, h⟩ := h
  refine ⟨io, F, P, L, q, ?_⟩
  unfold fOpN at h
  cases e : a L with
  | no => rw [e] at h; exact h
  | ex x L1 => rw [e] at h; exact h
  | ok x L1 =>
    rw [e] at h; dsimp only at h
    intro P' H' v u r' hv
    cases e2 : getL L1 x with
    | none => rw [e2] at h; exact h.elim
    | some dx =>
      rw [e2] at h; dsimp only at h
      cases e3 : f dx with
      | none => rw [e3] at h; exact h.elim
      | some d =>
        rw [e3] at h; dsimp only at h
        refine o P' H' v dx d Q r'.ph (r'.vwL hv e2) e3 fun P2 H2 p vs gr np hvs => ?_
        obtain ⟨r3, n1, n2, n3⟩ := (r'.nxt gr.nxt).new0 (o := .lst vs) np
        exact h P2 _ p vs (u.trans gr.p) r3 upd_same n1 n2 n3 hvs
theorem me_op1 {e : Expr} {r : V → Hp → VK → Prop} {f : D → Option D} {a : Lo → R RV} (h : PE X e (tUn r (tE X.K g W a))) (o : Op1 X.K g r f) : PE X e (tE X.K g W (eOp1 f a)) := h.weak (op1_w o)
theorem me_op2 {e : Expr} {r : R2} {f : D → D → Option D} {a b : Lo → R RV} (h : PE X e (tOp r (tE X.K g W a) (tE X.K g W b))) (o : Op2 X.K g r f) : PE X e (tE X.K g W (eOp2 f a b)) := h.weak (op2_w o)
theorem mf_op2 {e : Expr} {r : R2} {f : D → D → Option (List D)} {a b : Lo → R RV} (h : PE X e (tOp r (tE X.K g W a) (tE X.K g W b))) (o : OpF2 X.K g r f) : PE X e (tF X.K g W (fOp2 f a b)) := h.weak (opF2_w o)
theorem me_opN {e : Expr} {r : List V → Hp → VK → Prop} {f : List D → Option D} {a : Lo → R (List RV)} (h : PE X e (tCB r (tA X.K g W a))) (o : OpN X.K g r f) : PE X e (tE X.K g W (eOpN f a)) := h.weak (opN_w o)
theorem mf_opN {e : Expr} {r : List V → Hp → VK → Prop} {f : List D → Option (List D)} {a : Lo → R (List RV)} (h : PE X e (tCB r (tA X.K g W a))) (o : OpFN X.K g r f) : PE X e (tF X.K g W (fOpN f a)) := h.weak (opFN_w o)

/-! ### truth -/
def tBl (m : Lo → R RV) : Lo → R Bool := fun L => match m L with
  | .ok rv L1 => match rv.get L1 with
    | some (.bl b) => .ok b L1
    | _ => .no
  | .ex x L1 => .ex x L1
  | .no => .no
theorem bl_w {m : Lo → R RV} (σ : L2.St) (H : Hp) (Q : Bool → Hp → Prop) (h : tT K g W (tBl m) σ H Q) : tTest (tE K g W m) σ H Q := by
  obtain ⟨io, F, P, L, q, h⟩ := h
  refine ⟨io, F, P, L, q, ?_⟩
  unfold tBl at h
  cases e : m L with
  | no => rw [e] at h; exact h
  | ex x L1 => rw [e] at h; exact h
  | ok x L1 =>
    rw [e] at h; dsimp only at h
    intro P' H' v u r' hv
    cases e2 : x.get L1 with
    | none => rw [e2] at h; exact h.elim
    | some dx =>
      rw [e2] at h
      have w := r'.vw hv e2
      cases dx with
      | bl b =>
        cases w with
        | va w => cases w; exact ⟨b, rfl, h P' H' u r'⟩
      | _ => exact h.elim
theorem mt_val {e : Expr} {m : Lo → R RV} (h : PT X e (tTest (tE X.K g W m))) : PT X e (tT X.K g W (tBl m)) := h.weak bl_w
theorem mt_valB {e : Expr} {m : Lo → R RV} (h : PT X e (tB (tE X.K g W m))) : PT X e (tT X.K g W (tBl m)) := h.weak bl_w
theorem mt_op2 {e : Expr} {r : R2} {f : D → D → Option D} {a b : Lo → R RV} (h : PT X e (tTest (tOp r (tE X.K g W a) (tE X.K g W b)))) (o : Op2 X.K g r f) : PT X e (tT X.K g W (tBl (eOp2 f a b))) := h.weak fun σ H Q q => op2_w o σ H _ (bl_w σ H Q q)
def tAnd2 (a b : Lo → R Bool) : Lo → R Bool := fun L => match a L with
  | .ok true L1 => b L1
  | .ok false L1 => .ok false L1
  | .ex x L1 => .ex x L1
  | .no => .no
def tOr2 (a b : Lo → R Bool) : Lo → R Bool := fun L => match a L with
  | .ok true L1 => .ok true L1
  | .ok false L1 => b L1
  | .ex x L1 => .ex x L1
  | .no => .no
def tNt (a : Lo → R Bool) : Lo → R Bool := fun L => match a L with
  | .ok b L1 => .ok (!b) L1
  | .ex x L1 => .ex x L1
  | .no => .no
theorem and_w {a b : Lo → R Bool} (σ : L2.St) (H : Hp) (Q : Bool → Hp → Prop) (h : tT K g W (tAnd2 a b) σ H Q) : tAnd (tT K g W a) (tT K g W b) σ H Q := by
  obtain ⟨io, F, P, L, q, h⟩ := h
  refine ⟨io, F, P, L, q, ?_⟩
  unfold tAnd2 at h
  cases e : a L with
  | no => rw [e] at h; exact h
  | ex x L1 => rw [e] at h; exact h
  | ok k L1 =>
    rw [e] at h
    intro P' H' u r'
    cases k with
    | false => rw [if_neg (by decide)]; exact h P' H' u r'
    | true =>
      rw [if_pos rfl]
      refine ⟨io, F, P', L1, r', ?_⟩
      dsimp only at h
      cases e2 : b L1 with
      | no => rw [e2] at h; exact h
      | ex x L1 => rw [e2] at h; exact XPost.up u h
      | ok k2 L2 => rw [e2] at h; exact fun P2 H2 u2 r2 => h P2 H2 (u.trans u2) r2
theorem or_w {a b : Lo → R Bool} (σ : L2.St) (H : Hp) (Q : Bool → Hp → Prop) (h : tT K g W (tOr2 a b) σ H Q) : tOr (tT K g W a) (tT K g W b) σ H Q := by
  obtain ⟨io, F, P, L, q, h⟩ := h
  refine ⟨io, F, P, L, q, ?_⟩
  unfold tOr2 at h
  cases e : a L with
  | no => rw [e] at h; exact h
  | ex x L1 => rw [e] at h; exact h
  | ok k L1 =>
    rw [e] at h
    intro P' H' u r'
    cases k with
    | true => rw [if_pos rfl]; exact h P' H' u r'
    | false =>
      rw [if_neg (by decide)]
      refine ⟨io, F, P', L1, r', ?_⟩
      dsimp only at h
      cases e2 : b L1 with
      | no => rw [e2] at h; exact h
      | ex x L1 => rw [e2] at h; exact XPost.up u h
      | ok k2 L2 => rw [e2] at h; exact fun P2 H2 u2 r2 => h P2 H2 (u.trans u2) r2
theorem not_w {a : Lo → R Bool} (σ : L2.St) (H : Hp) (Q : Bool → Hp → Prop) (h : tT K g W (tNt a) σ H Q) : tNot (tT K g W a) σ H Q := by
  obtain ⟨io, F, P, L, q, h⟩ := h
  refine ⟨io, F, P, L, q, ?_⟩
  unfold tNt at h
  cases e : a L with
  | no => rw [e] at h; exact h
  | ex x L1 => rw [e] at h; exact h
  | ok k L1 => rw [e] at h; exact h
variable {a b : Expr} {rest : List Expr} {pos : Pos}
theorem mw_and1 {m : Lo → R Bool} (h : PT X a (tT X.K g W m)) : PW X (.BoolOp .And [a] pos) (tT X.K g W m) := pw_and1 h
theorem mw_or1 {m : Lo → R Bool} (h : PT X a (tT X.K g W m)) : PW X (.BoolOp .Or [a] pos) (tT X.K g W m) := pw_or1 h
theorem mw_and {m n : Lo → R Bool} (h : PT X a (tT X.K g W m)) (h2 : PW X (.BoolOp .And (b :: rest) pos) (tT X.K g W n)) : PW X (.BoolOp .And (a :: b :: rest) pos) (tT X.K g W (tAnd2 m n)) := (pw_and h h2).weak and_w
theorem mw_or {m n : Lo → R Bool} (h : PT X a (tT X.K g W m)) (h2 : PW X (.BoolOp .Or (b :: rest) pos) (tT X.K g W n)) : PW X (.BoolOp .Or (a :: b :: rest) pos) (tT X.K g W (tOr2 m n)) := (pw_or h h2).weak or_w
theorem mt_not {m : Lo → R Bool} (h : PT X a (tT X.K g W m)) : PT X (.UnaryOp .Not a pos) (tT X.K g W (tNt m)) := (pt_not h).weak not_w
/-! as values -/
def eAnd (a b : Lo → R RV) : Lo → R RV := fun L => match a L with
  | .ok rv L1 => match rv.get L1 with
    | some (.bl true) => b L1
    | some (.bl false) => .ok (.v (.bl false)) L1
    | _ => .no
  | .ex x L1 => .ex x L1
  | .no => .no
def eOr (a b : Lo → R RV) : Lo → R RV := fun L => match a L with
  | .ok rv L1 => match rv.get L1 with
    | some (.bl true) => .ok (.v (.bl true)) L1
    | some (.bl false) => b L1
    | _ => .no
  | .ex x L1 => .ex x L1
  | .no => .no
theorem eAnd_w {a b : Lo → R RV} (σ : L2.St) (H : Hp) (Q : VK) (h : tE K g W (eAnd a b) σ H Q) : tAndV (tE K g W a) (tE K g W b) σ H Q := by
  obtain ⟨io, F, P, L, q, h⟩ := h
  refine ⟨io, F, P, L, q, ?_⟩
  unfold eAnd at h
  cases e : a L with
  | no => rw [e] at h; exact h
  | ex x L1 => rw [e] at h; exact h
  | ok x L1 =>
    rw [e] at h; dsimp only at h
    intro P' H' v u r' hv
    cases e2 : x.get L1 with
    | none => rw [e2] at h; exact h.elim
    | some dx =>
      rw [e2] at h
      have w := r'.vw hv e2
      cases dx with
      | bl k =>
        cases w with
        | va w =>
          cases w
          refine ⟨k, rfl, ?_⟩
          cases k with
          | false => rw [if_neg (by decide)]; exact h P' H' _ u r' (.bl false)
          | true =>
            rw [if_pos rfl]
            refine ⟨io, F, P', L1, r', ?_⟩
            dsimp only at h
            cases e3 : b L1 with
            | no => rw [e3] at h; exact h
            | ex x L1 => rw [e3] at h; exact XPost.up u h
            | ok k2 L2 => rw [e3] at h; exact fun P2 H2 w u2 r2 => h P2 H2 w (u.trans u2) r2
      | _ => exact h.elim
theorem eOr_w {a b : Lo → R RV} (σ : L2.St) (H : Hp) (Q : VK) (h : tE K g W (eOr a b) σ H Q) : tOrV (tE K g W a) (tE K g W b) σ H Q := by
  obtain ⟨io, F, P, L, q, h⟩ := h
  refine ⟨io, F, P, L, q, ?_⟩
  unfold eOr at h
  cases e : a L with
  | no => rw [e] at h; exact h
  | ex x L1 => rw [e] at h; exact h
  | ok x L1 =>
    rw [e] at h; dsimp only at h
    intro P' H' v u r' hv
    cases e2 : x.get L1 with
    | none => rw [e2] at h; exact h.elim
    | some dx =>
      rw [e2] at h
      have w := r'.vw hv e2
      cases dx with
      | bl k =>
        cases w with
        | va w =>
          cases w
          refine ⟨k, rfl, ?_⟩
          cases k with
          | true => rw [if_pos rfl]; exact h P' H' _ u r' (.bl true)
          | false =>
            rw [if_neg (by decide)]
            refine ⟨io, F, P', L1, r', ?_⟩
            dsimp only at h
            cases e3 : b L1 with
            | no => rw [e3] at h; exact h
            | ex x L1 => rw [e3] at h; exact XPost.up u h
            | ok k2 L2 => rw [e3] at h; exact fun P2 H2 w u2 r2 => h P2 H2 w (u.trans u2) r2
      | _ => exact h.elim
theorem me_one {op : BoolOp} {m : Lo → R RV} (h : PE X a (tE X.K g W m)) : PE X (.BoolOp op [a] pos) (tE X.K g W m) := pe_one h
theorem me_and {m n : Lo → R RV} (h : PE X a (tE X.K g W m)) (h2 : PE X (.BoolOp .And (b :: rest) pos) (tE X.K g W n)) : PE X (.BoolOp .And (a :: b :: rest) pos) (tE X.K g W (eAnd m n)) := (pe_and h h2).weak eAnd_w
theorem me_or {m n : Lo → R RV} (h : PE X a (tE X.K g W m)) (h2 : PE X (.BoolOp .Or (b :: rest) pos) (tE X.K g W n)) : PE X (.BoolOp .Or (a :: b :: rest) pos) (tE X.K g W (eOr m n)) := (pe_or h h2).weak eOr_w
def eNot (m : Lo → R RV) : Lo → R RV := fun L => match m L with
  | .ok rv L1 => match rv.get L1 with
    | some (.bl b) => .ok (.v (.bl (!b))) L1
    | _ => .no
  | .ex x L1 => .ex x L1
  | .no => .no
theorem me_not {m : Lo → R RV} (h : PE X a (tE X.K g W m)) : PE X (.UnaryOp .Not a pos) (tE X.K g W (eNot m)) := (pe_not h).weak fun σ H Q ⟨io, F, P, L, q, h⟩ => by
  refine ⟨io, F, P, L, q, ?_⟩
  unfold eNot at h
  cases e : m L with
  | no => rw [e] at h; exact h
  | ex x L1 => rw [e] at h; exact h
  | ok x L1 =>
    rw [e] at h; dsimp only at h
    intro P' H' v u r' hv
    cases e2 : x.get L1 with
    | none => rw [e2] at h; exact h.elim
    | some dx =>
      rw [e2] at h
      have w := r'.vw hv e2
      cases dx with
      | bl k =>
        cases w with
        | va w => cases w; exact ⟨k, rfl, h P' H' _ u r' (.bl _)⟩
      | _ => exact h.elim
def eIf (c : Lo → R Bool) (a b : Lo → R RV) : Lo → R RV := fun L => match c L with
  | .ok true L1 => a L1
  | .ok false L1 => b L1
  | .ex x L1 => .ex x L1
  | .no => .no
theorem me_if {c a b : Expr} {k : Lo → R Bool} {m n : Lo → R RV} (hc : PT X c (tT X.K g W k)) (ha : PE X a (tE X.K g W m)) (hb : PE X b (tE X.K g W n)) : PE X (.IfExp c a b pos) (tE X.K g W (eIf k m n)) := (pe_ifExp hc ha hb).weak fun σ H Q ⟨io, F, P, L, q, h⟩ => by
  refine ⟨io, F, P, L, q, ?_⟩
  unfold eIf at h
  cases e : k L with
  | no => rw [e] at h; exact h
  | ex x L1 => rw [e] at h; exact h
  | ok b L1 =>
    rw [e] at h
    intro P' H' u r'
    cases b with
    | true =>
      rw [if_pos rfl]
      refine ⟨io, F, P', L1, r', ?_⟩
      dsimp only at h
      cases e2 : m L1 with
      | no => rw [e2] at h; exact h
      | ex x L1 => rw [e2] at h; exact XPost.up u h
      | ok k2 L2 => rw [e2] at h; exact fun P2 H2 w u2 r2 => h P2 H2 w (u.trans u2) r2
    | false =>
      rw [if_neg (by decide)]
      refine ⟨io, F, P', L1, r', ?_⟩
      dsimp only at h
      cases e2 : n L1 with
      | no => rw [e2] at h; exact h
      | ex x L1 => rw [e2] at h; exact XPost.up u h
      | ok k2 L2 => rw [e2] at h; exact fun P2 H2 w u2 r2 => h P2 H2 w (u.trans u2) r2
/-! a op b op' c -/
def eChain (f f' : D → D → Option D) (a b c : Lo → R RV) : Lo → R RV := fun L => match a L with
  | .ok x L1 => match b L1 with
    | .ok y L2 => match x.get L2, y.get L2 with
      | some dx, some dy => match f dx dy with
        | some (.bl true) => match c L2 with
          | .ok z L3 => match y.get L3, z.get L3 with
            | some dy, some dz => match f' dy dz with
              | some d => .ok (.v d) L3
              | none => .no
            | _, _ => .no
          | .ex x L3 => .ex x L3
          | .no => .no
        | some (.bl false) => .ok (.v (.bl false)) L2
        | _ => .no
      | _, _ => .no
    | .ex x L2 => .ex x L2
    | .no => .no
  | .ex x L1 => .ex x L1
  | .no => .no
theorem chain_w {r r' : R2} {f f' : D → D → Option D} (o : Op2 K g r f) (o' : Op2 K g r' f') {a b c : Lo → R RV} (σ : L2.St) (H : Hp) (Q : VK) (h : tE K g W (eChain f f' a b c) σ H Q) : tChain r r' (tE K g W a) (tE K g W b) (tE K g W c) σ H Q := by
  obtain ⟨io, F, P, L, q, h⟩ := h
  refine ⟨io, F, P, L, q, ?_⟩
  unfold eChain at h
  cases e : a L with
  | no => rw [e] at h; exact h
  | ex x L1 => rw [e] at h; exact h
  | ok x L1 =>
    rw [e] at h; dsimp only at h
    intro P' H' v u r' hv
    refine ⟨io, F, P', L1, r', ?_⟩
    cases e1 : b L1 with
    | no => rw [e1] at h; exact h
    | ex x L1 => rw [e1] at h; exact XPost.up u h
    | ok y L2 =>
      rw [e1] at h; dsimp only at h
      intro P2 H2 w u2 r2 hw
      cases e2 : x.get L2 with
      | none => rw [e2] at h; exact h.elim
      | some dx =>
        cases e4 : y.get L2 with
        | none => rw [e2, e4] at h; exact h.elim
        | some dy =>
          rw [e2, e4] at h; dsimp only at h
          cases e3 : f dx dy with
          | none => rw [e3] at h; exact h.elim
          | some d =>
            rw [e3] at h
            refine o P2 H2 v w dx dy d _ r2.ph (r2.vw (hv.up u2) e2) (r2.vw hw e4) e3 fun P3 H3 z gr hz => ?_
            have r3 := r2.nxt gr.nxt
            cases d with
            | bl k =>
              cases hz
              refine ⟨k, rfl, ?_⟩
              cases k with
              | false => rw [if_neg (by decide)]; exact h P3 H3 _ ((u.trans u2).trans gr.p) r3 (.bl false)
              | true =>
                rw [if_pos rfl]
                refine ⟨io, F, P3, L2, r3, ?_⟩
                dsimp only at h
                cases e5 : c L2 with
                | no => rw [e5] at h; exact h
                | ex x L1 => rw [e5] at h; exact XPost.up ((u.trans u2).trans gr.p) h
                | ok z L3 =>
                  rw [e5] at h; dsimp only at h
                  intro P4 H4 z' u4 r4 hz'
                  cases e6 : y.get L3 with
                  | none => rw [e6] at h; exact h.elim
                  | some dy' =>
                    cases e7 : z.get L3 with
                    | none => rw [e6, e7] at h; exact h.elim
                    | some dz =>
                      rw [e6, e7] at h; dsimp only at h
                      cases e8 : f' dy' dz with
                      | none => rw [e8] at h; exact h.elim
                      | some d' =>
                        rw [e8] at h
                        exact o' P4 H4 w z' dy' dz d' Q r4.ph (r4.vw (hw.up (gr.p.trans u4)) e6) (r4.vw hz' e7) e8 fun P5 H5 w5 gr5 hw5 => h P5 H5 w5 ((((u.trans u2).trans gr.p).trans u4).trans gr5.p) (r4.nxt gr5.nxt) hw5
            | _ => exact h.elim
theorem me_chain {e : Expr} {r r' : R2} {f f' : D → D → Option D} {a b c : Lo → R RV} (h : PE X e (tChain r r' (tE X.K g W a) (tE X.K g W b) (tE X.K g W c))) (o : Op2 X.K g r f) (o' : Op2 X.K g r' f') : PE X e (tE X.K g W (eChain f f' a b c)) := h.weak (chain_w o o')
theorem mt_chain {e : Expr} {r r' : R2} {f f' : D → D → Option D} {a b c : Lo → R RV} (h : PT X e (tTest (tChain r r' (tE X.K g W a) (tE X.K g W b) (tE X.K g W c)))) (o : Op2 X.K g r f) (o' : Op2 X.K g r' f') : PT X e (tT X.K g W (tBl (eChain f f' a b c))) := h.weak fun σ H Q q => chain_w o o' σ H _ (bl_w σ H Q q)
end
end L2.Z

/-! part Z3 -/
set_option Elab.async false
set_option linter.all false
set_option maxRecDepth 100000
set_option maxHeartbeats 4000000
namespace L2.Z
open PySem PySem.Spec PyProof.Rows

/-! ### frames -/
section
variable {K : PySem.W.Frag} {g : Nm} {io : Option Addr} {F P H : Hp} {σ : St} {L : Lo}
/-- an object outside is kept as it is from now on -/
theorem Rep.frame (r : Rep K g io F P σ H L) {a : Addr} {o : HO} (e : H a = some o) (ep : P a = none) (nt : ¬ isTup o) (no : ∀ i, ¬ Own σ H L i a) : Rep K g io (upd F a o) P σ H L :=
  r.chg r.ph (fun b u q => by
    by_cases h : b = a
    · subst h; rw [upd_same] at q; cases q; exact e
    · rw [upd_ne h] at q; exact r.fh b u q) (fun b u q => by
    by_cases h : b = a
    · subst h; rw [upd_same] at q; cases q; exact ⟨ep, nt⟩
    · rw [upd_ne h] at q; exact r.fp b u q) (.refl P) fun i b w => by
    have nb : b ≠ a := fun z => no i (z ▸ w)
    obtain ⟨o', e1, e2, e3, e4⟩ := r.own w
    exact ⟨rfl, e3, by rw [upd_ne nb]; exact e4⟩
theorem Rep.noOwn (r : Rep K g io F P σ H L) {a : Addr} {o : HO} (e : F a = some o) : ∀ i, ¬ Own σ H L i a := fun i w => by
  obtain ⟨o', e1, e2, e3, e4⟩ := r.own w
  rw [e] at e4; cases e4
/-- less is kept -/
theorem Rep.less {F' : Hp} (r : Rep K g io F P σ H L) (u : Up F' F) : Rep K g io F' P σ H L :=
  r.chg r.ph (u.trans r.fh) (fun b o q => r.fp b o (u b o q)) (.refl P) fun i b w => by
    obtain ⟨o', e1, e2, e3, e4⟩ := r.own w
    refine ⟨rfl, e3, ?_⟩
    cases q : F' b with
    | none => rfl
    | some o => rw [u b o q] at e4; cases e4
/-- the framed object is changed (by us) -/
theorem Rep.reframe {a : Addr} {o o' : HO} (r : Rep K g io (upd F a o) P σ H L) (nt : ¬ isTup o') : Rep K g io (upd F a o') P σ (upd H a o') L := by
  have n := r.noOwn (upd_same (a := a))
  have ep := (r.fp a o upd_same).1
  refine r.chg (fun b u q => by rw [upd_ne (ne_of_none q ep)]; exact r.ph b u q) (fun b u q => ?_) (fun b u q => ?_) (.refl P) fun i b w => ?_
  · by_cases h : b = a
    · subst h; rw [upd_same] at q ⊢; exact q
    · rw [upd_ne h] at q ⊢; exact r.fh b u (by rw [upd_ne h]; exact q)
  · by_cases h : b = a
    · subst h; rw [upd_same] at q; cases q; exact ⟨ep, nt⟩
    · rw [upd_ne h] at q; exact r.fp b u (by rw [upd_ne h]; exact q)
  · have nb : b ≠ a := fun z => n i (z ▸ w)
    obtain ⟨o', e1, e2, e3, e4⟩ := r.own w
    rw [upd_ne nb] at e4
    exact ⟨by rw [upd_ne nb], e3, by rw [upd_ne nb]; exact e4⟩
end

/-! ### calls of defs -/
mutual
def D.flat : D → Bool
  | .tup xs => flatL xs
  | .lst _ => false
  | .dct _ => false
  | .scr _ => false
  | _ => true
def flatL : List D → Bool
  | [] => true
  | x :: xs => x.flat && flatL xs
end
section
variable {K : PySem.W.Frag} {g : Nm} {P P' : Hp}
theorem sqT_of (u : ∀ a o, P a = some o → isTup o → P' a = some o) {a : Addr} {xs : List V} (h : SqT K P a xs) : SqT K P' a xs := by
  rcases h with (h | ⟨o, h⟩) | h
  · exact .inl (.inl (u _ _ h trivial))
  · exact .inl (.inr ⟨o, u _ _ h trivial⟩)
  · exact .inr h
mutual
theorem Val.flat (u : ∀ a o, P a = some o → isTup o → P' a = some o) : ∀ {v : V} {d : D}, Val K g P v d → d.flat = true → Val K g P' v d
  | _, _, .non, _ => .non
  | _, _, .bl b, _ => .bl b
  | _, _, .int i, _ => .int i
  | _, _, .str x, _ => .str x
  | _, _, .tup h r, f => .tup (sqT_of u h) (ValL.flat u r (by unfold D.flat at f; exact f))
  | _, _, .lst h r, f => by unfold D.flat at f; cases f
  | _, _, .scr _ h, f => by unfold D.flat at f; cases f
  | _, _, .dT h e r, f => by unfold D.flat at f; cases f
  | _, _, .dK h e r, f => by unfold D.flat at f; cases f
  | _, _, .fn n, _ => .fn n
theorem ValL.flat (u : ∀ a o, P a = some o → isTup o → P' a = some o) : ∀ {v : List V} {d : List D}, ValL K g P v d → flatL d = true → ValL K g P' v d
  | _, _, .nil, _ => .nil
  | _, _, .cons a b, f => by
    unfold flatL at f
    rw [Bool.and_eq_true] at f
    exact .cons (Val.flat u a f.1) (ValL.flat u b f.2)
end
end
section
open Classical
/-- P with the tuples of P' -/
noncomputable def withTups (P P' : Hp) : Hp := fun a => match P a with
  | some o => some o
  | none => match P' a with
    | some o => if isTup o then some o else none
    | none => none
theorem withTups_of {P P' : Hp} {a : Addr} {o : HO} (e : P a = some o) : withTups P P' a = some o := by unfold withTups; rw [e]
theorem withTups_tup {P P' : Hp} (u : ∀ a o, P a = some o → P' a = some o) {a : Addr} {o : HO} (e : P' a = some o) (t : isTup o) : withTups P P' a = some o := by
  unfold withTups
  cases q : P a with
  | some z => rw [u a z q] at e; cases e; rfl
  | none => dsimp only; rw [e]; dsimp only; rw [if_pos t]
theorem withTups_cases {P P' : Hp} {a : Addr} {o : HO} (e : withTups P P' a = some o) : P a = some o ∨ (P a = none ∧ P' a = some o ∧ isTup o) := by
  unfold withTups at e
  cases q : P a with
  | some z => rw [q] at e; cases e; exact .inl rfl
  | none =>
    rw [q] at e; dsimp only at e
    cases q2 : P' a with
    | none => rw [q2] at e; cases e
    | some z =>
      rw [q2] at e; dsimp only at e
      by_cases t : isTup z
      · rw [if_pos t] at e; cases e; exact .inr ⟨rfl, rfl, t⟩
      · rw [if_neg t] at e; cases e
theorem Nxt.flat {P H P' H' : Hp} (ph : Up P H) (x : Nxt H H P' H') : Nxt P H (withTups P P') H' where
  p := fun a o e => withTups_of e
  ph := fun a o e => (withTups_cases e).elim (fun q => x.ph a o (x.p a o (ph a o q))) fun q => x.ph a o q.2.1
  keep := fun a o e n t => by
    refine ⟨x.ph a o (x.p a o e), ?_⟩
    cases q : withTups P P' a with
    | none => rfl
    | some z =>
      rcases withTups_cases q with w | ⟨_, w, tz⟩
      · rw [n] at w; cases w
      · rw [x.p a o e] at w; cases w; exact absurd tz t
end
theorem VW.whole {K : PySem.W.Frag} {g : Nm} {P H : Hp} {v : V} {d : D} (u : Up P H) (h : VW K g P H v d) : Val K g H v d := by
  cases h with
  | va h => exact h.up u
  | li e r => exact .lst e (r.up u)
  | di e r => exact (r.up u).val e
theorem VWL.whole {K : PySem.W.Frag} {g : Nm} {P H : Hp} (u : Up P H) : ∀ {vs : List V} {ds : List D}, VWL K g P H vs ds → ValL K g H vs ds
  | _, _, .nil => .nil
  | _, _, .cons a b => .cons (a.whole u) (VWL.whole u b)
theorem VWL.length {K : PySem.W.Frag} {g : Nm} {P H : Hp} : ∀ {vs : List V} {ds : List D}, VWL K g P H vs ds → vs.length = ds.length
  | _, _, .nil => rfl
  | _, _, .cons a b => by rw [List.length_cons, List.length_cons, VWL.length b]
/-- nothing borrowed: values -/
theorem Rep.vals {K : PySem.W.Frag} {g : Nm} {io : Option Addr} {F P H : Hp} {σ : St} {L : Lo} (r : Rep K g io F P σ H L) : ∀ {vs : List V} {rs : List RV} {ds : List D}, RVokL K g P σ vs rs → getL L rs = some ds → rs.any (isB · L) = false → ValL K g P vs ds
  | [], [], ds, _, e, _ => by cases e; exact .nil
  | v :: vs, rv :: rs, ds, h, e, nb => by
    unfold getL at e
    rw [List.any_cons, Bool.or_eq_false_iff] at nb
    split at e
    · next d ds' e1 e2 =>
      cases e
      refine .cons ?_ (r.vals h.2 e2 nb.2)
      cases rv with
      | v d' => cases e1; exact h.1
      | s i =>
        have h1 : σ[i]? = some (some v) := h.1
        have b : (match L[i]? with | some s => isOwn s | none => false) = false := nb.1
        replace e1 : (match L[i]? with | some (.va d) => some d | some (.li xs) => some (.lst xs) | some (.io xs) => some (.lst xs) | some (.di kvs) => some (.dct kvs) | _ => none) = some d := e1
        cases q : L[i]? with
        | none => rw [q] at e1; cases e1
        | some s =>
          rw [q] at e1 b
          have z := r.sl i s q
          cases s with
          | un => cases e1
          | va d' =>
            cases e1
            obtain ⟨w, z1, z2⟩ := z
            rw [h1] at z1; cases z1; exact z2
          | li xs => cases b
          | io xs => cases b
          | di kvs => cases b
          | l2 xss => cases b
    · cases e
  | [], _ :: _, _, h, _, _ => h.elim
  | _ :: _, [], _, h, _, _ => h.elim

/-- a def's promise: its answer by data -/
def spP (K : PySem.W.Frag) (g : Nm) (n : Nat) (f : List D → FR D) : Sp := fun vs H Q E => vs.length = n ∧ ∃ P ds, Up P H ∧ ValL K g P vs ds ∧ match f ds with
  | .ok d => ∀ P' H' v, Nxt P H P' H' → Val K g P' v d → Q v H'
  | .ex x => ∀ P' H' c dd, Nxt P H P' H' → ExV K g x c dd P' H' → E c dd H'
  | .no => False
/-- what a def is and where -/
structure DefOk (P : Program) (w : World) (K : PySem.W.Frag) (mg : Str → Option Value) (base : Heap) (k : Nat) (x : Str) (ps : List Str) (sp : Sp) : Prop where
  ex : ∃ (f : Addr) (fd : FuncData), mg x = some (.ref f) ∧ PySem.W.keepIn K (.ref f) = true ∧ Binds K fd ps [] ∧ FnOk P w K mg base (L2.CX P w) k f fd ps sp
theorem DefOk.imp {P : Program} {w : World} {K : PySem.W.Frag} {mg : Str → Option Value} {base : Heap} {k : Nat} {x : Str} {ps : List Str} {sp sp' : Sp} (c : DefOk P w K mg base k x ps sp) (h : ∀ vs H Q E, sp' vs H Q E → sp vs H Q E) : DefOk P w K mg base k x ps sp' := by
  obtain ⟨f, fd, a, b, d, e⟩ := c.ex
  exact ⟨f, fd, a, b, d, e.imp h⟩
theorem DefOk.mono {P : Program} {w : World} {K : PySem.W.Frag} {mg : Str → Option Value} {base : Heap} {j k : Nat} {x : Str} {ps : List Str} {sp : Sp} (c : DefOk P w K mg base j x ps sp) (h : j ≤ k) : DefOk P w K mg base k x ps sp := by
  obtain ⟨f, fd, a, b, d, e⟩ := c.ex
  exact ⟨f, fd, a, b, d, e.mono h⟩
def eCall (n : Nat) (f : List D → FR D) (ms : Lo → R (List RV)) : Lo → R RV := fun L => match ms L with
  | .ok rs L1 => match getL L1 rs with
    | some ds => if rs.length = n then match f ds with
      | .ok d => if (rs.any (isB · L1) && !d.flat) = true then .no else .ok (.v d) L1
      | .ex x => if (rs.any (isB · L1) && !(x.arg.all D.flat)) = true then .no else .ex x L1
      | .no => .no
      else .no
    | none => .no
  | .ex x L1 => .ex x L1
  | .no => .no
theorem RVokL.length {K : PySem.W.Frag} {g : Nm} {P : Hp} {σ : St} : ∀ {vs : List V} {rs : List RV}, RVokL K g P σ vs rs → vs.length = rs.length
  | [], [], _ => rfl
  | _ :: _, _ :: _, h => by rw [List.length_cons, List.length_cons, RVokL.length h.2]
  | [], _ :: _, h => h.elim
  | _ :: _, [], h => h.elim
theorem ExV.of {K : PySem.W.Frag} {g : Nm} {x : Ex} {c : Value} {dd : Option Addr} {P P' H : Hp} (h : ExV K g x c dd P H) (u : ∀ v d, Val K g P v d → x.arg = some d → Val K g P' v d) : ExV K g x c dd P' H := by
  refine ⟨h.1, ?_⟩
  have h2 := h.2
  cases e : x.arg with
  | none => rw [e] at h2; exact h2
  | some d =>
    rw [e] at h2
    obtain ⟨a, v, h3, h4, h5⟩ := h2
    exact ⟨a, v, h3, h4, u v d h5 e⟩
section
variable {X : Cx} {g : Nm} {W : WX} {K : PySem.W.Frag}
theorem call_w {n : Nat} {f : List D → FR D} {ms : Lo → R (List RV)} (σ : L2.St) (H : Hp) (Q : VK) (h : tE K g W (eCall n f ms) σ H Q) : tCallS (spP K g n f) (WE W) (tA K g W ms) σ H Q := by
  obtain ⟨io, F, P, L, q, h⟩ := h
  refine ⟨io, F, P, L, q, ?_⟩
  unfold eCall at h
  cases e : ms L with
  | no => rw [e] at h; exact h
  | ex x L1 => rw [e] at h; exact h
  | ok rs L1 =>
    rw [e] at h; dsimp only at h
    intro P' H' vs u r' hv
    cases e2 : getL L1 rs with
    | none => rw [e2] at h; exact h.elim
    | some ds =>
      rw [e2] at h; dsimp only at h
      by_cases hn : rs.length = n
      · rw [if_pos hn] at h
        refine ⟨hv.length.trans hn, ?_⟩
        cases nb : rs.any (isB · L1) with
        | false =>
          refine ⟨P', ds, r'.ph, r'.vals hv e2 nb, ?_⟩
          cases e3 : f ds with
          | no => rw [e3] at h; exact h
          | ex x =>
            rw [e3] at h; dsimp only at h
            rw [nb, Bool.false_and, if_neg (by decide)] at h
            exact fun P2 H2 c dd nx ev => h P2 H2 c dd (u.trans nx.p) (r'.nxt nx) ev
          | ok d =>
            rw [e3] at h; dsimp only at h
            rw [nb, Bool.false_and, if_neg (by decide)] at h
            exact fun P2 H2 v nx hvv => h P2 H2 v (u.trans nx.p) (r'.nxt nx) hvv
        | true =>
          refine ⟨H', ds, .refl _, (r'.vwL hv e2).whole r'.ph, ?_⟩
          cases e3 : f ds with
          | no => rw [e3] at h; exact h
          | ex x =>
            rw [e3] at h; dsimp only at h
            rw [nb, Bool.true_and] at h
            cases fx : x.arg.all D.flat with
            | false => rw [fx] at h; exact h.elim
            | true =>
            rw [fx, if_neg (by decide)] at h
            intro P2 H2 c dd nx ev
            have nx' := nx.flat r'.ph
            refine h _ H2 c dd (u.trans nx'.p) (r'.nxt nx') (ev.of fun v d hv' ea => hv'.flat (fun a o e t => withTups_tup (fun a o e => nx.p a o (r'.ph a o e)) e t) ?_)
            rw [ea] at fx
            simpa using fx
          | ok d =>
            rw [e3] at h; dsimp only at h
            rw [nb, Bool.true_and] at h
            cases fl : d.flat with
            | false => rw [fl] at h; exact h.elim
            | true =>
              rw [fl, if_neg (by decide)] at h
              intro P2 H2 v nx hvv
              have nx' := nx.flat r'.ph
              exact h _ H2 v (u.trans nx'.p) (r'.nxt nx') (hvv.flat (fun a o e t => withTups_tup (fun a o e => nx.p a o (r'.ph a o e)) e t) fl)
      · rw [if_neg hn] at h; exact h.elim
theorem me_call {k n : Nat} {x : Str} {ps : List Str} {f : List D → FR D} {e : Expr} {es : List Expr} {ms : Lo → R (List RV)} {p pos : Pos} (c : DefOk X.prog X.w X.K X.mg X.base k x ps (spP X.K g n f)) (hr : Room k X.A) (tk : Takes X W) (hg : Gl X x) (ha : PA X (e :: es) (tA X.K g W ms))
    (hdb : (x == ("__debug__" : Str)) = false := by decide) (he : starEach (e :: es) X.env = (false, eval e X.env) :: starEach es X.env := by rfl) (hpl : (backTo pos (starEach es X.env)).any (·.1) = false := by rfl) :
    PE X (.Call (.Name x p) (e :: es) [] pos) (tE X.K g W (eCall n f ms)) := by
  obtain ⟨f', fd, h1, h2, h3, h4⟩ := c.ex
  exact (pe_callS h4 hr hg h1 h2 h3 (fun σ => passAt tk σ) ha hdb he hpl).weak fun σ H Q q => call_w σ H Q q

/-! ### a def by its body -/
def fnP (len : Nat) (m : Lo → SR) : List D → FR D := fun ds => match m (ds.map SV.va ++ List.replicate (len - ds.length) .un) with
  | .rt d _ => .ok d
  | .nx _ => .ok .non
  | .ex x _ => .ex x
  | _ => .no
section
open Classical
/-- what a callee must leave as it is -/
noncomputable def restOf (P H : Hp) : Hp := fun a => match P a, H a with
  | none, some o => if isTup o then none else some o
  | _, _ => none
theorem restOf_some {P H : Hp} {a : Addr} {o : HO} (e : restOf P H a = some o) : P a = none ∧ H a = some o ∧ ¬ isTup o := by
  unfold restOf at e
  split at e
  · next o' e1 e2 =>
    by_cases t : isTup o'
    · rw [if_pos t] at e; cases e
    · rw [if_neg t] at e; cases e; exact ⟨e1, e2, t⟩
  · cases e
theorem restOf_of {P H : Hp} {a : Addr} {o : HO} (e1 : P a = none) (e2 : H a = some o) (t : ¬ isTup o) : restOf P H a = some o := by
  unfold restOf
  rw [e1, e2]
  dsimp only
  rw [if_neg t]
end
theorem start_val {K : PySem.W.Frag} {g : Nm} {P : Hp} {N : List Str} {vs : List V} {ds : List D} (h : ValL K g P vs ds) {i : Nat} {s : SV} (e : (ds.map SV.va ++ List.replicate (N.length - ds.length) .un)[i]? = some s) :
    s = .un ∨ ∃ d v, s = .va d ∧ (L2.start N vs)[i]? = some (some v) ∧ Val K g P v d := by
  by_cases hi : i < ds.length
  · rw [List.getElem?_append_left (by simpa using hi), List.getElem?_map] at e
    cases q : ds[i]? with
    | none => rw [q] at e; cases e
    | some d =>
      rw [q] at e; cases e
      obtain ⟨v, e1, e2⟩ := h.getD' q
      refine .inr ⟨d, v, rfl, ?_, e2⟩
      have hl := h.length
      unfold L2.start
      rw [List.getElem?_append_left (by simp; omega), List.getElem?_map, e1]
      rfl
  · rw [List.getElem?_append_right (by simpa using hi)] at e
    rw [List.getElem?_replicate] at e
    split at e
    · cases e; exact .inl rfl
    · cases e
theorem Rep.start {K : PySem.W.Frag} {g : Nm} {P H : Hp} {N : List Str} {vs : List V} {ds : List D} (u : Up P H) (h : ValL K g P vs ds) (hl : vs.length ≤ N.length) :
    Rep K g none (restOf P H) P (L2.start N vs) H (ds.map SV.va ++ List.replicate (N.length - ds.length) .un) where
  ph := u
  fh := fun a o e => (restOf_some e).2.1
  fp := fun a o e => ⟨(restOf_some e).1, (restOf_some e).2.2⟩
  len := by
    have := h.length
    unfold L2.start
    simp only [List.length_append, List.length_map, List.length_replicate]
    omega
  sl := fun i s e => by
    rcases start_val h e with rfl | ⟨d, v, rfl, e1, e2⟩
    · trivial
    · exact ⟨v, e1, e2⟩
  dj := fun i j a x y => by
    obtain ⟨s, _, e, _, o⟩ := x
    rcases start_val h e with rfl | ⟨d, v, rfl, _, _⟩ <;> cases o.1
  pin := fun a e => nomatch e
  ion := fun _ i xs e => by
    rcases start_val h e with z | ⟨d, v, z, _, _⟩ <;> cases z
  ioz := fun i xs e => by
    rcases start_val h e with z | ⟨d, v, z, _, _⟩ <;> cases z
theorem Rep.nxtOf {K : PySem.W.Frag} {g : Nm} {io : Option Addr} {P H P' H' : Hp} {σ : L2.St} {L : Lo} (r : Rep K g io (restOf P H) P' σ H' L) (u : Up P P') : Nxt P H P' H' :=
  ⟨u, r.ph, fun a o e n t => ⟨r.fh a o (restOf_of n e t), (r.fp a o (restOf_of n e t)).1⟩⟩
variable {Pg : Program} {w : World} {mg : Str → Option Value} {base : Heap}
theorem okP {x qual : Str} {st : Stmt} {f : Addr} {fd : FuncData} {N ps : List Str} {k : Nat} (F : Fun K x qual st f fd) (S : FnScope N ps (defScope st)) {m : Lo → SR}
    (body : ∀ (cdv : Value) (A : Around) (outer : List Env) (s : Shared) (H : Hp) (E : XK), Room k (cxOf (L2.CX Pg w) Pg w K mg base N qual (defScope st) f cdv A outer s H E).A → Takes (cxOf (L2.CX Pg w) Pg w K mg base N qual (defScope st) f cdv A outer s H E) (fun cls d _ H => E cls d H) →
      PSs (cxOf (L2.CX Pg w) Pg w K mg base N qual (defScope st) f cdv A outer s H E) (defBody st) (tS K g (fun cls d _ H => E cls d H) m)) :
    FnOk Pg w K mg base (L2.CX Pg w) (k + 1) f fd ps (spP K g ps.length (fnP N.length m)) := by
  have hpl : ps.length ≤ N.length := by have := congrArg List.length S.pre; rw [List.length_take] at this; omega
  refine F.okX S (fun vs H Q E h => h.1) fun cdv A outer s H vs Q E hr h => ?_
  refine ⟨_, body cdv A outer s H E hr (takes_of rfl rfl rfl rfl), ?_⟩
  obtain ⟨hn, P, ds, u, hv, h⟩ := h
  refine ⟨none, restOf P H, P, _, Rep.start u hv (by omega), ?_⟩
  unfold fnP at h
  cases e : m (ds.map SV.va ++ List.replicate (N.length - ds.length) .un) with
  | nx L => rw [e] at h; exact fun P' σ' H' u' r' => h P' H' .non (r'.nxtOf u') .non
  | rt d L => rw [e] at h; exact fun P' σ' H' v u' r' hv' => h P' H' v (r'.nxtOf u') hv'
  | bk L => rw [e] at h; exact h.elim
  | ct L => rw [e] at h; exact h.elim
  | ex x L => rw [e] at h; exact fun P' σ' H' c dd u' r' ev => h P' H' c dd (r'.nxtOf u') ev
  | no => rw [e] at h; exact h.elim
  | rf xs L => rw [e] at h; exact h.elim
end
end L2.Z

/-! part Z4 -/
set_option Elab.async false
set_option linter.all false
set_option maxRecDepth 100000
set_option maxHeartbeats 4000000
namespace L2.Z
open PySem PySem.Spec PyProof.Rows

/-! ### what a loop walks -/
/-- J yields the values xs, from P0 on -/
def Src (K : PySem.W.Frag) (g : Nm) (P0 : Hp) (J : It) (xs : List D) : Prop := ∀ P H, Up P0 P → Up P H → ∀ i,
  (i < xs.length → J.go i H ∧ ∀ x H', J.yld i H x H' → ∃ P' d, xs[i]? = some d ∧ Grow P H P' H' ∧ Val K g P' x d) ∧ (xs.length ≤ i → J.stop i H)
def Is (K : PySem.W.Frag) (g : Nm) (W : WX) (m : Lo → R (List D)) (wi : TI) : Prop := ∀ σ H (R : It → Hp → Prop), (∃ io F P L, Rep K g io F P σ H L ∧ match m L with
  | .ok xs L' => ∀ P' H' J, Up P P' → Rep K g io F P' σ H' L' → Src K g P' J xs → R J H'
  | .ex x L' => XPost K g W io F P σ x L'
  | .no => False) → wi σ H R
theorem PI.or {X : Cx} {tg e : Expr} {w1 w2 : TI} (h1 : PI X tg e w1) (h2 : PI X tg e w2) : PI X tg e (fun σ H R => w1 σ H R ∨ w2 σ H R) := ⟨fun pins s σ H R I h => h.elim (h1.run pins s σ H R I) (h2.run pins s σ H R I)⟩
/-- a list or a tuple -/
def iSeq (m : Lo → R RV) : Lo → R (List D) := fun L => match m L with
  | .ok rv L1 => match frz rv L1 with
    | some (.lst xs, L2) => .ok xs L2
    | some (.tup xs, L2) => .ok xs L2
    | some (.scr ns, L2) => .ok (ns.map D.int) L2
    | _ => .no
  | .ex x L1 => .ex x L1
  | .no => .no
section
variable {K : PySem.W.Frag} {g : Nm} {W : WX}
theorem src_list {P0 : Hp} {a : Addr} {vs : List V} {xs : List D} (h : SqL K P0 a vs) (r : ValL K g P0 vs xs) : Src K g P0 (Itl K a) xs := fun P H u ph i => by
  have hl := r.length
  have hs := ph.sqL (u.sqL h)
  refine ⟨fun hi => ⟨⟨vs, vs[i], hs, by simp⟩, fun x H' y => ?_⟩, fun hi => ⟨vs, hs, by omega⟩⟩
  obtain ⟨e, y⟩ := y
  subst e
  have e1 : vs[i]? = some x := y vs hs
  obtain ⟨d, e2, e3⟩ := r.get e1
  exact ⟨P, d, e2, .refl ph, e3.up u⟩
theorem src_tup {P0 : Hp} {a : Addr} {vs : List V} {xs : List D} (h : SqT K P0 a vs) (r : ValL K g P0 vs xs) : Src K g P0 (Itt K a) xs := fun P H u ph i => by
  have hl := r.length
  have hs := ph.sqT (u.sqT h)
  refine ⟨fun hi => ⟨⟨vs, vs[i], hs, by simp⟩, fun x H' y => ?_⟩, fun hi => ⟨vs, hs, by omega⟩⟩
  obtain ⟨e, y⟩ := y
  subst e
  have e1 : vs[i]? = some x := y vs hs
  obtain ⟨d, e2, e3⟩ := r.get e1
  exact ⟨P, d, e2, .refl ph, e3.up u⟩
theorem is_list {m : Lo → R RV} : Is K g W (iSeq m) (fun σ H R => iList K (tE K g W (fun L => match m L with | .ok rv L1 => (match frz rv L1 with | some (.lst xs, L2) => .ok (.v (.lst xs)) L2 | some (.scr ns, L2) => .ok (.v (.scr ns)) L2 | _ => .no) | .ex x L1 => .ex x L1 | .no => .no)) σ H R ∨
    iTup K (tE K g W (fun L => match m L with | .ok rv L1 => (match frz rv L1 with | some (.tup xs, L2) => .ok (.v (.tup xs)) L2 | _ => .no) | .ex x L1 => .ex x L1 | .no => .no)) σ H R) := by
  intro σ H R ⟨io, F, P, L, r, h⟩
  unfold iSeq at h
  cases e : m L with
  | no => rw [e] at h; exact h.elim
  | ex x L1 => rw [e] at h; exact .inl ⟨io, F, P, L, r, by dsimp only; rw [e]; exact h⟩
  | ok rv L1 =>
    rw [e] at h; dsimp only at h
    cases e2 : frz rv L1 with
    | none => rw [e2] at h; exact h.elim
    | some q =>
      obtain ⟨d, L2⟩ := q
      rw [e2] at h
      cases d with
      | lst xs =>
        refine .inl ⟨io, F, P, L, r, ?_⟩
        dsimp only; rw [e]; dsimp only; rw [e2]; dsimp only
        intro P' H' v u r' hv
        have hv : Val K g P' v (.lst xs) := hv
        cases hv with
        | lst hs hr => exact ⟨_, rfl, ⟨_, r'.ph.sqL (SqL.of hs)⟩, h P' H' _ u r' (src_list (SqL.of hs) hr)⟩
      | scr ns =>
        refine .inl ⟨io, F, P, L, r, ?_⟩
        dsimp only; rw [e]; dsimp only; rw [e2]; dsimp only
        intro P' H' v u r' hv
        have hv : Val K g P' v (.scr ns) := hv
        cases hv with
        | scr _ hs => exact ⟨_, rfl, ⟨_, r'.ph.sqL hs⟩, h P' H' _ u r' (src_list hs (ValL.of_ints ns))⟩
      | tup xs =>
        refine .inr ⟨io, F, P, L, r, ?_⟩
        dsimp only; rw [e]; dsimp only; rw [e2]; dsimp only
        intro P' H' v u r' hv
        have hv : Val K g P' v (.tup xs) := hv
        cases hv with
        | tup hs hr => exact ⟨_, rfl, ⟨_, r'.ph.sqT hs⟩, h P' H' _ u r' (src_tup hs hr)⟩
      | _ => exact h.elim
/-- freezing as part of an expression -/
theorem frz_w {m n : Lo → R RV} (hn : ∀ L, n L = (match m L with | .ok rv L1 => (match frz rv L1 with | some (d, L2) => (match n L with | .ok _ _ => .ok (.v d) L2 | _ => .no) | _ => .no) | .ex x L1 => .ex x L1 | .no => .no)) (σ : L2.St) (H : Hp) (Q : VK) (h : tE K g W n σ H Q) : tE K g W m σ H Q := by
  obtain ⟨io, F, P, L, r, h⟩ := h
  refine ⟨io, F, P, L, r, ?_⟩
  have hL := hn L
  cases e : m L with
  | no => rw [e] at hL; rw [hL] at h; exact h
  | ex x L1 => rw [e] at hL; rw [hL] at h; exact h
  | ok rv L1 =>
    rw [e] at hL; dsimp only at hL
    cases e2 : frz rv L1 with
    | none => rw [e2] at hL; rw [hL] at h; exact h.elim
    | some q =>
      obtain ⟨d, L2⟩ := q
      rw [e2] at hL; dsimp only at hL
      cases e3 : n L with
      | no => rw [e3] at h; exact h.elim
      | ex x L1 => rw [e3] at hL; cases hL
      | ok rv' L' =>
        rw [e3] at hL h; dsimp only at hL
        injection hL with h1 h2
        subst h1 h2
        intro P' H' v u r' hv
        obtain ⟨P2, u2, r2, v2⟩ := r'.frz hv e2
        exact h P2 H' v (u.trans u2) r2 v2
end
section
variable {X : Cx} {g : Nm} {W : WX}
def MI (X : Cx) (g : Nm) (W : WX) (tg e : Expr) (src : Lo → R (List D)) : Prop := ∃ wi, PI X tg e wi ∧ Is X.K g W src wi
/-- the walk of a list or a tuple -/
theorem mi_seq {tg e : Expr} {m : Lo → R RV} (h : PE X e (tE X.K g W m)) : MI X g W tg e (iSeq m) := by
  refine ⟨_, PI.or (pi_list (h.weak (frz_w (fun L => ?_)))) (pi_tup (h.weak (frz_w (fun L => ?_)))), is_list⟩
  · cases e : m L with
    | no => rfl
    | ex x L1 => rfl
    | ok rv L1 =>
      dsimp only
      cases e2 : frz rv L1 with
      | none => rfl
      | some q =>
        obtain ⟨d, L2⟩ := q
        cases d <;> rfl
  · cases e : m L with
    | no => rfl
    | ex x L1 => rfl
    | ok rv L1 =>
      dsimp only
      cases e2 : frz rv L1 with
      | none => rfl
      | some q =>
        obtain ⟨d, L2⟩ := q
        cases d <;> rfl
def rangeD (lo hi : Int) : List D := (List.range (hi - lo).toNat).map fun (i : Nat) => D.int (lo + (i : Int))
theorem src_range {K : PySem.W.Frag} {P0 : Hp} (lo hi : Int) : Src K g P0 (Itr lo (hi - lo).toNat) (rangeD lo hi) := fun P H u ph i => by
  have hl : (rangeD lo hi).length = (hi - lo).toNat := by simp [rangeD]
  refine ⟨fun h => ⟨by show i < _; omega, fun x H' y => ?_⟩, fun h => by show _ ≤ i; omega⟩
  obtain ⟨e, y⟩ := y
  subst e; subst y
  refine ⟨P, .int (lo + i), ?_, .refl ph, .int _⟩
  unfold rangeD
  rw [List.getElem?_map, List.getElem?_range (by omega)]
  rfl
def iRange1 (ms : Lo → R (List RV)) : Lo → R (List D) := fun L => match ms L with
  | .ok rs L1 => match getL L1 rs with
    | some [.int j] => if -(2 ^ 62) ≤ j ∧ j < 2 ^ 62 then .ok (rangeD 0 j) L1 else .no
    | _ => .no
  | .ex x L1 => .ex x L1
  | .no => .no
def iRange2 (ms : Lo → R (List RV)) : Lo → R (List D) := fun L => match ms L with
  | .ok rs L1 => match getL L1 rs with
    | some [.int i, .int j] => if -(2 ^ 62) ≤ i ∧ i < 2 ^ 62 ∧ -(2 ^ 62) ≤ j ∧ j < 2 ^ 62 then .ok (rangeD i j) L1 else .no
    | _ => .no
  | .ex x L1 => .ex x L1
  | .no => .no
theorem VWL.ints1 {K : PySem.W.Frag} {P H : Hp} {vs : List V} {i : Int} (h : VWL K g P H vs [.int i]) : vs = [.int i] := by
  cases h with
  | cons a b => cases b; cases a with | va a => cases a; rfl
theorem VWL.ints2 {K : PySem.W.Frag} {P H : Hp} {vs : List V} {i j : Int} (h : VWL K g P H vs [.int i, .int j]) : vs = [.int i, .int j] := by
  cases h with
  | cons a b => cases b with | cons c d => cases d; cases a with | va a => cases a; cases c with | va c => cases c; rfl
theorem is_range1 {K : PySem.W.Frag} {ms : Lo → R (List RV)} : Is K g W (iRange1 ms) (iRng1 (tA K g W ms)) := by
  intro σ H R ⟨io, F, P, L, r, h⟩
  refine ⟨io, F, P, L, r, ?_⟩
  unfold iRange1 at h
  cases e : ms L with
  | no => rw [e] at h; exact h.elim
  | ex x L1 => rw [e] at h; exact h
  | ok rs L1 =>
    rw [e] at h; dsimp only at h
    cases e2 : getL L1 rs with
    | none => rw [e2] at h; exact h.elim
    | some ds =>
      rw [e2] at h
      match ds, e2, h with
      | [.int j], e2, h =>
        dsimp only at h
        by_cases hj : -(2 ^ 62) ≤ j ∧ j < 2 ^ 62
        · rw [if_pos hj] at h
          intro P' H' vs u r' hv
          have := (r'.vwL hv e2).ints1
          subst this
          have s := src_range (g := g) (K := K) (P0 := P') 0 j
          rw [Int.sub_zero] at s
          exact ⟨j, rfl, hj.1, hj.2, h P' H' _ u r' s⟩
        · rw [if_neg hj] at h; exact h.elim
theorem is_range2 {K : PySem.W.Frag} {ms : Lo → R (List RV)} : Is K g W (iRange2 ms) (iRng2 (tA K g W ms)) := by
  intro σ H R ⟨io, F, P, L, r, h⟩
  refine ⟨io, F, P, L, r, ?_⟩
  unfold iRange2 at h
  cases e : ms L with
  | no => rw [e] at h; exact h.elim
  | ex x L1 => rw [e] at h; exact h
  | ok rs L1 =>
    rw [e] at h; dsimp only at h
    cases e2 : getL L1 rs with
    | none => rw [e2] at h; exact h.elim
    | some ds =>
      rw [e2] at h
      match ds, e2, h with
      | [.int i, .int j], e2, h =>
        dsimp only at h
        by_cases hj : -(2 ^ 62) ≤ i ∧ i < 2 ^ 62 ∧ -(2 ^ 62) ≤ j ∧ j < 2 ^ 62
        · rw [if_pos hj] at h
          intro P' H' vs u r' hv
          have := (r'.vwL hv e2).ints2
          subst this
          exact ⟨i, j, rfl, hj, h P' H' _ u r' (src_range i j)⟩
        · rw [if_neg hj] at h; exact h.elim
theorem mi_range1 {tg a : Expr} {ms : Lo → R (List RV)} {p pos : Pos} (hg : Gl X "range") (hm : X.mg "range" = none) (ha : PA X [a] (tA X.K g W ms)) (hs : starEach [a] X.env = [(false, eval a X.env)] := by rfl) : MI X g W tg (.Call (.Name "range" p) [a] [] pos) (iRange1 ms) :=
  ⟨_, pi_range1 hg hm ha hs, is_range1⟩
theorem mi_range2 {tg a b : Expr} {ms : Lo → R (List RV)} {p pos : Pos} (hg : Gl X "range") (hm : X.mg "range" = none) (ha : PA X [a, b] (tA X.K g W ms)) (hs : starEach [a, b] X.env = [(false, eval a X.env), (false, eval b X.env)] := by rfl) (hs2 : starEach [b] X.env = [(false, eval b X.env)] := by rfl) :
    MI X g W tg (.Call (.Name "range" p) [a, b] [] pos) (iRange2 ms) := ⟨_, pi_range2 hg hm ha hs hs2, is_range2⟩
end

/-! ### targets -/
def TgOk (K : PySem.W.Frag) (g : Nm) (gt : TG) (gm : D → Lo → Option Lo) (vs : List Nat) : Prop := ∀ io F P σ H L x d L', Rep K g io F P σ H L → Val K g P x d → gm d L = some L' → ∀ Q : L2.St → Hp → Prop,
  (∀ σ', Rep K g io F P σ' H L' → (∀ j, j ∉ vs → σ'[j]? = σ[j]?) → σ'.length = σ.length → Q σ' H) → gt x σ H Q
def gN (i : Nat) : D → Lo → Option Lo := fun d L => match L[i]? with
  | some s0 => if isIo s0 then none else some (L.set i (.va d))
  | none => none
theorem tg_name {K : PySem.W.Frag} {g : Nm} {i : Nat} {vs : List Nat} (h : i ∈ vs) : TgOk K g (gName i) (gN i) vs := fun io F P σ H L x d L' r hv e Q q => by
  unfold gN at e
  cases e1 : L[i]? with
  | none => rw [e1] at e; cases e
  | some s0 =>
    rw [e1] at e; dsimp only at e
    cases e2 : isIo s0 with
    | true => rw [e2] at e; cases e
    | false =>
      rw [e2] at e; cases e
      exact q _ (r.setVa e1 (isIo_ne e2) hv) (fun j hj => List.getElem?_set_ne (fun z => hj (by rw [← z]; exact h))) (List.length_set ..)
/-- several targets -/
def TgsOk (K : PySem.W.Frag) (g : Nm) (gt : TGs) (gm : List D → Lo → Option Lo) (vs : List Nat) : Prop := ∀ io F P σ H L xs ds L', Rep K g io F P σ H L → ValL K g P xs ds → gm ds L = some L' → ∀ Q : L2.St → Hp → Prop,
  (∀ σ', Rep K g io F P σ' H L' → (∀ j, j ∉ vs → σ'[j]? = σ[j]?) → σ'.length = σ.length → Q σ' H) → gt xs σ H Q
def gsNil : List D → Lo → Option Lo := fun ds L => match ds with
  | [] => some L
  | _ => none
def gsCons (a : D → Lo → Option Lo) (b : List D → Lo → Option Lo) : List D → Lo → Option Lo := fun ds L => match ds with
  | d :: ds => match a d L with
    | some L1 => b ds L1
    | none => none
  | [] => none
def gTp (b : List D → Lo → Option Lo) : D → Lo → Option Lo := fun d L => match d with
  | .tup ds => b ds L
  | _ => none
theorem tgs_nil {K : PySem.W.Frag} {g : Nm} {vs : List Nat} : TgsOk K g gNil gsNil vs := fun io F P σ H L xs ds L' r hv e Q q => by
  cases hv with
  | nil => cases e; exact ⟨rfl, q σ r (fun _ _ => rfl) rfl⟩
  | cons _ _ => cases e
theorem tgs_cons {K : PySem.W.Frag} {g : Nm} {t : TG} {u : TGs} {a : D → Lo → Option Lo} {b : List D → Lo → Option Lo} {vs : List Nat} (h1 : TgOk K g t a vs) (h2 : TgsOk K g u b vs) : TgsOk K g (gCons t u) (gsCons a b) vs := fun io F P σ H L xs ds L' r hv e Q q => by
  cases hv with
  | nil => cases e
  | cons hx hr =>
    replace e : (match a _ L with | some L1 => b _ L1 | none => none) = some L' := e
    cases e1 : a _ L with
    | none => rw [e1] at e; cases e
    | some L1 =>
      rw [e1] at e; dsimp only at e
      exact ⟨_, _, rfl, h1 io F P σ H L _ _ L1 r hx e1 _ fun σ1 r1 ag1 l1 => h2 io F P σ1 H L1 _ _ L' r1 hr e Q fun σ2 r2 ag2 l2 => q σ2 r2 (fun j hj => (ag2 j hj).trans (ag1 j hj)) (l2.trans l1)⟩
theorem tg_tup {K : PySem.W.Frag} {g : Nm} {n : Nat} {u : TGs} {b : List D → Lo → Option Lo} {vs : List Nat} (h : TgsOk K g u b vs) (hn : ∀ ds L L', b ds L = some L' → ds.length = n) : TgOk K g (gTup K n u) (gTp b) vs := fun io F P σ H L x d L' r hv e Q q => by
  cases hv with
  | tup hs hr => exact ⟨_, _, rfl, r.ph.sqT hs, hr.length.trans (hn _ _ _ e), h io F P σ H L _ _ L' r hr e Q q⟩
  | _ => cases e
theorem len2 {a b : D → Lo → Option Lo} : ∀ ds L L', gsCons a (gsCons b gsNil) ds L = some L' → ds.length = 2
  | [], _, _, e => by cases e
  | [x], L, _, e => by
    replace e : (match a x L with | some L1 => gsCons b gsNil [] L1 | none => none) = some _ := e
    cases h : a x L with
    | none => rw [h] at e; cases e
    | some L1 => rw [h] at e; cases e
  | [_, _], _, _, _ => rfl
  | x :: y :: z :: r, L, _, e => by
    replace e : (match a x L with | some L1 => (match b y L1 with | some L2 => gsNil (z :: r) L2 | none => none) | none => none) = some _ := e
    cases h : a x L with
    | none => rw [h] at e; cases e
    | some L1 =>
      rw [h] at e; dsimp only at e
      cases h2 : b y L1 with
      | none => rw [h2] at e; cases e
      | some L2 => rw [h2] at e; cases e
theorem len3 {a b c : D → Lo → Option Lo} : ∀ ds L L', gsCons a (gsCons b (gsCons c gsNil)) ds L = some L' → ds.length = 3
  | [], _, _, e => by cases e
  | x :: r, L, L', e => by
    replace e : (match a x L with | some L1 => gsCons b (gsCons c gsNil) r L1 | none => none) = some _ := e
    cases h : a x L with
    | none => rw [h] at e; cases e
    | some L1 => rw [h] at e; exact congrArg (· + 1) (len2 r L1 L' e)

/-! ### for -/
def forGo (gm : D → Lo → Option Lo) (b : Lo → SR) : List D → Lo → SR
  | [], L => .nx L
  | x :: xs, L => match gm x L with
    | some L1 => match b L1 with
      | .nx L2 => forGo gm b xs L2
      | .ct L2 => forGo gm b xs L2
      | .bk L2 => .nx L2
      | .rt d L2 => .rt d L2
      | .ex e L2 => .ex e L2
      | .no => .no
      | .rf xs L2 => .rf xs L2
    | none => .no
def sFor (src : Lo → R (List D)) (gm : D → Lo → Option Lo) (b : Lo → SR) : Lo → SR := fun L => match src L with
  | .ok xs L1 => forGo gm b xs L1
  | .ex x L1 => .ex x L1
  | .no => .no
section
variable {X : Cx} {g : Nm} {W : WX}
theorem ms_for {st : Stmt} {wi : TI} {gt : TG} {src : Lo → R (List D)} {gm : D → Lo → Option Lo} {b : Lo → SR} {vs : List Nat} (h : PS X st (tFor wi gt (tS X.K g W b))) (hi : Is X.K g W src wi) (hg : TgOk X.K g gt gm vs) : PS X st (tS X.K g W (sFor src gm b)) := h.weak fun E σ H ⟨io, F, P, L, r, h⟩ => by
  refine hi σ H _ ⟨io, F, P, L, r, ?_⟩
  unfold sFor at h
  cases e : src L with
  | no => rw [e] at h; exact h
  | ex x L1 => rw [e] at h; exact fun P' H' c dd u r' e' => h P' σ H' c dd u r' e'
  | ok xs L1 =>
    rw [e] at h; dsimp only at h
    intro P1 H1 J u1 r1 hs
    refine ⟨fun i m σ H => m = xs.length - i ∧ i ≤ xs.length ∧ ∃ P L, Up P1 P ∧ Rep X.K g io F P σ H L ∧ SPost X.K g W io F P E (forGo gm b (xs.drop i) L),
      ⟨_, rfl, Nat.zero_le _, P1, L1, .refl _, r1, SPost.up u1 h⟩, ?_⟩
    rintro i m σ H ⟨rfl, hi, P2, L2, u2, r2, h2⟩
    by_cases hlt : i < xs.length
    · obtain ⟨go, yl⟩ := (hs P2 H u2 r2.ph i).1 hlt
      refine .inr ⟨go, fun σ' H' => i + 1 ≤ xs.length ∧ ∃ P L, Up P1 P ∧ Rep X.K g io F P σ' H' L ∧ SPost X.K g W io F P E (forGo gm b (xs.drop (i + 1)) L), fun σ' H' ⟨a, q⟩ => ⟨xs.length - (i + 1), by omega, rfl, a, q⟩, fun x H' y => ?_⟩
      obtain ⟨P3, d, e1, gr, hv⟩ := yl x H' y
      have r3 := r2.nxt gr.nxt
      have ed : xs.drop i = d :: xs.drop (i + 1) := by
        obtain ⟨hlt', e1'⟩ := List.getElem?_eq_some_iff.mp e1
        rw [← e1', List.drop_eq_getElem_cons hlt]
      rw [ed] at h2
      unfold forGo at h2
      cases e2 : gm d L2 with
      | none => rw [e2] at h2; exact h2.elim
      | some L3 =>
        rw [e2] at h2; dsimp only at h2
        refine hg io F P3 σ H' L2 x d L3 r3 hv e2 _ fun σ3 r4 _ _ => ⟨io, F, P3, L3, r4, ?_⟩
        cases e3 : b L3 with
        | nx L4 => rw [e3] at h2; exact fun P4 σ4 H4 u4 r5 => ⟨hlt, P4, L4, (u2.trans gr.p).trans u4, r5, SPost.up (gr.p.trans u4) h2⟩
        | ct L4 => rw [e3] at h2; exact fun P4 σ4 H4 u4 r5 => ⟨hlt, P4, L4, (u2.trans gr.p).trans u4, r5, SPost.up (gr.p.trans u4) h2⟩
        | bk L4 => rw [e3] at h2; exact fun P4 σ4 H4 u4 r5 => h2 P4 σ4 H4 (gr.p.trans u4) r5
        | rt d L4 => rw [e3] at h2; exact fun P4 σ4 H4 v u4 r5 hv => h2 P4 σ4 H4 v (gr.p.trans u4) r5 hv
        | ex x L4 => rw [e3] at h2; exact fun P4 σ4 H4 c dd u4 r5 hv => h2 P4 σ4 H4 c dd (gr.p.trans u4) r5 hv
        | no => rw [e3] at h2; exact h2.elim
        | rf zs L4 => rw [e3] at h2; exact fun P4 σ4 H4 a ws u4 => h2 P4 σ4 H4 a ws (gr.p.trans u4)
    · have ei : i = xs.length := by omega
      subst ei
      refine .inl ⟨(hs P2 H u2 r2.ph _).2 (Nat.le_refl _), ?_⟩
      rw [List.drop_length] at h2
      exact h2 P2 σ H (.refl _) r2

theorem ms_forM {tg iter : Expr} {body : List Stmt} {gt : TG} {src : Lo → R (List D)} {gm : D → Lo → Option Lo} {b : Lo → SR} {vs : List Nat} {pos : Pos} (hp : PassesOwn (model X.prog X.w) X.A X.env X.xe) (hc : X.calm = true) (hi : MI X g W tg iter src) (hg : PG X tg gt) (ht : TgOk X.K g gt gm vs) (hb : PSs X body (tS X.K g W b))
    (hs : ∀ x, foldedSetIterable iter X.env x = pure x := by intro _; rfl) : PS X (.For tg iter body [] pos) (tS X.K g W (sFor src gm b)) := by
  obtain ⟨wi, h1, h2⟩ := hi
  exact ms_for (ps_for hp hc h1 hg hb hs) h2 ht

/-! ### while -/
def whGo (c : Lo → R Bool) (b : Lo → SR) : Nat → Lo → SR
  | 0, _ => .no
  | n + 1, L => match c L with
    | .ok true L1 => match b L1 with
      | .nx L2 => whGo c b n L2
      | .ct L2 => whGo c b n L2
      | .bk L2 => .nx L2
      | .rt d L2 => .rt d L2
      | .ex e L2 => .ex e L2
      | .no => .no
      | .rf xs L2 => .rf xs L2
    | .ok false L1 => .nx L1
    | .ex x L1 => .ex x L1
    | .no => .no
theorem ms_while {st : Stmt} {c : Lo → R Bool} {b : Lo → SR} (n : Nat) (h : PS X st (tWhile (tT X.K g W c) (tS X.K g W b))) : PS X st (tS X.K g W (whGo c b n)) := h.weak fun E σ H ⟨io, F, P, L, r, h⟩ => by
  refine ⟨fun m σ H => ∃ P L, Rep X.K g io F P σ H L ∧ SPost X.K g W io F P E (whGo c b m L), ⟨n, P, L, r, h⟩, ?_⟩
  rintro m σ H ⟨P1, L1, r1, h1⟩
  cases m with
  | zero => exact h1.elim
  | succ m =>
    refine ⟨io, F, P1, L1, r1, ?_⟩
    unfold whGo at h1
    cases e : c L1 with
    | no => rw [e] at h1; exact h1
    | ex x L1 => rw [e] at h1; exact fun P' H' c dd u r' e' => h1 P' σ H' c dd u r' e'
    | ok k L2 =>
      rw [e] at h1
      intro P2 H2 u2 r2
      cases k with
      | false => rw [if_neg (by decide)]; exact h1 P2 σ H2 u2 r2
      | true =>
        rw [if_pos rfl]
        dsimp only at h1
        refine ⟨fun σ' H' => ∃ P L, Rep X.K g io F P σ' H' L ∧ SPost X.K g W io F P E (whGo c b m L), fun σ' H' q => ⟨m, Nat.lt_succ_self _, q⟩, io, F, P2, L2, r2, ?_⟩
        cases e3 : b L2 with
        | nx L4 => rw [e3] at h1; exact fun P4 σ4 H4 u4 r5 => ⟨P4, L4, r5, SPost.up (u2.trans u4) h1⟩
        | ct L4 => rw [e3] at h1; exact fun P4 σ4 H4 u4 r5 => ⟨P4, L4, r5, SPost.up (u2.trans u4) h1⟩
        | bk L4 => rw [e3] at h1; exact fun P4 σ4 H4 u4 r5 => h1 P4 σ4 H4 (u2.trans u4) r5
        | rt d L4 => rw [e3] at h1; exact fun P4 σ4 H4 v u4 r5 hv => h1 P4 σ4 H4 v (u2.trans u4) r5 hv
        | ex x L4 => rw [e3] at h1; exact fun P4 σ4 H4 c dd u4 r5 hv => h1 P4 σ4 H4 c dd (u2.trans u4) r5 hv
        | no => rw [e3] at h1; exact h1.elim
        | rf zs L4 => rw [e3] at h1; exact fun P4 σ4 H4 a ws u4 => h1 P4 σ4 H4 a ws (u2.trans u4)
end
end L2.Z

/-! part Z5 -/
set_option Elab.async false
set_option linter.all false
set_option maxRecDepth 100000
set_option maxHeartbeats 4000000
namespace L2.Z
open PySem PySem.Spec PyProof.Rows

/-! ### a comprehension's own slots -/
def wipeS (L : Lo) : List Nat → Lo
  | [] => L
  | v :: vs => (wipeS L vs).set v .un
/-- the slots vs as they stand in L, the others as in M -/
def unw (L M : Lo) : List Nat → Lo
  | [] => M
  | v :: vs => match L[v]? with
    | some s => (unw L M vs).set v s
    | none => unw L M vs
theorem wipeS_len (L : Lo) : ∀ vs, (wipeS L vs).length = L.length
  | [] => rfl
  | v :: vs => by unfold wipeS; rw [List.length_set, wipeS_len L vs]
theorem unw_len (L M : Lo) : ∀ vs, (unw L M vs).length = M.length
  | [] => rfl
  | v :: vs => by
    unfold unw
    split
    · rw [List.length_set, unw_len L M vs]
    · exact unw_len L M vs
theorem wipeS_out {L : Lo} {i : Nat} : ∀ {vs : List Nat}, i ∉ vs → (wipeS L vs)[i]? = L[i]?
  | [], _ => rfl
  | v :: vs, h => by
    unfold wipeS
    rw [List.mem_cons, not_or] at h
    rw [List.getElem?_set_ne (fun z => h.1 z.symm), wipeS_out h.2]
theorem wipeS_in {L : Lo} {i : Nat} {s : SV} : ∀ {vs : List Nat}, i ∈ vs → (wipeS L vs)[i]? = some s → s = .un
  | v :: vs, h, e => by
    unfold wipeS at e
    by_cases hv : v = i
    · subst hv
      by_cases hl : v < (wipeS L vs).length
      · rw [List.getElem?_set_self hl] at e; cases e; rfl
      · rw [List.getElem?_eq_none (by simpa using hl)] at e; cases e
    · rw [List.getElem?_set_ne hv] at e
      rcases List.mem_cons.mp h with z | z
      · exact absurd z.symm hv
      · exact wipeS_in z e
theorem unw_out {L M : Lo} {i : Nat} : ∀ {vs : List Nat}, i ∉ vs → (unw L M vs)[i]? = M[i]?
  | [], _ => rfl
  | v :: vs, h => by
    unfold unw
    rw [List.mem_cons, not_or] at h
    split
    · rw [List.getElem?_set_ne (fun z => h.1 z.symm), unw_out h.2]
    · exact unw_out h.2
theorem unw_in {L M : Lo} {i : Nat} (hl : M.length = L.length) : ∀ {vs : List Nat}, i ∈ vs → (unw L M vs)[i]? = L[i]?
  | v :: vs, h => by
    unfold unw
    by_cases hv : v = i
    · subst hv
      cases e : L[v]? with
      | none =>
        dsimp only
        rw [List.getElem?_eq_none_iff] at e ⊢
        rw [unw_len]; omega
      | some s =>
        dsimp only
        rw [List.getElem?_set_self (by rw [unw_len, hl]; exact (List.getElem?_eq_some_iff.mp e).1)]
    · have hm : i ∈ vs := (List.mem_cons.mp h).elim (fun z => absurd z.symm hv) id
      split
      · rw [List.getElem?_set_ne hv, unw_in hl hm]
      · exact unw_in hl hm
theorem wipe_ext {σ σ' : L2.St} (hl : σ'.length = σ.length) : ∀ {vs : List Nat}, (∀ j, j ∉ vs → σ'[j]? = σ[j]?) → L2.wipe σ' vs = L2.wipe σ vs := by
  intro vs h
  apply List.ext_getElem?
  intro i
  by_cases hi : i ∈ vs
  · have g : ∀ (τ : L2.St) {vs : List Nat}, i ∈ vs → (L2.wipe τ vs)[i]? = if i < τ.length then some none else none := by
      intro τ vs
      induction vs with
      | nil => intro z; cases z
      | cons v vs ih =>
        intro z
        unfold L2.wipe
        by_cases hv : v = i
        · subst hv
          by_cases hq : v < τ.length
          · rw [List.getElem?_set_self (by rw [L2.wipe_length]; exact hq), if_pos hq]
          · rw [if_neg hq, List.getElem?_eq_none (by rw [List.length_set, L2.wipe_length]; omega)]
        · rw [List.getElem?_set_ne hv]
          exact ih ((List.mem_cons.mp z).elim (fun y => absurd y.symm hv) id)
    rw [g σ' hi, g σ hi, hl]
  · rw [L2.wipe_out hi, L2.wipe_out hi, h i hi]
def noOwnAt (L : Lo) (vs : List Nat) : Bool := vs.all fun i => i != 0 && (match L[i]? with
  | some s => !isOwn s
  | none => true)
section
variable {K : PySem.W.Frag} {g : Nm} {io : Option Addr} {F P H : Hp} {σ : L2.St} {L : Lo}
theorem noOwnAt_of {vs : List Nat} (h : noOwnAt L vs = true) : ∀ i ∈ vs, i ≠ 0 ∧ ∀ s, L[i]? = some s → isOwn s = false := fun i hi => by
  unfold noOwnAt at h
  rw [List.all_eq_true] at h
  have z := h i hi
  rw [Bool.and_eq_true] at z
  refine ⟨by simpa using z.1, fun s e => ?_⟩
  have z2 := z.2
  rw [e] at z2
  simpa using z2
theorem Rep.wipe (r : Rep K g io F P σ H L) {vs : List Nat} (h0 : ∀ i ∈ vs, i ≠ 0) : Rep K g io F P (L2.wipe σ vs) H (wipeS L vs) where
  ph := r.ph
  fh := r.fh
  fp := r.fp
  len := by rw [L2.wipe_length, wipeS_len, r.len]
  sl := fun i s e => by
    by_cases hi : i ∈ vs
    · rw [wipeS_in hi e]; trivial
    · rw [wipeS_out hi] at e; rw [L2.wipe_out hi]; exact r.sl i s e
  dj := fun i j a x y => by
    have back : ∀ {j : Nat}, Own (L2.wipe σ vs) H (wipeS L vs) j a → Own σ H L j a := fun {j} ⟨t, c, z2, z1, z3⟩ => by
      by_cases hj : j ∈ vs
      · rw [wipeS_in hj z2] at z3; cases z3.1
      · rw [wipeS_out hj] at z2; rw [L2.wipe_out hj] at z1; exact ⟨t, c, z2, z1, z3⟩
    exact r.dj i j a (back x) (back y)
  pin := fun a e => by
    have : (0 : Nat) ∉ vs := fun z => h0 0 z rfl
    rw [L2.wipe_out this, wipeS_out this]; exact r.pin a e
  ion := fun e i xs q => by
    by_cases hi : i ∈ vs
    · cases wipeS_in hi q
    · rw [wipeS_out hi] at q; exact r.ion e i xs q
  ioz := fun i xs q => by
    by_cases hi : i ∈ vs
    · cases wipeS_in hi q
    · rw [wipeS_out hi] at q; exact r.ioz i xs q
theorem Rep.unw {F5 P5 H5 : Hp} {σ5 : L2.St} {L5 : Lo} (r : Rep K g io F P σ H L) (r5 : Rep K g io F5 P5 σ5 H5 L5) (u : Up P P5) {vs : List Nat} (ag : ∀ j, j ∉ vs → σ5[j]? = σ[j]?) (hl : σ5.length = σ.length) (no : ∀ i ∈ vs, i ≠ 0 ∧ ∀ s, L[i]? = some s → isOwn s = false) :
    Rep K g io F5 P5 σ H5 (unw L L5 vs) := by
  have hlen : L5.length = L.length := by rw [← r5.len, hl, r.len]
  refine ⟨r5.ph, r5.fh, r5.fp, by rw [unw_len, hlen, r.len], fun i s e => ?_, fun i j a x y => ?_, fun a e => ?_, fun e i xs q => ?_, fun i xs q => ?_⟩
  · by_cases hi : i ∈ vs
    · rw [unw_in hlen hi] at e
      have z := r.sl i s e
      have o := (no i hi).2 s e
      cases s with
      | un => trivial
      | va d => obtain ⟨v, e1, e2⟩ := z; exact ⟨v, e1, e2.up u⟩
      | li xs => cases o
      | io xs => cases o
      | di xs => cases o
      | l2 xs => cases o
    · rw [unw_out hi] at e; rw [← ag i hi]; exact r5.sl i s e
  · have back : ∀ {j : Nat}, Own σ H5 (Z.unw L L5 vs) j a → Own σ5 H5 L5 j a := fun {j} ⟨t, c, z2, z1, z3⟩ => by
      by_cases hj : j ∈ vs
      · rw [unw_in hlen hj] at z2
        exact noOwnA ((no j hj).2 t z2) z3
      · rw [unw_out hj] at z2; exact ⟨t, c, z2, by rw [ag j hj]; exact z1, z3⟩
    exact r5.dj i j a (back x) (back y)
  · have h0 : (0 : Nat) ∉ vs := fun z => (no 0 z).1 rfl
    obtain ⟨z1, xs, z2⟩ := r5.pin a e
    rw [← ag 0 h0, unw_out h0]; exact ⟨z1, xs, z2⟩
  · by_cases hi : i ∈ vs
    · rw [unw_in hlen hi] at q
      have := (no i hi).2 _ q
      cases this
    · rw [unw_out hi] at q; exact r5.ion e i xs q
  · by_cases hi : i ∈ vs
    · rw [unw_in hlen hi] at q
      have := (no i hi).2 _ q
      cases this
    · rw [unw_out hi] at q; exact r5.ioz i xs q
end

theorem noOwn_unw {L M : Lo} {vs : List Nat} (h : noOwnAt L vs = true) (hl : M.length = L.length) : noOwnAt (unw L M vs) vs = true := by
  unfold noOwnAt at h ⊢
  rw [List.all_eq_true] at h ⊢
  intro i hi
  rw [unw_in hl hi]
  exact h i hi

/-! ### comprehensions -/
def compGo (vs : List Nat) (gm : D → Lo → Option Lo) (mt : Lo → R Bool) (me : Lo → R RV) : List D → Lo → R (List D)
  | [], L => .ok [] L
  | x :: xs, L => match gm x (wipeS L vs) with
    | some L2 => match mt L2 with
      | .ok true L3 => match me L3 with
        | .ok rv L4 => match frz rv L4 with
          | some (d, L5) => match compGo vs gm mt me xs (unw L L5 vs) with
            | .ok ds L6 => .ok (d :: ds) L6
            | _ => .no
          | none => .no
        | _ => .no
      | .ok false L3 => compGo vs gm mt me xs (unw L L3 vs)
      | _ => .no
    | none => .no
def fComp (vs : List Nat) (src : Lo → R (List D)) (gm : D → Lo → Option Lo) (mt : Lo → R Bool) (me : Lo → R RV) : Lo → R (List D) := fun L => match src L with
  | .ok xs L1 => if (decide (xs.length ≤ lineN) && noOwnAt L1 vs) = true then match compGo vs gm mt me xs L1 with
      | .ok ds L2 => .ok ds L2
      | _ => .no
    else .no
  | .ex x L1 => .ex x L1
  | .no => .no
abbrev WF : WX := fun _ _ _ _ => False
def tTrue : Lo → R Bool := fun L => .ok true L
theorem line_lt {n : Nat} (h : n < lineN) : n < sizeLine := by
  have e : sizeLine = 16777216 := sizeLine_eq
  rw [e]; unfold lineN at h; omega
section
variable {K : PySem.W.Frag} {g : Nm} {W : WX}
theorem lc_w {wi : TI} {gt : TG} {src : Lo → R (List D)} {gm : D → Lo → Option Lo} {mt : Lo → R Bool} {me : Lo → R RV} {vs : List Nat} (hi : Is K g W src wi) (hg : TgOk K g gt gm vs) (σ : L2.St) (H : Hp) (Q : VK) (h : tF K g W (fComp vs src gm mt me) σ H Q) :
    tLc wi gt (tT K g WF mt) (tE K g WF me) vs σ H Q := by
  obtain ⟨io, F, P, L, r, h⟩ := h
  refine hi σ H _ ⟨io, F, P, L, r, ?_⟩
  unfold fComp at h
  cases e : src L with
  | no => rw [e] at h; exact h
  | ex x L1 => rw [e] at h; exact h
  | ok xs L1 =>
    rw [e] at h; dsimp only at h
    intro P1 H1 J u1 r1 hs D nD
    by_cases hc : (decide (xs.length ≤ lineN) && noOwnAt L1 vs) = true
    · rw [if_pos hc] at h
      rw [Bool.and_eq_true, decide_eq_true_eq] at hc
      obtain ⟨hlen, hno⟩ := hc
      obtain ⟨r2, n1, n2, n3⟩ := r1.new0 (o := .lst []) nD
      have r2' := r2.frame upd_same n1 (fun z => z) n3
      refine ⟨fun i m H => m = xs.length - i ∧ i ≤ xs.length ∧ ∃ P L accv acc, Up P1 P ∧ Rep K g io (upd F D (.lst accv)) P σ H L ∧ ValL K g P accv acc ∧ accv.length ≤ i ∧ noOwnAt L vs = true ∧
        (match compGo vs gm mt me (xs.drop i) L with
          | .ok ds L6 => ∀ P' H' a ws, Up P P' → Rep K g io F P' σ H' L6 → H' a = some (.lst ws) → P' a = none → F a = none → (∀ i, ¬ Own σ H' L6 i a) → ValL K g P' ws (acc ++ ds) → Q (.ref a) H'
          | _ => False), ⟨_, rfl, Nat.zero_le _, P1, L1, [], [], .refl _, r2', .nil, Nat.le_refl _, hno, ?_⟩, ?_⟩
      · rw [List.drop_zero]
        cases e2 : compGo vs gm mt me xs L1 with
        | no => rw [e2] at h; exact h
        | ex x L2 => rw [e2] at h; exact h
        | ok ds L2 => rw [e2] at h; exact fun P' H' a ws u => h P' H' a ws (u1.trans u)
      · rintro i m H ⟨rfl, hi, P2, La, accv, acc, u2, r3, hacc, hal, hno2, h2⟩
        by_cases hlt : i < xs.length
        · obtain ⟨go, yl⟩ := (hs P2 H u2 r3.ph i).1 hlt
          refine .inr ⟨go, fun H' => i + 1 ≤ xs.length ∧ ∃ P L accv acc, Up P1 P ∧ Rep K g io (upd F D (.lst accv)) P σ H' L ∧ ValL K g P accv acc ∧ accv.length ≤ i + 1 ∧ noOwnAt L vs = true ∧
            (match compGo vs gm mt me (xs.drop (i + 1)) L with
              | .ok ds L6 => ∀ P' H' a ws, Up P P' → Rep K g io F P' σ H' L6 → H' a = some (.lst ws) → P' a = none → F a = none → (∀ i, ¬ Own σ H' L6 i a) → ValL K g P' ws (acc ++ ds) → Q (.ref a) H'
              | _ => False), fun H' ⟨a, q⟩ => ⟨xs.length - (i + 1), by omega, rfl, a, q⟩, fun x H' y => ?_⟩
          obtain ⟨P3, d, e1, gr, hv⟩ := yl x H' y
          have r4 := r3.nxt gr.nxt
          have no := noOwnAt_of hno2
          have r5 := r4.wipe (vs := vs) fun i hi => (no i hi).1
          have ed : xs.drop i = d :: xs.drop (i + 1) := by
            obtain ⟨hlt', e1'⟩ := List.getElem?_eq_some_iff.mp e1
            rw [← e1', List.drop_eq_getElem_cons hlt]
          rw [ed] at h2
          unfold compGo at h2
          cases e2 : gm d (wipeS La vs) with
          | none => rw [e2] at h2; exact h2.elim
          | some L3 =>
            rw [e2] at h2; dsimp only at h2
            refine hg io _ P3 _ H' _ x d L3 r5 hv e2 _ fun σ3 r6 ag agl => ?_
            have agσ : ∀ j, j ∉ vs → σ3[j]? = σ[j]? := fun j hj => (ag j hj).trans (wipe_out hj)
            have hlσ : σ3.length = σ.length := agl.trans (L2.wipe_length σ vs)
            refine ⟨wipe_ext hlσ agσ, ?_⟩
            refine ⟨io, _, P3, L3, r6, ?_⟩
            cases e3 : mt L3 with
            | no => rw [e3] at h2; exact h2.elim
            | ex x L4 => rw [e3] at h2; exact h2.elim
            | ok b L4 =>
              rw [e3] at h2
              intro P4 H4 u4 r7
              cases b with
              | false =>
                rw [if_neg (by decide)]
                dsimp only at h2
                have r8 := r4.unw r7 (u4) agσ hlσ no
                refine ⟨hlt, P4, _, accv, acc, (u2.trans gr.p).trans u4, r8, hacc.up (gr.p.trans u4), Nat.le_succ_of_le hal, ?_, ?_⟩
                · exact noOwn_unw hno2 (by rw [← r7.len, hlσ, r4.len])
                · cases e9 : compGo vs gm mt me (xs.drop (i + 1)) (Z.unw La L4 vs) with
                  | no => rw [e9] at h2; exact h2.elim
                  | ex x L => rw [e9] at h2; exact h2.elim
                  | ok ds L6 => rw [e9] at h2; exact fun P' H' a ws u => h2 P' H' a ws ((gr.p.trans u4).trans u)
              | true =>
                rw [if_pos rfl]
                dsimp only at h2
                refine ⟨io, _, P4, L4, r7, ?_⟩
                cases e4 : me L4 with
                | no => rw [e4] at h2; exact h2.elim
                | ex x L5 => rw [e4] at h2; exact h2.elim
                | ok rv L5 =>
                  rw [e4] at h2; dsimp only at h2
                  intro P5 H5 v u5 r8 hv5
                  cases e5 : frz rv L5 with
                  | none => rw [e5] at h2; exact h2.elim
                  | some q =>
                    obtain ⟨d', L6⟩ := q
                    rw [e5] at h2; dsimp only at h2
                    obtain ⟨P6, u6, r9, v6⟩ := r8.frz hv5 e5
                    have r10 := r4.unw r9 ((u4.trans u5).trans u6) agσ hlσ no
                    have r11 := r10.reframe (o' := .lst (accv ++ [v])) (fun z => z)
                    refine ⟨accv, r10.fh D _ upd_same, line_lt (by omega), hlt, P6, _, accv ++ [v], acc ++ [d'], (((u2.trans gr.p).trans u4).trans u5).trans u6, r11, (hacc.up (((gr.p.trans u4).trans u5).trans u6)).append (.one v6), by rw [List.length_append, List.length_singleton]; omega, ?_, ?_⟩
                    · exact noOwn_unw hno2 (by rw [← r9.len, hlσ, r4.len])
                    · cases e9 : compGo vs gm mt me (xs.drop (i + 1)) (Z.unw La L6 vs) with
                      | no => rw [e9] at h2; exact h2.elim
                      | ex x L => rw [e9] at h2; exact h2.elim
                      | ok ds L7 =>
                        rw [e9] at h2
                        intro P' H' a ws u
                        rw [List.append_assoc]
                        exact h2 P' H' a ws ((((gr.p.trans u4).trans u5).trans u6).trans u)
        · have ei : i = xs.length := by omega
          subst ei
          refine .inl ⟨(hs P2 H u2 r3.ph _).2 (Nat.le_refl _), ?_⟩
          rw [List.drop_length] at h2
          have n4 := r3.noOwn (upd_same (a := D))
          refine h2 P2 H D accv (.refl _) (r3.less (up_new n2)) (r3.fh D _ upd_same) (r3.fp D _ upd_same).1 n2 n4 ?_
          rw [List.append_nil]
          exact hacc
    · rw [if_neg hc] at h; exact h.elim
end
end L2.Z

/-! part Z6 -/
set_option Elab.async false
set_option linter.all false
set_option maxRecDepth 100000
set_option maxHeartbeats 4000000
namespace L2.Z
open PySem PySem.Spec PyProof.Rows

section
variable {X : Cx} {g : Nm} {W : WX}
theorem mts_nil : PTs X [] (tT X.K g W tTrue) := pts_nil.weak fun σ H Q ⟨io, F, P, L, r, h⟩ => h P H (.refl P) r
theorem mts_one {c : Expr} {m : Lo → R Bool} (h : PT X c (tT X.K g W m)) : PTs X [c] (tT X.K g W m) := pts_one h
theorem asg_w {st : Stmt} {t t' : TE} {gt : TG} (h : PS X st (tAsg t gt)) (w : ∀ σ H Q, t' σ H Q → t σ H Q) : PS X st (tAsg t' gt) := h.weak fun D σ H q => w σ H _ q
theorem fz_w {K : PySem.W.Frag} {m : Lo → R (List D)} (σ : L2.St) (H : Hp) (Q : VK) (h : tE K g W (eFz m) σ H Q) : tF K g W m σ H Q := by
  obtain ⟨io, F, P, L, r, h⟩ := h
  refine ⟨io, F, P, L, r, ?_⟩
  unfold eFz at h
  cases e : m L with
  | ok xs L1 =>
    rw [e] at h
    intro P' H' a vs u r' e1 e2 e3 e4 e5
    exact h _ H' _ (u.trans (up_new e2)) (r'.add e1 e2 e3 e4) (.lst upd_same (e5.up (up_new e2)))
  | ex x L1 => rw [e] at h; exact h
  | no => rw [e] at h; exact h
variable {elt tg iter : Expr} {ifs : List Expr} {scope : Scope} {own : List (Str × Nat)} {pos : Pos} {gt : TG} {src : Lo → R (List D)} {gm : D → Lo → Option Lo} {mt : Lo → R Bool} {me : Lo → R RV}
theorem mf_comp (hc : X.calm = true) (hN : X.N.Nodup) (hi : MI X g W tg iter src) (ok : BlkOk X.N X.env.scope scope own)
    (hg : ∀ (s : Shared) (H : Hp) (C : Addr) (cl : List (Str × Addr)) (fp : List Addr), PG (X.blk s H scope (compEnvC scope cl C X.env) fp) tg gt) (hgm : TgOk X.K g gt gm (own.map (·.2)))
    (ht : ∀ (s : Shared) (H : Hp) (C : Addr) (cl : List (Str × Addr)) (fp : List Addr), PTs (X.blk s H scope (compEnvC scope cl C X.env) fp) ifs (tT X.K g WF mt))
    (he : ∀ (s : Shared) (H : Hp) (C : Addr) (cl : List (Str × Addr)) (fp : List Addr), PE (X.blk s H scope (compEnvC scope cl C X.env) fp) elt (tE X.K g WF me)) (hs : ∀ x, foldedSetIterable iter X.env x = pure x := by intro _; rfl) :
    PE X (.ListComp elt [⟨tg, iter, ifs, 0⟩] scope pos) (tF X.K g W (fComp (own.map (·.2)) src gm mt me)) := by
  obtain ⟨wi, h1, h2⟩ := hi
  exact (pe_lc hc hN h1 ok hg ht he hs).weak (lc_w h2 hgm)
/-- name = [..], the name a local of the def: the list is its own -/
theorem ms_setC {i : Nat} {y : Str} {py spos : Pos} (hc : X.calm = true) (hN : X.N.Nodup) (hy : X.N[i]? = some y) (hyl : X.env.scope.names.lookup y = some .local)
    (hsw : swapsWith (.ListComp elt [⟨tg, iter, ifs, 0⟩] scope pos) (some (.Name y py)) spos.line X.env = pure true) (hi : MI X g W tg iter src) (ok : BlkOk X.N X.env.scope scope own)
    (hg : ∀ (s : Shared) (H : Hp) (C : Addr) (cl : List (Str × Addr)) (fp : List Addr), PG (X.blk s H scope (compEnvC scope cl C X.env) fp) tg gt) (hgm : TgOk X.K g gt gm (own.map (·.2)))
    (ht : ∀ (s : Shared) (H : Hp) (C : Addr) (cl : List (Str × Addr)) (fp : List Addr), PTs (X.blk s H scope (compEnvC scope cl C X.env) fp) ifs (tT X.K g WF mt))
    (he : ∀ (s : Shared) (H : Hp) (C : Addr) (cl : List (Str × Addr)) (fp : List Addr), PE (X.blk s H scope (compEnvC scope cl C X.env) fp) elt (tE X.K g WF me)) (hs : ∀ x, foldedSetIterable iter X.env x = pure x := by intro _; rfl) :
    PS X (.Assign [.Name y py] (.ListComp elt [⟨tg, iter, ifs, 0⟩] scope pos) spos) (tAsg (tF X.K g W (fComp (own.map (·.2)) src gm mt me)) (gName i)) := by
  obtain ⟨wi, h1, h2⟩ := hi
  exact asg_w (ps_setLc hc hN hy hyl hsw h1 ok hg ht he hs) (lc_w h2 hgm)
/-- .. a value -/
theorem ms_setFz {st : Stmt} {i : Nat} {m : Lo → R (List D)} (h : PS X st (tAsg (tF X.K g W m) (gName i))) : PS X st (tS X.K g W (sSet i (eFz m))) := ms_set (asg_w h fz_w)

/-! ### a def that changes its first argument -/
structure NxtI (a : Addr) (P H P' H' : Hp) : Prop where
  p : Up P P'
  ph : Up P' H'
  keep : ∀ b o, b ≠ a → H b = some o → P b = none → ¬ isTup o → H' b = some o ∧ P' b = none
def ioOf : SV → Option (List D)
  | .li xs => some xs
  | .io xs => some xs
  | _ => none
def ioSet (ys : List D) : SV → SV
  | .io _ => .io ys
  | _ => .li ys
theorem Rep.nxtI {K : PySem.W.Frag} {io : Option Addr} {F P H P' H' : Hp} {σ : L2.St} {L : Lo} (r : Rep K g io F P σ H L) {i : Nat} {a : Addr} {s0 : SV} {xs ys : List D} {ws : List V} (e0 : L[i]? = some s0) (ev : σ[i]? = some (some (.ref a))) (o0 : ioOf s0 = some xs)
    (x : NxtI a P H P' H') (h1 : H' a = some (.lst ws)) (h2 : P' a = none) (h3 : ValL K g P' ws ys) : Rep K g io F P' σ H' (L.set i (ioSet ys s0)) := by
  have ow : isOwn s0 = true := by cases s0 <;> first | rfl | cases o0
  have me : Own σ H L i a := ⟨s0, a, e0, ev, ow, .inl rfl⟩
  obtain ⟨o', g1, g2, g3, hF⟩ := r.own me
  have n2 : ∀ xss, ioSet ys s0 ≠ .l2 xss := fun xss z => by cases s0 <;> cases z
  refine r.slot e0 (fun j _ => rfl) rfl (fun _ => rfl) x.ph (fun b o e => ?_) (fun b o e => ?_) x.p ?_ (fun j b h w => ?_) ?_ fun c b z w j h y => ?_
  · have nb : b ≠ a := fun z => by rw [z, hF] at e; cases e
    exact (x.keep b o nb (r.fh b o e) (r.fp b o e).1 (r.fp b o e).2).1
  · have nb : b ≠ a := fun z => by rw [z, hF] at e; cases e
    exact ⟨(x.keep b o nb (r.fh b o e) (r.fp b o e).1 (r.fp b o e).2).2, (r.fp b o e).2⟩
  · cases s0 with
    | un => cases o0
    | va d => cases o0
    | li xs => exact ⟨fun ⟨_, z⟩ => (nomatch z), fun ⟨_, z⟩ => (nomatch z)⟩
    | io xs => exact ⟨fun _ => ⟨_, rfl⟩, fun _ => ⟨_, rfl⟩⟩
    | di _ => cases o0
    | l2 _ => cases o0
  · have nb : b ≠ a := fun z => h (r.dj j i a (z ▸ w) me)
    obtain ⟨o, e1, e2, e3, e4⟩ := r.own w
    obtain ⟨k1, k2⟩ := x.keep b o nb e1 e3 e2
    exact ⟨k1.trans e1.symm, k2, e4⟩
  · rw [ev]
    cases s0 with
    | un => cases o0
    | va d => cases o0
    | li _ => exact ⟨a, ws, rfl, h1, h2, hF, h3⟩
    | io _ => exact ⟨a, ws, rfl, h1, h2, hF, h3⟩
    | di _ => cases o0
    | l2 _ => cases o0
  · rw [ev] at z; cases z
    rcases w.2 with rfl | ⟨_, _, z, _⟩
    · exact h (r.dj j i _ y me)
    · exact absurd z (n2 _)

theorem Rep.newOwn {K : PySem.W.Frag} {io : Option Addr} {F P H P' H' : Hp} {σ : L2.St} {L : Lo} (r : Rep K g io F P σ H L) {i : Nat} {a b : Addr} {s0 : SV} {xs ys : List D} (e0 : L[i]? = some s0) (ev : σ[i]? = some (some (.ref a))) (o0 : ioOf s0 = some xs)
    (x : NxtI a P H P' H') (nb : H b = none) (hne : b ≠ a) {j : Nat} (w : Own σ H' (L.set i (ioSet ys s0)) j b) : False := by
  have ow : isOwn s0 = true := by cases s0 <;> first | rfl | cases o0
  have me : Own σ H L i a := ⟨s0, a, e0, ev, ow, .inl rfl⟩
  have n2 : ∀ xss, ioSet ys s0 ≠ .l2 xss := fun xss z => by cases s0 <;> cases z
  obtain ⟨t, c, z1, z2, z3⟩ := w
  by_cases hj : i = j
  · subst hj
    rw [List.getElem?_set_self (List.getElem?_eq_some_iff.mp e0).1] at z1; cases z1
    rw [ev] at z2; cases z2
    rcases z3.2 with rfl | ⟨_, _, z, _⟩
    · exact hne rfl
    · exact absurd z (n2 _)
  · rw [List.getElem?_set_ne hj] at z1
    have oc : Own σ H L j c := ⟨t, c, z1, z2, z3.1, .inl rfl⟩
    have hc : c ≠ a := fun z => hj (r.dj i j a me (z ▸ oc))
    obtain ⟨o, e1, e2, e3, e4⟩ := r.own oc
    obtain ⟨o', g1, _⟩ := r.own ⟨t, c, z1, z2, z3.eq ((x.keep c o hc e1 e3 e2).1.trans e1.symm)⟩
    rw [nb] at g1; cases g1

/-- what a def gives that changes its first argument -/
inductive RI where
  | v (d : D) (xs : List D) | f (ds xs : List D) | no
def spI (K : PySem.W.Frag) (g : Nm) (n : Nat) (f : List D → List D → RI) : Sp := fun vs H Q _ => vs.length = n ∧ ∃ P a ws xs vs' ds, vs = .ref a :: vs' ∧ Up P H ∧ H a = some (.lst ws) ∧ P a = none ∧ ValL K g P ws xs ∧ ValL K g P vs' ds ∧ match f xs ds with
  | .v d ys => ∀ P' H' v ws', NxtI a P H P' H' → H' a = some (.lst ws') → P' a = none → ValL K g P' ws' ys → Val K g P' v d → Q v H'
  | .f es ys => ∀ P' H' b bs ws', NxtI a P H P' H' → H' a = some (.lst ws') → P' a = none → ValL K g P' ws' ys → H b = none → H' b = some (.lst bs) → P' b = none → b ≠ a → ValL K g P' bs es → Q (.ref b) H'
  | .no => False
/-- .. with a value, its argument known -/
def eCallI (n i : Nat) (f : List D → List D → RI) (ms : Lo → R (List RV)) : Lo → R RV := fun L => match L[i]?.bind ioOf with
  | none => .no
  | some _ => match ms L with
    | .ok rs L1 => match getL L1 rs, L1[i]? with
      | some ds, some s0 => match ioOf s0 with
        | some xs => if (decide (rs.length + 1 = n) && !(rs.any (isB · L1))) = true then match f xs ds with
            | .v d ys => .ok (.v d) (L1.set i (ioSet ys s0))
            | .f ds ys => .ok (.v (.lst ds)) (L1.set i (ioSet ys s0))
            | .no => .no
          else .no
        | none => .no
      | _, _ => .no
    | .ex x L1 => .ex x L1
    | .no => .no
def fCallI (n i : Nat) (f : List D → List D → RI) (ms : Lo → R (List RV)) : Lo → R (List D) := fun L => match L[i]?.bind ioOf with
  | none => .no
  | some _ => match ms L with
    | .ok rs L1 => match getL L1 rs, L1[i]? with
      | some ds, some s0 => match ioOf s0 with
        | some xs => if (decide (rs.length + 1 = n) && !(rs.any (isB · L1))) = true then match f xs ds with
            | .f ds ys => .ok ds (L1.set i (ioSet ys s0))
            | _ => .no
          else .no
        | none => .no
      | _, _ => .no
    | .ex x L1 => .ex x L1
    | .no => .no
theorem ioOf_ok {K : PySem.W.Frag} {io : Option Addr} {F P H : Hp} {σ : L2.St} {L : Lo} (r : Rep K g io F P σ H L) {i : Nat} {s0 : SV} {xs : List D} (e0 : L[i]? = some s0) (o0 : ioOf s0 = some xs) : ∃ a ws, σ[i]? = some (some (.ref a)) ∧ H a = some (.lst ws) ∧ P a = none ∧ F a = none ∧ ValL K g P ws xs := by
  have z := r.sl i s0 e0
  cases s0 with
  | un => cases o0
  | va d => cases o0
  | li xs => cases o0; exact z
  | io xs => cases o0; exact z
  | di xs => cases o0
  | l2 xs => cases o0
theorem callFI_w {K : PySem.W.Frag} {n i : Nat} {f : List D → List D → RI} {ms : Lo → R (List RV)} (σ : L2.St) (H : Hp) (Q : VK) (h : tF K g W (fCallI n i f ms) σ H Q) : tCallS (spI K g n f) (WE W) (tCons (tVar i) (tA K g W ms)) σ H Q := by
  obtain ⟨io, F, P, L, r, h⟩ := h
  unfold fCallI at h
  cases e0 : L[i]?.bind ioOf with
  | none => rw [e0] at h; exact h.elim
  | some xs0 =>
    rw [e0] at h; dsimp only at h
    obtain ⟨s00, e00, e01⟩ := Option.bind_eq_some_iff.mp e0
    obtain ⟨a, ws0, ev, _⟩ := ioOf_ok r e00 e01
    refine ⟨_, ev, io, F, P, L, r, ?_⟩
    cases e : ms L with
    | no => rw [e] at h; exact h.elim
    | ex x L1 => rw [e] at h; exact h
    | ok rs L1 =>
      rw [e] at h; dsimp only at h
      intro P' H' vs u r' hv
      cases e1 : getL L1 rs with
      | none => rw [e1] at h; exact h.elim
      | some ds =>
        cases e2 : L1[i]? with
        | none => rw [e1, e2] at h; exact h.elim
        | some s0 =>
          rw [e1, e2] at h; dsimp only at h
          cases e3 : ioOf s0 with
          | none => rw [e3] at h; exact h.elim
          | some xs =>
            rw [e3] at h; dsimp only at h
            by_cases hc : (decide (rs.length + 1 = n) && !(rs.any (isB · L1))) = true
            · rw [if_pos hc] at h
              rw [Bool.and_eq_true, decide_eq_true_eq, Bool.not_eq_true'] at hc
              obtain ⟨a', ws, ev', z1, z2, z3, z4⟩ := ioOf_ok r' e2 e3
              rw [ev] at ev'; cases ev'
              refine ⟨by rw [List.length_cons, hv.length]; exact hc.1, P', a, ws, xs, vs, ds, rfl, r'.ph, z1, z2, z4, r'.vals hv e1 hc.2, ?_⟩
              cases e4 : f xs ds with
              | no => rw [e4] at h; exact h.elim
              | v d ys => rw [e4] at h; exact h.elim
              | f es ys =>
                rw [e4] at h
                intro P2 H2 b bs ws' nx h1 h2 h3 nb hb pb hne hbs
                have r2 := r'.nxtI e2 ev e3 nx h1 h2 h3
                have nF : F b = none := by cases q : F b with | none => rfl | some o => rw [r'.fh b o q] at nb; cases nb
                refine h P2 H2 b bs (u.trans nx.p) r2 hb pb nF (fun j w => ?_) hbs
                exact r'.newOwn e2 ev e3 nx nb hne w
            · rw [if_neg hc] at h; exact h.elim
theorem callI_w {K : PySem.W.Frag} {n i : Nat} {f : List D → List D → RI} {ms : Lo → R (List RV)} (σ : L2.St) (H : Hp) (Q : VK) (h : tE K g W (eCallI n i f ms) σ H Q) : tCallS (spI K g n f) (WE W) (tCons (tVar i) (tA K g W ms)) σ H Q := by
  obtain ⟨io, F, P, L, r, h⟩ := h
  unfold eCallI at h
  cases e0 : L[i]?.bind ioOf with
  | none => rw [e0] at h; exact h.elim
  | some xs0 =>
    rw [e0] at h; dsimp only at h
    obtain ⟨s00, e00, e01⟩ := Option.bind_eq_some_iff.mp e0
    obtain ⟨a, ws0, ev, _⟩ := ioOf_ok r e00 e01
    refine ⟨_, ev, io, F, P, L, r, ?_⟩
    cases e : ms L with
    | no => rw [e] at h; exact h.elim
    | ex x L1 => rw [e] at h; exact h
    | ok rs L1 =>
      rw [e] at h; dsimp only at h
      intro P' H' vs u r' hv
      cases e1 : getL L1 rs with
      | none => rw [e1] at h; exact h.elim
      | some ds =>
        cases e2 : L1[i]? with
        | none => rw [e1, e2] at h; exact h.elim
        | some s0 =>
          rw [e1, e2] at h; dsimp only at h
          cases e3 : ioOf s0 with
          | none => rw [e3] at h; exact h.elim
          | some xs =>
            rw [e3] at h; dsimp only at h
            by_cases hc : (decide (rs.length + 1 = n) && !(rs.any (isB · L1))) = true
            · rw [if_pos hc] at h
              rw [Bool.and_eq_true, decide_eq_true_eq, Bool.not_eq_true'] at hc
              obtain ⟨a', ws, ev', z1, z2, z3, z4⟩ := ioOf_ok r' e2 e3
              rw [ev] at ev'; cases ev'
              refine ⟨by rw [List.length_cons, hv.length]; exact hc.1, P', a, ws, xs, vs, ds, rfl, r'.ph, z1, z2, z4, r'.vals hv e1 hc.2, ?_⟩
              cases e4 : f xs ds with
              | no => rw [e4] at h; exact h.elim
              | v d ys =>
                rw [e4] at h
                exact fun P2 H2 v ws' nx h1 h2 h3 hvv => h P2 H2 v (u.trans nx.p) (r'.nxtI e2 ev e3 nx h1 h2 h3) hvv
              | f es ys =>
                rw [e4] at h
                intro P2 H2 b bs ws' nx h1 h2 h3 nb hb pb hne hbs
                have r2 := r'.nxtI e2 ev e3 nx h1 h2 h3
                have nF : F b = none := by cases q : F b with | none => rfl | some o => rw [r'.fh b o q] at nb; cases nb
                have r3 := r2.add hb pb nF (fun j w => r'.newOwn e2 ev e3 nx nb hne w)
                exact h _ H2 _ ((u.trans nx.p).trans (up_new pb)) r3 (.lst upd_same (hbs.up (up_new pb)))
            · rw [if_neg hc] at h; exact h.elim
theorem me_callI {k n i : Nat} {x : Str} {ps : List Str} {f : List D → List D → RI} {e : Expr} {es : List Expr} {ms : Lo → R (List RV)} {p pos : Pos} (c : DefOk X.prog X.w X.K X.mg X.base k x ps (spI X.K g n f)) (hr : Room k X.A) (tk : Takes X W) (hg : Gl X x) (h0 : PE X e (tVar i)) (ha : PA X es (tA X.K g W ms))
    (hdb : (x == ("__debug__" : Str)) = false := by decide) (he : starEach (e :: es) X.env = (false, eval e X.env) :: starEach es X.env := by rfl) (hpl : (backTo pos (starEach es X.env)).any (·.1) = false := by rfl) :
    PE X (.Call (.Name x p) (e :: es) [] pos) (tE X.K g W (eCallI n i f ms)) := by
  obtain ⟨f', fd, h1, h2, h3, h4⟩ := c.ex
  exact (pe_callS h4 hr hg h1 h2 h3 (fun σ => passAt tk σ) (pa_cons h0 ha he) hdb he hpl).weak fun σ H Q q => callI_w σ H Q q
theorem mf_callI {k n i : Nat} {x : Str} {ps : List Str} {f : List D → List D → RI} {e : Expr} {es : List Expr} {ms : Lo → R (List RV)} {p pos : Pos} (c : DefOk X.prog X.w X.K X.mg X.base k x ps (spI X.K g n f)) (hr : Room k X.A) (tk : Takes X W) (hg : Gl X x) (h0 : PE X e (tVar i)) (ha : PA X es (tA X.K g W ms))
    (hdb : (x == ("__debug__" : Str)) = false := by decide) (he : starEach (e :: es) X.env = (false, eval e X.env) :: starEach es X.env := by rfl) (hpl : (backTo pos (starEach es X.env)).any (·.1) = false := by rfl) :
    PE X (.Call (.Name x p) (e :: es) [] pos) (tF X.K g W (fCallI n i f ms)) := by
  obtain ⟨f', fd, h1, h2, h3, h4⟩ := c.ex
  exact (pe_callS h4 hr hg h1 h2 h3 (fun σ => passAt tk σ) (pa_cons h0 ha he) hdb he hpl).weak fun σ H Q q => callFI_w σ H Q q

/-! ### its body; returning a new list -/
def fnI (len : Nat) (m : Lo → SR) : List D → List D → RI := fun xs ds => match m (.io xs :: (ds.map SV.va ++ List.replicate (len - 1 - ds.length) .un)) with
  | .rt d L => match (L : List SV)[0]? with
    | some (SV.io ys) => .v d ys
    | _ => .no
  | .nx L => match (L : List SV)[0]? with
    | some (SV.io ys) => .v .non ys
    | _ => .no
  | .rf es L => match (L : List SV)[0]? with
    | some (SV.io ys) => .f es ys
    | _ => .no
  | _ => .no
/-- return of a new list -/
def sRetF (m : Lo → R (List D)) : Lo → SR := fun L => match m L with
  | .ok xs L1 => .rf xs L1
  | .ex x L1 => .ex x L1
  | .no => .no
theorem ms_retF {st : Stmt} {m : Lo → R (List D)} (h : PS X st (tRet (tF X.K g W m))) : PS X st (tS X.K g W (sRetF m)) := h.weak fun D σ H ⟨io, F, P, L, r, h⟩ => by
  refine ⟨io, F, P, L, r, ?_⟩
  unfold sRetF at h
  cases e : m L with
  | ok xs L1 => rw [e] at h; exact fun P' H' a vs u r' h1 h2 h3 h4 h5 => h P' σ H' a vs u r' h1 h2 h3 h4 h5
  | ex x L1 => rw [e] at h; exact fun P' H' c dd u r' e' => h P' σ H' c dd u r' e'
  | no => rw [e] at h; exact h
/-- return of an own list, given away -/
def sRetO (i : Nat) : Lo → SR := fun L => match L[i]? with
  | some (.li xs) => .rf xs (L.set i .un)
  | _ => .no
theorem ms_retO {st : Stmt} {i : Nat} (h : PS X st (tRet (tVar i))) : PS X st (tS X.K g W (sRetO i)) := h.weak fun D σ H ⟨io, F, P, L, r, h⟩ => by
  unfold sRetO at h
  cases e : L[i]? with
  | none => rw [e] at h; exact h.elim
  | some s =>
    rw [e] at h
    cases s with
    | li xs =>
      obtain ⟨a, ws, e1, e2, e3, e4, e5⟩ := r.sl i _ e
      have r1 := r.know e (s := .un) (fun _ z => nomatch z) (fun _ z => nomatch z) trivial (fun _ _ z => nomatch z.1)
      refine ⟨_, e1, h P σ H a ws (.refl P) r1 e2 e3 e4 (fun j ⟨t, c, z2, z1, z3⟩ => ?_) e5⟩
      by_cases hj : i = j
      · subst hj; rw [List.getElem?_set_self (List.getElem?_eq_some_iff.mp e).1] at z2; cases z2; cases z3.1
      · rw [List.getElem?_set_ne hj] at z2; exact hj (r.dj i j a ⟨_, a, e, e1, rfl, .inl rfl⟩ ⟨t, c, z2, z1, z3⟩)
    | _ => exact h.elim
variable {K : PySem.W.Frag} {Pg : Program} {w : World} {mg : Str → Option Value} {base : Heap}
section
open Classical
noncomputable def restI (a : Addr) (P H : Hp) : Hp := fun b => if b = a then none else restOf P H b
theorem restI_some {a : Addr} {P H : Hp} {b : Addr} {o : HO} (e : restI a P H b = some o) : b ≠ a ∧ P b = none ∧ H b = some o ∧ ¬ isTup o := by
  unfold restI at e
  by_cases h : b = a
  · rw [if_pos h] at e; cases e
  · rw [if_neg h] at e; exact ⟨h, restOf_some e⟩
theorem restI_of {a : Addr} {P H : Hp} {b : Addr} {o : HO} (h : b ≠ a) (e1 : P b = none) (e2 : H b = some o) (t : ¬ isTup o) : restI a P H b = some o := by
  unfold restI
  rw [if_neg h]; exact restOf_of e1 e2 t
theorem restI_self {a : Addr} {P H : Hp} : restI a P H a = none := by unfold restI; rw [if_pos rfl]
end
theorem Rep.startI {P H : Hp} {N : List Str} {vs : List V} {ds xs : List D} {a : Addr} {ws : List V} (u : Up P H) (ha : H a = some (.lst ws)) (hp : P a = none) (hx : ValL K g P ws xs) (h : ValL K g P vs ds) (hl : vs.length + 1 ≤ N.length) :
    Rep K g (some a) (restI a P H) P (L2.start N (.ref a :: vs)) H (.io xs :: (ds.map SV.va ++ List.replicate (N.length - 1 - ds.length) .un)) := by
  have hlen := h.length
  obtain ⟨n0, N', rfl⟩ : ∃ n0 N', N = n0 :: N' := by
    cases N with
    | nil => simp at hl
    | cons n0 N' => exact ⟨n0, N', rfl⟩
  have es : L2.start (n0 :: N') (.ref a :: vs) = some (.ref a) :: L2.start N' vs := by
    unfold L2.start
    simp only [List.map_cons, List.length_cons, List.cons_append]
    rw [show N'.length + 1 - (vs.length + 1) = N'.length - vs.length by omega]
  have el : (n0 :: N').length - 1 - ds.length = N'.length - ds.length := by rw [List.length_cons]; omega
  rw [es, el]
  have get : ∀ {i : Nat} {s : SV}, (SV.io xs :: (ds.map SV.va ++ List.replicate (N'.length - ds.length) .un))[i]? = some s → (i = 0 ∧ s = .io xs) ∨ s = .un ∨ ∃ d v, s = .va d ∧ (some (V.ref a) :: L2.start N' vs)[i]? = some (some v) ∧ Val K g P v d := by
    intro i s e
    cases i with
    | zero => cases e; exact .inl ⟨rfl, rfl⟩
    | succ i =>
      rw [List.getElem?_cons_succ] at e
      rcases start_val (N := N') h e with z | ⟨d, v, z, z1, z2⟩
      · exact .inr (.inl z)
      · exact .inr (.inr ⟨d, v, z, by rw [List.getElem?_cons_succ]; exact z1, z2⟩)
  refine ⟨u, fun b o e => (restI_some e).2.2.1, fun b o e => ⟨(restI_some e).2.1, (restI_some e).2.2.2⟩, ?_, fun i s e => ?_, fun i j b x y => ?_, fun b e => ?_, (fun e => nomatch e), fun i zs e => ?_⟩
  · simp only [List.length_cons, List.length_append, List.length_map, List.length_replicate, L2.start] at hl ⊢
    omega
  · rcases get e with ⟨rfl, rfl⟩ | rfl | ⟨d, v, rfl, e1, e2⟩
    · exact ⟨a, ws, rfl, ha, hp, restI_self, hx⟩
    · trivial
    · exact ⟨v, e1, e2⟩
  · have z : ∀ {k : Nat}, Own (some (V.ref a) :: L2.start N' vs) H (SV.io xs :: (ds.map SV.va ++ List.replicate (N'.length - ds.length) .un)) k b → k = 0 := fun {k} ⟨s, _, e, _, o⟩ => by
      rcases get e with ⟨z, _⟩ | rfl | ⟨d, v, rfl, _⟩
      · exact z
      · cases o.1
      · cases o.1
    rw [z x, z y]
  · cases e; exact ⟨rfl, xs, rfl⟩
  · rcases get e with ⟨z, _⟩ | z | ⟨d, v, z, _⟩
    · exact z
    · cases z
    · cases z
theorem withTups_up {P H : Hp} (u : Up P H) : Up P (withTups P H) ∧ Up (withTups P H) H := ⟨fun a o e => withTups_of e, fun a o e => (withTups_cases e).elim (u a o) fun q => q.2.1⟩
theorem withTups_none {P H : Hp} {a : Addr} (e1 : P a = none) (t : ∀ o, H a = some o → ¬ isTup o) : withTups P H a = none := by
  cases q : withTups P H a with
  | none => rfl
  | some o =>
    rcases withTups_cases q with w | ⟨_, w, z⟩
    · rw [e1] at w; cases w
    · exact absurd z (t o w)
theorem Rep.nxtIOf {io : Option Addr} {P H P' H' : Hp} {σ : L2.St} {L : Lo} {a : Addr} (r : Rep K g io (restI a P H) P' σ H' L) (u : Up P P') : NxtI a P H P' H' :=
  ⟨u, r.ph, fun b o hb e n t => ⟨r.fh b o (restI_of hb n e t), (r.fp b o (restI_of hb n e t)).1⟩⟩
theorem okI {x qual : Str} {st : Stmt} {f : Addr} {fd : FuncData} {N ps : List Str} {k : Nat} (F : Fun K x qual st f fd) (S : FnScope N ps (defScope st)) {m : Lo → SR}
    (body : ∀ (cdv : Value) (A : Around) (outer : List Env) (s : Shared) (H : Hp) (E : XK), Room k (cxOf (L2.CX Pg w) Pg w K mg base N qual (defScope st) f cdv A outer s H E).A → Takes (cxOf (L2.CX Pg w) Pg w K mg base N qual (defScope st) f cdv A outer s H E) (fun cls d _ H => E cls d H) →
      PSs (cxOf (L2.CX Pg w) Pg w K mg base N qual (defScope st) f cdv A outer s H E) (defBody st) (tS K g (fun cls d _ H => E cls d H) m)) :
    FnOk Pg w K mg base (L2.CX Pg w) (k + 1) f fd ps (spI K g ps.length (fnI N.length m)) := by
  have hpl : ps.length ≤ N.length := by have := congrArg List.length S.pre; rw [List.length_take] at this; omega
  refine F.okX S (fun vs H Q E h => h.1) fun cdv A outer s H vs Q E hr h => ?_
  refine ⟨_, body cdv A outer s H E hr (takes_of rfl rfl rfl rfl), ?_⟩
  obtain ⟨hn, P, a, ws, xs, vs', ds, rfl, u, ha, hp, hx, hv, h⟩ := h
  rw [List.length_cons] at hn
  obtain ⟨w1, w2⟩ := withTups_up u
  have hpi : withTups P H a = none := withTups_none hp fun o e t => by rw [ha] at e; cases e; exact t
  refine ⟨some a, restI a (withTups P H) H, withTups P H, _, Rep.startI w2 ha hpi (hx.up w1) (hv.up w1) (by omega), ?_⟩
  have toN : ∀ {P' H' : Hp}, NxtI a (withTups P H) H P' H' → NxtI a P H P' H' := fun x => ⟨w1.trans x.p, x.ph, fun b o hb e n t => x.keep b o hb e (withTups_none n fun o' e' t' => by rw [e] at e'; cases e'; exact t t') t⟩
  unfold fnI at h
  have fin : ∀ {P' H' : Hp} {σ' : L2.St} {L : Lo}, Rep K g (some a) (restI a (withTups P H) H) P' σ' H' L → ∃ ys ws', L[0]? = some (.io ys) ∧ H' a = some (.lst ws') ∧ P' a = none ∧ ValL K g P' ws' ys := fun {P' H' σ' L} r => by
    obtain ⟨z1, ys, z2⟩ := r.pin a rfl
    obtain ⟨b, ws', w1, w2, w3, _, w4⟩ := r.sl 0 _ z2
    rw [z1] at w1; cases w1
    exact ⟨ys, ws', z2, w2, w3, w4⟩
  cases e : m (.io xs :: (ds.map SV.va ++ List.replicate (N.length - 1 - ds.length) .un)) with
  | nx L =>
    rw [e] at h
    intro P' σ' H' u' r'
    obtain ⟨ys, ws', z1, z2, z3, z4⟩ := fin r'
    dsimp only at h
    rw [z1] at h
    exact h P' H' .non ws' (toN (r'.nxtIOf u')) z2 z3 z4 .non
  | rt d L =>
    rw [e] at h
    intro P' σ' H' v u' r' hv'
    obtain ⟨ys, ws', z1, z2, z3, z4⟩ := fin r'
    dsimp only at h
    rw [z1] at h
    exact h P' H' v ws' (toN (r'.nxtIOf u')) z2 z3 z4 hv'
  | rf es L =>
    rw [e] at h
    intro P' σ' H' b bs u' r' q1 q2 q3 q4 q5
    obtain ⟨ys, ws', z1, z2, z3, z4⟩ := fin r'
    dsimp only at h
    rw [z1] at h
    have nba : b ≠ a := fun z => by
      obtain ⟨w1, _, w2⟩ := r'.pin a rfl
      exact q4 0 ⟨_, b, w2, by rw [z]; exact w1, rfl, .inl rfl⟩
    have np : withTups P H b = none := by cases q6 : withTups P H b with | none => rfl | some o' => rw [u' b o' q6] at q2; cases q2
    have hb : H b = none := by
      cases q : H b with
      | none => rfl
      | some o =>
        by_cases t : isTup o
        · rw [withTups_tup u q t] at np; cases np
        · rw [restI_of nba np q t] at q3; cases q3
    exact h P' H' b bs ws' (toN (r'.nxtIOf u')) z2 z3 z4 hb q1 q2 nba q5
  | bk L => rw [e] at h; exact h.elim
  | ct L => rw [e] at h; exact h.elim
  | ex x L => rw [e] at h; exact h.elim
  | no => rw [e] at h; exact h.elim
end
end L2.Z

/-! part Z7 -/
set_option Elab.async false
set_option linter.all false
set_option maxRecDepth 100000
set_option maxHeartbeats 4000000
namespace L2.Z
open PySem PySem.Spec PyProof.Rows

/-! ### reading -/
section
variable {K : PySem.W.Frag} {g : Nm} {P H : Hp}
theorem VW.int {v : V} {i : Int} (h : VW K g P H v (.int i)) : v = .int i := by cases h with | va h => cases h; rfl
theorem VW.bl {v : V} {b : Bool} (h : VW K g P H v (.bl b)) : v = .bl b := by cases h with | va h => cases h; rfl
theorem VW.str {v : V} {b : Str} (h : VW K g P H v (.str b)) : v = .str b := by cases h with | va h => cases h; rfl
theorem VW.non {v : V} (h : VW K g P H v .non) : v = .non := by cases h with | va h => cases h; rfl
theorem VW.tup {v : V} {ds : List D} (u : Up P H) (h : VW K g P H v (.tup ds)) : ∃ a vs, v = .ref a ∧ SqT K H a vs ∧ ValL K g P vs ds := by
  cases h with | va h => cases h with | tup a b => exact ⟨_, _, rfl, u.sqT a, b⟩
theorem VW.lst {v : V} {ds : List D} (u : Up P H) (h : VW K g P H v (.lst ds)) : ∃ a vs, v = .ref a ∧ H a = some (.lst vs) ∧ ValL K g P vs ds := by
  cases h with
  | va h => cases h with | lst a b => exact ⟨_, _, rfl, u _ _ a, b⟩
  | li a b => exact ⟨_, _, rfl, a, b⟩
theorem VW.dct {v : V} {kvs : List (D × D)} (u : Up P H) (h : VW K g P H v (.dct kvs)) : ∃ a o, v = .ref a ∧ H a = some o ∧ DicO K g P o kvs := by
  cases h with
  | va h =>
    cases h with
    | dT a e r => exact ⟨_, _, rfl, u _ _ a, .dT e r⟩
    | dK a e r => exact ⟨_, _, rfl, u _ _ a, .dK e r⟩
  | di a b => exact ⟨_, _, rfl, a, b⟩
theorem VW.scr {v : V} {ns : List Int} (u : Up P H) (h : VW K g P H v (.scr ns)) : ∃ a, v = .ref a ∧ SqL K H a (ns.map V.int) := by
  cases h with | va h => cases h with | scr _ a => exact ⟨_, rfl, u.sqL a⟩
theorem VWL.one {vs : List V} {d : D} (h : VWL K g P H vs [d]) : ∃ v, vs = [v] ∧ VW K g P H v d := by
  cases h with | cons a b => cases b; exact ⟨_, rfl, a⟩
theorem VWL.two {vs : List V} {d e : D} (h : VWL K g P H vs [d, e]) : ∃ v w, vs = [v, w] ∧ VW K g P H v d ∧ VW K g P H w e := by
  cases h with | cons a b => cases b with | cons b c => cases c; exact ⟨_, _, rfl, a, b⟩
end
theorem grow_new {P H : Hp} (u : Up P H) {p : Addr} {o : HO} (n : H p = none) : Grow P H (upd P p o) (upd H p o) where
  p := up_new (by cases q : P p with | none => rfl | some z => rw [u p z q] at n; cases n)
  h := up_new n
  ph := fun b z q => by
    by_cases h : b = p
    · subst h; rw [upd_same] at q ⊢; exact q
    · rw [upd_ne h] at q ⊢; exact u b z q
  new := fun b z e np _ => by rw [upd_ne (ne_of_none e n)]; exact np
section
variable {K : PySem.W.Frag} {g : Nm}
theorem Op2.inl {r r' : R2} {f : D → D → Option D} (h : Op2 K g r f) : Op2 K g (fun x y H Q => r x y H Q ∨ r' x y H Q) f := fun P H x y dx dy d Q u hx hy e q => .inl (h P H x y dx dy d Q u hx hy e q)

/-! ### + - * // % ** -/
def addD : D → D → Option D
  | .int a, .int b => some (.int (a + b))
  | .str a, .str b => if a.length + b.length ≤ lineN then some (.str (a ++ b)) else none
  | .tup a, .tup b => if a.length + b.length ≤ lineN then some (.tup (a ++ b)) else none
  | .lst a, .lst b => if a.length + b.length ≤ lineN then some (.lst (a ++ b)) else none
  | _, _ => none
def rAddU (K : PySem.W.Frag) : R2 := fun x y H Q => (rI0 fun i j => .int (i + j)) x y H Q ∨ ((∃ i j, x = .str i ∧ y = .str j ∧ i.length + j.length ≤ sizeLine ∧ Q (.str (i ++ j)) H) ∨ (rCatA K x y H Q ∨ rCat x y H Q))
theorem op_addU {X : Cx} : OpR X (binaryOp .Add) (rAddU X.K) := op_add.or (op_add_str.or (op_catA.or op_cat))
theorem o_add : Op2 K g (rAddU K) addD := by
  intro P H x y dx dy d Q u hx hy e q
  cases dx <;> cases dy <;> try (cases e; done)
  · cases e
    have := hx.int; have := hy.int; subst_vars
    exact .inl ⟨_, _, rfl, rfl, q P H _ (.refl u) (.int _)⟩
  · rename_i a b
    replace e : (if a.length + b.length ≤ lineN then some (D.str (a ++ b)) else none) = some d := e
    by_cases hl : a.length + b.length ≤ lineN
    · rw [if_pos hl] at e; cases e
      have := hx.str; have := hy.str; subst_vars
      exact .inr (.inl ⟨_, _, rfl, rfl, line_le hl, q P H _ (.refl u) (.str _)⟩)
    · rw [if_neg hl] at e; cases e
  · rename_i a b
    replace e : (if a.length + b.length ≤ lineN then some (D.tup (a ++ b)) else none) = some d := e
    by_cases hl : a.length + b.length ≤ lineN
    · rw [if_pos hl] at e; cases e
      obtain ⟨ax, vs, rfl, s1, r1⟩ := hx.tup u
      obtain ⟨bx, ws, rfl, s2, r2⟩ := hy.tup u
      have l1 := r1.length; have l2 := r2.length
      refine .inr (.inr (.inl ⟨ax, bx, vs, ws, rfl, rfl, s1, s2, by rw [l1, l2]; exact line_le hl, fun e0 => ?_, fun _ e0 => ?_, fun _ _ p np => ?_⟩))
      · subst e0; cases r1; cases hy with | va hy => exact q P H _ (.refl u) hy
      · subst e0; cases r2; cases hx with | va hx => rw [List.append_nil] at q; exact q P H _ (.refl u) hx
      · have gr := grow_new u (o := .tup (vs ++ ws)) np
        exact q _ _ _ gr (.tup (.inl (.inl upd_same)) ((r1.append r2).up gr.p))
    · rw [if_neg hl] at e; cases e
  · rename_i a b
    replace e : (if a.length + b.length ≤ lineN then some (D.lst (a ++ b)) else none) = some d := e
    by_cases hl : a.length + b.length ≤ lineN
    · rw [if_pos hl] at e; cases e
      obtain ⟨ax, vs, rfl, s1, r1⟩ := hx.lst u
      obtain ⟨bx, ws, rfl, s2, r2⟩ := hy.lst u
      have l1 := r1.length; have l2 := r2.length
      refine .inr (.inr (.inr ⟨ax, bx, vs, ws, rfl, rfl, s1, s2, by rw [l1, l2]; exact line_le hl, fun p np => ?_⟩))
      have gr := grow_new u (o := .lst (vs ++ ws)) np
      exact q _ _ _ gr (.lst upd_same ((r1.append r2).up gr.p))
    · rw [if_neg hl] at e; cases e
def catF : D → D → Option (List D)
  | .lst a, .lst b => if a.length + b.length ≤ lineN then some (a ++ b) else none
  | _, _ => none
theorem of_cat : OpF2 K g rCat catF := by
  intro P H x y dx dy d Q u hx hy e q
  cases dx <;> cases dy <;> try (cases e; done)
  rename_i a b
  replace e : (if a.length + b.length ≤ lineN then some (a ++ b) else none) = some d := e
  by_cases hl : a.length + b.length ≤ lineN
  · rw [if_pos hl] at e; cases e
    obtain ⟨ax, vs, rfl, s1, r1⟩ := hx.lst u
    obtain ⟨bx, ws, rfl, s2, r2⟩ := hy.lst u
    have l1 := r1.length; have l2 := r2.length
    exact ⟨ax, bx, vs, ws, rfl, rfl, s1, s2, by rw [l1, l2]; exact line_le hl, fun p np => q p _ np (r1.append r2)⟩
  · rw [if_neg hl] at e; cases e
def subD : D → D → Option D
  | .int a, .int b => some (.int (a - b))
  | _, _ => none
theorem o_sub : Op2 K g (rI0 fun i j => .int (i - j)) subD := by
  intro P H x y dx dy d Q u hx hy e q
  cases dx <;> cases dy <;> try (cases e; done)
  cases e
  have := hx.int; have := hy.int; subst_vars
  exact ⟨_, _, rfl, rfl, q P H _ (.refl u) (.int _)⟩
def fdivD : D → D → Option D
  | .int a, .int b => if b ≠ 0 ∧ b.natAbs < 1073741824 then some (.int (a.fdiv b)) else none
  | _, _ => none
theorem o_fdiv : Op2 K g (rI CDivN fun i j => .int (i.fdiv j)) fdivD := by
  intro P H x y dx dy d Q u hx hy e q
  cases dx <;> cases dy <;> try (cases e; done)
  rename_i a b
  replace e : (if b ≠ 0 ∧ b.natAbs < 1073741824 then some (D.int (a.fdiv b)) else none) = some d := e
  by_cases hl : b ≠ 0 ∧ b.natAbs < 1073741824
  · rw [if_pos hl] at e; cases e
    have := hx.int; have := hy.int; subst_vars
    exact ⟨_, _, rfl, rfl, hl, q P H _ (.refl u) (.int _)⟩
  · rw [if_neg hl] at e; cases e
def modD : D → D → Option D
  | .int a, .int b => if b ≠ 0 then some (.int (a.fmod b)) else none
  | _, _ => none
theorem o_mod : Op2 K g (rI (fun _ j => j ≠ 0) fun i j => .int (i.fmod j)) modD := by
  intro P H x y dx dy d Q u hx hy e q
  cases dx <;> cases dy <;> try (cases e; done)
  rename_i a b
  replace e : (if b ≠ 0 then some (D.int (a.fmod b)) else none) = some d := e
  by_cases hl : b ≠ 0
  · rw [if_pos hl] at e; cases e
    have := hx.int; have := hy.int; subst_vars
    exact ⟨_, _, rfl, rfl, hl, q P H _ (.refl u) (.int _)⟩
  · rw [if_neg hl] at e; cases e
def powD : D → D → Option D
  | .int a, .int b => if 0 ≤ b ∧ b ≤ 1000000 ∧ a.natAbs < 2 ^ 64 then some (.int (a ^ b.toNat)) else none
  | _, _ => none
theorem o_pow : Op2 K g (rI CPow fun i j => .int (i ^ j.toNat)) powD := by
  intro P H x y dx dy d Q u hx hy e q
  cases dx <;> cases dy <;> try (cases e; done)
  rename_i a b
  replace e : (if 0 ≤ b ∧ b ≤ 1000000 ∧ a.natAbs < 2 ^ 64 then some (D.int (a ^ b.toNat)) else none) = some d := e
  by_cases hl : 0 ≤ b ∧ b ≤ 1000000 ∧ a.natAbs < 2 ^ 64
  · rw [if_pos hl] at e; cases e
    have := hx.int; have := hy.int; subst_vars
    exact ⟨_, _, rfl, rfl, hl, q P H _ (.refl u) (.int _)⟩
  · rw [if_neg hl] at e; cases e

/-! ### comparisons of ints -/
def cmpD (p : Int → Int → Bool) : D → D → Option D
  | .int a, .int b => some (.bl (p a b))
  | _, _ => none
theorem o_cmp (p : Int → Int → Bool) : Op2 K g (rI0 fun i j => .bl (p i j)) (cmpD p) := by
  intro P H x y dx dy d Q u hx hy e q
  cases dx <;> cases dy <;> try (cases e; done)
  cases e
  have := hx.int; have := hy.int; subst_vars
  exact ⟨_, _, rfl, rfl, q P H _ (.refl u) (.bl _)⟩
def isNon : D → Bool
  | .non => true
  | _ => false
def isNonD : D → D → Option D
  | x, .non => some (.bl (isNon x))
  | _, _ => none
theorem o_isN : Op2 K g (fun x y H Q => y = .non ∧ Q (.bl (decide (x = .non))) H) isNonD := by
  intro P H x y dx dy d Q u hx hy e q
  cases dy <;> try (cases e; done)
  have := hy.non; subst this
  cases e
  refine ⟨rfl, ?_⟩
  have e2 : decide (x = V.non) = isNon dx := by
    cases hx with
    | va h => cases h <;> rfl
    | li _ _ => rfl
    | di _ _ => rfl
  rw [e2]
  exact q P H _ (.refl u) (.bl _)
def notNonD : D → D → Option D
  | x, .non => some (.bl (!isNon x))
  | _, _ => none
theorem o_notN : Op2 K g (fun x y H Q => y = .non ∧ Q (.bl (!decide (x = .non))) H) notNonD := by
  intro P H x y dx dy d Q u hx hy e q
  cases dy <;> try (cases e; done)
  have := hy.non; subst this
  cases e
  refine ⟨rfl, ?_⟩
  have e2 : (!decide (x = V.non)) = !isNon dx := by
    cases hx with
    | va h => cases h <;> rfl
    | li _ _ => rfl
    | di _ _ => rfl
  rw [e2]
  exact q P H _ (.refl u) (.bl _)

/-! ### == and in, at any depth -/
mutual
def toPy : D → Option PyData
  | .non => some .none
  | .bl b => some (.bool b)
  | .int i => some (.int i)
  | .str s => some (.str s)
  | .tup xs => match toPyL xs with
    | some ys => some (.tuple ys)
    | none => none
  | .lst xs => match toPyL xs with
    | some ys => some (.list ys)
    | none => none
  | _ => none
def toPyL : List D → Option (List PyData)
  | [] => some []
  | x :: xs => match toPy x, toPyL xs with
    | some y, some ys => some (y :: ys)
    | _, _ => none
end
mutual
theorem Val.dp (u : ∀ a o, (∃ P : Hp, P a = some o) → True) {P : Hp} : ∀ {v : V} {d : D} {y : PyData}, Val K g P v d → toPy d = some y → Dp K P v y
  | _, _, _, .non, e => by unfold toPy at e; cases e; exact .non
  | _, _, _, .bl b, e => by unfold toPy at e; cases e; exact .bl b
  | _, _, _, .int i, e => by unfold toPy at e; cases e; exact .int i
  | _, _, _, .str x, e => by unfold toPy at e; cases e; exact .str x
  | _, .tup ds, _, .tup h r, e => by
    unfold toPy at e
    cases q : toPyL ds with
    | none => rw [q] at e; cases e
    | some ys => rw [q] at e; cases e; exact .tup h (ValL.dp u r q)
  | _, .lst ds, _, .lst h r, e => by
    unfold toPy at e
    cases q : toPyL ds with
    | none => rw [q] at e; cases e
    | some ys => rw [q] at e; cases e; exact .lst (SqL.of h) (ValL.dp u r q)
  | _, _, _, .dT _ _ _, e => by unfold toPy at e; cases e
  | _, _, _, .dK _ _ _, e => by unfold toPy at e; cases e
  | _, _, _, .fn n, e => by unfold toPy at e; cases e
  | _, _, _, .scr n _, e => by unfold toPy at e; cases e
theorem ValL.dp (u : ∀ a o, (∃ P : Hp, P a = some o) → True) {P : Hp} : ∀ {v : List V} {d : List D} {y : List PyData}, ValL K g P v d → toPyL d = some y → DpAll K P v y
  | _, _, _, .nil, e => by unfold toPyL at e; cases e; exact .nil
  | _, d :: ds, _, .cons a b, e => by
    unfold toPyL at e
    cases q : toPy d with
    | none => rw [q] at e; cases e
    | some y =>
      cases q2 : toPyL ds with
      | none => rw [q, q2] at e; cases e
      | some ys => rw [q, q2] at e; cases e; exact .cons (Val.dp u a q) (ValL.dp u b q2)
end
theorem VW.dp {P H : Hp} {v : V} {d : D} {y : PyData} (u : Up P H) (h : VW K g P H v d) (e : toPy d = some y) : Dp K H v y := (h.whole u).dp (fun _ _ _ => trivial) e
def shp (y : PyData) : Bool := SeqAt.shaped y
def eqD : D → D → Option D := fun a b => match toPy a, toPy b with
  | some x, some y => if (shp x && shp y) = true then some (.bl (PyData.eqv x y)) else none
  | _, _ => none
def neD : D → D → Option D := fun a b => match toPy a, toPy b with
  | some x, some y => if (shp x && shp y) = true then some (.bl (!PyData.eqv x y)) else none
  | _, _ => none
theorem o_eq : Op2 K g (rEqD K) eqD := by
  intro P H x y dx dy d Q u hx hy e q
  unfold eqD at e
  cases e1 : toPy dx with
  | none => rw [e1] at e; cases e
  | some a =>
    cases e2 : toPy dy with
    | none => rw [e1, e2] at e; cases e
    | some b =>
      rw [e1, e2] at e; dsimp only at e
      by_cases hs : (shp a && shp b) = true
      · rw [if_pos hs] at e; cases e
        rw [Bool.and_eq_true] at hs
        exact ⟨a, b, hx.dp u e1, hy.dp u e2, hs.1, hs.2, q P H _ (.refl u) (.bl _)⟩
      · rw [if_neg hs] at e; cases e
theorem o_ne : Op2 K g (rNeD K) neD := by
  intro P H x y dx dy d Q u hx hy e q
  unfold neD at e
  cases e1 : toPy dx with
  | none => rw [e1] at e; cases e
  | some a =>
    cases e2 : toPy dy with
    | none => rw [e1, e2] at e; cases e
    | some b =>
      rw [e1, e2] at e; dsimp only at e
      by_cases hs : (shp a && shp b) = true
      · rw [if_pos hs] at e; cases e
        rw [Bool.and_eq_true] at hs
        exact ⟨a, b, hx.dp u e1, hy.dp u e2, hs.1, hs.2, q P H _ (.refl u) (.bl _)⟩
      · rw [if_neg hs] at e; cases e
def rInDT (K : PySem.W.Frag) : R2 := fun x y H Q => ∃ d ds, Dp K H x d ∧ Dp K H y (.tuple ds) ∧ SeqAt.shaped d = true ∧ SeqAt.shaped (.tuple ds) = true ∧ Q (.bl (ds.any fun z => PyData.eqv z d)) H
def rNotInDT (K : PySem.W.Frag) : R2 := fun x y H Q => ∃ d ds, Dp K H x d ∧ Dp K H y (.tuple ds) ∧ SeqAt.shaped d = true ∧ SeqAt.shaped (.tuple ds) = true ∧ Q (.bl (!ds.any fun z => PyData.eqv z d)) H
theorem op_inDT {X : Cx} (hu : X.A.units + 65 < cLine) : OpR X (compareOp .In) (rInDT X.K) := by
  intro pins s σ H x y v u Q I rx ry h
  obtain ⟨d, ds, hd, he, sd, se, q⟩ := h
  obtain ⟨as, r1⟩ := Dp.reads I d x v hd rx
  obtain ⟨bs, r2⟩ := Dp.reads I (.tuple ds) y u he ry
  exact SeqAt.in_tuple_reads r2 r1 (SeqAt.canLay_of_shaped se) (SeqAt.canLay_of_shaped sd) (room_in_shaped sd hu) ⟨.bl _, H, I, rfl, q⟩
theorem op_notInDT {X : Cx} (hu : X.A.units + 65 < cLine) : OpR X (compareOp .NotIn) (rNotInDT X.K) := by
  intro pins s σ H x y v u Q I rx ry h
  obtain ⟨d, ds, hd, he, sd, se, q⟩ := h
  obtain ⟨as, r1⟩ := Dp.reads I d x v hd rx
  obtain ⟨bs, r2⟩ := Dp.reads I (.tuple ds) y u he ry
  exact SeqAt.notIn_tuple_reads r2 r1 (SeqAt.canLay_of_shaped se) (SeqAt.canLay_of_shaped sd) (room_in_shaped sd hu) ⟨.bl _, H, I, rfl, q⟩
/-- x in a list, a tuple -/
def inD : D → D → Option D := fun a b => match toPy a, toPy b with
  | some x, some (.list ys) => if (shp x && shp (.list ys)) = true then some (.bl (ys.any fun z => PyData.eqv z x)) else none
  | some x, some (.tuple ys) => if (shp x && shp (.tuple ys)) = true then some (.bl (ys.any fun z => PyData.eqv z x)) else none
  | _, _ => none
def notInD : D → D → Option D := fun a b => match toPy a, toPy b with
  | some x, some (.list ys) => if (shp x && shp (.list ys)) = true then some (.bl (!ys.any fun z => PyData.eqv z x)) else none
  | some x, some (.tuple ys) => if (shp x && shp (.tuple ys)) = true then some (.bl (!ys.any fun z => PyData.eqv z x)) else none
  | _, _ => none
theorem o_in : Op2 K g (fun x y H Q => rInD K x y H Q ∨ rInDT K x y H Q) inD := by
  intro P H x y dx dy d Q u hx hy e q
  unfold inD at e
  cases e1 : toPy dx with
  | none => rw [e1] at e; cases e
  | some a =>
    cases e2 : toPy dy with
    | none => rw [e1, e2] at e; cases e
    | some b =>
      rw [e1, e2] at e
      cases b with
      | list ys =>
        dsimp only at e
        by_cases hs : (shp a && shp (.list ys)) = true
        · rw [if_pos hs] at e; cases e
          rw [Bool.and_eq_true] at hs
          exact .inl ⟨a, ys, hx.dp u e1, hy.dp u e2, hs.1, hs.2, q P H _ (.refl u) (.bl _)⟩
        · rw [if_neg hs] at e; cases e
      | tuple ys =>
        dsimp only at e
        by_cases hs : (shp a && shp (.tuple ys)) = true
        · rw [if_pos hs] at e; cases e
          rw [Bool.and_eq_true] at hs
          exact .inr ⟨a, ys, hx.dp u e1, hy.dp u e2, hs.1, hs.2, q P H _ (.refl u) (.bl _)⟩
        · rw [if_neg hs] at e; cases e
      | _ => cases e
theorem o_notIn : Op2 K g (fun x y H Q => rNotInD K x y H Q ∨ rNotInDT K x y H Q) notInD := by
  intro P H x y dx dy d Q u hx hy e q
  unfold notInD at e
  cases e1 : toPy dx with
  | none => rw [e1] at e; cases e
  | some a =>
    cases e2 : toPy dy with
    | none => rw [e1, e2] at e; cases e
    | some b =>
      rw [e1, e2] at e
      cases b with
      | list ys =>
        dsimp only at e
        by_cases hs : (shp a && shp (.list ys)) = true
        · rw [if_pos hs] at e; cases e
          rw [Bool.and_eq_true] at hs
          exact .inl ⟨a, ys, hx.dp u e1, hy.dp u e2, hs.1, hs.2, q P H _ (.refl u) (.bl _)⟩
        · rw [if_neg hs] at e; cases e
      | tuple ys =>
        dsimp only at e
        by_cases hs : (shp a && shp (.tuple ys)) = true
        · rw [if_pos hs] at e; cases e
          rw [Bool.and_eq_true] at hs
          exact .inr ⟨a, ys, hx.dp u e1, hy.dp u e2, hs.1, hs.2, q P H _ (.refl u) (.bl _)⟩
        · rw [if_neg hs] at e; cases e
      | _ => cases e
theorem op_inU {X : Cx} (hu : X.A.units + 65 < cLine) : OpR X (compareOp .In) (fun x y H Q => rInD X.K x y H Q ∨ rInDT X.K x y H Q) := (op_inD hu).or (op_inDT hu)
theorem op_notInU {X : Cx} (hu : X.A.units + 65 < cLine) : OpR X (compareOp .NotIn) (fun x y H Q => rNotInD X.K x y H Q ∨ rNotInDT X.K x y H Q) := (op_notInD hu).or (op_notInDT hu)

/-! ### built-ins of one list or tuple -/
def lenD : List D → Option D
  | [.tup xs] => some (.int xs.length)
  | [.lst xs] => some (.int xs.length)
  | [.scr xs] => some (.int xs.length)
  | [.str s] => if s.length ≤ lineN then some (.int s.length) else none
  | _ => none
theorem o_len : OpN K g (fun xs H Q => ∃ x n, xs = [x] ∧ LenV K x H n ∧ Q (.int n) H) lenD := by
  intro P H vs ds d Q u hv e q
  match ds, e with
  | [.tup xs], e =>
    cases e
    obtain ⟨v, rfl, hw⟩ := hv.one
    obtain ⟨a, ws, rfl, s, r⟩ := hw.tup u
    refine ⟨_, _, rfl, .inr ⟨ws, s, rfl⟩, ?_⟩
    rw [r.length]; exact q P H _ (.refl u) (.int _)
  | [.lst xs], e =>
    cases e
    obtain ⟨v, rfl, hw⟩ := hv.one
    obtain ⟨a, ws, rfl, s, r⟩ := hw.lst u
    refine ⟨_, _, rfl, .inl ⟨ws, SqL.of s, rfl⟩, ?_⟩
    rw [r.length]; exact q P H _ (.refl u) (.int _)
  | [.scr xs], e =>
    cases e
    obtain ⟨v, rfl, hw⟩ := hv.one
    obtain ⟨a, rfl, s⟩ := hw.scr u
    refine ⟨_, _, rfl, .inl ⟨_, s, rfl⟩, ?_⟩
    rw [List.length_map]; exact q P H _ (.refl u) (.int _)
  | [.str z], e =>
    replace e : (if z.length ≤ lineN then some (D.int z.length) else none) = some d := e
    by_cases hl : z.length ≤ lineN
    · rw [if_pos hl] at e; cases e
      obtain ⟨v, rfl, hw⟩ := hv.one
      have := hw.str; subst this
      exact ⟨_, _, rfl, ⟨line_le hl, rfl⟩, q P H _ (.refl u) (.int _)⟩
    · rw [if_neg hl] at e; cases e
def blsOf : List D → Option (List Bool)
  | [] => some []
  | .bl b :: xs => match blsOf xs with
    | some bs => some (b :: bs)
    | none => none
  | _ => none
theorem blsOf_eq : ∀ {xs : List D} {bs : List Bool}, blsOf xs = some bs → xs = bs.map D.bl
  | [], _, e => by cases e; rfl
  | .bl b :: xs, bs, e => by
    replace e : (match blsOf xs with | some bs => some (b :: bs) | none => none) = some bs := e
    cases q : blsOf xs with
    | none => rw [q] at e; cases e
    | some cs => rw [q] at e; cases e; rw [blsOf_eq q]; rfl
  | .non :: _, _, e => by cases e
  | .int _ :: _, _, e => by cases e
  | .str _ :: _, _, e => by cases e
  | .tup _ :: _, _, e => by cases e
  | .lst _ :: _, _, e => by cases e
  | .dct _ :: _, _, e => by cases e
  | .fn _ :: _, _, e => by cases e
  | .scr _ :: _, _, e => by cases e
def intsOf : List D → Option (List Int)
  | [] => some []
  | .int b :: xs => match intsOf xs with
    | some bs => some (b :: bs)
    | none => none
  | _ => none
theorem intsOf_eq : ∀ {xs : List D} {bs : List Int}, intsOf xs = some bs → xs = bs.map D.int
  | [], _, e => by cases e; rfl
  | .int b :: xs, bs, e => by
    replace e : (match intsOf xs with | some bs => some (b :: bs) | none => none) = some bs := e
    cases q : intsOf xs with
    | none => rw [q] at e; cases e
    | some cs => rw [q] at e; cases e; rw [intsOf_eq q]; rfl
  | .non :: _, _, e => by cases e
  | .bl _ :: _, _, e => by cases e
  | .str _ :: _, _, e => by cases e
  | .tup _ :: _, _, e => by cases e
  | .lst _ :: _, _, e => by cases e
  | .dct _ :: _, _, e => by cases e
  | .fn _ :: _, _, e => by cases e
  | .scr _ :: _, _, e => by cases e
def allD : List D → Option D
  | [.lst xs] => match blsOf xs with
    | some bs => some (.bl (bs.all id))
    | none => none
  | _ => none
def anyD : List D → Option D
  | [.lst xs] => match blsOf xs with
    | some bs => some (.bl (bs.any id))
    | none => none
  | _ => none
theorem o_all : OpN K g (rAll K) allD := by
  intro P H vs ds d Q u hv e q
  match ds, e with
  | [.lst xs], e =>
    replace e : (match blsOf xs with | some bs => some (D.bl (bs.all id)) | none => none) = some d := e
    cases e1 : blsOf xs with
    | none => rw [e1] at e; cases e
    | some bs =>
      rw [e1] at e; cases e
      obtain ⟨v, rfl, hw⟩ := hv.one
      obtain ⟨a, ws, rfl, s, r⟩ := hw.lst u
      rw [blsOf_eq e1] at r
      have := r.bls; subst this
      exact ⟨a, bs, rfl, SqL.of s, q P H _ (.refl u) (.bl _)⟩
theorem o_any : OpN K g (rAny K) anyD := by
  intro P H vs ds d Q u hv e q
  match ds, e with
  | [.lst xs], e =>
    replace e : (match blsOf xs with | some bs => some (D.bl (bs.any id)) | none => none) = some d := e
    cases e1 : blsOf xs with
    | none => rw [e1] at e; cases e
    | some bs =>
      rw [e1] at e; cases e
      obtain ⟨v, rfl, hw⟩ := hv.one
      obtain ⟨a, ws, rfl, s, r⟩ := hw.lst u
      rw [blsOf_eq e1] at r
      have := r.bls; subst this
      exact ⟨a, bs, rfl, SqL.of s, q P H _ (.refl u) (.bl _)⟩
def sumD : List D → Option D
  | [.lst xs] => match intsOf xs with
    | some bs => some (.int bs.sum)
    | none => none
  | _ => none
theorem o_sum : OpN K g (rSum K) sumD := by
  intro P H vs ds d Q u hv e q
  match ds, e with
  | [.lst xs], e =>
    replace e : (match intsOf xs with | some bs => some (D.int bs.sum) | none => none) = some d := e
    cases e1 : intsOf xs with
    | none => rw [e1] at e; cases e
    | some bs =>
      rw [e1] at e; cases e
      obtain ⟨v, rfl, hw⟩ := hv.one
      obtain ⟨a, ws, rfl, s, r⟩ := hw.lst u
      rw [intsOf_eq e1] at r
      have := r.ints; subst this
      exact ⟨a, bs, rfl, SqL.of s, q P H _ (.refl u) (.int _)⟩
/-- tuple(x), list(x) -/
def tupD : List D → Option D
  | [.tup xs] => some (.tup xs)
  | [.lst xs] => some (.tup xs)
  | _ => none
theorem o_tup : OpN K g (fun xs H Q => ∃ p ys, xs = [V.ref p] ∧ ((SqL K H p ys ∧ ∀ l, H l = none → Q (.ref l) (upd H l (.tup ys))) ∨ (SqT K H p ys ∧ Q (.ref p) H))) tupD := by
  intro P H vs ds d Q u hv e q
  match ds, e with
  | [.tup xs], e =>
    cases e
    obtain ⟨v, rfl, hw⟩ := hv.one
    obtain ⟨a, ws, rfl, s, r⟩ := hw.tup u
    cases hw with | va hw => exact ⟨a, ws, rfl, .inr ⟨s, q P H _ (.refl u) hw⟩⟩
  | [.lst xs], e =>
    cases e
    obtain ⟨v, rfl, hw⟩ := hv.one
    obtain ⟨a, ws, rfl, s, r⟩ := hw.lst u
    refine ⟨a, ws, rfl, .inl ⟨SqL.of s, fun p np => ?_⟩⟩
    have gr := grow_new u (o := .tup ws) np
    exact q _ _ _ gr (.tup (.inl (.inl upd_same)) (r.up gr.p))
def lstF : List D → Option (List D)
  | [.tup xs] => some xs
  | [.lst xs] => some xs
  | [.scr ns] => some (ns.map D.int)
  | _ => none
theorem of_lst : OpFN K g (fun xs H Q => ∃ p ys, xs = [V.ref p] ∧ (SqL K H p ys ∨ SqT K H p ys) ∧ ∀ l, H l = none → Q (.ref l) (upd H l (.lst ys))) lstF := by
  intro P H vs ds d Q u hv e q
  match ds, e with
  | [.tup xs], e =>
    cases e
    obtain ⟨v, rfl, hw⟩ := hv.one
    obtain ⟨a, ws, rfl, s, r⟩ := hw.tup u
    exact ⟨a, ws, rfl, .inr s, fun p np => q P H p ws (.refl u) np r⟩
  | [.lst xs], e =>
    cases e
    obtain ⟨v, rfl, hw⟩ := hv.one
    obtain ⟨a, ws, rfl, s, r⟩ := hw.lst u
    exact ⟨a, ws, rfl, .inl (SqL.of s), fun p np => q P H p ws (.refl u) np r⟩
  | [.scr ns], e =>
    cases e
    obtain ⟨v, rfl, hw⟩ := hv.one
    obtain ⟨a, rfl, s⟩ := hw.scr u
    exact ⟨a, _, rfl, .inl s, fun p np => q P H p _ (.refl u) np (ValL.of_ints ns)⟩
def intD : List D → Option D
  | [.int i] => some (.int i)
  | [.bl b] => some (.int (if b then 1 else 0))
  | _ => none
theorem o_int : OpN K g (fun xs H Q => (∃ i, xs = [V.int i] ∧ Q (.int i) H) ∨ ∃ k, xs = [V.bl k] ∧ Q (.int (if k then 1 else 0)) H) intD := by
  intro P H vs ds d Q u hv e q
  match ds, e with
  | [.int i], e =>
    cases e
    obtain ⟨v, rfl, hw⟩ := hv.one
    have := hw.int; subst this
    exact .inl ⟨i, rfl, q P H _ (.refl u) (.int _)⟩
  | [.bl i], e =>
    cases e
    obtain ⟨v, rfl, hw⟩ := hv.one
    have := hw.bl; subst this
    exact .inr ⟨i, rfl, q P H _ (.refl u) (.int _)⟩
def absD : List D → Option D
  | [.int i] => some (.int (if i < 0 then -i else i))
  | _ => none
theorem o_abs : OpN K g (fun xs H Q => ∃ i, xs = [V.int i] ∧ Q (.int (if i < 0 then -i else i)) H) absD := by
  intro P H vs ds d Q u hv e q
  match ds, e with
  | [.int i], e =>
    cases e
    obtain ⟨v, rfl, hw⟩ := hv.one
    have := hw.int; subst this
    exact ⟨i, rfl, q P H _ (.refl u) (.int _)⟩
def min2D : List D → Option D
  | [.int i, .int j] => some (.int (if j < i then j else i))
  | _ => none
theorem o_min2 : OpN K g (fun xs H Q => ∃ i j, xs = [V.int i, .int j] ∧ Q (.int (if j < i then j else i)) H) min2D := by
  intro P H vs ds d Q u hv e q
  match ds, e with
  | [.int i, .int j], e =>
    cases e
    obtain ⟨v, w, rfl, h1, h2⟩ := hv.two
    have := h1.int; have := h2.int; subst_vars
    exact ⟨i, j, rfl, q P H _ (.refl u) (.int _)⟩
end
end L2.Z

/-! part Z8 -/
set_option Elab.async false
set_option linter.all false
set_option maxRecDepth 100000
set_option maxHeartbeats 4000000
namespace L2.Z
open PySem PySem.Spec PyProof.Rows

section
variable {K : PySem.W.Frag} {g : Nm} {P H : Hp}
theorem ValL.atI {vs : List V} {ds : List D} {i : Int} {d : D} (r : ValL K g P vs ds) (e : L2.atI ds i = some d) : ∃ v, L2.atI vs i = some v ∧ Val K g P v d := by
  unfold L2.atI at e ⊢
  rw [r.length]
  cases q : ixN ds.length i with
  | none => rw [q] at e; cases e
  | some j =>
    rw [q] at e
    obtain ⟨v, h1, h2⟩ := r.getD' (show ds[j]? = some d from e)
    exact ⟨v, h1, h2⟩

/-! ### subscripts -/
def ixD : D → D → Option D
  | .tup xs, .int i => L2.atI xs i
  | .lst xs, .int i => L2.atI xs i
  | .scr ns, .int i => (L2.atI ns i).map D.int
  | .str z, .int i => if z.length ≤ lineN then (L2.atI z.cps.toList i).map fun c => .str ⟨#[c]⟩ else none
  | _, _ => none
theorem atI_map {α β : Type} (f : α → β) (xs : List α) (i : Int) : L2.atI (xs.map f) i = (L2.atI xs i).map f := by
  unfold L2.atI
  rw [List.length_map]
  cases ixN xs.length i with
  | none => rfl
  | some j => show (xs.map f)[j]? = (xs[j]?).map f; rw [List.getElem?_map]
theorem o_ix : Op2 K g (rIx K) ixD := by
  intro P H x y dx dy d Q u hx hy e q
  cases dy <;> cases dx <;> try (cases e; done)
  · rename_i i z
    have := hy.int; subst this
    have := hx.str; subst this
    replace e : (if z.length ≤ lineN then (L2.atI z.cps.toList i).map (fun c => D.str ⟨#[c]⟩) else none) = some d := e
    by_cases hl : z.length ≤ lineN
    · rw [if_pos hl] at e
      obtain ⟨c, e1, e2⟩ := Option.map_eq_some_iff.mp e
      subst e2
      exact .inr (.inr ⟨z, i, c, rfl, rfl, line_le hl, e1, q P H _ (.refl u) (.str _)⟩)
    · rw [if_neg hl] at e; cases e
  · rename_i i xs
    have := hy.int; subst this
    obtain ⟨a, vs, rfl, s, r⟩ := hx.tup u
    obtain ⟨v, e1, e2⟩ := r.atI (show L2.atI xs i = some d from e)
    exact .inr (.inl ⟨a, vs, i, v, rfl, rfl, s, e1, q P H _ (.refl u) e2⟩)
  · rename_i i xs
    have := hy.int; subst this
    obtain ⟨a, vs, rfl, s, r⟩ := hx.lst u
    obtain ⟨v, e1, e2⟩ := r.atI (show L2.atI xs i = some d from e)
    exact .inl ⟨a, vs, i, v, rfl, rfl, SqL.of s, e1, q P H _ (.refl u) e2⟩
  · rename_i i xs
    have := hy.int; subst this
    obtain ⟨a, rfl, s⟩ := hx.scr u
    obtain ⟨c, e1, e2⟩ := Option.map_eq_some_iff.mp (show (L2.atI xs i).map D.int = some d from e)
    subst e2
    exact .inl ⟨a, _, i, .int c, rfl, rfl, s, by rw [atI_map, e1]; rfl, q P H _ (.refl u) (.int _)⟩

/-! ### slices -/
def cutA {α : Type} (xs : List α) (lo hi : Option Int) : List α := (xs.drop (HT.sIx xs.length 0 lo)).take (HT.sIx xs.length xs.length hi - HT.sIx xs.length 0 lo)
theorem cutA_V (xs : List V) (lo hi : Option Int) : cutA xs lo hi = cutV xs lo hi := rfl
theorem ValL.cut {vs : List V} {ds : List D} (r : ValL K g P vs ds) (lo hi : Option Int) : ValL K g P (cutV vs lo hi) (cutA ds lo hi) := by
  unfold cutV cutA
  rw [r.length]
  exact (r.drop _).take _
def OpS (K : PySem.W.Frag) (g : Nm) (r : V → Option Int → Option Int → Hp → VK → Prop) (f : D → Option Int → Option Int → Option D) : Prop := ∀ P H x dx lo hi d Q, Up P H → VW K g P H x dx → f dx lo hi = some d → (∀ P' H' v, Grow P H P' H' → Val K g P' v d → Q v H') → r x lo hi H Q
def OpSF (K : PySem.W.Frag) (g : Nm) (r : V → Option Int → Option Int → Hp → VK → Prop) (f : D → Option Int → Option Int → Option (List D)) : Prop := ∀ P H x dx lo hi ds Q, Up P H → VW K g P H x dx → f dx lo hi = some ds → (∀ p vs, H p = none → ValL K g P vs ds → Q (.ref p) (upd H p (.lst vs))) → r x lo hi H Q
def rSlU (K : PySem.W.Frag) : V → Option Int → Option Int → Hp → VK → Prop := fun x lo hi H Q => rSlA K x lo hi H Q ∨ rSlS x lo hi H Q ∨ rSlL K x lo hi H Q
theorem sl_U {X : Cx} : SlR X (rSlU X.K) := sl_tupA.or (sl_str.or sl_list)
def slD : D → Option Int → Option Int → Option D
  | .tup xs, lo, hi => some (.tup (cutA xs lo hi))
  | .str z, lo, hi => if z.length ≤ lineN then some (.str (cutS z lo hi)) else none
  | .lst xs, lo, hi => some (.lst (cutA xs lo hi))
  | .scr ns, lo, hi => some (.lst (cutA (ns.map D.int) lo hi))
  | _, _, _ => none
def slF : D → Option Int → Option Int → Option (List D)
  | .lst xs, lo, hi => some (cutA xs lo hi)
  | .scr ns, lo, hi => some (cutA (ns.map D.int) lo hi)
  | _, _, _ => none
theorem cutA_all {α : Type} (xs : List α) {lo hi : Option Int} (h : HT.sIx xs.length 0 lo = 0 ∧ HT.sIx xs.length xs.length hi = xs.length) : cutA xs lo hi = xs := by
  unfold cutA
  rw [h.1, h.2, List.drop_zero, Nat.sub_zero, List.take_length]
theorem os_U : OpS K g (rSlU K) slD := by
  intro P H x dx lo hi d Q u hx e q
  cases dx <;> try (cases e; done)
  · rename_i z
    replace e : (if z.length ≤ lineN then some (D.str (cutS z lo hi)) else none) = some d := e
    by_cases hl : z.length ≤ lineN
    · rw [if_pos hl] at e; cases e
      have := hx.str; subst this
      exact .inr (.inl ⟨z, rfl, line_le hl, q P H _ (.refl u) (.str _)⟩)
    · rw [if_neg hl] at e; cases e
  · rename_i xs
    cases e
    obtain ⟨a, vs, rfl, s, r⟩ := hx.tup u
    refine .inl ⟨a, vs, rfl, s, fun h => ?_, fun _ p np => ?_⟩
    · have h' : HT.sIx xs.length 0 lo = 0 ∧ HT.sIx xs.length xs.length hi = xs.length := by rw [r.length] at h; exact h
      rw [cutA_all xs h'] at q
      cases hx with | va hx => exact q P H _ (.refl u) hx
    · have gr := grow_new u (o := .tup (cutV vs lo hi)) np
      exact q _ _ _ gr (.tup (.inl (.inl upd_same)) ((r.cut lo hi).up gr.p))
  · rename_i xs
    cases e
    obtain ⟨a, vs, rfl, s, r⟩ := hx.lst u
    refine .inr (.inr ⟨a, vs, rfl, SqL.of s, fun p np => ?_⟩)
    have gr := grow_new u (o := .lst (cutV vs lo hi)) np
    exact q _ _ _ gr (.lst upd_same ((r.cut lo hi).up gr.p))
  · rename_i ns
    cases e
    obtain ⟨a, rfl, s⟩ := hx.scr u
    refine .inr (.inr ⟨a, _, rfl, s, fun p np => ?_⟩)
    have gr := grow_new u (o := .lst (cutV (ns.map V.int) lo hi)) np
    exact q _ _ _ gr (.lst upd_same (((ValL.of_ints ns).cut lo hi)))
theorem os_F : OpSF K g (rSlL K) slF := by
  intro P H x dx lo hi d Q u hx e q
  cases dx <;> try (cases e; done)
  · rename_i xs
    cases e
    obtain ⟨a, vs, rfl, s, r⟩ := hx.lst u
    exact ⟨a, vs, rfl, SqL.of s, fun p np => q p _ np (r.cut lo hi)⟩
  · rename_i ns
    cases e
    obtain ⟨a, rfl, s⟩ := hx.scr u
    exact ⟨a, _, rfl, s, fun p np => q p _ np ((ValL.of_ints ns).cut lo hi)⟩
end
abbrev TO' := L2.St → Hp → (Option Int → Hp → Prop) → Prop
def tO (K : PySem.W.Frag) (g : Nm) (W : WX) (m : Lo → R (Option Int)) : TO' := fun σ H Q => ∃ io F P L, Rep K g io F P σ H L ∧ match m L with
  | .ok o L' => ∀ P' H', Up P P' → Rep K g io F P' σ H' L' → Q o H'
  | .ex x L' => XPost K g W io F P σ x L'
  | .no => False
def oNo : Lo → R (Option Int) := fun L => .ok none L
def oSo (m : Lo → R RV) : Lo → R (Option Int) := fun L => match m L with
  | .ok rv L1 => match rv.get L1 with
    | some (.int i) => .ok (some i) L1
    | _ => .no
  | .ex x L1 => .ex x L1
  | .no => .no
def eSl (f : D → Option Int → Option Int → Option D) (a : Lo → R RV) (lo hi : Lo → R (Option Int)) : Lo → R RV := fun L => match a L with
  | .ok x L1 => match lo L1 with
    | .ok l L2 => match hi L2 with
      | .ok h L3 => match x.get L3 with
        | some d => match f d l h with
          | some r => .ok (.v r) L3
          | none => .no
        | none => .no
      | .ex x L3 => .ex x L3
      | .no => .no
    | .ex x L2 => .ex x L2
    | .no => .no
  | .ex x L1 => .ex x L1
  | .no => .no
def fSl (f : D → Option Int → Option Int → Option (List D)) (a : Lo → R RV) (lo hi : Lo → R (Option Int)) : Lo → R (List D) := fun L => match a L with
  | .ok x L1 => match lo L1 with
    | .ok l L2 => match hi L2 with
      | .ok h L3 => match x.get L3 with
        | some d => match f d l h with
          | some r => .ok r L3
          | none => .no
        | none => .no
      | .ex x L3 => .ex x L3
      | .no => .no
    | .ex x L2 => .ex x L2
    | .no => .no
  | .ex x L1 => .ex x L1
  | .no => .no
section
variable {X : Cx} {g : Nm} {W : WX}
theorem mo_no : L2.PO X none (tO X.K g W oNo) := ⟨fun pins s σ H Q I ⟨io, F, P, L, r, h⟩ => po_none.run pins s σ H Q I (h P H (.refl P) r)⟩
theorem mo_so {e : Expr} {m : Lo → R RV} (h : PE X e (tE X.K g W m)) : L2.PO X (some e) (tO X.K g W (oSo m)) := ⟨fun pins s σ H Q I ⟨io, F, P, L, r, q⟩ => by
  refine (po_some h).run pins s σ H Q I ⟨io, F, P, L, r, ?_⟩
  unfold oSo at q
  cases e1 : m L with
  | no => rw [e1] at q; exact q
  | ex x L1 => rw [e1] at q; exact q
  | ok rv L1 =>
    rw [e1] at q; dsimp only at q
    intro P' H' v u r' hv
    cases e2 : rv.get L1 with
    | none => rw [e2] at q; exact q.elim
    | some d =>
      rw [e2] at q
      have w := r'.vw hv e2
      cases d with
      | int i => have := w.int; subst this; exact ⟨i, rfl, q P' H' u r'⟩
      | _ => exact q.elim⟩
theorem me_sl {e : Expr} {r : V → Option Int → Option Int → Hp → VK → Prop} {f : D → Option Int → Option Int → Option D} {a : Lo → R RV} {lo hi : Lo → R (Option Int)} (h : PE X e (tSl r (tE X.K g W a) (tO X.K g W lo) (tO X.K g W hi))) (o : OpS X.K g r f) : PE X e (tE X.K g W (eSl f a lo hi)) := h.weak fun σ H Q ⟨io, F, P, L, q, h⟩ => by
  refine ⟨io, F, P, L, q, ?_⟩
  unfold eSl at h
  cases e : a L with
  | no => rw [e] at h; exact h
  | ex x L1 => rw [e] at h; exact h
  | ok x L1 =>
    rw [e] at h; dsimp only at h
    intro P1 H1 v u1 r1 hv
    refine ⟨io, F, P1, L1, r1, ?_⟩
    cases e1 : lo L1 with
    | no => rw [e1] at h; exact h
    | ex x L2 => rw [e1] at h; exact XPost.up u1 h
    | ok l L2 =>
      rw [e1] at h; dsimp only at h
      intro P2 H2 u2 r2
      refine ⟨io, F, P2, L2, r2, ?_⟩
      cases e2 : hi L2 with
      | no => rw [e2] at h; exact h
      | ex x L3 => rw [e2] at h; exact XPost.up (u1.trans u2) h
      | ok hh L3 =>
        rw [e2] at h; dsimp only at h
        intro P3 H3 u3 r3
        cases e3 : x.get L3 with
        | none => rw [e3] at h; exact h.elim
        | some d =>
          rw [e3] at h; dsimp only at h
          cases e4 : f d l hh with
          | none => rw [e4] at h; exact h.elim
          | some dd =>
            rw [e4] at h
            exact o P3 H3 v d l hh dd Q r3.ph (r3.vw (hv.up (u2.trans u3)) e3) e4 fun P4 H4 w gr hw => h P4 H4 w (((u1.trans u2).trans u3).trans gr.p) (r3.nxt gr.nxt) hw
theorem mf_sl {e : Expr} {r : V → Option Int → Option Int → Hp → VK → Prop} {f : D → Option Int → Option Int → Option (List D)} {a : Lo → R RV} {lo hi : Lo → R (Option Int)} (h : PE X e (tSl r (tE X.K g W a) (tO X.K g W lo) (tO X.K g W hi))) (o : OpSF X.K g r f) : PE X e (tF X.K g W (fSl f a lo hi)) := h.weak fun σ H Q ⟨io, F, P, L, q, h⟩ => by
  refine ⟨io, F, P, L, q, ?_⟩
  unfold fSl at h
  cases e : a L with
  | no => rw [e] at h; exact h
  | ex x L1 => rw [e] at h; exact h
  | ok x L1 =>
    rw [e] at h; dsimp only at h
    intro P1 H1 v u1 r1 hv
    refine ⟨io, F, P1, L1, r1, ?_⟩
    cases e1 : lo L1 with
    | no => rw [e1] at h; exact h
    | ex x L2 => rw [e1] at h; exact XPost.up u1 h
    | ok l L2 =>
      rw [e1] at h; dsimp only at h
      intro P2 H2 u2 r2
      refine ⟨io, F, P2, L2, r2, ?_⟩
      cases e2 : hi L2 with
      | no => rw [e2] at h; exact h
      | ex x L3 => rw [e2] at h; exact XPost.up (u1.trans u2) h
      | ok hh L3 =>
        rw [e2] at h; dsimp only at h
        intro P3 H3 u3 r3
        cases e3 : x.get L3 with
        | none => rw [e3] at h; exact h.elim
        | some d =>
          rw [e3] at h; dsimp only at h
          cases e4 : f d l hh with
          | none => rw [e4] at h; exact h.elim
          | some dd =>
            rw [e4] at h
            refine o P3 H3 v d l hh dd Q r3.ph (r3.vw (hv.up (u2.trans u3)) e3) e4 fun p vs np hvs => ?_
            obtain ⟨r4, n1, n2, n3⟩ := r3.new0 (o := .lst vs) np
            exact h P3 _ p vs ((u1.trans u2).trans u3) r4 upd_same n1 n2 n3 hvs

/-! ### own lists: append, extend, pop, a store -/
def sAppend (i : Nat) (m : Lo → R RV) : Lo → SR := fun L => match L[i]?.bind ioOf with
  | none => .no
  | some _ => match m L with
    | .ok rv L1 => match frz rv L1 with
      | some (d, L2) => match L2[i]? with
        | some s0 => match ioOf s0 with
          | some xs => if xs.length < lineN then .nx (L2.set i (ioSet (xs ++ [d]) s0)) else .no
          | none => .no
        | none => .no
      | none => .no
    | .ex x L1 => .ex x L1
    | .no => .no
theorem io_write {K : PySem.W.Frag} {io : Option Addr} {F P H : Hp} {σ : L2.St} {L : Lo} (r : Rep K g io F P σ H L) {i : Nat} {s0 : SV} {xs ys : List D} {ws : List V} {a : Addr} (e0 : L[i]? = some s0) (o0 : ioOf s0 = some xs) (ev : σ[i]? = some (some (.ref a))) (hp : P a = none) (hf : F a = none) (hv : ValL K g P ws ys) :
    Rep K g io F P σ (upd H a (.lst ws)) (L.set i (ioSet ys s0)) := by
  refine r.write e0 ev ?_ ?_ ?_ ?_
  · cases s0 <;> first | rfl | cases o0
  · intro xss z; cases s0 <;> cases z
  · cases s0 with
    | io zs => exact ⟨fun _ => ⟨ys, rfl⟩, fun _ => ⟨zs, rfl⟩⟩
    | _ => exact ⟨fun ⟨_, z⟩ => (nomatch z), fun ⟨_, z⟩ => (nomatch z)⟩
  · rw [ev]
    cases s0 <;> first | exact ⟨a, ws, rfl, upd_same, hp, hf, hv⟩ | cases o0
theorem ms_append {st : Stmt} {i : Nat} {m : Lo → R RV} (h : PS X st (tDrop (tBM X.K "list" rAppend (tVar i) (tCons (tE X.K g W m) tNil)))) : PS X st (tS X.K g W (sAppend i m)) := h.weak fun D σ H ⟨io, F, P, L, r, h⟩ => by
  unfold sAppend at h
  cases e0 : L[i]?.bind ioOf with
  | none => rw [e0] at h; exact h.elim
  | some xs0 =>
    rw [e0] at h; dsimp only at h
    obtain ⟨s00, e00, e01⟩ := Option.bind_eq_some_iff.mp e0
    obtain ⟨a, ws0, ev, eh, _⟩ := ioOf_ok r e00 e01
    refine ⟨_, ev, .inl ⟨rfl, _, SqL.of eh⟩, io, F, P, L, r, ?_⟩
    cases e : m L with
    | no => rw [e] at h; exact h
    | ex x L1 => rw [e] at h; exact fun P' H' c dd u r' e' => h P' σ H' c dd u r' e'
    | ok rv L1 =>
      rw [e] at h; dsimp only at h
      intro P1 H1 v u1 r1 hv
      cases e1 : frz rv L1 with
      | none => rw [e1] at h; exact h.elim
      | some q =>
        obtain ⟨d, L2⟩ := q
        rw [e1] at h; dsimp only at h
        obtain ⟨P2, u2, r2, v2⟩ := r1.frz hv e1
        cases e2 : L2[i]? with
        | none => rw [e2] at h; exact h.elim
        | some s0 =>
          rw [e2] at h; dsimp only at h
          cases e3 : ioOf s0 with
          | none => rw [e3] at h; exact h.elim
          | some xs =>
            rw [e3] at h; dsimp only at h
            by_cases hl : xs.length < lineN
            · rw [if_pos hl] at h
              obtain ⟨a', ws, ev', z1, z2, z3, z4⟩ := ioOf_ok r2 e2 e3
              rw [ev] at ev'; cases ev'
              exact ⟨a, ws, v, rfl, rfl, z1, by rw [z4.length]; exact line_lt hl, h P2 σ _ (u1.trans u2) (io_write r2 e2 e3 ev z2 z3 (z4.append (.one v2)))⟩
            · rw [if_neg hl] at h; exact h.elim
def sExtend (i : Nat) (m : Lo → R RV) : Lo → SR := fun L => match L[i]?.bind ioOf with
  | none => .no
  | some _ => match m L with
    | .ok rv L1 => match rv.get L1, L1[i]? with
      | some (.lst ys), some s0 => match ioOf s0 with
        | some xs => if xs.length + ys.length ≤ lineN then .nx (L1.set i (ioSet (xs ++ ys) s0)) else .no
        | none => .no
      | _, _ => .no
    | .ex x L1 => .ex x L1
    | .no => .no
theorem ms_extend {st : Stmt} {i : Nat} {m : Lo → R RV} (h : PS X st (tDrop (tBM X.K "list" rExtend (tVar i) (tCons (tE X.K g W m) tNil)))) : PS X st (tS X.K g W (sExtend i m)) := h.weak fun D σ H ⟨io, F, P, L, r, h⟩ => by
  unfold sExtend at h
  cases e0 : L[i]?.bind ioOf with
  | none => rw [e0] at h; exact h.elim
  | some xs0 =>
    rw [e0] at h; dsimp only at h
    obtain ⟨s00, e00, e01⟩ := Option.bind_eq_some_iff.mp e0
    obtain ⟨a, ws0, ev, eh, _⟩ := ioOf_ok r e00 e01
    refine ⟨_, ev, .inl ⟨rfl, _, SqL.of eh⟩, io, F, P, L, r, ?_⟩
    cases e : m L with
    | no => rw [e] at h; exact h
    | ex x L1 => rw [e] at h; exact fun P' H' c dd u r' e' => h P' σ H' c dd u r' e'
    | ok rv L1 =>
      rw [e] at h; dsimp only at h
      intro P1 H1 v u1 r1 hv
      cases e1 : rv.get L1 with
      | none => rw [e1] at h; exact h.elim
      | some d =>
        rw [e1] at h
        cases d with
        | lst ys =>
          cases e2 : L1[i]? with
          | none => rw [e2] at h; exact h.elim
          | some s0 =>
            rw [e2] at h; dsimp only at h
            cases e3 : ioOf s0 with
            | none => rw [e3] at h; exact h.elim
            | some xs =>
              rw [e3] at h; dsimp only at h
              by_cases hl : xs.length + ys.length ≤ lineN
              · rw [if_pos hl] at h
                obtain ⟨a', ws, ev', z1, z2, z3, z4⟩ := ioOf_ok r1 e2 e3
                rw [ev] at ev'; cases ev'
                obtain ⟨b, zs, rfl, y1, y2⟩ := (r1.vw hv e1).lst r1.ph
                exact ⟨a, b, ws, zs, rfl, rfl, z1, y1, by rw [z4.length, y2.length]; exact line_le hl, h P1 σ _ u1 (io_write r1 e2 e3 ev z2 z3 (z4.append y2))⟩
              · rw [if_neg hl] at h; exact h.elim
        | _ => exact h.elim
/-- xs.pop() -/
def ePop (i : Nat) : Lo → R RV := fun L => match L[i]? with
  | some s0 => match ioOf s0 with
    | some xs => match xs[xs.length - 1]? with
      | some d => .ok (.v d) (L.set i (ioSet xs.dropLast s0))
      | none => .no
    | none => .no
  | none => .no
theorem me_pop {e : Expr} {i : Nat} (h : PE X e (tBM0 X.K "list" rPop (tVar i))) : PE X e (tE X.K g W (ePop i)) := h.weak fun σ H Q ⟨io, F, P, L, r, h⟩ => by
  unfold ePop at h
  cases e0 : L[i]? with
  | none => rw [e0] at h; exact h.elim
  | some s0 =>
    rw [e0] at h; dsimp only at h
    cases e1 : ioOf s0 with
    | none => rw [e1] at h; exact h.elim
    | some xs =>
      rw [e1] at h; dsimp only at h
      cases e2 : xs[xs.length - 1]? with
      | none => rw [e2] at h; exact h.elim
      | some d =>
        rw [e2] at h
        obtain ⟨a, ws, ev, z1, z2, z3, z4⟩ := ioOf_ok r e0 e1
        obtain ⟨v, y1, y2⟩ := z4.getD' e2
        exact ⟨_, ev, .inl ⟨rfl, _, SqL.of z1⟩, a, ws, v, rfl, rfl, z1, by rw [z4.length]; exact y1, h P _ v (.refl P) (io_write r e0 e1 ev z2 z3 z4.dropLast) y2⟩
/-- xs.pop(k) -/
def ePopAt (i : Nat) (m : Lo → R RV) : Lo → R RV := fun L => match L[i]?.bind ioOf with
  | none => .no
  | some _ => match m L with
    | .ok rv L1 => match rv.get L1, L1[i]? with
      | some (.int k), some s0 => match ioOf s0 with
        | some xs => if -(2 ^ 63) ≤ k ∧ k < 2 ^ 63 then match seqIndex? k xs.length with
            | some j => match xs[j]? with
              | some d => .ok (.v d) (L1.set i (ioSet (xs.eraseIdx j) s0))
              | none => .no
            | none => .no
          else .no
        | none => .no
      | _, _ => .no
    | .ex x L1 => .ex x L1
    | .no => .no
theorem me_popAt {e : Expr} {i : Nat} {m : Lo → R RV} (h : PE X e (tBM X.K "list" rPopAt (tVar i) (tCons (tE X.K g W m) tNil))) : PE X e (tE X.K g W (ePopAt i m)) := h.weak fun σ H Q ⟨io, F, P, L, r, h⟩ => by
  unfold ePopAt at h
  cases e0 : L[i]?.bind ioOf with
  | none => rw [e0] at h; exact h.elim
  | some xs0 =>
    rw [e0] at h; dsimp only at h
    obtain ⟨s00, e00, e01⟩ := Option.bind_eq_some_iff.mp e0
    obtain ⟨a, ws0, ev, eh, _⟩ := ioOf_ok r e00 e01
    refine ⟨_, ev, .inl ⟨rfl, _, SqL.of eh⟩, io, F, P, L, r, ?_⟩
    cases e : m L with
    | no => rw [e] at h; exact h
    | ex x L1 => rw [e] at h; exact h
    | ok rv L1 =>
      rw [e] at h; dsimp only at h
      intro P1 H1 v u1 r1 hv
      cases e1 : rv.get L1 with
      | none => rw [e1] at h; exact h.elim
      | some d =>
        rw [e1] at h
        cases d with
        | int k =>
          cases e2 : L1[i]? with
          | none => rw [e2] at h; exact h.elim
          | some s0 =>
            rw [e2] at h; dsimp only at h
            cases e3 : ioOf s0 with
            | none => rw [e3] at h; exact h.elim
            | some xs =>
              rw [e3] at h; dsimp only at h
              by_cases hl : -(2 ^ 63) ≤ k ∧ k < 2 ^ 63
              · rw [if_pos hl] at h
                cases e4 : seqIndex? k xs.length with
                | none => rw [e4] at h; exact h.elim
                | some j =>
                  rw [e4] at h; dsimp only at h
                  cases e5 : xs[j]? with
                  | none => rw [e5] at h; exact h.elim
                  | some d =>
                    rw [e5] at h
                    obtain ⟨a', ws, ev', z1, z2, z3, z4⟩ := ioOf_ok r1 e2 e3
                    rw [ev] at ev'; cases ev'
                    have := (r1.vw hv e1).int; subst this
                    obtain ⟨w, y1, y2⟩ := z4.getD' e5
                    exact ⟨a, ws, k, j, w, rfl, rfl, z1, hl.1, hl.2, by rw [z4.length]; exact e4, y1, h P1 _ w u1 (io_write r1 e2 e3 ev z2 z3 (z4.erase j)) y2⟩
              · rw [if_neg hl] at h; exact h.elim
        | _ => exact h.elim
/-- xs[k] = e -/
def sStore (i : Nat) (mk me : Lo → R RV) : Lo → SR := fun L => match me L with
  | .ok rv L1 => match frz rv L1 with
    | some (d, L2) => match L2[i]?.bind ioOf with
      | none => .no
      | some _ => match mk L2 with
        | .ok rk L3 => match rk.get L3, L3[i]? with
          | some (.int k), some s0 => match ioOf s0 with
            | some xs => match ixN xs.length k with
              | some j => .nx (L3.set i (ioSet (xs.set j d) s0))
              | none => .no
            | none => .no
          | _, _ => .no
        | .ex x L3 => .ex x L3
        | .no => .no
    | none => .no
  | .ex x L1 => .ex x L1
  | .no => .no
theorem ms_store {st : Stmt} {i : Nat} {mk me : Lo → R RV} (h : PS X st (tAsg (tE X.K g W me) (gSub (tVar i) (tE X.K g W mk) rSetL))) : PS X st (tS X.K g W (sStore i mk me)) := h.weak fun D σ H ⟨io, F, P, L, r, h⟩ => by
  refine ⟨io, F, P, L, r, ?_⟩
  unfold sStore at h
  cases e : me L with
  | no => rw [e] at h; exact h
  | ex x L1 => rw [e] at h; exact fun P' H' c dd u r' e' => h P' σ H' c dd u r' e'
  | ok rv L1 =>
    rw [e] at h; dsimp only at h
    intro P1 H1 v u1 r1 hv
    cases e1 : frz rv L1 with
    | none => rw [e1] at h; exact h.elim
    | some q =>
      obtain ⟨d, L2⟩ := q
      rw [e1] at h; dsimp only at h
      obtain ⟨P2, u2, r2, v2⟩ := r1.frz hv e1
      cases e0 : L2[i]?.bind ioOf with
      | none => rw [e0] at h; exact h.elim
      | some xs0 =>
        rw [e0] at h; dsimp only at h
        obtain ⟨s00, e00, e01⟩ := Option.bind_eq_some_iff.mp e0
        obtain ⟨a, ws0, ev, eh, _⟩ := ioOf_ok r2 e00 e01
        refine ⟨_, ev, io, F, P2, L2, r2, ?_⟩
        cases e2 : mk L2 with
        | no => rw [e2] at h; exact h
        | ex x L3 => rw [e2] at h; exact fun P' H' c dd u r' e' => h P' σ H' c dd ((u1.trans u2).trans u) r' e'
        | ok rk L3 =>
          rw [e2] at h; dsimp only at h
          intro P3 H3 w u3 r3 hw
          cases e3 : rk.get L3 with
          | none => rw [e3] at h; exact h.elim
          | some dk =>
            rw [e3] at h
            cases dk with
            | int k =>
              cases e4 : L3[i]? with
              | none => rw [e4] at h; exact h.elim
              | some s0 =>
                rw [e4] at h; dsimp only at h
                cases e5 : ioOf s0 with
                | none => rw [e5] at h; exact h.elim
                | some xs =>
                  rw [e5] at h; dsimp only at h
                  cases e6 : ixN xs.length k with
                  | none => rw [e6] at h; exact h.elim
                  | some j =>
                    rw [e6] at h
                    obtain ⟨a', ws, ev', z1, z2, z3, z4⟩ := ioOf_ok r3 e4 e5
                    rw [ev] at ev'; cases ev'
                    have := (r3.vw hw e3).int; subst this
                    exact ⟨a, ws, k, j, rfl, rfl, z1, by rw [z4.length]; exact e6, h P3 σ _ ((u1.trans u2).trans u3) (io_write r3 e4 e5 ev z2 z3 (ValL.set (v2.up u3) j z4))⟩
            | _ => exact h.elim
end
end L2.Z

/-! part Z9 -/
set_option Elab.async false
set_option linter.all false
set_option maxRecDepth 100000
set_option maxHeartbeats 4000000
namespace L2.Z
open PySem PySem.Spec PyProof.Rows

/-! ### isinstance -/
def tyD : D → Option String
  | .non => some "NoneType"
  | .bl _ => some "bool"
  | .int _ => some "int"
  | .str _ => some "str"
  | .tup _ => some "tuple"
  | .lst _ => some "list"
  | .scr _ => some "list"
  | .dct _ => some "dict"
  | .fn _ => none
section
variable {K : PySem.W.Frag} {g : Nm} {P H : Hp}
theorem VW.ty {v : V} {d : D} {t : String} (u : Up P H) (h : VW K g P H v d) (e : tyD d = some t) : TyX K H v (.type t) := by
  cases d with
  | non => cases e; rw [h.non]; exact .base .non
  | bl b => cases e; rw [h.bl]; exact .base (.bl b)
  | int i => cases e; rw [h.int]; exact .base (.int i)
  | str s => cases e; rw [h.str]; exact .base (.str s)
  | tup xs =>
    cases e
    obtain ⟨a, vs, rfl, s, _⟩ := h.tup u
    rcases s with (s | ⟨o, s⟩) | ⟨o, its, n, s, c, _⟩
    · exact .base (.tup s)
    · exact .fTuple s
    · exact .kTuple s c
  | lst xs =>
    cases e
    obtain ⟨a, vs, rfl, s, _⟩ := h.lst u
    exact .base (.lst s)
  | scr xs =>
    cases e
    obtain ⟨a, rfl, s⟩ := h.scr u
    rcases s with (s | ⟨o, s⟩) | ⟨o, its, n, s, c, _⟩
    · exact .base (.lst s)
    · exact .base (.frz s)
    · exact .kList s c
  | dct xs =>
    cases e
    obtain ⟨a, o, rfl, s, q⟩ := h.dct u
    cases q with
    | dT _ _ => exact .base (.dT s)
    | dK _ _ => exact .base (.dK s)
  | fn n => cases e
end
/-- isinstance(x, T), T built in -/
def isiD (T : String) : D → Option D := fun d => match tyD d with
  | some t => (kitB t T).map D.bl
  | none => none
/-- .. one of two -/
def isi2D (T U : String) : D → Option D := fun d => match tyD d with
  | some t => match kitB t T, kitB t U with
    | some a, some b => some (.bl (a || b))
    | _, _ => none
  | none => none
section
variable {X : Cx} {g : Nm} {W : WX}
theorem me_isi {e : Expr} {T : String} {m : Lo → R RV} (h : PE X e (tCB (rIsi X.K) (tCons (tE X.K g W m) (tCons (tC (.ty T)) tNil)))) : PE X e (tE X.K g W (eOp1 (isiD T) m)) := h.weak fun σ H Q q =>
  op1_w (r := fun x H Q => rIsi X.K [x, .ty T] H Q) (f := isiD T) (fun P H x dx d Q u hx e q => by
    unfold isiD at e
    cases e1 : tyD dx with
    | none => rw [e1] at e; cases e
    | some t =>
      rw [e1] at e; dsimp only at e
      cases e2 : kitB t T with
      | none => rw [e2] at e; cases e
      | some b => rw [e2] at e; cases e; exact ⟨x, _, _, _, b, rfl, .ty T, hx.ty u e1, kit_ty e2, q P H _ (.refl u) (.bl b)⟩) σ H Q q
theorem me_isi2 {e : Expr} {T U : String} {m : Lo → R RV} (h : PE X e (tCB (rIsiT X.K) (tCons (tE X.K g W m) (tCons (tTup (tCons (tC (.ty T)) (tCons (tC (.ty U)) tNil))) tNil)))) : PE X e (tE X.K g W (eOp1 (isi2D T U) m)) := h.weak fun σ H Q q =>
  op1_w (r := fun x H Q => 2 ≤ sizeLine ∧ ∀ p, H p = none → rIsiT X.K [x, .ref p] (upd H p (.tup [.ty T, .ty U])) Q) (f := isi2D T U) (fun P H x dx d Q u hx e q => by
    refine ⟨by decide, fun p np => ?_⟩
    unfold isi2D at e
    cases e1 : tyD dx with
    | none => rw [e1] at e; cases e
    | some t =>
      rw [e1] at e; dsimp only at e
      cases e2 : kitB t T with
      | none => rw [e2] at e; cases e
      | some a =>
        cases e3 : kitB t U with
        | none => rw [e2, e3] at e; cases e
        | some b =>
          rw [e2, e3] at e; cases e
          have gr := grow_new u (o := .tup [.ty T, .ty U]) np
          refine ⟨x, p, [.ty T, .ty U], .type t, [.type T, .type U], a || b, rfl, upd_same, .cons (.ty T) (.cons (.ty U) .nil), ?_, ?_, q P _ _ ⟨.refl _, gr.h, u.trans gr.h, fun _ _ _ n _ => n⟩ (.bl _)⟩
          · have hx' : VW X.K g P (upd H p (.tup [.ty T, .ty U])) x dx := by
              cases hx with
              | va h => exact .va h
              | li a b => exact .li (gr.h _ _ a) b
              | di a b => exact .di (gr.h _ _ a) b
            exact hx'.ty (u.trans gr.h) e1
          · refine kitAny_cons (kit_ty e2) (fun ea => ?_) (fun ea => by rw [ea]; rfl)
            refine kitAny_cons (kit_ty e3) (fun eb => ?_) (fun eb => by rw [eb, Bool.or_true])
            rw [ea, eb]; exact kitAny_nil) σ H Q q

/-! ### zip, enumerate -/
def zipD : List D → List D → List D
  | x :: xs, y :: ys => .tup [x, y] :: zipD xs ys
  | _, _ => []
def iZip2 (ms : Lo → R (List RV)) : Lo → R (List D) := fun L => match ms L with
  | .ok [a, b] L1 => match frz a L1 with
    | some (da, L2) => match frz b L2 with
      | some (db, L3) => match da, db with
        | .lst xs, .lst ys => .ok (zipD xs ys) L3
        | .tup xs, .tup ys => .ok (zipD xs ys) L3
        | _, _ => .no
      | none => .no
    | none => .no
  | .ok _ _ => .no
  | .ex x L1 => .ex x L1
  | .no => .no
theorem zipD_get : ∀ {xs ys : List D} {i : Nat} {x y : D}, xs[i]? = some x → ys[i]? = some y → (zipD xs ys)[i]? = some (.tup [x, y])
  | [], _, _, _, _, h, _ => by simp at h
  | _ :: _, [], _, _, _, _, h => by simp at h
  | a :: xs, b :: ys, 0, x, y, h, h' => by
    have e1 : a = x := Option.some.inj h
    have e2 : b = y := Option.some.inj h'
    subst e1; subst e2; rfl
  | a :: xs, b :: ys, i + 1, x, y, h, h' => by
    have h1 : xs[i]? = some x := h
    have h2 : ys[i]? = some y := h'
    exact zipD_get (xs := xs) (ys := ys) h1 h2
theorem zipD_len : ∀ (xs ys : List D), (zipD xs ys).length = min xs.length ys.length
  | [], _ => by rw [zipD, List.length_nil, Nat.zero_min]; intros; contradiction
  | _ :: _, [] => by rw [zipD, List.length_nil, Nat.min_zero]; intros; contradiction
  | a :: xs, b :: ys => by rw [zipD, List.length_cons, List.length_cons, List.length_cons, zipD_len xs ys]; omega
theorem src_zipL {K : PySem.W.Frag} {P0 : Hp} {a b : Addr} {vs ws : List V} {xs ys : List D} (h1 : SqL K P0 a vs) (r1 : ValL K g P0 vs xs) (h2 : SqL K P0 b ws) (r2 : ValL K g P0 ws ys) : Src K g P0 (Itz K a b) (zipD xs ys) := fun P H u ph i => by
  have l1 := r1.length
  have l2 := r2.length
  have s1 := ph.sqL (u.sqL h1)
  have s2 := ph.sqL (u.sqL h2)
  have hl := zipD_len xs ys
  refine ⟨fun hi => ⟨⟨vs, ws, vs[i], ws[i], s1, s2, by simp, by simp⟩, fun x H' y => ?_⟩, fun hi => ⟨vs, ws, s1, s2, by omega⟩⟩
  obtain ⟨T, x1, x2, rfl, nT, rfl, f1, f2⟩ := y
  obtain ⟨d1, e1, v1⟩ := r1.get (f1 vs s1)
  obtain ⟨d2, e2, v2⟩ := r2.get (f2 ws s2)
  have gr := grow_new ph (o := .tup [x1, x2]) nT
  exact ⟨_, _, zipD_get e1 e2, gr, .tup (.inl (.inl upd_same)) (.cons (v1.up (u.trans gr.p)) (.cons (v2.up (u.trans gr.p)) .nil))⟩
theorem src_zipT {K : PySem.W.Frag} {P0 : Hp} {a b : Addr} {vs ws : List V} {xs ys : List D} (h1 : SqT K P0 a vs) (r1 : ValL K g P0 vs xs) (h2 : SqT K P0 b ws) (r2 : ValL K g P0 ws ys) : Src K g P0 (RZ.ItzT K a b) (zipD xs ys) := fun P H u ph i => by
  have l1 := r1.length
  have l2 := r2.length
  have s1 := ph.sqT (u.sqT h1)
  have s2 := ph.sqT (u.sqT h2)
  have hl := zipD_len xs ys
  refine ⟨fun hi => ⟨⟨vs, ws, vs[i], ws[i], s1, s2, by simp, by simp⟩, fun x H' y => ?_⟩, fun hi => ⟨vs, ws, s1, s2, by omega⟩⟩
  obtain ⟨T, x1, x2, rfl, nT, rfl, f1, f2⟩ := y
  obtain ⟨d1, e1, v1⟩ := r1.get (f1 vs s1)
  obtain ⟨d2, e2, v2⟩ := r2.get (f2 ws s2)
  have gr := grow_new ph (o := .tup [x1, x2]) nT
  exact ⟨_, _, zipD_get e1 e2, gr, .tup (.inl (.inl upd_same)) (.cons (v1.up (u.trans gr.p)) (.cons (v2.up (u.trans gr.p)) .nil))⟩
theorem is_zip {K : PySem.W.Frag} {ms : Lo → R (List RV)} : Is K g W (iZip2 ms) (RZ.iZipA K (tA K g W ms)) := by
  intro σ H R ⟨io, F, P, L, r, h⟩
  refine ⟨io, F, P, L, r, ?_⟩
  unfold iZip2 at h
  cases e : ms L with
  | no => rw [e] at h; exact h.elim
  | ex x L1 => rw [e] at h; exact h
  | ok rs L1 =>
    rw [e] at h
    match rs, h with
    | [a, b], h =>
      dsimp only at h
      intro P' H' vs u r' hv
      match vs, hv with
      | [v, w], hv =>
        obtain ⟨ha, hb, _⟩ := hv
        cases e1 : frz a L1 with
        | none => rw [e1] at h; exact h.elim
        | some q1 =>
          obtain ⟨da, L2⟩ := q1
          rw [e1] at h; dsimp only at h
          obtain ⟨P2, u2, r2, v2⟩ := r'.frz ha e1
          cases e2 : frz b L2 with
          | none => rw [e2] at h; exact h.elim
          | some q2 =>
            obtain ⟨db, L3⟩ := q2
            rw [e2] at h; dsimp only at h
            obtain ⟨P3, u3, r3, v3⟩ := r2.frz (hb.up u2) e2
            have v2 := v2.up u3
            cases da <;> try (exact h.elim)
            · rename_i xs
              cases db <;> try (exact h.elim)
              rename_i ys
              cases v2 with
              | tup a1 a2 => cases v3 with
                | tup b1 b2 => exact ⟨_, _, _, _, rfl, .inr ⟨r3.ph.sqT a1, r3.ph.sqT b1, h P3 H' _ ((u.trans u2).trans u3) r3 (src_zipT a1 a2 b1 b2)⟩⟩
            · rename_i xs
              cases db <;> try (exact h.elim)
              rename_i ys
              cases v2 with
              | lst a1 a2 => cases v3 with
                | lst b1 b2 => exact ⟨_, _, _, _, rfl, .inl ⟨SqL.of (r3.ph _ _ a1), SqL.of (r3.ph _ _ b1), h P3 H' _ ((u.trans u2).trans u3) r3 (src_zipL (SqL.of a1) a2 (SqL.of b1) b2)⟩⟩
theorem mi_zip {e e2 : Expr} {ms : Lo → R (List RV)} {p pos tpos : Pos} {elts : List Expr} {kk : Nat} (hg : Gl X "zip") (hm : X.mg "zip" = none) (ha : PA X [e, e2] (tA X.K g W ms)) (he : starEach [e, e2] X.env = (false, eval e X.env) :: starEach [e2] X.env := by rfl) (hpl : (backTo pos (starEach [e2] X.env)).any (·.1) = false := by rfl) :
    MI X g W (.Tuple elts kk tpos) (.Call (.Name "zip" p) [e, e2] [] pos) (iZip2 ms) := ⟨_, RZ.pi_zipA hg hm ha he hpl, is_zip⟩
def enumD : Nat → List D → List D
  | _, [] => []
  | i, x :: xs => .tup [.int i, x] :: enumD (i + 1) xs
theorem enumD_get : ∀ {xs : List D} {i k : Nat} {x : D}, xs[i]? = some x → (enumD k xs)[i]? = some (.tup [.int ((k + i : Nat) : Int), x])
  | [], _, _, _, h => by simp at h
  | a :: xs, 0, k, x, h => by
    have e1 : a = x := Option.some.inj h
    subst e1; rfl
  | a :: xs, i + 1, k, x, h => by
    have h1 : xs[i]? = some x := h
    have := enumD_get (xs := xs) (i := i) (k := k + 1) h1
    rw [show k + (i + 1) = k + 1 + i by omega]
    exact this
theorem enumD_len : ∀ (k : Nat) (xs : List D), (enumD k xs).length = xs.length
  | _, [] => rfl
  | k, a :: xs => by rw [enumD, List.length_cons, List.length_cons, enumD_len (k + 1) xs]
theorem src_enumL {K : PySem.W.Frag} {P0 : Hp} {a : Addr} {vs : List V} {xs : List D} (h1 : SqL K P0 a vs) (r1 : ValL K g P0 vs xs) : Src K g P0 (Ite K a) (enumD 0 xs) := fun P H u ph i => by
  have l1 := r1.length
  have s1 := ph.sqL (u.sqL h1)
  have hl := enumD_len 0 xs
  refine ⟨fun hi => ⟨⟨vs, vs[i], s1, by simp⟩, fun x H' y => ?_⟩, fun hi => ⟨vs, s1, by omega⟩⟩
  obtain ⟨T, x1, rfl, nT, rfl, f1⟩ := y
  obtain ⟨d1, e1, v1⟩ := r1.get (f1 vs s1)
  have gr := grow_new ph (o := .tup [.int (i : Nat), x1]) nT
  refine ⟨_, _, enumD_get e1, gr, .tup (.inl (.inl upd_same)) (.cons ?_ (.cons (v1.up (u.trans gr.p)) .nil))⟩
  rw [Nat.zero_add]; exact .int _
def iEnumL (ms : Lo → R (List RV)) : Lo → R (List D) := fun L => match ms L with
  | .ok [a] L1 => match frz a L1 with
    | some (.lst xs, L2) => .ok (enumD 0 xs) L2
    | _ => .no
  | .ok _ _ => .no
  | .ex x L1 => .ex x L1
  | .no => .no
theorem is_enumL {K : PySem.W.Frag} {ms : Lo → R (List RV)} : Is K g W (iEnumL ms) (iEnum K (tA K g W ms)) := by
  intro σ H R ⟨io, F, P, L, r, h⟩
  refine ⟨io, F, P, L, r, ?_⟩
  unfold iEnumL at h
  cases e : ms L with
  | no => rw [e] at h; exact h.elim
  | ex x L1 => rw [e] at h; exact h
  | ok rs L1 =>
    rw [e] at h
    match rs, h with
    | [a], h =>
      dsimp only at h
      intro P' H' vs u r' hv
      match vs, hv with
      | [v], hv =>
        obtain ⟨ha, _⟩ := hv
        cases e1 : frz a L1 with
        | none => rw [e1] at h; exact h.elim
        | some q1 =>
          obtain ⟨da, L2⟩ := q1
          rw [e1] at h
          obtain ⟨P2, u2, r2, v2⟩ := r'.frz ha e1
          cases da <;> try (exact h.elim)
          cases v2 with
          | lst a1 a2 => exact ⟨_, _, rfl, SqL.of (r2.ph _ _ a1), h P2 H' _ (u.trans u2) r2 (src_enumL (SqL.of a1) a2)⟩
theorem mi_enumL {e : Expr} {ms : Lo → R (List RV)} {p pos tpos : Pos} {elts : List Expr} {kk : Nat} (hg : Gl X "enumerate") (hm : X.mg "enumerate" = none) (ha : PA X [e] (tA X.K g W ms)) (hs : starEach [e] X.env = [(false, eval e X.env)] := by rfl) :
    MI X g W (.Tuple elts kk tpos) (.Call (.Name "enumerate" p) [e] [] pos) (iEnumL ms) := ⟨_, pi_enum hg hm ha hs, is_enumL⟩

/-! ### list(range(..)), tuple(range(..)) -/
abbrev TRg := L2.St → Hp → (Int → Int → Hp → Prop) → Prop
def tR (K : PySem.W.Frag) (g : Nm) (W : WX) (m : Lo → R (Int × Int)) : TRg := fun σ H Q => ∃ io F P L, Rep K g io F P σ H L ∧ match m L with
  | .ok o L' => ∀ P' H', Up P P' → Rep K g io F P' σ H' L' → Q o.1 o.2 H'
  | .ex x L' => XPost K g W io F P σ x L'
  | .no => False
def rg1 (m : Lo → R RV) : Lo → R (Int × Int) := fun L => match m L with
  | .ok rv L1 => match rv.get L1 with
    | some (.int i) => .ok (0, i) L1
    | _ => .no
  | .ex x L1 => .ex x L1
  | .no => .no
theorem rg1_w {K : PySem.W.Frag} {m : Lo → R RV} (σ : L2.St) (H : Hp) (Q : Int → Int → Hp → Prop) (h : tR K g W (rg1 m) σ H Q) : tRg1 (tE K g W m) σ H Q := by
  obtain ⟨io, F, P, L, r, h⟩ := h
  refine ⟨io, F, P, L, r, ?_⟩
  unfold rg1 at h
  cases e : m L with
  | no => rw [e] at h; exact h
  | ex x L1 => rw [e] at h; exact h
  | ok rv L1 =>
    rw [e] at h; dsimp only at h
    intro P' H' v u r' hv
    cases e2 : rv.get L1 with
    | none => rw [e2] at h; exact h.elim
    | some d =>
      rw [e2] at h
      cases d <;> try (exact h.elim)
      have := (r'.vw hv e2).int; subst this
      exact ⟨_, rfl, h P' H' u r'⟩
theorem prg_w {e : Expr} {t t' : TRg} (h : PRg X e t) (w : ∀ σ H Q, t' σ H Q → t σ H Q) : PRg X e t' := fun pins s σ H Q I q => h pins s σ H Q I (w σ H Q q)
theorem mrg_1 {a : Expr} {m : Lo → R RV} {p pos : Pos} (hg : Gl X "range") (hm : X.mg "range" = none) (ha : PE X a (tE X.K g W m)) (na : starEach [a] X.env = (false, eval a X.env) :: starEach [] X.env := by rfl) : PRg X (.Call (.Name "range" p) [a] [] pos) (tR X.K g W (rg1 m)) := prg_w (prg_1 hg hm ha na) rg1_w
def rg2 (m n : Lo → R RV) : Lo → R (Int × Int) := fun L => match m L with
  | .ok rv L1 => match n L1 with
    | .ok rw L2 => match rv.get L2, rw.get L2 with
      | some (.int i), some (.int j) => .ok (i, j) L2
      | _, _ => .no
    | .ex x L2 => .ex x L2
    | .no => .no
  | .ex x L1 => .ex x L1
  | .no => .no
theorem rg2_w {K : PySem.W.Frag} {m n : Lo → R RV} (σ : L2.St) (H : Hp) (Q : Int → Int → Hp → Prop) (h : tR K g W (rg2 m n) σ H Q) : tRg2 (tE K g W m) (tE K g W n) σ H Q := by
  obtain ⟨io, F, P, L, r, h⟩ := h
  refine ⟨io, F, P, L, r, ?_⟩
  unfold rg2 at h
  cases e : m L with
  | no => rw [e] at h; exact h
  | ex x L1 => rw [e] at h; exact h
  | ok rv L1 =>
    rw [e] at h; dsimp only at h
    intro P' H' v u r' hv
    refine ⟨io, F, P', L1, r', ?_⟩
    cases e1 : n L1 with
    | no => rw [e1] at h; exact h
    | ex x L1 => rw [e1] at h; exact XPost.up u h
    | ok rw' L2 =>
      rw [e1] at h; dsimp only at h
      intro P2 H2 w u2 r2 hw
      cases e2 : rv.get L2 with
      | none => rw [e2] at h; exact h.elim
      | some d =>
        cases e3 : rw'.get L2 with
        | none => rw [e2, e3] at h; cases d <;> exact h.elim
        | some d2 =>
          rw [e2, e3] at h
          cases d <;> try (exact h.elim)
          cases d2 <;> try (exact h.elim)
          have := (r2.vw (hv.up u2) e2).int; subst this
          have := (r2.vw hw e3).int; subst this
          exact ⟨_, _, rfl, rfl, h P2 H2 (u.trans u2) r2⟩
theorem mrg_2 {a b : Expr} {m n : Lo → R RV} {p pos : Pos} (hg : Gl X "range") (hm : X.mg "range" = none) (ha : PE X a (tE X.K g W m)) (hb : PE X b (tE X.K g W n)) (na : starEach [a, b] X.env = (false, eval a X.env) :: starEach [b] X.env := by rfl) (nb : starEach [b] X.env = (false, eval b X.env) :: starEach [] X.env := by rfl) (hp : (backTo pos (starEach [b] X.env)).any (fun x => x.1) = false := by rfl) : PRg X (.Call (.Name "range" p) [a, b] [] pos) (tR X.K g W (rg2 m n)) := prg_w (prg_2 hg hm ha hb na nb hp) rg2_w
def rgOk (a b : Int) : Bool := decide (-(2 ^ 62) ≤ a) && decide (a < 2 ^ 62) && decide (-(2 ^ 62) ≤ b) && decide (b < 2 ^ 62) && decide ((b - a).toNat ≤ lineN)
theorem rgOk_of {a b : Int} (h : rgOk a b = true) : RgOk a b := by
  unfold rgOk at h
  simp only [Bool.and_eq_true, decide_eq_true_eq] at h
  obtain ⟨⟨⟨⟨h1, h2⟩, h3⟩, h4⟩, h5⟩ := h
  refine ⟨h1, h2, h3, h4, ?_⟩
  unfold lineN at h5; omega
theorem rg_vals {K : PySem.W.Frag} {P : Hp} (a b : Int) : ValL K g P (rgV a b) (rangeD a b) := by
  unfold rgV rangeD
  generalize (b - a).toNat = n
  have : ∀ l : List Nat, ValL K g P (l.map fun (i : Nat) => V.int (a + (i : Nat))) (l.map fun (i : Nat) => D.int (a + (i : Int))) := by
    intro l
    induction l with
    | nil => exact .nil
    | cons x l ih => exact .cons (.int _) ih
  exact this _
def fRg (m : Lo → R (Int × Int)) : Lo → R (List D) := fun L => match m L with
  | .ok o L1 => if rgOk o.1 o.2 = true then .ok (rangeD o.1 o.2) L1 else .no
  | .ex x L1 => .ex x L1
  | .no => .no
theorem mf_listRg {e : Expr} {m : Lo → R (Int × Int)} (h : PE X e (tLstRg (tR X.K g W m))) : PE X e (tF X.K g W (fRg m)) := h.weak fun σ H Q ⟨io, F, P, L, r, h⟩ => by
  refine ⟨io, F, P, L, r, ?_⟩
  unfold fRg at h
  cases e : m L with
  | no => rw [e] at h; exact h
  | ex x L1 => rw [e] at h; exact h
  | ok o L1 =>
    rw [e] at h; dsimp only at h
    intro P' H' u r'
    by_cases hc : rgOk o.1 o.2 = true
    · rw [if_pos hc] at h
      refine ⟨rgOk_of hc, fun p np => ?_⟩
      obtain ⟨r3, n1, n2, n3⟩ := r'.new0 (o := .lst (rgV o.1 o.2)) np
      exact h P' _ p _ u r3 upd_same n1 n2 n3 (rg_vals _ _)
    · rw [if_neg hc] at h; exact h.elim
def eTupRg (m : Lo → R (Int × Int)) : Lo → R RV := fun L => match m L with
  | .ok o L1 => if rgOk o.1 o.2 = true then .ok (.v (.tup (rangeD o.1 o.2))) L1 else .no
  | .ex x L1 => .ex x L1
  | .no => .no
theorem me_tupRg {e : Expr} {m : Lo → R (Int × Int)} (h : PE X e (tTupRg (tR X.K g W m))) : PE X e (tE X.K g W (eTupRg m)) := h.weak fun σ H Q ⟨io, F, P, L, r, h⟩ => by
  refine ⟨io, F, P, L, r, ?_⟩
  unfold eTupRg at h
  cases e : m L with
  | no => rw [e] at h; exact h
  | ex x L1 => rw [e] at h; exact h
  | ok o L1 =>
    rw [e] at h; dsimp only at h
    intro P' H' u r'
    by_cases hc : rgOk o.1 o.2 = true
    · rw [if_pos hc] at h
      refine ⟨rgOk_of hc, fun p np => ?_⟩
      have gr := r'.grow_new (o := .tup (rgV o.1 o.2)) np
      exact h _ _ _ (u.trans gr.p) (r'.nxt gr.nxt) (.tup (.inl (.inl upd_same)) (rg_vals _ _))
    · rw [if_neg hc] at h; exact h.elim
end
end L2.Z

/-! part Z10 -/
set_option Elab.async false
set_option linter.all false
set_option maxRecDepth 100000
set_option maxHeartbeats 4000000
namespace L2.Z
open PySem PySem.Spec PyProof.Rows

/-! ### several targets at once -/
inductive SvOks (K : PySem.W.Frag) (g : Nm) (P H : Hp) : Hp → L2.St → Lo → List V → List SV → Prop
  | nil {F : Hp} {σ : L2.St} {L : Lo} : SvOks K g P H F σ L [] []
  | va {F : Hp} {σ : L2.St} {L : Lo} {v : V} {d : D} {vs : List V} {ss : List SV} : Val K g P v d → SvOks K g P H F σ L vs ss → SvOks K g P H F σ L (v :: vs) (.va d :: ss)
  | li {F : Hp} {σ : L2.St} {L : Lo} {a : Addr} {ws : List V} {xs : List D} {vs : List V} {ss : List SV} : H a = some (.lst ws) → P a = none → F a = none → (∀ i, ¬ Own σ H L i a) → ValL K g P ws xs → SvOks K g P H (upd F a (.lst ws)) σ L vs ss → SvOks K g P H F σ L (.ref a :: vs) (.li xs :: ss)
  | di {F : Hp} {σ : L2.St} {L : Lo} {a : Addr} {o : HO} {kvs : List (D × D)} {vs : List V} {ss : List SV} : H a = some o → P a = none → F a = none → (∀ i, ¬ Own σ H L i a) → DicO K g P o kvs → SvOks K g P H (upd F a o) σ L vs ss → SvOks K g P H F σ L (.ref a :: vs) (.di kvs :: ss)
def tAV (K : PySem.W.Frag) (g : Nm) (W : WX) (m : Lo → R (List SV)) : TA := fun σ H Q => ∃ io F P L, Rep K g io F P σ H L ∧ match m L with
  | .ok ss L' => ∀ P' H' vs, Up P P' → Rep K g io F P' σ H' L' → SvOks K g P' H' F σ L' vs ss → Q vs H'
  | .ex x L' => XPost K g W io F P σ x L'
  | .no => False
def vNil : Lo → R (List SV) := fun L => .ok [] L
def vCons (m : Lo → R RV) (ms : Lo → R (List SV)) : Lo → R (List SV) := fun L => match m L with
  | .ok rv L1 => match frz rv L1 with
    | some (d, L2) => match ms L2 with
      | .ok ss L3 => .ok (.va d :: ss) L3
      | .ex x L3 => .ex x L3
      | .no => .no
    | none => .no
  | .ex x L1 => .ex x L1
  | .no => .no
def vConsF (m : Lo → R (List D)) (ms : Lo → R (List SV)) : Lo → R (List SV) := fun L => match m L with
  | .ok xs L1 => match ms L1 with
    | .ok ss L2 => .ok (.li xs :: ss) L2
    | .ex x L2 => .ex x L2
    | .no => .no
  | .ex x L1 => .ex x L1
  | .no => .no
section
variable {X : Cx} {g : Nm} {W : WX}
theorem mv_nil : PA X [] (tAV X.K g W vNil) := pa_nil.weak fun σ H Q ⟨io, F, P, L, r, h⟩ => h P H [] (.refl P) r .nil
theorem mv_cons {e : Expr} {es : List Expr} {m : Lo → R RV} {ms : Lo → R (List SV)} (ha : PE X e (tE X.K g W m)) (hr : PA X es (tAV X.K g W ms)) (hs : starEach (e :: es) X.env = (false, eval e X.env) :: starEach es X.env := by rfl) : PA X (e :: es) (tAV X.K g W (vCons m ms)) :=
  (pa_cons ha hr hs).weak fun σ H Q ⟨io, F, P, L, r, h⟩ => by
    refine ⟨io, F, P, L, r, ?_⟩
    unfold vCons at h
    cases e : m L with
    | no => rw [e] at h; exact h
    | ex x L1 => rw [e] at h; exact h
    | ok rv L1 =>
      rw [e] at h; dsimp only at h
      intro P1 H1 v u1 r1 hv
      cases e1 : frz rv L1 with
      | none => rw [e1] at h; exact h.elim
      | some q =>
        obtain ⟨d, L2⟩ := q
        rw [e1] at h; dsimp only at h
        obtain ⟨P2, u2, r2, v2⟩ := r1.frz hv e1
        refine ⟨io, F, P2, L2, r2, ?_⟩
        cases e2 : ms L2 with
        | no => rw [e2] at h; exact h
        | ex x L3 => rw [e2] at h; exact XPost.up (u1.trans u2) h
        | ok ss L3 => rw [e2] at h; exact fun P3 H3 vs u3 r3 hvs => h P3 H3 (v :: vs) ((u1.trans u2).trans u3) r3 (.va (v2.up u3) hvs)
theorem mv_consF {e : Expr} {es : List Expr} {m : Lo → R (List D)} {ms : Lo → R (List SV)} (ha : PE X e (tF X.K g W m)) (hr : PA X es (tAV X.K g W ms)) (hs : starEach (e :: es) X.env = (false, eval e X.env) :: starEach es X.env := by rfl) : PA X (e :: es) (tAV X.K g W (vConsF m ms)) :=
  (pa_cons ha hr hs).weak fun σ H Q ⟨io, F, P, L, r, h⟩ => by
    refine ⟨io, F, P, L, r, ?_⟩
    unfold vConsF at h
    cases e : m L with
    | no => rw [e] at h; exact h
    | ex x L1 => rw [e] at h; exact h
    | ok xs L1 =>
      rw [e] at h; dsimp only at h
      intro P1 H1 a ws u1 r1 h1 h2 h3 h4 h5
      have rf := r1.frame h1 h2 (fun z => z) h4
      refine ⟨io, _, P1, L1, rf, ?_⟩
      cases e2 : ms L1 with
      | no => rw [e2] at h; exact h
      | ex x L3 => rw [e2] at h; exact fun P' H' c dd u r' ev => h P' H' c dd (u1.trans u) (r'.less (up_new h3)) ev
      | ok ss L3 =>
        rw [e2] at h
        exact fun P3 H3 vs u3 r3 hvs => h P3 H3 (.ref a :: vs) (u1.trans u3) (r3.less (up_new h3)) (.li (r3.fh a _ upd_same) (r3.fp a _ upd_same).1 h3 (r3.noOwn (upd_same (a := a))) (h5.up u3) hvs)
/-- the slots are given what came -/
def putMany : List Nat → List SV → Lo → Option Lo
  | [], [], L => some L
  | i :: is, s :: ss, L => match L[i]? with
    | some s0 => if isIo s0 then none else putMany is ss (L.set i s)
    | none => none
  | _, _, _ => none
def setMany : List Nat → List V → L2.St → L2.St
  | i :: is, v :: vs, σ => setMany is vs (σ.set i (some v))
  | _, _, σ => σ
theorem SvOks.mv {K : PySem.W.Frag} {P H F : Hp} {σ σ' : L2.St} {L L' : Lo} {vs : List V} {ss : List SV} (h : SvOks K g P H F σ L vs ss) : (∀ i a, F a = none → Own σ' H L' i a → Own σ H L i a) → SvOks K g P H F σ' L' vs ss := by
  induction h with
  | nil => exact fun _ => .nil
  | va a b ih => exact fun no => .va a (ih no)
  | @li F σ L a ws xs vs ss a1 a2 a3 a4 a5 a6 ih =>
    intro no
    refine .li a1 a2 a3 (fun i o => a4 i (no i _ a3 o)) a5 (ih fun i b hb o => ?_)
    by_cases hba : b = a
    · subst hba; rw [upd_same] at hb; cases hb
    · rw [upd_ne hba] at hb; exact no i b hb o
  | @di F σ L a o kvs vs ss a1 a2 a3 a4 a5 a6 ih =>
    intro no
    refine .di a1 a2 a3 (fun i o => a4 i (no i _ a3 o)) a5 (ih fun i b hb o => ?_)
    by_cases hba : b = a
    · subst hba; rw [upd_same] at hb; cases hb
    · rw [upd_ne hba] at hb; exact no i b hb o
theorem SvOks.moreF {K : PySem.W.Frag} {P H F : Hp} {σ : L2.St} {L : Lo} {vs : List V} {ss : List SV} (h : SvOks K g P H F σ L vs ss) : ∀ {F' : Hp}, Up F' F → SvOks K g P H F' σ L vs ss := by
  have nf : ∀ {F F' : Hp} {b : Addr}, Up F' F → F b = none → F' b = none := fun {F F' b} u n => by
    cases q : F' b with
    | none => rfl
    | some o => rw [u b o q] at n; cases n
  induction h with
  | nil => exact fun _ => .nil
  | va a b ih => exact fun u => .va a (ih u)
  | @li F σ L a ws xs vs ss a1 a2 a3 a4 a5 a6 ih =>
    intro F' u
    refine .li a1 a2 (nf u a3) a4 a5 (ih fun b o q => ?_)
    by_cases hba : b = a
    · subst hba; rw [upd_same] at q ⊢; exact q
    · rw [upd_ne hba] at q ⊢; exact u b o q
  | @di F σ L a o kvs vs ss a1 a2 a3 a4 a5 a6 ih =>
    intro F' u
    refine .di a1 a2 (nf u a3) a4 a5 (ih fun b o q => ?_)
    by_cases hba : b = a
    · subst hba; rw [upd_same] at q ⊢; exact q
    · rw [upd_ne hba] at q ⊢; exact u b o q
theorem Rep.many {K : PySem.W.Frag} {io : Option Addr} {F P H : Hp} : ∀ {is : List Nat} {vs : List V} {ss : List SV} {G : Hp} {σ : L2.St} {L L' : Lo}, Rep K g io F P σ H L → SvOks K g P H G σ L vs ss → Up F G → putMany is ss L = some L' → Rep K g io F P (setMany is vs σ) H L'
  | [], [], [], G, σ, L, L', r, _, _, e => by cases e; exact r
  | i :: is, v :: vs, s :: ss, G, σ, L, L', r, h, u, e => by
    have nf : ∀ {b : Addr}, G b = none → F b = none := fun {b} n => by
      cases q : F b with
      | none => rfl
      | some o => rw [u b o q] at n; cases n
    unfold putMany at e
    cases e0 : L[i]? with
    | none => rw [e0] at e; cases e
    | some s0 =>
      rw [e0] at e; dsimp only at e
      cases e1 : isIo s0 with
      | true => rw [e1] at e; cases e
      | false =>
        rw [e1, if_neg (by decide)] at e
        have hl := (List.getElem?_eq_some_iff.mp e0).1
        have keep : ∀ {w : V} {t : SV} (k : Nat) (b : Addr), Own (σ.set i (some w)) H (L.set i t) k b → (k = i ∧ ∃ c, w = .ref c ∧ ownA H t c b) ∨ Own σ H L k b := fun {w t} k b ⟨y, c, z2, z1, z3⟩ => by
          by_cases hk : i = k
          · subst hk
            rw [List.getElem?_set_self (r.lt e0)] at z1
            rw [List.getElem?_set_self hl] at z2
            cases z1; cases z2
            exact .inl ⟨rfl, c, rfl, z3⟩
          · rw [List.getElem?_set_ne hk] at z1 z2
            exact .inr ⟨y, c, z2, z1, z3⟩
        cases h with
        | va hv hr =>
          exact (r.setVa e0 (isIo_ne e1) hv).many (hr.mv fun k b _ o => (keep k b o).elim (fun ⟨_, _, _, z⟩ => nomatch z.1) id) u e
        | @li _ _ _ a ws xs _ _ a1 a2 a3 a4 a5 a6 =>
          refine (r.set (s := .li xs) (v := .ref a) e0 (isIo_ne e1) (fun _ z => nomatch z) ⟨a, ws, rfl, a1, a2, nf a3, a5⟩ (fun c b z w j q => by
            cases z
            rcases w.2 with rfl | ⟨_, _, z, _⟩
            · exact a4 j q
            · cases z)).many (G := upd G a (.lst ws)) (a6.mv fun k b hb o => ?_) (u.trans (up_new a3)) e
          rcases keep k b o with z | z
          · obtain ⟨_, c, z, w⟩ := z
            cases z
            rcases w.2 with rfl | ⟨_, _, z, _⟩
            · rw [upd_same] at hb; cases hb
            · cases z
          · exact z
        | @di _ _ _ a oo kvs _ _ a1 a2 a3 a4 a5 a6 =>
          refine (r.set (s := .di kvs) (v := .ref a) e0 (isIo_ne e1) (fun _ z => nomatch z) ⟨a, oo, rfl, a1, a2, nf a3, a5⟩ (fun c b z w j q => by
            cases z
            rcases w.2 with rfl | ⟨_, _, z, _⟩
            · exact a4 j q
            · cases z)).many (G := upd G a oo) (a6.mv fun k b hb o => ?_) (u.trans (up_new a3)) e
          rcases keep k b o with z | z
          · obtain ⟨_, c, z, w⟩ := z
            cases z
            rcases w.2 with rfl | ⟨_, _, z, _⟩
            · rw [upd_same] at hb; cases hb
            · cases z
          · exact z
  | [], _ :: _, _ :: _, _, _, _, _, _, _, _, e => by cases e
  | [], [], _ :: _, _, _, _, _, _, h, _, _ => by cases h
  | [], _ :: _, [], _, _, _, _, _, h, _, _ => by cases h
  | _ :: _, [], _ :: _, _, _, _, _, _, h, _, _ => by cases h
  | _ :: _, _ :: _, [], _, _, _, _, _, h, _, _ => by cases h
  | _ :: _, [], [], _, _, _, _, _, _, _, e => by cases e
theorem SvOks.length {K : PySem.W.Frag} {P H F : Hp} {σ : L2.St} {L : Lo} {vs : List V} {ss : List SV} (h : SvOks K g P H F σ L vs ss) : vs.length = ss.length := by
  induction h with
  | nil => rfl
  | va _ _ ih => rw [List.length_cons, List.length_cons, ih]
  | li _ _ _ _ _ _ ih => rw [List.length_cons, List.length_cons, ih]
  | di _ _ _ _ _ _ ih => rw [List.length_cons, List.length_cons, ih]
theorem SvOks.heap {K : PySem.W.Frag} {P H H' F : Hp} {σ : L2.St} {L : Lo} {vs : List V} {ss : List SV} (h : SvOks K g P H F σ L vs ss) (u : Up H H') : (∀ i a, Own σ H' L i a → Own σ H L i a) → SvOks K g P H' F σ L vs ss := by
  induction h with
  | nil => exact fun _ => .nil
  | va a _ ih => exact fun b => .va a (ih b)
  | li a1 a2 a3 a4 a5 _ ih => exact fun b => .li (u _ _ a1) a2 a3 (fun i w => a4 i (b _ _ w)) a5 (ih b)
  | di a1 a2 a3 a4 a5 _ ih => exact fun b => .di (u _ _ a1) a2 a3 (fun i w => a4 i (b _ _ w)) a5 (ih b)
theorem putMany_length : ∀ {is : List Nat} {ss : List SV} {L L' : Lo}, putMany is ss L = some L' → is.length = ss.length
  | [], [], _, _, _ => rfl
  | [], _ :: _, _, _, e => by cases e
  | _ :: _, [], _, _, e => by cases e
  | i :: is, s :: ss, L, L', e => by
    unfold putMany at e
    cases e0 : L[i]? with
    | none => rw [e0] at e; cases e
    | some s0 =>
      rw [e0] at e; dsimp only at e
      cases e1 : isIo s0 with
      | true => rw [e1] at e; cases e
      | false =>
        rw [e1, if_neg (by decide)] at e
        rw [List.length_cons, List.length_cons, putMany_length e]
def sPar (is : List Nat) (m : Lo → R (List SV)) : Lo → SR := fun L => match m L with
  | .ok ss L1 => match putMany is ss L1 with
    | some L2 => .nx L2
    | none => .no
  | .ex x L1 => .ex x L1
  | .no => .no
theorem par_w {K : PySem.W.Frag} {is : List Nat} {m : Lo → R (List SV)} (E : Ends) (σ : L2.St) (H : Hp) (h : tS K g W (sPar is m) E σ H) : tAV K g W m σ H fun vs H1 => vs.length = is.length ∧ E.nx (setMany is vs σ) H1 := by
  obtain ⟨io, F, P, L, r, h⟩ := h
  refine ⟨io, F, P, L, r, ?_⟩
  unfold sPar at h
  cases e : m L with
  | no => rw [e] at h; exact h
  | ex x L1 => rw [e] at h; exact fun P' H' c dd u r' e' => h P' σ H' c dd u r' e'
  | ok ss L1 =>
    rw [e] at h; dsimp only at h
    intro P' H' vs u r' hvs
    cases e2 : putMany is ss L1 with
    | none => rw [e2] at h; exact h.elim
    | some La =>
      rw [e2] at h
      exact ⟨hvs.length.trans (putMany_length e2).symm, h P' _ H' u (r'.many hvs (.refl F) e2)⟩
theorem ms_par2 {st : Stmt} {i j : Nat} {m : Lo → R (List SV)} (h : PS X st (tPar i j (tAV X.K g W m))) : PS X st (tS X.K g W (sPar [i, j] m)) := h.weak fun E σ H q => by
  obtain ⟨io, F, P, L, r, q⟩ := par_w E σ H q
  refine ⟨io, F, P, L, r, ?_⟩
  cases e : m L with
  | no => rw [e] at q; exact q
  | ex x L1 => rw [e] at q; exact q
  | ok ss L1 =>
    rw [e] at q
    intro P' H' vs u r' hvs
    obtain ⟨hl, hq⟩ := q P' H' vs u r' hvs
    match vs, hl, hq with
    | [v, w], _, hq => exact ⟨v, w, rfl, hq⟩
theorem ms_par3 {st : Stmt} {i j l : Nat} {m : Lo → R (List SV)} (h : PS X st (tPar3 i j l (tAV X.K g W m))) : PS X st (tS X.K g W (sPar [i, j, l] m)) := h.weak fun E σ H q => by
  obtain ⟨io, F, P, L, r, q⟩ := par_w E σ H q
  refine ⟨io, F, P, L, r, ?_⟩
  cases e : m L with
  | no => rw [e] at q; exact q
  | ex x L1 => rw [e] at q; exact q
  | ok ss L1 =>
    rw [e] at q
    intro P' H' vs u r' hvs
    obtain ⟨hl, hq⟩ := q P' H' vs u r' hvs
    match vs, hl, hq with
    | [v, w, z], _, hq => exact ⟨v, w, z, rfl, hq⟩
/-- the names in the places is, one after another -/
inductive NamesAt : List Nat → TGs → Prop
  | nil : NamesAt [] gNil
  | cons {i : Nat} {is : List Nat} {t : TGs} : NamesAt is t → NamesAt (i :: is) (gCons (gName i) t)
theorem namesAt_of {is : List Nat} {t : TGs} (h : NamesAt is t) : ∀ {vs : List V} {σ : L2.St} {H : Hp} {Q : L2.St → Hp → Prop}, vs.length = is.length → Q (setMany is vs σ) H → t vs σ H Q := by
  induction h with
  | nil =>
    intro vs σ H Q hl q
    cases vs with
    | nil => exact ⟨rfl, q⟩
    | cons _ _ => cases hl
  | cons _ ih =>
    intro vs σ H Q hl q
    cases vs with
    | nil => cases hl
    | cons v vs => exact ⟨v, vs, rfl, ih (by simpa using hl) q⟩
/-- by way of a tuple -/
theorem ms_parT {st : Stmt} {is : List Nat} {n : Nat} {t : TGs} {m : Lo → R (List SV)} (h : PS X st (tAsg (tTup (tAV X.K g W m)) (gTup X.K n t))) (hn : n = is.length) (ht : NamesAt is t) (hs : decide (is.length ≤ 1000) = true := by rfl) : PS X st (tS X.K g W (sPar is m)) := h.weak fun E σ H q => by
  obtain ⟨io, F, P, L, r, q⟩ := q
  refine ⟨io, F, P, L, r, ?_⟩
  unfold sPar at q
  cases e : m L with
  | no => rw [e] at q; exact q
  | ex x L1 => rw [e] at q; exact fun P' H' c dd u r' e' => q P' σ H' c dd u r' e'
  | ok ss L1 =>
    rw [e] at q; dsimp only at q
    intro P' H' vs u r' hvs
    cases e2 : putMany is ss L1 with
    | none => rw [e2] at q; exact q.elim
    | some La =>
      rw [e2] at q
      have hl : vs.length = is.length := hvs.length.trans (putMany_length e2).symm
      refine ⟨by rw [hl]; exact line_le (Nat.le_trans (of_decide_eq_true hs) (by decide)), fun p np => ⟨p, vs, rfl, .inl (.inl upd_same), by rw [hl, hn], namesAt_of ht hl ?_⟩⟩
      obtain ⟨r2, _, _, _⟩ := r'.new0 (o := .tup vs) np
      exact q P' _ _ u (r2.many (hvs.heap (up_new np) fun i a w => w.eq fun c wc => by
        obtain ⟨o, e1, _⟩ := r'.own wc
        rw [upd_ne (ne_of_none e1 np)]) (.refl F) e2)
end
end L2.Z

/-! part Z11 -/
set_option Elab.async false
set_option linter.all false
set_option maxRecDepth 100000
set_option maxHeartbeats 8000000
namespace L2.Z
open PySem PySem.Spec PyProof.Rows

/-- the new set, empty -/
abbrev newSet (w : World) : Obj := { cls := .type "set", dict := none, data := .set #[] 0 (.fresh 0 0 (!w.params.followText "set-order")) }
section
variable {Pg : Program} {w : World} {A : Around} {E : Value → Shared → Prop} {s : Shared}
/-- set(l), l a list of ints -/
theorem set_listI {l : Addr} {its : Array Value} (ns : List Int) {Q : Value → Shared → Prop} (calm : A.handled = none) (here : s.heap.IsList l its) (are : IntsAre its.toList ns) (few : ns.length + 1 < scanBound)
    (fin : ∀ (h1 : Heap) (tk c : Nat), SetR w h1 s.heap.objs.size (fun j => decide (j ∈ ns)) c → c ≤ ns.length → (∀ b o, s.heap.get? b = some o → h1.get? b = some o) → Q (.ref s.heap.objs.size) { s with heap := h1, toks := tk }) :
    wpAny (model Pg w) A (call (.type "set") [.ref l]) Q E s := by
  obtain ⟨c0, rest0, mro0⟩ := F.called_set.mro
  have made0 := F.called_set.made
  have sub0 := F.called_set.sub
  have nt0 := F.called_set.notType
  have cc0 := F.called_set.canCreate
  have tc0 := F.typeCall_set_1 (.ref l)
  have size0 : its.size = ns.length := by have q := IntsAre.length are; rwa [Array.length_toList] at q
  refine wpAny_call (codeAny_of_tree ?_)
  show wpAny _ _ (callAny (.type "set") _) _ _ _
  refine wpAny_pure ⟨Code.quiet_builtin _ (by decide +kernel), codeAny_builtin F.entry_type_call ?_⟩
  rw [Around.under_plain (weight_type_call_type "set" [.ref l] []) rfl]
  repeat (any_goals (first | assumption | wp_step))
  refine codeAny_mono (code_set_led1 (.ref l) (E := E) (Q₁ := fun x s1 => x = .ref s.heap.objs.size ∧ s1 = { s with heap := s.heap.push (newSet w) }) ⟨rfl, rfl⟩) fun r s1 q1 => ?_
  cases r with
  | error e => exact q1
  | ok f1 =>
    cases f1 with
    | next => exact q1.elim
    | brk => exact q1.elim
    | cont => exact q1.elim
    | ret x =>
      obtain ⟨ex, es⟩ := q1
      subst ex es
      have at0 : (s.heap.push (newSet w)).get? s.heap.objs.size = some (newSet w) := Heap.get?_push_size _ rfl
      have ty0 : Shared.TypeIs { s with heap := s.heap.push (newSet w) } (.ref s.heap.objs.size) "set" := ⟨_, at0, rfl⟩
      have il0 := F.called_set.init.lookup
      have ib0 := F.called_set.init.bind (.ref s.heap.objs.size)
      repeat (any_goals (first | assumption | wp_step))
      let good : Value → Shared → Prop := fun r s2 => r = .none ∧ ∃ h1 tk c, s2 = { s with heap := h1, toks := tk } ∧ SetR w h1 s.heap.objs.size (fun j => decide (j ∈ ns)) c ∧ c ≤ ns.length ∧ ∀ b o, s.heap.get? b = some o → h1.get? b = some o
      refine codeAny_mono (codeAny_call_builtin (R := wants good E) F.called_set.init.plain F.entry_set_init (check_set_init_1 ty0 ?_)) fun r2 s2 q2 => ?_
      · obtain ⟨⟨cl, di, da, sl⟩, here1, hcl, nn, hda⟩ := here
        simp only at hcl hda
        subst hcl hda
        have lt0 : l < s.heap.objs.size := Heap.lt_size here1
        have here2 : (s.heap.push (newSet w)).get? l = some { cls := .type "list", dict := di, data := .seq its nn, slots := sl } := Heap.get?_push_of_some _ here1
        have isl : (s.heap.push (newSet w)).IsList l its := ⟨_, here2, rfl, nn, rfl⟩
        have s1 := F.sub_list_set
        have s2 := F.sub_list_frozenset
        have nd : (Value.type "list" == Value.type "dict") = false := by decide
        unfold Builtin.«set.__init__» noKeywords Builtin.Frozenset.updateFrom
        generalize keep : pyIter = it0
        wp_walk
        subst keep
        have size1 : (s.heap.push (newSet w)).objs.size = s.heap.objs.size + 1 := Heap.size_push ..
        have calm3 : A.in1.in1.in1.handled = none := by simp [calm]
        refine wpAny_pyIter_list isl (wpAny_bind (wpAny_runValue ?_))
        have vals : ∀ (i : Nat) (v : Value), its[i]? = some v → ∃ k t, ns[i]? = some k ∧ v = .int k t := fun i v hv => by
          have lt : i < ns.length := size0 ▸ (Array.getElem?_eq_some_iff.mp hv).1
          obtain ⟨t, e⟩ := IntsAre.int_at are i v (by rw [Array.getElem?_toList]; exact hv)
          rw [List.getD_eq_getElem?_getD, List.getElem?_eq_getElem lt] at e
          exact ⟨ns[i], t, List.getElem?_eq_getElem lt, e⟩
        have apart : s.heap.objs.size ∉ [(s.heap.push (newSet w)).objs.size, l] := by
          rw [size1]
          simp only [List.mem_cons, List.not_mem_nil, or_false, not_or]
          exact ⟨Nat.ne_of_lt (Nat.lt_succ_self _), Nat.ne_of_gt lt0⟩
        have nel : l ≠ (s.heap.push (newSet w)).objs.size := by rw [size1]; exact Nat.ne_of_lt (Nat.lt_succ_of_lt lt0)
        refine set_update_ints ((Walks.list calm3 _ l nel its).toS) s.heap.objs.size apart ns size0 few vals (its.size - 0) 0 _ (by omega) (Nat.zero_le _) ⟨⟨_, Heap.get?_push_size _ rfl, rfl, rfl⟩, isl.push _⟩ ⟨0, Nat.le_refl 0, setR_new_at (Heap.get?_push_of_some _ at0)⟩ ?_
        intro s3 c hm hc hS
        obtain ⟨h1, g1, d1, t1, o1⟩ := s3
        obtain rfl : g1 = s.gens := hm.gens
        obtain rfl : d1 = s.drawn := hm.drawn
        obtain rfl : o1 = s.os := hm.os
        show wpAny _ _ _ _ _ _
        refine wpAny_pure ?_
        show wpAny _ _ (ret Value.none) _ _ _
        refine wpAny_pure ⟨rfl, h1, t1, c, rfl, hS, size0 ▸ hc, fun b o e => hm.heap b o ?_ (Heap.get?_push_of_some _ (Heap.get?_push_of_some _ e))⟩
        have lb : b < s.heap.objs.size := Heap.lt_size e
        rw [size1]
        simp only [List.mem_cons, List.not_mem_nil, or_false, not_or]
        exact ⟨Nat.ne_of_lt lb, Nat.ne_of_lt (Nat.lt_succ_of_lt lb)⟩
      · cases r2 with
        | error e => exact q2
        | ok f2 =>
          cases f2 with
          | next => exact q2.elim
          | brk => exact q2.elim
          | cont => exact q2.elim
          | ret r =>
            obtain ⟨rfl, h1, tk, c, rfl, hS, hc, hk⟩ := q2
            repeat (any_goals (first | assumption | wp_step))
            exact fin _ _ _ hS hc hk
end
end L2.Z

/-! part Z12 -/
set_option Elab.async false
set_option linter.all false
set_option maxRecDepth 100000
set_option maxHeartbeats 4000000
namespace L2.Z
open PySem PySem.Spec PyProof.Rows

/-! ### ints in order -/
def insI (k : Int) : List Int → List Int
  | [] => [k]
  | x :: xs => if k ≤ x then k :: x :: xs else x :: insI k xs
def sortI : List Int → List Int
  | [] => []
  | k :: ks => insI k (sortI ks)
def insS (k : Int) : List Int → List Int
  | [] => [k]
  | x :: xs => if k < x then k :: x :: xs else if k = x then x :: xs else x :: insS k xs
def setI : List Int → List Int
  | [] => []
  | k :: ks => insS k (setI ks)
theorem mem_insI {k j : Int} : ∀ {l : List Int}, j ∈ insI k l ↔ j = k ∨ j ∈ l
  | [] => by simp [insI]
  | x :: xs => by
    unfold insI
    split
    · simp
    · rw [List.mem_cons, mem_insI, List.mem_cons]
      constructor <;> (intro h; rcases h with h | h | h <;> simp [h])
theorem perm_insI (k : Int) : ∀ (l : List Int), (insI k l).Perm (k :: l)
  | [] => .refl _
  | x :: xs => by
    unfold insI
    split
    · exact .refl _
    · exact ((perm_insI k xs).cons x).trans (.swap k x xs)
theorem perm_sortI : ∀ (l : List Int), (sortI l).Perm l
  | [] => .refl _
  | k :: ks => (perm_insI k _).trans ((perm_sortI ks).cons k)
theorem pw_insI (k : Int) : ∀ {l : List Int}, l.Pairwise (· ≤ ·) → (insI k l).Pairwise (· ≤ ·)
  | [], _ => by unfold insI; exact List.pairwise_singleton _ _
  | x :: xs, h => by
    unfold insI
    rw [List.pairwise_cons] at h
    split
    · next hk =>
      refine List.pairwise_cons.mpr ⟨fun y hy => ?_, List.pairwise_cons.mpr h⟩
      rcases List.mem_cons.mp hy with rfl | hy
      · exact hk
      · exact Int.le_trans hk (h.1 y hy)
    · next hk =>
      refine List.pairwise_cons.mpr ⟨fun y hy => ?_, pw_insI k h.2⟩
      rcases mem_insI.mp hy with rfl | hy
      · omega
      · exact h.1 y hy
theorem pw_sortI : ∀ (l : List Int), (sortI l).Pairwise (· ≤ ·)
  | [] => .nil
  | k :: ks => pw_insI k (pw_sortI ks)
theorem sorted_unique : ∀ {l m : List Int}, l.Pairwise (· ≤ ·) → m.Pairwise (· ≤ ·) → l.Perm m → l = m
  | [], m, _, _, p => (List.nil_perm.mp p).symm ▸ rfl
  | x :: xs, [], _, _, p => absurd p.length_eq (by simp)
  | x :: xs, y :: ys, h1, h2, p => by
    have e : x = y := by
      rw [List.pairwise_cons] at h1 h2
      have hx : x ∈ y :: ys := p.mem_iff.mp List.mem_cons_self
      have hy : y ∈ x :: xs := p.mem_iff.mpr List.mem_cons_self
      rcases List.mem_cons.mp hx with z | z
      · exact z
      · rcases List.mem_cons.mp hy with w | w
        · exact w.symm
        · have := h1.1 y w; have := h2.1 x z; omega
    subst e
    rw [sorted_unique (List.pairwise_cons.mp h1).2 (List.pairwise_cons.mp h2).2 (List.perm_cons x |>.mp p)]
theorem sortI_of {l m : List Int} (p : l.Perm m) (h : l.Pairwise (· ≤ ·)) : l = sortI m := sorted_unique h (pw_sortI m) (p.trans (perm_sortI m).symm)
theorem mem_insS {k j : Int} : ∀ {l : List Int}, j ∈ insS k l ↔ j = k ∨ j ∈ l
  | [] => by simp [insS]
  | x :: xs => by
    unfold insS
    split
    · simp
    · split
      · next h => subst h; simp
      · rw [List.mem_cons, mem_insS, List.mem_cons]
        constructor <;> (intro h; rcases h with h | h | h <;> simp [h])
theorem mem_setI {j : Int} : ∀ {l : List Int}, j ∈ setI l ↔ j ∈ l
  | [] => Iff.rfl
  | k :: ks => by unfold setI; rw [mem_insS, mem_setI, List.mem_cons]
theorem pw_insS (k : Int) : ∀ {l : List Int}, l.Pairwise (· < ·) → (insS k l).Pairwise (· < ·)
  | [], _ => by unfold insS; exact List.pairwise_singleton _ _
  | x :: xs, h => by
    unfold insS
    have h' := List.pairwise_cons.mp h
    split
    · next hk =>
      refine List.pairwise_cons.mpr ⟨fun y hy => ?_, h⟩
      rcases List.mem_cons.mp hy with rfl | hy
      · exact hk
      · exact Int.lt_trans hk (h'.1 y hy)
    · split
      · exact h
      · refine List.pairwise_cons.mpr ⟨fun y hy => ?_, pw_insS k h'.2⟩
        rcases mem_insS.mp hy with rfl | hy
        · omega
        · exact h'.1 y hy
theorem pw_setI : ∀ (l : List Int), (setI l).Pairwise (· < ·)
  | [] => .nil
  | k :: ks => pw_insS k (pw_setI ks)
theorem strict_unique : ∀ {l m : List Int}, l.Pairwise (· < ·) → m.Pairwise (· < ·) → (∀ j, j ∈ l ↔ j ∈ m) → l = m
  | [], [], _, _, _ => rfl
  | [], y :: ys, _, _, h => absurd ((h y).mpr List.mem_cons_self) (by simp)
  | x :: xs, [], _, _, h => absurd ((h x).mp List.mem_cons_self) (by simp)
  | x :: xs, y :: ys, h1, h2, h => by
    have p1 := List.pairwise_cons.mp h1
    have p2 := List.pairwise_cons.mp h2
    have e : x = y := by
      rcases List.mem_cons.mp ((h x).mp List.mem_cons_self) with z | z
      · exact z
      · rcases List.mem_cons.mp ((h y).mpr List.mem_cons_self) with w | w
        · exact w.symm
        · have := p1.1 y w; have := p2.1 x z; omega
    subst e
    rw [strict_unique p1.2 p2.2 fun j => ?_]
    have hj := h j
    rw [List.mem_cons, List.mem_cons] at hj
    constructor
    · intro m
      rcases hj.mp (.inr m) with z | z
      · subst z; have := p1.1 _ m; omega
      · exact z
    · intro m
      rcases hj.mpr (.inr m) with z | z
      · subst z; have := p2.1 _ m; omega
      · exact z
theorem setI_of {l m : List Int} (h : l.Pairwise (· < ·)) (e : ∀ j, j ∈ l ↔ j ∈ m) : l = setI m := strict_unique h (pw_setI m) fun j => (e j).trans mem_setI.symm
theorem setI_len (l : List Int) : (setI l).length ≤ l.length := by
  have : ∀ k (m : List Int), (insS k m).length ≤ m.length + 1 := by
    intro k m
    induction m with
    | nil => exact Nat.le_refl _
    | cons x xs ih =>
      unfold insS
      split
      · simp
      · split
        · simp
        · simp only [List.length_cons]; omega
  induction l with
  | nil => exact Nat.le_refl _
  | cons k ks ih => unfold setI; rw [List.length_cons]; exact Nat.le_trans (this k _) (by omega)

/-! ### sorted of a list of ints -/
section
variable {K : PySem.W.Frag} {g : Nm}
def sortF : List D → Option (List D)
  | [.lst xs] => match intsOf xs with
    | some ns => some ((sortI ns).map D.int)
    | none => none
  | _ => none
theorem of_sort : OpFN K g (rSortedI K) sortF := by
  intro P H vs ds d Q u hv e q
  match ds, e with
  | [.lst xs], e =>
    replace e : (match intsOf xs with | some ns => some ((sortI ns).map D.int) | none => none) = some d := e
    cases e1 : intsOf xs with
    | none => rw [e1] at e; cases e
    | some ns =>
      rw [e1] at e; cases e
      obtain ⟨v, rfl, hw⟩ := hv.one
      obtain ⟨a, ws, rfl, s, r⟩ := hw.lst u
      rw [intsOf_eq e1] at r
      have := r.ints; subst this
      refine ⟨a, ns, rfl, SqL.of s, fun ns' p pm pw np => ?_⟩
      rw [sortI_of pm pw]
      exact q P H p _ (.refl u) np (ValL.of_ints _)
end

/-! ### sets of ints -/
/-- a new set of the ints ns -/
def tZ (w : World) (K : PySem.W.Frag) (g : Nm) (W : WX) (m : Lo → R (List Int)) : TE := fun σ H Q => ∃ io F P L, Rep K g io F P σ H L ∧ match m L with
  | .ok ns L' => ∀ P' H' a S n, Up P P' → Rep K g io F P' σ H' L' → H' a = some (SetO w a S n) → P' a = none → (∀ k, S k = true ↔ k ∈ ns) → n ≤ ns.length → Q (.ref a) H'
  | .ex x L' => XPost K g W io F P σ x L'
  | .no => False
def rSetI (K : PySem.W.Frag) (w : World) : List V → Hp → VK → Prop := fun vs H Q => ∃ (a : Addr) (ns : List Int), vs = [V.ref a] ∧ (SqL K H a (ns.map V.int) ∨ SqT K H a (ns.map V.int)) ∧ ns.length + 1 < scanBound ∧
  ∀ (p : Addr) (n : Nat), n ≤ ns.length → H p = none → Q (.ref p) (upd H p (SetO w p (fun j => decide (j ∈ ns)) n))
theorem cr_setI {X : Cx} (hc : X.calm = true) : CallR X (.type "set") (rSetI X.K X.w) := by
  intro pins s σ H vs us Q I r h
  obtain ⟨a, ns, rfl, hs, hb, q⟩ := h
  rw [Vals.ref1 r]
  rcases hs with hs | hs
  · obtain ⟨its, rv, hl, hz⟩ := I.list hs
    refine set_listI ns (I.ok.hd hc) hl.isList (by simpa using intsAre_of rv) hb fun h1 tk c R hcn k => ?_
    exact ⟨.ref _, upd H s.heap.objs.size (SetO X.w s.heap.objs.size (fun j => decide (j ∈ ns)) c), I.laid (t' := tk) k (Nat.le_refl _) (setO_new R), rfl, q _ c hcn (I.hok.fresh (Nat.le_refl _))⟩
  · obtain ⟨its, rv, hl, hz⟩ := I.tuple hs
    refine call_set_tupI ns (I.ok.hd hc) (show s.heap.IsTuple a its.toArray from hl) (by simpa using intsAre_of rv) hb fun h1 tk c R hcn k => ?_
    exact ⟨.ref _, upd H s.heap.objs.size (SetO X.w s.heap.objs.size (fun j => decide (j ∈ ns)) c), I.laid (t' := tk) k (Nat.le_refl _) (setO_new R), rfl, q _ c hcn (I.hok.fresh (Nat.le_refl _))⟩
def itsD : D → Option (List D)
  | .lst xs => some xs
  | .tup xs => some xs
  | _ => none
/-- set(x) of ints, fewer than 4000 -/
def zSet (m : Lo → R (List RV)) : Lo → R (List Int) := fun L => match m L with
  | .ok rs L1 => match getL L1 rs with
    | some [d] => match itsD d with
      | some xs => match intsOf xs with
        | some ns => if ns.length ≤ 4000 then .ok ns L1 else .no
        | none => .no
      | none => .no
    | _ => .no
  | .ex x L1 => .ex x L1
  | .no => .no
section
variable {X : Cx} {g : Nm} {W : WX}
theorem mz_set {e : Expr} {m : Lo → R (List RV)} (h : PE X e (tCB (rSetI X.K X.w) (tA X.K g W m))) : PE X e (tZ X.w X.K g W (zSet m)) := h.weak fun σ H Q ⟨io, F, P, L, r, h⟩ => by
  refine ⟨io, F, P, L, r, ?_⟩
  unfold zSet at h
  cases e : m L with
  | no => rw [e] at h; exact h
  | ex x L1 => rw [e] at h; exact h
  | ok rs L1 =>
    rw [e] at h; dsimp only at h
    intro P' H' vs u r' hv
    cases e1 : getL L1 rs with
    | none => rw [e1] at h; exact h.elim
    | some ds =>
      rw [e1] at h
      match ds, e1, h with
      | [d], e1, h =>
        dsimp only at h
        cases e2 : itsD d with
        | none => rw [e2] at h; exact h.elim
        | some xs =>
          rw [e2] at h; dsimp only at h
          cases e3 : intsOf xs with
          | none => rw [e3] at h; exact h.elim
          | some ns =>
            rw [e3] at h; dsimp only at h
            by_cases hl : ns.length ≤ 4000
            · rw [if_pos hl] at h
              obtain ⟨v, rfl, hw⟩ := (r'.vwL hv e1).one
              have sq : ∃ a, v = .ref a ∧ (SqL X.K H' a (ns.map V.int) ∨ SqT X.K H' a (ns.map V.int)) := by
                cases d <;> try (cases e2; done)
                · cases e2
                  obtain ⟨a, ws, rfl, s, q⟩ := hw.tup r'.ph
                  rw [intsOf_eq e3] at q
                  have := q.ints; subst this
                  exact ⟨a, rfl, .inr s⟩
                · cases e2
                  obtain ⟨a, ws, rfl, s, q⟩ := hw.lst r'.ph
                  rw [intsOf_eq e3] at q
                  have := q.ints; subst this
                  exact ⟨a, rfl, .inl (SqL.of s)⟩
              obtain ⟨a, rfl, sq⟩ := sq
              refine ⟨a, ns, rfl, sq, by unfold scanBound; omega, fun p n hn np => ?_⟩
              obtain ⟨r3, n1, n2, n3⟩ := r'.new0 (o := SetO X.w p (fun j => decide (j ∈ ns)) n) np
              exact h P' _ p _ n u r3 upd_same n1 (fun k => by simp) hn
            · rw [if_neg hl] at h; exact h.elim
def fSortZ (m : Lo → R (List Int)) : Lo → R (List D) := fun L => match m L with
  | .ok ns L1 => if ns.length < 64 then .ok ((setI ns).map D.int) L1 else .no
  | .ex x L1 => .ex x L1
  | .no => .no
theorem mf_sortZ {e : Expr} {m : Lo → R (List Int)} (h : PE X e (tCB (rSortedSet X.w) (tCons (tZ X.w X.K g W m) tNil))) : PE X e (tF X.K g W (fSortZ m)) := h.weak fun σ H Q ⟨io, F, P, L, r, h⟩ => by
  refine ⟨io, F, P, L, r, ?_⟩
  unfold fSortZ at h
  cases e : m L with
  | no => rw [e] at h; exact h
  | ex x L1 => rw [e] at h; exact h
  | ok ns L1 =>
    rw [e] at h; dsimp only at h
    intro P' H' a S n u r' ha hp hS hn
    by_cases hl : ns.length < 64
    · rw [if_pos hl] at h
      refine ⟨a, S, n, rfl, ha, by omega, fun ms p pw mem len np => ?_⟩
      rw [setI_of pw (fun j => (mem j).trans (hS j))]
      obtain ⟨r3, n1, n2, n3⟩ := r'.new0 (o := .lst ((setI ns).map V.int)) np
      exact h P' _ p _ u r3 upd_same n1 n2 n3 (ValL.of_ints _)
    · rw [if_neg hl] at h; exact h.elim
end
end L2.Z

/-! part Z13 -/
set_option Elab.async false
set_option linter.all false
set_option maxRecDepth 100000
set_option maxHeartbeats 4000000
namespace L2.Z
open PySem PySem.Spec PyProof.Rows

/-- an own exception class over ValueError, without an __init__ of its own -/
structure ExcK (K : PySem.W.Frag) (mg : Str → Option Value) (x : Str) (C : Addr) : Prop where
  xP : PySem.W.excIn K C [.type "ValueError", .type "Exception", .type "BaseException", .type "object"] "ValueError.__new__" = true
  gP : mg x = some (.ref C)
  kP : PySem.W.keepIn K (.ref C) = true
  bP : PySem.W.subIn K (.ref C) (.type "BaseException") = some true
  tP : PySem.W.typeIn K (.ref C) = some (.type "type")
section
variable {X : Cx} {g : Nm} {W : WX}
theorem ms_raiseU {x : Str} {n : Nat} {p pos pos' : Pos} (hc : X.calm = true) (tk : Takes X W) (T : ExcK X.K X.mg x (g.xa n)) (hg : Gl X x) (hdb : (x == ("__debug__" : Str)) = false := by decide) : PS X (.Raise (some (.Call (.Name x p) [] [] pos)) none pos') (tS X.K g W (fun L => .ex ⟨n, none⟩ L)) :=
  ms_raise0 (L2.ps_raise hc tk (pmk_own0 PySem.F.excBase_ValueError T.xP T.gP T.kP (raises_own T.bP T.tP) hg hdb))
theorem me_globI {x : Str} {i : Int} {pos : Pos} (hg : Gl X x) (h : ∃ t, X.mg x = some (.int i t)) (hd : (x == ("__debug__" : Str)) = false := by decide) : PE X (.Name x pos) (tE X.K g W (eC (.int i))) := by
  obtain ⟨t, h⟩ := h
  exact me_const (pe_glob (v := .int i) hg h ⟨t, rfl⟩ hd) fun _ => .int i
theorem me_globS {x : Str} {i : Str} {pos : Pos} (hg : Gl X x) (h : ∃ t, X.mg x = some (.str i t)) (hd : (x == ("__debug__" : Str)) = false := by decide) : PE X (.Name x pos) (tE X.K g W (eC (.str i))) := by
  obtain ⟨t, h⟩ := h
  exact me_const (pe_glob (v := .str i) hg h ⟨t, rfl⟩ hd) fun _ => .str i
/-- a def as a value -/
theorem me_fn {x : Str} {n : Nat} {pos : Pos} (hg : Gl X x) (h : X.mg x = some (.ref (g.fa n))) (hd : (x == ("__debug__" : Str)) = false := by decide) : PE X (.Name x pos) (tE X.K g W (eC (.fn n))) := me_const (pe_glob (v := .ref (g.fa n)) hg h rfl hd) fun _ => .fn n
/-- targets = e -/
def sAsgT (gm : D → Lo → Option Lo) (m : Lo → R RV) : Lo → SR := fun L => match m L with
  | .ok rv L1 => match frz rv L1 with
    | some (d, L2) => match gm d L2 with
      | some L3 => .nx L3
      | none => .no
    | none => .no
  | .ex x L1 => .ex x L1
  | .no => .no
theorem ms_asgT {st : Stmt} {gt : TG} {gm : D → Lo → Option Lo} {vs : List Nat} {m : Lo → R RV} (h : PS X st (tAsg (tE X.K g W m) gt)) (ht : TgOk X.K g gt gm vs) : PS X st (tS X.K g W (sAsgT gm m)) := h.weak fun D σ H ⟨io, F, P, L, r, h⟩ => by
  refine ⟨io, F, P, L, r, ?_⟩
  unfold sAsgT at h
  cases e : m L with
  | no => rw [e] at h; exact h
  | ex x L1 => rw [e] at h; exact fun P' H' c dd u r' e' => h P' σ H' c dd u r' e'
  | ok rv L1 =>
    rw [e] at h; dsimp only at h
    intro P' H' v u r' hv
    cases e2 : frz rv L1 with
    | none => rw [e2] at h; exact h.elim
    | some q =>
      obtain ⟨d, L2⟩ := q
      rw [e2] at h; dsimp only at h
      obtain ⟨P2, u2, r2, v2⟩ := r'.frz hv e2
      cases e3 : gm d L2 with
      | none => rw [e3] at h; exact h.elim
      | some L3 =>
        rw [e3] at h
        exact ht io F P2 σ H' L2 v d L3 r2 v2 e3 _ fun σ' r3 _ _ => h P2 σ' H' (u.trans u2) r3

/-! ### a def put together -/
variable {K : PySem.W.Frag} {Pg : Program} {w : World} {mg : Str → Option Value} {base : Heap}
theorem defP {x : Str} {st : Stmt} {f : Addr} {fd : FuncData} {N ps : List Str} {k : Nat} (F : Fun K x x st f fd) (gF : mg x = some (.ref f)) (b : Binds K fd ps []) (S : FnScope N ps (defScope st)) {m : Lo → SR}
    (body : ∀ (cdv : Value) (A : Around) (outer : List Env) (s : Shared) (H : Hp) (E : XK), Room k (cxOf (L2.CX Pg w) Pg w K mg base N x (defScope st) f cdv A outer s H E).A → Takes (cxOf (L2.CX Pg w) Pg w K mg base N x (defScope st) f cdv A outer s H E) (fun cls d _ H => E cls d H) →
      PSs (cxOf (L2.CX Pg w) Pg w K mg base N x (defScope st) f cdv A outer s H E) (defBody st) (tS K g (fun cls d _ H => E cls d H) m)) :
    DefOk Pg w K mg base (k + 1) x ps (spP K g ps.length (fnP N.length m)) := ⟨f, fd, gF, F.kp, b, okP F S body⟩
theorem defI {x : Str} {st : Stmt} {f : Addr} {fd : FuncData} {N ps : List Str} {k : Nat} (F : Fun K x x st f fd) (gF : mg x = some (.ref f)) (b : Binds K fd ps []) (S : FnScope N ps (defScope st)) {m : Lo → SR}
    (body : ∀ (cdv : Value) (A : Around) (outer : List Env) (s : Shared) (H : Hp) (E : XK), Room k (cxOf (L2.CX Pg w) Pg w K mg base N x (defScope st) f cdv A outer s H E).A → Takes (cxOf (L2.CX Pg w) Pg w K mg base N x (defScope st) f cdv A outer s H E) (fun cls d _ H => E cls d H) →
      PSs (cxOf (L2.CX Pg w) Pg w K mg base N x (defScope st) f cdv A outer s H E) (defBody st) (tS K g (fun cls d _ H => E cls d H) m)) :
    DefOk Pg w K mg base (k + 1) x ps (spI K g ps.length (fnI N.length m)) := ⟨f, fd, gF, F.kp, b, okI F S body⟩
/-- the def of the text at a place of the top -/
structure AtTop (K : PySem.W.Frag) (mg : Str → Option Value) (x : Str) (st : Stmt) : Prop where
  ex : ∃ f fd, Fun K x x st f fd ∧ mg x = some (.ref f)
end
end L2.Z
namespace L2.Z
open PySem PySem.Spec PyProof.Rows
theorem bt_len : bootBuiltins "len" = some (.builtin "len") := by decide +kernel
theorem bt_all : bootBuiltins "all" = some (.builtin "all") := by decide +kernel
theorem bt_any : bootBuiltins "any" = some (.builtin "any") := by decide +kernel
theorem bt_sum : bootBuiltins "sum" = some (.builtin "sum") := by decide +kernel
theorem bt_abs : bootBuiltins "abs" = some (.builtin "abs") := by decide +kernel
theorem bt_min : bootBuiltins "min" = some (.builtin "min") := by decide +kernel
theorem bt_max : bootBuiltins "max" = some (.builtin "max") := by decide +kernel
theorem bt_sorted : bootBuiltins "sorted" = some (.builtin "sorted") := by decide +kernel
theorem bt_isinstance : bootBuiltins "isinstance" = some (.builtin "isinstance") := by decide +kernel
theorem bt_int : bootBuiltins "int" = some (.type "int") := by decide +kernel
theorem bt_bool : bootBuiltins "bool" = some (.type "bool") := by decide +kernel
theorem bt_str : bootBuiltins "str" = some (.type "str") := by decide +kernel
theorem bt_list : bootBuiltins "list" = some (.type "list") := by decide +kernel
theorem bt_tuple : bootBuiltins "tuple" = some (.type "tuple") := by decide +kernel
theorem bt_dict : bootBuiltins "dict" = some (.type "dict") := by decide +kernel
theorem bt_set : bootBuiltins "set" = some (.type "set") := by decide +kernel
theorem hu65 {k : Nat} {A : Around} (hr : Room k A) : A.units + 65 < cLine := by have := hr.un; unfold cLine at *; omega
section
variable {K : PySem.W.Frag} {g : Nm}
def negD : D → Option D
  | .int i => some (.int (-i))
  | _ => none
theorem o_neg : Op1 K g (rU fun i => .int (-i)) negD := by
  intro P H x dx d Q u hx e q
  cases dx <;> try (cases e; done)
  cases e
  have := hx.int; subst this
  exact ⟨_, rfl, q P H _ (.refl u) (.int _)⟩
/-- < of ints, of tuples of ints -/
def ltD : D → D → Option D
  | .int a, .int b => some (.bl (decide (a < b)))
  | .tup a, .tup b => match intsOf a, intsOf b with
    | some x, some y => some (.bl (HT.lexLt x y))
    | _, _ => none
  | _, _ => none
theorem op_ltU {X : Cx} {k : Nat} (hr : Room k X.A) : OpR X (compareOp .Lt) (fun x y H Q => (rI0 fun i j => .bl (decide (i < j))) x y H Q ∨ rLtT X.K x y H Q) := op_lt.or (op_ltT hr.units0)
theorem o_lt : Op2 K g (fun x y H Q => (rI0 fun i j => .bl (decide (i < j))) x y H Q ∨ rLtT K x y H Q) ltD := by
  intro P H x y dx dy d Q u hx hy e q
  cases dx <;> cases dy <;> try (cases e; done)
  · cases e
    have := hx.int; have := hy.int; subst_vars
    exact .inl ⟨_, _, rfl, rfl, q P H _ (.refl u) (.bl _)⟩
  · rename_i a b
    replace e : (match intsOf a, intsOf b with | some x, some y => some (D.bl (HT.lexLt x y)) | _, _ => none) = some d := e
    cases e1 : intsOf a with
    | none => rw [e1] at e; cases e
    | some ns =>
      cases e2 : intsOf b with
      | none => rw [e1, e2] at e; cases e
      | some ms =>
        rw [e1, e2] at e; cases e
        obtain ⟨ax, vs, rfl, s1, r1⟩ := hx.tup u
        obtain ⟨bx, ws, rfl, s2, r2⟩ := hy.tup u
        rw [intsOf_eq e1] at r1
        rw [intsOf_eq e2] at r2
        have := r1.ints; have := r2.ints; subst_vars
        exact .inr ⟨_, _, ns, ms, rfl, rfl, s1, s2, q P H _ (.refl u) (.bl _)⟩
end
end L2.Z

/-! part Z14 -/
set_option Elab.async false
set_option linter.all false
set_option maxRecDepth 100000
set_option maxHeartbeats 4000000
namespace L2
open PySem PySem.Spec PyProof.Rows
/-! ### tuple * int where the tuple itself comes back -/
theorem tuple_mul1 (l : Addr) (items : Array Value) (n : Nat) (dd : Option Addr) (sl : Array (Option Value)) (u : Tok) (x : Int) (c0 : (decide (x < -(2 ^ 63)) || decide (x ≥ 2 ^ 63)) = false) (c1 : (items.isEmpty || x == 1) = true) :
    Meets (Builtin.«tuple.__mul__» ⟨[.ref l, .int x u], []⟩) (fun _ R s => s.heap.get? l = some { cls := .type "tuple", dict := dd, data := .seq items n, slots := sl } ∧
      R (.ok (.ret (Value.ref l))) s) :=
  .of_wp fun prog w A R s h => by
    obtain ⟨hp, g, d, tk, os⟩ := s
    obtain ⟨hl, h⟩ := h
    have f1 := AutoSeq1.idx_int
    wp_walk using wpAny_loadPart' hl
    refine wpAny_ite_false (decide_eq_false (by rw [c0]; exact Bool.false_ne_true)) ?_
    wp_walk using wpAny_loadPart' hl
    exact ⟨_, rfl, h⟩
def rRep1 (K : PySem.W.Frag) : R2 := fun x y H Q => ∃ l k xs, x = .ref l ∧ y = .int k ∧ SqT K H l xs ∧ (xs = [] ∨ k = 1) ∧ -(2 ^ 63) ≤ k ∧ k < 2 ^ 63 ∧ Q (.ref l) H
theorem op_rep1 {X : Cx} : OpR X (binaryOp .Mult) (rRep1 X.K) := by
  intro pins s σ H x y v u Q I rx ry h
  obtain ⟨l, k, xs, rfl, rfl, hT, h0, h1, h2, q⟩ := h
  cases rx
  obtain ⟨t, rfl⟩ := ry
  obtain ⟨its, r, ⟨⟨cls, dd, data, sl⟩, ho, hc, n, hd⟩, hs⟩ := I.tuple hT
  simp only at hc hd
  subst hc hd
  have c0 : (decide (k < -(2 ^ 63)) || decide (k ≥ 2 ^ 63)) = false := by
    rw [decide_eq_false (by omega), decide_eq_false (by omega)] <;> rfl
  have c1 : (its.toArray.isEmpty || k == 1) = true := by
    rcases h0 with h0 | h0
    · subst h0; cases r; rfl
    · subst h0; simp
  refine wpAny_binaryOp_repeat_ref (T := "tuple") (U := "int") (by decide) ⟨_, ho, rfl⟩ (fun s' => typeIs_int s' k t) noFill_tuple_mul F.fills_int_mul F.slot_int_rmul repeat_tuple F.slot_int_index.lookup
    (call_meets F.slot_int_rmul (typeIs_int s k t) F.entry_int_rmul (F.args_int_rmul_2 _ _) (int_rmul_tuple k t l its.toArray n dd sl)
      ⟨ho, rfl, ⟨_, ho, rfl⟩, call_meets F.slot_tuple_mul ⟨_, ho, rfl⟩ F.entry_tuple_mul (F.args_tuple_mul_2 _ _) (tuple_mul1 l its.toArray n dd sl t k c0 c1) ⟨ho, ?_⟩⟩)
  exact ⟨.ref l, H, I, rfl, q⟩
end L2
namespace L2.Z
open PySem PySem.Spec PyProof.Rows
section
variable {K : PySem.W.Frag} {g : Nm}
/-! ### * -/
def repL (xs : List D) (k : Int) : List D := (List.replicate k.toNat xs).flatten
def mulD : D → D → Option D
  | .int a, .int b => if (-(2 ^ 64) < a ∧ a < 2 ^ 64) ∨ (-(2 ^ 64) < b ∧ b < 2 ^ 64) then some (.int (a * b)) else none
  | .tup xs, .int k => if (xs = [] ∨ k = 1) ∧ -(2 ^ 63) ≤ k ∧ k < 2 ^ 63 then some (.tup xs) else if 2 ≤ k ∧ k ≤ 1000 ∧ xs.length ≤ 1000 then some (.tup (repL xs k)) else none
  | .lst xs, .int k => if k < 2 ^ 63 ∧ -(2 ^ 63) ≤ k ∧ xs.length * k.toNat ≤ lineN then some (.lst (repL xs k)) else none
  | _, _ => none
def rMulU (K : PySem.W.Frag) : R2 := fun x y H Q => (rI CMul fun i j => .int (i * j)) x y H Q ∨ (rRep1 K x y H Q ∨ (rRepT K x y H Q ∨ rRep x y H Q))
theorem op_mulU {X : Cx} : OpR X (binaryOp .Mult) (rMulU X.K) := op_mul.or (op_rep1.or (op_repT.or op_rep))
theorem ValL.flatRep {P : Hp} {vs : List V} {ds : List D} (h : ValL K g P vs ds) : ∀ n : Nat, ValL K g P (List.replicate n vs).flatten (List.replicate n ds).flatten
  | 0 => .nil
  | n + 1 => by rw [List.replicate_succ, List.replicate_succ, List.flatten_cons, List.flatten_cons]; exact h.append (ValL.flatRep h n)
theorem o_mul : Op2 K g (rMulU K) mulD := by
  intro P H x y dx dy d Q u hx hy e q
  cases dx <;> cases dy <;> try (cases e; done)
  · rename_i a b
    replace e : (if (-(2 ^ 64) < a ∧ a < 2 ^ 64) ∨ (-(2 ^ 64) < b ∧ b < 2 ^ 64) then some (D.int (a * b)) else none) = some d := e
    by_cases hl : (-(2 ^ 64) < a ∧ a < 2 ^ 64) ∨ (-(2 ^ 64) < b ∧ b < 2 ^ 64)
    · rw [if_pos hl] at e; cases e
      have := hx.int; have := hy.int; subst_vars
      exact .inl ⟨_, _, rfl, rfl, hl, q P H _ (.refl u) (.int _)⟩
    · rw [if_neg hl] at e; cases e
  · rename_i xs k
    replace e : (if (xs = [] ∨ k = 1) ∧ -(2 ^ 63) ≤ k ∧ k < 2 ^ 63 then some (D.tup xs) else if 2 ≤ k ∧ k ≤ 1000 ∧ xs.length ≤ 1000 then some (.tup (repL xs k)) else none) = some d := e
    have := hy.int; subst this
    obtain ⟨ax, vs, rfl, s1, r1⟩ := hx.tup u
    have l1 := r1.length
    by_cases h1 : (xs = [] ∨ k = 1) ∧ -(2 ^ 63) ≤ k ∧ k < 2 ^ 63
    · rw [if_pos h1] at e; cases e
      refine .inr (.inl ⟨ax, k, vs, rfl, rfl, s1, ?_, h1.2.1, h1.2.2, ?_⟩)
      · rcases h1.1 with h | h
        · subst h; cases r1; exact .inl rfl
        · exact .inr h
      · cases hx with | va hx => exact q P H _ (.refl u) hx
    · rw [if_neg h1] at e
      by_cases h2 : 2 ≤ k ∧ k ≤ 1000 ∧ xs.length ≤ 1000
      · rw [if_pos h2] at e; cases e
        refine .inr (.inr (.inl ⟨ax, k, vs, rfl, rfl, s1, fun e0 => ?_, h2.1, h2.2.1, by rw [l1]; exact h2.2.2, fun p np => ?_⟩))
        · subst e0; cases r1; exact h1 ⟨.inl rfl, by omega, by omega⟩
        · have gr := grow_new u (o := .tup (List.replicate k.toNat vs).flatten) np
          exact q _ _ _ gr (.tup (.inl (.inl upd_same)) ((r1.flatRep _).up gr.p))
      · rw [if_neg h2] at e; cases e
  · rename_i xs k
    replace e : (if k < 2 ^ 63 ∧ -(2 ^ 63) ≤ k ∧ xs.length * k.toNat ≤ lineN then some (D.lst (repL xs k)) else none) = some d := e
    have := hy.int; subst this
    obtain ⟨ax, vs, rfl, s1, r1⟩ := hx.lst u
    have l1 := r1.length
    by_cases h1 : k < 2 ^ 63 ∧ -(2 ^ 63) ≤ k ∧ xs.length * k.toNat ≤ lineN
    · rw [if_pos h1] at e; cases e
      refine .inr (.inr (.inr ⟨ax, k, vs, rfl, rfl, s1, h1.2.1, h1.1, by rw [l1]; exact line_le h1.2.2, fun p np => ?_⟩))
      have gr := grow_new u (o := .lst (List.replicate k.toNat vs).flatten) np
      exact q _ _ _ gr (.lst upd_same ((r1.flatRep _).up gr.p))
    · rw [if_neg h1] at e; cases e
def repF : D → D → Option (List D)
  | .lst xs, .int k => if k < 2 ^ 63 ∧ -(2 ^ 63) ≤ k ∧ xs.length * k.toNat ≤ lineN then some (repL xs k) else none
  | _, _ => none
theorem of_rep : OpF2 K g rRep repF := by
  intro P H x y dx dy d Q u hx hy e q
  cases dx <;> cases dy <;> try (cases e; done)
  rename_i xs k
  replace e : (if k < 2 ^ 63 ∧ -(2 ^ 63) ≤ k ∧ xs.length * k.toNat ≤ lineN then some (repL xs k) else none) = some d := e
  have := hy.int; subst this
  obtain ⟨ax, vs, rfl, s1, r1⟩ := hx.lst u
  have l1 := r1.length
  by_cases h1 : k < 2 ^ 63 ∧ -(2 ^ 63) ≤ k ∧ xs.length * k.toNat ≤ lineN
  · rw [if_pos h1] at e; cases e
    exact ⟨ax, k, vs, rfl, rfl, s1, h1.2.1, h1.1, by rw [l1]; exact line_le h1.2.2, fun p np => q p _ np (r1.flatRep _)⟩
  · rw [if_neg h1] at e; cases e
end

/-! ### a def that says nothing -/
section
variable {K : PySem.W.Frag} {g : Nm} {Pg : Program} {w : World} {mg : Str → Option Value} {base : Heap}
theorem pss_no {X : Cx} {W : WX} {sts : List Stmt} : PSs X sts (tS X.K g W fun _ => .no) := ⟨fun pins s σ H D I ⟨_, _, _, _, _, h⟩ => h.elim⟩
theorem fnNoP {x qual : Str} {st : Stmt} {f : Addr} {fd : FuncData} {N ps : List Str} {k : Nat} (F : Fun K x qual st f fd) (S : FnScope N ps (defScope st)) : FnOk Pg w K mg base (L2.CX Pg w) (k + 1) f fd ps (spP K g ps.length fun _ => .no) :=
  (okP F S (m := fun _ => .no) (g := g) fun _ _ _ _ _ _ _ _ => pss_no).imp fun vs H Q E ⟨_, _, _, _, _, h⟩ => h.elim
theorem fnNoI {x qual : Str} {st : Stmt} {f : Addr} {fd : FuncData} {N ps : List Str} {k : Nat} (F : Fun K x qual st f fd) (S : FnScope N ps (defScope st)) : FnOk Pg w K mg base (L2.CX Pg w) (k + 1) f fd ps (spI K g ps.length fun _ _ => .no) :=
  (okI F S (m := fun _ => .no) (g := g) fun _ _ _ _ _ _ _ _ => pss_no).imp fun vs H Q E ⟨_, _, _, _, _, _, _, _, _, _, _, _, _, h⟩ => h.elim

/-! ### a def that gives a new list -/
def spF (K : PySem.W.Frag) (g : Nm) (n : Nat) (f : List D → FR (List D)) : Sp := fun vs H Q E => vs.length = n ∧ ∃ P ds, Up P H ∧ ValL K g P vs ds ∧ match f ds with
  | .ok xs => ∀ P' H' b bs, Nxt P H P' H' → H b = none → H' b = some (.lst bs) → P' b = none → ValL K g P' bs xs → Q (.ref b) H'
  | .ex x => ∀ P' H' c dd, Nxt P H P' H' → ExV K g x c dd P' H' → E c dd H'
  | .no => False
def fnF (len : Nat) (m : Lo → SR) : List D → FR (List D) := fun ds => match m (ds.map SV.va ++ List.replicate (len - ds.length) .un) with
  | .rf xs _ => .ok xs
  | .ex x _ => .ex x
  | _ => .no
theorem okF {x qual : Str} {st : Stmt} {f : Addr} {fd : FuncData} {N ps : List Str} {k : Nat} (F : Fun K x qual st f fd) (S : FnScope N ps (defScope st)) {m : Lo → SR}
    (body : ∀ (cdv : Value) (A : Around) (outer : List Env) (s : Shared) (H : Hp) (E : XK), Room k (cxOf (L2.CX Pg w) Pg w K mg base N qual (defScope st) f cdv A outer s H E).A → Takes (cxOf (L2.CX Pg w) Pg w K mg base N qual (defScope st) f cdv A outer s H E) (fun cls d _ H => E cls d H) →
      PSs (cxOf (L2.CX Pg w) Pg w K mg base N qual (defScope st) f cdv A outer s H E) (defBody st) (tS K g (fun cls d _ H => E cls d H) m)) :
    FnOk Pg w K mg base (L2.CX Pg w) (k + 1) f fd ps (spF K g ps.length (fnF N.length m)) := by
  have hpl : ps.length ≤ N.length := by have := congrArg List.length S.pre; rw [List.length_take] at this; omega
  refine F.okX S (fun vs H Q E h => h.1) fun cdv A outer s H vs Q E hr h => ?_
  refine ⟨_, body cdv A outer s H E hr (takes_of rfl rfl rfl rfl), ?_⟩
  obtain ⟨hn, P, ds, u, hv, h⟩ := h
  obtain ⟨w1, w2⟩ := withTups_up u
  refine ⟨none, restOf (withTups P H) H, withTups P H, _, Rep.start w2 (hv.up w1) (by omega), ?_⟩
  have toN : ∀ {P' H' : Hp}, Nxt (withTups P H) H P' H' → Nxt P H P' H' := fun x => ⟨w1.trans x.p, x.ph, fun b o e n t => x.keep b o e (withTups_none n fun o' e' t' => by rw [e] at e'; cases e'; exact t t') t⟩
  unfold fnF at h
  cases e : m (ds.map SV.va ++ List.replicate (N.length - ds.length) .un) with
  | nx L => rw [e] at h; exact h.elim
  | rt d L => rw [e] at h; exact h.elim
  | bk L => rw [e] at h; exact h.elim
  | ct L => rw [e] at h; exact h.elim
  | ex x L => rw [e] at h; exact fun P' σ' H' c dd u' r' ev => h P' H' c dd (toN (r'.nxtOf u')) ev
  | no => rw [e] at h; exact h.elim
  | rf xs L =>
    rw [e] at h
    intro P' σ' H' b bs u' r' q1 q2 q3 q4 q5
    have np : withTups P H b = none := by cases q6 : withTups P H b with | none => rfl | some o' => rw [u' b o' q6] at q2; cases q2
    have hb : H b = none := by
      cases q : H b with
      | none => rfl
      | some o =>
        by_cases t : isTup o
        · rw [withTups_tup u q t] at np; cases np
        · rw [restOf_of np q t] at q3; cases q3
    exact h P' H' b bs (toN (r'.nxtOf u')) hb q1 q2 q5
theorem defF {x : Str} {st : Stmt} {f : Addr} {fd : FuncData} {N ps : List Str} {k : Nat} (F : Fun K x x st f fd) (gF : mg x = some (.ref f)) (b : Binds K fd ps []) (S : FnScope N ps (defScope st)) {m : Lo → SR}
    (body : ∀ (cdv : Value) (A : Around) (outer : List Env) (s : Shared) (H : Hp) (E : XK), Room k (cxOf (L2.CX Pg w) Pg w K mg base N x (defScope st) f cdv A outer s H E).A → Takes (cxOf (L2.CX Pg w) Pg w K mg base N x (defScope st) f cdv A outer s H E) (fun cls d _ H => E cls d H) →
      PSs (cxOf (L2.CX Pg w) Pg w K mg base N x (defScope st) f cdv A outer s H E) (defBody st) (tS K g (fun cls d _ H => E cls d H) m)) :
    DefOk Pg w K mg base (k + 1) x ps (spF K g ps.length (fnF N.length m)) := ⟨f, fd, gF, F.kp, b, okF F S body⟩
end
/-- its call, nothing borrowed -/
def fCall (n : Nat) (f : List D → FR (List D)) (ms : Lo → R (List RV)) : Lo → R (List D) := fun L => match ms L with
  | .ok rs L1 => match getL L1 rs with
    | some ds => if (decide (rs.length = n) && !(rs.any (isB · L1)))= true then match f ds with
      | .ok xs => .ok xs L1
      | .ex x => .ex x L1
      | .no => .no
      else .no
    | none => .no
  | .ex x L1 => .ex x L1
  | .no => .no
section
variable {X : Cx} {g : Nm} {W : WX} {K : PySem.W.Frag}
theorem Rep.ownNew {io : Option Addr} {F P H P' H' : Hp} {σ : L2.St} {L : Lo} (r : Rep K g io F P σ H L) (x : Nxt P H P' H') {b : Addr} (nb : H b = none) : ∀ i, ¬ Own σ H' L i b := fun i w => by
  have w' := w.eq (H := H) fun c wc => by
    obtain ⟨o, e1, e2, e3, e4⟩ := r.own wc
    exact (x.keep c o e1 e3 e2).1.trans e1.symm
  obtain ⟨o, e1, _⟩ := r.own w'
  rw [nb] at e1; cases e1
theorem callF_w {n : Nat} {f : List D → FR (List D)} {ms : Lo → R (List RV)} (σ : L2.St) (H : Hp) (Q : VK) (h : tF K g W (fCall n f ms) σ H Q) : tCallS (spF K g n f) (WE W) (tA K g W ms) σ H Q := by
  obtain ⟨io, F, P, L, q, h⟩ := h
  refine ⟨io, F, P, L, q, ?_⟩
  unfold fCall at h
  cases e : ms L with
  | no => rw [e] at h; exact h
  | ex x L1 => rw [e] at h; exact h
  | ok rs L1 =>
    rw [e] at h; dsimp only at h
    intro P' H' vs u r' hv
    cases e2 : getL L1 rs with
    | none => rw [e2] at h; exact h.elim
    | some ds =>
      rw [e2] at h; dsimp only at h
      by_cases hn : (decide (rs.length = n) && !(rs.any (isB · L1))) = true
      · rw [if_pos hn] at h
        rw [Bool.and_eq_true, decide_eq_true_eq, Bool.not_eq_true'] at hn
        refine ⟨hv.length.trans hn.1, P', ds, r'.ph, r'.vals hv e2 hn.2, ?_⟩
        cases e3 : f ds with
        | no => rw [e3] at h; exact h
        | ex x =>
          rw [e3] at h
          exact fun P2 H2 c dd nx ev => h P2 H2 c dd (u.trans nx.p) (r'.nxt nx) ev
        | ok xs =>
          rw [e3] at h
          intro P2 H2 b bs nx nb hb pb hbs
          have nF : F b = none := by cases q : F b with | none => rfl | some o => rw [r'.fh b o q] at nb; cases nb
          exact h P2 H2 b bs (u.trans nx.p) (r'.nxt nx) hb pb nF (r'.ownNew nx nb) hbs
      · rw [if_neg hn] at h; exact h.elim
theorem mf_call {k n : Nat} {x : Str} {ps : List Str} {f : List D → FR (List D)} {e : Expr} {es : List Expr} {ms : Lo → R (List RV)} {p pos : Pos} (c : DefOk X.prog X.w X.K X.mg X.base k x ps (spF X.K g n f)) (hr : Room k X.A) (tk : Takes X W) (hg : Gl X x) (ha : PA X (e :: es) (tA X.K g W ms))
    (hdb : (x == ("__debug__" : Str)) = false := by decide) (he : starEach (e :: es) X.env = (false, eval e X.env) :: starEach es X.env := by rfl) (hpl : (backTo pos (starEach es X.env)).any (·.1) = false := by rfl) :
    PE X (.Call (.Name x p) (e :: es) [] pos) (tF X.K g W (fCall n f ms)) := by
  obtain ⟨f', fd, h1, h2, h3, h4⟩ := c.ex
  exact (pe_callS h4 hr hg h1 h2 h3 (fun σ => passAt tk σ) ha hdb he hpl).weak fun σ H Q q => callF_w σ H Q q
end
end L2.Z

/-! part Z15 -/
set_option Elab.async false
set_option linter.all false
set_option maxRecDepth 100000
set_option maxHeartbeats 4000000
namespace L2.Z
open PySem PySem.Spec PyProof.Rows

/-! ### own lists in an own list -/
section
variable {K : PySem.W.Frag} {g : Nm} {io : Option Addr} {F P H : Hp} {σ : L2.St} {L : Lo}
open Classical in
/-- they become values -/
theorem Rep.freeze2 (r : Rep K g io F P σ H L) {i : Nat} {xss : List (List D)} {a : Addr} (e0 : L[i]? = some (.l2 xss)) (ev : σ[i]? = some (some (.ref a))) :
    ∃ P', Up P P' ∧ Rep K g io F P' σ H (L.set i (.va (.lst (xss.map .lst)))) ∧ Val K g P' (.ref a) (.lst (xss.map .lst)) := by
  obtain ⟨a', vs, e1, e2, e3, e4, e5, e6⟩ := r.sl i _ e0
  rw [ev] at e1; cases e1
  let P' : Hp := fun b => if Own σ H L i b then H b else P b
  have inn : ∀ b, V.ref b ∈ vs → Own σ H L i b := fun b m => ⟨_, a, e0, ev, rfl, .inr ⟨vs, xss, rfl, e2, m⟩⟩
  have up : Up P P' := fun b o q => by
    show (if Own σ H L i b then H b else P b) = some o
    by_cases w : Own σ H L i b
    · rw [if_pos w]; exact r.ph b o q
    · rw [if_neg w]; exact q
  have ina : P' a = some (.lst vs) := by
    show (if Own σ H L i a then H a else P a) = _
    rw [if_pos ⟨_, a, e0, ev, rfl, .inl rfl⟩]; exact e2
  have go : ∀ {vs' : List V} {yss : List (List D)}, InL K g F P H vs' yss → (∀ b, V.ref b ∈ vs' → Own σ H L i b) → ValL K g P' vs' (yss.map .lst) := by
    intro vs' yss h
    induction h with
    | nil => exact fun _ => .nil
    | @cons b ws vs'' xs xss' q1 q2 q3 q4 q5 _ ih =>
      intro m
      refine .cons (.lst ?_ (q4.up up)) (ih fun b' m' => m b' (List.mem_cons_of_mem _ m'))
      show (if Own σ H L i b then H b else P b) = _
      rw [if_pos (m b (List.mem_cons_self ..))]; exact q1
  have hv : Val K g P' (.ref a) (.lst (xss.map .lst)) := .lst ina (go e6 inn)
  refine ⟨P', up, ?_, hv⟩
  refine r.slot e0 (fun j _ => rfl) rfl (fun _ => rfl) (fun b o q => ?_) r.fh (fun b o q => ⟨?_, (r.fp b o q).2⟩) up (noIo (fun _ z => nomatch z) (fun _ z => nomatch z)) (fun j b hj w => ⟨rfl, ?_, (r.keepOwn w).2.2⟩) ⟨_, ev, hv⟩ (fun c b z w => nomatch w.1)
  · replace q : (if Own σ H L i b then H b else P b) = some o := q
    by_cases w : Own σ H L i b
    · rw [if_pos w] at q; exact q
    · rw [if_neg w] at q; exact r.ph b o q
  · show (if Own σ H L i b then H b else P b) = none
    by_cases w : Own σ H L i b
    · rw [(r.keepOwn w).2.2] at q; cases q
    · rw [if_neg w]; exact (r.fp b o q).1
  · show (if Own σ H L i b then H b else P b) = none
    by_cases w' : Own σ H L i b
    · exact absurd (r.dj j i b w w') hj
    · rw [if_neg w']; exact (r.keepOwn w).2.1
open Classical in
/-- what slot i owns is framed; the slot is known no more -/
theorem Rep.frameAll (r : Rep K g io F P σ H L) {i : Nat} {s : SV} (e0 : L[i]? = some s) (n0 : ∀ xs, s ≠ .io xs) :
    ∃ F', Up F F' ∧ (∀ b, Own σ H L i b → F' b = H b) ∧ (∀ b, ¬ Own σ H L i b → F' b = F b) ∧ Rep K g io F' P σ H (L.set i .un) := by
  refine ⟨fun b => if Own σ H L i b then H b else F b, fun b o q => ?_, fun b w => if_pos w, fun b w => if_neg w, ?_⟩
  · by_cases w : Own σ H L i b
    · show (if Own σ H L i b then H b else F b) = _
      rw [if_pos w]; exact r.fh b o q
    · show (if Own σ H L i b then H b else F b) = _
      rw [if_neg w]; exact q
  · refine r.slot e0 (fun j _ => rfl) rfl (fun _ => rfl) r.ph (fun b o q => ?_) (fun b o q => ?_) (.refl P) (noIo n0 (fun _ z => nomatch z)) (fun j b hj w => ⟨rfl, (r.keepOwn w).2.1, ?_⟩) trivial (fun c b z w => nomatch w.1)
    · replace q : (if Own σ H L i b then H b else F b) = some o := q
      by_cases w : Own σ H L i b
      · rw [if_pos w] at q; exact q
      · rw [if_neg w] at q; exact r.fh b o q
    · replace q : (if Own σ H L i b then H b else F b) = some o := q
      by_cases w : Own σ H L i b
      · obtain ⟨o', z1, z2, z3, z4⟩ := r.own w
        rw [if_pos w, z1] at q; cases q
        exact ⟨z3, z2⟩
      · rw [if_neg w] at q; exact r.fp b o q
    · show (if Own σ H L i b then H b else F b) = none
      by_cases w' : Own σ H L i b
      · exact absurd (r.dj j i b w w') hj
      · rw [if_neg w']; exact (r.keepOwn w).2.2
theorem InL.length : ∀ {vs : List V} {xss : List (List D)}, InL K g F P H vs xss → vs.length = xss.length
  | _, _, .nil => rfl
  | _, _, .cons _ _ _ _ _ t => by rw [List.length_cons, List.length_cons, t.length]
theorem InL.at {xs : List D} : ∀ {j : Nat} {vs : List V} {xss : List (List D)}, InL K g F P H vs xss → xss[j]? = some xs → ∃ b ws, vs[j]? = some (.ref b) ∧ H b = some (.lst ws) ∧ ValL K g P ws xs
  | _, _, _, .nil, e => by simp at e
  | 0, _, _, .cons q1 _ _ q4 _ _, e => by simp at e; subst e; exact ⟨_, _, rfl, q1, q4⟩
  | j + 1, _, _, .cons _ _ _ _ _ t, e => by
    obtain ⟨b, ws, h1, h2, h3⟩ := t.at (j := j) (by simpa using e)
    exact ⟨b, ws, by simpa using h1, h2, h3⟩
/-- one of them is written -/
theorem InL.put {b : Addr} {ws : List V} {ys : List D} (hv : ValL K g P ws ys) : ∀ {j : Nat} {vs : List V} {xss : List (List D)}, InL K g F P H vs xss → vs[j]? = some (.ref b) → InL K g F P (upd H b (.lst ws)) vs (xss.set j ys)
  | _, _, _, .nil, e => by simp at e
  | 0, _, _, .cons q1 q2 q3 q4 q5 t, e => by
    simp at e; subst e
    refine .cons upd_same q2 q3 hv q5 (t.chg (.refl P) fun a m => ?_)
    obtain ⟨_, p1, p2⟩ := t.get m
    exact ⟨upd_ne fun z => q5 (z ▸ m), p1, p2⟩
  | j + 1, _, _, .cons (b := b') q1 q2 q3 q4 q5 t, e => by
    have e' : _ := e
    rw [List.getElem?_cons_succ] at e'
    have nb : b' ≠ b := fun z => q5 (z ▸ List.mem_of_getElem? e')
    exact .cons (by rw [upd_ne nb]; exact q1) q2 q3 q4 q5 (t.put hv e')
end
section
variable {X : Cx} {g : Nm} {W : WX}
/-- a name read: own lists in an own list become values -/
def eVar2 (i : Nat) : Lo → R RV := fun L => match L[i]? with
  | some (.l2 xss) => .ok (.v (.lst (xss.map .lst))) (L.set i (.va (.lst (xss.map .lst))))
  | _ => eVar i L
theorem me_var2 {e : Expr} {i : Nat} (h : PE X e (tVar i)) : PE X e (tE X.K g W (eVar2 i)) := h.weak fun σ H Q ⟨io, F, P, L, r, q⟩ => by
  unfold eVar2 at q
  cases e : L[i]? with
  | none => rw [e] at q; dsimp only at q; unfold eVar at q; rw [e] at q; exact q.elim
  | some s =>
    rw [e] at q
    cases s with
    | l2 xss =>
      dsimp only at q
      obtain ⟨a, vs, e1, _⟩ := r.sl i _ e
      obtain ⟨P', u, r', hv⟩ := r.freeze2 e e1
      exact ⟨_, e1, q P' H _ u r' hv⟩
    | un => dsimp only at q; unfold eVar at q; rw [e] at q; exact q.elim
    | va d => dsimp only at q; unfold eVar at q; rw [e] at q; obtain ⟨v, e1, e2⟩ := r.sl i _ e; exact ⟨v, e1, q P H v (.refl P) r e2⟩
    | li xs => dsimp only at q; unfold eVar at q; rw [e] at q; obtain ⟨a, vs, e1, _⟩ := r.sl i _ e; exact ⟨_, e1, q P H _ (.refl P) r e1⟩
    | io xs => dsimp only at q; unfold eVar at q; rw [e] at q; obtain ⟨a, vs, e1, _⟩ := r.sl i _ e; exact ⟨_, e1, q P H _ (.refl P) r e1⟩
    | di xs => dsimp only at q; unfold eVar at q; rw [e] at q; obtain ⟨a, vs, e1, _⟩ := r.sl i _ e; exact ⟨_, e1, q P H _ (.refl P) r e1⟩
/-- xs[o][k] = e -/
def sStore2 (i : Nat) (mo mk me : Lo → R RV) : Lo → SR := fun L => match me L with
  | .ok rv L1 => match frz rv L1 with
    | some (d, La) => match La[i]? with
      | some (.l2 xss) => match mo (La.set i .un) with
        | .ok ro L3 => match ro.get L3 with
          | some (.int o) => match L2.atI xss o, ixN xss.length o with
            | some xs, some j => match mk L3 with
              | .ok rk L4 => match rk.get L4, L4[i]? with
                | some (.int k), some .un => match ixN xs.length k with
                  | some t => .nx (L4.set i (.l2 (xss.set j (xs.set t d))))
                  | none => .no
                | _, _ => .no
              | _ => .no
            | _, _ => .no
          | _ => .no
        | _ => .no
      | _ => .no
    | none => .no
  | .ex x L1 => .ex x L1
  | .no => .no
theorem ms_store2 {st : Stmt} {i : Nat} {mo mk me : Lo → R RV} (h : PS X st (tAsg (tE X.K g W me) (gSub (tOp (rIx X.K) (tVar i) (tE X.K g W mo)) (tE X.K g W mk) rSetL))) : PS X st (tS X.K g W (sStore2 i mo mk me)) := h.weak fun D σ H ⟨io, F, P, L, r, h⟩ => by
  refine ⟨io, F, P, L, r, ?_⟩
  unfold sStore2 at h
  cases e : me L with
  | no => rw [e] at h; exact h
  | ex x L1 => rw [e] at h; exact fun P' H' c dd u r' e' => h P' σ H' c dd u r' e'
  | ok rv L1 =>
    rw [e] at h; dsimp only at h
    intro P1 H1 v u1 r1 hv
    cases e1 : frz rv L1 with
    | none => rw [e1] at h; exact h.elim
    | some q =>
      obtain ⟨d, La⟩ := q
      rw [e1] at h; dsimp only at h
      obtain ⟨P2, u2, r2, v2⟩ := r1.frz hv e1
      cases e0 : La[i]? with
      | none => rw [e0] at h; exact h.elim
      | some s0 =>
        rw [e0] at h
        cases s0 with
        | l2 xss =>
          dsimp only at h
          obtain ⟨a, vs, z1, z2, z3, z4, z5, z6⟩ := r2.sl i _ e0
          have oa : Own σ H1 La i a := ⟨_, a, e0, z1, rfl, .inl rfl⟩
          have ob : ∀ b, V.ref b ∈ vs → Own σ H1 La i b := fun b m => ⟨_, a, e0, z1, rfl, .inr ⟨vs, xss, rfl, z2, m⟩⟩
          obtain ⟨F', f1, f2, f3, r3⟩ := r2.frameAll e0 (fun _ z => nomatch z)
          refine ⟨_, z1, io, F', P2, _, r3, ?_⟩
          cases e2 : mo (La.set i .un) with
          | no => rw [e2] at h; exact h.elim
          | ex x L3 => rw [e2] at h; exact h.elim
          | ok ro L3 =>
            rw [e2] at h; dsimp only at h
            intro P3 H3 w u3 r4 hw
            cases e3 : ro.get L3 with
            | none => rw [e3] at h; exact h.elim
            | some dk =>
              rw [e3] at h
              cases dk with
              | int o =>
                dsimp only at h
                cases e4 : L2.atI xss o with
                | none => rw [e4] at h; exact h.elim
                | some xs =>
                  cases e5 : ixN xss.length o with
                  | none => rw [e4, e5] at h; exact h.elim
                  | some j =>
                    rw [e4, e5] at h; dsimp only at h
                    have := (r4.vw hw e3).int; subst this
                    have ej : xss[j]? = some xs := by unfold L2.atI at e4; rw [e5] at e4; exact e4
                    obtain ⟨b, ws, g1, g2, g3⟩ := z6.at ej
                    have mb : V.ref b ∈ vs := List.mem_of_getElem? g1
                    have Ha : H3 a = some (.lst vs) := r4.fh a _ (by rw [f2 a oa]; exact z2)
                    refine .inl ⟨a, vs, o, .ref b, rfl, rfl, SqL.of Ha, by unfold L2.atI; rw [z6.length, e5]; exact g1, ?_⟩
                    refine ⟨io, F', P3, L3, r4, ?_⟩
                    cases e6 : mk L3 with
                    | no => rw [e6] at h; exact h.elim
                    | ex x L4 => rw [e6] at h; exact h.elim
                    | ok rk L4 =>
                      rw [e6] at h; dsimp only at h
                      intro P4 H4 y u4 r5 hy
                      cases e7 : rk.get L4 with
                      | none => rw [e7] at h; exact h.elim
                      | some dk =>
                        cases e8 : L4[i]? with
                        | none => rw [e7, e8] at h; cases dk <;> exact h.elim
                        | some s4 =>
                          rw [e7, e8] at h
                          cases dk with
                          | int k =>
                            cases s4 with
                            | un =>
                              dsimp only at h
                              cases e9 : ixN xs.length k with
                              | none => rw [e9] at h; exact h.elim
                              | some t =>
                                rw [e9] at h
                                have := (r5.vw hy e7).int; subst this
                                have Hb : H4 b = some (.lst ws) := r5.fh b _ (by rw [f2 b (ob b mb)]; exact g2)
                                have Ha4 : H4 a = some (.lst vs) := r5.fh a _ (by rw [f2 a oa]; exact z2)
                                refine ⟨b, ws, k, t, rfl, rfl, Hb, by rw [g3.length]; exact e9, ?_⟩
                                have u24 : Up P2 P4 := u3.trans u4
                                have nab : a ≠ b := fun z => z5 (z ▸ mb)
                                have old : InL X.K g F P4 H4 vs xss := z6.chg u24 fun c m => by
                                  obtain ⟨⟨ws', k1⟩, k2, k3⟩ := z6.get m
                                  have fc := f2 c (ob c m)
                                  rw [k1] at fc
                                  exact ⟨(r5.fh c _ fc).trans k1.symm, (r5.fp c _ fc).1, k3⟩
                                have new := old.put (ValL.set (v2.up u24) t (g3.up u24)) g1
                                have fb : F' b = some (.lst ws) := by rw [f2 b (ob b mb)]; exact g2
                                have fa : F' a = some (.lst vs) := by rw [f2 a oa]; exact z2
                                have fin : Rep X.K g io F P4 σ (upd H4 b (.lst (ws.set t v))) (L4.set i (.l2 (xss.set j (xs.set t d)))) := by
                                  refine r5.slot e8 (fun j _ => rfl) rfl (fun _ => rfl) (fun c o' q => ?_) (fun c o' q => ?_) (fun c o' q => r5.fp c o' (f1 c o' q)) (.refl P4) (noIo (fun _ z => nomatch z) (fun _ z => nomatch z)) (fun j' c hj w => ?_) ⟨a, vs, z1, by rw [upd_ne nab]; exact Ha4, (r5.fp a _ fa).1, z4, z5, new⟩ fun c c' z w j' hj w' => ?_
                                  · rw [upd_ne (ne_of_none q (r5.fp b _ fb).1)]; exact r5.ph c o' q
                                  · rw [upd_ne (ne_of_none q (z6.get mb).2.2)]; exact r5.fh c o' (f1 c o' q)
                                  · have kc := r5.keepOwn w
                                    have nb : c ≠ b := fun z => by rw [z] at kc; rw [fb] at kc; cases kc.2.2
                                    refine ⟨by rw [upd_ne nb], kc.2.1, ?_⟩
                                    cases q : F c with
                                    | none => rfl
                                    | some o' => rw [f1 c o' q] at kc; cases kc.2.2
                                  · rw [z1] at z; cases z
                                    have kc := (r5.keepOwn w').2.2
                                    rcases w.2 with rfl | ⟨vs', xss', w1, w2, w3⟩
                                    · rw [fa] at kc; cases kc
                                    · rw [upd_ne nab, Ha4] at w2; cases w2
                                      obtain ⟨⟨ws', k1⟩, _, _⟩ := z6.get w3
                                      rw [f2 _ (ob _ w3), k1] at kc; cases kc
                                exact h P4 σ _ (u1.trans (u2.trans u24)) fin
                            | _ => exact h.elim
                          | _ => cases s4 <;> exact h.elim
              | _ => exact h.elim
        | _ => exact h.elim
end
end L2.Z

/-! part Z16 -/
set_option Elab.async false
set_option linter.all false
set_option maxRecDepth 100000
set_option maxHeartbeats 4000000
namespace L2.Z
open PySem PySem.Spec PyProof.Rows

/-! ### [new list for ..] -/
/-- lists that F holds beyond F0 -/
inductive InF (K : PySem.W.Frag) (g : Nm) (F0 F P : Hp) : List V → List (List D) → Prop
  | nil : InF K g F0 F P [] []
  | cons {b : Addr} {ws vs : List V} {xs : List D} {xss : List (List D)} : F b = some (.lst ws) → F0 b = none → ValL K g P ws xs → V.ref b ∉ vs → InF K g F0 F P vs xss → InF K g F0 F P (.ref b :: vs) (xs :: xss)
section
variable {K : PySem.W.Frag} {g : Nm} {F0 F F' P P' H : Hp}
theorem InF.up (u : Up P P') (f : Up F F') : ∀ {vs : List V} {xss : List (List D)}, InF K g F0 F P vs xss → InF K g F0 F' P' vs xss
  | _, _, .nil => .nil
  | _, _, .cons a b c d t => .cons (f _ _ a) b (c.up u) d (t.up u f)
theorem InF.mem {b : Addr} : ∀ {vs : List V} {xss : List (List D)}, InF K g F0 F P vs xss → V.ref b ∈ vs → (∃ ws, F b = some (.lst ws)) ∧ F0 b = none
  | _, _, .nil, m => nomatch m
  | _, _, .cons (b := b') e1 e2 _ _ t, m => by
    by_cases h : b = b'
    · subst h; exact ⟨⟨_, e1⟩, e2⟩
    · rcases List.mem_cons.mp m with z | z
      · cases z; exact absurd rfl h
      · exact t.mem z
theorem InF.snoc {b : Addr} {ws : List V} {xs : List D} (e1 : F b = some (.lst ws)) (e2 : F0 b = none) (e3 : ValL K g P ws xs) : ∀ {vs : List V} {xss : List (List D)}, InF K g F0 F P vs xss → V.ref b ∉ vs → InF K g F0 F P (vs ++ [.ref b]) (xss ++ [xs])
  | _, _, .nil, _ => .cons e1 e2 e3 (by simp) .nil
  | _, _, .cons (b := b') a1 a2 a3 a4 t, n => by
    refine .cons a1 a2 a3 (fun m => ?_) (t.snoc e1 e2 e3 fun m => n (List.mem_cons_of_mem _ m))
    rcases List.mem_append.mp m with z | z
    · exact a4 z
    · rw [List.mem_singleton] at z; cases z; exact n (List.mem_cons_self ..)
theorem InF.inL (fh : Up F H) (fp : ∀ a o, F a = some o → P a = none) : ∀ {vs : List V} {xss : List (List D)}, InF K g F0 F P vs xss → InL K g F0 P H vs xss
  | _, _, .nil => .nil
  | _, _, .cons a b c d t => .cons (fh _ _ a) (fp _ _ a) b c d (t.inL fh fp)
theorem InF.length : ∀ {vs : List V} {xss : List (List D)}, InF K g F0 F P vs xss → vs.length = xss.length
  | _, _, .nil => rfl
  | _, _, .cons _ _ _ _ t => by rw [List.length_cons, List.length_cons, t.length]
end
/-- a new list of new lists that nothing else knows -/
def tG (K : PySem.W.Frag) (g : Nm) (W : WX) (m : Lo → R (List (List D))) : TE := fun σ H Q => ∃ io F P L, Rep K g io F P σ H L ∧ match m L with
  | .ok xss L' => ∀ P' H' a vs, Up P P' → Rep K g io F P' σ H' L' → H' a = some (.lst vs) → P' a = none → F a = none → V.ref a ∉ vs → InL K g F P' H' vs xss → (∀ i b, (b = a ∨ V.ref b ∈ vs) → ¬ Own σ H' L' i b) → Q (.ref a) H'
  | .ex x L' => XPost K g W io F P σ x L'
  | .no => False
def compGo2 (vs : List Nat) (gm : D → Lo → Option Lo) (mt : Lo → R Bool) (me : Lo → R (List D)) : List D → Lo → R (List (List D))
  | [], L => .ok [] L
  | x :: xs, L => match gm x (wipeS L vs) with
    | some L2 => match mt L2 with
      | .ok true L3 => match me L3 with
        | .ok d L5 => match compGo2 vs gm mt me xs (unw L L5 vs) with
          | .ok ds L6 => .ok (d :: ds) L6
          | _ => .no
        | _ => .no
      | .ok false L3 => compGo2 vs gm mt me xs (unw L L3 vs)
      | _ => .no
    | none => .no
def gComp (vs : List Nat) (src : Lo → R (List D)) (gm : D → Lo → Option Lo) (mt : Lo → R Bool) (me : Lo → R (List D)) : Lo → R (List (List D)) := fun L => match src L with
  | .ok xs L1 => if (decide (xs.length ≤ lineN) && noOwnAt L1 vs) = true then match compGo2 vs gm mt me xs L1 with
      | .ok ds L2 => .ok ds L2
      | _ => .no
    else .no
  | .ex x L1 => .ex x L1
  | .no => .no
theorem upd_comm {a b : Addr} (h : a ≠ b) (F : Hp) (x y : HO) : upd (upd F a x) b y = upd (upd F b y) a x := by
  funext c
  by_cases ha : c = a
  · subst ha; rw [upd_ne h, upd_same, upd_same]
  · by_cases hb : c = b
    · subst hb; rw [upd_same, upd_ne ha, upd_same]
    · rw [upd_ne hb, upd_ne ha, upd_ne ha, upd_ne hb]
section
variable {K : PySem.W.Frag} {g : Nm} {W : WX}
theorem lcG_w {wi : TI} {gt : TG} {src : Lo → R (List D)} {gm : D → Lo → Option Lo} {mt : Lo → R Bool} {me : Lo → R (List D)} {vs : List Nat} (hi : Is K g W src wi) (hg : TgOk K g gt gm vs) (σ : L2.St) (H : Hp) (Q : VK) (h : tG K g W (gComp vs src gm mt me) σ H Q) :
    tLc wi gt (tT K g WF mt) (tF K g WF me) vs σ H Q := by
  obtain ⟨io, F, P, L, r, h⟩ := h
  refine hi σ H _ ⟨io, F, P, L, r, ?_⟩
  unfold gComp at h
  cases e : src L with
  | no => rw [e] at h; exact h
  | ex x L1 => rw [e] at h; exact h
  | ok xs L1 =>
    rw [e] at h; dsimp only at h
    intro P1 H1 J u1 r1 hs D nD
    by_cases hc : (decide (xs.length ≤ lineN) && noOwnAt L1 vs) = true
    · rw [if_pos hc] at h
      rw [Bool.and_eq_true, decide_eq_true_eq] at hc
      obtain ⟨hlen, hno⟩ := hc
      obtain ⟨r2, n1, n2, n3⟩ := r1.new0 (o := .lst []) nD
      have r2' := r2.frame upd_same n1 (fun z => z) n3
      refine ⟨fun i m H => m = xs.length - i ∧ i ≤ xs.length ∧ ∃ P L FI accv acc, Up P1 P ∧ Up F FI ∧ FI D = none ∧ Rep K g io (upd FI D (.lst accv)) P σ H L ∧ InF K g F FI P accv acc ∧ accv.length ≤ i ∧ noOwnAt L vs = true ∧
        (match compGo2 vs gm mt me (xs.drop i) L with
          | .ok ds L6 => ∀ P' H' a ws, Up P P' → Rep K g io F P' σ H' L6 → H' a = some (.lst ws) → P' a = none → F a = none → V.ref a ∉ ws → InL K g F P' H' ws (acc ++ ds) → (∀ i b, (b = a ∨ V.ref b ∈ ws) → ¬ Own σ H' L6 i b) → Q (.ref a) H'
          | _ => False), ⟨_, rfl, Nat.zero_le _, P1, L1, F, [], [], .refl _, .refl _, n2, r2', .nil, Nat.le_refl _, hno, ?_⟩, ?_⟩
      · rw [List.drop_zero]
        cases e2 : compGo2 vs gm mt me xs L1 with
        | no => rw [e2] at h; exact h
        | ex x L2 => rw [e2] at h; exact h
        | ok ds L2 => rw [e2] at h; exact fun P' H' a ws u => h P' H' a ws (u1.trans u)
      · rintro i m H ⟨rfl, hi, P2, La, FI, accv, acc, u2, uF, nFI, r3, hacc, hal, hno2, h2⟩
        by_cases hlt : i < xs.length
        · obtain ⟨go, yl⟩ := (hs P2 H u2 r3.ph i).1 hlt
          refine .inr ⟨go, fun H' => i + 1 ≤ xs.length ∧ ∃ P L FI accv acc, Up P1 P ∧ Up F FI ∧ FI D = none ∧ Rep K g io (upd FI D (.lst accv)) P σ H' L ∧ InF K g F FI P accv acc ∧ accv.length ≤ i + 1 ∧ noOwnAt L vs = true ∧
            (match compGo2 vs gm mt me (xs.drop (i + 1)) L with
              | .ok ds L6 => ∀ P' H' a ws, Up P P' → Rep K g io F P' σ H' L6 → H' a = some (.lst ws) → P' a = none → F a = none → V.ref a ∉ ws → InL K g F P' H' ws (acc ++ ds) → (∀ i b, (b = a ∨ V.ref b ∈ ws) → ¬ Own σ H' L6 i b) → Q (.ref a) H'
              | _ => False), fun H' ⟨a, q⟩ => ⟨xs.length - (i + 1), by omega, rfl, a, q⟩, fun x H' y => ?_⟩
          obtain ⟨P3, d, e1, gr, hv⟩ := yl x H' y
          have r4 := r3.nxt gr.nxt
          have no := noOwnAt_of hno2
          have r5 := r4.wipe (vs := vs) fun i hi => (no i hi).1
          have ed : xs.drop i = d :: xs.drop (i + 1) := by
            obtain ⟨hlt', e1'⟩ := List.getElem?_eq_some_iff.mp e1
            rw [← e1', List.drop_eq_getElem_cons hlt]
          rw [ed] at h2
          unfold compGo2 at h2
          cases e2 : gm d (wipeS La vs) with
          | none => rw [e2] at h2; exact h2.elim
          | some L3 =>
            rw [e2] at h2; dsimp only at h2
            refine hg io _ P3 _ H' _ x d L3 r5 hv e2 _ fun σ3 r6 ag agl => ?_
            have agσ : ∀ j, j ∉ vs → σ3[j]? = σ[j]? := fun j hj => (ag j hj).trans (wipe_out hj)
            have hlσ : σ3.length = σ.length := agl.trans (L2.wipe_length σ vs)
            refine ⟨wipe_ext hlσ agσ, ?_⟩
            refine ⟨io, _, P3, L3, r6, ?_⟩
            cases e3 : mt L3 with
            | no => rw [e3] at h2; exact h2.elim
            | ex x L4 => rw [e3] at h2; exact h2.elim
            | ok b L4 =>
              rw [e3] at h2
              intro P4 H4 u4 r7
              cases b with
              | false =>
                rw [if_neg (by decide)]
                dsimp only at h2
                have r8 := r4.unw r7 (u4) agσ hlσ no
                refine ⟨hlt, P4, _, FI, accv, acc, (u2.trans gr.p).trans u4, uF, nFI, r8, hacc.up (gr.p.trans u4) (.refl _), Nat.le_succ_of_le hal, ?_, ?_⟩
                · exact noOwn_unw hno2 (by rw [← r7.len, hlσ, r4.len])
                · cases e9 : compGo2 vs gm mt me (xs.drop (i + 1)) (Z.unw La L4 vs) with
                  | no => rw [e9] at h2; exact h2.elim
                  | ex x L => rw [e9] at h2; exact h2.elim
                  | ok ds L6 => rw [e9] at h2; exact fun P' H' a ws u => h2 P' H' a ws ((gr.p.trans u4).trans u)
              | true =>
                rw [if_pos rfl]
                dsimp only at h2
                refine ⟨io, _, P4, L4, r7, ?_⟩
                cases e4 : me L4 with
                | no => rw [e4] at h2; exact h2.elim
                | ex x L5 => rw [e4] at h2; exact h2.elim
                | ok d' L6 =>
                  rw [e4] at h2; dsimp only at h2
                  intro P5 H5 b bs u5 r8 k1 k2 k3 k4 k5
                  have nbD : b ≠ D := fun z => by rw [z, upd_same] at k3; cases k3
                  have nFb : FI b = none := by rw [upd_ne nbD] at k3; exact k3
                  have nF0 : F b = none := by
                    cases q : F b with
                    | none => rfl
                    | some o => rw [uF b o q] at nFb; cases nFb
                  have r9 := r8.frame k1 k2 (fun z => z) k4
                  rw [upd_comm (fun z => nbD z.symm)] at r9
                  have r10 := r4.unw r9 (u4.trans u5) agσ hlσ no
                  have r11 := r10.reframe (o' := .lst (accv ++ [.ref b])) (fun z => z)
                  have nbv : V.ref b ∉ accv := fun m => by
                    obtain ⟨⟨ws, q⟩, _⟩ := hacc.mem m
                    rw [nFb] at q; cases q
                  have hacc' := (hacc.up ((gr.p.trans u4).trans u5) (up_new nFb)).snoc upd_same nF0 k5 nbv
                  refine ⟨accv, r10.fh D _ upd_same, line_lt (by omega), hlt, P5, _, upd FI b (.lst bs), accv ++ [.ref b], acc ++ [d'], ((u2.trans gr.p).trans u4).trans u5, uF.trans (up_new nFb), by rw [upd_ne fun z => nbD z.symm]; exact nFI, r11, hacc', by rw [List.length_append, List.length_singleton]; omega, ?_, ?_⟩
                  · exact noOwn_unw hno2 (by rw [← r8.len, hlσ, r4.len])
                  · cases e9 : compGo2 vs gm mt me (xs.drop (i + 1)) (Z.unw La L6 vs) with
                    | no => rw [e9] at h2; exact h2.elim
                    | ex x L => rw [e9] at h2; exact h2.elim
                    | ok ds L7 =>
                      rw [e9] at h2
                      intro P' H' a ws u
                      rw [List.append_assoc]
                      exact h2 P' H' a ws (((gr.p.trans u4).trans u5).trans u)
        · have ei : i = xs.length := by omega
          subst ei
          refine .inl ⟨(hs P2 H u2 r3.ph _).2 (Nat.le_refl _), ?_⟩
          rw [List.drop_length] at h2
          have n4 := r3.noOwn (upd_same (a := D))
          have ux : Up F (upd FI D (.lst accv)) := uF.trans (up_new nFI)
          refine h2 P2 H D accv (.refl _) (r3.less ux) (r3.fh D _ upd_same) (r3.fp D _ upd_same).1 n2 (fun m => ?_) ?_ fun i b hb => ?_
          · obtain ⟨⟨ws, q⟩, _⟩ := hacc.mem m
            rw [nFI] at q; cases q
          · rw [List.append_nil]
            exact (hacc.up (.refl _) (up_new nFI)).inL r3.fh fun a o q => (r3.fp a o q).1
          · rcases hb with rfl | m
            · exact n4 i
            · obtain ⟨⟨ws, q⟩, _⟩ := hacc.mem m
              have nbD : b ≠ D := fun z => by rw [z, nFI] at q; cases q
              exact r3.noOwn (a := b) (o := .lst ws) (by rw [upd_ne nbD]; exact q) i
    · rw [if_neg hc] at h; exact h.elim
end
section
variable {X : Cx} {g : Nm} {W : WX}
variable {elt tg iter : Expr} {ifs : List Expr} {scope : Scope} {own : List (Str × Nat)} {pos : Pos} {gt : TG} {src : Lo → R (List D)} {gm : D → Lo → Option Lo} {mt : Lo → R Bool} {me : Lo → R (List D)}
theorem mg_comp (hc : X.calm = true) (hN : X.N.Nodup) (hi : MI X g W tg iter src) (ok : BlkOk X.N X.env.scope scope own)
    (hg : ∀ (s : Shared) (H : Hp) (C : Addr) (cl : List (Str × Addr)) (fp : List Addr), PG (X.blk s H scope (compEnvC scope cl C X.env) fp) tg gt) (hgm : TgOk X.K g gt gm (own.map (·.2)))
    (ht : ∀ (s : Shared) (H : Hp) (C : Addr) (cl : List (Str × Addr)) (fp : List Addr), PTs (X.blk s H scope (compEnvC scope cl C X.env) fp) ifs (tT X.K g WF mt))
    (he : ∀ (s : Shared) (H : Hp) (C : Addr) (cl : List (Str × Addr)) (fp : List Addr), PE (X.blk s H scope (compEnvC scope cl C X.env) fp) elt (tF X.K g WF me)) (hs : ∀ x, foldedSetIterable iter X.env x = pure x := by intro _; rfl) :
    PE X (.ListComp elt [⟨tg, iter, ifs, 0⟩] scope pos) (tG X.K g W (gComp (own.map (·.2)) src gm mt me)) := by
  obtain ⟨wi, h1, h2⟩ := hi
  exact (pe_lc hc hN h1 ok hg ht he hs).weak (lcG_w h2 hgm)
theorem ms_setCG {i : Nat} {y : Str} {py spos : Pos} (hc : X.calm = true) (hN : X.N.Nodup) (hy : X.N[i]? = some y) (hyl : X.env.scope.names.lookup y = some .local)
    (hsw : swapsWith (.ListComp elt [⟨tg, iter, ifs, 0⟩] scope pos) (some (.Name y py)) spos.line X.env = pure true) (hi : MI X g W tg iter src) (ok : BlkOk X.N X.env.scope scope own)
    (hg : ∀ (s : Shared) (H : Hp) (C : Addr) (cl : List (Str × Addr)) (fp : List Addr), PG (X.blk s H scope (compEnvC scope cl C X.env) fp) tg gt) (hgm : TgOk X.K g gt gm (own.map (·.2)))
    (ht : ∀ (s : Shared) (H : Hp) (C : Addr) (cl : List (Str × Addr)) (fp : List Addr), PTs (X.blk s H scope (compEnvC scope cl C X.env) fp) ifs (tT X.K g WF mt))
    (he : ∀ (s : Shared) (H : Hp) (C : Addr) (cl : List (Str × Addr)) (fp : List Addr), PE (X.blk s H scope (compEnvC scope cl C X.env) fp) elt (tF X.K g WF me)) (hs : ∀ x, foldedSetIterable iter X.env x = pure x := by intro _; rfl) :
    PS X (.Assign [.Name y py] (.ListComp elt [⟨tg, iter, ifs, 0⟩] scope pos) spos) (tAsg (tG X.K g W (gComp (own.map (·.2)) src gm mt me)) (gName i)) := by
  obtain ⟨wi, h1, h2⟩ := hi
  exact asg_w (ps_setLc hc hN hy hyl hsw h1 ok hg ht he hs) (lcG_w h2 hgm)
def sSetG (i : Nat) (m : Lo → R (List (List D))) : Lo → SR := fun L => match m L with
  | .ok xss L1 => putS i (.l2 xss) L1
  | .ex x L1 => .ex x L1
  | .no => .no
theorem ms_setG {st : Stmt} {i : Nat} {m : Lo → R (List (List D))} (h : PS X st (tAsg (tG X.K g W m) (gName i))) : PS X st (tS X.K g W (sSetG i m)) := h.weak fun D σ H ⟨io, F, P, L, r, h⟩ => by
  refine ⟨io, F, P, L, r, ?_⟩
  unfold sSetG at h
  cases e : m L with
  | ok xs L1 =>
    rw [e] at h; try dsimp only at h
    intro P' H' a vs u r' e1 e2 e3 e4 e5 e8
    simp only [putS] at h
    cases e6 : L1[i]? with
    | none => rw [e6] at h; exact h.elim
    | some s0 =>
      rw [e6] at h
      try dsimp only at h
      cases e7 : isIo s0 with
      | true => rw [e7] at h; exact h.elim
      | false =>
        rw [e7] at h
        refine h P' _ H' u (r'.set e6 (isIo_ne e7) (fun _ z => nomatch z) ⟨a, vs, rfl, e1, e2, e3, e4, e5⟩ (fun c b z w j q => ?_))
        cases z
        rcases w.2 with rfl | ⟨vs', xss', z1, z2, z3⟩
        · exact e8 j _ (.inl rfl) q
        · rw [e1] at z2; cases z2
          exact e8 j _ (.inr z3) q
  | ex x L1 => rw [e] at h; exact fun P' H' c dd u r' e' => h P' σ H' c dd u r' e'
  | no => rw [e] at h; exact h

/-! ### a new list, or another if it is empty -/
def fOr (a b : Lo → R (List D)) : Lo → R (List D) := fun L => match a L with
  | .ok [] L1 => b L1
  | .ok (x :: xs) L1 => .ok (x :: xs) L1
  | .ex x L1 => .ex x L1
  | .no => .no
theorem mf_or {a b : Expr} {rest : List Expr} {pos : Pos} {m n : Lo → R (List D)} (h : PE X a (tF X.K g W m)) (h2 : PE X (.BoolOp .Or (b :: rest) pos) (tF X.K g W n)) : PE X (.BoolOp .Or (a :: b :: rest) pos) (tF X.K g W (fOr m n)) := (pe_orT h h2).weak fun σ H Q ⟨io, F, P, L, r, q⟩ => by
  refine ⟨io, F, P, L, r, ?_⟩
  unfold fOr at q
  cases e : m L with
  | no => rw [e] at q; exact q
  | ex x L1 => rw [e] at q; exact q
  | ok xs L1 =>
    rw [e] at q
    intro P' H' p vs u r' h1 h2 h3 h4 h5
    cases xs with
    | nil =>
      cases h5
      dsimp only at q
      refine ⟨false, .inl ⟨[], SqL.of h1, rfl⟩, ?_⟩
      rw [if_neg (by decide)]
      refine ⟨io, F, P', L1, r', ?_⟩
      cases e2 : n L1 with
      | no => rw [e2] at q; exact q
      | ex x L2 => rw [e2] at q; exact XPost.up u q
      | ok ys L2 => rw [e2] at q; exact fun P2 H2 a vs u2 => q P2 H2 a vs (u.trans u2)
    | cons x xs =>
      cases h5 with
      | cons a b =>
      refine ⟨true, .inl ⟨_, SqL.of h1, rfl⟩, ?_⟩
      rw [if_pos rfl]
      exact q P' H' p _ u r' h1 h2 h3 h4 (.cons a b)
theorem mf_one {op : BoolOp} {a : Expr} {pos : Pos} {m : Lo → R (List D)} (h : PE X a (tF X.K g W m)) : PE X (.BoolOp op [a] pos) (tF X.K g W m) := pe_one h
end

/-! ### min, max of a list of ints -/
section
variable {K : PySem.W.Frag} {g : Nm}
def minLD : List D → Option D
  | [.lst xs] => match intsOf xs with
    | some (n :: ns) => some (.int (ns.foldl min n))
    | _ => none
  | _ => none
def maxLD : List D → Option D
  | [.lst xs] => match intsOf xs with
    | some (n :: ns) => some (.int (ns.foldl max n))
    | _ => none
  | _ => none
theorem foldl_min : ∀ (ns : List Int) (n : Int), (ns.foldl min n = n ∨ ns.foldl min n ∈ ns) ∧ ns.foldl min n ≤ n ∧ ∀ y ∈ ns, ns.foldl min n ≤ y
  | [], n => ⟨.inl rfl, Int.le_refl _, by simp⟩
  | a :: ns, n => by
    obtain ⟨h1, h2, h3⟩ := foldl_min ns (min n a)
    rw [List.foldl_cons]
    refine ⟨?_, by omega, fun y hy => ?_⟩
    · rcases h1 with h | h
      · rw [h]
        rcases Int.le_total n a with q | q
        · left; omega
        · right; rw [List.mem_cons]; left; omega
      · exact .inr (List.mem_cons_of_mem _ h)
    · rcases List.mem_cons.mp hy with rfl | q
      · omega
      · exact h3 y q
theorem foldl_max : ∀ (ns : List Int) (n : Int), (ns.foldl max n = n ∨ ns.foldl max n ∈ ns) ∧ n ≤ ns.foldl max n ∧ ∀ y ∈ ns, y ≤ ns.foldl max n
  | [], n => ⟨.inl rfl, Int.le_refl _, by simp⟩
  | a :: ns, n => by
    obtain ⟨h1, h2, h3⟩ := foldl_max ns (max n a)
    rw [List.foldl_cons]
    refine ⟨?_, by omega, fun y hy => ?_⟩
    · rcases h1 with h | h
      · rw [h]
        rcases Int.le_total n a with q | q
        · right; rw [List.mem_cons]; left; omega
        · left; omega
      · exact .inr (List.mem_cons_of_mem _ h)
    · rcases List.mem_cons.mp hy with rfl | q
      · omega
      · exact h3 y q
theorem o_minL : OpN K g (rMin K) minLD := by
  intro P H vs ds d Q u hv e q
  match ds, e with
  | [.lst xs], e =>
    replace e : (match intsOf xs with | some (n :: ns) => some (D.int (ns.foldl min n)) | _ => none) = some d := e
    cases e1 : intsOf xs with
    | none => rw [e1] at e; cases e
    | some bs =>
      cases bs with
      | nil => rw [e1] at e; cases e
      | cons n ns =>
        rw [e1] at e; cases e
        obtain ⟨v, rfl, hw⟩ := hv.one
        obtain ⟨a, ws, rfl, s, r⟩ := hw.lst u
        rw [intsOf_eq e1] at r
        have := r.ints; subst this
        refine ⟨a, n :: ns, rfl, SqL.of s, by simp, fun m hm hle => ?_⟩
        obtain ⟨h1, h2, h3⟩ := foldl_min ns n
        have : m = ns.foldl min n := by
          apply Int.le_antisymm
          · rcases h1 with z | z
            · rw [z]; exact hle n (List.mem_cons_self ..)
            · exact hle _ (List.mem_cons_of_mem _ z)
          · rcases List.mem_cons.mp hm with rfl | z
            · exact h2
            · exact h3 m z
        subst this
        exact q P H _ (.refl u) (.int _)
theorem o_maxL : OpN K g (rMax K) maxLD := by
  intro P H vs ds d Q u hv e q
  match ds, e with
  | [.lst xs], e =>
    replace e : (match intsOf xs with | some (n :: ns) => some (D.int (ns.foldl max n)) | _ => none) = some d := e
    cases e1 : intsOf xs with
    | none => rw [e1] at e; cases e
    | some bs =>
      cases bs with
      | nil => rw [e1] at e; cases e
      | cons n ns =>
        rw [e1] at e; cases e
        obtain ⟨v, rfl, hw⟩ := hv.one
        obtain ⟨a, ws, rfl, s, r⟩ := hw.lst u
        rw [intsOf_eq e1] at r
        have := r.ints; subst this
        refine ⟨a, n :: ns, rfl, SqL.of s, by simp, fun m hm hle => ?_⟩
        obtain ⟨h1, h2, h3⟩ := foldl_max ns n
        have : m = ns.foldl max n := by
          apply Int.le_antisymm
          · rcases List.mem_cons.mp hm with rfl | z
            · exact h2
            · exact h3 m z
          · rcases h1 with z | z
            · rw [z]; exact hle n (List.mem_cons_self ..)
            · exact hle _ (List.mem_cons_of_mem _ z)
        subst this
        exact q P H _ (.refl u) (.int _)
end
end L2.Z

/-! part Z17 -/
set_option Elab.async false
set_option linter.all false
set_option maxRecDepth 100000
set_option maxHeartbeats 4000000
namespace L2.Z
open PySem PySem.Spec PyProof.Rows

/-! ### from the head's facts -/
section
variable {K : PySem.W.Frag} {h : Heap} {mg : Str → Option Value}
theorem funOf {x : Str} {st : Stmt} {f : Addr} {fd : FuncData} (D : FunD K x x (defArgs st) (defBody st) (defScope st) [] [] f fd) : Fun K x x st f fd := by
  obtain ⟨⟨oc, od, dV, kV, doc, pm, an, cdv, ct, osl, e1, e2, e3, e4, _⟩, kp⟩ := D
  rcases e4 with ⟨_, e4⟩ | ⟨e4, _⟩
  · subst e4
    exact ⟨⟨oc, od, kV, doc, pm, an, cdv, ct, osl, e1, e2, e3⟩, kp⟩
  · exact absurd rfl e4
theorem atTop {x : Str} {st : Stmt} (D : ∃ fd, FunD K x x (defArgs st) (defBody st) (defScope st) [] [] (He.ga K x) fd) (gl : mg x = some (.ref (He.ga K x))) : AtTop K mg x st :=
  ⟨_, D.choose, funOf D.choose_spec, gl⟩
theorem excK {x : Str} {C : Addr} (hC : C = He.ga K x) (e : (He.Fa.exc x).ok K = true) (gl : mg x = some (.ref (He.ga K x))) : ExcK K mg x C := by
  subst hC
  obtain ⟨a, b, c, d⟩ := He.exc_ok e
  exact ⟨a, gl, b, c, d⟩
end
/-- the law's promise: True for every script -/
def spLaw (K : PySem.W.Frag) (n : Nat) : Sp := fun vs H Q _ => ∃ (a : Addr) (ns : List Int), vs = [.ref a] ∧ SqL K H a (ns.map V.int) ∧ ns.length ≤ n ∧ ∀ H', Q (.bl true) H'
theorem law_of {Pg : Program} {w : World} {K : PySem.W.Frag} {g : Nm} {mg : Str → Option Value} {base : Heap} {k n : Nat} {f0 : Addr} {fd : FuncData} {ps : List Str} {f : List D → FR D} (c : FnOk Pg w K mg base (L2.CX Pg w) k f0 fd ps (spP K g 1 f)) (T : ∀ ns : List Int, ns.length ≤ n → f [.scr ns] = .ok (.bl true)) :
    FnOk Pg w K mg base (L2.CX Pg w) k f0 fd ps (spLaw K n) := c.imp fun vs H Q E h => by
  obtain ⟨a, ns, rfl, hS, hl, q⟩ := h
  refine ⟨rfl, H, [.scr ns], .refl H, .one (.scr ns hS), ?_⟩
  rw [T ns hl]
  exact fun P' H' v _ hv => by rw [hv.bl_inv]; exact q H'
theorem noCX {P : Program} {w : World} {H : Hp} {s s' : Shared} {e : Value} (h : L2.CX P w [] H s (fun _ _ _ => False) e s') : False := by
  obtain ⟨_, _, _, _, _, _, _, _, _, _, _, _, z⟩ := h
  exact z
/-- the law over its promise -/
theorem walkZ {l : PySem.W.OpenLaw} {n k : Nat} {q : Program} {loose : List Str} {XP : (Str → Option Value) → Heap → Prop} {YP : World → Heap → Prop} {d : DefRec} {x : Str} (h1 : l.most = some n) (h2 : n ≤ sizeLine) (h3 : d.params.defaults = []) (h4 : Room k callerA)
    (F : ∀ (w : World) (mg : Str → Option Value) (fa : Addr) (h : Heap), YP w h → h.Ns mainGlobals mg → mg d.name = some (.ref fa) → ∃ (K : PySem.W.Frag) (fd : FuncData), K.In h ∧ (∀ (s : Shared) (u : Value), BindsTo s fd ⟨[u], []⟩ [(x, u)]) ∧ ∀ base : Heap, FnOk l.prog w K mg base (L2.CX l.prog w) k fa fd [x] (spLaw K n)) :
    PySem.W.WalkO q loose XP YP l.row.toRowW d [] (fun f vs => PySem.call f vs) :=
  Att.attach_call h1 h3 fun w s₀ s₁ mg mb fa o pm cd doc a vs ns G Y _ _ _ hmg hobj hi hlen hg =>
    match F w mg fa _ Y G.T.g hmg with
    | ⟨_, _, KX, hb, c⟩ => law_call KX G.T.g G.T.b G.T.builtins G.T.nolimit hg hobj hi (Nat.le_trans hlen h2) h4 (fun base _ _ => c base) hb (fun _ _ hS => ⟨a, ns, rfl, hS, hlen, fun _ => rfl⟩) fun _ _ _ => noCX
end L2.Z

/-! part Z18 -/
set_option Elab.async false
set_option linter.all false
set_option maxRecDepth 100000
set_option maxHeartbeats 4000000
namespace L2.Z
open PySem PySem.Spec PyProof.Rows

/-! ### plain data, == -/
mutual
def pl : Nat → D → Bool
  | _, .non => true
  | _, .bl _ => true
  | _, .int _ => true
  | _, .str x => PyData.strOk x
  | n + 1, .tup xs => plL n xs
  | n + 1, .lst xs => plL n xs
  | _, _ => false
def plL : Nat → List D → Bool
  | _, [] => true
  | n, x :: xs => pl n x && plL n xs
end
mutual
def eqv : D → D → Bool
  | .non, .non => true
  | .bl a, .bl b => a == b
  | .bl a, .int j => (if a then 1 else 0) == j
  | .int i, .bl b => i == (if b then 1 else 0)
  | .int i, .int j => i == j
  | .str x, .str y => x == y
  | .tup xs, .tup ys => eqvL xs ys
  | .lst xs, .lst ys => eqvL xs ys
  | _, _ => false
def eqvL : List D → List D → Bool
  | [], [] => true
  | x :: xs, y :: ys => eqv x y && eqvL xs ys
  | _, _ => false
end
mutual
theorem toPy_pl : ∀ (n : Nat) (d : D), pl n d = true → ∃ y, toPy d = some y ∧ y.canLay0 = true ∧ y.depth ≤ n
  | n, .non, _ => ⟨.none, by simp only [toPy], by simp only [PyData.canLay0], by simp only [PyData.depth]; omega⟩
  | n, .bl b, _ => ⟨.bool b, by simp only [toPy], by simp only [PyData.canLay0], by simp only [PyData.depth]; omega⟩
  | n, .int i, _ => ⟨.int i, by simp only [toPy], by simp only [PyData.canLay0], by simp only [PyData.depth]; omega⟩
  | n, .str x, h => ⟨.str x, by simp only [toPy], by simp only [PyData.canLay0]; cases n <;> (unfold pl at h; exact h), by simp only [PyData.depth]; omega⟩
  | n + 1, .tup xs, h => by
    unfold pl at h
    obtain ⟨ys, h1, h2, h3⟩ := toPyL_pl n xs h
    exact ⟨.tuple ys, by simp only [toPy, h1], by simp only [PyData.canLay0]; exact h2, by simp only [PyData.depth]; omega⟩
  | n + 1, .lst xs, h => by
    unfold pl at h
    obtain ⟨ys, h1, h2, h3⟩ := toPyL_pl n xs h
    exact ⟨.list ys, by simp only [toPy, h1], by simp only [PyData.canLay0]; exact h2, by simp only [PyData.depth]; omega⟩
  | 0, .tup xs, h => by unfold pl at h; cases h
  | 0, .lst xs, h => by unfold pl at h; cases h
  | n, .dct _, h => by cases n <;> (unfold pl at h; cases h)
  | n, .fn _, h => by cases n <;> (unfold pl at h; cases h)
  | n, .scr _, h => by cases n <;> (unfold pl at h; cases h)
theorem toPyL_pl : ∀ (n : Nat) (xs : List D), plL n xs = true → ∃ ys, toPyL xs = some ys ∧ PyData.canLayAll0 ys = true ∧ PyData.depthAll ys ≤ n
  | n, [], _ => ⟨[], by simp only [toPyL], by simp only [PyData.canLayAll0], by simp only [PyData.depthAll]; omega⟩
  | n, x :: xs, h => by
    unfold plL at h
    rw [Bool.and_eq_true] at h
    obtain ⟨y, a1, a2, a3⟩ := toPy_pl n x h.1
    obtain ⟨ys, b1, b2, b3⟩ := toPyL_pl n xs h.2
    exact ⟨y :: ys, by simp only [toPyL, a1, b1], by simp only [PyData.canLayAll0, a2, b2, Bool.and_self], by simp only [PyData.depthAll]; omega⟩
end
mutual
theorem eqv_py : ∀ (a b : D) (x y : PyData), toPy a = some x → toPy b = some y → PyData.eqv x y = eqv a b := by
  intro a b x y h1 h2
  cases a with
  | tup xs =>
    simp only [toPy] at h1
    cases e1 : toPyL xs with
    | none => rw [e1] at h1; cases h1
    | some x' =>
      rw [e1] at h1; cases h1
      cases b with
      | tup ys =>
        simp only [toPy] at h2
        cases e2 : toPyL ys with
        | none => rw [e2] at h2; cases h2
        | some y' =>
          rw [e2] at h2; cases h2
          simp only [PyData.eqv, eqv]
          exact eqvL_py xs ys x' y' e1 e2
      | lst ys =>
        simp only [toPy] at h2
        cases e2 : toPyL ys with
        | none => rw [e2] at h2; cases h2
        | some y' => rw [e2] at h2; cases h2; simp only [PyData.eqv, eqv]
      | _ => simp only [toPy] at h2 <;> first | (cases h2; simp only [PyData.eqv, eqv]) | cases h2
  | lst xs =>
    simp only [toPy] at h1
    cases e1 : toPyL xs with
    | none => rw [e1] at h1; cases h1
    | some x' =>
      rw [e1] at h1; cases h1
      cases b with
      | lst ys =>
        simp only [toPy] at h2
        cases e2 : toPyL ys with
        | none => rw [e2] at h2; cases h2
        | some y' =>
          rw [e2] at h2; cases h2
          simp only [PyData.eqv, eqv]
          exact eqvL_py xs ys x' y' e1 e2
      | tup ys =>
        simp only [toPy] at h2
        cases e2 : toPyL ys with
        | none => rw [e2] at h2; cases h2
        | some y' => rw [e2] at h2; cases h2; simp only [PyData.eqv, eqv]
      | _ => simp only [toPy] at h2 <;> first | (cases h2; simp only [PyData.eqv, eqv]) | cases h2
  | _ =>
    simp only [toPy] at h1 <;> cases h1 <;> cases b <;> first
      | (simp only [toPy] at h2 <;> cases h2 <;> simp only [PyData.eqv, eqv])
      | (rename_i ys
         simp only [toPy] at h2
         cases e2 : toPyL ys with
         | none => rw [e2] at h2; cases h2
         | some y' => rw [e2] at h2; cases h2; simp only [PyData.eqv, eqv])
theorem eqvL_py : ∀ (xs ys : List D) (x y : List PyData), toPyL xs = some x → toPyL ys = some y → PyData.eqvAll x y = eqvL xs ys
  | [], [], x, y, h1, h2 => by simp only [toPyL] at h1 h2; cases h1; cases h2; simp only [PyData.eqvAll, eqvL]
  | [], b :: ys, x, y, h1, h2 => by
    simp only [toPyL] at h1 h2; cases h1
    cases e1 : toPy b with
    | none => rw [e1] at h2; cases h2
    | some b' =>
      cases e2 : toPyL ys with
      | none => rw [e1, e2] at h2; cases h2
      | some y' => rw [e1, e2] at h2; cases h2; simp only [PyData.eqvAll, eqvL]
  | a :: xs, [], x, y, h1, h2 => by
    simp only [toPyL] at h1 h2; cases h2
    cases e1 : toPy a with
    | none => rw [e1] at h1; cases h1
    | some b' =>
      cases e2 : toPyL xs with
      | none => rw [e1, e2] at h1; cases h1
      | some y' => rw [e1, e2] at h1; cases h1; simp only [PyData.eqvAll, eqvL]
  | a :: xs, b :: ys, x, y, h1, h2 => by
    simp only [toPyL] at h1 h2
    cases e1 : toPy a with
    | none => rw [e1] at h1; cases h1
    | some a' =>
      cases e2 : toPyL xs with
      | none => rw [e1, e2] at h1; cases h1
      | some x' =>
        rw [e1, e2] at h1; cases h1
        cases e3 : toPy b with
        | none => rw [e3] at h2; cases h2
        | some b' =>
          cases e4 : toPyL ys with
          | none => rw [e3, e4] at h2; cases h2
          | some y' =>
            rw [e3, e4] at h2; cases h2
            simp only [PyData.eqvAll, eqvL]
            rw [eqv_py a b a' b' e1 e3, eqvL_py xs ys x' y' e2 e4]
end
theorem shp_of {y : PyData} (h1 : y.canLay0 = true) (h2 : y.depth ≤ 64) : shp y = true := by
  show (y.canLay0 && decide (y.depth ≤ 64)) = true
  rw [h1, decide_eq_true h2]; rfl
theorem eqD_pl {a b : D} (ha : pl 64 a = true) (hb : pl 64 b = true) : eqD a b = some (.bl (eqv a b)) := by
  obtain ⟨x, h1, h2, h3⟩ := toPy_pl 64 a ha
  obtain ⟨y, k1, k2, k3⟩ := toPy_pl 64 b hb
  unfold eqD
  rw [h1, k1]
  dsimp only
  rw [shp_of h2 h3, shp_of k2 k3, if_pos (by rfl), eqv_py a b x y h1 k1]
theorem neD_pl {a b : D} (ha : pl 64 a = true) (hb : pl 64 b = true) : neD a b = some (.bl (!eqv a b)) := by
  obtain ⟨x, h1, h2, h3⟩ := toPy_pl 64 a ha
  obtain ⟨y, k1, k2, k3⟩ := toPy_pl 64 b hb
  unfold neD
  rw [h1, k1]
  dsimp only
  rw [shp_of h2 h3, shp_of k2 k3, if_pos (by rfl), eqv_py a b x y h1 k1]
theorem any_py {b : D} {y : PyData} (hb : toPy b = some y) : ∀ (xs : List D) (ys : List PyData), toPyL xs = some ys → (ys.any fun z => PyData.eqv z y) = xs.any fun z => eqv z b
  | [], _, h => by simp only [toPyL] at h; cases h; rfl
  | x :: xs, ys, h => by
    simp only [toPyL] at h
    cases e1 : toPy x with
    | none => rw [e1] at h; cases h
    | some x' =>
      cases e2 : toPyL xs with
      | none => rw [e1, e2] at h; cases h
      | some xs' =>
        rw [e1, e2] at h; cases h
        rw [List.any_cons, List.any_cons, any_py hb xs xs' e2, eqv_py x b x' y e1 hb]
theorem shpL_of {y : PyData} {n : Nat} (h1 : y.canLay0 = true) (h2 : y.depth ≤ n) (h : n ≤ 64) : shp y = true := shp_of h1 (Nat.le_trans h2 h)
theorem inD_lst {a : D} {xs : List D} (ha : pl 64 a = true) (hb : plL 63 xs = true) : inD a (.lst xs) = some (.bl (xs.any fun z => eqv z a)) := by
  obtain ⟨x, h1, h2, h3⟩ := toPy_pl 64 a ha
  obtain ⟨y, k1, k2, k3⟩ := toPyL_pl 63 xs hb
  unfold inD
  rw [h1, show toPy (.lst xs) = some (.list y) by simp only [toPy, k1]]
  dsimp only
  rw [shp_of h2 h3, shp_of (y := .list y) (by simp only [PyData.canLay0]; exact k2) (by simp only [PyData.depth]; omega), if_pos (by rfl), any_py h1 xs y k1]
theorem inD_tup {a : D} {xs : List D} (ha : pl 64 a = true) (hb : plL 63 xs = true) : inD a (.tup xs) = some (.bl (xs.any fun z => eqv z a)) := by
  obtain ⟨x, h1, h2, h3⟩ := toPy_pl 64 a ha
  obtain ⟨y, k1, k2, k3⟩ := toPyL_pl 63 xs hb
  unfold inD
  rw [h1, show toPy (.tup xs) = some (.tuple y) by simp only [toPy, k1]]
  dsimp only
  rw [shp_of h2 h3, shp_of (y := .tuple y) (by simp only [PyData.canLay0]; exact k2) (by simp only [PyData.depth]; omega), if_pos (by rfl), any_py h1 xs y k1]
theorem notInD_lst {a : D} {xs : List D} (ha : pl 64 a = true) (hb : plL 63 xs = true) : notInD a (.lst xs) = some (.bl (!xs.any fun z => eqv z a)) := by
  obtain ⟨x, h1, h2, h3⟩ := toPy_pl 64 a ha
  obtain ⟨y, k1, k2, k3⟩ := toPyL_pl 63 xs hb
  unfold notInD
  rw [h1, show toPy (.lst xs) = some (.list y) by simp only [toPy, k1]]
  dsimp only
  rw [shp_of h2 h3, shp_of (y := .list y) (by simp only [PyData.canLay0]; exact k2) (by simp only [PyData.depth]; omega), if_pos (by rfl), any_py h1 xs y k1]
theorem notInD_tup {a : D} {xs : List D} (ha : pl 64 a = true) (hb : plL 63 xs = true) : notInD a (.tup xs) = some (.bl (!xs.any fun z => eqv z a)) := by
  obtain ⟨x, h1, h2, h3⟩ := toPy_pl 64 a ha
  obtain ⟨y, k1, k2, k3⟩ := toPyL_pl 63 xs hb
  unfold notInD
  rw [h1, show toPy (.tup xs) = some (.tuple y) by simp only [toPy, k1]]
  dsimp only
  rw [shp_of h2 h3, shp_of (y := .tuple y) (by simp only [PyData.canLay0]; exact k2) (by simp only [PyData.depth]; omega), if_pos (by rfl), any_py h1 xs y k1]
mutual
theorem pl_mono : ∀ (n m : Nat) (d : D), n ≤ m → pl n d = true → pl m d = true
  | n, m, .non, _, _ => by cases m <;> (unfold pl; rfl)
  | n, m, .bl b, _, _ => by cases m <;> (unfold pl; rfl)
  | n, m, .int i, _, _ => by cases m <;> (unfold pl; rfl)
  | n, m, .str x, _, h => by cases n <;> cases m <;> (unfold pl at h ⊢; exact h)
  | n + 1, m + 1, .tup xs, l, h => by unfold pl at h ⊢; exact plL_mono n m xs (by omega) h
  | n + 1, m + 1, .lst xs, l, h => by unfold pl at h ⊢; exact plL_mono n m xs (by omega) h
  | n + 1, 0, .tup xs, l, h => by omega
  | n + 1, 0, .lst xs, l, h => by omega
  | 0, m, .tup xs, l, h => by unfold pl at h; cases h
  | 0, m, .lst xs, l, h => by unfold pl at h; cases h
  | n, m, .dct _, l, h => by cases n <;> (unfold pl at h; cases h)
  | n, m, .fn _, l, h => by cases n <;> (unfold pl at h; cases h)
  | n, m, .scr _, l, h => by cases n <;> (unfold pl at h; cases h)
theorem plL_mono : ∀ (n m : Nat) (d : List D), n ≤ m → plL n d = true → plL m d = true
  | n, m, [], _, _ => by unfold plL; rfl
  | n, m, x :: xs, l, h => by
    unfold plL at h ⊢
    rw [Bool.and_eq_true] at h ⊢
    exact ⟨pl_mono n m x l h.1, plL_mono n m xs l h.2⟩
end
theorem plL_iff {n : Nat} : ∀ {xs : List D}, plL n xs = true ↔ ∀ x ∈ xs, pl n x = true
  | [] => by unfold plL; simp
  | x :: xs => by
    unfold plL
    rw [Bool.and_eq_true, plL_iff (xs := xs)]
    simp
theorem pl_int (n : Nat) (i : Int) : pl n (.int i) = true := by cases n <;> (unfold pl; rfl)
theorem pl_bl (n : Nat) (i : Bool) : pl n (.bl i) = true := by cases n <;> (unfold pl; rfl)
theorem pl_non (n : Nat) : pl n .non = true := by cases n <;> (unfold pl; rfl)
theorem pl_str (n : Nat) (x : Str) (h : PyData.strOk x = true) : pl n (.str x) = true := by cases n <;> (unfold pl; exact h)
theorem pl_tup (n : Nat) (xs : List D) (h : plL n xs = true) : pl (n + 1) (.tup xs) = true := by unfold pl; exact h
theorem pl_lst (n : Nat) (xs : List D) (h : plL n xs = true) : pl (n + 1) (.lst xs) = true := by unfold pl; exact h
theorem plL_ints (n : Nat) (ns : List Int) : plL n (ns.map D.int) = true := plL_iff.mpr fun x hx => by
  obtain ⟨i, _, rfl⟩ := List.mem_map.mp hx
  exact pl_int n i
theorem plL_nil (n : Nat) : plL n [] = true := by unfold plL; rfl
theorem plL_cons {n : Nat} {x : D} {xs : List D} (h1 : pl n x = true) (h2 : plL n xs = true) : plL n (x :: xs) = true := by unfold plL; rw [h1, h2]; rfl
theorem eqv_int (a b : Int) : eqv (.int a) (.int b) = decide (a = b) := by unfold eqv; rfl
theorem eqvL_ints : ∀ (ns ms : List Int), eqvL (ns.map D.int) (ms.map D.int) = decide (ns = ms)
  | [], [] => by simp [eqvL]
  | [], _ :: _ => by simp [eqvL]
  | _ :: _, [] => by simp [eqvL]
  | n :: ns, m :: ms => by
    rw [List.map_cons, List.map_cons]
    unfold eqvL
    rw [eqv_int, eqvL_ints ns ms]
    by_cases h : n = m <;> by_cases h2 : ns = ms <;> simp [h, h2]
theorem any_ints (a : Int) : ∀ ns : List Int, ((ns.map D.int).any fun z => eqv z (.int a)) = decide (a ∈ ns)
  | [] => by simp
  | n :: ns => by
    rw [List.map_cons, List.any_cons, any_ints a ns, eqv_int]
    by_cases h : n = a
    · subst h; simp
    · have : a ≠ n := fun z => h z.symm
      simp [h, this]
theorem eqD_int (a b : Int) : eqD (.int a) (.int b) = some (.bl (decide (a = b))) := by rw [eqD_pl (pl_int _ _) (pl_int _ _), eqv_int]
theorem neD_int (a b : Int) : neD (.int a) (.int b) = some (.bl (!decide (a = b))) := by rw [neD_pl (pl_int _ _) (pl_int _ _), eqv_int]

/-! ### comprehensions and loops -/
theorem compGo_filter {vs : List Nat} {gm : D → Lo → Option Lo} {mt : Lo → R Bool} {me : Lo → R RV} {L : Lo} {p : D → Bool} {h : D → D} : ∀ (xs : List D),
    (∀ x ∈ xs, ∃ L2, gm x (wipeS L vs) = some L2 ∧ mt L2 = .ok (p x) L2 ∧ (p x = true → ∃ rv, me L2 = .ok rv L2 ∧ frz rv L2 = some (h x, L2)) ∧ unw L L2 vs = L) → compGo vs gm mt me xs L = .ok ((xs.filter p).map h) L
  | [], _ => rfl
  | x :: xs, H => by
    obtain ⟨L2, h1, h2, h3, h4⟩ := H x (List.mem_cons_self ..)
    have ih := compGo_filter (L := L) (p := p) (h := h) xs fun y hy => H y (List.mem_cons_of_mem _ hy)
    unfold compGo
    rw [h1]; dsimp only; rw [h2]
    cases hp : p x with
    | false => dsimp only; rw [h4, ih, List.filter_cons_of_neg (by rw [hp]; decide)]
    | true =>
      obtain ⟨rv, h5, h6⟩ := h3 hp
      dsimp only
      rw [h5]; dsimp only; rw [h6]; dsimp only; rw [h4, ih, List.filter_cons_of_pos hp]; rfl
theorem compGo_map {vs : List Nat} {gm : D → Lo → Option Lo} {mt : Lo → R Bool} {me : Lo → R RV} {L : Lo} {h : D → D} (xs : List D)
    (H : ∀ x ∈ xs, ∃ L2 rv, gm x (wipeS L vs) = some L2 ∧ mt L2 = .ok true L2 ∧ me L2 = .ok rv L2 ∧ frz rv L2 = some (h x, L2) ∧ unw L L2 vs = L) : compGo vs gm mt me xs L = .ok (xs.map h) L := by
  have := compGo_filter (L := L) (mt := mt) (me := me) (gm := gm) (vs := vs) (p := fun _ => true) (h := h) xs fun x hx => by
    obtain ⟨L2, rv, h1, h2, h3, h4, h5⟩ := H x hx
    exact ⟨L2, h1, h2, fun _ => ⟨rv, h3, h4⟩, h5⟩
  rw [this, List.filter_eq_self.mpr (fun _ _ => rfl)]
theorem compGo_draw {vs : List Nat} {gm : D → Lo → Option Lo} {mt : Lo → R Bool} {me : Lo → R RV} (I : Nat → Lo → Prop) (Q : D → Prop) (q : Nat) : ∀ (xs : List D),
    (∀ x ∈ xs, ∀ n L, I n L → ∃ L2 rv L3 d L4, gm x (wipeS L vs) = some L2 ∧ mt L2 = .ok true L2 ∧ me L2 = .ok rv L3 ∧ frz rv L3 = some (d, L4) ∧ Q d ∧ I (n + q) (unw L L4 vs)) →
    ∀ n L, I n L → ∃ ds L', compGo vs gm mt me xs L = .ok ds L' ∧ ds.length = xs.length ∧ (∀ d ∈ ds, Q d) ∧ I (n + q * xs.length) L'
  | [], _, n, L, h => ⟨[], L, rfl, rfl, by simp, by simpa using h⟩
  | x :: xs, H, n, L, h => by
    obtain ⟨L2, rv, L3, d, L4, h1, h2, h3, h4, h5, h6⟩ := H x (List.mem_cons_self ..) n L h
    obtain ⟨ds, L', k1, k2, k3, k4⟩ := compGo_draw I Q q xs (fun y hy => H y (List.mem_cons_of_mem _ hy)) _ _ h6
    refine ⟨d :: ds, L', ?_, by rw [List.length_cons, List.length_cons, k2], ?_, ?_⟩
    · unfold compGo
      rw [h1]; dsimp only; rw [h2]; dsimp only; rw [h3]; dsimp only; rw [h4]; dsimp only; rw [k1]
    · intro y hy
      rcases List.mem_cons.mp hy with rfl | hy
      · exact h5
      · exact k3 y hy
    · rw [List.length_cons, show n + q * (xs.length + 1) = n + q + q * xs.length by rw [Nat.mul_add]; omega]; exact k4
theorem compGo2_draw {vs : List Nat} {gm : D → Lo → Option Lo} {mt : Lo → R Bool} {me : Lo → R (List D)} (I : Nat → Lo → Prop) (Q : List D → Prop) (q : Nat) : ∀ (xs : List D),
    (∀ x ∈ xs, ∀ n L, I n L → ∃ L2 d L4, gm x (wipeS L vs) = some L2 ∧ mt L2 = .ok true L2 ∧ me L2 = .ok d L4 ∧ Q d ∧ I (n + q) (unw L L4 vs)) →
    ∀ n L, I n L → ∃ ds L', compGo2 vs gm mt me xs L = .ok ds L' ∧ ds.length = xs.length ∧ (∀ d ∈ ds, Q d) ∧ I (n + q * xs.length) L'
  | [], _, n, L, h => ⟨[], L, rfl, rfl, by simp, by simpa using h⟩
  | x :: xs, H, n, L, h => by
    obtain ⟨L2, d, L4, h1, h2, h3, h5, h6⟩ := H x (List.mem_cons_self ..) n L h
    obtain ⟨ds, L', k1, k2, k3, k4⟩ := compGo2_draw I Q q xs (fun y hy => H y (List.mem_cons_of_mem _ hy)) _ _ h6
    refine ⟨d :: ds, L', ?_, by rw [List.length_cons, List.length_cons, k2], ?_, ?_⟩
    · unfold compGo2
      rw [h1]; dsimp only; rw [h2]; dsimp only; rw [h3]; dsimp only; rw [k1]
    · intro y hy
      rcases List.mem_cons.mp hy with rfl | hy
      · exact h5
      · exact k3 y hy
    · rw [List.length_cons, show n + q * (xs.length + 1) = n + q + q * xs.length by rw [Nat.mul_add]; omega]; exact k4
/-- a loop over xs by an invariant of the place -/
theorem forGo_inv {gm : D → Lo → Option Lo} {b : Lo → SR} (I : Nat → Lo → Prop) : ∀ (xs : List D) (i : Nat),
    (∀ (j : Nat) (x : D), xs[j]? = some x → ∀ L, I (i + j) L → ∃ L1 L2, gm x L = some L1 ∧ b L1 = .nx L2 ∧ I (i + j + 1) L2) → ∀ L, I i L → ∃ L', forGo gm b xs L = .nx L' ∧ I (i + xs.length) L'
  | [], i, _, L, h => ⟨L, rfl, h⟩
  | x :: xs, i, H, L, h => by
    obtain ⟨L1, L2, h1, h2, h3⟩ := H 0 x rfl L h
    obtain ⟨L', k1, k2⟩ := forGo_inv I xs (i + 1) (fun j y hy L hL => by
      have := H (j + 1) y (by simpa using hy) L (by rw [show i + (j + 1) = i + 1 + j by omega]; exact hL)
      rw [show i + (j + 1) + 1 = i + 1 + j + 1 by omega] at this
      exact this) L2 h3
    refine ⟨L', ?_, by rw [List.length_cons, show i + (xs.length + 1) = i + 1 + xs.length by omega]; exact k2⟩
    unfold forGo
    rw [h1]; dsimp only; rw [h2]; exact k1
theorem sSeq_nx {a b : Lo → SR} {L L' : Lo} (h : a L = .nx L') : sSeq a b L = b L' := by unfold sSeq; rw [h]
theorem sSeq_rt {a b : Lo → SR} {L L' : Lo} {d : D} (h : a L = .rt d L') : sSeq a b L = .rt d L' := by unfold sSeq; rw [h]
end L2.Z

/-! part Z19 -/
set_option Elab.async false
set_option linter.all false
set_option maxRecDepth 100000
set_option maxHeartbeats 4000000
namespace L2.Z
open PySem PySem.Spec PyProof.Rows

/-! ### kinds of values -/
def isInt : D → Bool
  | .int _ => true
  | _ => false
def isTupD : D → Bool
  | .tup _ => true
  | _ => false
def isLstD : D → Bool
  | .lst _ => true
  | .scr _ => true
  | _ => false
def isBlD : D → Bool
  | .bl _ => true
  | _ => false
def isStrD : D → Bool
  | .str _ => true
  | _ => false
def inR (a b : Int) : D → Bool
  | .int i => decide (a ≤ i) && decide (i ≤ b)
  | _ => false
def lenIs (n : Int) : D → Bool
  | .tup xs => decide ((xs.length : Int) = n)
  | _ => false
/-- a value the language can tell the type of -/
def tame : D → Bool
  | .fn _ => false
  | _ => true
theorem isi_int (d : D) (h : tame d = true) : isiD "int" d = some (.bl (isInt d || isBlD d)) := by cases d <;> first | rfl | cases h
theorem isi_bool (d : D) (h : tame d = true) : isiD "bool" d = some (.bl (isBlD d)) := by cases d <;> first | rfl | cases h
theorem isi_tuple (d : D) (h : tame d = true) : isiD "tuple" d = some (.bl (isTupD d)) := by cases d <;> first | rfl | cases h
theorem isi_list (d : D) (h : tame d = true) : isiD "list" d = some (.bl (isLstD d)) := by cases d <;> first | rfl | cases h
theorem isi_str (d : D) (h : tame d = true) : isiD "str" d = some (.bl (isStrD d)) := by cases d <;> first | rfl | cases h
theorem isi_lt (d : D) (h : tame d = true) : isi2D "list" "tuple" d = some (.bl (isLstD d || isTupD d)) := by cases d <;> first | rfl | cases h
theorem isi_bs (d : D) (h : tame d = true) : isi2D "bool" "str" d = some (.bl (isBlD d || isStrD d)) := by cases d <;> first | rfl | cases h

/-! ### good data: plain, not deep, not long -/
mutual
def gd : Nat → D → Bool
  | _, .non => true
  | _, .bl _ => true
  | _, .int _ => true
  | _, .str x => PyData.strOk x
  | n + 1, .tup xs => decide (xs.length ≤ 1000) && gdL n xs
  | n + 1, .lst xs => decide (xs.length ≤ 1000) && gdL n xs
  | _, _ => false
def gdL : Nat → List D → Bool
  | _, [] => true
  | n, x :: xs => gd n x && gdL n xs
end
theorem gd_tup {n : Nat} {xs : List D} : gd (n + 1) (.tup xs) = true ↔ xs.length ≤ 1000 ∧ gdL n xs = true := by
  unfold gd; rw [Bool.and_eq_true, decide_eq_true_eq]
theorem gd_lst {n : Nat} {xs : List D} : gd (n + 1) (.lst xs) = true ↔ xs.length ≤ 1000 ∧ gdL n xs = true := by
  unfold gd; rw [Bool.and_eq_true, decide_eq_true_eq]
theorem gdL_iff {n : Nat} : ∀ {xs : List D}, gdL n xs = true ↔ ∀ x ∈ xs, gd n x = true
  | [] => by unfold gdL; simp
  | x :: xs => by unfold gdL; rw [Bool.and_eq_true, gdL_iff (xs := xs)]; simp
theorem gd_int (n : Nat) (i : Int) : gd n (.int i) = true := by cases n <;> (unfold gd; rfl)
theorem gd_bl (n : Nat) (i : Bool) : gd n (.bl i) = true := by cases n <;> (unfold gd; rfl)
theorem gd_non (n : Nat) : gd n .non = true := by cases n <;> (unfold gd; rfl)
theorem gd_str (n : Nat) (x : Str) (h : PyData.strOk x = true) : gd n (.str x) = true := by cases n <;> (unfold gd; exact h)
theorem gd_tame : ∀ {n : Nat} {d : D}, gd n d = true → tame d = true
  | n, .fn _, h => by cases n <;> (unfold gd at h; cases h)
  | _, .non, _ => rfl
  | _, .bl _, _ => rfl
  | _, .int _, _ => rfl
  | _, .str _, _ => rfl
  | _, .tup _, _ => rfl
  | _, .lst _, _ => rfl
  | _, .dct _, _ => rfl
  | _, .scr _, _ => rfl
theorem gd_no {n : Nat} {d : D} (h : gd n d = true) : (∀ m, d ≠ .fn m) ∧ (∀ k, d ≠ .dct k) ∧ (∀ k, d ≠ .scr k) := by
  refine ⟨fun m e => ?_, fun m e => ?_, fun m e => ?_⟩ <;> subst e <;> cases n <;> (unfold gd at h; cases h)
mutual
theorem gd_pl : ∀ (n : Nat) (d : D), gd n d = true → pl n d = true
  | n, .non, h => pl_non n
  | n, .bl _, h => pl_bl n _
  | n, .int _, h => pl_int n _
  | n, .str x, h => pl_str n x (by cases n <;> (unfold gd at h; exact h))
  | n + 1, .tup xs, h => pl_tup n xs (gdL_pl n xs (gd_tup.mp h).2)
  | n + 1, .lst xs, h => pl_lst n xs (gdL_pl n xs (gd_lst.mp h).2)
  | 0, .tup xs, h => by unfold gd at h; cases h
  | 0, .lst xs, h => by unfold gd at h; cases h
  | n, .dct _, h => absurd rfl ((gd_no h).2.1 _)
  | n, .fn _, h => absurd rfl ((gd_no h).1 _)
  | n, .scr _, h => absurd rfl ((gd_no h).2.2 _)
theorem gdL_pl : ∀ (n : Nat) (xs : List D), gdL n xs = true → plL n xs = true
  | n, [], _ => plL_nil n
  | n, x :: xs, h => by
    unfold gdL at h
    rw [Bool.and_eq_true] at h
    exact plL_cons (gd_pl n x h.1) (gdL_pl n xs h.2)
end
mutual
theorem gd_mono : ∀ (n m : Nat) (d : D), n ≤ m → gd n d = true → gd m d = true
  | n, m, .non, _, _ => gd_non m
  | n, m, .bl b, _, _ => gd_bl m b
  | n, m, .int i, _, _ => gd_int m i
  | n, m, .str x, _, h => gd_str m x (by cases n <;> (unfold gd at h; exact h))
  | n + 1, m + 1, .tup xs, l, h => gd_tup.mpr ⟨(gd_tup.mp h).1, gdL_mono n m xs (by omega) (gd_tup.mp h).2⟩
  | n + 1, m + 1, .lst xs, l, h => gd_lst.mpr ⟨(gd_lst.mp h).1, gdL_mono n m xs (by omega) (gd_lst.mp h).2⟩
  | n + 1, 0, .tup xs, l, h => by omega
  | n + 1, 0, .lst xs, l, h => by omega
  | 0, m, .tup xs, l, h => by unfold gd at h; cases h
  | 0, m, .lst xs, l, h => by unfold gd at h; cases h
  | n, m, .dct _, l, h => absurd rfl ((gd_no h).2.1 _)
  | n, m, .fn _, l, h => absurd rfl ((gd_no h).1 _)
  | n, m, .scr _, l, h => absurd rfl ((gd_no h).2.2 _)
theorem gdL_mono : ∀ (n m : Nat) (d : List D), n ≤ m → gdL n d = true → gdL m d = true
  | n, m, [], _, _ => by unfold gdL; rfl
  | n, m, x :: xs, l, h => by
    unfold gdL at h ⊢
    rw [Bool.and_eq_true] at h ⊢
    exact ⟨gd_mono n m x l h.1, gdL_mono n m xs l h.2⟩
end
theorem gdL_ints (n : Nat) (ns : List Int) : gdL n (ns.map D.int) = true := gdL_iff.mpr fun x hx => by
  obtain ⟨i, _, rfl⟩ := List.mem_map.mp hx
  exact gd_int n i
theorem len_line {n : Nat} (h : n ≤ 1000) : n ≤ lineN := Nat.le_trans h (by decide)
/-! lists (to any depth) become tuples -/
mutual
def tpl : D → D
  | .tup xs => .tup (tplL xs)
  | .lst xs => .tup (tplL xs)
  | d => d
def tplL : List D → List D
  | [] => []
  | x :: xs => tpl x :: tplL xs
end
theorem tplL_map : ∀ xs : List D, tplL xs = xs.map tpl
  | [] => by unfold tplL; rfl
  | x :: xs => by unfold tplL; rw [tplL_map xs]; rfl
mutual
theorem tpl_gd : ∀ (n : Nat) (d : D), gd n d = true → gd n (tpl d) = true
  | n, .non, h => by unfold tpl; exact h
  | n, .bl _, h => by unfold tpl; exact h
  | n, .int _, h => by unfold tpl; exact h
  | n, .str x, h => by unfold tpl; exact h
  | n + 1, .tup xs, h => by
    unfold tpl
    refine gd_tup.mpr ⟨?_, tplL_gd n xs (gd_tup.mp h).2⟩
    rw [tplL_map, List.length_map]; exact (gd_tup.mp h).1
  | n + 1, .lst xs, h => by
    unfold tpl
    refine gd_tup.mpr ⟨?_, tplL_gd n xs (gd_lst.mp h).2⟩
    rw [tplL_map, List.length_map]; exact (gd_lst.mp h).1
  | 0, .tup xs, h => by unfold gd at h; cases h
  | 0, .lst xs, h => by unfold gd at h; cases h
  | n, .dct _, h => absurd rfl ((gd_no h).2.1 _)
  | n, .fn _, h => absurd rfl ((gd_no h).1 _)
  | n, .scr _, h => absurd rfl ((gd_no h).2.2 _)
theorem tplL_gd : ∀ (n : Nat) (d : List D), gdL n d = true → gdL n (tplL d) = true
  | n, [], _ => by unfold tplL gdL; rfl
  | n, x :: xs, h => by
    unfold tplL
    unfold gdL at h ⊢
    rw [Bool.and_eq_true] at h ⊢
    exact ⟨tpl_gd n x h.1, tplL_gd n xs h.2⟩
end
/-- no list inside -/
def flatTup : D → Bool
  | .tup xs => xs.all fun x => match x with
    | .tup ys => ys.all isInt
    | .int _ => true
    | _ => false
  | .int _ => true
  | _ => false
theorem tpl_ints (ns : List Int) : tplL (ns.map D.int) = ns.map D.int := by
  rw [tplL_map, List.map_map]
  apply List.map_congr_left
  intro i _
  show tpl (.int i) = .int i
  unfold tpl; rfl
theorem blsOf_map (p : D → Bool) : ∀ xs : List D, blsOf (xs.map fun x => .bl (p x)) = some (xs.map p)
  | [] => rfl
  | x :: xs => by rw [List.map_cons, List.map_cons]; unfold blsOf; rw [blsOf_map p xs]
theorem allD_map (p : D → Bool) (xs : List D) : allD [.lst (xs.map fun x => .bl (p x))] = some (.bl (xs.all p)) := by
  show (match blsOf (xs.map fun x => .bl (p x)) with | some bs => some (D.bl (bs.all id)) | none => none) = _
  rw [blsOf_map]
  simp [List.all_map]
theorem intsOf_map : ∀ ns : List Int, intsOf (ns.map D.int) = some ns
  | [] => rfl
  | n :: ns => by rw [List.map_cons]; unfold intsOf; rw [intsOf_map ns]
theorem ints_of_all : ∀ {xs : List D}, xs.all isInt = true → ∃ ns : List Int, xs = ns.map D.int
  | [], _ => ⟨[], rfl⟩
  | x :: xs, h => by
    rw [List.all_cons, Bool.and_eq_true] at h
    obtain ⟨ns, rfl⟩ := ints_of_all h.2
    cases x with
    | int i => exact ⟨i :: ns, rfl⟩
    | _ => cases h.1
end L2.Z
namespace L2.Z
open PySem
theorem compGo_mapT {vs : List Nat} {gm : D → Lo → Option Lo} {me : Lo → R RV} {L : Lo} {h : D → D} {xs : List D}
    (H : ∀ x ∈ xs, ∃ L2 rv, gm x (wipeS L vs) = some L2 ∧ me L2 = .ok rv L2 ∧ frz rv L2 = some (h x, L2) ∧ unw L L2 vs = L) : compGo vs gm tTrue me xs L = .ok (xs.map h) L :=
  compGo_map xs fun x hx => by
    obtain ⟨L2, rv, h1, h2, h3, h4⟩ := H x hx
    exact ⟨L2, rv, h1, rfl, h2, h3, h4⟩
theorem compGo2_mapT {vs : List Nat} {gm : D → Lo → Option Lo} {me : Lo → R (List D)} {L : Lo} {h : D → List D} : ∀ {xs : List D},
    (∀ x ∈ xs, ∃ L2, gm x (wipeS L vs) = some L2 ∧ me L2 = .ok (h x) L2 ∧ unw L L2 vs = L) → compGo2 vs gm tTrue me xs L = .ok (xs.map h) L
  | [], _ => rfl
  | x :: xs, H => by
    obtain ⟨L2, h1, h2, h3⟩ := H x (List.mem_cons_self ..)
    have ih := compGo2_mapT (h := h) (xs := xs) (L := L) (me := me) (gm := gm) (vs := vs) fun y hy => H y (List.mem_cons_of_mem _ hy)
    unfold compGo2
    rw [h1]; dsimp only
    unfold tTrue
    dsimp only
    rw [h2]; dsimp only
    rw [h3]
    unfold tTrue at ih
    rw [ih]; rfl
theorem noOwn_nil (L : Lo) : noOwnAt L [] = true := rfl
theorem noOwn_cons (L : Lo) (i : Nat) (vs : List Nat) : noOwnAt L ((i + 1) :: vs) = ((match L[i + 1]? with | some s => !isOwn s | none => true) && noOwnAt L vs) := rfl
end L2.Z
namespace L2.Z
open PySem
theorem isIo_un : isIo .un = false := rfl
theorem isIo_va (d : D) : isIo (.va d) = false := rfl
theorem isIo_li (d : List D) : isIo (.li d) = false := rfl
theorem isIo_di (d : List (D × D)) : isIo (.di d) = false := rfl
theorem isIo_l2 (d : List (List D)) : isIo (.l2 d) = false := rfl
theorem isIo_io (d : List D) : isIo (.io d) = true := rfl
theorem isOwn_un : isOwn .un = false := rfl
theorem isOwn_va (d : D) : isOwn (.va d) = false := rfl
theorem isOwn_li (d : List D) : isOwn (.li d) = true := rfl
theorem isOwn_di (d : List (D × D)) : isOwn (.di d) = true := rfl
theorem isOwn_l2 (d : List (List D)) : isOwn (.l2 d) = true := rfl
theorem isOwn_io (d : List D) : isOwn (.io d) = true := rfl
theorem atI_0 {α : Type} (x : α) (xs : List α) : L2.atI (x :: xs) 0 = some x := by
  unfold L2.atI ixN
  rw [if_pos (by decide), if_pos (by rw [List.length_cons]; omega)]
  rfl
theorem atI_1 {α : Type} (x y : α) (xs : List α) : L2.atI (x :: y :: xs) 1 = some y := by
  unfold L2.atI ixN
  rw [if_pos (by decide), if_pos (by rw [List.length_cons, List.length_cons]; omega)]
  rfl
theorem atI_i {α : Type} {xs : List α} {i : Int} {x : α} (h0 : 0 ≤ i) (h : xs[i.toNat]? = some x) : L2.atI xs i = some x := by
  have hl : i.toNat < xs.length := (List.getElem?_eq_some_iff.mp h).1
  unfold L2.atI ixN
  rw [if_pos h0, if_pos (by omega)]
  exact h
end L2.Z
namespace L2.Z
open PySem
theorem ixD_tup (xs : List D) (i : Int) : ixD (.tup xs) (.int i) = L2.atI xs i := rfl
theorem ixD_lst (xs : List D) (i : Int) : ixD (.lst xs) (.int i) = L2.atI xs i := rfl
theorem ixD_scr (xs : List Int) (i : Int) : ixD (.scr xs) (.int i) = (L2.atI xs i).map D.int := rfl
theorem lenD_tup (xs : List D) : lenD [.tup xs] = some (.int xs.length) := rfl
theorem lenD_lst (xs : List D) : lenD [.lst xs] = some (.int xs.length) := rfl
theorem lenD_scr (xs : List Int) : lenD [.scr xs] = some (.int xs.length) := rfl
theorem cmpD_ii (p : Int → Int → Bool) (a b : Int) : cmpD p (.int a) (.int b) = some (.bl (p a b)) := rfl
theorem addD_ii (a b : Int) : addD (.int a) (.int b) = some (.int (a + b)) := rfl
theorem subD_ii (a b : Int) : subD (.int a) (.int b) = some (.int (a - b)) := rfl
theorem negD_i (a : Int) : negD (.int a) = some (.int (-a)) := rfl
theorem ltD_ii (a b : Int) : ltD (.int a) (.int b) = some (.bl (decide (a < b))) := rfl
theorem slD_tup (xs : List D) (lo hi : Option Int) : slD (.tup xs) lo hi = some (.tup (cutA xs lo hi)) := rfl
theorem slD_lst (xs : List D) (lo hi : Option Int) : slD (.lst xs) lo hi = some (.lst (cutA xs lo hi)) := rfl
theorem slD_scr (xs : List Int) (lo hi : Option Int) : slD (.scr xs) lo hi = some (.lst (cutA (xs.map D.int) lo hi)) := rfl
theorem slF_lst (xs : List D) (lo hi : Option Int) : slF (.lst xs) lo hi = some (cutA xs lo hi) := rfl
theorem slF_scr (xs : List Int) (lo hi : Option Int) : slF (.scr xs) lo hi = some (cutA (xs.map D.int) lo hi) := rfl
theorem tupD_tup (xs : List D) : tupD [.tup xs] = some (.tup xs) := rfl
theorem tupD_lst (xs : List D) : tupD [.lst xs] = some (.tup xs) := rfl
theorem lstF_tup (xs : List D) : lstF [.tup xs] = some xs := rfl
theorem lstF_lst (xs : List D) : lstF [.lst xs] = some xs := rfl
theorem lstF_scr (xs : List Int) : lstF [.scr xs] = some (xs.map D.int) := rfl
theorem intD_i (i : Int) : intD [.int i] = some (.int i) := rfl
theorem intD_b (b : Bool) : intD [.bl b] = some (.int (if b then 1 else 0)) := rfl
theorem absD_i (i : Int) : absD [.int i] = some (.int (if i < 0 then -i else i)) := rfl
theorem min2D_ii (i j : Int) : min2D [.int i, .int j] = some (.int (if j < i then j else i)) := rfl
theorem modD_ii {a b : Int} (h : b ≠ 0) : modD (.int a) (.int b) = some (.int (a.fmod b)) := if_pos h
theorem fdivD_ii {a b : Int} (h : b ≠ 0 ∧ b.natAbs < 1073741824) : fdivD (.int a) (.int b) = some (.int (a.fdiv b)) := if_pos h
theorem mulD_ii {a b : Int} (h : (-(2 ^ 64) < a ∧ a < 2 ^ 64) ∨ (-(2 ^ 64) < b ∧ b < 2 ^ 64)) : mulD (.int a) (.int b) = some (.int (a * b)) := if_pos h
theorem addD_tt {a b : List D} (h : a.length + b.length ≤ lineN) : addD (.tup a) (.tup b) = some (.tup (a ++ b)) := if_pos h
theorem addD_ll {a b : List D} (h : a.length + b.length ≤ lineN) : addD (.lst a) (.lst b) = some (.lst (a ++ b)) := if_pos h
theorem catF_ll {a b : List D} (h : a.length + b.length ≤ lineN) : catF (.lst a) (.lst b) = some (a ++ b) := if_pos h
theorem isNonD_n (x : D) : isNonD x .non = some (.bl (isNon x)) := by cases x <;> rfl
theorem notNonD_n (x : D) : notNonD x .non = some (.bl (!isNon x)) := by cases x <;> rfl
end L2.Z
namespace L2.Z
open PySem
theorem atI_2 {α : Type} (x y z : α) (xs : List α) : L2.atI (x :: y :: z :: xs) 2 = some z := by
  unfold L2.atI ixN
  rw [if_pos (by decide), if_pos (by simp only [List.length_cons]; omega)]
  rfl
theorem ixN3_0 : ixN 3 0 = some 0 := by decide
theorem ixN3_1 : ixN 3 1 = some 1 := by decide
theorem ixN3_2 : ixN 3 2 = some 2 := by decide
mutual
theorem eqv_refl : ∀ (n : Nat) (d : D), gd n d = true → eqv d d = true
  | n, .non, h => by unfold eqv; rfl
  | n, .bl b, h => by unfold eqv; exact beq_self_eq_true b
  | n, .int i, h => by unfold eqv; exact beq_self_eq_true i
  | n, .str x, h => by unfold eqv; exact beq_self_eq_true x
  | n + 1, .tup xs, h => by unfold eqv; exact eqvL_refl n xs (gd_tup.mp h).2
  | n + 1, .lst xs, h => by unfold eqv; exact eqvL_refl n xs (gd_lst.mp h).2
  | 0, .tup xs, h => by unfold gd at h; cases h
  | 0, .lst xs, h => by unfold gd at h; cases h
  | n, .dct _, h => absurd rfl ((gd_no h).2.1 _)
  | n, .fn _, h => absurd rfl ((gd_no h).1 _)
  | n, .scr _, h => absurd rfl ((gd_no h).2.2 _)
theorem eqvL_refl : ∀ (n : Nat) (d : List D), gdL n d = true → eqvL d d = true
  | n, [], _ => by unfold eqvL; rfl
  | n, x :: xs, h => by
    unfold gdL at h
    unfold eqvL
    rw [Bool.and_eq_true] at h
    rw [eqv_refl n x h.1, eqvL_refl n xs h.2]; rfl
end
theorem gd64 {n : Nat} {d : D} (h : gd n d = true) (hn : n ≤ 64) : pl 64 d = true := pl_mono n 64 d hn (gd_pl n d h)
theorem eqD_refl {n : Nat} {d : D} (h : gd n d = true) (hn : n ≤ 64) : eqD d d = some (.bl true) := by
  rw [eqD_pl (gd64 h hn) (gd64 h hn), eqv_refl n d h]
theorem eqD_bb (a b : Bool) : eqD (.bl a) (.bl b) = some (.bl (a == b)) := by
  rw [eqD_pl (pl_bl _ _) (pl_bl _ _)]; unfold eqv; rfl
theorem neD_bb (a b : Bool) : neD (.bl a) (.bl b) = some (.bl (!(a == b))) := by
  rw [neD_pl (pl_bl _ _) (pl_bl _ _)]; unfold eqv; rfl
theorem mem_zip_self : ∀ {xs : List D} {p : D}, p ∈ zipD xs xs → ∃ a ∈ xs, p = .tup [a, a]
  | [], p, h => by unfold zipD at h; cases h
  | x :: xs, p, h => by
    unfold zipD at h
    rcases List.mem_cons.mp h with rfl | h
    · exact ⟨x, List.mem_cons_self .., rfl⟩
    · obtain ⟨a, h1, h2⟩ := mem_zip_self h
      exact ⟨a, List.mem_cons_of_mem _ h1, h2⟩
theorem zip_len : ∀ (xs ys : List D), (zipD xs ys).length ≤ xs.length
  | [], _ => by unfold zipD; simp
  | x :: xs, [] => by unfold zipD; simp
  | x :: xs, y :: ys => by unfold zipD; simp only [List.length_cons]; have := zip_len xs ys; omega
theorem bls_true : ∀ xs : List D, blsOf (xs.map fun _ => D.bl true) = some (xs.map fun _ => true)
  | [] => rfl
  | x :: xs => by rw [List.map_cons, List.map_cons]; unfold blsOf; rw [bls_true xs]
theorem allD_true (xs : List D) : allD [.lst (xs.map fun _ => D.bl true)] = some (.bl true) := by
  show (match blsOf (xs.map fun _ => D.bl true) with | some bs => some (D.bl (bs.all id)) | none => none) = _
  rw [bls_true]
  simp [List.all_map]
end L2.Z
namespace L2.Z
open PySem
/-- draws in a comprehension: the state is C of what is drawn from -/
theorem compGo_dr {vs : List Nat} {gm : D → Lo → Option Lo} {me : Lo → R RV} (T : Nat → List D → Prop) (C : List D → Lo) (Q : D → Prop) (q N : Nat) : ∀ (xs : List D),
    (∀ x ∈ xs, ∀ n t, n + q ≤ N → T n t → ∃ L2 rv L3 d L4 t', gm x (wipeS (C t) vs) = some L2 ∧ me L2 = .ok rv L3 ∧ frz rv L3 = some (d, L4) ∧ unw (C t) L4 vs = C t' ∧ Q d ∧ T (n + q) t') →
    ∀ n t, n + q * xs.length ≤ N → T n t → ∃ ds t', compGo vs gm tTrue me xs (C t) = .ok ds (C t') ∧ ds.length = xs.length ∧ (∀ d ∈ ds, Q d) ∧ T (n + q * xs.length) t'
  | [], _, n, t, hn, h => ⟨[], t, rfl, rfl, by simp, by simpa using h⟩
  | x :: xs, H, n, t, hn, h => by
    have em : n + q * (x :: xs).length = n + q + q * xs.length := by rw [List.length_cons, Nat.mul_add]; omega
    obtain ⟨L2, rv, L3, d, L4, t', h1, h2, h3, h4, h5, h6⟩ := H x (List.mem_cons_self ..) n t (by have := Nat.zero_le (q * xs.length); omega) h
    obtain ⟨ds, t2, k1, k2, k3, k4⟩ := compGo_dr T C Q q N xs (fun y hy => H y (List.mem_cons_of_mem _ hy)) (n + q) t' (by omega) h6
    refine ⟨d :: ds, t2, ?_, by rw [List.length_cons, List.length_cons, k2], ?_, by rw [em]; exact k4⟩
    · unfold compGo
      rw [h1]; dsimp only
      rw [show tTrue L2 = .ok true L2 from rfl]; dsimp only
      rw [h2]; dsimp only; rw [h3]; dsimp only; rw [h4, k1]
    · intro y hy
      rcases List.mem_cons.mp hy with rfl | hy
      · exact h5
      · exact k3 y hy
theorem compGo2_dr {vs : List Nat} {gm : D → Lo → Option Lo} {me : Lo → R (List D)} (T : Nat → List D → Prop) (C : List D → Lo) (Q : List D → Prop) (q N : Nat) : ∀ (xs : List D),
    (∀ x ∈ xs, ∀ n t, n + q ≤ N → T n t → ∃ L2 d L4 t', gm x (wipeS (C t) vs) = some L2 ∧ me L2 = .ok d L4 ∧ unw (C t) L4 vs = C t' ∧ Q d ∧ T (n + q) t') →
    ∀ n t, n + q * xs.length ≤ N → T n t → ∃ ds t', compGo2 vs gm tTrue me xs (C t) = .ok ds (C t') ∧ ds.length = xs.length ∧ (∀ d ∈ ds, Q d) ∧ T (n + q * xs.length) t'
  | [], _, n, t, hn, h => ⟨[], t, rfl, rfl, by simp, by simpa using h⟩
  | x :: xs, H, n, t, hn, h => by
    have em : n + q * (x :: xs).length = n + q + q * xs.length := by rw [List.length_cons, Nat.mul_add]; omega
    obtain ⟨L2, d, L4, t', h1, h2, h4, h5, h6⟩ := H x (List.mem_cons_self ..) n t (by have := Nat.zero_le (q * xs.length); omega) h
    obtain ⟨ds, t2, k1, k2, k3, k4⟩ := compGo2_dr T C Q q N xs (fun y hy => H y (List.mem_cons_of_mem _ hy)) (n + q) t' (by omega) h6
    refine ⟨d :: ds, t2, ?_, by rw [List.length_cons, List.length_cons, k2], ?_, by rw [em]; exact k4⟩
    · unfold compGo2
      rw [h1]; dsimp only
      rw [show tTrue L2 = .ok true L2 from rfl]; dsimp only
      rw [h2]; dsimp only; rw [h4, k1]
    · intro y hy
      rcases List.mem_cons.mp hy with rfl | hy
      · exact h5
      · exact k3 y hy
theorem range_len (a b : Int) : (rangeD a b).length = (b - a).toNat := by unfold rangeD; rw [List.length_map, List.length_range]
theorem range_mem {a b : Int} {x : D} (h : x ∈ rangeD a b) : ∃ i : Int, x = .int i ∧ a ≤ i ∧ i < b := by
  unfold rangeD at h
  obtain ⟨j, hj, rfl⟩ := List.mem_map.mp h
  rw [List.mem_range] at hj
  exact ⟨a + j, rfl, by omega, by omega⟩
def rangeI (a b : Int) : List Int := (List.range (b - a).toNat).map fun (i : Nat) => a + (i : Int)
theorem rangeD_I (a b : Int) : rangeD a b = (rangeI a b).map D.int := by unfold rangeD rangeI; rw [List.map_map]; rfl
theorem mem_rangeI {a b i : Int} : i ∈ rangeI a b ↔ a ≤ i ∧ i < b := by
  unfold rangeI
  rw [List.mem_map]
  constructor
  · rintro ⟨j, hj, rfl⟩; rw [List.mem_range] at hj; omega
  · intro h; exact ⟨(i - a).toNat, by rw [List.mem_range]; omega, by omega⟩
theorem rangeI_len (a b : Int) : (rangeI a b).length = (b - a).toNat := by unfold rangeI; rw [List.length_map, List.length_range]
theorem rangeI_nodup (a b : Int) : (rangeI a b).Nodup := by
  unfold rangeI
  exact List.pairwise_map.mpr (List.nodup_range.imp fun h e => h (by omega))
theorem ints_all {ds : List D} {p : Int → Prop} (h : ∀ d ∈ ds, ∃ i : Int, d = .int i ∧ p i) : ∃ ns : List Int, ds = ns.map D.int ∧ ∀ i ∈ ns, p i := by
  induction ds with
  | nil => exact ⟨[], rfl, by simp⟩
  | cons d ds ih =>
    obtain ⟨i, rfl, hi⟩ := h d (List.mem_cons_self ..)
    obtain ⟨ns, rfl, hn⟩ := ih fun x hx => h x (List.mem_cons_of_mem _ hx)
    refine ⟨i :: ns, rfl, fun j hj => ?_⟩
    rcases List.mem_cons.mp hj with rfl | hj
    · exact hi
    · exact hn j hj
theorem iRange1_of {ms : Lo → R (List RV)} {L L1 : Lo} {rs : List RV} {j : Int} (h1 : ms L = .ok rs L1) (h2 : getL L1 rs = some [.int j]) (h3 : -(2 ^ 62) ≤ j ∧ j < 2 ^ 62) : iRange1 ms L = .ok (rangeD 0 j) L1 := by
  unfold iRange1
  rw [h1]; dsimp only; rw [h2]; dsimp only; rw [if_pos h3]
end L2.Z
namespace L2.Z
open PySem
theorem perm_erase {α : Type} : ∀ {l : List α} {i : Nat} (h : i < l.length), (l[i] :: l.eraseIdx i).Perm l
  | x :: xs, 0, _ => .refl _
  | x :: xs, i + 1, h => by
    show (xs[i]'(by simpa using h) :: x :: xs.eraseIdx i).Perm (x :: xs)
    exact (List.Perm.swap _ _ _).trans ((perm_erase (by simpa using h)).cons x)
end L2.Z
namespace L2.Z
theorem lineN_0 : (0 ≤ lineN) = True := eq_true (by decide)
theorem lineN_1 : (1 ≤ lineN) = True := eq_true (by decide)
theorem lineN_2 : (2 ≤ lineN) = True := eq_true (by decide)
theorem lineN_3 : (3 ≤ lineN) = True := eq_true (by decide)
theorem lineN_4 : (4 ≤ lineN) = True := eq_true (by decide)
theorem lineN_5 : (5 ≤ lineN) = True := eq_true (by decide)
theorem lineN_6 : (6 ≤ lineN) = True := eq_true (by decide)
theorem lineN_7 : (7 ≤ lineN) = True := eq_true (by decide)
theorem lineN_8 : (8 ≤ lineN) = True := eq_true (by decide)
theorem lineN_9 : (9 ≤ lineN) = True := eq_true (by decide)
theorem lineN_10 : (10 ≤ lineN) = True := eq_true (by decide)
theorem lineN_11 : (11 ≤ lineN) = True := eq_true (by decide)
theorem lineN_12 : (12 ≤ lineN) = True := eq_true (by decide)
theorem lineN_13 : (13 ≤ lineN) = True := eq_true (by decide)
theorem lineN_14 : (14 ≤ lineN) = True := eq_true (by decide)
theorem lineN_15 : (15 ≤ lineN) = True := eq_true (by decide)
theorem lineN_16 : (16 ≤ lineN) = True := eq_true (by decide)
theorem lineN_17 : (17 ≤ lineN) = True := eq_true (by decide)
theorem lineN_18 : (18 ≤ lineN) = True := eq_true (by decide)
theorem lineN_19 : (19 ≤ lineN) = True := eq_true (by decide)
theorem lineN_20 : (20 ≤ lineN) = True := eq_true (by decide)
theorem lineN_21 : (21 ≤ lineN) = True := eq_true (by decide)
theorem lineN_22 : (22 ≤ lineN) = True := eq_true (by decide)
theorem lineN_23 : (23 ≤ lineN) = True := eq_true (by decide)
theorem lineN_24 : (24 ≤ lineN) = True := eq_true (by decide)
end L2.Z
namespace L2.Z
open PySem
theorem flat_int (i : Int) : (D.int i).flat = true := by unfold D.flat; rfl
theorem flat_bl (i : Bool) : (D.bl i).flat = true := by unfold D.flat; rfl
theorem flat_non : D.non.flat = true := by unfold D.flat; rfl
theorem flatL_ints : ∀ ns : List Int, flatL (ns.map D.int) = true
  | [] => by unfold flatL; rfl
  | n :: ns => by rw [List.map_cons]; unfold flatL; rw [flat_int, flatL_ints ns]; rfl
theorem flat_ints (ns : List Int) : (D.tup (ns.map D.int)).flat = true := by unfold D.flat; exact flatL_ints ns
end L2.Z

/-! part Z20 -/
set_option Elab.async false
set_option linter.all false
set_option maxRecDepth 100000
set_option maxHeartbeats 4000000
namespace L2.Z
open PySem
/-! one step each -/
theorem eOpN_of {f : List D → Option D} {ms : Lo → R (List RV)} {L L1 : Lo} {rs : List RV} {ds : List D} {d : D} (h1 : ms L = .ok rs L1) (h2 : getL L1 rs = some ds) (h3 : f ds = some d) : eOpN f ms L = .ok (.v d) L1 := by
  unfold eOpN; rw [h1]; dsimp only; rw [h2]; dsimp only; rw [h3]
theorem fOpN_of {f : List D → Option (List D)} {ms : Lo → R (List RV)} {L L1 : Lo} {rs : List RV} {ds : List D} {d : List D} (h1 : ms L = .ok rs L1) (h2 : getL L1 rs = some ds) (h3 : f ds = some d) : fOpN f ms L = .ok d L1 := by
  unfold fOpN; rw [h1]; dsimp only; rw [h2]; dsimp only; rw [h3]
theorem eFz_of {m : Lo → R (List D)} {L L1 : Lo} {ds : List D} (h1 : m L = .ok ds L1) : eFz m L = .ok (.v (.lst ds)) L1 := by
  unfold eFz; rw [h1]
theorem fComp_of {vs : List Nat} {src : Lo → R (List D)} {gm : D → Lo → Option Lo} {mt : Lo → R Bool} {me : Lo → R RV} {L L1 L2 : Lo} {xs ds : List D} (h1 : src L = .ok xs L1) (h2 : xs.length ≤ 1000) (h3 : noOwnAt L1 vs = true) (h4 : compGo vs gm mt me xs L1 = .ok ds L2) : fComp vs src gm mt me L = .ok ds L2 := by
  unfold fComp; rw [h1]; dsimp only
  rw [h3, decide_eq_true (len_line h2)]
  rw [if_pos (show (true && true) = true from rfl), h4]
theorem gComp_of {vs : List Nat} {src : Lo → R (List D)} {gm : D → Lo → Option Lo} {mt : Lo → R Bool} {me : Lo → R (List D)} {L L1 L2 : Lo} {xs : List D} {ds : List (List D)} (h1 : src L = .ok xs L1) (h2 : xs.length ≤ 1000) (h3 : noOwnAt L1 vs = true) (h4 : compGo2 vs gm mt me xs L1 = .ok ds L2) : gComp vs src gm mt me L = .ok ds L2 := by
  unfold gComp; rw [h1]; dsimp only
  rw [h3, decide_eq_true (len_line h2)]
  rw [if_pos (show (true && true) = true from rfl), h4]
theorem aOne {m : Lo → R RV} {L L1 : Lo} {r : RV} (h : m L = .ok r L1) : aCons m aNil L = .ok [r] L1 := by
  unfold aCons aNil; rw [h]
theorem aCons_of {m : Lo → R RV} {ms : Lo → R (List RV)} {L L1 L2 : Lo} {r : RV} {rs : List RV} (h : m L = .ok r L1) (h2 : ms L1 = .ok rs L2) : aCons m ms L = .ok (r :: rs) L2 := by
  unfold aCons; rw [h]; dsimp only; rw [h2]
theorem ixL {xs : List D} {i : Int} {x : D} (h0 : 0 ≤ i) (h : xs[i.toNat]? = some x) : ixD (.lst xs) (.int i) = some x := atI_i h0 h
theorem ixT {xs : List D} {i : Int} {x : D} (h0 : 0 ≤ i) (h : xs[i.toNat]? = some x) : ixD (.tup xs) (.int i) = some x := atI_i h0 h
theorem eOpN_congr {f : List D → Option D} {m : Lo → R RV} {L L' : Lo} (h : m L = m L') : eOpN f (aCons m aNil) L = eOpN f (aCons m aNil) L' := by
  have e : aCons m aNil L = aCons m aNil L' := by unfold aCons; rw [h]
  unfold eOpN; rw [e]
theorem noOwn_one {L : Lo} {i : Nat} {s : SV} (h : L[i + 1]? = some s) (h2 : isOwn s = false) : noOwnAt L [i + 1] = true := by
  unfold noOwnAt
  rw [List.all_cons, List.all_nil]
  rw [h]
  show (((i + 1) != 0 && !isOwn s) && true) = true
  rw [h2]
  simp
theorem eCall1 {f : List D → FR D} {a : Lo → R RV} {L L1 : Lo} {x r : D} (h1 : a L = .ok (.v x) L1) (hf : f [x] = .ok r) : eCall 1 f (aCons a aNil) L = .ok (.v r) L1 := by
  unfold eCall; rw [aOne h1]
  show (if 1 = 1 then (match f [x] with | .ok d => if (false && !d.flat) = true then R.no else R.ok (RV.v d) L1 | .ex x => _ | .no => _) else R.no) = _
  rw [if_pos rfl, hf]; rfl
theorem eCall2 {f : List D → FR D} {a b : Lo → R RV} {L L1 L2 : Lo} {x y r : D} (h1 : a L = .ok (.v x) L1) (h2 : b L1 = .ok (.v y) L2) (hf : f [x, y] = .ok r) : eCall 2 f (aCons a (aCons b aNil)) L = .ok (.v r) L2 := by
  unfold eCall; rw [aCons_of h1 (aOne h2)]
  show (if 2 = 2 then (match f [x, y] with | .ok d => if (false && !d.flat) = true then R.no else R.ok (RV.v d) L2 | .ex x => _ | .no => _) else R.no) = _
  rw [if_pos rfl, hf]; rfl
theorem eCall3 {f : List D → FR D} {a b c : Lo → R RV} {L L1 L2 L3 : Lo} {x y z r : D} (h1 : a L = .ok (.v x) L1) (h2 : b L1 = .ok (.v y) L2) (h3 : c L2 = .ok (.v z) L3) (hf : f [x, y, z] = .ok r) : eCall 3 f (aCons a (aCons b (aCons c aNil))) L = .ok (.v r) L3 := by
  unfold eCall; rw [aCons_of h1 (aCons_of h2 (aOne h3))]
  show (if 3 = 3 then (match f [x, y, z] with | .ok d => if (false && !d.flat) = true then R.no else R.ok (RV.v d) L3 | .ex x => _ | .no => _) else R.no) = _
  rw [if_pos rfl, hf]; rfl
theorem sRet_v {m : Lo → R RV} {L L1 : Lo} {d : D} (h : m L = .ok (.v d) L1) : sRet m L = .rt d L1 := by
  unfold sRet; rw [h]; rfl
theorem fnP_rt {len : Nat} {m : Lo → SR} {ds : List D} {d : D} {L : Lo} (h : m (ds.map SV.va ++ List.replicate (len - ds.length) .un) = .rt d L) : fnP len m ds = .ok d := by
  unfold fnP; rw [h]
theorem eCallI2 {f : List D → List D → RI} {a : Lo → R RV} {L L1 : Lo} {t0 t t' : List D} {x d : D} (h0 : L[0]? = some (.io t0)) (h1 : a L = .ok (.v x) L1) (h3 : L1[0]? = some (.io t)) (hf : f t [x] = .v d t') : eCallI 2 0 f (aCons a aNil) L = .ok (.v d) (L1.set 0 (.io t')) := by
  unfold eCallI
  rw [h0]
  show (match aCons a aNil L with | .ok rs L1 => _ | .ex x L1 => _ | .no => _) = _
  rw [aOne h1]
  dsimp only
  rw [h3]
  show (if (decide ([RV.v x].length + 1 = 2) && !([RV.v x].any (isB · L1))) = true then (match f t [x] with | .v d ys => R.ok (RV.v d) (L1.set 0 (.io ys)) | .f ds ys => _ | .no => _) else _) = _
  rw [hf]
  rfl
theorem eCallI3 {f : List D → List D → RI} {a b : Lo → R RV} {L L1 L2 : Lo} {t0 t t' : List D} {x y d : D} (h0 : L[0]? = some (.io t0)) (h1 : a L = .ok (.v x) L1) (h2 : b L1 = .ok (.v y) L2) (h3 : L2[0]? = some (.io t)) (hf : f t [x, y] = .v d t') : eCallI 3 0 f (aCons a (aCons b aNil)) L = .ok (.v d) (L2.set 0 (.io t')) := by
  unfold eCallI
  rw [h0]
  show (match aCons a (aCons b aNil) L with | .ok rs L1 => _ | .ex x L1 => _ | .no => _) = _
  rw [aCons_of h1 (aOne h2)]
  dsimp only
  rw [h3]
  show (if (decide ([RV.v x, RV.v y].length + 1 = 3) && !([RV.v x, RV.v y].any (isB · L2))) = true then (match f t [x, y] with | .v d ys => R.ok (RV.v d) (L2.set 0 (.io ys)) | .f ds ys => _ | .no => _) else _) = _
  rw [hf]
  rfl
theorem eCallI3f {f : List D → List D → RI} {a b : Lo → R RV} {L L1 L2 : Lo} {t0 t t' : List D} {x y : D} {ds : List D} (h0 : L[0]? = some (.io t0)) (h1 : a L = .ok (.v x) L1) (h2 : b L1 = .ok (.v y) L2) (h3 : L2[0]? = some (.io t)) (hf : f t [x, y] = .f ds t') : eCallI 3 0 f (aCons a (aCons b aNil)) L = .ok (.v (.lst ds)) (L2.set 0 (.io t')) := by
  unfold eCallI
  rw [h0]
  show (match aCons a (aCons b aNil) L with | .ok rs L1 => _ | .ex x L1 => _ | .no => _) = _
  rw [aCons_of h1 (aOne h2)]
  dsimp only
  rw [h3]
  show (if (decide ([RV.v x, RV.v y].length + 1 = 3) && !([RV.v x, RV.v y].any (isB · L2))) = true then (match f t [x, y] with | .v d ys => _ | .f ds ys => R.ok (RV.v (.lst ds)) (L2.set 0 (.io ys)) | .no => _) else _) = _
  rw [hf]
  rfl
theorem fLst_of {ms : Lo → R (List RV)} {L L1 L2 : Lo} {rs : List RV} {ds : List D} (h : ms L = .ok rs L1) (h2 : frzL rs L1 = some (ds, L2)) (h3 : ds.length ≤ 1000) : fLst ms L = .ok ds L2 := by
  unfold fLst; rw [h]; dsimp only; rw [h2]; dsimp only; rw [if_pos (len_line h3)]
theorem eTup_of {ms : Lo → R (List RV)} {L L1 L2 : Lo} {rs : List RV} {ds : List D} (h : ms L = .ok rs L1) (h2 : frzL rs L1 = some (ds, L2)) (h3 : ds.length ≤ 1000) : eTup ms L = .ok (.v (.tup ds)) L2 := by
  unfold eTup; rw [h]; dsimp only; rw [h2]; dsimp only; rw [if_pos (len_line h3)]
theorem sIf_not {m : Lo → R RV} {a r : Lo → SR} {L L1 : Lo} (h : m L = .ok (.v (.bl true)) L1) : sSeq (sIf (tNt (tBl m)) a .nx) r L = r L1 := sSeq_nx (by
  have e : tBl m L = .ok true L1 := by unfold tBl; rw [h]; rfl
  unfold sIf tNt; rw [e]; rfl)
theorem eOp1_v {f : D → Option D} {a : Lo → R RV} {L L1 : Lo} {x d : D} (h1 : a L = .ok (.v x) L1) (h3 : f x = some d) : eOp1 f a L = .ok (.v d) L1 := by
  unfold eOp1; rw [h1]; dsimp only
  show (match f x with | some d => R.ok (RV.v d) L1 | none => R.no) = _
  rw [h3]
theorem eAnd_v {a b : Lo → R RV} {L L1 : Lo} {r : RV} {L2 : Lo} (h1 : a L = .ok (.v (.bl true)) L1) (h2 : b L1 = .ok r L2) : eAnd a b L = .ok r L2 := by
  unfold eAnd; rw [h1]; exact h2
theorem mulD_t {xs : List D} {k : Int} (h1 : 1 ≤ k) (h2 : k ≤ 1000) (h3 : xs.length ≤ 1000) : mulD (.tup xs) (.int k) = some (.tup (repL xs k)) := by
  show (if (xs = [] ∨ k = 1) ∧ -(2 ^ 63) ≤ k ∧ k < 2 ^ 63 then some (D.tup xs) else if 2 ≤ k ∧ k ≤ 1000 ∧ xs.length ≤ 1000 then some (.tup (repL xs k)) else none) = _
  by_cases hx : xs = []
  · subst hx
    rw [if_pos ⟨.inl rfl, by omega, by omega⟩]
    unfold repL
    simp
  · by_cases hk : k = 1
    · subst hk
      rw [if_pos ⟨.inr rfl, by decide, by decide⟩]
      unfold repL
      simp
    · rw [if_neg (fun z => by rcases z.1 with h | h <;> contradiction), if_pos ⟨by omega, h2, h3⟩]
theorem mulD_l {xs : List D} {k : Int} (h1 : 0 ≤ k) (h2 : k ≤ 1000) (h3 : xs.length * k.toNat ≤ 1000) : mulD (.lst xs) (.int k) = some (.lst (repL xs k)) := if_pos ⟨by omega, by omega, len_line h3⟩
theorem repL_one (x : D) (k : Int) : repL [x] k = List.replicate k.toNat x := by
  unfold repL
  generalize k.toNat = n
  induction n with
  | zero => rfl
  | succ n ih => rw [List.replicate_succ, List.flatten_cons, ih, List.replicate_succ]; rfl
theorem sFor_of {src : Lo → R (List D)} {gm : D → Lo → Option Lo} {b : Lo → SR} {L L1 : Lo} {xs : List D} {r : SR} (h : src L = .ok xs L1) (h2 : forGo gm b xs L1 = r) : sFor src gm b L = r := by
  unfold sFor; rw [h]; exact h2
theorem sSetF_of {i : Nat} {m : Lo → R (List D)} {L L1 : Lo} {d : List D} {s0 : SV} (h : m L = .ok d L1) (h2 : L1[i]? = some s0) (h3 : isIo s0 = false) : sSetF i m L = .nx (L1.set i (.li d)) := by
  unfold sSetF; rw [h]; dsimp only
  unfold putS; rw [h2]; dsimp only; rw [h3]; rfl
theorem getL_v (L : Lo) (d : D) : getL L [.v d] = some [d] := rfl
theorem rg1_of {m : Lo → R RV} {L L1 : Lo} {r : RV} {i : Int} (h : m L = .ok r L1) (h2 : r.get L1 = some (.int i)) : rg1 m L = .ok (0, i) L1 := by
  unfold rg1; rw [h]; dsimp only; rw [h2]
theorem fRg_of {m : Lo → R (Int × Int)} {L L1 : Lo} {a b : Int} (h : m L = .ok (a, b) L1) (h2 : rgOk a b = true) : fRg m L = .ok (rangeD a b) L1 := by
  unfold fRg; rw [h]; dsimp only; rw [if_pos h2]
theorem eTupRg_of {m : Lo → R (Int × Int)} {L L1 : Lo} {a b : Int} (h : m L = .ok (a, b) L1) (h2 : rgOk a b = true) : eTupRg m L = .ok (.v (.tup (rangeD a b))) L1 := by
  unfold eTupRg; rw [h]; dsimp only; rw [if_pos h2]
theorem rgOk0 {n : Int} (h0 : -1000 ≤ n) (h1 : n ≤ 1000) : rgOk 0 n = true := by
  unfold rgOk
  simp only [Bool.and_eq_true, decide_eq_true_eq]
  exact ⟨⟨⟨⟨by decide, by decide⟩, by omega⟩, by omega⟩, len_line (by omega)⟩
theorem iR1_of {m : Lo → R RV} {L L1 : Lo} {r : RV} {i : Int} (h : m L = .ok r L1) (h2 : r.get L1 = some (.int i)) (h3 : -1000 ≤ i ∧ i ≤ 1000) : iRange1 (aCons m aNil) L = .ok (rangeD 0 i) L1 :=
  iRange1_of (aOne h) (by show (match r.get L1, getL L1 [] with | some d, some ds => some (d :: ds) | _, _ => none) = _; rw [h2]; rfl) (by omega)
theorem sSet_of {i : Nat} {m : Lo → R RV} {L L1 L2 : Lo} {r : RV} {d : D} (h : m L = .ok r L1) (h2 : frz r L1 = some (d, L2)) (h3 : putS i (.va d) L2 = .nx (L2.set i (.va d))) : sSet i m L = .nx (L2.set i (.va d)) := by
  unfold sSet; rw [h]; dsimp only; rw [h2]; exact h3
theorem sIf_t {c : Lo → R Bool} {a b : Lo → SR} {L L1 : Lo} (h : c L = .ok true L1) : sIf c a b L = a L1 := by unfold sIf; rw [h]
theorem sIf_f {c : Lo → R Bool} {a b : Lo → SR} {L L1 : Lo} (h : c L = .ok false L1) : sIf c a b L = b L1 := by unfold sIf; rw [h]
/-- the first element makes both states alike -/
theorem compGo_first {vs : List Nat} {gm : D → Lo → Option Lo} {me : Lo → R RV} {L L' A A' B : Lo} {x : D} {rv : RV} {xs : List D}
    (h1 : gm x (wipeS L vs) = some A) (h2 : gm x (wipeS L' vs) = some A') (h3 : me A = .ok rv B) (h4 : me A' = .ok rv B) (h5 : ∀ M, unw L M vs = unw L' M vs) : compGo vs gm tTrue me (x :: xs) L = compGo vs gm tTrue me (x :: xs) L' := by
  unfold compGo
  rw [h1, h2]
  unfold tTrue
  dsimp only
  rw [h3, h4]
  dsimp only
  cases frz rv B with
  | none => rfl
  | some p => dsimp only; rw [h5]
theorem fComp_first {vs : List Nat} {src : Lo → R (List D)} {gm : D → Lo → Option Lo} {mt : Lo → R Bool} {me : Lo → R RV} {L L' : Lo} {xs : List D} (h1 : src L = .ok xs L) (h1' : src L' = .ok xs L') (h3 : noOwnAt L vs = true) (h3' : noOwnAt L' vs = true) (h4 : compGo vs gm mt me xs L = compGo vs gm mt me xs L') : fComp vs src gm mt me L = fComp vs src gm mt me L' := by
  unfold fComp; rw [h1, h1']; dsimp only
  rw [h3, h3', h4]
theorem rangeD_cons {a b : Int} (h : a < b) : ∃ xs, rangeD a b = .int a :: xs := by
  unfold rangeD
  obtain ⟨m, hm⟩ : ∃ m, (b - a).toNat = m + 1 := ⟨(b - a).toNat - 1, by omega⟩
  rw [hm, List.range_succ_eq_map, List.map_cons]
  exact ⟨_, by rw [show a + ((0 : Nat) : Int) = a by omega]⟩
theorem sStore2_of {i : Nat} {mo mk me : Lo → R RV} {L L1 L3 L4 : Lo} {d : D} {ro rk : RV} {xss : List (List D)} {xs : List D} {o k : Int} {j t : Nat}
    (h1 : me L = .ok (.v d) L1) (h2 : L1[i]? = some (.l2 xss)) (h3 : mo (L1.set i .un) = .ok ro L3) (h4 : ro.get L3 = some (.int o)) (h5 : ixN xss.length o = some j) (h6 : xss[j]? = some xs) (h7 : mk L3 = .ok rk L4) (h8 : rk.get L4 = some (.int k)) (h9 : L4[i]? = some .un) (h10 : ixN xs.length k = some t) :
    sStore2 i mo mk me L = .nx (L4.set i (.l2 (xss.set j (xs.set t d)))) := by
  have h11 : L2.atI xss o = some xs := by unfold L2.atI; rw [h5]; exact h6
  unfold sStore2
  rw [h1]; dsimp only
  rw [show frz (.v d) L1 = some (d, L1) from rfl]; dsimp only
  rw [h2]; dsimp only
  rw [h3]; dsimp only
  rw [h4]; dsimp only
  rw [h11, h5]; dsimp only
  rw [h7]; dsimp only
  rw [h8, h9]; dsimp only
  rw [h10]
theorem sSet_v {i : Nat} {m : Lo → R RV} {L L1 : Lo} {d : D} {s0 : SV} (h : m L = .ok (.v d) L1) (h2 : L1[i]? = some s0) (h3 : isIo s0 = false) : sSet i m L = .nx (L1.set i (.va d)) := by
  unfold sSet; rw [h]; dsimp only
  rw [show frz (.v d) L1 = some (d, L1) from rfl]; dsimp only
  unfold putS; rw [h2]; dsimp only; rw [h3]; rfl
theorem sSetG_of {i : Nat} {m : Lo → R (List (List D))} {L L1 : Lo} {d : List (List D)} {s0 : SV} (h : m L = .ok d L1) (h2 : L1[i]? = some s0) (h3 : isIo s0 = false) : sSetG i m L = .nx (L1.set i (.l2 d)) := by
  unfold sSetG; rw [h]; dsimp only
  unfold putS; rw [h2]; dsimp only; rw [h3]; rfl
theorem eOp2_v {f : D → D → Option D} {a b : Lo → R RV} {L L1 L2 : Lo} {x y d : D} (h1 : a L = .ok (.v x) L1) (h2 : b L1 = .ok (.v y) L2) (h3 : f x y = some d) : eOp2 f a b L = .ok (.v d) L2 := by
  unfold eOp2; rw [h1]; dsimp only; rw [h2]; dsimp only
  show (match f x y with | some d => R.ok (RV.v d) L2 | none => R.no) = _
  rw [h3]
theorem tBl_v {m : Lo → R RV} {L L1 : Lo} {b : Bool} (h : m L = .ok (.v (.bl b)) L1) : tBl m L = .ok b L1 := by
  unfold tBl; rw [h]; rfl
theorem sAppend_li {i : Nat} {m : Lo → R RV} {L L1 : Lo} {d : D} {xs : List D} (h0 : L[i]? = some (.li xs)) (h : m L = .ok (.v d) L1) (h2 : L1[i]? = some (.li xs)) (h3 : xs.length ≤ 1000) : sAppend i m L = .nx (L1.set i (.li (xs ++ [d]))) := by
  have hl : xs.length < lineN := Nat.lt_of_le_of_lt h3 (by decide)
  unfold sAppend
  rw [h0]
  show (match m L with | .ok rv L1 => _ | .ex x L1 => _ | .no => _) = _
  rw [h]; dsimp only
  rw [show frz (.v d) L1 = some (d, L1) from rfl]; dsimp only
  rw [h2]; dsimp only
  show (if xs.length < lineN then _ else _) = _
  rw [if_pos hl]; rfl
theorem iSeq_lst {m : Lo → R RV} {L L1 : Lo} {xs : List D} (h : m L = .ok (.v (.lst xs)) L1) : iSeq m L = .ok xs L1 := by
  unfold iSeq; rw [h]; rfl
theorem iSeq_tup {m : Lo → R RV} {L L1 : Lo} {xs : List D} (h : m L = .ok (.v (.tup xs)) L1) : iSeq m L = .ok xs L1 := by
  unfold iSeq; rw [h]; rfl
theorem fOp2_v {f : D → D → Option (List D)} {a b : Lo → R RV} {L L1 L2 : Lo} {x y : D} {d : List D} (h1 : a L = .ok (.v x) L1) (h2 : b L1 = .ok (.v y) L2) (h3 : f x y = some d) : fOp2 f a b L = .ok d L2 := by
  unfold fOp2; rw [h1]; dsimp only; rw [h2]; dsimp only
  show (match f x y with | some d => R.ok d L2 | none => R.no) = _
  rw [h3]
theorem fLst_one {m : Lo → R RV} {L L1 : Lo} {d : D} (h : m L = .ok (.v d) L1) : fLst (aCons m aNil) L = .ok [d] L1 := by
  unfold fLst; rw [aOne h]; rfl
theorem vCons_v {m : Lo → R RV} {ms : Lo → R (List SV)} {L L1 L2 : Lo} {d : D} {ss : List SV} (h : m L = .ok (.v d) L1) (h2 : ms L1 = .ok ss L2) : vCons m ms L = .ok (.va d :: ss) L2 := by
  unfold vCons; rw [h]; dsimp only
  rw [show frz (.v d) L1 = some (d, L1) from rfl]; dsimp only
  rw [h2]
theorem sPar_of {is : List Nat} {m : Lo → R (List SV)} {L L1 L2 : Lo} {ss : List SV} (h : m L = .ok ss L1) (h2 : putMany is ss L1 = some L2) : sPar is m L = .nx L2 := by
  unfold sPar; rw [h]; dsimp only; rw [h2]
theorem tAnd2_v {a b : Lo → R Bool} {L : Lo} {p q : Bool} (h1 : a L = .ok p L) (h2 : b L = .ok q L) : tAnd2 a b L = .ok (p && q) L := by
  unfold tAnd2; rw [h1]; cases p <;> dsimp only
  · rfl
  · rw [h2]; rfl
theorem sIf_skip {c : Lo → R Bool} {a r : Lo → SR} {L : Lo} (h : c L = .ok false L) : sSeq (sIf c a .nx) r L = r L := sSeq_nx (by unfold sIf; rw [h])
/-- rows of whole numbers -/
def BoxL (m k hi : Int) (rs : List (List D)) : Prop := (rs.length : Int) = m ∧ ∀ xs ∈ rs, (xs.length : Int) = k ∧ ∀ x ∈ xs, ∃ i : Int, x = .int i ∧ 0 ≤ i ∧ i < hi
theorem BoxL.rows {k hi : Int} : ∀ {rs : List (List D)}, (∀ xs ∈ rs, (xs.length : Int) = k ∧ ∀ x ∈ xs, ∃ i : Int, x = .int i ∧ 0 ≤ i ∧ i < hi) → ∃ rows : List (List Int), rs = rows.map (·.map D.int) ∧ ∀ r ∈ rows, (r.length : Int) = k ∧ ∀ v ∈ r, 0 ≤ v ∧ v < hi
  | [], _ => ⟨[], rfl, by simp⟩
  | xs :: rs, h => by
    obtain ⟨rows, rfl, hr⟩ := BoxL.rows fun y hy => h y (List.mem_cons_of_mem _ hy)
    obtain ⟨h1, h2⟩ := h xs (List.mem_cons_self ..)
    obtain ⟨ns, rfl, hn⟩ := ints_all h2
    refine ⟨ns :: rows, rfl, fun r hm => ?_⟩
    rcases List.mem_cons.mp hm with rfl | hm
    · exact ⟨by rw [List.length_map] at h1; exact h1, hn⟩
    · exact hr r hm
theorem BoxL.set {m k hi : Int} {rs : List (List D)} (h : BoxL m k hi rs) {o t : Nat} {xs : List D} (ho : rs[o]? = some xs) {i : Int} (hi0 : 0 ≤ i ∧ i < hi) : BoxL m k hi (rs.set o (xs.set t (.int i))) := by
  refine ⟨by rw [List.length_set]; exact h.1, fun ys hy => ?_⟩
  rcases List.mem_or_eq_of_mem_set hy with hy | rfl
  · exact h.2 ys hy
  · obtain ⟨h1, h2⟩ := h.2 xs (List.mem_of_getElem? ho)
    refine ⟨by rw [List.length_set]; exact h1, fun x hx => ?_⟩
    rcases List.mem_or_eq_of_mem_set hx with hx | rfl
    · exact h2 x hx
    · exact ⟨i, rfl, hi0⟩
end L2.Z

/-! part G04 -/
set_option Elab.async false
set_option linter.all false
set_option maxRecDepth 100000
set_option maxHeartbeats 4000000
namespace L2.G04
open PySem PySem.Spec PyProof.Rows L2.Z
def topS (i : Nat) : Stmt := PySem.Challenge.pw_onewordhome_k04_whole_letters_words_lots.main.body.getD i (.Pass ⟨0, 0, 0, 0⟩)
section
variable {Pg : Program} {w : World} {K : PySem.W.Frag} {g : Nm} {mg : Str → Option Value} {base : Heap}
def m_is_number : Lo → SR :=
  (sRet (eAnd (eOp1 (isiD "int") (eVar 0)) (eNot (eOp1 (isiD "bool") (eVar 0)))))
def f_is_number := fnP 1 m_is_number
theorem sc_is_number : FnScope ["thing"] ["thing"] (defScope (topS 3)) := ⟨rfl, rfl, rfl, by decide +kernel, rfl, by decide +kernel, by decide +kernel⟩
theorem ok_is_number (A0 : AtTop K mg "is_number" (topS 3)) (n_isinstance : mg "isinstance" = none) (n_int : mg "int" = none) (n_bool : mg "bool" = none) : DefOk Pg w K mg base 1 "is_number" ["thing"] (spP K g 1 f_is_number) := by
  obtain ⟨f, fd, F, gF⟩ := A0.ex
  exact defP F gF (F.binds (ps := ["thing"]) fun _ _ _ _ _ _ us hl => match us, hl with | [_], _ => rfl) sc_is_number (fun cdv A outer s H E hr tk =>
    (mss_one (ms_ret (ps_ret (me_and (me_isi (pe_callB call_isi rfl n_isinstance bt_isinstance (pa_cons (me_var (pv 0)) (pa_cons (pe_bltn (v := .ty "int") rfl n_int bt_int rfl) pa_nil)))) (me_one (me_not (me_isi (pe_callB call_isi rfl n_isinstance bt_isinstance (pa_cons (me_var (pv 0)) (pa_cons (pe_bltn (v := .ty "bool") rfl n_bool bt_bool rfl) pa_nil)))))))))))
def m_is_within : Lo → SR :=
  (sRet (eAnd (eCall 1 f_is_number (aCons (eVar 0) aNil)) (eChain (cmpD fun i j => decide (i ≤ j)) (cmpD fun i j => decide (i ≤ j)) (eVar 1) (eVar 0) (eVar 2))))
def f_is_within := fnP 3 m_is_within
theorem sc_is_within : FnScope ["thing", "least", "most"] ["thing", "least", "most"] (defScope (topS 4)) := ⟨rfl, rfl, rfl, by decide +kernel, rfl, by decide +kernel, by decide +kernel⟩
theorem ok_is_within (A0 : AtTop K mg "is_within" (topS 4)) (c_is_number : DefOk Pg w K mg base 1 "is_number" ["thing"] (spP K g 1 f_is_number)) : DefOk Pg w K mg base 2 "is_within" ["thing", "least", "most"] (spP K g 3 f_is_within) := by
  obtain ⟨f, fd, F, gF⟩ := A0.ex
  exact defP F gF (F.binds (ps := ["thing", "least", "most"]) fun _ _ _ _ _ _ us hl => match us, hl with | [_, _, _], _ => rfl) sc_is_within (fun cdv A outer s H E hr tk =>
    (mss_one (ms_ret (ps_ret (me_and (me_call c_is_number (hr.mono (by decide)) tk rfl (ma_cons (me_var (pv 0)) ma_nil)) (me_one (me_chain (pe_chain op_le op_le (me_var (pv 1)) (me_var (pv 0)) (me_var (pv 2))) (o_cmp _) (o_cmp _))))))))
def m_sure_within : Lo → SR :=
  (sSeq (sIf (tNt (tBl (eCall 3 f_is_within (aCons (eVar 0) (aCons (eVar 1) (aCons (eVar 2) aNil))))))
    (fun L => .ex ⟨0, none⟩ L)
    .nx)
    (sRet (eVar 0)))
def f_sure_within := fnP 3 m_sure_within
theorem sc_sure_within : FnScope ["thing", "least", "most"] ["thing", "least", "most"] (defScope (topS 5)) := ⟨rfl, rfl, rfl, by decide +kernel, rfl, by decide +kernel, by decide +kernel⟩
theorem ok_sure_within (A0 : AtTop K mg "sure_within" (topS 5)) (x_Unfit : ExcK K mg "Unfit" (g.xa 0)) (c_is_within : DefOk Pg w K mg base 2 "is_within" ["thing", "least", "most"] (spP K g 3 f_is_within)) : DefOk Pg w K mg base 3 "sure_within" ["thing", "least", "most"] (spP K g 3 f_sure_within) := by
  obtain ⟨f, fd, F, gF⟩ := A0.ex
  exact defP F gF (F.binds (ps := ["thing", "least", "most"]) fun _ _ _ _ _ _ us hl => match us, hl with | [_, _, _], _ => rfl) sc_sure_within (fun cdv A outer s H E hr tk =>
    (mss_cons (ms_if (ps_if (mt_not (mt_valB (pt_val (me_call c_is_within (hr.mono (by decide)) tk rfl (ma_cons (me_var (pv 0)) (ma_cons (me_var (pv 1)) (ma_cons (me_var (pv 2)) ma_nil)))))))
    (mss_one (ms_raiseU rfl tk x_Unfit rfl))
    mss_nil))
    (mss_one (ms_ret (ps_ret (me_var (pv 0)))))))
def m_is_long : Lo → SR :=
  (sRet (eAnd (eOp1 (isiD "tuple") (eVar 0)) (eOp2 eqD (eOpN lenD (aCons (eVar 0) aNil)) (eVar 1))))
def f_is_long := fnP 2 m_is_long
theorem sc_is_long : FnScope ["thing", "length"] ["thing", "length"] (defScope (topS 6)) := ⟨rfl, rfl, rfl, by decide +kernel, rfl, by decide +kernel, by decide +kernel⟩
theorem ok_is_long (A0 : AtTop K mg "is_long" (topS 6)) (n_isinstance : mg "isinstance" = none) (n_tuple : mg "tuple" = none) (n_len : mg "len" = none) : DefOk Pg w K mg base 1 "is_long" ["thing", "length"] (spP K g 2 f_is_long) := by
  obtain ⟨f, fd, F, gF⟩ := A0.ex
  exact defP F gF (F.binds (ps := ["thing", "length"]) fun _ _ _ _ _ _ us hl => match us, hl with | [_, _], _ => rfl) sc_is_long (fun cdv A outer s H E hr tk =>
    (mss_one (ms_ret (ps_ret (me_and (me_isi (pe_callB call_isi rfl n_isinstance bt_isinstance (pa_cons (me_var (pv 0)) (pa_cons (pe_bltn (v := .ty "tuple") rfl n_tuple bt_tuple rfl) pa_nil)))) (me_one (me_op2 (pe_cmpR (op_eqD hr.units) (me_opN (pe_callB call_len rfl n_len bt_len (ma_cons (me_var (pv 0)) ma_nil)) o_len) (me_var (pv 1)) (nomark _)) o_eq)))))))
def m_are_numbers : Lo → SR :=
  (sRet (eAnd (eOp1 (isiD "tuple") (eVar 0)) (eOpN allD (aCons (eFz (fComp [1] (iSeq (eVar 0)) (gN 1) tTrue (eCall 1 f_is_number (aCons (eVar 1) aNil)))) aNil))))
def f_are_numbers := fnP 2 m_are_numbers
theorem sc_are_numbers : FnScope ["thing", "own"] ["thing"] (defScope (topS 7)) := ⟨rfl, rfl, rfl, by decide +kernel, rfl, by decide +kernel, by decide +kernel⟩
theorem ok_are_numbers (A0 : AtTop K mg "are_numbers" (topS 7)) (n_isinstance : mg "isinstance" = none) (n_tuple : mg "tuple" = none) (n_all : mg "all" = none) (c_is_number : DefOk Pg w K mg base 1 "is_number" ["thing"] (spP K g 1 f_is_number)) : DefOk Pg w K mg base 2 "are_numbers" ["thing"] (spP K g 1 f_are_numbers) := by
  obtain ⟨f, fd, F, gF⟩ := A0.ex
  exact defP F gF (F.binds (ps := ["thing"]) fun _ _ _ _ _ _ us hl => match us, hl with | [_], _ => rfl) sc_are_numbers (fun cdv A outer s H E hr tk =>
    (mss_one (ms_ret (ps_ret (me_and (me_isi (pe_callB call_isi rfl n_isinstance bt_isinstance (pa_cons (me_var (pv 0)) (pa_cons (pe_bltn (v := .ty "tuple") rfl n_tuple bt_tuple rfl) pa_nil)))) (me_one (me_opN (pe_callB (cr_all rfl) rfl n_all bt_all (ma_cons (me_fz (mf_comp (own := [("own", 1)]) rfl sc_are_numbers.nd (mi_seq (me_var (pv 0))) (blkOk_by rfl) (fun _ _ _ _ _ => (pg_name (i := 1) sc_are_numbers.nd rfl (.inl rfl))) (tg_name (by decide)) (fun _ _ _ _ _ => mts_nil) (fun _ _ _ _ _ => (me_call c_is_number (hr.mono (by decide)) takes0 rfl (ma_cons (me_var (pv 1)) ma_nil))))) ma_nil)) o_all)))))))
def m_are_within : Lo → SR :=
  (sRet (eAnd (eCall 1 f_are_numbers (aCons (eVar 0) aNil)) (eOpN allD (aCons (eFz (fComp [3] (iSeq (eVar 0)) (gN 3) tTrue (eChain (cmpD fun i j => decide (i ≤ j)) (cmpD fun i j => decide (i ≤ j)) (eVar 1) (eVar 3) (eVar 2)))) aNil))))
def f_are_within := fnP 4 m_are_within
theorem sc_are_within : FnScope ["thing", "least", "most", "own"] ["thing", "least", "most"] (defScope (topS 8)) := ⟨rfl, rfl, rfl, by decide +kernel, rfl, by decide +kernel, by decide +kernel⟩
theorem ok_are_within (A0 : AtTop K mg "are_within" (topS 8)) (n_all : mg "all" = none) (c_are_numbers : DefOk Pg w K mg base 2 "are_numbers" ["thing"] (spP K g 1 f_are_numbers)) : DefOk Pg w K mg base 3 "are_within" ["thing", "least", "most"] (spP K g 3 f_are_within) := by
  obtain ⟨f, fd, F, gF⟩ := A0.ex
  exact defP F gF (F.binds (ps := ["thing", "least", "most"]) fun _ _ _ _ _ _ us hl => match us, hl with | [_, _, _], _ => rfl) sc_are_within (fun cdv A outer s H E hr tk =>
    (mss_one (ms_ret (ps_ret (me_and (me_call c_are_numbers (hr.mono (by decide)) tk rfl (ma_cons (me_var (pv 0)) ma_nil)) (me_one (me_opN (pe_callB (cr_all rfl) rfl n_all bt_all (ma_cons (me_fz (mf_comp (own := [("own", 3)]) rfl sc_are_within.nd (mi_seq (me_var (pv 0))) (blkOk_by rfl) (fun _ _ _ _ _ => (pg_name (i := 3) sc_are_within.nd rfl (.inl rfl))) (tg_name (by decide)) (fun _ _ _ _ _ => mts_nil) (fun _ _ _ _ _ => (me_chain (pe_chain op_le op_le (me_var (pv 1)) (me_var (pv 3)) (me_var (pv 2))) (o_cmp _) (o_cmp _))))) ma_nil)) o_all)))))))
def m_ascends : Lo → SR :=
  (sRet (eOpN allD (aCons (eFz (fComp [1, 2] (iZip2 (aCons (eVar 0) (aCons (eSl slD (eVar 0) (oSo (eC (.int 1))) oNo) aNil))) (gTp (gsCons (gN 1) (gsCons (gN 2) gsNil))) tTrue (eOp2 ltD (eVar 1) (eVar 2)))) aNil)))
def f_ascends := fnP 3 m_ascends
theorem sc_ascends : FnScope ["row", "one", "other"] ["row"] (defScope (topS 9)) := ⟨rfl, rfl, rfl, by decide +kernel, rfl, by decide +kernel, by decide +kernel⟩
theorem ok_ascends (A0 : AtTop K mg "ascends" (topS 9)) (n_zip : mg "zip" = none) (n_all : mg "all" = none) : DefOk Pg w K mg base 1 "ascends" ["row"] (spP K g 1 f_ascends) := by
  obtain ⟨f, fd, F, gF⟩ := A0.ex
  exact defP F gF (F.binds (ps := ["row"]) fun _ _ _ _ _ _ us hl => match us, hl with | [_], _ => rfl) sc_ascends (fun cdv A outer s H E hr tk =>
    (mss_one (ms_ret (ps_ret (me_opN (pe_callB (cr_all rfl) rfl n_all bt_all (ma_cons (me_fz (mf_comp (own := [("one", 1), ("other", 2)]) rfl sc_ascends.nd (mi_zip rfl n_zip (ma_cons (me_var (pv 0)) (ma_cons (me_sl (pe_slice sl_U (me_var (pv 0)) (mo_so me_int) mo_no) os_U) ma_nil))) (blkOk_by rfl) (fun _ _ _ _ _ => (pg_tup rfl (pgs_cons (pg_name (i := 1) sc_ascends.nd rfl (.inl rfl)) (pgs_cons (pg_name (i := 2) sc_ascends.nd rfl (.inl rfl)) pgs_nil)))) (tg_tup (tgs_cons (tg_name (by decide)) (tgs_cons (tg_name (by decide)) tgs_nil)) len2) (fun _ _ _ _ _ => mts_nil) (fun _ _ _ _ _ => (me_op2 (pe_cmpR (op_ltU hr) (me_var (pv 1)) (me_var (pv 2)) (nomark _)) o_lt)))) ma_nil)) o_all)))))
def m_tupled (f_tupled : List D → FR D) : Lo → SR :=
  (sRet (eIf (tBl (eOp1 (isi2D "list" "tuple") (eVar 0))) (eOpN tupD (aCons (eFz (fComp [1] (iSeq (eVar 0)) (gN 1) tTrue (eCall 1 f_tupled (aCons (eVar 1) aNil)))) aNil)) (eVar 0)))
def f_tupled_at : Nat → List D → FR D
  | 0 => fun _ => .no
  | n + 1 => fnP 2 (m_tupled (f_tupled_at n))
def f_tupled : List D → FR D := f_tupled_at 12
theorem sc_tupled : FnScope ["value", "own"] ["value"] (defScope (topS 10)) := ⟨rfl, rfl, rfl, by decide +kernel, rfl, by decide +kernel, by decide +kernel⟩
theorem ok_tupled_at (A0 : AtTop K mg "tupled" (topS 10)) (n_isinstance : mg "isinstance" = none) (n_list : mg "list" = none) (n_tuple : mg "tuple" = none) : ∀ j : Nat, DefOk Pg w K mg base (1 + j) "tupled" ["value"] (spP K g 1 (f_tupled_at j)) := by
  obtain ⟨f, fd, F, gF⟩ := A0.ex
  intro j
  induction j with
  | zero => exact ⟨f, fd, gF, F.kp, F.binds (ps := ["value"]) fun _ _ _ _ _ _ us hl => match us, hl with | [_], _ => rfl, fnNoP F sc_tupled⟩
  | succ j ih => exact defP (k := 1 + j) F gF (F.binds (ps := ["value"]) fun _ _ _ _ _ _ us hl => match us, hl with | [_], _ => rfl) sc_tupled (fun cdv A outer s H E hr tk =>
    (mss_one (ms_ret (ps_ret (me_if (mt_valB (pt_val (me_isi2 (pe_callB call_isiT rfl n_isinstance bt_isinstance (pa_cons (me_var (pv 0)) (pa_cons (pe_tup (pa_cons (pe_bltn (v := .ty "list") rfl n_list bt_list rfl) (pa_cons (pe_bltn (v := .ty "tuple") rfl n_tuple bt_tuple rfl) pa_nil))) pa_nil)))))) (me_opN (pe_callTy call_tuple_of rfl n_tuple bt_tuple (ma_cons (me_fz (mf_comp (own := [("own", 1)]) rfl sc_tupled.nd (mi_seq (me_var (pv 0))) (blkOk_by rfl) (fun _ _ _ _ _ => (pg_name (i := 1) sc_tupled.nd rfl (.inl rfl))) (tg_name (by decide)) (fun _ _ _ _ _ => mts_nil) (fun _ _ _ _ _ => (me_call ih (hr.mono (Nat.le_refl _)) takes0 rfl (ma_cons (me_var (pv 1)) ma_nil))))) ma_nil)) o_tup) (me_var (pv 0)))))))
theorem ok_tupled (A0 : AtTop K mg "tupled" (topS 10)) (n_isinstance : mg "isinstance" = none) (n_list : mg "list" = none) (n_tuple : mg "tuple" = none) : DefOk Pg w K mg base 13 "tupled" ["value"] (spP K g 1 f_tupled) := ok_tupled_at A0 n_isinstance n_list n_tuple 12
def m_set_of : Lo → SR :=
  (sRet (eOpN tupD (aCons (eFz (fSortZ (zSet (aCons (eVar 0) aNil)))) aNil)))
def f_set_of := fnP 1 m_set_of
theorem sc_set_of : FnScope ["row"] ["row"] (defScope (topS 11)) := ⟨rfl, rfl, rfl, by decide +kernel, rfl, by decide +kernel, by decide +kernel⟩
theorem ok_set_of (A0 : AtTop K mg "set_of" (topS 11)) (n_sorted : mg "sorted" = none) (n_set : mg "set" = none) (n_tuple : mg "tuple" = none) : DefOk Pg w K mg base 1 "set_of" ["row"] (spP K g 1 f_set_of) := by
  obtain ⟨f, fd, F, gF⟩ := A0.ex
  exact defP F gF (F.binds (ps := ["row"]) fun _ _ _ _ _ _ us hl => match us, hl with | [_], _ => rfl) sc_set_of (fun cdv A outer s H E hr tk =>
    (mss_one (ms_ret (ps_ret (me_opN (pe_callTy call_tuple_of rfl n_tuple bt_tuple (ma_cons (me_fz (mf_sortZ (pe_callB (cr_sortedSet rfl) rfl n_sorted bt_sorted (pa_cons (mz_set (pe_callTy (cr_setI rfl) rfl n_set bt_set (ma_cons (me_var (pv 0)) ma_nil))) pa_nil)))) ma_nil)) o_tup)))))
def m_is_machine_in : Lo → SR :=
  (sSeq (sIf (tOr2 (tNt (tBl (eCall 2 f_is_long (aCons (eVar 0) (aCons (eC (.int 2)) aNil))))) (tOr2 (tNt (tBl (eCall 3 f_is_within (aCons (eOp2 ixD (eVar 0) (eC (.int 0))) (aCons (eC (.int 1)) (aCons (eC (.int 4)) aNil)))))) (tNt (tBl (eOp1 (isiD "tuple") (eOp2 ixD (eVar 0) (eC (.int 1))))))))
    (sRet (eC (.bl false)))
    .nx)
    (sSeq (sSet 1 (eOpN lenD (aCons (eOp2 ixD (eVar 0) (eC (.int 1))) aNil)))
    (sSeq (sIf (tNt (tBl (eChain (cmpD fun i j => decide (i ≤ j)) (cmpD fun i j => decide (i ≤ j)) (eC (.int 1)) (eVar 1) (eC (.int 10)))))
    (sRet (eC (.bl false)))
    .nx)
    (sRet (eOpN allD (aCons (eFz (fComp [2] (iSeq (eOp2 ixD (eVar 0) (eC (.int 1)))) (gN 2) tTrue (eAnd (eCall 2 f_is_long (aCons (eVar 2) (aCons (eOp2 ixD (eVar 0) (eC (.int 0))) aNil))) (eCall 3 f_are_within (aCons (eVar 2) (aCons (eC (.int 0)) (aCons (eOp2 subD (eVar 1) (eC (.int 1))) aNil))))))) aNil))))))
def f_is_machine_in := fnP 3 m_is_machine_in
theorem sc_is_machine_in : FnScope ["thing", "many", "row"] ["thing"] (defScope (topS 16)) := ⟨rfl, rfl, rfl, by decide +kernel, rfl, by decide +kernel, by decide +kernel⟩
theorem ok_is_machine_in (A0 : AtTop K mg "is_machine_in" (topS 16)) (g_MOST_LETTERS : ∃ t, mg "MOST_LETTERS" = some (.int 4 t)) (n_isinstance : mg "isinstance" = none) (n_tuple : mg "tuple" = none) (n_len : mg "len" = none) (g_MOST_PLACES : ∃ t, mg "MOST_PLACES" = some (.int 10 t)) (n_all : mg "all" = none) (c_are_within : DefOk Pg w K mg base 3 "are_within" ["thing", "least", "most"] (spP K g 3 f_are_within)) (c_is_long : DefOk Pg w K mg base 1 "is_long" ["thing", "length"] (spP K g 2 f_is_long)) (c_is_within : DefOk Pg w K mg base 2 "is_within" ["thing", "least", "most"] (spP K g 3 f_is_within)) : DefOk Pg w K mg base 4 "is_machine_in" ["thing"] (spP K g 1 f_is_machine_in) := by
  obtain ⟨f, fd, F, gF⟩ := A0.ex
  exact defP F gF (F.binds (ps := ["thing"]) fun _ _ _ _ _ _ us hl => match us, hl with | [_], _ => rfl) sc_is_machine_in (fun cdv A outer s H E hr tk =>
    (mss_cons (ms_if (ps_if (PW.pt (mw_or (mt_not (mt_valB (pt_val (me_call c_is_long (hr.mono (by decide)) tk rfl (ma_cons (me_var (pv 0)) (ma_cons me_int ma_nil)))))) (mw_or (mt_not (mt_valB (pt_val (me_call c_is_within (hr.mono (by decide)) tk rfl (ma_cons (me_op2 (pe_ix ix_seq (me_var (pv 0)) me_int (fun _ _ => rfl)) o_ix) (ma_cons me_int (ma_cons (me_globI rfl g_MOST_LETTERS) ma_nil))))))) (mw_or1 (mt_not (mt_valB (pt_val (me_isi (pe_callB call_isi rfl n_isinstance bt_isinstance (pa_cons (me_op2 (pe_ix ix_seq (me_var (pv 0)) me_int (fun _ _ => rfl)) o_ix) (pa_cons (pe_bltn (v := .ty "tuple") rfl n_tuple bt_tuple rfl) pa_nil)))))))))))
    (mss_one (ms_ret (ps_ret me_bl)))
    mss_nil))
    (mss_cons (ms_set (ps_set (i := 1) sc_is_machine_in.nd rfl (.inr rfl) (me_opN (pe_callB call_len rfl n_len bt_len (ma_cons (me_op2 (pe_ix ix_seq (me_var (pv 0)) me_int (fun _ _ => rfl)) o_ix) ma_nil)) o_len)))
    (mss_cons (ms_if (ps_if (mt_not (mt_chain (pt_chain op_le op_le me_int (me_var (pv 1)) (me_globI rfl g_MOST_PLACES)) (o_cmp _) (o_cmp _)))
    (mss_one (ms_ret (ps_ret me_bl)))
    mss_nil))
    (mss_one (ms_ret (ps_ret (me_opN (pe_callB (cr_all rfl) rfl n_all bt_all (ma_cons (me_fz (mf_comp (own := [("row", 2)]) rfl sc_is_machine_in.nd (mi_seq (me_op2 (pe_ix ix_seq (me_var (pv 0)) me_int (fun _ _ => rfl)) o_ix)) (blkOk_by rfl) (fun _ _ _ _ _ => (pg_name (i := 2) sc_is_machine_in.nd rfl (.inl rfl))) (tg_name (by decide)) (fun _ _ _ _ _ => mts_nil) (fun _ _ _ _ _ => (me_and (me_call c_is_long (hr.mono (by decide)) takes0 rfl (ma_cons (me_var (pv 2)) (ma_cons (me_op2 (pe_ix ix_seq (me_var (pv 0)) me_int (fun _ _ => rfl)) o_ix) ma_nil))) (me_one (me_call c_are_within (hr.mono (by decide)) takes0 rfl (ma_cons (me_var (pv 2)) (ma_cons me_int (ma_cons (me_op2 (pe_op op_sub (me_var (pv 1)) me_int) o_sub) ma_nil))))))))) ma_nil)) o_all))))))))
def m_sure_machine : Lo → SR :=
  (sSeq (sSet 1 (eCall 1 f_tupled (aCons (eVar 0) aNil)))
    (sSeq (sIf (tNt (tBl (eCall 1 f_is_machine_in (aCons (eVar 1) aNil))))
    (fun L => .ex ⟨0, none⟩ L)
    .nx)
    (sRet (eVar 1))))
def f_sure_machine := fnP 2 m_sure_machine
theorem sc_sure_machine : FnScope ["value", "own"] ["value"] (defScope (topS 17)) := ⟨rfl, rfl, rfl, by decide +kernel, rfl, by decide +kernel, by decide +kernel⟩
theorem ok_sure_machine (A0 : AtTop K mg "sure_machine" (topS 17)) (x_Unfit : ExcK K mg "Unfit" (g.xa 0)) (c_is_machine_in : DefOk Pg w K mg base 4 "is_machine_in" ["thing"] (spP K g 1 f_is_machine_in)) (c_tupled : DefOk Pg w K mg base 13 "tupled" ["value"] (spP K g 1 f_tupled)) : DefOk Pg w K mg base 14 "sure_machine" ["value"] (spP K g 1 f_sure_machine) := by
  obtain ⟨f, fd, F, gF⟩ := A0.ex
  exact defP F gF (F.binds (ps := ["value"]) fun _ _ _ _ _ _ us hl => match us, hl with | [_], _ => rfl) sc_sure_machine (fun cdv A outer s H E hr tk =>
    (mss_cons (ms_set (ps_set (i := 1) sc_sure_machine.nd rfl (.inl rfl) (me_call c_tupled (hr.mono (by decide)) tk rfl (ma_cons (me_var (pv 0)) ma_nil))))
    (mss_cons (ms_if (ps_if (mt_not (mt_valB (pt_val (me_call c_is_machine_in (hr.mono (by decide)) tk rfl (ma_cons (me_var (pv 1)) ma_nil)))))
    (mss_one (ms_raiseU rfl tk x_Unfit rfl))
    mss_nil))
    (mss_one (ms_ret (ps_ret (me_var (pv 1))))))))
def m_is_word_in : Lo → SR :=
  (sRet (eAnd (eCall 3 f_are_within (aCons (eVar 1) (aCons (eC (.int 0)) (aCons (eOp2 subD (eOp2 ixD (eVar 0) (eC (.int 0))) (eC (.int 1))) aNil)))) (eOp2 (cmpD fun i j => decide (i ≤ j)) (eOpN lenD (aCons (eVar 1) aNil)) (eC (.int 400)))))
def f_is_word_in := fnP 2 m_is_word_in
theorem sc_is_word_in : FnScope ["machine", "thing"] ["machine", "thing"] (defScope (topS 18)) := ⟨rfl, rfl, rfl, by decide +kernel, rfl, by decide +kernel, by decide +kernel⟩
theorem ok_is_word_in (A0 : AtTop K mg "is_word_in" (topS 18)) (n_len : mg "len" = none) (g_MOST_WORD : ∃ t, mg "MOST_WORD" = some (.int 400 t)) (c_are_within : DefOk Pg w K mg base 3 "are_within" ["thing", "least", "most"] (spP K g 3 f_are_within)) : DefOk Pg w K mg base 4 "is_word_in" ["machine", "thing"] (spP K g 2 f_is_word_in) := by
  obtain ⟨f, fd, F, gF⟩ := A0.ex
  exact defP F gF (F.binds (ps := ["machine", "thing"]) fun _ _ _ _ _ _ us hl => match us, hl with | [_, _], _ => rfl) sc_is_word_in (fun cdv A outer s H E hr tk =>
    (mss_one (ms_ret (ps_ret (me_and (me_call c_are_within (hr.mono (by decide)) tk rfl (ma_cons (me_var (pv 1)) (ma_cons me_int (ma_cons (me_op2 (pe_op op_sub (me_op2 (pe_ix ix_seq (me_var (pv 0)) me_int (fun _ _ => rfl)) o_ix) me_int) o_sub) ma_nil)))) (me_one (me_op2 (pe_cmpR op_le (me_opN (pe_callB call_len rfl n_len bt_len (ma_cons (me_var (pv 1)) ma_nil)) o_len) (me_globI rfl g_MOST_WORD) (nomark _)) (o_cmp _))))))))
def m_sure_word : Lo → SR :=
  (sSeq (sSet 2 (eCall 1 f_tupled (aCons (eVar 1) aNil)))
    (sSeq (sIf (tNt (tBl (eCall 2 f_is_word_in (aCons (eVar 0) (aCons (eVar 2) aNil)))))
    (fun L => .ex ⟨0, none⟩ L)
    .nx)
    (sRet (eVar 2))))
def f_sure_word := fnP 3 m_sure_word
theorem sc_sure_word : FnScope ["machine", "value", "own"] ["machine", "value"] (defScope (topS 19)) := ⟨rfl, rfl, rfl, by decide +kernel, rfl, by decide +kernel, by decide +kernel⟩
theorem ok_sure_word (A0 : AtTop K mg "sure_word" (topS 19)) (x_Unfit : ExcK K mg "Unfit" (g.xa 0)) (c_is_word_in : DefOk Pg w K mg base 4 "is_word_in" ["machine", "thing"] (spP K g 2 f_is_word_in)) (c_tupled : DefOk Pg w K mg base 13 "tupled" ["value"] (spP K g 1 f_tupled)) : DefOk Pg w K mg base 14 "sure_word" ["machine", "value"] (spP K g 2 f_sure_word) := by
  obtain ⟨f, fd, F, gF⟩ := A0.ex
  exact defP F gF (F.binds (ps := ["machine", "value"]) fun _ _ _ _ _ _ us hl => match us, hl with | [_, _], _ => rfl) sc_sure_word (fun cdv A outer s H E hr tk =>
    (mss_cons (ms_set (ps_set (i := 2) sc_sure_word.nd rfl (.inl rfl) (me_call c_tupled (hr.mono (by decide)) tk rfl (ma_cons (me_var (pv 1)) ma_nil))))
    (mss_cons (ms_if (ps_if (mt_not (mt_valB (pt_val (me_call c_is_word_in (hr.mono (by decide)) tk rfl (ma_cons (me_var (pv 0)) (ma_cons (me_var (pv 2)) ma_nil))))))
    (mss_one (ms_raiseU rfl tk x_Unfit rfl))
    mss_nil))
    (mss_one (ms_ret (ps_ret (me_var (pv 2))))))))
def m_sure_place : Lo → SR :=
  (sRet (eCall 3 f_sure_within (aCons (eVar 1) (aCons (eC (.int 0)) (aCons (eOp2 subD (eOpN lenD (aCons (eOp2 ixD (eVar 0) (eC (.int 1))) aNil)) (eC (.int 1))) aNil)))))
def f_sure_place := fnP 2 m_sure_place
theorem sc_sure_place : FnScope ["machine", "value"] ["machine", "value"] (defScope (topS 20)) := ⟨rfl, rfl, rfl, by decide +kernel, rfl, by decide +kernel, by decide +kernel⟩
theorem ok_sure_place (A0 : AtTop K mg "sure_place" (topS 20)) (n_len : mg "len" = none) (c_sure_within : DefOk Pg w K mg base 3 "sure_within" ["thing", "least", "most"] (spP K g 3 f_sure_within)) : DefOk Pg w K mg base 4 "sure_place" ["machine", "value"] (spP K g 2 f_sure_place) := by
  obtain ⟨f, fd, F, gF⟩ := A0.ex
  exact defP F gF (F.binds (ps := ["machine", "value"]) fun _ _ _ _ _ _ us hl => match us, hl with | [_, _], _ => rfl) sc_sure_place (fun cdv A outer s H E hr tk =>
    (mss_one (ms_ret (ps_ret (me_call c_sure_within (hr.mono (by decide)) tk rfl (ma_cons (me_var (pv 1)) (ma_cons me_int (ma_cons (me_op2 (pe_op op_sub (me_opN (pe_callB call_len rfl n_len bt_len (ma_cons (me_op2 (pe_ix ix_seq (me_var (pv 0)) me_int (fun _ _ => rfl)) o_ix) ma_nil)) o_len) me_int) o_sub) ma_nil))))))))
def m_sure_letter : Lo → SR :=
  (sRet (eCall 3 f_sure_within (aCons (eVar 1) (aCons (eC (.int 0)) (aCons (eOp2 subD (eOp2 ixD (eVar 0) (eC (.int 0))) (eC (.int 1))) aNil)))))
def f_sure_letter := fnP 2 m_sure_letter
theorem sc_sure_letter : FnScope ["machine", "value"] ["machine", "value"] (defScope (topS 21)) := ⟨rfl, rfl, rfl, by decide +kernel, rfl, by decide +kernel, by decide +kernel⟩
theorem ok_sure_letter (A0 : AtTop K mg "sure_letter" (topS 21)) (c_sure_within : DefOk Pg w K mg base 3 "sure_within" ["thing", "least", "most"] (spP K g 3 f_sure_within)) : DefOk Pg w K mg base 4 "sure_letter" ["machine", "value"] (spP K g 2 f_sure_letter) := by
  obtain ⟨f, fd, F, gF⟩ := A0.ex
  exact defP F gF (F.binds (ps := ["machine", "value"]) fun _ _ _ _ _ _ us hl => match us, hl with | [_, _], _ => rfl) sc_sure_letter (fun cdv A outer s H E hr tk =>
    (mss_one (ms_ret (ps_ret (me_call c_sure_within (hr.mono (by decide)) tk rfl (ma_cons (me_var (pv 1)) (ma_cons me_int (ma_cons (me_op2 (pe_op op_sub (me_op2 (pe_ix ix_seq (me_var (pv 0)) me_int (fun _ _ => rfl)) o_ix) me_int) o_sub) ma_nil))))))))
def m_is_lot_in : Lo → SR :=
  (sRet (eAnd (eCall 3 f_are_within (aCons (eVar 1) (aCons (eC (.int 0)) (aCons (eOp2 subD (eOpN lenD (aCons (eOp2 ixD (eVar 0) (eC (.int 1))) aNil)) (eC (.int 1))) aNil)))) (eAnd (eOp2 neD (eVar 1) (eTup aNil)) (eCall 1 f_ascends (aCons (eVar 1) aNil)))))
def f_is_lot_in := fnP 2 m_is_lot_in
theorem sc_is_lot_in : FnScope ["machine", "thing"] ["machine", "thing"] (defScope (topS 22)) := ⟨rfl, rfl, rfl, by decide +kernel, rfl, by decide +kernel, by decide +kernel⟩
theorem ok_is_lot_in (A0 : AtTop K mg "is_lot_in" (topS 22)) (n_len : mg "len" = none) (c_are_within : DefOk Pg w K mg base 3 "are_within" ["thing", "least", "most"] (spP K g 3 f_are_within)) (c_ascends : DefOk Pg w K mg base 1 "ascends" ["row"] (spP K g 1 f_ascends)) : DefOk Pg w K mg base 4 "is_lot_in" ["machine", "thing"] (spP K g 2 f_is_lot_in) := by
  obtain ⟨f, fd, F, gF⟩ := A0.ex
  exact defP F gF (F.binds (ps := ["machine", "thing"]) fun _ _ _ _ _ _ us hl => match us, hl with | [_, _], _ => rfl) sc_is_lot_in (fun cdv A outer s H E hr tk =>
    (mss_one (ms_ret (ps_ret (me_and (me_call c_are_within (hr.mono (by decide)) tk rfl (ma_cons (me_var (pv 1)) (ma_cons me_int (ma_cons (me_op2 (pe_op op_sub (me_opN (pe_callB call_len rfl n_len bt_len (ma_cons (me_op2 (pe_ix ix_seq (me_var (pv 0)) me_int (fun _ _ => rfl)) o_ix) ma_nil)) o_len) me_int) o_sub) ma_nil)))) (me_and (me_op2 (pe_cmpR (op_neD hr.units) (me_var (pv 1)) (me_tup ma_nil) (nomark _)) o_ne) (me_one (me_call c_ascends (hr.mono (by decide)) tk rfl (ma_cons (me_var (pv 1)) ma_nil)))))))))
def m_sure_lot : Lo → SR :=
  (sSeq (sSet 2 (eCall 1 f_tupled (aCons (eVar 1) aNil)))
    (sSeq (sIf (tNt (tBl (eCall 2 f_is_lot_in (aCons (eVar 0) (aCons (eVar 2) aNil)))))
    (fun L => .ex ⟨0, none⟩ L)
    .nx)
    (sRet (eVar 2))))
def f_sure_lot := fnP 3 m_sure_lot
theorem sc_sure_lot : FnScope ["machine", "value", "own"] ["machine", "value"] (defScope (topS 23)) := ⟨rfl, rfl, rfl, by decide +kernel, rfl, by decide +kernel, by decide +kernel⟩
theorem ok_sure_lot (A0 : AtTop K mg "sure_lot" (topS 23)) (x_Unfit : ExcK K mg "Unfit" (g.xa 0)) (c_is_lot_in : DefOk Pg w K mg base 4 "is_lot_in" ["machine", "thing"] (spP K g 2 f_is_lot_in)) (c_tupled : DefOk Pg w K mg base 13 "tupled" ["value"] (spP K g 1 f_tupled)) : DefOk Pg w K mg base 14 "sure_lot" ["machine", "value"] (spP K g 2 f_sure_lot) := by
  obtain ⟨f, fd, F, gF⟩ := A0.ex
  exact defP F gF (F.binds (ps := ["machine", "value"]) fun _ _ _ _ _ _ us hl => match us, hl with | [_, _], _ => rfl) sc_sure_lot (fun cdv A outer s H E hr tk =>
    (mss_cons (ms_set (ps_set (i := 2) sc_sure_lot.nd rfl (.inl rfl) (me_call c_tupled (hr.mono (by decide)) tk rfl (ma_cons (me_var (pv 1)) ma_nil))))
    (mss_cons (ms_if (ps_if (mt_not (mt_valB (pt_val (me_call c_is_lot_in (hr.mono (by decide)) tk rfl (ma_cons (me_var (pv 0)) (ma_cons (me_var (pv 2)) ma_nil))))))
    (mss_one (ms_raiseU rfl tk x_Unfit rfl))
    mss_nil))
    (mss_one (ms_ret (ps_ret (me_var (pv 2))))))))
def m_led_in : Lo → SR :=
  (sSeq (sFor (iSeq (eVar 2)) (gN 3)
    (sSet 1 (eOp2 ixD (eOp2 ixD (eOp2 ixD (eVar 0) (eC (.int 1))) (eVar 1)) (eVar 3))))
    (sRet (eVar 1)))
def f_led_in := fnP 4 m_led_in
theorem sc_led_in : FnScope ["machine", "place", "word", "letter"] ["machine", "place", "word"] (defScope (topS 24)) := ⟨rfl, rfl, rfl, by decide +kernel, rfl, by decide +kernel, by decide +kernel⟩
theorem ok_led_in (A0 : AtTop K mg "led_in" (topS 24))  : DefOk Pg w K mg base 1 "led_in" ["machine", "place", "word"] (spP K g 3 f_led_in) := by
  obtain ⟨f, fd, F, gF⟩ := A0.ex
  exact defP F gF (F.binds (ps := ["machine", "place", "word"]) fun _ _ _ _ _ _ us hl => match us, hl with | [_, _, _], _ => rfl) sc_led_in (fun cdv A outer s H E hr tk =>
    (mss_cons (ms_forM (vs := [3]) (passes_of rfl) rfl (mi_seq (me_var (pv 2))) (pg_name (i := 3) sc_led_in.nd rfl (.inl rfl)) (tg_name (by decide))
    (mss_one (ms_set (ps_set (i := 1) sc_led_in.nd rfl (.inl rfl) (me_op2 (pe_ix ix_seq (me_op2 (pe_ix ix_seq (me_op2 (pe_ix ix_seq (me_var (pv 0)) me_int (fun _ _ => rfl)) o_ix) (me_var (pv 1)) (fun _ _ => rfl)) o_ix) (me_var (pv 3)) (fun _ _ => rfl)) o_ix)))))
    (mss_one (ms_ret (ps_ret (me_var (pv 1)))))))
def m_lot_in : Lo → SR :=
  (sRet (eCall 1 f_set_of (aCons (eFz (fComp [3] (iSeq (eVar 1)) (gN 3) tTrue (eCall 3 f_led_in (aCons (eVar 0) (aCons (eVar 3) (aCons (eVar 2) aNil)))))) aNil)))
def f_lot_in := fnP 4 m_lot_in
theorem sc_lot_in : FnScope ["machine", "lot", "word", "place"] ["machine", "lot", "word"] (defScope (topS 25)) := ⟨rfl, rfl, rfl, by decide +kernel, rfl, by decide +kernel, by decide +kernel⟩
theorem ok_lot_in (A0 : AtTop K mg "lot_in" (topS 25)) (c_led_in : DefOk Pg w K mg base 1 "led_in" ["machine", "place", "word"] (spP K g 3 f_led_in)) (c_set_of : DefOk Pg w K mg base 1 "set_of" ["row"] (spP K g 1 f_set_of)) : DefOk Pg w K mg base 2 "lot_in" ["machine", "lot", "word"] (spP K g 3 f_lot_in) := by
  obtain ⟨f, fd, F, gF⟩ := A0.ex
  exact defP F gF (F.binds (ps := ["machine", "lot", "word"]) fun _ _ _ _ _ _ us hl => match us, hl with | [_, _, _], _ => rfl) sc_lot_in (fun cdv A outer s H E hr tk =>
    (mss_one (ms_ret (ps_ret (me_call c_set_of (hr.mono (by decide)) tk rfl (ma_cons (me_fz (mf_comp (own := [("place", 3)]) rfl sc_lot_in.nd (mi_seq (me_var (pv 1))) (blkOk_by rfl) (fun _ _ _ _ _ => (pg_name (i := 3) sc_lot_in.nd rfl (.inl rfl))) (tg_name (by decide)) (fun _ _ _ _ _ => mts_nil) (fun _ _ _ _ _ => (me_call c_led_in (hr.mono (by decide)) takes0 rfl (ma_cons (me_var (pv 0)) (ma_cons (me_var (pv 3)) (ma_cons (me_var (pv 2)) ma_nil))))))) ma_nil))))))
def m_all_of : Lo → SR :=
  (sRet (eTupRg (rg1 (eOpN lenD (aCons (eOp2 ixD (eVar 0) (eC (.int 1))) aNil)))))
def f_all_of := fnP 1 m_all_of
theorem sc_all_of : FnScope ["machine"] ["machine"] (defScope (topS 26)) := ⟨rfl, rfl, rfl, by decide +kernel, rfl, by decide +kernel, by decide +kernel⟩
theorem ok_all_of (A0 : AtTop K mg "all_of" (topS 26)) (n_range : mg "range" = none) (n_len : mg "len" = none) (n_tuple : mg "tuple" = none) : DefOk Pg w K mg base 1 "all_of" ["machine"] (spP K g 1 f_all_of) := by
  obtain ⟨f, fd, F, gF⟩ := A0.ex
  exact defP F gF (F.binds (ps := ["machine"]) fun _ _ _ _ _ _ us hl => match us, hl with | [_], _ => rfl) sc_all_of (fun cdv A outer s H E hr tk =>
    (mss_one (ms_ret (ps_ret (me_tupRg (pe_tupRg rfl rfl n_tuple (mrg_1 rfl n_range (me_opN (pe_callB call_len rfl n_len bt_len (ma_cons (me_op2 (pe_ix ix_seq (me_var (pv 0)) me_int (fun _ _ => rfl)) o_ix) ma_nil)) o_len))))))))
def m_places_in : Lo → SR :=
  (sSeq (sPar [2, 3] (vConsF (fLst (aCons (eVar 1) aNil)) (vConsF (fLst (aCons (eVar 1) aNil)) vNil)))
    (sSeq (whGo (tBl (eOp2 neD (eVar 3) (eFz (fLst aNil))))
    (sSeq (sSet 4 (eFz (fComp [5] (iSeq (eCall 1 f_set_of (aCons (eOp2 ixD (eVar 0) (ePop 3)) aNil))) (gN 5) (tBl (eOp2 notInD (eVar 5) (eVar 2))) (eVar 5))))
    (sSeq (sExtend 2 (eVar 4))
    (sExtend 3 (eVar 4)))) 100000)
    (sRet (eCall 1 f_set_of (aCons (eVar 2) aNil)))))
def f_places_in := fnP 6 m_places_in
theorem sc_places_in : FnScope ["rows", "place", "found", "asked", "fresh", "goal"] ["rows", "place"] (defScope (topS 27)) := ⟨rfl, rfl, rfl, by decide +kernel, rfl, by decide +kernel, by decide +kernel⟩
theorem ok_places_in (A0 : AtTop K mg "places_in" (topS 27)) (c_set_of : DefOk Pg w K mg base 1 "set_of" ["row"] (spP K g 1 f_set_of)) : DefOk Pg w K mg base 2 "places_in" ["rows", "place"] (spP K g 2 f_places_in) := by
  obtain ⟨f, fd, F, gF⟩ := A0.ex
  exact defP F gF (F.binds (ps := ["rows", "place"]) fun _ _ _ _ _ _ us hl => match us, hl with | [_, _], _ => rfl) sc_places_in (fun cdv A outer s H E hr tk =>
    (mss_cons (ms_parT (ps_asg (pe_tup (mv_consF (mf_lst (ma_cons (me_var (pv 1)) ma_nil)) (mv_consF (mf_lst (ma_cons (me_var (pv 1)) ma_nil)) mv_nil))) (pg_tup rfl (pgs_cons (pg_name (i := 2) sc_places_in.nd rfl (.inr rfl)) (pgs_cons (pg_name (i := 3) sc_places_in.nd rfl (.inl rfl)) pgs_nil)))) rfl (.cons (.cons .nil)))
    (mss_cons (ms_while 100000 (ps_while (passes_of rfl) (mt_op2 (pt_cmpR (op_neD hr.units) (me_var (pv 3)) (me_fz (mf_lst ma_nil)) (nomark _)) o_ne)
    (mss_cons (ms_setFz (ms_setC (i := 4) (own := [("goal", 5)]) rfl sc_places_in.nd rfl rfl (sw_true rfl rfl rfl (by decide +kernel)) (mi_seq (me_call c_set_of (hr.mono (by decide)) tk rfl (ma_cons (me_op2 (pe_ix ix_seq (me_var (pv 0)) (me_pop (pe_bm0 PySem.F.plainAttrs_list PySem.F.slot_list_pop PySem.F.type_list_pop mt_pop (pv 3))) (fun _ _ => rfl)) o_ix) ma_nil))) (blkOk_by rfl) (fun _ _ _ _ _ => (pg_name (i := 5) sc_places_in.nd rfl (.inl rfl))) (tg_name (by decide)) (fun _ _ _ _ _ => (mts_one (mt_op2 (pt_cmpR (op_notInU (hu65 hr)) (me_var (pv 5)) (me_var (pv 2)) (by rfl)) o_notIn))) (fun _ _ _ _ _ => (me_var (pv 5)))))
    (mss_cons (ms_extend (ps_expr (pe_bm PySem.F.plainAttrs_list PySem.F.slot_list_extend PySem.F.type_list_extend mt_extend (pv 2) (pa_cons (me_var (pv 4)) pa_nil))))
    (mss_one (ms_extend (ps_expr (pe_bm PySem.F.plainAttrs_list PySem.F.slot_list_extend PySem.F.type_list_extend mt_extend (pv 3) (pa_cons (me_var (pv 4)) pa_nil)))))))))
    (mss_one (ms_ret (ps_ret (me_call c_set_of (hr.mono (by decide)) tk rfl (ma_cons (me_var (pv 2)) ma_nil))))))))
def m_hangs_in : Lo → SR :=
  (sRet (eOpN allD (aCons (eFz (fComp [1] (iRange1 (aCons (eOpN lenD (aCons (eVar 0) aNil)) aNil)) (gN 1) tTrue (eOp2 eqD (eOpN lenD (aCons (eCall 2 f_places_in (aCons (eVar 0) (aCons (eVar 1) aNil))) aNil)) (eOpN lenD (aCons (eVar 0) aNil))))) aNil)))
def f_hangs_in := fnP 2 m_hangs_in
theorem sc_hangs_in : FnScope ["rows", "place"] ["rows"] (defScope (topS 28)) := ⟨rfl, rfl, rfl, by decide +kernel, rfl, by decide +kernel, by decide +kernel⟩
theorem ok_hangs_in (A0 : AtTop K mg "hangs_in" (topS 28)) (n_len : mg "len" = none) (n_range : mg "range" = none) (n_all : mg "all" = none) (c_places_in : DefOk Pg w K mg base 2 "places_in" ["rows", "place"] (spP K g 2 f_places_in)) : DefOk Pg w K mg base 3 "hangs_in" ["rows"] (spP K g 1 f_hangs_in) := by
  obtain ⟨f, fd, F, gF⟩ := A0.ex
  exact defP F gF (F.binds (ps := ["rows"]) fun _ _ _ _ _ _ us hl => match us, hl with | [_], _ => rfl) sc_hangs_in (fun cdv A outer s H E hr tk =>
    (mss_one (ms_ret (ps_ret (me_opN (pe_callB (cr_all rfl) rfl n_all bt_all (ma_cons (me_fz (mf_comp (own := [("place", 1)]) rfl sc_hangs_in.nd (mi_range1 rfl n_range (ma_cons (me_opN (pe_callB call_len rfl n_len bt_len (ma_cons (me_var (pv 0)) ma_nil)) o_len) ma_nil)) (blkOk_by rfl) (fun _ _ _ _ _ => (pg_name (i := 1) sc_hangs_in.nd rfl (.inl rfl))) (tg_name (by decide)) (fun _ _ _ _ _ => mts_nil) (fun _ _ _ _ _ => (me_op2 (pe_cmpR (op_eqD hr.units) (me_opN (pe_callB call_len rfl n_len bt_len (ma_cons (me_call c_places_in (hr.mono (by decide)) takes0 rfl (ma_cons (me_var (pv 0)) (ma_cons (me_var (pv 1)) ma_nil))) ma_nil)) o_len) (me_opN (pe_callB call_len rfl n_len bt_len (ma_cons (me_var (pv 0)) ma_nil)) o_len) (nomark _)) o_eq)))) ma_nil)) o_all)))))
def m_is_machine : Lo → SR :=
  (sRet (eCall 1 f_is_machine_in (aCons (eVar 0) aNil)))
def f_is_machine := fnP 1 m_is_machine
theorem sc_is_machine : FnScope ["thing"] ["thing"] (defScope (topS 29)) := ⟨rfl, rfl, rfl, by decide +kernel, rfl, by decide +kernel, by decide +kernel⟩
theorem ok_is_machine (A0 : AtTop K mg "is_machine" (topS 29)) (c_is_machine_in : DefOk Pg w K mg base 4 "is_machine_in" ["thing"] (spP K g 1 f_is_machine_in)) : DefOk Pg w K mg base 5 "is_machine" ["thing"] (spP K g 1 f_is_machine) := by
  obtain ⟨f, fd, F, gF⟩ := A0.ex
  exact defP F gF (F.binds (ps := ["thing"]) fun _ _ _ _ _ _ us hl => match us, hl with | [_], _ => rfl) sc_is_machine (fun cdv A outer s H E hr tk =>
    (mss_one (ms_ret (ps_ret (me_call c_is_machine_in (hr.mono (by decide)) tk rfl (ma_cons (me_var (pv 0)) ma_nil))))))
def m_is_word : Lo → SR :=
  (sRet (eCall 2 f_is_word_in (aCons (eCall 1 f_sure_machine (aCons (eVar 0) aNil)) (aCons (eVar 1) aNil))))
def f_is_word := fnP 2 m_is_word
theorem sc_is_word : FnScope ["machine", "thing"] ["machine", "thing"] (defScope (topS 30)) := ⟨rfl, rfl, rfl, by decide +kernel, rfl, by decide +kernel, by decide +kernel⟩
theorem ok_is_word (A0 : AtTop K mg "is_word" (topS 30)) (c_is_word_in : DefOk Pg w K mg base 4 "is_word_in" ["machine", "thing"] (spP K g 2 f_is_word_in)) (c_sure_machine : DefOk Pg w K mg base 14 "sure_machine" ["value"] (spP K g 1 f_sure_machine)) : DefOk Pg w K mg base 15 "is_word" ["machine", "thing"] (spP K g 2 f_is_word) := by
  obtain ⟨f, fd, F, gF⟩ := A0.ex
  exact defP F gF (F.binds (ps := ["machine", "thing"]) fun _ _ _ _ _ _ us hl => match us, hl with | [_, _], _ => rfl) sc_is_word (fun cdv A outer s H E hr tk =>
    (mss_one (ms_ret (ps_ret (me_call c_is_word_in (hr.mono (by decide)) tk rfl (ma_cons (me_call c_sure_machine (hr.mono (by decide)) tk rfl (ma_cons (me_var (pv 0)) ma_nil)) (ma_cons (me_var (pv 1)) ma_nil)))))))
def m_step : Lo → SR :=
  (sSeq (sSet 3 (eCall 1 f_sure_machine (aCons (eVar 0) aNil)))
    (sSeq (sSet 4 (eCall 2 f_sure_place (aCons (eVar 3) (aCons (eVar 1) aNil))))
    (sRet (eOp2 ixD (eOp2 ixD (eOp2 ixD (eVar 3) (eC (.int 1))) (eVar 4)) (eCall 2 f_sure_letter (aCons (eVar 3) (aCons (eVar 2) aNil)))))))
def f_step := fnP 5 m_step
theorem sc_step : FnScope ["machine", "place", "letter", "own", "here"] ["machine", "place", "letter"] (defScope (topS 31)) := ⟨rfl, rfl, rfl, by decide +kernel, rfl, by decide +kernel, by decide +kernel⟩
theorem ok_step (A0 : AtTop K mg "step" (topS 31)) (c_sure_letter : DefOk Pg w K mg base 4 "sure_letter" ["machine", "value"] (spP K g 2 f_sure_letter)) (c_sure_machine : DefOk Pg w K mg base 14 "sure_machine" ["value"] (spP K g 1 f_sure_machine)) (c_sure_place : DefOk Pg w K mg base 4 "sure_place" ["machine", "value"] (spP K g 2 f_sure_place)) : DefOk Pg w K mg base 15 "step" ["machine", "place", "letter"] (spP K g 3 f_step) := by
  obtain ⟨f, fd, F, gF⟩ := A0.ex
  exact defP F gF (F.binds (ps := ["machine", "place", "letter"]) fun _ _ _ _ _ _ us hl => match us, hl with | [_, _, _], _ => rfl) sc_step (fun cdv A outer s H E hr tk =>
    (mss_cons (ms_set (ps_set (i := 3) sc_step.nd rfl (.inl rfl) (me_call c_sure_machine (hr.mono (by decide)) tk rfl (ma_cons (me_var (pv 0)) ma_nil))))
    (mss_cons (ms_set (ps_set (i := 4) sc_step.nd rfl (.inl rfl) (me_call c_sure_place (hr.mono (by decide)) tk rfl (ma_cons (me_var (pv 3)) (ma_cons (me_var (pv 1)) ma_nil)))))
    (mss_one (ms_ret (ps_ret (me_op2 (pe_ix ix_seq (me_op2 (pe_ix ix_seq (me_op2 (pe_ix ix_seq (me_var (pv 3)) me_int (fun _ _ => rfl)) o_ix) (me_var (pv 4)) (fun _ _ => rfl)) o_ix) (me_call c_sure_letter (hr.mono (by decide)) tk rfl (ma_cons (me_var (pv 3)) (ma_cons (me_var (pv 2)) ma_nil))) (fun _ _ => rfl)) o_ix)))))))
def m_led : Lo → SR :=
  (sSeq (sSet 3 (eCall 1 f_sure_machine (aCons (eVar 0) aNil)))
    (sSeq (sSet 4 (eCall 2 f_sure_place (aCons (eVar 3) (aCons (eVar 1) aNil))))
    (sRet (eCall 3 f_led_in (aCons (eVar 3) (aCons (eVar 4) (aCons (eCall 2 f_sure_word (aCons (eVar 3) (aCons (eVar 2) aNil))) aNil)))))))
def f_led := fnP 5 m_led
theorem sc_led : FnScope ["machine", "place", "word", "own", "here"] ["machine", "place", "word"] (defScope (topS 32)) := ⟨rfl, rfl, rfl, by decide +kernel, rfl, by decide +kernel, by decide +kernel⟩
theorem ok_led (A0 : AtTop K mg "led" (topS 32)) (c_led_in : DefOk Pg w K mg base 1 "led_in" ["machine", "place", "word"] (spP K g 3 f_led_in)) (c_sure_machine : DefOk Pg w K mg base 14 "sure_machine" ["value"] (spP K g 1 f_sure_machine)) (c_sure_place : DefOk Pg w K mg base 4 "sure_place" ["machine", "value"] (spP K g 2 f_sure_place)) (c_sure_word : DefOk Pg w K mg base 14 "sure_word" ["machine", "value"] (spP K g 2 f_sure_word)) : DefOk Pg w K mg base 15 "led" ["machine", "place", "word"] (spP K g 3 f_led) := by
  obtain ⟨f, fd, F, gF⟩ := A0.ex
  exact defP F gF (F.binds (ps := ["machine", "place", "word"]) fun _ _ _ _ _ _ us hl => match us, hl with | [_, _, _], _ => rfl) sc_led (fun cdv A outer s H E hr tk =>
    (mss_cons (ms_set (ps_set (i := 3) sc_led.nd rfl (.inl rfl) (me_call c_sure_machine (hr.mono (by decide)) tk rfl (ma_cons (me_var (pv 0)) ma_nil))))
    (mss_cons (ms_set (ps_set (i := 4) sc_led.nd rfl (.inl rfl) (me_call c_sure_place (hr.mono (by decide)) tk rfl (ma_cons (me_var (pv 3)) (ma_cons (me_var (pv 1)) ma_nil)))))
    (mss_one (ms_ret (ps_ret (me_call c_led_in (hr.mono (by decide)) tk rfl (ma_cons (me_var (pv 3)) (ma_cons (me_var (pv 4)) (ma_cons (me_call c_sure_word (hr.mono (by decide)) tk rfl (ma_cons (me_var (pv 3)) (ma_cons (me_var (pv 2)) ma_nil))) ma_nil))))))))))
def m_lot_led : Lo → SR :=
  (sSeq (sSet 3 (eCall 1 f_sure_machine (aCons (eVar 0) aNil)))
    (sSeq (sSet 4 (eCall 2 f_sure_lot (aCons (eVar 3) (aCons (eVar 1) aNil))))
    (sRet (eCall 3 f_lot_in (aCons (eVar 3) (aCons (eVar 4) (aCons (eCall 2 f_sure_word (aCons (eVar 3) (aCons (eVar 2) aNil))) aNil)))))))
def f_lot_led := fnP 5 m_lot_led
theorem sc_lot_led : FnScope ["machine", "lot", "word", "own", "here"] ["machine", "lot", "word"] (defScope (topS 33)) := ⟨rfl, rfl, rfl, by decide +kernel, rfl, by decide +kernel, by decide +kernel⟩
theorem ok_lot_led (A0 : AtTop K mg "lot_led" (topS 33)) (c_lot_in : DefOk Pg w K mg base 2 "lot_in" ["machine", "lot", "word"] (spP K g 3 f_lot_in)) (c_sure_lot : DefOk Pg w K mg base 14 "sure_lot" ["machine", "value"] (spP K g 2 f_sure_lot)) (c_sure_machine : DefOk Pg w K mg base 14 "sure_machine" ["value"] (spP K g 1 f_sure_machine)) (c_sure_word : DefOk Pg w K mg base 14 "sure_word" ["machine", "value"] (spP K g 2 f_sure_word)) : DefOk Pg w K mg base 15 "lot_led" ["machine", "lot", "word"] (spP K g 3 f_lot_led) := by
  obtain ⟨f, fd, F, gF⟩ := A0.ex
  exact defP F gF (F.binds (ps := ["machine", "lot", "word"]) fun _ _ _ _ _ _ us hl => match us, hl with | [_, _, _], _ => rfl) sc_lot_led (fun cdv A outer s H E hr tk =>
    (mss_cons (ms_set (ps_set (i := 3) sc_lot_led.nd rfl (.inl rfl) (me_call c_sure_machine (hr.mono (by decide)) tk rfl (ma_cons (me_var (pv 0)) ma_nil))))
    (mss_cons (ms_set (ps_set (i := 4) sc_lot_led.nd rfl (.inl rfl) (me_call c_sure_lot (hr.mono (by decide)) tk rfl (ma_cons (me_var (pv 3)) (ma_cons (me_var (pv 1)) ma_nil)))))
    (mss_one (ms_ret (ps_ret (me_call c_lot_in (hr.mono (by decide)) tk rfl (ma_cons (me_var (pv 3)) (ma_cons (me_var (pv 4)) (ma_cons (me_call c_sure_word (hr.mono (by decide)) tk rfl (ma_cons (me_var (pv 3)) (ma_cons (me_var (pv 2)) ma_nil))) ma_nil))))))))))
def m_map_of : Lo → SR :=
  (sSeq (sSet 2 (eCall 1 f_sure_machine (aCons (eVar 0) aNil)))
    (sSeq (sSet 3 (eCall 2 f_sure_word (aCons (eVar 2) (aCons (eVar 1) aNil))))
    (sRet (eOpN tupD (aCons (eFz (fComp [4] (iSeq (eCall 1 f_all_of (aCons (eVar 2) aNil))) (gN 4) tTrue (eCall 3 f_led_in (aCons (eVar 2) (aCons (eVar 4) (aCons (eVar 3) aNil)))))) aNil)))))
def f_map_of := fnP 5 m_map_of
theorem sc_map_of : FnScope ["machine", "word", "own", "its", "place"] ["machine", "word"] (defScope (topS 34)) := ⟨rfl, rfl, rfl, by decide +kernel, rfl, by decide +kernel, by decide +kernel⟩
theorem ok_map_of (A0 : AtTop K mg "map_of" (topS 34)) (n_tuple : mg "tuple" = none) (c_all_of : DefOk Pg w K mg base 1 "all_of" ["machine"] (spP K g 1 f_all_of)) (c_led_in : DefOk Pg w K mg base 1 "led_in" ["machine", "place", "word"] (spP K g 3 f_led_in)) (c_sure_machine : DefOk Pg w K mg base 14 "sure_machine" ["value"] (spP K g 1 f_sure_machine)) (c_sure_word : DefOk Pg w K mg base 14 "sure_word" ["machine", "value"] (spP K g 2 f_sure_word)) : DefOk Pg w K mg base 15 "map_of" ["machine", "word"] (spP K g 2 f_map_of) := by
  obtain ⟨f, fd, F, gF⟩ := A0.ex
  exact defP F gF (F.binds (ps := ["machine", "word"]) fun _ _ _ _ _ _ us hl => match us, hl with | [_, _], _ => rfl) sc_map_of (fun cdv A outer s H E hr tk =>
    (mss_cons (ms_set (ps_set (i := 2) sc_map_of.nd rfl (.inr rfl) (me_call c_sure_machine (hr.mono (by decide)) tk rfl (ma_cons (me_var (pv 0)) ma_nil))))
    (mss_cons (ms_set (ps_set (i := 3) sc_map_of.nd rfl (.inr rfl) (me_call c_sure_word (hr.mono (by decide)) tk rfl (ma_cons (me_var (pv 2)) (ma_cons (me_var (pv 1)) ma_nil)))))
    (mss_one (ms_ret (ps_ret (me_opN (pe_callTy call_tuple_of rfl n_tuple bt_tuple (ma_cons (me_fz (mf_comp (own := [("place", 4)]) rfl sc_map_of.nd (mi_seq (me_call c_all_of (hr.mono (by decide)) tk rfl (ma_cons (me_var (pv 2)) ma_nil))) (blkOk_by rfl) (fun _ _ _ _ _ => (pg_name (i := 4) sc_map_of.nd rfl (.inl rfl))) (tg_name (by decide)) (fun _ _ _ _ _ => mts_nil) (fun _ _ _ _ _ => (me_call c_led_in (hr.mono (by decide)) takes0 rfl (ma_cons (me_var (pv 2)) (ma_cons (me_var (pv 4)) (ma_cons (me_var (pv 3)) ma_nil))))))) ma_nil)) o_tup)))))))
def m_places_from : Lo → SR :=
  (sSeq (sSet 2 (eCall 1 f_sure_machine (aCons (eVar 0) aNil)))
    (sRet (eCall 2 f_places_in (aCons (eOp2 ixD (eVar 2) (eC (.int 1))) (aCons (eCall 2 f_sure_place (aCons (eVar 2) (aCons (eVar 1) aNil))) aNil)))))
def f_places_from := fnP 3 m_places_from
theorem sc_places_from : FnScope ["machine", "place", "own"] ["machine", "place"] (defScope (topS 35)) := ⟨rfl, rfl, rfl, by decide +kernel, rfl, by decide +kernel, by decide +kernel⟩
theorem ok_places_from (A0 : AtTop K mg "places_from" (topS 35)) (c_places_in : DefOk Pg w K mg base 2 "places_in" ["rows", "place"] (spP K g 2 f_places_in)) (c_sure_machine : DefOk Pg w K mg base 14 "sure_machine" ["value"] (spP K g 1 f_sure_machine)) (c_sure_place : DefOk Pg w K mg base 4 "sure_place" ["machine", "value"] (spP K g 2 f_sure_place)) : DefOk Pg w K mg base 15 "places_from" ["machine", "place"] (spP K g 2 f_places_from) := by
  obtain ⟨f, fd, F, gF⟩ := A0.ex
  exact defP F gF (F.binds (ps := ["machine", "place"]) fun _ _ _ _ _ _ us hl => match us, hl with | [_, _], _ => rfl) sc_places_from (fun cdv A outer s H E hr tk =>
    (mss_cons (ms_set (ps_set (i := 2) sc_places_from.nd rfl (.inl rfl) (me_call c_sure_machine (hr.mono (by decide)) tk rfl (ma_cons (me_var (pv 0)) ma_nil))))
    (mss_one (ms_ret (ps_ret (me_call c_places_in (hr.mono (by decide)) tk rfl (ma_cons (me_op2 (pe_ix ix_seq (me_var (pv 2)) me_int (fun _ _ => rfl)) o_ix) (ma_cons (me_call c_sure_place (hr.mono (by decide)) tk rfl (ma_cons (me_var (pv 2)) (ma_cons (me_var (pv 1)) ma_nil))) ma_nil))))))))
def m_hangs_together : Lo → SR :=
  (sRet (eCall 1 f_hangs_in (aCons (eOp2 ixD (eCall 1 f_sure_machine (aCons (eVar 0) aNil)) (eC (.int 1))) aNil)))
def f_hangs_together := fnP 1 m_hangs_together
theorem sc_hangs_together : FnScope ["machine"] ["machine"] (defScope (topS 36)) := ⟨rfl, rfl, rfl, by decide +kernel, rfl, by decide +kernel, by decide +kernel⟩
theorem ok_hangs_together (A0 : AtTop K mg "hangs_together" (topS 36)) (c_hangs_in : DefOk Pg w K mg base 3 "hangs_in" ["rows"] (spP K g 1 f_hangs_in)) (c_sure_machine : DefOk Pg w K mg base 14 "sure_machine" ["value"] (spP K g 1 f_sure_machine)) : DefOk Pg w K mg base 15 "hangs_together" ["machine"] (spP K g 1 f_hangs_together) := by
  obtain ⟨f, fd, F, gF⟩ := A0.ex
  exact defP F gF (F.binds (ps := ["machine"]) fun _ _ _ _ _ _ us hl => match us, hl with | [_], _ => rfl) sc_hangs_together (fun cdv A outer s H E hr tk =>
    (mss_one (ms_ret (ps_ret (me_call c_hangs_in (hr.mono (by decide)) tk rfl (ma_cons (me_op2 (pe_ix ix_seq (me_call c_sure_machine (hr.mono (by decide)) tk rfl (ma_cons (me_var (pv 0)) ma_nil)) me_int (fun _ _ => rfl)) o_ix) ma_nil))))))
def m_law_box : Lo → SR :=
  (sSeq (sSet 2 (eIf (tBl (eOp2 ltD (eVar 1) (eOpN lenD (aCons (eVar 0) aNil)))) (eOp2 ixD (eVar 0) (eVar 1)) (eC (.int 0))))
    (sRetF (fLst (aCons (eOp2 mulD (eOpN absD (aCons (eVar 2) aNil)) (eOpN intD (aCons (eOp2 (cmpD fun i j => decide (j ≤ i)) (eOpN absD (aCons (eVar 2) aNil)) (eOp2 powD (eC (.int 10)) (eC (.int 18)))) aNil))) (aCons (eOp2 addD (eOp2 addD (eOp2 modD (eOpN intD (aCons (eVar 2) aNil)) (eC (.int 2305843009213693951))) (eOp2 mulD (eC (.int 39373)) (eVar 1))) (eC (.int 26303004))) (aCons (eC (.int 0)) aNil))))))
def f_law_box := fnF 3 m_law_box
theorem sc_law_box : FnScope ["script", "k", "bit_so"] ["script", "k"] (defScope (topS 38)) := ⟨rfl, rfl, rfl, by decide +kernel, rfl, by decide +kernel, by decide +kernel⟩
theorem ok_law_box (A0 : AtTop K mg "_law_box" (topS 38)) (n_len : mg "len" = none) (n_int : mg "int" = none) (n_abs : mg "abs" = none) : DefOk Pg w K mg base 1 "_law_box" ["script", "k"] (spF K g 2 f_law_box) := by
  obtain ⟨f, fd, F, gF⟩ := A0.ex
  exact defF F gF (F.binds (ps := ["script", "k"]) fun _ _ _ _ _ _ us hl => match us, hl with | [_, _], _ => rfl) sc_law_box (fun cdv A outer s H E hr tk =>
    (mss_cons (ms_set (ps_set (i := 2) sc_law_box.nd rfl (.inl rfl) (me_if (mt_op2 (pt_cmpR (op_ltU hr) (me_var (pv 1)) (me_opN (pe_callB call_len rfl n_len bt_len (ma_cons (me_var (pv 0)) ma_nil)) o_len) (nomark _)) o_lt) (me_op2 (pe_ix ix_seq (me_var (pv 0)) (me_var (pv 1)) (fun _ _ => rfl)) o_ix) me_int)))
    (mss_one (ms_retF (ps_ret (mf_lst (ma_cons (me_op2 (pe_op op_mulU (me_opN (pe_callB call_abs rfl n_abs bt_abs (ma_cons (me_var (pv 2)) ma_nil)) o_abs) (me_opN (pe_callTy call_int1 rfl n_int bt_int (ma_cons (me_op2 (pe_cmpR op_ge (me_opN (pe_callB call_abs rfl n_abs bt_abs (ma_cons (me_var (pv 2)) ma_nil)) o_abs) (me_op2 (pe_op op_pow me_int me_int) o_pow) (nomark _)) (o_cmp _)) ma_nil)) o_int)) o_mul) (ma_cons (me_op2 (pe_op op_addU (me_op2 (pe_op op_addU (me_op2 (pe_op op_modN (me_opN (pe_callTy call_int1 rfl n_int bt_int (ma_cons (me_var (pv 2)) ma_nil)) o_int) me_int) o_mod) (me_op2 (pe_op op_mulU me_int (me_var (pv 1))) o_mul)) o_add) me_int) o_add) (ma_cons me_int ma_nil)))))))))
def m_law_take : Lo → SR :=
  (sSeq (sIf (tBl (eOp2 (cmpD fun i j => decide (j < i)) (eOp2 ixD (eVar 0) (eC (.int 0))) (eC (.int 0))))
    (sSeq (sSet 5 (eOp2 modD (eOpN intD (aCons (eOp2 ixD (eVar 0) (eC (.int 0))) aNil)) (eVar 1)))
    (sSeq (sStore 0 (eC (.int 0)) (eOp2 fdivD (eOp2 ixD (eVar 0) (eC (.int 0))) (eVar 1)))
    (sRet (eVar 5))))
    .nx)
    (sSeq (sStore 0 (eC (.int 2)) (eOp2 addD (eOp2 ixD (eVar 0) (eC (.int 2))) (eC (.int 1))))
    (sSeq (sSet 2 (eOp2 modD (eOpN intD (aCons (eOp2 mulD (eOp2 addD (eOp2 ixD (eVar 0) (eC (.int 1))) (eOp2 mulD (eC (.int 48271)) (eOp2 ixD (eVar 0) (eC (.int 2))))) (eOp2 addD (eC (.int 39373)) (eOp2 ixD (eVar 0) (eC (.int 2))))) aNil)) (eC (.int 2147483647))))
    (sSeq (sSet 3 (eOp2 addD (eOp2 modD (eOpN intD (aCons (eVar 2) aNil)) (eC (.int 40009))) (eC (.int 7))))
    (sSeq (sSet 4 (eOp2 modD (eOpN intD (aCons (eOp2 mulD (eOp2 addD (eOp2 addD (eVar 2) (eOp2 ixD (eVar 0) (eC (.int 2)))) (eOp2 fdivD (eOp2 ixD (eVar 0) (eC (.int 1))) (eC (.int 1000003)))) (eVar 3)) aNil)) (eC (.int 2147483629))))
    (sRet (eOp2 modD (eOpN intD (aCons (eOp2 fdivD (eOp2 modD (eOpN intD (aCons (eOp2 addD (eOp2 mulD (eVar 4) (eC (.int 48271))) (eVar 2)) aNil)) (eC (.int 2147483587))) (eC (.int 64))) aNil)) (eVar 1))))))))
def f_law_take := fnI 6 m_law_take
theorem sc_law_take : FnScope ["tin", "below_so", "once_so", "wide_so", "twice_so", "drawn_so"] ["tin", "below_so"] (defScope (topS 39)) := ⟨rfl, rfl, rfl, by decide +kernel, rfl, by decide +kernel, by decide +kernel⟩
theorem ok_law_take (A0 : AtTop K mg "_law_take" (topS 39)) (n_int : mg "int" = none) : DefOk Pg w K mg base 1 "_law_take" ["tin", "below_so"] (spI K g 2 f_law_take) := by
  obtain ⟨f, fd, F, gF⟩ := A0.ex
  exact defI F gF (F.binds (ps := ["tin", "below_so"]) fun _ _ _ _ _ _ us hl => match us, hl with | [_, _], _ => rfl) sc_law_take (fun cdv A outer s H E hr tk =>
    (mss_cons (ms_if (ps_if (mt_op2 (pt_cmpR op_gt (me_op2 (pe_ix ix_seq (me_var (pv 0)) me_int (fun _ _ => rfl)) o_ix) me_int (nomark _)) (o_cmp _))
    (mss_cons (ms_set (ps_set (i := 5) sc_law_take.nd rfl (.inl rfl) (me_op2 (pe_op op_modN (me_opN (pe_callTy call_int1 rfl n_int bt_int (ma_cons (me_op2 (pe_ix ix_seq (me_var (pv 0)) me_int (fun _ _ => rfl)) o_ix) ma_nil)) o_int) (me_var (pv 1))) o_mod)))
    (mss_cons (ms_store (ps_asg (me_op2 (pe_op op_fdivN (me_op2 (pe_ix ix_seq (me_var (pv 0)) me_int (fun _ _ => rfl)) o_ix) (me_var (pv 1))) o_fdiv) (pg_sub (pv 0) me_int set_list)))
    (mss_one (ms_ret (ps_ret (me_var (pv 5)))))))
    mss_nil))
    (mss_cons (ms_store (ps_asg (me_op2 (pe_op op_addU (me_op2 (pe_ix ix_seq (me_var (pv 0)) me_int (fun _ _ => rfl)) o_ix) me_int) o_add) (pg_sub (pv 0) me_int set_list)))
    (mss_cons (ms_set (ps_set (i := 2) sc_law_take.nd rfl (.inl rfl) (me_op2 (pe_op op_modN (me_opN (pe_callTy call_int1 rfl n_int bt_int (ma_cons (me_op2 (pe_op op_mulU (me_op2 (pe_op op_addU (me_op2 (pe_ix ix_seq (me_var (pv 0)) me_int (fun _ _ => rfl)) o_ix) (me_op2 (pe_op op_mulU me_int (me_op2 (pe_ix ix_seq (me_var (pv 0)) me_int (fun _ _ => rfl)) o_ix)) o_mul)) o_add) (me_op2 (pe_op op_addU me_int (me_op2 (pe_ix ix_seq (me_var (pv 0)) me_int (fun _ _ => rfl)) o_ix)) o_add)) o_mul) ma_nil)) o_int) me_int) o_mod)))
    (mss_cons (ms_set (ps_set (i := 3) sc_law_take.nd rfl (.inl rfl) (me_op2 (pe_op op_addU (me_op2 (pe_op op_modN (me_opN (pe_callTy call_int1 rfl n_int bt_int (ma_cons (me_var (pv 2)) ma_nil)) o_int) me_int) o_mod) me_int) o_add)))
    (mss_cons (ms_set (ps_set (i := 4) sc_law_take.nd rfl (.inl rfl) (me_op2 (pe_op op_modN (me_opN (pe_callTy call_int1 rfl n_int bt_int (ma_cons (me_op2 (pe_op op_mulU (me_op2 (pe_op op_addU (me_op2 (pe_op op_addU (me_var (pv 2)) (me_op2 (pe_ix ix_seq (me_var (pv 0)) me_int (fun _ _ => rfl)) o_ix)) o_add) (me_op2 (pe_op op_fdivN (me_op2 (pe_ix ix_seq (me_var (pv 0)) me_int (fun _ _ => rfl)) o_ix) me_int) o_fdiv)) o_add) (me_var (pv 3))) o_mul) ma_nil)) o_int) me_int) o_mod)))
    (mss_one (ms_ret (ps_ret (me_op2 (pe_op op_modN (me_opN (pe_callTy call_int1 rfl n_int bt_int (ma_cons (me_op2 (pe_op op_fdivN (me_op2 (pe_op op_modN (me_opN (pe_callTy call_int1 rfl n_int bt_int (ma_cons (me_op2 (pe_op op_addU (me_op2 (pe_op op_mulU (me_var (pv 4)) me_int) o_mul) (me_var (pv 2))) o_add) ma_nil)) o_int) me_int) o_mod) me_int) o_fdiv) ma_nil)) o_int) (me_var (pv 1))) o_mod))))))))))
def m_law_cells : Lo → SR :=
  (sSeq (sSetF 2 (fOr (fOpN lstF (aCons (eSl slD (eVar 0) oNo (oSo (eVar 1))) aNil)) (fLst (aCons (eC (.int 0)) aNil))))
    (sSeq (sFor (iEnumL (aCons (eSl slD (eVar 0) (oSo (eVar 1)) (oSo (eC (.int 63)))) aNil)) (gTp (gsCons (gN 3) (gsCons (gN 4) gsNil)))
    (sSeq (sSet 5 (eOp2 modD (eOpN intD (aCons (eVar 3) aNil)) (eVar 1)))
    (sStore 2 (eVar 5) (eOp2 addD (eOp2 ixD (eVar 2) (eVar 5)) (eOp2 mulD (eVar 4) (eOp2 addD (eVar 3) (eC (.int 2))))))))
    (sRet (eVar 2))))
def f_law_cells := fnP 6 m_law_cells
theorem sc_law_cells : FnScope ["script", "most_so", "cells_so", "k", "bit_so", "at_so"] ["script", "most_so"] (defScope (topS 40)) := ⟨rfl, rfl, rfl, by decide +kernel, rfl, by decide +kernel, by decide +kernel⟩
theorem ok_law_cells (A0 : AtTop K mg "_law_cells" (topS 40)) (n_list : mg "list" = none) (n_enumerate : mg "enumerate" = none) (n_int : mg "int" = none) : DefOk Pg w K mg base 1 "_law_cells" ["script", "most_so"] (spP K g 2 f_law_cells) := by
  obtain ⟨f, fd, F, gF⟩ := A0.ex
  exact defP F gF (F.binds (ps := ["script", "most_so"]) fun _ _ _ _ _ _ us hl => match us, hl with | [_, _], _ => rfl) sc_law_cells (fun cdv A outer s H E hr tk =>
    (mss_cons (ms_setF (ps_set (i := 2) sc_law_cells.nd rfl (.inl rfl) (mf_or (mf_opN (pe_callTy call_list_of rfl n_list bt_list (ma_cons (me_sl (pe_slice sl_U (me_var (pv 0)) mo_no (mo_so (me_var (pv 1)))) os_U) ma_nil)) of_lst) (mf_one (mf_lst (ma_cons me_int ma_nil))))))
    (mss_cons (ms_forM (vs := [3, 4]) (passes_of rfl) rfl (mi_enumL rfl n_enumerate (ma_cons (me_sl (pe_slice sl_U (me_var (pv 0)) (mo_so (me_var (pv 1))) (mo_so me_int)) os_U) ma_nil)) (pg_tup rfl (pgs_cons (pg_name (i := 3) sc_law_cells.nd rfl (.inl rfl)) (pgs_cons (pg_name (i := 4) sc_law_cells.nd rfl (.inl rfl)) pgs_nil))) (tg_tup (tgs_cons (tg_name (by decide)) (tgs_cons (tg_name (by decide)) tgs_nil)) len2)
    (mss_cons (ms_set (ps_set (i := 5) sc_law_cells.nd rfl (.inl rfl) (me_op2 (pe_op op_modN (me_opN (pe_callTy call_int1 rfl n_int bt_int (ma_cons (me_var (pv 3)) ma_nil)) o_int) (me_var (pv 1))) o_mod)))
    (mss_one (ms_store (ps_asg (me_op2 (pe_op op_addU (me_op2 (pe_ix ix_seq (me_var (pv 2)) (me_var (pv 5)) (fun _ _ => rfl)) o_ix) (me_op2 (pe_op op_mulU (me_var (pv 4)) (me_op2 (pe_op op_addU (me_var (pv 3)) me_int) o_add)) o_mul)) o_add) (pg_sub (pv 2) (me_var (pv 5)) set_list))))))
    (mss_one (ms_ret (ps_ret (me_var (pv 2))))))))
def m_law_of : Lo → SR :=
  (sRet (eOp2 ixD (eVar 1) (eCallI 2 0 f_law_take (aCons (eOpN lenD (aCons (eVar 1) aNil)) aNil))))
def f_law_of := fnI 2 m_law_of
theorem sc_law_of : FnScope ["tin", "goods_so"] ["tin", "goods_so"] (defScope (topS 41)) := ⟨rfl, rfl, rfl, by decide +kernel, rfl, by decide +kernel, by decide +kernel⟩
theorem ok_law_of (A0 : AtTop K mg "_law_of" (topS 41)) (n_len : mg "len" = none) (c_law_take : DefOk Pg w K mg base 1 "_law_take" ["tin", "below_so"] (spI K g 2 f_law_take)) : DefOk Pg w K mg base 2 "_law_of" ["tin", "goods_so"] (spI K g 2 f_law_of) := by
  obtain ⟨f, fd, F, gF⟩ := A0.ex
  exact defI F gF (F.binds (ps := ["tin", "goods_so"]) fun _ _ _ _ _ _ us hl => match us, hl with | [_, _], _ => rfl) sc_law_of (fun cdv A outer s H E hr tk =>
    (mss_one (ms_ret (ps_ret (me_op2 (pe_ix ix_seq (me_var (pv 1)) (me_callI c_law_take (hr.mono (by decide)) tk rfl (pv 0) (ma_cons (me_opN (pe_callB call_len rfl n_len bt_len (ma_cons (me_var (pv 1)) ma_nil)) o_len) ma_nil)) (fun _ _ => rfl)) o_ix)))))
def m_law_pick : Lo → SR :=
  (sSeq (sPar [4, 5] (vConsF (fOpN lstF (aCons (eVar 1) aNil)) (vConsF (fLst aNil) vNil)))
    (sSeq (sFor (iRange1 (aCons (eOpN min2D (aCons (eOpN intD (aCons (eVar 2) aNil)) (aCons (eOpN lenD (aCons (eVar 4) aNil)) aNil))) aNil)) (gN 3)
    (sAppend 5 (ePopAt 4 (eCallI 2 0 f_law_take (aCons (eOpN lenD (aCons (eVar 4) aNil)) aNil)))))
    (sRetO 5)))
def f_law_pick := fnI 6 m_law_pick
theorem sc_law_pick : FnScope ["tin", "goods_so", "count_so", "lap", "pool_so", "found"] ["tin", "goods_so", "count_so"] (defScope (topS 42)) := ⟨rfl, rfl, rfl, by decide +kernel, rfl, by decide +kernel, by decide +kernel⟩
theorem ok_law_pick (A0 : AtTop K mg "_law_pick" (topS 42)) (n_list : mg "list" = none) (n_len : mg "len" = none) (n_int : mg "int" = none) (n_min : mg "min" = none) (n_range : mg "range" = none) (c_law_take : DefOk Pg w K mg base 1 "_law_take" ["tin", "below_so"] (spI K g 2 f_law_take)) : DefOk Pg w K mg base 2 "_law_pick" ["tin", "goods_so", "count_so"] (spI K g 3 f_law_pick) := by
  obtain ⟨f, fd, F, gF⟩ := A0.ex
  exact defI F gF (F.binds (ps := ["tin", "goods_so", "count_so"]) fun _ _ _ _ _ _ us hl => match us, hl with | [_, _, _], _ => rfl) sc_law_pick (fun cdv A outer s H E hr tk =>
    (mss_cons (ms_par2 (ps_par (i := 4) (j := 5) rfl sc_law_pick.nd rfl rfl (by decide) rfl rfl (mv_consF (mf_opN (pe_callTy call_list_of rfl n_list bt_list (ma_cons (me_var (pv 1)) ma_nil)) of_lst) (mv_consF (mf_lst ma_nil) mv_nil)) (by rfl)))
    (mss_cons (ms_forM (vs := [3]) (passes_of rfl) rfl (mi_range1 rfl n_range (ma_cons (me_opN (pe_callB (call_min2 rfl) rfl n_min bt_min (ma_cons (me_opN (pe_callTy call_int1 rfl n_int bt_int (ma_cons (me_var (pv 2)) ma_nil)) o_int) (ma_cons (me_opN (pe_callB call_len rfl n_len bt_len (ma_cons (me_var (pv 4)) ma_nil)) o_len) ma_nil))) o_min2) ma_nil)) (pg_name (i := 3) sc_law_pick.nd rfl (.inl rfl)) (tg_name (by decide))
    (mss_one (ms_append (ps_expr (pe_bm PySem.F.plainAttrs_list PySem.F.slot_list_append PySem.F.type_list_append mt_append (pv 5) (pa_cons (me_popAt (pe_bm PySem.F.plainAttrs_list PySem.F.slot_list_pop PySem.F.type_list_pop mt_popAt (pv 4) (pa_cons (me_callI c_law_take (hr.mono (by decide)) tk rfl (pv 0) (ma_cons (me_opN (pe_callB call_len rfl n_len bt_len (ma_cons (me_var (pv 4)) ma_nil)) o_len) ma_nil)) pa_nil))) pa_nil))))))
    (mss_one (ms_retO (ps_ret (pv 5)))))))
def m_law_same (f_law_same : List D → FR D) : Lo → SR :=
  (sSeq (sIf (tBl (eOp1 (isi2D "list" "tuple") (eVar 1)))
    (sSeq (sIf (tOr2 (tBl (eOp2 neD (eOp1 (isiD "list") (eVar 0)) (eOp1 (isiD "list") (eVar 1)))) (tBl (eOp2 neD (eOp1 (isiD "tuple") (eVar 0)) (eOp1 (isiD "tuple") (eVar 1)))))
    (sRet (eC (.bl false)))
    .nx)
    (sRet (eAnd (eOp2 eqD (eOpN lenD (aCons (eVar 0) aNil)) (eOpN lenD (aCons (eVar 1) aNil))) (eOpN allD (aCons (eFz (fComp [2, 3] (iZip2 (aCons (eVar 0) (aCons (eVar 1) aNil))) (gTp (gsCons (gN 2) (gsCons (gN 3) gsNil))) tTrue (eCall 2 f_law_same (aCons (eVar 2) (aCons (eVar 3) aNil))))) aNil)))))
    .nx)
    (sSeq (sIf (tBl (eOp2 isNonD (eVar 1) (eC .non)))
    (sRet (eOp2 isNonD (eVar 0) (eC .non)))
    .nx)
    (sSeq (sIf (tBl (eOp1 (isi2D "bool" "str") (eVar 1)))
    (sRet (eAnd (eOp2 eqD (eOp1 (isiD "bool") (eVar 0)) (eOp1 (isiD "bool") (eVar 1))) (eAnd (eOp2 eqD (eOp1 (isiD "str") (eVar 0)) (eOp1 (isiD "str") (eVar 1))) (eOp2 eqD (eVar 0) (eVar 1)))))
    .nx)
    (sRet (eAnd (eOp1 (isiD "int") (eVar 0)) (eAnd (eNot (eOp1 (isiD "bool") (eVar 0))) (eOp2 eqD (eVar 0) (eVar 1))))))))
def f_law_same_at : Nat → List D → FR D
  | 0 => fun _ => .no
  | n + 1 => fnP 4 (m_law_same (f_law_same_at n))
def f_law_same : List D → FR D := f_law_same_at 12
theorem sc_law_same : FnScope ["got", "due", "mine", "its"] ["got", "due"] (defScope (topS 43)) := ⟨rfl, rfl, rfl, by decide +kernel, rfl, by decide +kernel, by decide +kernel⟩
theorem ok_law_same_at (A0 : AtTop K mg "_law_same" (topS 43)) (n_isinstance : mg "isinstance" = none) (n_list : mg "list" = none) (n_tuple : mg "tuple" = none) (n_len : mg "len" = none) (n_zip : mg "zip" = none) (n_all : mg "all" = none) (n_bool : mg "bool" = none) (n_str : mg "str" = none) (n_int : mg "int" = none) : ∀ j : Nat, DefOk Pg w K mg base (1 + j) "_law_same" ["got", "due"] (spP K g 2 (f_law_same_at j)) := by
  obtain ⟨f, fd, F, gF⟩ := A0.ex
  intro j
  induction j with
  | zero => exact ⟨f, fd, gF, F.kp, F.binds (ps := ["got", "due"]) fun _ _ _ _ _ _ us hl => match us, hl with | [_, _], _ => rfl, fnNoP F sc_law_same⟩
  | succ j ih => exact defP (k := 1 + j) F gF (F.binds (ps := ["got", "due"]) fun _ _ _ _ _ _ us hl => match us, hl with | [_, _], _ => rfl) sc_law_same (fun cdv A outer s H E hr tk =>
    (mss_cons (ms_if (ps_if (mt_valB (pt_val (me_isi2 (pe_callB call_isiT rfl n_isinstance bt_isinstance (pa_cons (me_var (pv 1)) (pa_cons (pe_tup (pa_cons (pe_bltn (v := .ty "list") rfl n_list bt_list rfl) (pa_cons (pe_bltn (v := .ty "tuple") rfl n_tuple bt_tuple rfl) pa_nil))) pa_nil))))))
    (mss_cons (ms_if (ps_if (PW.pt (mw_or (mt_op2 (pt_cmpR (op_neD hr.units) (me_isi (pe_callB call_isi rfl n_isinstance bt_isinstance (pa_cons (me_var (pv 0)) (pa_cons (pe_bltn (v := .ty "list") rfl n_list bt_list rfl) pa_nil)))) (me_isi (pe_callB call_isi rfl n_isinstance bt_isinstance (pa_cons (me_var (pv 1)) (pa_cons (pe_bltn (v := .ty "list") rfl n_list bt_list rfl) pa_nil)))) (nomark _)) o_ne) (mw_or1 (mt_op2 (pt_cmpR (op_neD hr.units) (me_isi (pe_callB call_isi rfl n_isinstance bt_isinstance (pa_cons (me_var (pv 0)) (pa_cons (pe_bltn (v := .ty "tuple") rfl n_tuple bt_tuple rfl) pa_nil)))) (me_isi (pe_callB call_isi rfl n_isinstance bt_isinstance (pa_cons (me_var (pv 1)) (pa_cons (pe_bltn (v := .ty "tuple") rfl n_tuple bt_tuple rfl) pa_nil)))) (nomark _)) o_ne))))
    (mss_one (ms_ret (ps_ret me_bl)))
    mss_nil))
    (mss_one (ms_ret (ps_ret (me_and (me_op2 (pe_cmpR (op_eqD hr.units) (me_opN (pe_callB call_len rfl n_len bt_len (ma_cons (me_var (pv 0)) ma_nil)) o_len) (me_opN (pe_callB call_len rfl n_len bt_len (ma_cons (me_var (pv 1)) ma_nil)) o_len) (nomark _)) o_eq) (me_one (me_opN (pe_callB (cr_all rfl) rfl n_all bt_all (ma_cons (me_fz (mf_comp (own := [("mine", 2), ("its", 3)]) rfl sc_law_same.nd (mi_zip rfl n_zip (ma_cons (me_var (pv 0)) (ma_cons (me_var (pv 1)) ma_nil))) (blkOk_by rfl) (fun _ _ _ _ _ => (pg_tup rfl (pgs_cons (pg_name (i := 2) sc_law_same.nd rfl (.inl rfl)) (pgs_cons (pg_name (i := 3) sc_law_same.nd rfl (.inl rfl)) pgs_nil)))) (tg_tup (tgs_cons (tg_name (by decide)) (tgs_cons (tg_name (by decide)) tgs_nil)) len2) (fun _ _ _ _ _ => mts_nil) (fun _ _ _ _ _ => (me_call ih (hr.mono (Nat.le_refl _)) takes0 rfl (ma_cons (me_var (pv 2)) (ma_cons (me_var (pv 3)) ma_nil)))))) ma_nil)) o_all)))))))
    mss_nil))
    (mss_cons (ms_if (ps_if (mt_op2 (pt_cmpR op_isN (me_var (pv 1)) me_non (nomark _)) o_isN)
    (mss_one (ms_ret (ps_ret (me_op2 (pe_cmpR op_isN (me_var (pv 0)) me_non (nomark _)) o_isN))))
    mss_nil))
    (mss_cons (ms_if (ps_if (mt_valB (pt_val (me_isi2 (pe_callB call_isiT rfl n_isinstance bt_isinstance (pa_cons (me_var (pv 1)) (pa_cons (pe_tup (pa_cons (pe_bltn (v := .ty "bool") rfl n_bool bt_bool rfl) (pa_cons (pe_bltn (v := .ty "str") rfl n_str bt_str rfl) pa_nil))) pa_nil))))))
    (mss_one (ms_ret (ps_ret (me_and (me_op2 (pe_cmpR (op_eqD hr.units) (me_isi (pe_callB call_isi rfl n_isinstance bt_isinstance (pa_cons (me_var (pv 0)) (pa_cons (pe_bltn (v := .ty "bool") rfl n_bool bt_bool rfl) pa_nil)))) (me_isi (pe_callB call_isi rfl n_isinstance bt_isinstance (pa_cons (me_var (pv 1)) (pa_cons (pe_bltn (v := .ty "bool") rfl n_bool bt_bool rfl) pa_nil)))) (nomark _)) o_eq) (me_and (me_op2 (pe_cmpR (op_eqD hr.units) (me_isi (pe_callB call_isi rfl n_isinstance bt_isinstance (pa_cons (me_var (pv 0)) (pa_cons (pe_bltn (v := .ty "str") rfl n_str bt_str rfl) pa_nil)))) (me_isi (pe_callB call_isi rfl n_isinstance bt_isinstance (pa_cons (me_var (pv 1)) (pa_cons (pe_bltn (v := .ty "str") rfl n_str bt_str rfl) pa_nil)))) (nomark _)) o_eq) (me_one (me_op2 (pe_cmpR (op_eqD hr.units) (me_var (pv 0)) (me_var (pv 1)) (nomark _)) o_eq)))))))
    mss_nil))
    (mss_one (ms_ret (ps_ret (me_and (me_isi (pe_callB call_isi rfl n_isinstance bt_isinstance (pa_cons (me_var (pv 0)) (pa_cons (pe_bltn (v := .ty "int") rfl n_int bt_int rfl) pa_nil)))) (me_and (me_not (me_isi (pe_callB call_isi rfl n_isinstance bt_isinstance (pa_cons (me_var (pv 0)) (pa_cons (pe_bltn (v := .ty "bool") rfl n_bool bt_bool rfl) pa_nil))))) (me_one (me_op2 (pe_cmpR (op_eqD hr.units) (me_var (pv 0)) (me_var (pv 1)) (nomark _)) o_eq)))))))))))
theorem ok_law_same (A0 : AtTop K mg "_law_same" (topS 43)) (n_isinstance : mg "isinstance" = none) (n_list : mg "list" = none) (n_tuple : mg "tuple" = none) (n_len : mg "len" = none) (n_zip : mg "zip" = none) (n_all : mg "all" = none) (n_bool : mg "bool" = none) (n_str : mg "str" = none) (n_int : mg "int" = none) : DefOk Pg w K mg base 13 "_law_same" ["got", "due"] (spP K g 2 f_law_same) := ok_law_same_at A0 n_isinstance n_list n_tuple n_len n_zip n_all n_bool n_str n_int 12
def m_law_mixed (f_law_mixed : List D → List D → RI) : Lo → SR :=
  (sSeq (sIf (tNt (tBl (eOp1 (isi2D "list" "tuple") (eVar 1))))
    (sRet (eVar 1))
    .nx)
    (sSeq (sSet 2 (eFz (fComp [3] (iSeq (eVar 1)) (gN 3) tTrue (eCallI 2 0 f_law_mixed (aCons (eVar 3) aNil)))))
    (sRet (eIf (tBl (eOp2 eqD (eCallI 2 0 f_law_take (aCons (eC (.int 2)) aNil)) (eC (.int 0)))) (eVar 2) (eOpN tupD (aCons (eVar 2) aNil))))))
def f_law_mixed_at : Nat → List D → List D → RI
  | 0 => fun _ _ => .no
  | n + 1 => fnI 4 (m_law_mixed (f_law_mixed_at n))
def f_law_mixed : List D → List D → RI := f_law_mixed_at 12
theorem sc_law_mixed : FnScope ["tin", "matter", "row_so", "bit"] ["tin", "matter"] (defScope (topS 44)) := ⟨rfl, rfl, rfl, by decide +kernel, rfl, by decide +kernel, by decide +kernel⟩
theorem ok_law_mixed_at (A0 : AtTop K mg "_law_mixed" (topS 44)) (n_isinstance : mg "isinstance" = none) (n_list : mg "list" = none) (n_tuple : mg "tuple" = none) (c_law_take : DefOk Pg w K mg base 1 "_law_take" ["tin", "below_so"] (spI K g 2 f_law_take)) : ∀ j : Nat, DefOk Pg w K mg base (2 + j) "_law_mixed" ["tin", "matter"] (spI K g 2 (f_law_mixed_at j)) := by
  obtain ⟨f, fd, F, gF⟩ := A0.ex
  intro j
  induction j with
  | zero => exact ⟨f, fd, gF, F.kp, F.binds (ps := ["tin", "matter"]) fun _ _ _ _ _ _ us hl => match us, hl with | [_, _], _ => rfl, fnNoI F sc_law_mixed⟩
  | succ j ih => exact defI (k := 2 + j) F gF (F.binds (ps := ["tin", "matter"]) fun _ _ _ _ _ _ us hl => match us, hl with | [_, _], _ => rfl) sc_law_mixed (fun cdv A outer s H E hr tk =>
    (mss_cons (ms_if (ps_if (mt_not (mt_valB (pt_val (me_isi2 (pe_callB call_isiT rfl n_isinstance bt_isinstance (pa_cons (me_var (pv 1)) (pa_cons (pe_tup (pa_cons (pe_bltn (v := .ty "list") rfl n_list bt_list rfl) (pa_cons (pe_bltn (v := .ty "tuple") rfl n_tuple bt_tuple rfl) pa_nil))) pa_nil)))))))
    (mss_one (ms_ret (ps_ret (me_var (pv 1)))))
    mss_nil))
    (mss_cons (ms_setFz (ms_setC (i := 2) (own := [("bit", 3)]) rfl sc_law_mixed.nd rfl rfl (sw_true rfl rfl rfl (by decide +kernel)) (mi_seq (me_var (pv 1))) (blkOk_by rfl) (fun _ _ _ _ _ => (pg_name (i := 3) sc_law_mixed.nd rfl (.inl rfl))) (tg_name (by decide)) (fun _ _ _ _ _ => mts_nil) (fun _ _ _ _ _ => (me_callI ih (hr.mono (Nat.le_refl _)) takes0 rfl (pv 0) (ma_cons (me_var (pv 3)) ma_nil)))))
    (mss_one (ms_ret (ps_ret (me_if (mt_op2 (pt_cmpR (op_eqD hr.units) (me_callI c_law_take (hr.mono (Nat.le_trans (m := 2) (by decide) (Nat.le_add_right 2 _))) tk rfl (pv 0) (ma_cons me_int ma_nil)) me_int (nomark _)) o_eq) (me_var (pv 2)) (me_opN (pe_callTy call_tuple_of rfl n_tuple bt_tuple (ma_cons (me_var (pv 2)) ma_nil)) o_tup))))))))
theorem ok_law_mixed (A0 : AtTop K mg "_law_mixed" (topS 44)) (n_isinstance : mg "isinstance" = none) (n_list : mg "list" = none) (n_tuple : mg "tuple" = none) (c_law_take : DefOk Pg w K mg base 1 "_law_take" ["tin", "below_so"] (spI K g 2 f_law_take)) : DefOk Pg w K mg base 14 "_law_mixed" ["tin", "matter"] (spI K g 2 f_law_mixed) := ok_law_mixed_at A0 n_isinstance n_list n_tuple c_law_take 12
def m_law_machine : Lo → SR :=
  (sSeq (sPar [6, 7, 8] (vCons (eOp2 addD (eC (.int 1)) (eCallI 2 0 f_law_take (aCons (eVar 1) aNil))) (vCons (eOp2 addD (eC (.int 1)) (eCallI 2 0 f_law_take (aCons (eVar 2) aNil))) (vCons (eCallI 2 0 f_law_take (aCons (eC (.int 7)) aNil)) vNil))))
    (sSeq (sIf (tBl (eOp2 ltD (eVar 8) (eC (.int 2))))
    (sRet (eTup (aCons (eVar 7) (aCons (eOpN tupD (aCons (eFz (fComp [14] (iRange1 (aCons (eVar 6) aNil)) (gN 14) tTrue (eOpN tupD (aCons (eFz (fComp [5] (iRange1 (aCons (eVar 7) aNil)) (gN 5) tTrue (eCallI 2 0 f_law_take (aCons (eVar 6) aNil)))) aNil)))) aNil)) aNil))))
    .nx)
    (sSeq (sSetG 3 (gComp [5] (iRange1 (aCons (eVar 7) aNil)) (gN 5) tTrue (fCallI 3 0 f_law_pick (aCons (eFz (fRg (rg1 (eVar 6)))) (aCons (eVar 6) aNil)))))
    (sSeq (sIf (tBl (eOp2 eqD (eVar 8) (eC (.int 2))))
    (sRet (eTup (aCons (eVar 7) (aCons (eOpN tupD (aCons (eFz (fComp [14] (iRange1 (aCons (eVar 6) aNil)) (gN 14) tTrue (eOpN tupD (aCons (eFz (fComp [5] (iRange1 (aCons (eVar 7) aNil)) (gN 5) tTrue (eOp2 ixD (eOp2 ixD (eVar2 3) (eVar 5)) (eVar 14)))) aNil)))) aNil)) aNil))))
    .nx)
    (sSeq (sIf (tBl (eOp2 eqD (eVar 8) (eC (.int 3))))
    (sSeq (sStore2 3 (eOp1 negD (eC (.int 1))) (eCallI 2 0 f_law_take (aCons (eVar 6) aNil)) (eCallI 2 0 f_law_take (aCons (eVar 6) aNil)))
    (sRet (eTup (aCons (eVar 7) (aCons (eOpN tupD (aCons (eFz (fComp [14] (iRange1 (aCons (eVar 6) aNil)) (gN 14) tTrue (eOpN tupD (aCons (eFz (fComp [5] (iRange1 (aCons (eVar 7) aNil)) (gN 5) tTrue (eOp2 ixD (eOp2 ixD (eVar2 3) (eVar 5)) (eVar 14)))) aNil)))) aNil)) aNil)))))
    .nx)
    (sSeq (sIf (tAnd2 (tBl (eOp2 eqD (eVar 8) (eC (.int 4)))) (tBl (eOp2 (cmpD fun i j => decide (j < i)) (eVar 6) (eC (.int 1)))))
    (sSeq (sSet 9 (eOp2 addD (eC (.int 1)) (eCallI 2 0 f_law_take (aCons (eOp2 subD (eVar 6) (eC (.int 1))) aNil))))
    (sSeq (sSet 10 (eFz (fComp [14] (iRange1 (aCons (eVar 9) aNil)) (gN 14) tTrue (eOpN tupD (aCons (eFz (fComp [5] (iRange1 (aCons (eVar 7) aNil)) (gN 5) tTrue (eCallI 2 0 f_law_take (aCons (eVar 9) aNil)))) aNil)))))
    (sSeq (sSet 11 (eFz (fComp [14] (iRange1 (aCons (eOp2 subD (eVar 6) (eVar 9)) aNil)) (gN 14) tTrue (eOpN tupD (aCons (eFz (fComp [5] (iRange1 (aCons (eVar 7) aNil)) (gN 5) tTrue (eIf (tBl (eOp2 (cmpD fun i j => decide (j < i)) (eCallI 2 0 f_law_take (aCons (eC (.int 6)) aNil)) (eC (.int 0)))) (eOp2 addD (eVar 9) (eCallI 2 0 f_law_take (aCons (eOp2 subD (eVar 6) (eVar 9)) aNil))) (eCallI 2 0 f_law_take (aCons (eVar 6) aNil))))) aNil)))))
    (sRet (eTup (aCons (eVar 7) (aCons (eOpN tupD (aCons (eOp2 addD (eVar 10) (eVar 11)) aNil)) aNil)))))))
    .nx)
    (sSeq (sIf (tAnd2 (tBl (eOp2 eqD (eVar 8) (eC (.int 5)))) (tBl (eOp2 (cmpD fun i j => decide (j < i)) (eVar 6) (eC (.int 1)))))
    (sSeq (sSet 9 (eOp2 addD (eC (.int 1)) (eCallI 2 0 f_law_take (aCons (eOp2 subD (eVar 6) (eC (.int 1))) aNil))))
    (sSeq (sSet 12 (eOp2 addD (eFz (fRg (rg1 (eVar 9)))) (eFz (fComp [14] (iRange1 (aCons (eOp2 subD (eVar 6) (eVar 9)) aNil)) (gN 14) tTrue (eCallI 2 0 f_law_take (aCons (eVar 9) aNil))))))
    (sSeq (sSet 13 (eFz (fComp [14] (iRange1 (aCons (eVar 9) aNil)) (gN 14) tTrue (eFz (fComp [5] (iRange1 (aCons (eVar 7) aNil)) (gN 5) tTrue (eCallI 2 0 f_law_take (aCons (eVar 9) aNil)))))))
    (sSeq (sSetF 4 (fLst aNil))
    (sSeq (sFor (iRange1 (aCons (eVar 6) aNil)) (gN 14)
    (sAppend 4 (eOpN tupD (aCons (eFz (fComp [17] (iSeq (eOp2 ixD (eVar 13) (eOp2 ixD (eVar 12) (eVar 14)))) (gN 17) tTrue (eCallI 2 0 f_law_of (aCons (eFz (fComp [18] (iRange1 (aCons (eVar 6) aNil)) (gN 18) (tBl (eOp2 eqD (eOp2 ixD (eVar 12) (eVar 18)) (eVar 17))) (eVar 18))) aNil)))) aNil))))
    (sRet (eTup (aCons (eVar 7) (aCons (eOpN tupD (aCons (eVar2 4) aNil)) aNil)))))))))
    .nx)
    (sSeq (sSetG 4 (gComp [14] (iRange1 (aCons (eVar 6) aNil)) (gN 14) tTrue (fOp2 catF (eFz (fLst (aCons (eOp2 modD (eOp2 addD (eVar 14) (eC (.int 1))) (eVar 6)) aNil))) (eOp2 mulD (eFz (fLst (aCons (eVar 14) aNil))) (eOp2 subD (eVar 7) (eC (.int 1)))))))
    (sSeq (sFor (iRange2 (aCons (eC (.int 1)) (aCons (eVar 7) aNil))) (gN 5)
    (sFor (iRange1 (aCons (eOp2 addD (eC (.int 1)) (eCallI 2 0 f_law_take (aCons (eC (.int 2)) aNil))) aNil)) (gN 15)
    (sStore2 4 (eCallI 2 0 f_law_take (aCons (eVar 6) aNil)) (eVar 5) (eCallI 2 0 f_law_take (aCons (eVar 6) aNil)))))
    (sRet (eTup (aCons (eVar 7) (aCons (eOpN tupD (aCons (eFz (fComp [16] (iSeq (eVar2 4)) (gN 16) tTrue (eOpN tupD (aCons (eVar 16) aNil)))) aNil)) aNil)))))))))))))
def f_law_machine := fnI 19 m_law_machine
theorem sc_law_machine : FnScope ["tin", "many_so", "letters_so", "swaps_so", "rows_so", "a", "n", "k", "kind_so", "m", "low_so", "high_so", "names_so", "base_so", "p", "turn", "own", "goal_so", "q"] ["tin", "many_so", "letters_so"] (defScope (topS 45)) := ⟨rfl, rfl, rfl, by decide +kernel, rfl, by decide +kernel, by decide +kernel⟩
theorem ok_law_machine (A0 : AtTop K mg "_law_machine" (topS 45)) (n_range : mg "range" = none) (n_tuple : mg "tuple" = none) (n_list : mg "list" = none) (c_law_of : DefOk Pg w K mg base 2 "_law_of" ["tin", "goods_so"] (spI K g 2 f_law_of)) (c_law_pick : DefOk Pg w K mg base 2 "_law_pick" ["tin", "goods_so", "count_so"] (spI K g 3 f_law_pick)) (c_law_take : DefOk Pg w K mg base 1 "_law_take" ["tin", "below_so"] (spI K g 2 f_law_take)) : DefOk Pg w K mg base 3 "_law_machine" ["tin", "many_so", "letters_so"] (spI K g 3 f_law_machine) := by
  obtain ⟨f, fd, F, gF⟩ := A0.ex
  exact defI F gF (F.binds (ps := ["tin", "many_so", "letters_so"]) fun _ _ _ _ _ _ us hl => match us, hl with | [_, _, _], _ => rfl) sc_law_machine (fun cdv A outer s H E hr tk =>
    (mss_cons (ms_parT (ps_asg (pe_tup (mv_cons (me_op2 (pe_op op_addU me_int (me_callI c_law_take (hr.mono (by decide)) tk rfl (pv 0) (ma_cons (me_var (pv 1)) ma_nil))) o_add) (mv_cons (me_op2 (pe_op op_addU me_int (me_callI c_law_take (hr.mono (by decide)) tk rfl (pv 0) (ma_cons (me_var (pv 2)) ma_nil))) o_add) (mv_cons (me_callI c_law_take (hr.mono (by decide)) tk rfl (pv 0) (ma_cons me_int ma_nil)) mv_nil)))) (pg_tup rfl (pgs_cons (pg_name (i := 6) sc_law_machine.nd rfl (.inr rfl)) (pgs_cons (pg_name (i := 7) sc_law_machine.nd rfl (.inr rfl)) (pgs_cons (pg_name (i := 8) sc_law_machine.nd rfl (.inl rfl)) pgs_nil))))) rfl (.cons (.cons (.cons .nil))))
    (mss_cons (ms_if (ps_if (mt_op2 (pt_cmpR (op_ltU hr) (me_var (pv 8)) me_int (nomark _)) o_lt)
    (mss_one (ms_ret (ps_ret (me_tup (ma_cons (me_var (pv 7)) (ma_cons (me_opN (pe_callTy call_tuple_of rfl n_tuple bt_tuple (ma_cons (me_fz (mf_comp (own := [("p", 14)]) rfl sc_law_machine.nd (mi_range1 rfl n_range (ma_cons (me_var (pv 6)) ma_nil)) (blkOk_by rfl) (fun _ _ _ _ _ => (pg_name (i := 14) sc_law_machine.nd rfl (.inl rfl))) (tg_name (by decide)) (fun _ _ _ _ _ => mts_nil) (fun _ _ _ _ _ => (me_opN (pe_callTy call_tuple_of rfl n_tuple bt_tuple (ma_cons (me_fz (mf_comp (own := [("a", 5)]) rfl sc_law_machine.nd (mi_range1 rfl n_range (ma_cons (me_var (pv 7)) ma_nil)) (blkOk_by rfl) (fun _ _ _ _ _ => (pg_name (i := 5) sc_law_machine.nd rfl (.inl rfl))) (tg_name (by decide)) (fun _ _ _ _ _ => mts_nil) (fun _ _ _ _ _ => (me_callI c_law_take (hr.mono (by decide)) takes0 rfl (pv 0) (ma_cons (me_var (pv 6)) ma_nil))))) ma_nil)) o_tup)))) ma_nil)) o_tup) ma_nil))))))
    mss_nil))
    (mss_cons (ms_setG (ps_set (i := 3) sc_law_machine.nd rfl (.inr rfl) (mg_comp (own := [("a", 5)]) rfl sc_law_machine.nd (mi_range1 rfl n_range (ma_cons (me_var (pv 7)) ma_nil)) (blkOk_by rfl) (fun _ _ _ _ _ => (pg_name (i := 5) sc_law_machine.nd rfl (.inl rfl))) (tg_name (by decide)) (fun _ _ _ _ _ => mts_nil) (fun _ _ _ _ _ => (mf_callI c_law_pick (hr.mono (by decide)) takes0 rfl (pv 0) (ma_cons (me_fz (mf_listRg (pe_listRg rfl rfl n_list (mrg_1 rfl n_range (me_var (pv 6)))))) (ma_cons (me_var (pv 6)) ma_nil)))))))
    (mss_cons (ms_if (ps_if (mt_op2 (pt_cmpR (op_eqD hr.units) (me_var (pv 8)) me_int (nomark _)) o_eq)
    (mss_one (ms_ret (ps_ret (me_tup (ma_cons (me_var (pv 7)) (ma_cons (me_opN (pe_callTy call_tuple_of rfl n_tuple bt_tuple (ma_cons (me_fz (mf_comp (own := [("p", 14)]) rfl sc_law_machine.nd (mi_range1 rfl n_range (ma_cons (me_var (pv 6)) ma_nil)) (blkOk_by rfl) (fun _ _ _ _ _ => (pg_name (i := 14) sc_law_machine.nd rfl (.inr rfl))) (tg_name (by decide)) (fun _ _ _ _ _ => mts_nil) (fun _ _ _ _ _ => (me_opN (pe_callTy call_tuple_of rfl n_tuple bt_tuple (ma_cons (me_fz (mf_comp (own := [("a", 5)]) rfl sc_law_machine.nd (mi_range1 rfl n_range (ma_cons (me_var (pv 7)) ma_nil)) (blkOk_by rfl) (fun _ _ _ _ _ => (pg_name (i := 5) sc_law_machine.nd rfl (.inl rfl))) (tg_name (by decide)) (fun _ _ _ _ _ => mts_nil) (fun _ _ _ _ _ => (me_op2 (pe_ix ix_seq (me_op2 (pe_ix ix_seq (me_var2 (pv 3)) (me_var (pv 5)) (fun _ _ => rfl)) o_ix) (me_var (pv 14)) (fun _ _ => rfl)) o_ix)))) ma_nil)) o_tup)))) ma_nil)) o_tup) ma_nil))))))
    mss_nil))
    (mss_cons (ms_if (ps_if (mt_op2 (pt_cmpR (op_eqD hr.units) (me_var (pv 8)) me_int (nomark _)) o_eq)
    (mss_cons (ms_store2 (ps_asg (me_callI c_law_take (hr.mono (by decide)) tk rfl (pv 0) (ma_cons (me_var (pv 6)) ma_nil)) (pg_sub (pe_ix ix_seq (pv 3) (me_op1 (pe_un un_neg me_int) o_neg) (fun _ _ => rfl)) (me_callI c_law_take (hr.mono (by decide)) tk rfl (pv 0) (ma_cons (me_var (pv 6)) ma_nil)) set_list)))
    (mss_one (ms_ret (ps_ret (me_tup (ma_cons (me_var (pv 7)) (ma_cons (me_opN (pe_callTy call_tuple_of rfl n_tuple bt_tuple (ma_cons (me_fz (mf_comp (own := [("p", 14)]) rfl sc_law_machine.nd (mi_range1 rfl n_range (ma_cons (me_var (pv 6)) ma_nil)) (blkOk_by rfl) (fun _ _ _ _ _ => (pg_name (i := 14) sc_law_machine.nd rfl (.inr rfl))) (tg_name (by decide)) (fun _ _ _ _ _ => mts_nil) (fun _ _ _ _ _ => (me_opN (pe_callTy call_tuple_of rfl n_tuple bt_tuple (ma_cons (me_fz (mf_comp (own := [("a", 5)]) rfl sc_law_machine.nd (mi_range1 rfl n_range (ma_cons (me_var (pv 7)) ma_nil)) (blkOk_by rfl) (fun _ _ _ _ _ => (pg_name (i := 5) sc_law_machine.nd rfl (.inl rfl))) (tg_name (by decide)) (fun _ _ _ _ _ => mts_nil) (fun _ _ _ _ _ => (me_op2 (pe_ix ix_seq (me_op2 (pe_ix ix_seq (me_var2 (pv 3)) (me_var (pv 5)) (fun _ _ => rfl)) o_ix) (me_var (pv 14)) (fun _ _ => rfl)) o_ix)))) ma_nil)) o_tup)))) ma_nil)) o_tup) ma_nil)))))))
    mss_nil))
    (mss_cons (ms_if (ps_if (PW.pt (mw_and (mt_op2 (pt_cmpR (op_eqD hr.units) (me_var (pv 8)) me_int (nomark _)) o_eq) (mw_and1 (mt_op2 (pt_cmpR op_gt (me_var (pv 6)) me_int (nomark _)) (o_cmp _)))))
    (mss_cons (ms_set (ps_set (i := 9) sc_law_machine.nd rfl (.inr rfl) (me_op2 (pe_op op_addU me_int (me_callI c_law_take (hr.mono (by decide)) tk rfl (pv 0) (ma_cons (me_op2 (pe_op op_sub (me_var (pv 6)) me_int) o_sub) ma_nil))) o_add)))
    (mss_cons (ms_setFz (ms_setC (i := 10) (own := [("p", 14)]) rfl sc_law_machine.nd rfl rfl (sw_true rfl rfl rfl (by decide +kernel)) (mi_range1 rfl n_range (ma_cons (me_var (pv 9)) ma_nil)) (blkOk_by rfl) (fun _ _ _ _ _ => (pg_name (i := 14) sc_law_machine.nd rfl (.inl rfl))) (tg_name (by decide)) (fun _ _ _ _ _ => mts_nil) (fun _ _ _ _ _ => (me_opN (pe_callTy call_tuple_of rfl n_tuple bt_tuple (ma_cons (me_fz (mf_comp (own := [("a", 5)]) rfl sc_law_machine.nd (mi_range1 rfl n_range (ma_cons (me_var (pv 7)) ma_nil)) (blkOk_by rfl) (fun _ _ _ _ _ => (pg_name (i := 5) sc_law_machine.nd rfl (.inl rfl))) (tg_name (by decide)) (fun _ _ _ _ _ => mts_nil) (fun _ _ _ _ _ => (me_callI c_law_take (hr.mono (by decide)) takes0 rfl (pv 0) (ma_cons (me_var (pv 9)) ma_nil))))) ma_nil)) o_tup))))
    (mss_cons (ms_setFz (ms_setC (i := 11) (own := [("p", 14)]) rfl sc_law_machine.nd rfl rfl (sw_true rfl rfl rfl (by decide +kernel)) (mi_range1 rfl n_range (ma_cons (me_op2 (pe_op op_sub (me_var (pv 6)) (me_var (pv 9))) o_sub) ma_nil)) (blkOk_by rfl) (fun _ _ _ _ _ => (pg_name (i := 14) sc_law_machine.nd rfl (.inl rfl))) (tg_name (by decide)) (fun _ _ _ _ _ => mts_nil) (fun _ _ _ _ _ => (me_opN (pe_callTy call_tuple_of rfl n_tuple bt_tuple (ma_cons (me_fz (mf_comp (own := [("a", 5)]) rfl sc_law_machine.nd (mi_range1 rfl n_range (ma_cons (me_var (pv 7)) ma_nil)) (blkOk_by rfl) (fun _ _ _ _ _ => (pg_name (i := 5) sc_law_machine.nd rfl (.inl rfl))) (tg_name (by decide)) (fun _ _ _ _ _ => mts_nil) (fun _ _ _ _ _ => (me_if (mt_op2 (pt_cmpR op_gt (me_callI c_law_take (hr.mono (by decide)) takes0 rfl (pv 0) (ma_cons me_int ma_nil)) me_int (nomark _)) (o_cmp _)) (me_op2 (pe_op op_addU (me_var (pv 9)) (me_callI c_law_take (hr.mono (by decide)) takes0 rfl (pv 0) (ma_cons (me_op2 (pe_op op_sub (me_var (pv 6)) (me_var (pv 9))) o_sub) ma_nil))) o_add) (me_callI c_law_take (hr.mono (by decide)) takes0 rfl (pv 0) (ma_cons (me_var (pv 6)) ma_nil)))))) ma_nil)) o_tup))))
    (mss_one (ms_ret (ps_ret (me_tup (ma_cons (me_var (pv 7)) (ma_cons (me_opN (pe_callTy call_tuple_of rfl n_tuple bt_tuple (ma_cons (me_op2 (pe_op op_addU (me_var (pv 10)) (me_var (pv 11))) o_add) ma_nil)) o_tup) ma_nil)))))))))
    mss_nil))
    (mss_cons (ms_if (ps_if (PW.pt (mw_and (mt_op2 (pt_cmpR (op_eqD hr.units) (me_var (pv 8)) me_int (nomark _)) o_eq) (mw_and1 (mt_op2 (pt_cmpR op_gt (me_var (pv 6)) me_int (nomark _)) (o_cmp _)))))
    (mss_cons (ms_set (ps_set (i := 9) sc_law_machine.nd rfl (.inr rfl) (me_op2 (pe_op op_addU me_int (me_callI c_law_take (hr.mono (by decide)) tk rfl (pv 0) (ma_cons (me_op2 (pe_op op_sub (me_var (pv 6)) me_int) o_sub) ma_nil))) o_add)))
    (mss_cons (ms_set (ps_set (i := 12) sc_law_machine.nd rfl (.inr rfl) (me_op2 (pe_op op_addU (me_fz (mf_listRg (pe_listRg rfl rfl n_list (mrg_1 rfl n_range (me_var (pv 9)))))) (me_fz (mf_comp (own := [("p", 14)]) rfl sc_law_machine.nd (mi_range1 rfl n_range (ma_cons (me_op2 (pe_op op_sub (me_var (pv 6)) (me_var (pv 9))) o_sub) ma_nil)) (blkOk_by rfl) (fun _ _ _ _ _ => (pg_name (i := 14) sc_law_machine.nd rfl (.inl rfl))) (tg_name (by decide)) (fun _ _ _ _ _ => mts_nil) (fun _ _ _ _ _ => (me_callI c_law_take (hr.mono (by decide)) takes0 rfl (pv 0) (ma_cons (me_var (pv 9)) ma_nil)))))) o_add)))
    (mss_cons (ms_setFz (ms_setC (i := 13) (own := [("p", 14)]) rfl sc_law_machine.nd rfl rfl (sw_true rfl rfl rfl (by decide +kernel)) (mi_range1 rfl n_range (ma_cons (me_var (pv 9)) ma_nil)) (blkOk_by rfl) (fun _ _ _ _ _ => (pg_name (i := 14) sc_law_machine.nd rfl (.inl rfl))) (tg_name (by decide)) (fun _ _ _ _ _ => mts_nil) (fun _ _ _ _ _ => (me_fz (mf_comp (own := [("a", 5)]) rfl sc_law_machine.nd (mi_range1 rfl n_range (ma_cons (me_var (pv 7)) ma_nil)) (blkOk_by rfl) (fun _ _ _ _ _ => (pg_name (i := 5) sc_law_machine.nd rfl (.inl rfl))) (tg_name (by decide)) (fun _ _ _ _ _ => mts_nil) (fun _ _ _ _ _ => (me_callI c_law_take (hr.mono (by decide)) takes0 rfl (pv 0) (ma_cons (me_var (pv 9)) ma_nil))))))))
    (mss_cons (ms_setF (ps_set (i := 4) sc_law_machine.nd rfl (.inl rfl) (mf_lst ma_nil)))
    (mss_cons (ms_forM (vs := [14]) (passes_of rfl) rfl (mi_range1 rfl n_range (ma_cons (me_var (pv 6)) ma_nil)) (pg_name (i := 14) sc_law_machine.nd rfl (.inl rfl)) (tg_name (by decide))
    (mss_one (ms_append (ps_expr (pe_bm PySem.F.plainAttrs_list PySem.F.slot_list_append PySem.F.type_list_append mt_append (pv 4) (pa_cons (me_opN (pe_callTy call_tuple_of rfl n_tuple bt_tuple (ma_cons (me_fz (mf_comp (own := [("goal_so", 17)]) rfl sc_law_machine.nd (mi_seq (me_op2 (pe_ix ix_seq (me_var (pv 13)) (me_op2 (pe_ix ix_seq (me_var (pv 12)) (me_var (pv 14)) (fun _ _ => rfl)) o_ix) (fun _ _ => rfl)) o_ix)) (blkOk_by rfl) (fun _ _ _ _ _ => (pg_name (i := 17) sc_law_machine.nd rfl (.inr rfl))) (tg_name (by decide)) (fun _ _ _ _ _ => mts_nil) (fun _ _ _ _ _ => (me_callI c_law_of (hr.mono (by decide)) takes0 rfl (pv 0) (ma_cons (me_fz (mf_comp (own := [("q", 18)]) rfl sc_law_machine.nd (mi_range1 rfl n_range (ma_cons (me_var (pv 6)) ma_nil)) (blkOk_by rfl) (fun _ _ _ _ _ => (pg_name (i := 18) sc_law_machine.nd rfl (.inl rfl))) (tg_name (by decide)) (fun _ _ _ _ _ => (mts_one (mt_op2 (pt_cmpR (op_eqD hr.units) (me_op2 (pe_ix ix_seq (me_var (pv 12)) (me_var (pv 18)) (fun _ _ => rfl)) o_ix) (me_var (pv 17)) (nomark _)) o_eq))) (fun _ _ _ _ _ => (me_var (pv 18))))) ma_nil))))) ma_nil)) o_tup) pa_nil))))))
    (mss_one (ms_ret (ps_ret (me_tup (ma_cons (me_var (pv 7)) (ma_cons (me_opN (pe_callTy call_tuple_of rfl n_tuple bt_tuple (ma_cons (me_var2 (pv 4)) ma_nil)) o_tup) ma_nil)))))))))))
    mss_nil))
    (mss_cons (ms_setG (ms_setCG (i := 4) (own := [("p", 14)]) rfl sc_law_machine.nd rfl rfl (sw_true rfl rfl rfl (by decide +kernel)) (mi_range1 rfl n_range (ma_cons (me_var (pv 6)) ma_nil)) (blkOk_by rfl) (fun _ _ _ _ _ => (pg_name (i := 14) sc_law_machine.nd rfl (.inl rfl))) (tg_name (by decide)) (fun _ _ _ _ _ => mts_nil) (fun _ _ _ _ _ => (mf_op2 (pe_op op_cat (me_fz (mf_lst (ma_cons (me_op2 (pe_op op_modN (me_op2 (pe_op op_addU (me_var (pv 14)) me_int) o_add) (me_var (pv 6))) o_mod) ma_nil))) (me_op2 (pe_op op_mulU (me_fz (mf_lst (ma_cons (me_var (pv 14)) ma_nil))) (me_op2 (pe_op op_sub (me_var (pv 7)) me_int) o_sub)) o_mul)) of_cat))))
    (mss_cons (ms_forM (vs := [5]) (passes_of rfl) rfl (mi_range2 rfl n_range (ma_cons me_int (ma_cons (me_var (pv 7)) ma_nil))) (pg_name (i := 5) sc_law_machine.nd rfl (.inl rfl)) (tg_name (by decide))
    (mss_one (ms_forM (vs := [15]) (passes_of rfl) rfl (mi_range1 rfl n_range (ma_cons (me_op2 (pe_op op_addU me_int (me_callI c_law_take (hr.mono (by decide)) tk rfl (pv 0) (ma_cons me_int ma_nil))) o_add) ma_nil)) (pg_name (i := 15) sc_law_machine.nd rfl (.inl rfl)) (tg_name (by decide))
    (mss_one (ms_store2 (ps_asg (me_callI c_law_take (hr.mono (by decide)) tk rfl (pv 0) (ma_cons (me_var (pv 6)) ma_nil)) (pg_sub (pe_ix ix_seq (pv 4) (me_callI c_law_take (hr.mono (by decide)) tk rfl (pv 0) (ma_cons (me_var (pv 6)) ma_nil)) (fun _ _ => rfl)) (me_var (pv 5)) set_list)))))))
    (mss_one (ms_ret (ps_ret (me_tup (ma_cons (me_var (pv 7)) (ma_cons (me_opN (pe_callTy call_tuple_of rfl n_tuple bt_tuple (ma_cons (me_fz (mf_comp (own := [("own", 16)]) rfl sc_law_machine.nd (mi_seq (me_var2 (pv 4))) (blkOk_by rfl) (fun _ _ _ _ _ => (pg_name (i := 16) sc_law_machine.nd rfl (.inl rfl))) (tg_name (by decide)) (fun _ _ _ _ _ => mts_nil) (fun _ _ _ _ _ => (me_opN (pe_callTy call_tuple_of rfl n_tuple bt_tuple (ma_cons (me_var (pv 16)) ma_nil)) o_tup)))) ma_nil)) o_tup) ma_nil))))))))))))))))
def m_law_word : Lo → SR :=
  (sRet (eOpN tupD (aCons (eFz (fComp [3] (iRange1 (aCons (eCallI 2 0 f_law_take (aCons (eOp2 addD (eVar 2) (eC (.int 1))) aNil)) aNil)) (gN 3) tTrue (eCallI 2 0 f_law_take (aCons (eVar 1) aNil)))) aNil)))
def f_law_word := fnI 4 m_law_word
theorem sc_law_word : FnScope ["tin", "letters_so", "long_so", "turn"] ["tin", "letters_so", "long_so"] (defScope (topS 46)) := ⟨rfl, rfl, rfl, by decide +kernel, rfl, by decide +kernel, by decide +kernel⟩
theorem ok_law_word (A0 : AtTop K mg "_law_word" (topS 46)) (n_range : mg "range" = none) (n_tuple : mg "tuple" = none) (c_law_take : DefOk Pg w K mg base 1 "_law_take" ["tin", "below_so"] (spI K g 2 f_law_take)) : DefOk Pg w K mg base 2 "_law_word" ["tin", "letters_so", "long_so"] (spI K g 3 f_law_word) := by
  obtain ⟨f, fd, F, gF⟩ := A0.ex
  exact defI F gF (F.binds (ps := ["tin", "letters_so", "long_so"]) fun _ _ _ _ _ _ us hl => match us, hl with | [_, _, _], _ => rfl) sc_law_word (fun cdv A outer s H E hr tk =>
    (mss_one (ms_ret (ps_ret (me_opN (pe_callTy call_tuple_of rfl n_tuple bt_tuple (ma_cons (me_fz (mf_comp (own := [("turn", 3)]) rfl sc_law_word.nd (mi_range1 rfl n_range (ma_cons (me_callI c_law_take (hr.mono (by decide)) tk rfl (pv 0) (ma_cons (me_op2 (pe_op op_addU (me_var (pv 2)) me_int) o_add) ma_nil)) ma_nil)) (blkOk_by rfl) (fun _ _ _ _ _ => (pg_name (i := 3) sc_law_word.nd rfl (.inl rfl))) (tg_name (by decide)) (fun _ _ _ _ _ => mts_nil) (fun _ _ _ _ _ => (me_callI c_law_take (hr.mono (by decide)) takes0 rfl (pv 0) (ma_cons (me_var (pv 1)) ma_nil))))) ma_nil)) o_tup)))))
def m_law_go : Lo → SR :=
  (sSeq (sFor (iSeq (eVar 2)) (gN 3)
    (sSet 1 (eOp2 ixD (eOp2 ixD (eVar 0) (eVar 1)) (eVar 3))))
    (sRet (eVar 1)))
def f_law_go := fnP 4 m_law_go
theorem sc_law_go : FnScope ["rows_so", "p", "word", "a"] ["rows_so", "p", "word"] (defScope (topS 47)) := ⟨rfl, rfl, rfl, by decide +kernel, rfl, by decide +kernel, by decide +kernel⟩
theorem ok_law_go (A0 : AtTop K mg "_law_go" (topS 47))  : DefOk Pg w K mg base 1 "_law_go" ["rows_so", "p", "word"] (spP K g 3 f_law_go) := by
  obtain ⟨f, fd, F, gF⟩ := A0.ex
  exact defP F gF (F.binds (ps := ["rows_so", "p", "word"]) fun _ _ _ _ _ _ us hl => match us, hl with | [_, _, _], _ => rfl) sc_law_go (fun cdv A outer s H E hr tk =>
    (mss_cons (ms_forM (vs := [3]) (passes_of rfl) rfl (mi_seq (me_var (pv 2))) (pg_name (i := 3) sc_law_go.nd rfl (.inl rfl)) (tg_name (by decide))
    (mss_one (ms_set (ps_set (i := 1) sc_law_go.nd rfl (.inl rfl) (me_op2 (pe_ix ix_seq (me_op2 (pe_ix ix_seq (me_var (pv 0)) (me_var (pv 1)) (fun _ _ => rfl)) o_ix) (me_var (pv 3)) (fun _ _ => rfl)) o_ix)))))
    (mss_one (ms_ret (ps_ret (me_var (pv 1)))))))
def m_law_from : Lo → SR :=
  (sSeq (sPar [3, 4] (vCons (eFz (fLst (aCons (eVar 1) aNil))) (vConsF (fLst (aCons (eVar 1) aNil)) vNil)))
    (sSeq (sFor (iRange1 (aCons (eC (.int 200)) aNil)) (gN 2)
    (sSeq (sIf (tBl (eOp2 eqD (eVar 4) (eFz (fLst aNil))))
    .bk
    .nx)
    (sSeq (sSet 5 (eFz (fComp [6] (iSeq (eFz (fSortZ (zSet (aCons (eOp2 ixD (eVar 0) (ePop 4)) aNil))))) (gN 6) (tBl (eOp2 notInD (eVar 6) (eVar 3))) (eVar 6))))
    (sPar [3, 4] (vCons (eOp2 addD (eVar 3) (eVar 5)) (vConsF (fOp2 catF (eVar 4) (eVar 5)) vNil))))))
    (sRet (eFz (fOpN sortF (aCons (eVar 3) aNil))))))
def f_law_from := fnP 7 m_law_from
theorem sc_law_from : FnScope ["rows_so", "p", "turn", "found", "line_so", "fresh", "q"] ["rows_so", "p"] (defScope (topS 48)) := ⟨rfl, rfl, rfl, by decide +kernel, rfl, by decide +kernel, by decide +kernel⟩
theorem ok_law_from (A0 : AtTop K mg "_law_from" (topS 48)) (n_range : mg "range" = none) (n_sorted : mg "sorted" = none) (n_set : mg "set" = none) : DefOk Pg w K mg base 1 "_law_from" ["rows_so", "p"] (spP K g 2 f_law_from) := by
  obtain ⟨f, fd, F, gF⟩ := A0.ex
  exact defP F gF (F.binds (ps := ["rows_so", "p"]) fun _ _ _ _ _ _ us hl => match us, hl with | [_, _], _ => rfl) sc_law_from (fun cdv A outer s H E hr tk =>
    (mss_cons (ms_parT (ps_asg (pe_tup (mv_cons (me_fz (mf_lst (ma_cons (me_var (pv 1)) ma_nil))) (mv_consF (mf_lst (ma_cons (me_var (pv 1)) ma_nil)) mv_nil))) (pg_tup rfl (pgs_cons (pg_name (i := 3) sc_law_from.nd rfl (.inr rfl)) (pgs_cons (pg_name (i := 4) sc_law_from.nd rfl (.inl rfl)) pgs_nil)))) rfl (.cons (.cons .nil)))
    (mss_cons (ms_forM (vs := [2]) (passes_of rfl) rfl (mi_range1 rfl n_range (ma_cons me_int ma_nil)) (pg_name (i := 2) sc_law_from.nd rfl (.inl rfl)) (tg_name (by decide))
    (mss_cons (ms_if (ps_if (mt_op2 (pt_cmpR (op_eqD hr.units) (me_var (pv 4)) (me_fz (mf_lst ma_nil)) (nomark _)) o_eq)
    (mss_one (ms_brk ps_break))
    mss_nil))
    (mss_cons (ms_setFz (ms_setC (i := 5) (own := [("q", 6)]) rfl sc_law_from.nd rfl rfl (sw_true rfl rfl rfl (by decide +kernel)) (mi_seq (me_fz (mf_sortZ (pe_callB (cr_sortedSet rfl) rfl n_sorted bt_sorted (pa_cons (mz_set (pe_callTy (cr_setI rfl) rfl n_set bt_set (ma_cons (me_op2 (pe_ix ix_seq (me_var (pv 0)) (me_pop (pe_bm0 PySem.F.plainAttrs_list PySem.F.slot_list_pop PySem.F.type_list_pop mt_pop (pv 4))) (fun _ _ => rfl)) o_ix) ma_nil))) pa_nil))))) (blkOk_by rfl) (fun _ _ _ _ _ => (pg_name (i := 6) sc_law_from.nd rfl (.inl rfl))) (tg_name (by decide)) (fun _ _ _ _ _ => (mts_one (mt_op2 (pt_cmpR (op_notInU (hu65 hr)) (me_var (pv 6)) (me_var (pv 3)) (by rfl)) o_notIn))) (fun _ _ _ _ _ => (me_var (pv 6)))))
    (mss_one (ms_parT (ps_asg (pe_tup (mv_cons (me_op2 (pe_op op_addU (me_var (pv 3)) (me_var (pv 5))) o_add) (mv_consF (mf_op2 (pe_op op_cat (me_var (pv 4)) (me_var (pv 5))) of_cat) mv_nil))) (pg_tup rfl (pgs_cons (pg_name (i := 3) sc_law_from.nd rfl (.inr rfl)) (pgs_cons (pg_name (i := 4) sc_law_from.nd rfl (.inl rfl)) pgs_nil)))) rfl (.cons (.cons .nil)))))))
    (mss_one (ms_ret (ps_ret (me_fz (mf_opN (pe_callB cr_sortedI rfl n_sorted bt_sorted (ma_cons (me_var (pv 3)) ma_nil)) of_sort))))))))
def m_law_hangs : Lo → SR :=
  (sRet (eOp2 eqD (eFz (fComp [1] (iRange1 (aCons (eOpN lenD (aCons (eVar 0) aNil)) aNil)) (gN 1) (tBl (eOp2 ltD (eOpN lenD (aCons (eCall 2 f_law_from (aCons (eVar 0) (aCons (eVar 1) aNil))) aNil)) (eOpN lenD (aCons (eVar 0) aNil)))) (eVar 1))) (eFz (fLst aNil))))
def f_law_hangs := fnP 2 m_law_hangs
theorem sc_law_hangs : FnScope ["rows_so", "p"] ["rows_so"] (defScope (topS 49)) := ⟨rfl, rfl, rfl, by decide +kernel, rfl, by decide +kernel, by decide +kernel⟩
theorem ok_law_hangs (A0 : AtTop K mg "_law_hangs" (topS 49)) (n_len : mg "len" = none) (n_range : mg "range" = none) (c_law_from : DefOk Pg w K mg base 1 "_law_from" ["rows_so", "p"] (spP K g 2 f_law_from)) : DefOk Pg w K mg base 2 "_law_hangs" ["rows_so"] (spP K g 1 f_law_hangs) := by
  obtain ⟨f, fd, F, gF⟩ := A0.ex
  exact defP F gF (F.binds (ps := ["rows_so"]) fun _ _ _ _ _ _ us hl => match us, hl with | [_], _ => rfl) sc_law_hangs (fun cdv A outer s H E hr tk =>
    (mss_one (ms_ret (ps_ret (me_op2 (pe_cmpR (op_eqD hr.units) (me_fz (mf_comp (own := [("p", 1)]) rfl sc_law_hangs.nd (mi_range1 rfl n_range (ma_cons (me_opN (pe_callB call_len rfl n_len bt_len (ma_cons (me_var (pv 0)) ma_nil)) o_len) ma_nil)) (blkOk_by rfl) (fun _ _ _ _ _ => (pg_name (i := 1) sc_law_hangs.nd rfl (.inl rfl))) (tg_name (by decide)) (fun _ _ _ _ _ => (mts_one (mt_op2 (pt_cmpR (op_ltU hr) (me_opN (pe_callB call_len rfl n_len bt_len (ma_cons (me_call c_law_from (hr.mono (by decide)) takes0 rfl (ma_cons (me_var (pv 0)) (ma_cons (me_var (pv 1)) ma_nil))) ma_nil)) o_len) (me_opN (pe_callB call_len rfl n_len bt_len (ma_cons (me_var (pv 0)) ma_nil)) o_len) (nomark _)) o_lt))) (fun _ _ _ _ _ => (me_var (pv 1))))) (me_fz (mf_lst ma_nil)) (nomark _)) o_eq)))))
def m_law_right : Lo → SR :=
  (sSeq (sSet 1 (eCallI 3 0 f_law_machine (aCons (eC (.int 10)) (aCons (eC (.int 4)) aNil))))
    (sSeq (sAsgT (gTp (gsCons (gN 8) (gsCons (gN 9) gsNil))) (eVar 1))
    (sSeq (sSet 2 (eOpN lenD (aCons (eVar 9) aNil)))
    (sSeq (sPar [10, 11] (vCons (eCallI 3 0 f_law_word (aCons (eVar 8) (aCons (eC (.int 9)) aNil))) (vCons (eCallI 3 0 f_law_word (aCons (eVar 8) (aCons (eC (.int 9)) aNil))) vNil)))
    (sSeq (sPar [12, 13] (vCons (eCallI 2 0 f_law_take (aCons (eVar 2) aNil)) (vCons (eCallI 2 0 f_law_take (aCons (eVar 8) aNil)) vNil)))
    (sSeq (sSet 3 (eOpN tupD (aCons (eFz (fOpN sortF (aCons (eCallI 3 0 f_law_pick (aCons (eFz (fRg (rg1 (eVar 2)))) (aCons (eOp2 addD (eC (.int 1)) (eCallI 2 0 f_law_take (aCons (eVar 2) aNil))) aNil))) aNil))) aNil)))
    (sSeq (sSet 4 (eFz (fLst (aCons (eCall 1 f_is_machine (aCons (eVar 1) aNil)) (aCons (eCall 2 f_is_word (aCons (eVar 1) (aCons (eVar 10) aNil))) (aCons (eCall 3 f_step (aCons (eVar 1) (aCons (eVar 12) (aCons (eVar 13) aNil)))) (aCons (eCall 3 f_led (aCons (eVar 1) (aCons (eVar 12) (aCons (eVar 10) aNil)))) (aCons (eCall 3 f_led (aCons (eVar 1) (aCons (eCall 3 f_led (aCons (eVar 1) (aCons (eVar 12) (aCons (eVar 10) aNil)))) (aCons (eVar 11) aNil)))) (aCons (eCall 3 f_led (aCons (eVar 1) (aCons (eVar 12) (aCons (eOp2 addD (eVar 10) (eVar 11)) aNil)))) aNil)))))))))
    (sSeq (sSet 5 (eFz (fLst (aCons (eCall 3 f_law_go (aCons (eVar 9) (aCons (eVar 12) (aCons (eVar 10) aNil)))) (aCons (eCall 3 f_law_go (aCons (eVar 9) (aCons (eVar 12) (aCons (eOp2 addD (eVar 10) (eVar 11)) aNil)))) aNil)))))
    (sSeq (sIf (tNt (tBl (eCall 2 f_law_same (aCons (eVar 4) (aCons (eFz (fLst (aCons (eC (.bl true)) (aCons (eC (.bl true)) (aCons (eOp2 ixD (eOp2 ixD (eVar 9) (eVar 12)) (eVar 13)) (aCons (eOp2 ixD (eVar 5) (eC (.int 0))) (aCons (eOp2 ixD (eVar 5) (eC (.int 1))) (aCons (eOp2 ixD (eVar 5) (eC (.int 1))) aNil)))))))) aNil)))))
    (sRet (eC (.bl false)))
    .nx)
    (sSeq (sSet 4 (eFz (fLst (aCons (eCall 3 f_lot_led (aCons (eCallI 2 0 f_law_mixed (aCons (eVar 1) aNil)) (aCons (eFz (fOpN lstF (aCons (eVar 3) aNil))) (aCons (eVar 10) aNil)))) (aCons (eCall 2 f_map_of (aCons (eVar 1) (aCons (eFz (fOpN lstF (aCons (eVar 11) aNil))) aNil))) (aCons (eCall 2 f_places_from (aCons (eVar 1) (aCons (eVar 12) aNil))) (aCons (eCall 1 f_hangs_together (aCons (eVar 1) aNil)) aNil)))))))
    (sSeq (sIf (tNt (tBl (eCall 2 f_law_same (aCons (eVar 4) (aCons (eFz (fLst (aCons (eOpN tupD (aCons (eFz (fSortZ (zSet (aCons (eFz (fComp [15] (iSeq (eVar 3)) (gN 15) tTrue (eCall 3 f_law_go (aCons (eVar 9) (aCons (eVar 15) (aCons (eVar 10) aNil)))))) aNil)))) aNil)) (aCons (eOpN tupD (aCons (eFz (fComp [15] (iRange1 (aCons (eVar 2) aNil)) (gN 15) tTrue (eCall 3 f_law_go (aCons (eVar 9) (aCons (eVar 15) (aCons (eVar 11) aNil)))))) aNil)) (aCons (eOpN tupD (aCons (eCall 2 f_law_from (aCons (eVar 9) (aCons (eVar 12) aNil))) aNil)) (aCons (eCall 1 f_law_hangs (aCons (eVar 9) aNil)) aNil)))))) aNil)))))
    (sRet (eC (.bl false)))
    .nx)
    (sSeq (sSet 6 (eFz (fLst (aCons (eC .non) (aCons (eC (.int 5)) (aCons (eTup aNil) (aCons (eTup (aCons (eVar 8) aNil)) (aCons (eTup (aCons (eVar 8) (aCons (eTup aNil) aNil))) (aCons (eTup (aCons (eVar 8) (aCons (eFz (fOpN lstF (aCons (eVar 9) aNil))) aNil))) (aCons (eFz (fLst (aCons (eVar 8) (aCons (eVar 9) aNil)))) (aCons (eTup (aCons (eC (.int 0)) (aCons (eVar 9) aNil))) (aCons (eTup (aCons (eC (.int 5)) (aCons (eOpN tupD (aCons (eFz (fComp [14] (iSeq (eVar 9)) (gN 14) tTrue (eOp2 addD (eVar 14) (eOp2 mulD (eTup (aCons (eC (.int 0)) aNil)) (eOp2 subD (eC (.int 5)) (eVar 8)))))) aNil)) aNil))) (aCons (eTup (aCons (eOp2 addD (eVar 8) (eC (.int 1))) (aCons (eVar 9) aNil))) (aCons (eIf (tBl (eOp2 (cmpD fun i j => decide (j < i)) (eVar 8) (eC (.int 1)))) (eTup (aCons (eC (.bl true)) (aCons (eVar 9) aNil))) (eTup (aCons (eC (.str (Str.ofString "1"))) (aCons (eVar 9) aNil)))) (aCons (eTup (aCons (eVar 8) (aCons (eOp2 addD (eSl slD (eVar 9) oNo (oSo (eOp1 negD (eC (.int 1))))) (eTup (aCons (eOp2 mulD (eTup (aCons (eVar 2) aNil)) (eVar 8)) aNil))) aNil))) (aCons (eTup (aCons (eVar 8) (aCons (eOp2 addD (eSl slD (eVar 9) oNo (oSo (eOp1 negD (eC (.int 1))))) (eTup (aCons (eOp2 mulD (eTup (aCons (eOp1 negD (eC (.int 1))) aNil)) (eVar 8)) aNil))) aNil))) (aCons (eIf (tBl (eOp2 (cmpD fun i j => decide (j < i)) (eVar 8) (eC (.int 0)))) (eTup (aCons (eVar 8) (aCons (eOp2 addD (eSl slD (eVar 9) oNo (oSo (eOp1 negD (eC (.int 1))))) (eTup (aCons (eOp2 mulD (eTup (aCons (eC (.bl true)) aNil)) (eVar 8)) aNil))) aNil))) (eC .non)) (aCons (eTup (aCons (eVar 8) (aCons (eOp2 addD (eVar 9) (eOp2 mulD (eTup (aCons (eOp2 mulD (eTup (aCons (eC (.int 0)) aNil)) (eVar 8)) aNil)) (eOp2 subD (eC (.int 11)) (eVar 2)))) aNil))) (aCons (eTup (aCons (eVar 8) (aCons (eVar 9) (aCons (eC (.int 1)) aNil)))) (aCons (eTup (aCons (eVar 8) (aCons (eOp2 addD (eSl slD (eVar 9) oNo (oSo (eOp1 negD (eC (.int 1))))) (eTup (aCons (eOp2 addD (eOp2 ixD (eVar 9) (eOp1 negD (eC (.int 1)))) (eTup (aCons (eC (.int 0)) aNil))) aNil))) aNil))) (aCons (eTup (aCons (eVar 8) (aCons (eOpN tupD (aCons (eFz (fComp [14] (iSeq (eVar 9)) (gN 14) tTrue (eFz (fOpN lstF (aCons (eVar 14) aNil))))) aNil)) aNil))) aNil)))))))))))))))))))))
    (sSeq (sIf (tNt (tBl (eCall 2 f_law_same (aCons (eFz (fComp [14] (iSeq (eVar 6)) (gN 14) tTrue (eCall 1 f_is_machine (aCons (eVar 14) aNil)))) (aCons (eOp2 mulD (eFz (fLst (aCons (eC (.bl false)) aNil))) (eOpN lenD (aCons (eVar 6) aNil))) aNil)))))
    (sRet (eC (.bl false)))
    .nx)
    (sSeq (sSet 7 (eFz (fLst (aCons (eC .non) (aCons (eC (.int 5)) (aCons (eTup (aCons (eVar 8) aNil)) (aCons (eTup (aCons (eOp1 negD (eC (.int 1))) aNil)) (aCons (eFz (fLst (aCons (eC (.int 0)) aNil))) (aCons (eTup (aCons (eC (.str (Str.ofString "0"))) aNil)) (aCons (eTup (aCons (eC (.bl true)) aNil)) (aCons (eOp2 mulD (eTup (aCons (eC (.int 0)) aNil)) (eC (.int 401))) (aCons (eTup (aCons (eTup (aCons (eC (.int 0)) aNil)) aNil)) aNil))))))))))))
    (sRet (eCall 2 f_law_same (aCons (eOp2 addD (eFz (fComp [14] (iSeq (eVar 7)) (gN 14) tTrue (eCall 2 f_is_word (aCons (eVar 1) (aCons (eVar 14) aNil))))) (eFz (fLst (aCons (eCall 2 f_is_word (aCons (eVar 1) (aCons (eOp2 mulD (eTup (aCons (eC (.int 0)) aNil)) (eC (.int 400))) aNil))) (aCons (eCall 2 f_is_word (aCons (eVar 1) (aCons (eTup aNil) aNil))) aNil))))) (aCons (eOp2 addD (eOp2 mulD (eFz (fLst (aCons (eC (.bl false)) aNil))) (eOpN lenD (aCons (eVar 7) aNil))) (eFz (fLst (aCons (eC (.bl true)) (aCons (eC (.bl true)) aNil))))) aNil))))))))))))))))))
def f_law_right := fnI 16 m_law_right
theorem sc_law_right : FnScope ["tin", "machine_so", "n", "lot_so", "got", "ends_so", "bads_so", "words_so", "k", "rows_so", "one_so", "two", "p", "a", "own", "q"] ["tin"] (defScope (topS 50)) := ⟨rfl, rfl, rfl, by decide +kernel, rfl, by decide +kernel, by decide +kernel⟩
theorem ok_law_right (A0 : AtTop K mg "_law_right" (topS 50)) (n_len : mg "len" = none) (n_range : mg "range" = none) (n_list : mg "list" = none) (n_sorted : mg "sorted" = none) (n_tuple : mg "tuple" = none) (n_set : mg "set" = none) (c_law_from : DefOk Pg w K mg base 1 "_law_from" ["rows_so", "p"] (spP K g 2 f_law_from)) (c_law_go : DefOk Pg w K mg base 1 "_law_go" ["rows_so", "p", "word"] (spP K g 3 f_law_go)) (c_law_hangs : DefOk Pg w K mg base 2 "_law_hangs" ["rows_so"] (spP K g 1 f_law_hangs)) (c_law_machine : DefOk Pg w K mg base 3 "_law_machine" ["tin", "many_so", "letters_so"] (spI K g 3 f_law_machine)) (c_law_mixed : DefOk Pg w K mg base 14 "_law_mixed" ["tin", "matter"] (spI K g 2 f_law_mixed)) (c_law_pick : DefOk Pg w K mg base 2 "_law_pick" ["tin", "goods_so", "count_so"] (spI K g 3 f_law_pick)) (c_law_same : DefOk Pg w K mg base 13 "_law_same" ["got", "due"] (spP K g 2 f_law_same)) (c_law_take : DefOk Pg w K mg base 1 "_law_take" ["tin", "below_so"] (spI K g 2 f_law_take)) (c_law_word : DefOk Pg w K mg base 2 "_law_word" ["tin", "letters_so", "long_so"] (spI K g 3 f_law_word)) (c_hangs_together : DefOk Pg w K mg base 15 "hangs_together" ["machine"] (spP K g 1 f_hangs_together)) (c_is_machine : DefOk Pg w K mg base 5 "is_machine" ["thing"] (spP K g 1 f_is_machine)) (c_is_word : DefOk Pg w K mg base 15 "is_word" ["machine", "thing"] (spP K g 2 f_is_word)) (c_led : DefOk Pg w K mg base 15 "led" ["machine", "place", "word"] (spP K g 3 f_led)) (c_lot_led : DefOk Pg w K mg base 15 "lot_led" ["machine", "lot", "word"] (spP K g 3 f_lot_led)) (c_map_of : DefOk Pg w K mg base 15 "map_of" ["machine", "word"] (spP K g 2 f_map_of)) (c_places_from : DefOk Pg w K mg base 15 "places_from" ["machine", "place"] (spP K g 2 f_places_from)) (c_step : DefOk Pg w K mg base 15 "step" ["machine", "place", "letter"] (spP K g 3 f_step)) : DefOk Pg w K mg base 16 "_law_right" ["tin"] (spI K g 1 f_law_right) := by
  obtain ⟨f, fd, F, gF⟩ := A0.ex
  exact defI F gF (F.binds (ps := ["tin"]) fun _ _ _ _ _ _ us hl => match us, hl with | [_], _ => rfl) sc_law_right (fun cdv A outer s H E hr tk =>
    (mss_cons (ms_set (ps_set (i := 1) sc_law_right.nd rfl (.inr rfl) (me_callI c_law_machine (hr.mono (by decide)) tk rfl (pv 0) (ma_cons me_int (ma_cons me_int ma_nil)))))
    (mss_cons (ms_asgT (vs := [8, 9]) (ps_asg (me_var (pv 1)) (pg_tup rfl (pgs_cons (pg_name (i := 8) sc_law_right.nd rfl (.inr rfl)) (pgs_cons (pg_name (i := 9) sc_law_right.nd rfl (.inr rfl)) pgs_nil)))) (tg_tup (tgs_cons (tg_name (by decide)) (tgs_cons (tg_name (by decide)) tgs_nil)) len2))
    (mss_cons (ms_set (ps_set (i := 2) sc_law_right.nd rfl (.inl rfl) (me_opN (pe_callB call_len rfl n_len bt_len (ma_cons (me_var (pv 9)) ma_nil)) o_len)))
    (mss_cons (ms_parT (ps_asg (pe_tup (mv_cons (me_callI c_law_word (hr.mono (by decide)) tk rfl (pv 0) (ma_cons (me_var (pv 8)) (ma_cons me_int ma_nil))) (mv_cons (me_callI c_law_word (hr.mono (by decide)) tk rfl (pv 0) (ma_cons (me_var (pv 8)) (ma_cons me_int ma_nil))) mv_nil))) (pg_tup rfl (pgs_cons (pg_name (i := 10) sc_law_right.nd rfl (.inr rfl)) (pgs_cons (pg_name (i := 11) sc_law_right.nd rfl (.inr rfl)) pgs_nil)))) rfl (.cons (.cons .nil)))
    (mss_cons (ms_par2 (ps_par (i := 12) (j := 13) rfl sc_law_right.nd rfl rfl (by decide) rfl rfl (mv_cons (me_callI c_law_take (hr.mono (by decide)) tk rfl (pv 0) (ma_cons (me_var (pv 2)) ma_nil)) (mv_cons (me_callI c_law_take (hr.mono (by decide)) tk rfl (pv 0) (ma_cons (me_var (pv 8)) ma_nil)) mv_nil)) (by rfl)))
    (mss_cons (ms_set (ps_set (i := 3) sc_law_right.nd rfl (.inl rfl) (me_opN (pe_callTy call_tuple_of rfl n_tuple bt_tuple (ma_cons (me_fz (mf_opN (pe_callB cr_sortedI rfl n_sorted bt_sorted (ma_cons (me_callI c_law_pick (hr.mono (by decide)) tk rfl (pv 0) (ma_cons (me_fz (mf_listRg (pe_listRg rfl rfl n_list (mrg_1 rfl n_range (me_var (pv 2)))))) (ma_cons (me_op2 (pe_op op_addU me_int (me_callI c_law_take (hr.mono (by decide)) tk rfl (pv 0) (ma_cons (me_var (pv 2)) ma_nil))) o_add) ma_nil))) ma_nil)) of_sort)) ma_nil)) o_tup)))
    (mss_cons (ms_set (ps_set (i := 4) sc_law_right.nd rfl (.inl rfl) (me_fz (mf_lst (ma_cons (me_call c_is_machine (hr.mono (by decide)) tk rfl (ma_cons (me_var (pv 1)) ma_nil)) (ma_cons (me_call c_is_word (hr.mono (by decide)) tk rfl (ma_cons (me_var (pv 1)) (ma_cons (me_var (pv 10)) ma_nil))) (ma_cons (me_call c_step (hr.mono (by decide)) tk rfl (ma_cons (me_var (pv 1)) (ma_cons (me_var (pv 12)) (ma_cons (me_var (pv 13)) ma_nil)))) (ma_cons (me_call c_led (hr.mono (by decide)) tk rfl (ma_cons (me_var (pv 1)) (ma_cons (me_var (pv 12)) (ma_cons (me_var (pv 10)) ma_nil)))) (ma_cons (me_call c_led (hr.mono (by decide)) tk rfl (ma_cons (me_var (pv 1)) (ma_cons (me_call c_led (hr.mono (by decide)) tk rfl (ma_cons (me_var (pv 1)) (ma_cons (me_var (pv 12)) (ma_cons (me_var (pv 10)) ma_nil)))) (ma_cons (me_var (pv 11)) ma_nil)))) (ma_cons (me_call c_led (hr.mono (by decide)) tk rfl (ma_cons (me_var (pv 1)) (ma_cons (me_var (pv 12)) (ma_cons (me_op2 (pe_op op_addU (me_var (pv 10)) (me_var (pv 11))) o_add) ma_nil)))) ma_nil))))))))))
    (mss_cons (ms_set (ps_set (i := 5) sc_law_right.nd rfl (.inl rfl) (me_fz (mf_lst (ma_cons (me_call c_law_go (hr.mono (by decide)) tk rfl (ma_cons (me_var (pv 9)) (ma_cons (me_var (pv 12)) (ma_cons (me_var (pv 10)) ma_nil)))) (ma_cons (me_call c_law_go (hr.mono (by decide)) tk rfl (ma_cons (me_var (pv 9)) (ma_cons (me_var (pv 12)) (ma_cons (me_op2 (pe_op op_addU (me_var (pv 10)) (me_var (pv 11))) o_add) ma_nil)))) ma_nil))))))
    (mss_cons (ms_if (ps_if (mt_not (mt_valB (pt_val (me_call c_law_same (hr.mono (by decide)) tk rfl (ma_cons (me_var (pv 4)) (ma_cons (me_fz (mf_lst (ma_cons me_bl (ma_cons me_bl (ma_cons (me_op2 (pe_ix ix_seq (me_op2 (pe_ix ix_seq (me_var (pv 9)) (me_var (pv 12)) (fun _ _ => rfl)) o_ix) (me_var (pv 13)) (fun _ _ => rfl)) o_ix) (ma_cons (me_op2 (pe_ix ix_seq (me_var (pv 5)) me_int (fun _ _ => rfl)) o_ix) (ma_cons (me_op2 (pe_ix ix_seq (me_var (pv 5)) me_int (fun _ _ => rfl)) o_ix) (ma_cons (me_op2 (pe_ix ix_seq (me_var (pv 5)) me_int (fun _ _ => rfl)) o_ix) ma_nil)))))))) ma_nil))))))
    (mss_one (ms_ret (ps_ret me_bl)))
    mss_nil))
    (mss_cons (ms_set (ps_set (i := 4) sc_law_right.nd rfl (.inl rfl) (me_fz (mf_lst (ma_cons (me_call c_lot_led (hr.mono (by decide)) tk rfl (ma_cons (me_callI c_law_mixed (hr.mono (by decide)) tk rfl (pv 0) (ma_cons (me_var (pv 1)) ma_nil)) (ma_cons (me_fz (mf_opN (pe_callTy call_list_of rfl n_list bt_list (ma_cons (me_var (pv 3)) ma_nil)) of_lst)) (ma_cons (me_var (pv 10)) ma_nil)))) (ma_cons (me_call c_map_of (hr.mono (by decide)) tk rfl (ma_cons (me_var (pv 1)) (ma_cons (me_fz (mf_opN (pe_callTy call_list_of rfl n_list bt_list (ma_cons (me_var (pv 11)) ma_nil)) of_lst)) ma_nil))) (ma_cons (me_call c_places_from (hr.mono (by decide)) tk rfl (ma_cons (me_var (pv 1)) (ma_cons (me_var (pv 12)) ma_nil))) (ma_cons (me_call c_hangs_together (hr.mono (by decide)) tk rfl (ma_cons (me_var (pv 1)) ma_nil)) ma_nil))))))))
    (mss_cons (ms_if (ps_if (mt_not (mt_valB (pt_val (me_call c_law_same (hr.mono (by decide)) tk rfl (ma_cons (me_var (pv 4)) (ma_cons (me_fz (mf_lst (ma_cons (me_opN (pe_callTy call_tuple_of rfl n_tuple bt_tuple (ma_cons (me_fz (mf_sortZ (pe_callB (cr_sortedSet rfl) rfl n_sorted bt_sorted (pa_cons (mz_set (pe_callTy (cr_setI rfl) rfl n_set bt_set (ma_cons (me_fz (mf_comp (own := [("q", 15)]) rfl sc_law_right.nd (mi_seq (me_var (pv 3))) (blkOk_by rfl) (fun _ _ _ _ _ => (pg_name (i := 15) sc_law_right.nd rfl (.inl rfl))) (tg_name (by decide)) (fun _ _ _ _ _ => mts_nil) (fun _ _ _ _ _ => (me_call c_law_go (hr.mono (by decide)) takes0 rfl (ma_cons (me_var (pv 9)) (ma_cons (me_var (pv 15)) (ma_cons (me_var (pv 10)) ma_nil))))))) ma_nil))) pa_nil)))) ma_nil)) o_tup) (ma_cons (me_opN (pe_callTy call_tuple_of rfl n_tuple bt_tuple (ma_cons (me_fz (mf_comp (own := [("q", 15)]) rfl sc_law_right.nd (mi_range1 rfl n_range (ma_cons (me_var (pv 2)) ma_nil)) (blkOk_by rfl) (fun _ _ _ _ _ => (pg_name (i := 15) sc_law_right.nd rfl (.inl rfl))) (tg_name (by decide)) (fun _ _ _ _ _ => mts_nil) (fun _ _ _ _ _ => (me_call c_law_go (hr.mono (by decide)) takes0 rfl (ma_cons (me_var (pv 9)) (ma_cons (me_var (pv 15)) (ma_cons (me_var (pv 11)) ma_nil))))))) ma_nil)) o_tup) (ma_cons (me_opN (pe_callTy call_tuple_of rfl n_tuple bt_tuple (ma_cons (me_call c_law_from (hr.mono (by decide)) tk rfl (ma_cons (me_var (pv 9)) (ma_cons (me_var (pv 12)) ma_nil))) ma_nil)) o_tup) (ma_cons (me_call c_law_hangs (hr.mono (by decide)) tk rfl (ma_cons (me_var (pv 9)) ma_nil)) ma_nil)))))) ma_nil))))))
    (mss_one (ms_ret (ps_ret me_bl)))
    mss_nil))
    (mss_cons (ms_set (ps_set (i := 6) sc_law_right.nd rfl (.inl rfl) (me_fz (mf_lst (ma_cons me_non (ma_cons me_int (ma_cons (me_tup ma_nil) (ma_cons (me_tup (ma_cons (me_var (pv 8)) ma_nil)) (ma_cons (me_tup (ma_cons (me_var (pv 8)) (ma_cons (me_tup ma_nil) ma_nil))) (ma_cons (me_tup (ma_cons (me_var (pv 8)) (ma_cons (me_fz (mf_opN (pe_callTy call_list_of rfl n_list bt_list (ma_cons (me_var (pv 9)) ma_nil)) of_lst)) ma_nil))) (ma_cons (me_fz (mf_lst (ma_cons (me_var (pv 8)) (ma_cons (me_var (pv 9)) ma_nil)))) (ma_cons (me_tup (ma_cons me_int (ma_cons (me_var (pv 9)) ma_nil))) (ma_cons (me_tup (ma_cons me_int (ma_cons (me_opN (pe_callTy call_tuple_of rfl n_tuple bt_tuple (ma_cons (me_fz (mf_comp (own := [("own", 14)]) rfl sc_law_right.nd (mi_seq (me_var (pv 9))) (blkOk_by rfl) (fun _ _ _ _ _ => (pg_name (i := 14) sc_law_right.nd rfl (.inl rfl))) (tg_name (by decide)) (fun _ _ _ _ _ => mts_nil) (fun _ _ _ _ _ => (me_op2 (pe_op op_addU (me_var (pv 14)) (me_op2 (pe_op op_mulU (me_tup (ma_cons me_int ma_nil)) (me_op2 (pe_op op_sub me_int (me_var (pv 8))) o_sub)) o_mul)) o_add)))) ma_nil)) o_tup) ma_nil))) (ma_cons (me_tup (ma_cons (me_op2 (pe_op op_addU (me_var (pv 8)) me_int) o_add) (ma_cons (me_var (pv 9)) ma_nil))) (ma_cons (me_if (mt_op2 (pt_cmpR op_gt (me_var (pv 8)) me_int (nomark _)) (o_cmp _)) (me_tup (ma_cons me_bl (ma_cons (me_var (pv 9)) ma_nil))) (me_tup (ma_cons me_str (ma_cons (me_var (pv 9)) ma_nil)))) (ma_cons (me_tup (ma_cons (me_var (pv 8)) (ma_cons (me_op2 (pe_op op_addU (me_sl (pe_slice sl_U (me_var (pv 9)) mo_no (mo_so (me_op1 (pe_un un_neg me_int) o_neg))) os_U) (me_tup (ma_cons (me_op2 (pe_op op_mulU (me_tup (ma_cons (me_var (pv 2)) ma_nil)) (me_var (pv 8))) o_mul) ma_nil))) o_add) ma_nil))) (ma_cons (me_tup (ma_cons (me_var (pv 8)) (ma_cons (me_op2 (pe_op op_addU (me_sl (pe_slice sl_U (me_var (pv 9)) mo_no (mo_so (me_op1 (pe_un un_neg me_int) o_neg))) os_U) (me_tup (ma_cons (me_op2 (pe_op op_mulU (me_tup (ma_cons (me_op1 (pe_un un_neg me_int) o_neg) ma_nil)) (me_var (pv 8))) o_mul) ma_nil))) o_add) ma_nil))) (ma_cons (me_if (mt_op2 (pt_cmpR op_gt (me_var (pv 8)) me_int (nomark _)) (o_cmp _)) (me_tup (ma_cons (me_var (pv 8)) (ma_cons (me_op2 (pe_op op_addU (me_sl (pe_slice sl_U (me_var (pv 9)) mo_no (mo_so (me_op1 (pe_un un_neg me_int) o_neg))) os_U) (me_tup (ma_cons (me_op2 (pe_op op_mulU (me_tup (ma_cons me_bl ma_nil)) (me_var (pv 8))) o_mul) ma_nil))) o_add) ma_nil))) me_non) (ma_cons (me_tup (ma_cons (me_var (pv 8)) (ma_cons (me_op2 (pe_op op_addU (me_var (pv 9)) (me_op2 (pe_op op_mulU (me_tup (ma_cons (me_op2 (pe_op op_mulU (me_tup (ma_cons me_int ma_nil)) (me_var (pv 8))) o_mul) ma_nil)) (me_op2 (pe_op op_sub me_int (me_var (pv 2))) o_sub)) o_mul)) o_add) ma_nil))) (ma_cons (me_tup (ma_cons (me_var (pv 8)) (ma_cons (me_var (pv 9)) (ma_cons me_int ma_nil)))) (ma_cons (me_tup (ma_cons (me_var (pv 8)) (ma_cons (me_op2 (pe_op op_addU (me_sl (pe_slice sl_U (me_var (pv 9)) mo_no (mo_so (me_op1 (pe_un un_neg me_int) o_neg))) os_U) (me_tup (ma_cons (me_op2 (pe_op op_addU (me_op2 (pe_ix ix_seq (me_var (pv 9)) (me_op1 (pe_un un_neg me_int) o_neg) (fun _ _ => rfl)) o_ix) (me_tup (ma_cons me_int ma_nil))) o_add) ma_nil))) o_add) ma_nil))) (ma_cons (me_tup (ma_cons (me_var (pv 8)) (ma_cons (me_opN (pe_callTy call_tuple_of rfl n_tuple bt_tuple (ma_cons (me_fz (mf_comp (own := [("own", 14)]) rfl sc_law_right.nd (mi_seq (me_var (pv 9))) (blkOk_by rfl) (fun _ _ _ _ _ => (pg_name (i := 14) sc_law_right.nd rfl (.inl rfl))) (tg_name (by decide)) (fun _ _ _ _ _ => mts_nil) (fun _ _ _ _ _ => (me_fz (mf_opN (pe_callTy call_list_of rfl n_list bt_list (ma_cons (me_var (pv 14)) ma_nil)) of_lst))))) ma_nil)) o_tup) ma_nil))) ma_nil))))))))))))))))))))))
    (mss_cons (ms_if (ps_if (mt_not (mt_valB (pt_val (me_call c_law_same (hr.mono (by decide)) tk rfl (ma_cons (me_fz (mf_comp (own := [("own", 14)]) rfl sc_law_right.nd (mi_seq (me_var (pv 6))) (blkOk_by rfl) (fun _ _ _ _ _ => (pg_name (i := 14) sc_law_right.nd rfl (.inl rfl))) (tg_name (by decide)) (fun _ _ _ _ _ => mts_nil) (fun _ _ _ _ _ => (me_call c_is_machine (hr.mono (by decide)) takes0 rfl (ma_cons (me_var (pv 14)) ma_nil))))) (ma_cons (me_op2 (pe_op op_mulU (me_fz (mf_lst (ma_cons me_bl ma_nil))) (me_opN (pe_callB call_len rfl n_len bt_len (ma_cons (me_var (pv 6)) ma_nil)) o_len)) o_mul) ma_nil))))))
    (mss_one (ms_ret (ps_ret me_bl)))
    mss_nil))
    (mss_cons (ms_set (ps_set (i := 7) sc_law_right.nd rfl (.inl rfl) (me_fz (mf_lst (ma_cons me_non (ma_cons me_int (ma_cons (me_tup (ma_cons (me_var (pv 8)) ma_nil)) (ma_cons (me_tup (ma_cons (me_op1 (pe_un un_neg me_int) o_neg) ma_nil)) (ma_cons (me_fz (mf_lst (ma_cons me_int ma_nil))) (ma_cons (me_tup (ma_cons me_str ma_nil)) (ma_cons (me_tup (ma_cons me_bl ma_nil)) (ma_cons (me_op2 (pe_op op_mulU (me_tup (ma_cons me_int ma_nil)) me_int) o_mul) (ma_cons (me_tup (ma_cons (me_tup (ma_cons me_int ma_nil)) ma_nil)) ma_nil)))))))))))))
    (mss_one (ms_ret (ps_ret (me_call c_law_same (hr.mono (by decide)) tk rfl (ma_cons (me_op2 (pe_op op_addU (me_fz (mf_comp (own := [("own", 14)]) rfl sc_law_right.nd (mi_seq (me_var (pv 7))) (blkOk_by rfl) (fun _ _ _ _ _ => (pg_name (i := 14) sc_law_right.nd rfl (.inl rfl))) (tg_name (by decide)) (fun _ _ _ _ _ => mts_nil) (fun _ _ _ _ _ => (me_call c_is_word (hr.mono (by decide)) takes0 rfl (ma_cons (me_var (pv 1)) (ma_cons (me_var (pv 14)) ma_nil)))))) (me_fz (mf_lst (ma_cons (me_call c_is_word (hr.mono (by decide)) tk rfl (ma_cons (me_var (pv 1)) (ma_cons (me_op2 (pe_op op_mulU (me_tup (ma_cons me_int ma_nil)) me_int) o_mul) ma_nil))) (ma_cons (me_call c_is_word (hr.mono (by decide)) tk rfl (ma_cons (me_var (pv 1)) (ma_cons (me_tup ma_nil) ma_nil))) ma_nil))))) o_add) (ma_cons (me_op2 (pe_op op_addU (me_op2 (pe_op op_mulU (me_fz (mf_lst (ma_cons me_bl ma_nil))) (me_opN (pe_callB call_len rfl n_len bt_len (ma_cons (me_var (pv 7)) ma_nil)) o_len)) o_mul) (me_fz (mf_lst (ma_cons me_bl (ma_cons me_bl ma_nil))))) o_add) ma_nil)))))))))))))))))))))
def m_law : Lo → SR :=
  (sSeq (sSet 1 (eCall 2 f_law_cells (aCons (eVar 0) (aCons (eC (.int 2)) aNil))))
    (sSeq (sFor (iRange1 (aCons (eOpN lenD (aCons (eVar 1) aNil)) aNil)) (gN 2)
    (sSeq (sSetF 3 (fCall 2 f_law_box (aCons (eVar 1) (aCons (eVar 2) aNil))))
    (sIf (tNt (tBl (eOpN allD (aCons (eFz (fComp [4] (iRange1 (aCons (eC (.int 6)) aNil)) (gN 4) tTrue (eCallI 1 3 f_law_right aNil))) aNil))))
    (sRet (eC (.bl false)))
    .nx)))
    (sRet (eC (.bl true)))))
def f_law := fnP 5 m_law
theorem sc_law : FnScope ["script", "cells_so", "n", "tin", "lap"] ["script"] (defScope (topS 51)) := ⟨rfl, rfl, rfl, by decide +kernel, rfl, by decide +kernel, by decide +kernel⟩
theorem ok_law {f : Addr} {fd : FuncData} (F : Fun K "law" "law" (topS 51) f fd) (n_len : mg "len" = none) (n_range : mg "range" = none) (n_all : mg "all" = none) (c_law_box : DefOk Pg w K mg base 1 "_law_box" ["script", "k"] (spF K g 2 f_law_box)) (c_law_cells : DefOk Pg w K mg base 1 "_law_cells" ["script", "most_so"] (spP K g 2 f_law_cells)) (c_law_right : DefOk Pg w K mg base 16 "_law_right" ["tin"] (spI K g 1 f_law_right)) : FnOk Pg w K mg base (L2.CX Pg w) 17 f fd ["script"] (spP K g 1 f_law) :=
  okP F sc_law (fun cdv A outer s H E hr tk =>
    (mss_cons (ms_set (ps_set (i := 1) sc_law.nd rfl (.inl rfl) (me_call c_law_cells (hr.mono (by decide)) tk rfl (ma_cons (me_var (pv 0)) (ma_cons me_int ma_nil)))))
    (mss_cons (ms_forM (vs := [2]) (passes_of rfl) rfl (mi_range1 rfl n_range (ma_cons (me_opN (pe_callB call_len rfl n_len bt_len (ma_cons (me_var (pv 1)) ma_nil)) o_len) ma_nil)) (pg_name (i := 2) sc_law.nd rfl (.inl rfl)) (tg_name (by decide))
    (mss_cons (ms_setF (ps_set (i := 3) sc_law.nd rfl (.inr rfl) (mf_call c_law_box (hr.mono (by decide)) tk rfl (ma_cons (me_var (pv 1)) (ma_cons (me_var (pv 2)) ma_nil)))))
    (mss_one (ms_if (ps_if (mt_not (mt_valB (pt_val (me_opN (pe_callB (cr_all rfl) rfl n_all bt_all (ma_cons (me_fz (mf_comp (own := [("lap", 4)]) rfl sc_law.nd (mi_range1 rfl n_range (ma_cons me_int ma_nil)) (blkOk_by rfl) (fun _ _ _ _ _ => (pg_name (i := 4) sc_law.nd rfl (.inl rfl))) (tg_name (by decide)) (fun _ _ _ _ _ => mts_nil) (fun _ _ _ _ _ => (me_callI c_law_right (hr.mono (by decide)) takes0 rfl (pv 3) ma_nil)))) ma_nil)) o_all))))
    (mss_one (ms_ret (ps_ret me_bl)))
    mss_nil)))))
    (mss_one (ms_ret (ps_ret me_bl))))))
end
end L2.G04

/-! part P04 -/
set_option Elab.async false
set_option linter.all false
set_option maxRecDepth 100000
set_option maxHeartbeats 4000000
namespace L2.G04
open PySem L2.Z
theorem is_number_eq (d : D) (h : tame d = true) : f_is_number [d] = .ok (.bl (isInt d)) := by
  cases d <;> first | rfl | cases h
theorem is_within_eq (d : D) (a b : Int) (h : tame d = true) : f_is_within [d, .int a, .int b] = .ok (.bl (inR a b d)) := by
  simp only [f_is_within, fnP, m_is_within, is_number_eq d h, eVar, eC, aNil, aCons, eTup, fLst, eOp1, eOp2, fOp2, eOpN, fOpN, tBl, tAnd2, tOr2, tNt, eAnd, eOr, eNot, eIf, eChain, eCall, fCall, RV.get, frz, frzL, getL, isB, isOwn_un, isOwn_va, isOwn_li, isOwn_di, isOwn_l2, isOwn_io, sRet, sSet, sSetF, putS, isIo_un, isIo_va, isIo_li, isIo_di, isIo_l2, isIo_io, sIf, sDrop, eFz, eSl, fSl, oNo, oSo, ixD_tup, ixD_lst, ixD_scr, slD_tup, slD_lst, slD_scr, slF_lst, slF_scr, tTrue, iSeq, gN, gTp, gsNil, gsCons, eVar2, lenD_tup, lenD_lst, lenD_scr, cmpD_ii, addD_ii, subD_ii, negD_i, ltD_ii, isNonD_n, notNonD_n, L2.Z.isNon, tupD_tup, tupD_lst, lstF_tup, lstF_lst, lstF_scr, flat_int, flat_bl, flat_non, flat_ints, intD_i, intD_b, absD_i, min2D_ii, sFor, fComp, wipeS, unw, noOwn_nil, noOwn_cons, List.map_cons, List.map_nil, List.length_cons, List.length_nil, List.replicate, List.cons_append, List.nil_append, List.getElem?_cons_zero, List.getElem?_cons_succ, List.set_cons_zero, List.set_cons_succ, List.any_cons, List.any_nil, List.all_cons, List.all_nil, Bool.or_false, Bool.false_or, Bool.and_true, Bool.true_and, Bool.not_true, Bool.not_false, Bool.false_and, Bool.and_false, Bool.false_eq_true, if_true, if_false, ite_true, ite_false, reduceIte, reduceCtorEq, decide_true, decide_false, Nat.reduceAdd, lineN_0, lineN_1, lineN_2, lineN_3, lineN_4, lineN_5, lineN_6, lineN_7, lineN_8, lineN_9, lineN_10, lineN_11, lineN_12, lineN_13, lineN_14, lineN_15, lineN_16, lineN_17, lineN_18, lineN_19, lineN_20, lineN_21, lineN_22, lineN_23, lineN_24]
  cases d <;> simp only [isInt, inR, eVar, eC, aNil, aCons, eTup, fLst, eOp1, eOp2, fOp2, eOpN, fOpN, tBl, tAnd2, tOr2, tNt, eAnd, eOr, eNot, eIf, eChain, eCall, fCall, RV.get, frz, frzL, getL, isB, isOwn_un, isOwn_va, isOwn_li, isOwn_di, isOwn_l2, isOwn_io, sRet, sSet, sSetF, putS, isIo_un, isIo_va, isIo_li, isIo_di, isIo_l2, isIo_io, sIf, sDrop, eFz, eSl, fSl, oNo, oSo, ixD_tup, ixD_lst, ixD_scr, slD_tup, slD_lst, slD_scr, slF_lst, slF_scr, tTrue, iSeq, gN, gTp, gsNil, gsCons, eVar2, lenD_tup, lenD_lst, lenD_scr, cmpD_ii, addD_ii, subD_ii, negD_i, ltD_ii, isNonD_n, notNonD_n, L2.Z.isNon, tupD_tup, tupD_lst, lstF_tup, lstF_lst, lstF_scr, flat_int, flat_bl, flat_non, flat_ints, intD_i, intD_b, absD_i, min2D_ii, sFor, fComp, wipeS, unw, noOwn_nil, noOwn_cons, List.map_cons, List.map_nil, List.length_cons, List.length_nil, List.replicate, List.cons_append, List.nil_append, List.getElem?_cons_zero, List.getElem?_cons_succ, List.set_cons_zero, List.set_cons_succ, List.any_cons, List.any_nil, List.all_cons, List.all_nil, Bool.or_false, Bool.false_or, Bool.and_true, Bool.true_and, Bool.not_true, Bool.not_false, Bool.false_and, Bool.and_false, Bool.false_eq_true, if_true, if_false, ite_true, ite_false, reduceIte, reduceCtorEq, decide_true, decide_false, Nat.reduceAdd, lineN_0, lineN_1, lineN_2, lineN_3, lineN_4, lineN_5, lineN_6, lineN_7, lineN_8, lineN_9, lineN_10, lineN_11, lineN_12, lineN_13, lineN_14, lineN_15, lineN_16, lineN_17, lineN_18, lineN_19, lineN_20, lineN_21, lineN_22, lineN_23, lineN_24]
  rename_i i
  by_cases h1 : a ≤ i <;> simp [h1, eVar, eC, aNil, aCons, eTup, fLst, eOp1, eOp2, fOp2, eOpN, fOpN, tBl, tAnd2, tOr2, tNt, eAnd, eOr, eNot, eIf, eChain, eCall, fCall, RV.get, frz, frzL, getL, isB, isOwn_un, isOwn_va, isOwn_li, isOwn_di, isOwn_l2, isOwn_io, sRet, sSet, sSetF, putS, isIo_un, isIo_va, isIo_li, isIo_di, isIo_l2, isIo_io, sIf, sDrop, eFz, eSl, fSl, oNo, oSo, ixD_tup, ixD_lst, ixD_scr, slD_tup, slD_lst, slD_scr, slF_lst, slF_scr, tTrue, iSeq, gN, gTp, gsNil, gsCons, eVar2, lenD_tup, lenD_lst, lenD_scr, cmpD_ii, addD_ii, subD_ii, negD_i, ltD_ii, isNonD_n, notNonD_n, L2.Z.isNon, tupD_tup, tupD_lst, lstF_tup, lstF_lst, lstF_scr, flat_int, flat_bl, flat_non, flat_ints, intD_i, intD_b, absD_i, min2D_ii, sFor, fComp, wipeS, unw, noOwn_nil, noOwn_cons, List.map_cons, List.map_nil, List.length_cons, List.length_nil, List.replicate, List.cons_append, List.nil_append, List.getElem?_cons_zero, List.getElem?_cons_succ, List.set_cons_zero, List.set_cons_succ, List.any_cons, List.any_nil, List.all_cons, List.all_nil, Bool.or_false, Bool.false_or, Bool.and_true, Bool.true_and, Bool.not_true, Bool.not_false, Bool.false_and, Bool.and_false, Bool.false_eq_true, if_true, if_false, ite_true, ite_false, reduceIte, reduceCtorEq, decide_true, decide_false, Nat.reduceAdd, lineN_0, lineN_1, lineN_2, lineN_3, lineN_4, lineN_5, lineN_6, lineN_7, lineN_8, lineN_9, lineN_10, lineN_11, lineN_12, lineN_13, lineN_14, lineN_15, lineN_16, lineN_17, lineN_18, lineN_19, lineN_20, lineN_21, lineN_22, lineN_23, lineN_24]
theorem sure_within_eq (d : D) (a b : Int) (h : tame d = true) : f_sure_within [d, .int a, .int b] = if inR a b d = true then .ok d else .ex ⟨0, none⟩ := by
  simp only [f_sure_within, fnP, m_sure_within, is_within_eq d a b h, sSeq, eVar, eC, aNil, aCons, eTup, fLst, eOp1, eOp2, fOp2, eOpN, fOpN, tBl, tAnd2, tOr2, tNt, eAnd, eOr, eNot, eIf, eChain, eCall, fCall, RV.get, frz, frzL, getL, isB, isOwn_un, isOwn_va, isOwn_li, isOwn_di, isOwn_l2, isOwn_io, sRet, sSet, sSetF, putS, isIo_un, isIo_va, isIo_li, isIo_di, isIo_l2, isIo_io, sIf, sDrop, eFz, eSl, fSl, oNo, oSo, ixD_tup, ixD_lst, ixD_scr, slD_tup, slD_lst, slD_scr, slF_lst, slF_scr, tTrue, iSeq, gN, gTp, gsNil, gsCons, eVar2, lenD_tup, lenD_lst, lenD_scr, cmpD_ii, addD_ii, subD_ii, negD_i, ltD_ii, isNonD_n, notNonD_n, L2.Z.isNon, tupD_tup, tupD_lst, lstF_tup, lstF_lst, lstF_scr, flat_int, flat_bl, flat_non, flat_ints, intD_i, intD_b, absD_i, min2D_ii, sFor, fComp, wipeS, unw, noOwn_nil, noOwn_cons, List.map_cons, List.map_nil, List.length_cons, List.length_nil, List.replicate, List.cons_append, List.nil_append, List.getElem?_cons_zero, List.getElem?_cons_succ, List.set_cons_zero, List.set_cons_succ, List.any_cons, List.any_nil, List.all_cons, List.all_nil, Bool.or_false, Bool.false_or, Bool.and_true, Bool.true_and, Bool.not_true, Bool.not_false, Bool.false_and, Bool.and_false, Bool.false_eq_true, if_true, if_false, ite_true, ite_false, reduceIte, reduceCtorEq, decide_true, decide_false, Nat.reduceAdd, lineN_0, lineN_1, lineN_2, lineN_3, lineN_4, lineN_5, lineN_6, lineN_7, lineN_8, lineN_9, lineN_10, lineN_11, lineN_12, lineN_13, lineN_14, lineN_15, lineN_16, lineN_17, lineN_18, lineN_19, lineN_20, lineN_21, lineN_22, lineN_23, lineN_24]
  cases inR a b d <;> simp [eVar, eC, aNil, aCons, eTup, fLst, eOp1, eOp2, fOp2, eOpN, fOpN, tBl, tAnd2, tOr2, tNt, eAnd, eOr, eNot, eIf, eChain, eCall, fCall, RV.get, frz, frzL, getL, isB, isOwn_un, isOwn_va, isOwn_li, isOwn_di, isOwn_l2, isOwn_io, sRet, sSet, sSetF, putS, isIo_un, isIo_va, isIo_li, isIo_di, isIo_l2, isIo_io, sIf, sDrop, eFz, eSl, fSl, oNo, oSo, ixD_tup, ixD_lst, ixD_scr, slD_tup, slD_lst, slD_scr, slF_lst, slF_scr, tTrue, iSeq, gN, gTp, gsNil, gsCons, eVar2, lenD_tup, lenD_lst, lenD_scr, cmpD_ii, addD_ii, subD_ii, negD_i, ltD_ii, isNonD_n, notNonD_n, L2.Z.isNon, tupD_tup, tupD_lst, lstF_tup, lstF_lst, lstF_scr, flat_int, flat_bl, flat_non, flat_ints, intD_i, intD_b, absD_i, min2D_ii, sFor, fComp, wipeS, unw, noOwn_nil, noOwn_cons, List.map_cons, List.map_nil, List.length_cons, List.length_nil, List.replicate, List.cons_append, List.nil_append, List.getElem?_cons_zero, List.getElem?_cons_succ, List.set_cons_zero, List.set_cons_succ, List.any_cons, List.any_nil, List.all_cons, List.all_nil, Bool.or_false, Bool.false_or, Bool.and_true, Bool.true_and, Bool.not_true, Bool.not_false, Bool.false_and, Bool.and_false, Bool.false_eq_true, if_true, if_false, ite_true, ite_false, reduceIte, reduceCtorEq, decide_true, decide_false, Nat.reduceAdd, lineN_0, lineN_1, lineN_2, lineN_3, lineN_4, lineN_5, lineN_6, lineN_7, lineN_8, lineN_9, lineN_10, lineN_11, lineN_12, lineN_13, lineN_14, lineN_15, lineN_16, lineN_17, lineN_18, lineN_19, lineN_20, lineN_21, lineN_22, lineN_23, lineN_24]
theorem is_long_eq (d : D) (n : Int) (h : tame d = true) : f_is_long [d, .int n] = .ok (.bl (lenIs n d)) := by
  simp only [f_is_long, fnP, m_is_long, isi_tuple d h, eVar, eC, aNil, aCons, eTup, fLst, eOp1, eOp2, fOp2, eOpN, fOpN, tBl, tAnd2, tOr2, tNt, eAnd, eOr, eNot, eIf, eChain, eCall, fCall, RV.get, frz, frzL, getL, isB, isOwn_un, isOwn_va, isOwn_li, isOwn_di, isOwn_l2, isOwn_io, sRet, sSet, sSetF, putS, isIo_un, isIo_va, isIo_li, isIo_di, isIo_l2, isIo_io, sIf, sDrop, eFz, eSl, fSl, oNo, oSo, ixD_tup, ixD_lst, ixD_scr, slD_tup, slD_lst, slD_scr, slF_lst, slF_scr, tTrue, iSeq, gN, gTp, gsNil, gsCons, eVar2, lenD_tup, lenD_lst, lenD_scr, cmpD_ii, addD_ii, subD_ii, negD_i, ltD_ii, isNonD_n, notNonD_n, L2.Z.isNon, tupD_tup, tupD_lst, lstF_tup, lstF_lst, lstF_scr, flat_int, flat_bl, flat_non, flat_ints, intD_i, intD_b, absD_i, min2D_ii, sFor, fComp, wipeS, unw, noOwn_nil, noOwn_cons, List.map_cons, List.map_nil, List.length_cons, List.length_nil, List.replicate, List.cons_append, List.nil_append, List.getElem?_cons_zero, List.getElem?_cons_succ, List.set_cons_zero, List.set_cons_succ, List.any_cons, List.any_nil, List.all_cons, List.all_nil, Bool.or_false, Bool.false_or, Bool.and_true, Bool.true_and, Bool.not_true, Bool.not_false, Bool.false_and, Bool.and_false, Bool.false_eq_true, if_true, if_false, ite_true, ite_false, reduceIte, reduceCtorEq, decide_true, decide_false, Nat.reduceAdd, lineN_0, lineN_1, lineN_2, lineN_3, lineN_4, lineN_5, lineN_6, lineN_7, lineN_8, lineN_9, lineN_10, lineN_11, lineN_12, lineN_13, lineN_14, lineN_15, lineN_16, lineN_17, lineN_18, lineN_19, lineN_20, lineN_21, lineN_22, lineN_23, lineN_24]
  cases d <;> simp [isTupD, lenIs, eVar, eC, aNil, aCons, eTup, fLst, eOp1, eOp2, fOp2, eOpN, fOpN, tBl, tAnd2, tOr2, tNt, eAnd, eOr, eNot, eIf, eChain, eCall, fCall, RV.get, frz, frzL, getL, isB, isOwn_un, isOwn_va, isOwn_li, isOwn_di, isOwn_l2, isOwn_io, sRet, sSet, sSetF, putS, isIo_un, isIo_va, isIo_li, isIo_di, isIo_l2, isIo_io, sIf, sDrop, eFz, eSl, fSl, oNo, oSo, ixD_tup, ixD_lst, ixD_scr, slD_tup, slD_lst, slD_scr, slF_lst, slF_scr, tTrue, iSeq, gN, gTp, gsNil, gsCons, eVar2, lenD_tup, lenD_lst, lenD_scr, cmpD_ii, addD_ii, subD_ii, negD_i, ltD_ii, isNonD_n, notNonD_n, L2.Z.isNon, tupD_tup, tupD_lst, lstF_tup, lstF_lst, lstF_scr, flat_int, flat_bl, flat_non, flat_ints, intD_i, intD_b, absD_i, min2D_ii, sFor, fComp, wipeS, unw, noOwn_nil, noOwn_cons, List.map_cons, List.map_nil, List.length_cons, List.length_nil, List.replicate, List.cons_append, List.nil_append, List.getElem?_cons_zero, List.getElem?_cons_succ, List.set_cons_zero, List.set_cons_succ, List.any_cons, List.any_nil, List.all_cons, List.all_nil, Bool.or_false, Bool.false_or, Bool.and_true, Bool.true_and, Bool.not_true, Bool.not_false, Bool.false_and, Bool.and_false, Bool.false_eq_true, if_true, if_false, ite_true, ite_false, reduceIte, reduceCtorEq, decide_true, decide_false, Nat.reduceAdd, lineN_0, lineN_1, lineN_2, lineN_3, lineN_4, lineN_5, lineN_6, lineN_7, lineN_8, lineN_9, lineN_10, lineN_11, lineN_12, lineN_13, lineN_14, lineN_15, lineN_16, lineN_17, lineN_18, lineN_19, lineN_20, lineN_21, lineN_22, lineN_23, lineN_24, eqD_int]
def allIn (p : D → Bool) : D → Bool
  | .tup xs => xs.all p
  | _ => false
theorem are_numbers_eq {n : Nat} (d : D) (h : gd n d = true) : f_are_numbers [d] = .ok (.bl (allIn isInt d)) := by
  simp only [f_are_numbers, fnP, m_are_numbers, isi_tuple d (gd_tame h), eVar, eC, aNil, aCons, eTup, fLst, eOp1, eOp2, fOp2, eOpN, fOpN, tBl, tAnd2, tOr2, tNt, eAnd, eOr, eNot, eIf, eChain, eCall, fCall, RV.get, frz, frzL, getL, isB, isOwn_un, isOwn_va, isOwn_li, isOwn_di, isOwn_l2, isOwn_io, sRet, sSet, sSetF, putS, isIo_un, isIo_va, isIo_li, isIo_di, isIo_l2, isIo_io, sIf, sDrop, eFz, eSl, fSl, oNo, oSo, ixD_tup, ixD_lst, ixD_scr, slD_tup, slD_lst, slD_scr, slF_lst, slF_scr, tTrue, iSeq, gN, gTp, gsNil, gsCons, eVar2, lenD_tup, lenD_lst, lenD_scr, cmpD_ii, addD_ii, subD_ii, negD_i, ltD_ii, isNonD_n, notNonD_n, L2.Z.isNon, tupD_tup, tupD_lst, lstF_tup, lstF_lst, lstF_scr, flat_int, flat_bl, flat_non, flat_ints, intD_i, intD_b, absD_i, min2D_ii, sFor, fComp, wipeS, unw, noOwn_nil, noOwn_cons, List.map_cons, List.map_nil, List.length_cons, List.length_nil, List.replicate, List.cons_append, List.nil_append, List.getElem?_cons_zero, List.getElem?_cons_succ, List.set_cons_zero, List.set_cons_succ, List.any_cons, List.any_nil, List.all_cons, List.all_nil, Bool.or_false, Bool.false_or, Bool.and_true, Bool.true_and, Bool.not_true, Bool.not_false, Bool.false_and, Bool.and_false, Bool.false_eq_true, if_true, if_false, ite_true, ite_false, reduceIte, reduceCtorEq, decide_true, decide_false, Nat.reduceAdd, lineN_0, lineN_1, lineN_2, lineN_3, lineN_4, lineN_5, lineN_6, lineN_7, lineN_8, lineN_9, lineN_10, lineN_11, lineN_12, lineN_13, lineN_14, lineN_15, lineN_16, lineN_17, lineN_18, lineN_19, lineN_20, lineN_21, lineN_22, lineN_23, lineN_24]
  cases d with
  | tup xs =>
    cases n with
    | zero => unfold gd at h; cases h
    | succ n =>
    obtain ⟨hl, hx⟩ := gd_tup.mp h
    simp only [isTupD, eVar, eC, aNil, aCons, eTup, fLst, eOp1, eOp2, fOp2, eOpN, fOpN, tBl, tAnd2, tOr2, tNt, eAnd, eOr, eNot, eIf, eChain, eCall, fCall, RV.get, frz, frzL, getL, isB, isOwn_un, isOwn_va, isOwn_li, isOwn_di, isOwn_l2, isOwn_io, sRet, sSet, sSetF, putS, isIo_un, isIo_va, isIo_li, isIo_di, isIo_l2, isIo_io, sIf, sDrop, eFz, eSl, fSl, oNo, oSo, ixD_tup, ixD_lst, ixD_scr, slD_tup, slD_lst, slD_scr, slF_lst, slF_scr, tTrue, iSeq, gN, gTp, gsNil, gsCons, eVar2, lenD_tup, lenD_lst, lenD_scr, cmpD_ii, addD_ii, subD_ii, negD_i, ltD_ii, isNonD_n, notNonD_n, L2.Z.isNon, tupD_tup, tupD_lst, lstF_tup, lstF_lst, lstF_scr, flat_int, flat_bl, flat_non, flat_ints, intD_i, intD_b, absD_i, min2D_ii, sFor, fComp, wipeS, unw, noOwn_nil, noOwn_cons, List.map_cons, List.map_nil, List.length_cons, List.length_nil, List.replicate, List.cons_append, List.nil_append, List.getElem?_cons_zero, List.getElem?_cons_succ, List.set_cons_zero, List.set_cons_succ, List.any_cons, List.any_nil, List.all_cons, List.all_nil, Bool.or_false, Bool.false_or, Bool.and_true, Bool.true_and, Bool.not_true, Bool.not_false, Bool.false_and, Bool.and_false, Bool.false_eq_true, if_true, if_false, ite_true, ite_false, reduceIte, reduceCtorEq, decide_true, decide_false, Nat.reduceAdd, lineN_0, lineN_1, lineN_2, lineN_3, lineN_4, lineN_5, lineN_6, lineN_7, lineN_8, lineN_9, lineN_10, lineN_11, lineN_12, lineN_13, lineN_14, lineN_15, lineN_16, lineN_17, lineN_18, lineN_19, lineN_20, lineN_21, lineN_22, lineN_23, lineN_24, decide_eq_true (len_line hl)]
    rw [compGo_mapT (h := fun x => .bl (isInt x))]
    · simp only [allD_map, allIn, eVar, eC, aNil, aCons, eTup, fLst, eOp1, eOp2, fOp2, eOpN, fOpN, tBl, tAnd2, tOr2, tNt, eAnd, eOr, eNot, eIf, eChain, eCall, fCall, RV.get, frz, frzL, getL, isB, isOwn_un, isOwn_va, isOwn_li, isOwn_di, isOwn_l2, isOwn_io, sRet, sSet, sSetF, putS, isIo_un, isIo_va, isIo_li, isIo_di, isIo_l2, isIo_io, sIf, sDrop, eFz, eSl, fSl, oNo, oSo, ixD_tup, ixD_lst, ixD_scr, slD_tup, slD_lst, slD_scr, slF_lst, slF_scr, tTrue, iSeq, gN, gTp, gsNil, gsCons, eVar2, lenD_tup, lenD_lst, lenD_scr, cmpD_ii, addD_ii, subD_ii, negD_i, ltD_ii, isNonD_n, notNonD_n, L2.Z.isNon, tupD_tup, tupD_lst, lstF_tup, lstF_lst, lstF_scr, flat_int, flat_bl, flat_non, flat_ints, intD_i, intD_b, absD_i, min2D_ii, sFor, fComp, wipeS, unw, noOwn_nil, noOwn_cons, List.map_cons, List.map_nil, List.length_cons, List.length_nil, List.replicate, List.cons_append, List.nil_append, List.getElem?_cons_zero, List.getElem?_cons_succ, List.set_cons_zero, List.set_cons_succ, List.any_cons, List.any_nil, List.all_cons, List.all_nil, Bool.or_false, Bool.false_or, Bool.and_true, Bool.true_and, Bool.not_true, Bool.not_false, Bool.false_and, Bool.and_false, Bool.false_eq_true, if_true, if_false, ite_true, ite_false, reduceIte, reduceCtorEq, decide_true, decide_false, Nat.reduceAdd, lineN_0, lineN_1, lineN_2, lineN_3, lineN_4, lineN_5, lineN_6, lineN_7, lineN_8, lineN_9, lineN_10, lineN_11, lineN_12, lineN_13, lineN_14, lineN_15, lineN_16, lineN_17, lineN_18, lineN_19, lineN_20, lineN_21, lineN_22, lineN_23, lineN_24]
    · intro x hx'
      exact ⟨[.va (.tup xs), .va x], .v (.bl (isInt x)), rfl, by simp only [is_number_eq x (gd_tame (gdL_iff.mp hx x hx')), eVar, eC, aNil, aCons, eTup, fLst, eOp1, eOp2, fOp2, eOpN, fOpN, tBl, tAnd2, tOr2, tNt, eAnd, eOr, eNot, eIf, eChain, eCall, fCall, RV.get, frz, frzL, getL, isB, isOwn_un, isOwn_va, isOwn_li, isOwn_di, isOwn_l2, isOwn_io, sRet, sSet, sSetF, putS, isIo_un, isIo_va, isIo_li, isIo_di, isIo_l2, isIo_io, sIf, sDrop, eFz, eSl, fSl, oNo, oSo, ixD_tup, ixD_lst, ixD_scr, slD_tup, slD_lst, slD_scr, slF_lst, slF_scr, tTrue, iSeq, gN, gTp, gsNil, gsCons, eVar2, lenD_tup, lenD_lst, lenD_scr, cmpD_ii, addD_ii, subD_ii, negD_i, ltD_ii, isNonD_n, notNonD_n, L2.Z.isNon, tupD_tup, tupD_lst, lstF_tup, lstF_lst, lstF_scr, flat_int, flat_bl, flat_non, flat_ints, intD_i, intD_b, absD_i, min2D_ii, sFor, fComp, wipeS, unw, noOwn_nil, noOwn_cons, List.map_cons, List.map_nil, List.length_cons, List.length_nil, List.replicate, List.cons_append, List.nil_append, List.getElem?_cons_zero, List.getElem?_cons_succ, List.set_cons_zero, List.set_cons_succ, List.any_cons, List.any_nil, List.all_cons, List.all_nil, Bool.or_false, Bool.false_or, Bool.and_true, Bool.true_and, Bool.not_true, Bool.not_false, Bool.false_and, Bool.and_false, Bool.false_eq_true, if_true, if_false, ite_true, ite_false, reduceIte, reduceCtorEq, decide_true, decide_false, Nat.reduceAdd, lineN_0, lineN_1, lineN_2, lineN_3, lineN_4, lineN_5, lineN_6, lineN_7, lineN_8, lineN_9, lineN_10, lineN_11, lineN_12, lineN_13, lineN_14, lineN_15, lineN_16, lineN_17, lineN_18, lineN_19, lineN_20, lineN_21, lineN_22, lineN_23, lineN_24], rfl, rfl⟩
  | _ => simp only [isTupD, allIn, eVar, eC, aNil, aCons, eTup, fLst, eOp1, eOp2, fOp2, eOpN, fOpN, tBl, tAnd2, tOr2, tNt, eAnd, eOr, eNot, eIf, eChain, eCall, fCall, RV.get, frz, frzL, getL, isB, isOwn_un, isOwn_va, isOwn_li, isOwn_di, isOwn_l2, isOwn_io, sRet, sSet, sSetF, putS, isIo_un, isIo_va, isIo_li, isIo_di, isIo_l2, isIo_io, sIf, sDrop, eFz, eSl, fSl, oNo, oSo, ixD_tup, ixD_lst, ixD_scr, slD_tup, slD_lst, slD_scr, slF_lst, slF_scr, tTrue, iSeq, gN, gTp, gsNil, gsCons, eVar2, lenD_tup, lenD_lst, lenD_scr, cmpD_ii, addD_ii, subD_ii, negD_i, ltD_ii, isNonD_n, notNonD_n, L2.Z.isNon, tupD_tup, tupD_lst, lstF_tup, lstF_lst, lstF_scr, flat_int, flat_bl, flat_non, flat_ints, intD_i, intD_b, absD_i, min2D_ii, sFor, fComp, wipeS, unw, noOwn_nil, noOwn_cons, List.map_cons, List.map_nil, List.length_cons, List.length_nil, List.replicate, List.cons_append, List.nil_append, List.getElem?_cons_zero, List.getElem?_cons_succ, List.set_cons_zero, List.set_cons_succ, List.any_cons, List.any_nil, List.all_cons, List.all_nil, Bool.or_false, Bool.false_or, Bool.and_true, Bool.true_and, Bool.not_true, Bool.not_false, Bool.false_and, Bool.and_false, Bool.false_eq_true, if_true, if_false, ite_true, ite_false, reduceIte, reduceCtorEq, decide_true, decide_false, Nat.reduceAdd, lineN_0, lineN_1, lineN_2, lineN_3, lineN_4, lineN_5, lineN_6, lineN_7, lineN_8, lineN_9, lineN_10, lineN_11, lineN_12, lineN_13, lineN_14, lineN_15, lineN_16, lineN_17, lineN_18, lineN_19, lineN_20, lineN_21, lineN_22, lineN_23, lineN_24]
theorem are_within_eq {n : Nat} (d : D) (a b : Int) (h : gd n d = true) : f_are_within [d, .int a, .int b] = .ok (.bl (allIn (inR a b) d)) := by
  simp only [f_are_within, fnP, m_are_within, are_numbers_eq d h, eVar, eC, aNil, aCons, eTup, fLst, eOp1, eOp2, fOp2, eOpN, fOpN, tBl, tAnd2, tOr2, tNt, eAnd, eOr, eNot, eIf, eChain, eCall, fCall, RV.get, frz, frzL, getL, isB, isOwn_un, isOwn_va, isOwn_li, isOwn_di, isOwn_l2, isOwn_io, sRet, sSet, sSetF, putS, isIo_un, isIo_va, isIo_li, isIo_di, isIo_l2, isIo_io, sIf, sDrop, eFz, eSl, fSl, oNo, oSo, ixD_tup, ixD_lst, ixD_scr, slD_tup, slD_lst, slD_scr, slF_lst, slF_scr, tTrue, iSeq, gN, gTp, gsNil, gsCons, eVar2, lenD_tup, lenD_lst, lenD_scr, cmpD_ii, addD_ii, subD_ii, negD_i, ltD_ii, isNonD_n, notNonD_n, L2.Z.isNon, tupD_tup, tupD_lst, lstF_tup, lstF_lst, lstF_scr, flat_int, flat_bl, flat_non, flat_ints, intD_i, intD_b, absD_i, min2D_ii, sFor, fComp, wipeS, unw, noOwn_nil, noOwn_cons, List.map_cons, List.map_nil, List.length_cons, List.length_nil, List.replicate, List.cons_append, List.nil_append, List.getElem?_cons_zero, List.getElem?_cons_succ, List.set_cons_zero, List.set_cons_succ, List.any_cons, List.any_nil, List.all_cons, List.all_nil, Bool.or_false, Bool.false_or, Bool.and_true, Bool.true_and, Bool.not_true, Bool.not_false, Bool.false_and, Bool.and_false, Bool.false_eq_true, if_true, if_false, ite_true, ite_false, reduceIte, reduceCtorEq, decide_true, decide_false, Nat.reduceAdd, lineN_0, lineN_1, lineN_2, lineN_3, lineN_4, lineN_5, lineN_6, lineN_7, lineN_8, lineN_9, lineN_10, lineN_11, lineN_12, lineN_13, lineN_14, lineN_15, lineN_16, lineN_17, lineN_18, lineN_19, lineN_20, lineN_21, lineN_22, lineN_23, lineN_24]
  cases d with
  | tup xs =>
    cases n with
    | zero => unfold gd at h; cases h
    | succ n =>
    obtain ⟨hl, hx⟩ := gd_tup.mp h
    cases hi : xs.all isInt with
    | false =>
      have : xs.all (inR a b) = false := by
        rw [List.all_eq_false] at hi ⊢
        obtain ⟨x, hx, hn⟩ := hi
        exact ⟨x, hx, fun z => hn (by cases x <;> first | rfl | cases z)⟩
      simp only [allIn, hi, this, eVar, eC, aNil, aCons, eTup, fLst, eOp1, eOp2, fOp2, eOpN, fOpN, tBl, tAnd2, tOr2, tNt, eAnd, eOr, eNot, eIf, eChain, eCall, fCall, RV.get, frz, frzL, getL, isB, isOwn_un, isOwn_va, isOwn_li, isOwn_di, isOwn_l2, isOwn_io, sRet, sSet, sSetF, putS, isIo_un, isIo_va, isIo_li, isIo_di, isIo_l2, isIo_io, sIf, sDrop, eFz, eSl, fSl, oNo, oSo, ixD_tup, ixD_lst, ixD_scr, slD_tup, slD_lst, slD_scr, slF_lst, slF_scr, tTrue, iSeq, gN, gTp, gsNil, gsCons, eVar2, lenD_tup, lenD_lst, lenD_scr, cmpD_ii, addD_ii, subD_ii, negD_i, ltD_ii, isNonD_n, notNonD_n, L2.Z.isNon, tupD_tup, tupD_lst, lstF_tup, lstF_lst, lstF_scr, flat_int, flat_bl, flat_non, flat_ints, intD_i, intD_b, absD_i, min2D_ii, sFor, fComp, wipeS, unw, noOwn_nil, noOwn_cons, List.map_cons, List.map_nil, List.length_cons, List.length_nil, List.replicate, List.cons_append, List.nil_append, List.getElem?_cons_zero, List.getElem?_cons_succ, List.set_cons_zero, List.set_cons_succ, List.any_cons, List.any_nil, List.all_cons, List.all_nil, Bool.or_false, Bool.false_or, Bool.and_true, Bool.true_and, Bool.not_true, Bool.not_false, Bool.false_and, Bool.and_false, Bool.false_eq_true, if_true, if_false, ite_true, ite_false, reduceIte, reduceCtorEq, decide_true, decide_false, Nat.reduceAdd, lineN_0, lineN_1, lineN_2, lineN_3, lineN_4, lineN_5, lineN_6, lineN_7, lineN_8, lineN_9, lineN_10, lineN_11, lineN_12, lineN_13, lineN_14, lineN_15, lineN_16, lineN_17, lineN_18, lineN_19, lineN_20, lineN_21, lineN_22, lineN_23, lineN_24]
    | true =>
      simp only [allIn, hi, eVar, eC, aNil, aCons, eTup, fLst, eOp1, eOp2, fOp2, eOpN, fOpN, tBl, tAnd2, tOr2, tNt, eAnd, eOr, eNot, eIf, eChain, eCall, fCall, RV.get, frz, frzL, getL, isB, isOwn_un, isOwn_va, isOwn_li, isOwn_di, isOwn_l2, isOwn_io, sRet, sSet, sSetF, putS, isIo_un, isIo_va, isIo_li, isIo_di, isIo_l2, isIo_io, sIf, sDrop, eFz, eSl, fSl, oNo, oSo, ixD_tup, ixD_lst, ixD_scr, slD_tup, slD_lst, slD_scr, slF_lst, slF_scr, tTrue, iSeq, gN, gTp, gsNil, gsCons, eVar2, lenD_tup, lenD_lst, lenD_scr, cmpD_ii, addD_ii, subD_ii, negD_i, ltD_ii, isNonD_n, notNonD_n, L2.Z.isNon, tupD_tup, tupD_lst, lstF_tup, lstF_lst, lstF_scr, flat_int, flat_bl, flat_non, flat_ints, intD_i, intD_b, absD_i, min2D_ii, sFor, fComp, wipeS, unw, noOwn_nil, noOwn_cons, List.map_cons, List.map_nil, List.length_cons, List.length_nil, List.replicate, List.cons_append, List.nil_append, List.getElem?_cons_zero, List.getElem?_cons_succ, List.set_cons_zero, List.set_cons_succ, List.any_cons, List.any_nil, List.all_cons, List.all_nil, Bool.or_false, Bool.false_or, Bool.and_true, Bool.true_and, Bool.not_true, Bool.not_false, Bool.false_and, Bool.and_false, Bool.false_eq_true, if_true, if_false, ite_true, ite_false, reduceIte, reduceCtorEq, decide_true, decide_false, Nat.reduceAdd, lineN_0, lineN_1, lineN_2, lineN_3, lineN_4, lineN_5, lineN_6, lineN_7, lineN_8, lineN_9, lineN_10, lineN_11, lineN_12, lineN_13, lineN_14, lineN_15, lineN_16, lineN_17, lineN_18, lineN_19, lineN_20, lineN_21, lineN_22, lineN_23, lineN_24, decide_eq_true (len_line hl)]
      rw [compGo_mapT (h := fun x => .bl (inR a b x))]
      · simp only [allD_map, eVar, eC, aNil, aCons, eTup, fLst, eOp1, eOp2, fOp2, eOpN, fOpN, tBl, tAnd2, tOr2, tNt, eAnd, eOr, eNot, eIf, eChain, eCall, fCall, RV.get, frz, frzL, getL, isB, isOwn_un, isOwn_va, isOwn_li, isOwn_di, isOwn_l2, isOwn_io, sRet, sSet, sSetF, putS, isIo_un, isIo_va, isIo_li, isIo_di, isIo_l2, isIo_io, sIf, sDrop, eFz, eSl, fSl, oNo, oSo, ixD_tup, ixD_lst, ixD_scr, slD_tup, slD_lst, slD_scr, slF_lst, slF_scr, tTrue, iSeq, gN, gTp, gsNil, gsCons, eVar2, lenD_tup, lenD_lst, lenD_scr, cmpD_ii, addD_ii, subD_ii, negD_i, ltD_ii, isNonD_n, notNonD_n, L2.Z.isNon, tupD_tup, tupD_lst, lstF_tup, lstF_lst, lstF_scr, flat_int, flat_bl, flat_non, flat_ints, intD_i, intD_b, absD_i, min2D_ii, sFor, fComp, wipeS, unw, noOwn_nil, noOwn_cons, List.map_cons, List.map_nil, List.length_cons, List.length_nil, List.replicate, List.cons_append, List.nil_append, List.getElem?_cons_zero, List.getElem?_cons_succ, List.set_cons_zero, List.set_cons_succ, List.any_cons, List.any_nil, List.all_cons, List.all_nil, Bool.or_false, Bool.false_or, Bool.and_true, Bool.true_and, Bool.not_true, Bool.not_false, Bool.false_and, Bool.and_false, Bool.false_eq_true, if_true, if_false, ite_true, ite_false, reduceIte, reduceCtorEq, decide_true, decide_false, Nat.reduceAdd, lineN_0, lineN_1, lineN_2, lineN_3, lineN_4, lineN_5, lineN_6, lineN_7, lineN_8, lineN_9, lineN_10, lineN_11, lineN_12, lineN_13, lineN_14, lineN_15, lineN_16, lineN_17, lineN_18, lineN_19, lineN_20, lineN_21, lineN_22, lineN_23, lineN_24]
      · intro x hx'
        refine ⟨[.va (.tup xs), .va (.int a), .va (.int b), .va x], .v (.bl (inR a b x)), rfl, ?_, rfl, rfl⟩
        have hxi := List.all_eq_true.mp hi x hx'
        cases x <;> first | cases hxi | skip
        rename_i i
        by_cases h1 : a ≤ i <;> simp [h1, inR, eVar, eC, aNil, aCons, eTup, fLst, eOp1, eOp2, fOp2, eOpN, fOpN, tBl, tAnd2, tOr2, tNt, eAnd, eOr, eNot, eIf, eChain, eCall, fCall, RV.get, frz, frzL, getL, isB, isOwn_un, isOwn_va, isOwn_li, isOwn_di, isOwn_l2, isOwn_io, sRet, sSet, sSetF, putS, isIo_un, isIo_va, isIo_li, isIo_di, isIo_l2, isIo_io, sIf, sDrop, eFz, eSl, fSl, oNo, oSo, ixD_tup, ixD_lst, ixD_scr, slD_tup, slD_lst, slD_scr, slF_lst, slF_scr, tTrue, iSeq, gN, gTp, gsNil, gsCons, eVar2, lenD_tup, lenD_lst, lenD_scr, cmpD_ii, addD_ii, subD_ii, negD_i, ltD_ii, isNonD_n, notNonD_n, L2.Z.isNon, tupD_tup, tupD_lst, lstF_tup, lstF_lst, lstF_scr, flat_int, flat_bl, flat_non, flat_ints, intD_i, intD_b, absD_i, min2D_ii, sFor, fComp, wipeS, unw, noOwn_nil, noOwn_cons, List.map_cons, List.map_nil, List.length_cons, List.length_nil, List.replicate, List.cons_append, List.nil_append, List.getElem?_cons_zero, List.getElem?_cons_succ, List.set_cons_zero, List.set_cons_succ, List.any_cons, List.any_nil, List.all_cons, List.all_nil, Bool.or_false, Bool.false_or, Bool.and_true, Bool.true_and, Bool.not_true, Bool.not_false, Bool.false_and, Bool.and_false, Bool.false_eq_true, if_true, if_false, ite_true, ite_false, reduceIte, reduceCtorEq, decide_true, decide_false, Nat.reduceAdd, lineN_0, lineN_1, lineN_2, lineN_3, lineN_4, lineN_5, lineN_6, lineN_7, lineN_8, lineN_9, lineN_10, lineN_11, lineN_12, lineN_13, lineN_14, lineN_15, lineN_16, lineN_17, lineN_18, lineN_19, lineN_20, lineN_21, lineN_22, lineN_23, lineN_24]
  | _ => simp only [allIn, eVar, eC, aNil, aCons, eTup, fLst, eOp1, eOp2, fOp2, eOpN, fOpN, tBl, tAnd2, tOr2, tNt, eAnd, eOr, eNot, eIf, eChain, eCall, fCall, RV.get, frz, frzL, getL, isB, isOwn_un, isOwn_va, isOwn_li, isOwn_di, isOwn_l2, isOwn_io, sRet, sSet, sSetF, putS, isIo_un, isIo_va, isIo_li, isIo_di, isIo_l2, isIo_io, sIf, sDrop, eFz, eSl, fSl, oNo, oSo, ixD_tup, ixD_lst, ixD_scr, slD_tup, slD_lst, slD_scr, slF_lst, slF_scr, tTrue, iSeq, gN, gTp, gsNil, gsCons, eVar2, lenD_tup, lenD_lst, lenD_scr, cmpD_ii, addD_ii, subD_ii, negD_i, ltD_ii, isNonD_n, notNonD_n, L2.Z.isNon, tupD_tup, tupD_lst, lstF_tup, lstF_lst, lstF_scr, flat_int, flat_bl, flat_non, flat_ints, intD_i, intD_b, absD_i, min2D_ii, sFor, fComp, wipeS, unw, noOwn_nil, noOwn_cons, List.map_cons, List.map_nil, List.length_cons, List.length_nil, List.replicate, List.cons_append, List.nil_append, List.getElem?_cons_zero, List.getElem?_cons_succ, List.set_cons_zero, List.set_cons_succ, List.any_cons, List.any_nil, List.all_cons, List.all_nil, Bool.or_false, Bool.false_or, Bool.and_true, Bool.true_and, Bool.not_true, Bool.not_false, Bool.false_and, Bool.and_false, Bool.false_eq_true, if_true, if_false, ite_true, ite_false, reduceIte, reduceCtorEq, decide_true, decide_false, Nat.reduceAdd, lineN_0, lineN_1, lineN_2, lineN_3, lineN_4, lineN_5, lineN_6, lineN_7, lineN_8, lineN_9, lineN_10, lineN_11, lineN_12, lineN_13, lineN_14, lineN_15, lineN_16, lineN_17, lineN_18, lineN_19, lineN_20, lineN_21, lineN_22, lineN_23, lineN_24]
/-! tupled -/
theorem tupled_at_eq : ∀ (n : Nat) (d : D), gd n d = true → f_tupled_at (n + 1) [d] = .ok (tpl d)
  | n, d, h => by
    have ht := gd_tame h
    have hn := gd_no h
    show fnP 2 (m_tupled (f_tupled_at n)) [d] = _
    simp only [fnP, m_tupled, isi_lt d ht, eVar, eC, aNil, aCons, eTup, fLst, eOp1, eOp2, fOp2, eOpN, fOpN, tBl, tAnd2, tOr2, tNt, eAnd, eOr, eNot, eIf, eChain, eCall, fCall, RV.get, frz, frzL, getL, isB, isOwn_un, isOwn_va, isOwn_li, isOwn_di, isOwn_l2, isOwn_io, sRet, sSet, sSetF, putS, isIo_un, isIo_va, isIo_li, isIo_di, isIo_l2, isIo_io, sIf, sDrop, eFz, eSl, fSl, oNo, oSo, ixD_tup, ixD_lst, ixD_scr, slD_tup, slD_lst, slD_scr, slF_lst, slF_scr, tTrue, iSeq, gN, gTp, gsNil, gsCons, eVar2, lenD_tup, lenD_lst, lenD_scr, cmpD_ii, addD_ii, subD_ii, negD_i, ltD_ii, isNonD_n, notNonD_n, L2.Z.isNon, tupD_tup, tupD_lst, lstF_tup, lstF_lst, lstF_scr, flat_int, flat_bl, flat_non, flat_ints, intD_i, intD_b, absD_i, min2D_ii, sFor, fComp, wipeS, unw, noOwn_nil, noOwn_cons, List.map_cons, List.map_nil, List.length_cons, List.length_nil, List.replicate, List.cons_append, List.nil_append, List.getElem?_cons_zero, List.getElem?_cons_succ, List.set_cons_zero, List.set_cons_succ, List.any_cons, List.any_nil, List.all_cons, List.all_nil, Bool.or_false, Bool.false_or, Bool.and_true, Bool.true_and, Bool.not_true, Bool.not_false, Bool.false_and, Bool.and_false, Bool.false_eq_true, if_true, if_false, ite_true, ite_false, reduceIte, reduceCtorEq, decide_true, decide_false, Nat.reduceAdd, lineN_0, lineN_1, lineN_2, lineN_3, lineN_4, lineN_5, lineN_6, lineN_7, lineN_8, lineN_9, lineN_10, lineN_11, lineN_12, lineN_13, lineN_14, lineN_15, lineN_16, lineN_17, lineN_18, lineN_19, lineN_20, lineN_21, lineN_22, lineN_23, lineN_24]
    cases d with
    | tup xs =>
      cases n with
      | zero => unfold gd at h; cases h
      | succ n =>
      obtain ⟨hl, hx⟩ := gd_tup.mp h
      simp only [isTupD, isLstD, eVar, eC, aNil, aCons, eTup, fLst, eOp1, eOp2, fOp2, eOpN, fOpN, tBl, tAnd2, tOr2, tNt, eAnd, eOr, eNot, eIf, eChain, eCall, fCall, RV.get, frz, frzL, getL, isB, isOwn_un, isOwn_va, isOwn_li, isOwn_di, isOwn_l2, isOwn_io, sRet, sSet, sSetF, putS, isIo_un, isIo_va, isIo_li, isIo_di, isIo_l2, isIo_io, sIf, sDrop, eFz, eSl, fSl, oNo, oSo, ixD_tup, ixD_lst, ixD_scr, slD_tup, slD_lst, slD_scr, slF_lst, slF_scr, tTrue, iSeq, gN, gTp, gsNil, gsCons, eVar2, lenD_tup, lenD_lst, lenD_scr, cmpD_ii, addD_ii, subD_ii, negD_i, ltD_ii, isNonD_n, notNonD_n, L2.Z.isNon, tupD_tup, tupD_lst, lstF_tup, lstF_lst, lstF_scr, flat_int, flat_bl, flat_non, flat_ints, intD_i, intD_b, absD_i, min2D_ii, sFor, fComp, wipeS, unw, noOwn_nil, noOwn_cons, List.map_cons, List.map_nil, List.length_cons, List.length_nil, List.replicate, List.cons_append, List.nil_append, List.getElem?_cons_zero, List.getElem?_cons_succ, List.set_cons_zero, List.set_cons_succ, List.any_cons, List.any_nil, List.all_cons, List.all_nil, Bool.or_false, Bool.false_or, Bool.and_true, Bool.true_and, Bool.not_true, Bool.not_false, Bool.false_and, Bool.and_false, Bool.false_eq_true, if_true, if_false, ite_true, ite_false, reduceIte, reduceCtorEq, decide_true, decide_false, Nat.reduceAdd, lineN_0, lineN_1, lineN_2, lineN_3, lineN_4, lineN_5, lineN_6, lineN_7, lineN_8, lineN_9, lineN_10, lineN_11, lineN_12, lineN_13, lineN_14, lineN_15, lineN_16, lineN_17, lineN_18, lineN_19, lineN_20, lineN_21, lineN_22, lineN_23, lineN_24, decide_eq_true (len_line hl)]
      rw [compGo_mapT (h := tpl)]
      · simp only [tpl, tplL_map, tupD, eVar, eC, aNil, aCons, eTup, fLst, eOp1, eOp2, fOp2, eOpN, fOpN, tBl, tAnd2, tOr2, tNt, eAnd, eOr, eNot, eIf, eChain, eCall, fCall, RV.get, frz, frzL, getL, isB, isOwn_un, isOwn_va, isOwn_li, isOwn_di, isOwn_l2, isOwn_io, sRet, sSet, sSetF, putS, isIo_un, isIo_va, isIo_li, isIo_di, isIo_l2, isIo_io, sIf, sDrop, eFz, eSl, fSl, oNo, oSo, ixD_tup, ixD_lst, ixD_scr, slD_tup, slD_lst, slD_scr, slF_lst, slF_scr, tTrue, iSeq, gN, gTp, gsNil, gsCons, eVar2, lenD_tup, lenD_lst, lenD_scr, cmpD_ii, addD_ii, subD_ii, negD_i, ltD_ii, isNonD_n, notNonD_n, L2.Z.isNon, tupD_tup, tupD_lst, lstF_tup, lstF_lst, lstF_scr, flat_int, flat_bl, flat_non, flat_ints, intD_i, intD_b, absD_i, min2D_ii, sFor, fComp, wipeS, unw, noOwn_nil, noOwn_cons, List.map_cons, List.map_nil, List.length_cons, List.length_nil, List.replicate, List.cons_append, List.nil_append, List.getElem?_cons_zero, List.getElem?_cons_succ, List.set_cons_zero, List.set_cons_succ, List.any_cons, List.any_nil, List.all_cons, List.all_nil, Bool.or_false, Bool.false_or, Bool.and_true, Bool.true_and, Bool.not_true, Bool.not_false, Bool.false_and, Bool.and_false, Bool.false_eq_true, if_true, if_false, ite_true, ite_false, reduceIte, reduceCtorEq, decide_true, decide_false, Nat.reduceAdd, lineN_0, lineN_1, lineN_2, lineN_3, lineN_4, lineN_5, lineN_6, lineN_7, lineN_8, lineN_9, lineN_10, lineN_11, lineN_12, lineN_13, lineN_14, lineN_15, lineN_16, lineN_17, lineN_18, lineN_19, lineN_20, lineN_21, lineN_22, lineN_23, lineN_24]
      · intro x hx'
        exact ⟨[.va (.tup xs), .va x], .v (tpl x), rfl, by simp only [tupled_at_eq n x (gdL_iff.mp hx x hx'), eVar, eC, aNil, aCons, eTup, fLst, eOp1, eOp2, fOp2, eOpN, fOpN, tBl, tAnd2, tOr2, tNt, eAnd, eOr, eNot, eIf, eChain, eCall, fCall, RV.get, frz, frzL, getL, isB, isOwn_un, isOwn_va, isOwn_li, isOwn_di, isOwn_l2, isOwn_io, sRet, sSet, sSetF, putS, isIo_un, isIo_va, isIo_li, isIo_di, isIo_l2, isIo_io, sIf, sDrop, eFz, eSl, fSl, oNo, oSo, ixD_tup, ixD_lst, ixD_scr, slD_tup, slD_lst, slD_scr, slF_lst, slF_scr, tTrue, iSeq, gN, gTp, gsNil, gsCons, eVar2, lenD_tup, lenD_lst, lenD_scr, cmpD_ii, addD_ii, subD_ii, negD_i, ltD_ii, isNonD_n, notNonD_n, L2.Z.isNon, tupD_tup, tupD_lst, lstF_tup, lstF_lst, lstF_scr, flat_int, flat_bl, flat_non, flat_ints, intD_i, intD_b, absD_i, min2D_ii, sFor, fComp, wipeS, unw, noOwn_nil, noOwn_cons, List.map_cons, List.map_nil, List.length_cons, List.length_nil, List.replicate, List.cons_append, List.nil_append, List.getElem?_cons_zero, List.getElem?_cons_succ, List.set_cons_zero, List.set_cons_succ, List.any_cons, List.any_nil, List.all_cons, List.all_nil, Bool.or_false, Bool.false_or, Bool.and_true, Bool.true_and, Bool.not_true, Bool.not_false, Bool.false_and, Bool.and_false, Bool.false_eq_true, if_true, if_false, ite_true, ite_false, reduceIte, reduceCtorEq, decide_true, decide_false, Nat.reduceAdd, lineN_0, lineN_1, lineN_2, lineN_3, lineN_4, lineN_5, lineN_6, lineN_7, lineN_8, lineN_9, lineN_10, lineN_11, lineN_12, lineN_13, lineN_14, lineN_15, lineN_16, lineN_17, lineN_18, lineN_19, lineN_20, lineN_21, lineN_22, lineN_23, lineN_24], rfl, rfl⟩
    | lst xs =>
      cases n with
      | zero => unfold gd at h; cases h
      | succ n =>
      obtain ⟨hl, hx⟩ := gd_lst.mp h
      simp only [isTupD, isLstD, eVar, eC, aNil, aCons, eTup, fLst, eOp1, eOp2, fOp2, eOpN, fOpN, tBl, tAnd2, tOr2, tNt, eAnd, eOr, eNot, eIf, eChain, eCall, fCall, RV.get, frz, frzL, getL, isB, isOwn_un, isOwn_va, isOwn_li, isOwn_di, isOwn_l2, isOwn_io, sRet, sSet, sSetF, putS, isIo_un, isIo_va, isIo_li, isIo_di, isIo_l2, isIo_io, sIf, sDrop, eFz, eSl, fSl, oNo, oSo, ixD_tup, ixD_lst, ixD_scr, slD_tup, slD_lst, slD_scr, slF_lst, slF_scr, tTrue, iSeq, gN, gTp, gsNil, gsCons, eVar2, lenD_tup, lenD_lst, lenD_scr, cmpD_ii, addD_ii, subD_ii, negD_i, ltD_ii, isNonD_n, notNonD_n, L2.Z.isNon, tupD_tup, tupD_lst, lstF_tup, lstF_lst, lstF_scr, flat_int, flat_bl, flat_non, flat_ints, intD_i, intD_b, absD_i, min2D_ii, sFor, fComp, wipeS, unw, noOwn_nil, noOwn_cons, List.map_cons, List.map_nil, List.length_cons, List.length_nil, List.replicate, List.cons_append, List.nil_append, List.getElem?_cons_zero, List.getElem?_cons_succ, List.set_cons_zero, List.set_cons_succ, List.any_cons, List.any_nil, List.all_cons, List.all_nil, Bool.or_false, Bool.false_or, Bool.and_true, Bool.true_and, Bool.not_true, Bool.not_false, Bool.false_and, Bool.and_false, Bool.false_eq_true, if_true, if_false, ite_true, ite_false, reduceIte, reduceCtorEq, decide_true, decide_false, Nat.reduceAdd, lineN_0, lineN_1, lineN_2, lineN_3, lineN_4, lineN_5, lineN_6, lineN_7, lineN_8, lineN_9, lineN_10, lineN_11, lineN_12, lineN_13, lineN_14, lineN_15, lineN_16, lineN_17, lineN_18, lineN_19, lineN_20, lineN_21, lineN_22, lineN_23, lineN_24, decide_eq_true (len_line hl)]
      rw [compGo_mapT (h := tpl)]
      · simp only [tpl, tplL_map, tupD, eVar, eC, aNil, aCons, eTup, fLst, eOp1, eOp2, fOp2, eOpN, fOpN, tBl, tAnd2, tOr2, tNt, eAnd, eOr, eNot, eIf, eChain, eCall, fCall, RV.get, frz, frzL, getL, isB, isOwn_un, isOwn_va, isOwn_li, isOwn_di, isOwn_l2, isOwn_io, sRet, sSet, sSetF, putS, isIo_un, isIo_va, isIo_li, isIo_di, isIo_l2, isIo_io, sIf, sDrop, eFz, eSl, fSl, oNo, oSo, ixD_tup, ixD_lst, ixD_scr, slD_tup, slD_lst, slD_scr, slF_lst, slF_scr, tTrue, iSeq, gN, gTp, gsNil, gsCons, eVar2, lenD_tup, lenD_lst, lenD_scr, cmpD_ii, addD_ii, subD_ii, negD_i, ltD_ii, isNonD_n, notNonD_n, L2.Z.isNon, tupD_tup, tupD_lst, lstF_tup, lstF_lst, lstF_scr, flat_int, flat_bl, flat_non, flat_ints, intD_i, intD_b, absD_i, min2D_ii, sFor, fComp, wipeS, unw, noOwn_nil, noOwn_cons, List.map_cons, List.map_nil, List.length_cons, List.length_nil, List.replicate, List.cons_append, List.nil_append, List.getElem?_cons_zero, List.getElem?_cons_succ, List.set_cons_zero, List.set_cons_succ, List.any_cons, List.any_nil, List.all_cons, List.all_nil, Bool.or_false, Bool.false_or, Bool.and_true, Bool.true_and, Bool.not_true, Bool.not_false, Bool.false_and, Bool.and_false, Bool.false_eq_true, if_true, if_false, ite_true, ite_false, reduceIte, reduceCtorEq, decide_true, decide_false, Nat.reduceAdd, lineN_0, lineN_1, lineN_2, lineN_3, lineN_4, lineN_5, lineN_6, lineN_7, lineN_8, lineN_9, lineN_10, lineN_11, lineN_12, lineN_13, lineN_14, lineN_15, lineN_16, lineN_17, lineN_18, lineN_19, lineN_20, lineN_21, lineN_22, lineN_23, lineN_24]
      · intro x hx'
        exact ⟨[.va (.lst xs), .va x], .v (tpl x), rfl, by simp only [tupled_at_eq n x (gdL_iff.mp hx x hx'), eVar, eC, aNil, aCons, eTup, fLst, eOp1, eOp2, fOp2, eOpN, fOpN, tBl, tAnd2, tOr2, tNt, eAnd, eOr, eNot, eIf, eChain, eCall, fCall, RV.get, frz, frzL, getL, isB, isOwn_un, isOwn_va, isOwn_li, isOwn_di, isOwn_l2, isOwn_io, sRet, sSet, sSetF, putS, isIo_un, isIo_va, isIo_li, isIo_di, isIo_l2, isIo_io, sIf, sDrop, eFz, eSl, fSl, oNo, oSo, ixD_tup, ixD_lst, ixD_scr, slD_tup, slD_lst, slD_scr, slF_lst, slF_scr, tTrue, iSeq, gN, gTp, gsNil, gsCons, eVar2, lenD_tup, lenD_lst, lenD_scr, cmpD_ii, addD_ii, subD_ii, negD_i, ltD_ii, isNonD_n, notNonD_n, L2.Z.isNon, tupD_tup, tupD_lst, lstF_tup, lstF_lst, lstF_scr, flat_int, flat_bl, flat_non, flat_ints, intD_i, intD_b, absD_i, min2D_ii, sFor, fComp, wipeS, unw, noOwn_nil, noOwn_cons, List.map_cons, List.map_nil, List.length_cons, List.length_nil, List.replicate, List.cons_append, List.nil_append, List.getElem?_cons_zero, List.getElem?_cons_succ, List.set_cons_zero, List.set_cons_succ, List.any_cons, List.any_nil, List.all_cons, List.all_nil, Bool.or_false, Bool.false_or, Bool.and_true, Bool.true_and, Bool.not_true, Bool.not_false, Bool.false_and, Bool.and_false, Bool.false_eq_true, if_true, if_false, ite_true, ite_false, reduceIte, reduceCtorEq, decide_true, decide_false, Nat.reduceAdd, lineN_0, lineN_1, lineN_2, lineN_3, lineN_4, lineN_5, lineN_6, lineN_7, lineN_8, lineN_9, lineN_10, lineN_11, lineN_12, lineN_13, lineN_14, lineN_15, lineN_16, lineN_17, lineN_18, lineN_19, lineN_20, lineN_21, lineN_22, lineN_23, lineN_24], rfl, rfl⟩
    | dct k => exact absurd rfl (hn.2.1 _)
    | fn k => exact absurd rfl (hn.1 _)
    | scr k => exact absurd rfl (hn.2.2 _)
    | _ => simp only [isTupD, isLstD, tpl, eVar, eC, aNil, aCons, eTup, fLst, eOp1, eOp2, fOp2, eOpN, fOpN, tBl, tAnd2, tOr2, tNt, eAnd, eOr, eNot, eIf, eChain, eCall, fCall, RV.get, frz, frzL, getL, isB, isOwn_un, isOwn_va, isOwn_li, isOwn_di, isOwn_l2, isOwn_io, sRet, sSet, sSetF, putS, isIo_un, isIo_va, isIo_li, isIo_di, isIo_l2, isIo_io, sIf, sDrop, eFz, eSl, fSl, oNo, oSo, ixD_tup, ixD_lst, ixD_scr, slD_tup, slD_lst, slD_scr, slF_lst, slF_scr, tTrue, iSeq, gN, gTp, gsNil, gsCons, eVar2, lenD_tup, lenD_lst, lenD_scr, cmpD_ii, addD_ii, subD_ii, negD_i, ltD_ii, isNonD_n, notNonD_n, L2.Z.isNon, tupD_tup, tupD_lst, lstF_tup, lstF_lst, lstF_scr, flat_int, flat_bl, flat_non, flat_ints, intD_i, intD_b, absD_i, min2D_ii, sFor, fComp, wipeS, unw, noOwn_nil, noOwn_cons, List.map_cons, List.map_nil, List.length_cons, List.length_nil, List.replicate, List.cons_append, List.nil_append, List.getElem?_cons_zero, List.getElem?_cons_succ, List.set_cons_zero, List.set_cons_succ, List.any_cons, List.any_nil, List.all_cons, List.all_nil, Bool.or_false, Bool.false_or, Bool.and_true, Bool.true_and, Bool.not_true, Bool.not_false, Bool.false_and, Bool.and_false, Bool.false_eq_true, if_true, if_false, ite_true, ite_false, reduceIte, reduceCtorEq, decide_true, decide_false, Nat.reduceAdd, lineN_0, lineN_1, lineN_2, lineN_3, lineN_4, lineN_5, lineN_6, lineN_7, lineN_8, lineN_9, lineN_10, lineN_11, lineN_12, lineN_13, lineN_14, lineN_15, lineN_16, lineN_17, lineN_18, lineN_19, lineN_20, lineN_21, lineN_22, lineN_23, lineN_24]
theorem tupled_eq (d : D) (h : gd 11 d = true) : f_tupled [d] = .ok (tpl d) := tupled_at_eq 11 d h
/-! machines -/
def rowOk (k n : Int) (r : D) : Bool := lenIs k r && allIn (inR 0 (n - 1)) r
def isM : D → Bool
  | .tup [.int k, .tup rows] => decide (1 ≤ k) && decide (k ≤ 4) && (decide (1 ≤ rows.length) && decide (rows.length ≤ 10)) && rows.all (rowOk k rows.length)
  | _ => false
theorem isM_eq (k : Int) (rows : List D) : isM (.tup [.int k, .tup rows]) = (decide (1 ≤ k) && decide (k ≤ 4) && (decide (1 ≤ rows.length) && decide (rows.length ≤ 10)) && rows.all (rowOk k rows.length)) := rfl
theorem is_machine_in_eq {n : Nat} (d : D) (h : gd n d = true) : f_is_machine_in [d] = .ok (.bl (isM d)) := by
  simp only [f_is_machine_in, fnP, m_is_machine_in, sSeq, is_long_eq d 2 (gd_tame h), eVar, eC, aNil, aCons, eTup, fLst, eOp1, eOp2, fOp2, eOpN, fOpN, tBl, tAnd2, tOr2, tNt, eAnd, eOr, eNot, eIf, eChain, eCall, fCall, RV.get, frz, frzL, getL, isB, isOwn_un, isOwn_va, isOwn_li, isOwn_di, isOwn_l2, isOwn_io, sRet, sSet, sSetF, putS, isIo_un, isIo_va, isIo_li, isIo_di, isIo_l2, isIo_io, sIf, sDrop, eFz, eSl, fSl, oNo, oSo, ixD_tup, ixD_lst, ixD_scr, slD_tup, slD_lst, slD_scr, slF_lst, slF_scr, tTrue, iSeq, gN, gTp, gsNil, gsCons, eVar2, lenD_tup, lenD_lst, lenD_scr, cmpD_ii, addD_ii, subD_ii, negD_i, ltD_ii, isNonD_n, notNonD_n, L2.Z.isNon, tupD_tup, tupD_lst, lstF_tup, lstF_lst, lstF_scr, flat_int, flat_bl, flat_non, flat_ints, intD_i, intD_b, absD_i, min2D_ii, sFor, fComp, wipeS, unw, noOwn_nil, noOwn_cons, List.map_cons, List.map_nil, List.length_cons, List.length_nil, List.replicate, List.cons_append, List.nil_append, List.getElem?_cons_zero, List.getElem?_cons_succ, List.set_cons_zero, List.set_cons_succ, List.any_cons, List.any_nil, List.all_cons, List.all_nil, Bool.or_false, Bool.false_or, Bool.and_true, Bool.true_and, Bool.not_true, Bool.not_false, Bool.false_and, Bool.and_false, Bool.false_eq_true, if_true, if_false, ite_true, ite_false, reduceIte, reduceCtorEq, decide_true, decide_false, Nat.reduceAdd, lineN_0, lineN_1, lineN_2, lineN_3, lineN_4, lineN_5, lineN_6, lineN_7, lineN_8, lineN_9, lineN_10, lineN_11, lineN_12, lineN_13, lineN_14, lineN_15, lineN_16, lineN_17, lineN_18, lineN_19, lineN_20, lineN_21, lineN_22, lineN_23, lineN_24]
  cases h2 : lenIs 2 d with
  | false =>
    simp only [eVar, eC, aNil, aCons, eTup, fLst, eOp1, eOp2, fOp2, eOpN, fOpN, tBl, tAnd2, tOr2, tNt, eAnd, eOr, eNot, eIf, eChain, eCall, fCall, RV.get, frz, frzL, getL, isB, isOwn_un, isOwn_va, isOwn_li, isOwn_di, isOwn_l2, isOwn_io, sRet, sSet, sSetF, putS, isIo_un, isIo_va, isIo_li, isIo_di, isIo_l2, isIo_io, sIf, sDrop, eFz, eSl, fSl, oNo, oSo, ixD_tup, ixD_lst, ixD_scr, slD_tup, slD_lst, slD_scr, slF_lst, slF_scr, tTrue, iSeq, gN, gTp, gsNil, gsCons, eVar2, lenD_tup, lenD_lst, lenD_scr, cmpD_ii, addD_ii, subD_ii, negD_i, ltD_ii, isNonD_n, notNonD_n, L2.Z.isNon, tupD_tup, tupD_lst, lstF_tup, lstF_lst, lstF_scr, flat_int, flat_bl, flat_non, flat_ints, intD_i, intD_b, absD_i, min2D_ii, sFor, fComp, wipeS, unw, noOwn_nil, noOwn_cons, List.map_cons, List.map_nil, List.length_cons, List.length_nil, List.replicate, List.cons_append, List.nil_append, List.getElem?_cons_zero, List.getElem?_cons_succ, List.set_cons_zero, List.set_cons_succ, List.any_cons, List.any_nil, List.all_cons, List.all_nil, Bool.or_false, Bool.false_or, Bool.and_true, Bool.true_and, Bool.not_true, Bool.not_false, Bool.false_and, Bool.and_false, Bool.false_eq_true, if_true, if_false, ite_true, ite_false, reduceIte, reduceCtorEq, decide_true, decide_false, Nat.reduceAdd, lineN_0, lineN_1, lineN_2, lineN_3, lineN_4, lineN_5, lineN_6, lineN_7, lineN_8, lineN_9, lineN_10, lineN_11, lineN_12, lineN_13, lineN_14, lineN_15, lineN_16, lineN_17, lineN_18, lineN_19, lineN_20, lineN_21, lineN_22, lineN_23, lineN_24]
    congr 2
    unfold isM
    split
    · simp [lenIs] at h2
    · rfl
  | true =>
    obtain ⟨x, y, rfl⟩ : ∃ x y, d = .tup [x, y] := by
      cases d with
      | tup xs =>
        match xs, h2 with
        | [x, y], _ => exact ⟨x, y, rfl⟩
        | [], h2 => simp [lenIs] at h2
        | [_], h2 => simp [lenIs] at h2
        | _ :: _ :: _ :: r, h2 => simp [lenIs] at h2; omega
      | _ => cases h2
    cases n with
    | zero => unfold gd at h; cases h
    | succ n =>
    have hx := gdL_iff.mp (gd_tup.mp h).2 x (by simp)
    have hy := gdL_iff.mp (gd_tup.mp h).2 y (by simp)
    have e1 := isi_tuple y (gd_tame hy)
    simp only [atI_0, atI_1, is_within_eq x 1 4 (gd_tame hx), eVar, eC, aNil, aCons, eTup, fLst, eOp1, eOp2, fOp2, eOpN, fOpN, tBl, tAnd2, tOr2, tNt, eAnd, eOr, eNot, eIf, eChain, eCall, fCall, RV.get, frz, frzL, getL, isB, isOwn_un, isOwn_va, isOwn_li, isOwn_di, isOwn_l2, isOwn_io, sRet, sSet, sSetF, putS, isIo_un, isIo_va, isIo_li, isIo_di, isIo_l2, isIo_io, sIf, sDrop, eFz, eSl, fSl, oNo, oSo, ixD_tup, ixD_lst, ixD_scr, slD_tup, slD_lst, slD_scr, slF_lst, slF_scr, tTrue, iSeq, gN, gTp, gsNil, gsCons, eVar2, lenD_tup, lenD_lst, lenD_scr, cmpD_ii, addD_ii, subD_ii, negD_i, ltD_ii, isNonD_n, notNonD_n, L2.Z.isNon, tupD_tup, tupD_lst, lstF_tup, lstF_lst, lstF_scr, flat_int, flat_bl, flat_non, flat_ints, intD_i, intD_b, absD_i, min2D_ii, sFor, fComp, wipeS, unw, noOwn_nil, noOwn_cons, List.map_cons, List.map_nil, List.length_cons, List.length_nil, List.replicate, List.cons_append, List.nil_append, List.getElem?_cons_zero, List.getElem?_cons_succ, List.set_cons_zero, List.set_cons_succ, List.any_cons, List.any_nil, List.all_cons, List.all_nil, Bool.or_false, Bool.false_or, Bool.and_true, Bool.true_and, Bool.not_true, Bool.not_false, Bool.false_and, Bool.and_false, Bool.false_eq_true, if_true, if_false, ite_true, ite_false, reduceIte, reduceCtorEq, decide_true, decide_false, Nat.reduceAdd, lineN_0, lineN_1, lineN_2, lineN_3, lineN_4, lineN_5, lineN_6, lineN_7, lineN_8, lineN_9, lineN_10, lineN_11, lineN_12, lineN_13, lineN_14, lineN_15, lineN_16, lineN_17, lineN_18, lineN_19, lineN_20, lineN_21, lineN_22, lineN_23, lineN_24]
    cases hr : inR 1 4 x with
    | false =>
      simp only [eVar, eC, aNil, aCons, eTup, fLst, eOp1, eOp2, fOp2, eOpN, fOpN, tBl, tAnd2, tOr2, tNt, eAnd, eOr, eNot, eIf, eChain, eCall, fCall, RV.get, frz, frzL, getL, isB, isOwn_un, isOwn_va, isOwn_li, isOwn_di, isOwn_l2, isOwn_io, sRet, sSet, sSetF, putS, isIo_un, isIo_va, isIo_li, isIo_di, isIo_l2, isIo_io, sIf, sDrop, eFz, eSl, fSl, oNo, oSo, ixD_tup, ixD_lst, ixD_scr, slD_tup, slD_lst, slD_scr, slF_lst, slF_scr, tTrue, iSeq, gN, gTp, gsNil, gsCons, eVar2, lenD_tup, lenD_lst, lenD_scr, cmpD_ii, addD_ii, subD_ii, negD_i, ltD_ii, isNonD_n, notNonD_n, L2.Z.isNon, tupD_tup, tupD_lst, lstF_tup, lstF_lst, lstF_scr, flat_int, flat_bl, flat_non, flat_ints, intD_i, intD_b, absD_i, min2D_ii, sFor, fComp, wipeS, unw, noOwn_nil, noOwn_cons, List.map_cons, List.map_nil, List.length_cons, List.length_nil, List.replicate, List.cons_append, List.nil_append, List.getElem?_cons_zero, List.getElem?_cons_succ, List.set_cons_zero, List.set_cons_succ, List.any_cons, List.any_nil, List.all_cons, List.all_nil, Bool.or_false, Bool.false_or, Bool.and_true, Bool.true_and, Bool.not_true, Bool.not_false, Bool.false_and, Bool.and_false, Bool.false_eq_true, if_true, if_false, ite_true, ite_false, reduceIte, reduceCtorEq, decide_true, decide_false, Nat.reduceAdd, lineN_0, lineN_1, lineN_2, lineN_3, lineN_4, lineN_5, lineN_6, lineN_7, lineN_8, lineN_9, lineN_10, lineN_11, lineN_12, lineN_13, lineN_14, lineN_15, lineN_16, lineN_17, lineN_18, lineN_19, lineN_20, lineN_21, lineN_22, lineN_23, lineN_24]
      congr 2
      unfold isM
      split
      · rename_i e
        cases e
        simp only [inR] at hr
        rw [hr]; rfl
      · rfl
    | true =>
      cases x with
      | int k =>
        cases y with
        | tup rows =>
          simp only [atI_0, atI_1, e1, isTupD, eVar, eC, aNil, aCons, eTup, fLst, eOp1, eOp2, fOp2, eOpN, fOpN, tBl, tAnd2, tOr2, tNt, eAnd, eOr, eNot, eIf, eChain, eCall, fCall, RV.get, frz, frzL, getL, isB, isOwn_un, isOwn_va, isOwn_li, isOwn_di, isOwn_l2, isOwn_io, sRet, sSet, sSetF, putS, isIo_un, isIo_va, isIo_li, isIo_di, isIo_l2, isIo_io, sIf, sDrop, eFz, eSl, fSl, oNo, oSo, ixD_tup, ixD_lst, ixD_scr, slD_tup, slD_lst, slD_scr, slF_lst, slF_scr, tTrue, iSeq, gN, gTp, gsNil, gsCons, eVar2, lenD_tup, lenD_lst, lenD_scr, cmpD_ii, addD_ii, subD_ii, negD_i, ltD_ii, isNonD_n, notNonD_n, L2.Z.isNon, tupD_tup, tupD_lst, lstF_tup, lstF_lst, lstF_scr, flat_int, flat_bl, flat_non, flat_ints, intD_i, intD_b, absD_i, min2D_ii, sFor, fComp, wipeS, unw, noOwn_nil, noOwn_cons, List.map_cons, List.map_nil, List.length_cons, List.length_nil, List.replicate, List.cons_append, List.nil_append, List.getElem?_cons_zero, List.getElem?_cons_succ, List.set_cons_zero, List.set_cons_succ, List.any_cons, List.any_nil, List.all_cons, List.all_nil, Bool.or_false, Bool.false_or, Bool.and_true, Bool.true_and, Bool.not_true, Bool.not_false, Bool.false_and, Bool.and_false, Bool.false_eq_true, if_true, if_false, ite_true, ite_false, reduceIte, reduceCtorEq, decide_true, decide_false, Nat.reduceAdd, lineN_0, lineN_1, lineN_2, lineN_3, lineN_4, lineN_5, lineN_6, lineN_7, lineN_8, lineN_9, lineN_10, lineN_11, lineN_12, lineN_13, lineN_14, lineN_15, lineN_16, lineN_17, lineN_18, lineN_19, lineN_20, lineN_21, lineN_22, lineN_23, lineN_24]
          have hk : (decide (1 ≤ k) && decide (k ≤ 4)) = true := hr
          by_cases h1 : (1 : Int) ≤ rows.length
          · by_cases h10 : (rows.length : Int) ≤ 10
            · cases n with
              | zero => unfold gd at hy; cases hy
              | succ n =>
              obtain ⟨hl, hrs⟩ := gd_tup.mp hy
              simp only [atI_0, atI_1, decide_eq_true h1, decide_eq_true h10, decide_eq_true (len_line hl), eVar, eC, aNil, aCons, eTup, fLst, eOp1, eOp2, fOp2, eOpN, fOpN, tBl, tAnd2, tOr2, tNt, eAnd, eOr, eNot, eIf, eChain, eCall, fCall, RV.get, frz, frzL, getL, isB, isOwn_un, isOwn_va, isOwn_li, isOwn_di, isOwn_l2, isOwn_io, sRet, sSet, sSetF, putS, isIo_un, isIo_va, isIo_li, isIo_di, isIo_l2, isIo_io, sIf, sDrop, eFz, eSl, fSl, oNo, oSo, ixD_tup, ixD_lst, ixD_scr, slD_tup, slD_lst, slD_scr, slF_lst, slF_scr, tTrue, iSeq, gN, gTp, gsNil, gsCons, eVar2, lenD_tup, lenD_lst, lenD_scr, cmpD_ii, addD_ii, subD_ii, negD_i, ltD_ii, isNonD_n, notNonD_n, L2.Z.isNon, tupD_tup, tupD_lst, lstF_tup, lstF_lst, lstF_scr, flat_int, flat_bl, flat_non, flat_ints, intD_i, intD_b, absD_i, min2D_ii, sFor, fComp, wipeS, unw, noOwn_nil, noOwn_cons, List.map_cons, List.map_nil, List.length_cons, List.length_nil, List.replicate, List.cons_append, List.nil_append, List.getElem?_cons_zero, List.getElem?_cons_succ, List.set_cons_zero, List.set_cons_succ, List.any_cons, List.any_nil, List.all_cons, List.all_nil, Bool.or_false, Bool.false_or, Bool.and_true, Bool.true_and, Bool.not_true, Bool.not_false, Bool.false_and, Bool.and_false, Bool.false_eq_true, if_true, if_false, ite_true, ite_false, reduceIte, reduceCtorEq, decide_true, decide_false, Nat.reduceAdd, lineN_0, lineN_1, lineN_2, lineN_3, lineN_4, lineN_5, lineN_6, lineN_7, lineN_8, lineN_9, lineN_10, lineN_11, lineN_12, lineN_13, lineN_14, lineN_15, lineN_16, lineN_17, lineN_18, lineN_19, lineN_20, lineN_21, lineN_22, lineN_23, lineN_24]
              rw [compGo_mapT (h := fun r => .bl (rowOk k rows.length r))]
              · simp only [allD_map, eVar, eC, aNil, aCons, eTup, fLst, eOp1, eOp2, fOp2, eOpN, fOpN, tBl, tAnd2, tOr2, tNt, eAnd, eOr, eNot, eIf, eChain, eCall, fCall, RV.get, frz, frzL, getL, isB, isOwn_un, isOwn_va, isOwn_li, isOwn_di, isOwn_l2, isOwn_io, sRet, sSet, sSetF, putS, isIo_un, isIo_va, isIo_li, isIo_di, isIo_l2, isIo_io, sIf, sDrop, eFz, eSl, fSl, oNo, oSo, ixD_tup, ixD_lst, ixD_scr, slD_tup, slD_lst, slD_scr, slF_lst, slF_scr, tTrue, iSeq, gN, gTp, gsNil, gsCons, eVar2, lenD_tup, lenD_lst, lenD_scr, cmpD_ii, addD_ii, subD_ii, negD_i, ltD_ii, isNonD_n, notNonD_n, L2.Z.isNon, tupD_tup, tupD_lst, lstF_tup, lstF_lst, lstF_scr, flat_int, flat_bl, flat_non, flat_ints, intD_i, intD_b, absD_i, min2D_ii, sFor, fComp, wipeS, unw, noOwn_nil, noOwn_cons, List.map_cons, List.map_nil, List.length_cons, List.length_nil, List.replicate, List.cons_append, List.nil_append, List.getElem?_cons_zero, List.getElem?_cons_succ, List.set_cons_zero, List.set_cons_succ, List.any_cons, List.any_nil, List.all_cons, List.all_nil, Bool.or_false, Bool.false_or, Bool.and_true, Bool.true_and, Bool.not_true, Bool.not_false, Bool.false_and, Bool.and_false, Bool.false_eq_true, if_true, if_false, ite_true, ite_false, reduceIte, reduceCtorEq, decide_true, decide_false, Nat.reduceAdd, lineN_0, lineN_1, lineN_2, lineN_3, lineN_4, lineN_5, lineN_6, lineN_7, lineN_8, lineN_9, lineN_10, lineN_11, lineN_12, lineN_13, lineN_14, lineN_15, lineN_16, lineN_17, lineN_18, lineN_19, lineN_20, lineN_21, lineN_22, lineN_23, lineN_24]
                congr 2
                rw [isM_eq, hk, show decide (1 ≤ rows.length) = true from decide_eq_true (by omega), show decide (rows.length ≤ 10) = true from decide_eq_true (by omega)]
                rfl
              · intro r hr'
                have hg := gdL_iff.mp hrs r hr'
                refine ⟨[.va (.tup [.int k, .tup rows]), .va (.int rows.length), .va r], .v (.bl (rowOk k rows.length r)), rfl, ?_, rfl, rfl⟩
                simp only [atI_0, is_long_eq r k (gd_tame hg), eVar, eC, aNil, aCons, eTup, fLst, eOp1, eOp2, fOp2, eOpN, fOpN, tBl, tAnd2, tOr2, tNt, eAnd, eOr, eNot, eIf, eChain, eCall, fCall, RV.get, frz, frzL, getL, isB, isOwn_un, isOwn_va, isOwn_li, isOwn_di, isOwn_l2, isOwn_io, sRet, sSet, sSetF, putS, isIo_un, isIo_va, isIo_li, isIo_di, isIo_l2, isIo_io, sIf, sDrop, eFz, eSl, fSl, oNo, oSo, ixD_tup, ixD_lst, ixD_scr, slD_tup, slD_lst, slD_scr, slF_lst, slF_scr, tTrue, iSeq, gN, gTp, gsNil, gsCons, eVar2, lenD_tup, lenD_lst, lenD_scr, cmpD_ii, addD_ii, subD_ii, negD_i, ltD_ii, isNonD_n, notNonD_n, L2.Z.isNon, tupD_tup, tupD_lst, lstF_tup, lstF_lst, lstF_scr, flat_int, flat_bl, flat_non, flat_ints, intD_i, intD_b, absD_i, min2D_ii, sFor, fComp, wipeS, unw, noOwn_nil, noOwn_cons, List.map_cons, List.map_nil, List.length_cons, List.length_nil, List.replicate, List.cons_append, List.nil_append, List.getElem?_cons_zero, List.getElem?_cons_succ, List.set_cons_zero, List.set_cons_succ, List.any_cons, List.any_nil, List.all_cons, List.all_nil, Bool.or_false, Bool.false_or, Bool.and_true, Bool.true_and, Bool.not_true, Bool.not_false, Bool.false_and, Bool.and_false, Bool.false_eq_true, if_true, if_false, ite_true, ite_false, reduceIte, reduceCtorEq, decide_true, decide_false, Nat.reduceAdd, lineN_0, lineN_1, lineN_2, lineN_3, lineN_4, lineN_5, lineN_6, lineN_7, lineN_8, lineN_9, lineN_10, lineN_11, lineN_12, lineN_13, lineN_14, lineN_15, lineN_16, lineN_17, lineN_18, lineN_19, lineN_20, lineN_21, lineN_22, lineN_23, lineN_24]
                cases hq : lenIs k r with
                | false => simp only [rowOk, hq, eVar, eC, aNil, aCons, eTup, fLst, eOp1, eOp2, fOp2, eOpN, fOpN, tBl, tAnd2, tOr2, tNt, eAnd, eOr, eNot, eIf, eChain, eCall, fCall, RV.get, frz, frzL, getL, isB, isOwn_un, isOwn_va, isOwn_li, isOwn_di, isOwn_l2, isOwn_io, sRet, sSet, sSetF, putS, isIo_un, isIo_va, isIo_li, isIo_di, isIo_l2, isIo_io, sIf, sDrop, eFz, eSl, fSl, oNo, oSo, ixD_tup, ixD_lst, ixD_scr, slD_tup, slD_lst, slD_scr, slF_lst, slF_scr, tTrue, iSeq, gN, gTp, gsNil, gsCons, eVar2, lenD_tup, lenD_lst, lenD_scr, cmpD_ii, addD_ii, subD_ii, negD_i, ltD_ii, isNonD_n, notNonD_n, L2.Z.isNon, tupD_tup, tupD_lst, lstF_tup, lstF_lst, lstF_scr, flat_int, flat_bl, flat_non, flat_ints, intD_i, intD_b, absD_i, min2D_ii, sFor, fComp, wipeS, unw, noOwn_nil, noOwn_cons, List.map_cons, List.map_nil, List.length_cons, List.length_nil, List.replicate, List.cons_append, List.nil_append, List.getElem?_cons_zero, List.getElem?_cons_succ, List.set_cons_zero, List.set_cons_succ, List.any_cons, List.any_nil, List.all_cons, List.all_nil, Bool.or_false, Bool.false_or, Bool.and_true, Bool.true_and, Bool.not_true, Bool.not_false, Bool.false_and, Bool.and_false, Bool.false_eq_true, if_true, if_false, ite_true, ite_false, reduceIte, reduceCtorEq, decide_true, decide_false, Nat.reduceAdd, lineN_0, lineN_1, lineN_2, lineN_3, lineN_4, lineN_5, lineN_6, lineN_7, lineN_8, lineN_9, lineN_10, lineN_11, lineN_12, lineN_13, lineN_14, lineN_15, lineN_16, lineN_17, lineN_18, lineN_19, lineN_20, lineN_21, lineN_22, lineN_23, lineN_24]
                | true => simp only [are_within_eq r 0 _ hg, rowOk, hq, eVar, eC, aNil, aCons, eTup, fLst, eOp1, eOp2, fOp2, eOpN, fOpN, tBl, tAnd2, tOr2, tNt, eAnd, eOr, eNot, eIf, eChain, eCall, fCall, RV.get, frz, frzL, getL, isB, isOwn_un, isOwn_va, isOwn_li, isOwn_di, isOwn_l2, isOwn_io, sRet, sSet, sSetF, putS, isIo_un, isIo_va, isIo_li, isIo_di, isIo_l2, isIo_io, sIf, sDrop, eFz, eSl, fSl, oNo, oSo, ixD_tup, ixD_lst, ixD_scr, slD_tup, slD_lst, slD_scr, slF_lst, slF_scr, tTrue, iSeq, gN, gTp, gsNil, gsCons, eVar2, lenD_tup, lenD_lst, lenD_scr, cmpD_ii, addD_ii, subD_ii, negD_i, ltD_ii, isNonD_n, notNonD_n, L2.Z.isNon, tupD_tup, tupD_lst, lstF_tup, lstF_lst, lstF_scr, flat_int, flat_bl, flat_non, flat_ints, intD_i, intD_b, absD_i, min2D_ii, sFor, fComp, wipeS, unw, noOwn_nil, noOwn_cons, List.map_cons, List.map_nil, List.length_cons, List.length_nil, List.replicate, List.cons_append, List.nil_append, List.getElem?_cons_zero, List.getElem?_cons_succ, List.set_cons_zero, List.set_cons_succ, List.any_cons, List.any_nil, List.all_cons, List.all_nil, Bool.or_false, Bool.false_or, Bool.and_true, Bool.true_and, Bool.not_true, Bool.not_false, Bool.false_and, Bool.and_false, Bool.false_eq_true, if_true, if_false, ite_true, ite_false, reduceIte, reduceCtorEq, decide_true, decide_false, Nat.reduceAdd, lineN_0, lineN_1, lineN_2, lineN_3, lineN_4, lineN_5, lineN_6, lineN_7, lineN_8, lineN_9, lineN_10, lineN_11, lineN_12, lineN_13, lineN_14, lineN_15, lineN_16, lineN_17, lineN_18, lineN_19, lineN_20, lineN_21, lineN_22, lineN_23, lineN_24]
            · simp only [decide_eq_true h1, decide_eq_false h10, eVar, eC, aNil, aCons, eTup, fLst, eOp1, eOp2, fOp2, eOpN, fOpN, tBl, tAnd2, tOr2, tNt, eAnd, eOr, eNot, eIf, eChain, eCall, fCall, RV.get, frz, frzL, getL, isB, isOwn_un, isOwn_va, isOwn_li, isOwn_di, isOwn_l2, isOwn_io, sRet, sSet, sSetF, putS, isIo_un, isIo_va, isIo_li, isIo_di, isIo_l2, isIo_io, sIf, sDrop, eFz, eSl, fSl, oNo, oSo, ixD_tup, ixD_lst, ixD_scr, slD_tup, slD_lst, slD_scr, slF_lst, slF_scr, tTrue, iSeq, gN, gTp, gsNil, gsCons, eVar2, lenD_tup, lenD_lst, lenD_scr, cmpD_ii, addD_ii, subD_ii, negD_i, ltD_ii, isNonD_n, notNonD_n, L2.Z.isNon, tupD_tup, tupD_lst, lstF_tup, lstF_lst, lstF_scr, flat_int, flat_bl, flat_non, flat_ints, intD_i, intD_b, absD_i, min2D_ii, sFor, fComp, wipeS, unw, noOwn_nil, noOwn_cons, List.map_cons, List.map_nil, List.length_cons, List.length_nil, List.replicate, List.cons_append, List.nil_append, List.getElem?_cons_zero, List.getElem?_cons_succ, List.set_cons_zero, List.set_cons_succ, List.any_cons, List.any_nil, List.all_cons, List.all_nil, Bool.or_false, Bool.false_or, Bool.and_true, Bool.true_and, Bool.not_true, Bool.not_false, Bool.false_and, Bool.and_false, Bool.false_eq_true, if_true, if_false, ite_true, ite_false, reduceIte, reduceCtorEq, decide_true, decide_false, Nat.reduceAdd, lineN_0, lineN_1, lineN_2, lineN_3, lineN_4, lineN_5, lineN_6, lineN_7, lineN_8, lineN_9, lineN_10, lineN_11, lineN_12, lineN_13, lineN_14, lineN_15, lineN_16, lineN_17, lineN_18, lineN_19, lineN_20, lineN_21, lineN_22, lineN_23, lineN_24]
              congr 2
              rw [isM_eq, show decide (rows.length ≤ 10) = false from decide_eq_false (by omega)]
              simp
          · simp only [decide_eq_false h1, eVar, eC, aNil, aCons, eTup, fLst, eOp1, eOp2, fOp2, eOpN, fOpN, tBl, tAnd2, tOr2, tNt, eAnd, eOr, eNot, eIf, eChain, eCall, fCall, RV.get, frz, frzL, getL, isB, isOwn_un, isOwn_va, isOwn_li, isOwn_di, isOwn_l2, isOwn_io, sRet, sSet, sSetF, putS, isIo_un, isIo_va, isIo_li, isIo_di, isIo_l2, isIo_io, sIf, sDrop, eFz, eSl, fSl, oNo, oSo, ixD_tup, ixD_lst, ixD_scr, slD_tup, slD_lst, slD_scr, slF_lst, slF_scr, tTrue, iSeq, gN, gTp, gsNil, gsCons, eVar2, lenD_tup, lenD_lst, lenD_scr, cmpD_ii, addD_ii, subD_ii, negD_i, ltD_ii, isNonD_n, notNonD_n, L2.Z.isNon, tupD_tup, tupD_lst, lstF_tup, lstF_lst, lstF_scr, flat_int, flat_bl, flat_non, flat_ints, intD_i, intD_b, absD_i, min2D_ii, sFor, fComp, wipeS, unw, noOwn_nil, noOwn_cons, List.map_cons, List.map_nil, List.length_cons, List.length_nil, List.replicate, List.cons_append, List.nil_append, List.getElem?_cons_zero, List.getElem?_cons_succ, List.set_cons_zero, List.set_cons_succ, List.any_cons, List.any_nil, List.all_cons, List.all_nil, Bool.or_false, Bool.false_or, Bool.and_true, Bool.true_and, Bool.not_true, Bool.not_false, Bool.false_and, Bool.and_false, Bool.false_eq_true, if_true, if_false, ite_true, ite_false, reduceIte, reduceCtorEq, decide_true, decide_false, Nat.reduceAdd, lineN_0, lineN_1, lineN_2, lineN_3, lineN_4, lineN_5, lineN_6, lineN_7, lineN_8, lineN_9, lineN_10, lineN_11, lineN_12, lineN_13, lineN_14, lineN_15, lineN_16, lineN_17, lineN_18, lineN_19, lineN_20, lineN_21, lineN_22, lineN_23, lineN_24]
            congr 2
            rw [isM_eq, show decide (1 ≤ rows.length) = false from decide_eq_false (by omega)]
            simp
        | _ =>
          simp only [atI_0, atI_1, e1, isTupD, eVar, eC, aNil, aCons, eTup, fLst, eOp1, eOp2, fOp2, eOpN, fOpN, tBl, tAnd2, tOr2, tNt, eAnd, eOr, eNot, eIf, eChain, eCall, fCall, RV.get, frz, frzL, getL, isB, isOwn_un, isOwn_va, isOwn_li, isOwn_di, isOwn_l2, isOwn_io, sRet, sSet, sSetF, putS, isIo_un, isIo_va, isIo_li, isIo_di, isIo_l2, isIo_io, sIf, sDrop, eFz, eSl, fSl, oNo, oSo, ixD_tup, ixD_lst, ixD_scr, slD_tup, slD_lst, slD_scr, slF_lst, slF_scr, tTrue, iSeq, gN, gTp, gsNil, gsCons, eVar2, lenD_tup, lenD_lst, lenD_scr, cmpD_ii, addD_ii, subD_ii, negD_i, ltD_ii, isNonD_n, notNonD_n, L2.Z.isNon, tupD_tup, tupD_lst, lstF_tup, lstF_lst, lstF_scr, flat_int, flat_bl, flat_non, flat_ints, intD_i, intD_b, absD_i, min2D_ii, sFor, fComp, wipeS, unw, noOwn_nil, noOwn_cons, List.map_cons, List.map_nil, List.length_cons, List.length_nil, List.replicate, List.cons_append, List.nil_append, List.getElem?_cons_zero, List.getElem?_cons_succ, List.set_cons_zero, List.set_cons_succ, List.any_cons, List.any_nil, List.all_cons, List.all_nil, Bool.or_false, Bool.false_or, Bool.and_true, Bool.true_and, Bool.not_true, Bool.not_false, Bool.false_and, Bool.and_false, Bool.false_eq_true, if_true, if_false, ite_true, ite_false, reduceIte, reduceCtorEq, decide_true, decide_false, Nat.reduceAdd, lineN_0, lineN_1, lineN_2, lineN_3, lineN_4, lineN_5, lineN_6, lineN_7, lineN_8, lineN_9, lineN_10, lineN_11, lineN_12, lineN_13, lineN_14, lineN_15, lineN_16, lineN_17, lineN_18, lineN_19, lineN_20, lineN_21, lineN_22, lineN_23, lineN_24]
          rfl
      | _ => cases hr
theorem sure_machine_eq (d : D) (h : gd 11 d = true) : f_sure_machine [d] = if isM (tpl d) = true then .ok (tpl d) else .ex ⟨0, none⟩ := by
  simp only [f_sure_machine, fnP, m_sure_machine, sSeq, tupled_eq d h, is_machine_in_eq (tpl d) (tpl_gd 11 d h), eVar, eC, aNil, aCons, eTup, fLst, eOp1, eOp2, fOp2, eOpN, fOpN, tBl, tAnd2, tOr2, tNt, eAnd, eOr, eNot, eIf, eChain, eCall, fCall, RV.get, frz, frzL, getL, isB, isOwn_un, isOwn_va, isOwn_li, isOwn_di, isOwn_l2, isOwn_io, sRet, sSet, sSetF, putS, isIo_un, isIo_va, isIo_li, isIo_di, isIo_l2, isIo_io, sIf, sDrop, eFz, eSl, fSl, oNo, oSo, ixD_tup, ixD_lst, ixD_scr, slD_tup, slD_lst, slD_scr, slF_lst, slF_scr, tTrue, iSeq, gN, gTp, gsNil, gsCons, eVar2, lenD_tup, lenD_lst, lenD_scr, cmpD_ii, addD_ii, subD_ii, negD_i, ltD_ii, isNonD_n, notNonD_n, L2.Z.isNon, tupD_tup, tupD_lst, lstF_tup, lstF_lst, lstF_scr, flat_int, flat_bl, flat_non, flat_ints, intD_i, intD_b, absD_i, min2D_ii, sFor, fComp, wipeS, unw, noOwn_nil, noOwn_cons, List.map_cons, List.map_nil, List.length_cons, List.length_nil, List.replicate, List.cons_append, List.nil_append, List.getElem?_cons_zero, List.getElem?_cons_succ, List.set_cons_zero, List.set_cons_succ, List.any_cons, List.any_nil, List.all_cons, List.all_nil, Bool.or_false, Bool.false_or, Bool.and_true, Bool.true_and, Bool.not_true, Bool.not_false, Bool.false_and, Bool.and_false, Bool.false_eq_true, if_true, if_false, ite_true, ite_false, reduceIte, reduceCtorEq, decide_true, decide_false, Nat.reduceAdd, lineN_0, lineN_1, lineN_2, lineN_3, lineN_4, lineN_5, lineN_6, lineN_7, lineN_8, lineN_9, lineN_10, lineN_11, lineN_12, lineN_13, lineN_14, lineN_15, lineN_16, lineN_17, lineN_18, lineN_19, lineN_20, lineN_21, lineN_22, lineN_23, lineN_24]
  cases isM (tpl d) <;> simp only [eVar, eC, aNil, aCons, eTup, fLst, eOp1, eOp2, fOp2, eOpN, fOpN, tBl, tAnd2, tOr2, tNt, eAnd, eOr, eNot, eIf, eChain, eCall, fCall, RV.get, frz, frzL, getL, isB, isOwn_un, isOwn_va, isOwn_li, isOwn_di, isOwn_l2, isOwn_io, sRet, sSet, sSetF, putS, isIo_un, isIo_va, isIo_li, isIo_di, isIo_l2, isIo_io, sIf, sDrop, eFz, eSl, fSl, oNo, oSo, ixD_tup, ixD_lst, ixD_scr, slD_tup, slD_lst, slD_scr, slF_lst, slF_scr, tTrue, iSeq, gN, gTp, gsNil, gsCons, eVar2, lenD_tup, lenD_lst, lenD_scr, cmpD_ii, addD_ii, subD_ii, negD_i, ltD_ii, isNonD_n, notNonD_n, L2.Z.isNon, tupD_tup, tupD_lst, lstF_tup, lstF_lst, lstF_scr, flat_int, flat_bl, flat_non, flat_ints, intD_i, intD_b, absD_i, min2D_ii, sFor, fComp, wipeS, unw, noOwn_nil, noOwn_cons, List.map_cons, List.map_nil, List.length_cons, List.length_nil, List.replicate, List.cons_append, List.nil_append, List.getElem?_cons_zero, List.getElem?_cons_succ, List.set_cons_zero, List.set_cons_succ, List.any_cons, List.any_nil, List.all_cons, List.all_nil, Bool.or_false, Bool.false_or, Bool.and_true, Bool.true_and, Bool.not_true, Bool.not_false, Bool.false_and, Bool.and_false, Bool.false_eq_true, if_true, if_false, ite_true, ite_false, reduceIte, reduceCtorEq, decide_true, decide_false, Nat.reduceAdd, lineN_0, lineN_1, lineN_2, lineN_3, lineN_4, lineN_5, lineN_6, lineN_7, lineN_8, lineN_9, lineN_10, lineN_11, lineN_12, lineN_13, lineN_14, lineN_15, lineN_16, lineN_17, lineN_18, lineN_19, lineN_20, lineN_21, lineN_22, lineN_23, lineN_24]
/-! good machines -/
def rowD (r : List Int) : D := .tup (r.map D.int)
def rowsD (rows : List (List Int)) : D := .tup (rows.map rowD)
def mD (k : Int) (rows : List (List Int)) : D := .tup [.int k, rowsD rows]
structure Mach (k : Int) (rows : List (List Int)) : Prop where
  k1 : 1 ≤ k
  k4 : k ≤ 4
  n1 : 1 ≤ rows.length
  n10 : rows.length ≤ 10
  len : ∀ r ∈ rows, (r.length : Int) = k
  ent : ∀ r ∈ rows, ∀ v ∈ r, 0 ≤ v ∧ v < rows.length
theorem allIn_ints (a b : Int) (ns : List Int) : allIn (inR a b) (.tup (ns.map D.int)) = decide (∀ v ∈ ns, a ≤ v ∧ v ≤ b) := by
  show (ns.map D.int).all (inR a b) = _
  rw [Bool.eq_iff_iff, List.all_eq_true, decide_eq_true_eq]
  constructor
  · intro h v hv
    have := h (.int v) (List.mem_map.mpr ⟨v, hv, rfl⟩)
    simpa [inR] using this
  · intro h x hx
    obtain ⟨v, hv, rfl⟩ := List.mem_map.mp hx
    simpa [inR] using h v hv
theorem isM_mach {k : Int} {rows : List (List Int)} (M : Mach k rows) : isM (mD k rows) = true := by
  show (decide (1 ≤ k) && decide (k ≤ 4) && (decide (1 ≤ (rows.map rowD).length) && decide ((rows.map rowD).length ≤ 10)) && (rows.map rowD).all (rowOk k (rows.map rowD).length)) = true
  rw [decide_eq_true M.k1, decide_eq_true M.k4, List.length_map, decide_eq_true M.n1, decide_eq_true M.n10]
  simp only [Bool.and_self, Bool.true_and, List.all_eq_true]
  intro x hx
  obtain ⟨r, hr, rfl⟩ := List.mem_map.mp hx
  unfold rowOk rowD
  rw [allIn_ints, Bool.and_eq_true]
  refine ⟨?_, decide_eq_true fun v hv => ?_⟩
  · show decide (((r.map D.int).length : Int) = k) = true
    rw [List.length_map]; exact decide_eq_true (M.len r hr)
  · have := M.ent r hr v hv; omega
theorem gd_row (n : Nat) (r : List Int) (h : r.length ≤ 1000) : gd (n + 1) (rowD r) = true := gd_tup.mpr ⟨by rw [List.length_map]; exact h, gdL_ints n r⟩
theorem gd_mach {k : Int} {rows : List (List Int)} (M : Mach k rows) (n : Nat) : gd (n + 3) (mD k rows) = true := by
  refine gd_tup.mpr ⟨by simp, gdL_iff.mpr fun x hx => ?_⟩
  rcases List.mem_cons.mp hx with rfl | hx
  · exact gd_int _ _
  · rw [List.mem_singleton] at hx; subst hx
    have := M.n10
    refine gd_tup.mpr ⟨by rw [List.length_map]; omega, gdL_iff.mpr fun y hy => ?_⟩
    obtain ⟨r, hr, rfl⟩ := List.mem_map.mp hy
    have h1 := M.len r hr
    have h2 := M.k4
    exact gd_row n r (by omega)
theorem tpl_row (r : List Int) : tpl (rowD r) = rowD r := by
  unfold rowD tpl; rw [tpl_ints]
theorem tpl_rows (rows : List (List Int)) : tpl (rowsD rows) = rowsD rows := by
  unfold rowsD tpl
  rw [tplL_map, List.map_map]
  congr 1
  apply List.map_congr_left
  intro r _
  exact tpl_row r
theorem tpl_mach (k : Int) (rows : List (List Int)) : tpl (mD k rows) = mD k rows := by
  unfold mD tpl
  simp only [tplL, tpl_rows]
  unfold tpl; rfl
theorem sure_machine_m {k : Int} {rows : List (List Int)} (M : Mach k rows) : f_sure_machine [mD k rows] = .ok (mD k rows) := by
  rw [sure_machine_eq _ (gd_mach M 8), tpl_mach, if_pos (isM_mach M)]
/-- a value that the machine's lists and tuples make -/
theorem sure_machine_t {k : Int} {rows : List (List Int)} (M : Mach k rows) {d : D} (hg : gd 11 d = true) (ht : tpl d = mD k rows) : f_sure_machine [d] = .ok (mD k rows) := by
  rw [sure_machine_eq _ hg, ht, if_pos (isM_mach M)]
end L2.G04

/-! part P04b -/
set_option Elab.async false
set_option linter.all false
set_option maxRecDepth 100000
set_option maxHeartbeats 4000000
namespace L2.G04
open PySem L2.Z
def wD (w : List Int) : D := .tup (w.map D.int)
def lenLe (n : Int) : D → Bool
  | .tup xs => decide ((xs.length : Int) ≤ n)
  | _ => false
def isW (k : Int) (d : D) : Bool := allIn (inR 0 (k - 1)) d && lenLe 400 d
theorem is_word_in_eq {n : Nat} (k : Int) (rows : List (List Int)) (d : D) (h : gd n d = true) : f_is_word_in [mD k rows, d] = .ok (.bl (isW k d)) := by
  simp only [f_is_word_in, fnP, m_is_word_in, mD, atI_0, are_within_eq d 0 _ h, eVar, eC, aNil, aCons, eTup, fLst, eOp1, eOp2, fOp2, eOpN, fOpN, tBl, tAnd2, tOr2, tNt, eAnd, eOr, eNot, eIf, eChain, eCall, fCall, RV.get, frz, frzL, getL, isB, isOwn_un, isOwn_va, isOwn_li, isOwn_di, isOwn_l2, isOwn_io, sRet, sSet, sSetF, putS, isIo_un, isIo_va, isIo_li, isIo_di, isIo_l2, isIo_io, sIf, sDrop, eFz, eSl, fSl, oNo, oSo, ixD_tup, ixD_lst, ixD_scr, slD_tup, slD_lst, slD_scr, slF_lst, slF_scr, tTrue, iSeq, gN, gTp, gsNil, gsCons, eVar2, lenD_tup, lenD_lst, lenD_scr, cmpD_ii, addD_ii, subD_ii, negD_i, ltD_ii, isNonD_n, notNonD_n, L2.Z.isNon, tupD_tup, tupD_lst, lstF_tup, lstF_lst, lstF_scr, flat_int, flat_bl, flat_non, flat_ints, intD_i, intD_b, absD_i, min2D_ii, sFor, fComp, wipeS, unw, noOwn_nil, noOwn_cons, List.map_cons, List.map_nil, List.length_cons, List.length_nil, List.replicate, List.cons_append, List.nil_append, List.getElem?_cons_zero, List.getElem?_cons_succ, List.set_cons_zero, List.set_cons_succ, List.any_cons, List.any_nil, List.all_cons, List.all_nil, Bool.or_false, Bool.false_or, Bool.and_true, Bool.true_and, Bool.not_true, Bool.not_false, Bool.false_and, Bool.and_false, Bool.false_eq_true, if_true, if_false, ite_true, ite_false, reduceIte, reduceCtorEq, decide_true, decide_false, Nat.reduceAdd, lineN_0, lineN_1, lineN_2, lineN_3, lineN_4, lineN_5, lineN_6, lineN_7, lineN_8, lineN_9, lineN_10, lineN_11, lineN_12, lineN_13, lineN_14, lineN_15, lineN_16, lineN_17, lineN_18, lineN_19, lineN_20, lineN_21, lineN_22, lineN_23, lineN_24]
  cases hq : allIn (inR 0 (k - 1)) d with
  | false => simp only [isW, hq, eVar, eC, aNil, aCons, eTup, fLst, eOp1, eOp2, fOp2, eOpN, fOpN, tBl, tAnd2, tOr2, tNt, eAnd, eOr, eNot, eIf, eChain, eCall, fCall, RV.get, frz, frzL, getL, isB, isOwn_un, isOwn_va, isOwn_li, isOwn_di, isOwn_l2, isOwn_io, sRet, sSet, sSetF, putS, isIo_un, isIo_va, isIo_li, isIo_di, isIo_l2, isIo_io, sIf, sDrop, eFz, eSl, fSl, oNo, oSo, ixD_tup, ixD_lst, ixD_scr, slD_tup, slD_lst, slD_scr, slF_lst, slF_scr, tTrue, iSeq, gN, gTp, gsNil, gsCons, eVar2, lenD_tup, lenD_lst, lenD_scr, cmpD_ii, addD_ii, subD_ii, negD_i, ltD_ii, isNonD_n, notNonD_n, L2.Z.isNon, tupD_tup, tupD_lst, lstF_tup, lstF_lst, lstF_scr, flat_int, flat_bl, flat_non, flat_ints, intD_i, intD_b, absD_i, min2D_ii, sFor, fComp, wipeS, unw, noOwn_nil, noOwn_cons, List.map_cons, List.map_nil, List.length_cons, List.length_nil, List.replicate, List.cons_append, List.nil_append, List.getElem?_cons_zero, List.getElem?_cons_succ, List.set_cons_zero, List.set_cons_succ, List.any_cons, List.any_nil, List.all_cons, List.all_nil, Bool.or_false, Bool.false_or, Bool.and_true, Bool.true_and, Bool.not_true, Bool.not_false, Bool.false_and, Bool.and_false, Bool.false_eq_true, if_true, if_false, ite_true, ite_false, reduceIte, reduceCtorEq, decide_true, decide_false, Nat.reduceAdd, lineN_0, lineN_1, lineN_2, lineN_3, lineN_4, lineN_5, lineN_6, lineN_7, lineN_8, lineN_9, lineN_10, lineN_11, lineN_12, lineN_13, lineN_14, lineN_15, lineN_16, lineN_17, lineN_18, lineN_19, lineN_20, lineN_21, lineN_22, lineN_23, lineN_24]
  | true =>
    cases d with
    | tup xs => simp only [isW, hq, lenLe, eVar, eC, aNil, aCons, eTup, fLst, eOp1, eOp2, fOp2, eOpN, fOpN, tBl, tAnd2, tOr2, tNt, eAnd, eOr, eNot, eIf, eChain, eCall, fCall, RV.get, frz, frzL, getL, isB, isOwn_un, isOwn_va, isOwn_li, isOwn_di, isOwn_l2, isOwn_io, sRet, sSet, sSetF, putS, isIo_un, isIo_va, isIo_li, isIo_di, isIo_l2, isIo_io, sIf, sDrop, eFz, eSl, fSl, oNo, oSo, ixD_tup, ixD_lst, ixD_scr, slD_tup, slD_lst, slD_scr, slF_lst, slF_scr, tTrue, iSeq, gN, gTp, gsNil, gsCons, eVar2, lenD_tup, lenD_lst, lenD_scr, cmpD_ii, addD_ii, subD_ii, negD_i, ltD_ii, isNonD_n, notNonD_n, L2.Z.isNon, tupD_tup, tupD_lst, lstF_tup, lstF_lst, lstF_scr, flat_int, flat_bl, flat_non, flat_ints, intD_i, intD_b, absD_i, min2D_ii, sFor, fComp, wipeS, unw, noOwn_nil, noOwn_cons, List.map_cons, List.map_nil, List.length_cons, List.length_nil, List.replicate, List.cons_append, List.nil_append, List.getElem?_cons_zero, List.getElem?_cons_succ, List.set_cons_zero, List.set_cons_succ, List.any_cons, List.any_nil, List.all_cons, List.all_nil, Bool.or_false, Bool.false_or, Bool.and_true, Bool.true_and, Bool.not_true, Bool.not_false, Bool.false_and, Bool.and_false, Bool.false_eq_true, if_true, if_false, ite_true, ite_false, reduceIte, reduceCtorEq, decide_true, decide_false, Nat.reduceAdd, lineN_0, lineN_1, lineN_2, lineN_3, lineN_4, lineN_5, lineN_6, lineN_7, lineN_8, lineN_9, lineN_10, lineN_11, lineN_12, lineN_13, lineN_14, lineN_15, lineN_16, lineN_17, lineN_18, lineN_19, lineN_20, lineN_21, lineN_22, lineN_23, lineN_24]
    | _ => cases hq
theorem sure_word_eq (k : Int) (rows : List (List Int)) (d : D) (h : gd 11 d = true) : f_sure_word [mD k rows, d] = if isW k (tpl d) = true then .ok (tpl d) else .ex ⟨0, none⟩ := by
  simp only [f_sure_word, fnP, m_sure_word, sSeq, tupled_eq d h, is_word_in_eq k rows (tpl d) (tpl_gd 11 d h), eVar, eC, aNil, aCons, eTup, fLst, eOp1, eOp2, fOp2, eOpN, fOpN, tBl, tAnd2, tOr2, tNt, eAnd, eOr, eNot, eIf, eChain, eCall, fCall, RV.get, frz, frzL, getL, isB, isOwn_un, isOwn_va, isOwn_li, isOwn_di, isOwn_l2, isOwn_io, sRet, sSet, sSetF, putS, isIo_un, isIo_va, isIo_li, isIo_di, isIo_l2, isIo_io, sIf, sDrop, eFz, eSl, fSl, oNo, oSo, ixD_tup, ixD_lst, ixD_scr, slD_tup, slD_lst, slD_scr, slF_lst, slF_scr, tTrue, iSeq, gN, gTp, gsNil, gsCons, eVar2, lenD_tup, lenD_lst, lenD_scr, cmpD_ii, addD_ii, subD_ii, negD_i, ltD_ii, isNonD_n, notNonD_n, L2.Z.isNon, tupD_tup, tupD_lst, lstF_tup, lstF_lst, lstF_scr, flat_int, flat_bl, flat_non, flat_ints, intD_i, intD_b, absD_i, min2D_ii, sFor, fComp, wipeS, unw, noOwn_nil, noOwn_cons, List.map_cons, List.map_nil, List.length_cons, List.length_nil, List.replicate, List.cons_append, List.nil_append, List.getElem?_cons_zero, List.getElem?_cons_succ, List.set_cons_zero, List.set_cons_succ, List.any_cons, List.any_nil, List.all_cons, List.all_nil, Bool.or_false, Bool.false_or, Bool.and_true, Bool.true_and, Bool.not_true, Bool.not_false, Bool.false_and, Bool.and_false, Bool.false_eq_true, if_true, if_false, ite_true, ite_false, reduceIte, reduceCtorEq, decide_true, decide_false, Nat.reduceAdd, lineN_0, lineN_1, lineN_2, lineN_3, lineN_4, lineN_5, lineN_6, lineN_7, lineN_8, lineN_9, lineN_10, lineN_11, lineN_12, lineN_13, lineN_14, lineN_15, lineN_16, lineN_17, lineN_18, lineN_19, lineN_20, lineN_21, lineN_22, lineN_23, lineN_24]
  cases isW k (tpl d) <;> simp only [eVar, eC, aNil, aCons, eTup, fLst, eOp1, eOp2, fOp2, eOpN, fOpN, tBl, tAnd2, tOr2, tNt, eAnd, eOr, eNot, eIf, eChain, eCall, fCall, RV.get, frz, frzL, getL, isB, isOwn_un, isOwn_va, isOwn_li, isOwn_di, isOwn_l2, isOwn_io, sRet, sSet, sSetF, putS, isIo_un, isIo_va, isIo_li, isIo_di, isIo_l2, isIo_io, sIf, sDrop, eFz, eSl, fSl, oNo, oSo, ixD_tup, ixD_lst, ixD_scr, slD_tup, slD_lst, slD_scr, slF_lst, slF_scr, tTrue, iSeq, gN, gTp, gsNil, gsCons, eVar2, lenD_tup, lenD_lst, lenD_scr, cmpD_ii, addD_ii, subD_ii, negD_i, ltD_ii, isNonD_n, notNonD_n, L2.Z.isNon, tupD_tup, tupD_lst, lstF_tup, lstF_lst, lstF_scr, flat_int, flat_bl, flat_non, flat_ints, intD_i, intD_b, absD_i, min2D_ii, sFor, fComp, wipeS, unw, noOwn_nil, noOwn_cons, List.map_cons, List.map_nil, List.length_cons, List.length_nil, List.replicate, List.cons_append, List.nil_append, List.getElem?_cons_zero, List.getElem?_cons_succ, List.set_cons_zero, List.set_cons_succ, List.any_cons, List.any_nil, List.all_cons, List.all_nil, Bool.or_false, Bool.false_or, Bool.and_true, Bool.true_and, Bool.not_true, Bool.not_false, Bool.false_and, Bool.and_false, Bool.false_eq_true, if_true, if_false, ite_true, ite_false, reduceIte, reduceCtorEq, decide_true, decide_false, Nat.reduceAdd, lineN_0, lineN_1, lineN_2, lineN_3, lineN_4, lineN_5, lineN_6, lineN_7, lineN_8, lineN_9, lineN_10, lineN_11, lineN_12, lineN_13, lineN_14, lineN_15, lineN_16, lineN_17, lineN_18, lineN_19, lineN_20, lineN_21, lineN_22, lineN_23, lineN_24]
structure Wd (k : Int) (w : List Int) : Prop where
  len : w.length ≤ 400
  ent : ∀ v ∈ w, 0 ≤ v ∧ v < k
theorem isW_wd {k : Int} {w : List Int} (W : Wd k w) : isW k (wD w) = true := by
  unfold isW wD
  rw [allIn_ints, Bool.and_eq_true]
  refine ⟨decide_eq_true fun v hv => ?_, ?_⟩
  · have := W.ent v hv; omega
  · show decide (((w.map D.int).length : Int) ≤ 400) = true
    have := W.len
    rw [List.length_map]; exact decide_eq_true (by omega)
theorem tpl_w (w : List Int) : tpl (wD w) = wD w := tpl_row w
theorem gd_w {w : List Int} (h : w.length ≤ 1000) (n : Nat) : gd (n + 1) (wD w) = true := gd_row n w h
theorem sure_word_w {k : Int} {w : List Int} (W : Wd k w) (rows : List (List Int)) : f_sure_word [mD k rows, wD w] = .ok (wD w) := by
  rw [sure_word_eq k rows _ (gd_w (by have := W.len; omega) 10), tpl_w, if_pos (isW_wd W)]
theorem sure_word_l {k : Int} {w : List Int} (W : Wd k w) (rows : List (List Int)) : f_sure_word [mD k rows, .lst (w.map D.int)] = .ok (wD w) := by
  rw [sure_word_eq k rows _ (gd_lst.mpr ⟨by have := W.len; rw [List.length_map]; omega, gdL_ints 10 w⟩)]
  have : tpl (.lst (w.map D.int)) = wD w := by unfold tpl; rw [tpl_ints]; rfl
  rw [this, if_pos (isW_wd W)]
theorem sure_place_eq (k : Int) (rows : List (List Int)) (d : D) (h : tame d = true) : f_sure_place [mD k rows, d] = if inR 0 (rows.length - 1) d = true then .ok d else .ex ⟨0, none⟩ := by
  simp only [f_sure_place, fnP, m_sure_place, mD, rowsD, atI_1, sure_within_eq d 0 _ h, List.length_map, eVar, eC, aNil, aCons, eTup, fLst, eOp1, eOp2, fOp2, eOpN, fOpN, tBl, tAnd2, tOr2, tNt, eAnd, eOr, eNot, eIf, eChain, eCall, fCall, RV.get, frz, frzL, getL, isB, isOwn_un, isOwn_va, isOwn_li, isOwn_di, isOwn_l2, isOwn_io, sRet, sSet, sSetF, putS, isIo_un, isIo_va, isIo_li, isIo_di, isIo_l2, isIo_io, sIf, sDrop, eFz, eSl, fSl, oNo, oSo, ixD_tup, ixD_lst, ixD_scr, slD_tup, slD_lst, slD_scr, slF_lst, slF_scr, tTrue, iSeq, gN, gTp, gsNil, gsCons, eVar2, lenD_tup, lenD_lst, lenD_scr, cmpD_ii, addD_ii, subD_ii, negD_i, ltD_ii, isNonD_n, notNonD_n, L2.Z.isNon, tupD_tup, tupD_lst, lstF_tup, lstF_lst, lstF_scr, flat_int, flat_bl, flat_non, flat_ints, intD_i, intD_b, absD_i, min2D_ii, sFor, fComp, wipeS, unw, noOwn_nil, noOwn_cons, List.map_cons, List.map_nil, List.length_cons, List.length_nil, List.replicate, List.cons_append, List.nil_append, List.getElem?_cons_zero, List.getElem?_cons_succ, List.set_cons_zero, List.set_cons_succ, List.any_cons, List.any_nil, List.all_cons, List.all_nil, Bool.or_false, Bool.false_or, Bool.and_true, Bool.true_and, Bool.not_true, Bool.not_false, Bool.false_and, Bool.and_false, Bool.false_eq_true, if_true, if_false, ite_true, ite_false, reduceIte, reduceCtorEq, decide_true, decide_false, Nat.reduceAdd, lineN_0, lineN_1, lineN_2, lineN_3, lineN_4, lineN_5, lineN_6, lineN_7, lineN_8, lineN_9, lineN_10, lineN_11, lineN_12, lineN_13, lineN_14, lineN_15, lineN_16, lineN_17, lineN_18, lineN_19, lineN_20, lineN_21, lineN_22, lineN_23, lineN_24]
  cases inR 0 (rows.length - 1) d <;> simp only [eVar, eC, aNil, aCons, eTup, fLst, eOp1, eOp2, fOp2, eOpN, fOpN, tBl, tAnd2, tOr2, tNt, eAnd, eOr, eNot, eIf, eChain, eCall, fCall, RV.get, frz, frzL, getL, isB, isOwn_un, isOwn_va, isOwn_li, isOwn_di, isOwn_l2, isOwn_io, sRet, sSet, sSetF, putS, isIo_un, isIo_va, isIo_li, isIo_di, isIo_l2, isIo_io, sIf, sDrop, eFz, eSl, fSl, oNo, oSo, ixD_tup, ixD_lst, ixD_scr, slD_tup, slD_lst, slD_scr, slF_lst, slF_scr, tTrue, iSeq, gN, gTp, gsNil, gsCons, eVar2, lenD_tup, lenD_lst, lenD_scr, cmpD_ii, addD_ii, subD_ii, negD_i, ltD_ii, isNonD_n, notNonD_n, L2.Z.isNon, tupD_tup, tupD_lst, lstF_tup, lstF_lst, lstF_scr, flat_int, flat_bl, flat_non, flat_ints, intD_i, intD_b, absD_i, min2D_ii, sFor, fComp, wipeS, unw, noOwn_nil, noOwn_cons, List.map_cons, List.map_nil, List.length_cons, List.length_nil, List.replicate, List.cons_append, List.nil_append, List.getElem?_cons_zero, List.getElem?_cons_succ, List.set_cons_zero, List.set_cons_succ, List.any_cons, List.any_nil, List.all_cons, List.all_nil, Bool.or_false, Bool.false_or, Bool.and_true, Bool.true_and, Bool.not_true, Bool.not_false, Bool.false_and, Bool.and_false, Bool.false_eq_true, if_true, if_false, ite_true, ite_false, reduceIte, reduceCtorEq, decide_true, decide_false, Nat.reduceAdd, lineN_0, lineN_1, lineN_2, lineN_3, lineN_4, lineN_5, lineN_6, lineN_7, lineN_8, lineN_9, lineN_10, lineN_11, lineN_12, lineN_13, lineN_14, lineN_15, lineN_16, lineN_17, lineN_18, lineN_19, lineN_20, lineN_21, lineN_22, lineN_23, lineN_24]
theorem sure_letter_eq (k : Int) (rows : List (List Int)) (d : D) (h : tame d = true) : f_sure_letter [mD k rows, d] = if inR 0 (k - 1) d = true then .ok d else .ex ⟨0, none⟩ := by
  simp only [f_sure_letter, fnP, m_sure_letter, mD, rowsD, atI_0, sure_within_eq d 0 _ h, List.length_map, eVar, eC, aNil, aCons, eTup, fLst, eOp1, eOp2, fOp2, eOpN, fOpN, tBl, tAnd2, tOr2, tNt, eAnd, eOr, eNot, eIf, eChain, eCall, fCall, RV.get, frz, frzL, getL, isB, isOwn_un, isOwn_va, isOwn_li, isOwn_di, isOwn_l2, isOwn_io, sRet, sSet, sSetF, putS, isIo_un, isIo_va, isIo_li, isIo_di, isIo_l2, isIo_io, sIf, sDrop, eFz, eSl, fSl, oNo, oSo, ixD_tup, ixD_lst, ixD_scr, slD_tup, slD_lst, slD_scr, slF_lst, slF_scr, tTrue, iSeq, gN, gTp, gsNil, gsCons, eVar2, lenD_tup, lenD_lst, lenD_scr, cmpD_ii, addD_ii, subD_ii, negD_i, ltD_ii, isNonD_n, notNonD_n, L2.Z.isNon, tupD_tup, tupD_lst, lstF_tup, lstF_lst, lstF_scr, flat_int, flat_bl, flat_non, flat_ints, intD_i, intD_b, absD_i, min2D_ii, sFor, fComp, wipeS, unw, noOwn_nil, noOwn_cons, List.map_cons, List.map_nil, List.length_cons, List.length_nil, List.replicate, List.cons_append, List.nil_append, List.getElem?_cons_zero, List.getElem?_cons_succ, List.set_cons_zero, List.set_cons_succ, List.any_cons, List.any_nil, List.all_cons, List.all_nil, Bool.or_false, Bool.false_or, Bool.and_true, Bool.true_and, Bool.not_true, Bool.not_false, Bool.false_and, Bool.and_false, Bool.false_eq_true, if_true, if_false, ite_true, ite_false, reduceIte, reduceCtorEq, decide_true, decide_false, Nat.reduceAdd, lineN_0, lineN_1, lineN_2, lineN_3, lineN_4, lineN_5, lineN_6, lineN_7, lineN_8, lineN_9, lineN_10, lineN_11, lineN_12, lineN_13, lineN_14, lineN_15, lineN_16, lineN_17, lineN_18, lineN_19, lineN_20, lineN_21, lineN_22, lineN_23, lineN_24]
  cases inR 0 (k - 1) d <;> simp only [eVar, eC, aNil, aCons, eTup, fLst, eOp1, eOp2, fOp2, eOpN, fOpN, tBl, tAnd2, tOr2, tNt, eAnd, eOr, eNot, eIf, eChain, eCall, fCall, RV.get, frz, frzL, getL, isB, isOwn_un, isOwn_va, isOwn_li, isOwn_di, isOwn_l2, isOwn_io, sRet, sSet, sSetF, putS, isIo_un, isIo_va, isIo_li, isIo_di, isIo_l2, isIo_io, sIf, sDrop, eFz, eSl, fSl, oNo, oSo, ixD_tup, ixD_lst, ixD_scr, slD_tup, slD_lst, slD_scr, slF_lst, slF_scr, tTrue, iSeq, gN, gTp, gsNil, gsCons, eVar2, lenD_tup, lenD_lst, lenD_scr, cmpD_ii, addD_ii, subD_ii, negD_i, ltD_ii, isNonD_n, notNonD_n, L2.Z.isNon, tupD_tup, tupD_lst, lstF_tup, lstF_lst, lstF_scr, flat_int, flat_bl, flat_non, flat_ints, intD_i, intD_b, absD_i, min2D_ii, sFor, fComp, wipeS, unw, noOwn_nil, noOwn_cons, List.map_cons, List.map_nil, List.length_cons, List.length_nil, List.replicate, List.cons_append, List.nil_append, List.getElem?_cons_zero, List.getElem?_cons_succ, List.set_cons_zero, List.set_cons_succ, List.any_cons, List.any_nil, List.all_cons, List.all_nil, Bool.or_false, Bool.false_or, Bool.and_true, Bool.true_and, Bool.not_true, Bool.not_false, Bool.false_and, Bool.and_false, Bool.false_eq_true, if_true, if_false, ite_true, ite_false, reduceIte, reduceCtorEq, decide_true, decide_false, Nat.reduceAdd, lineN_0, lineN_1, lineN_2, lineN_3, lineN_4, lineN_5, lineN_6, lineN_7, lineN_8, lineN_9, lineN_10, lineN_11, lineN_12, lineN_13, lineN_14, lineN_15, lineN_16, lineN_17, lineN_18, lineN_19, lineN_20, lineN_21, lineN_22, lineN_23, lineN_24]
theorem inR_int {a b i : Int} (h : a ≤ i ∧ i ≤ b) : inR a b (.int i) = true := by simp [inR, h.1, h.2]
theorem sure_place_i {k : Int} {rows : List (List Int)} {p : Int} (h : 0 ≤ p ∧ p < rows.length) : f_sure_place [mD k rows, .int p] = .ok (.int p) := by
  rw [sure_place_eq k rows _ rfl, if_pos (inR_int (by omega))]
theorem sure_letter_i {k : Int} {rows : List (List Int)} {p : Int} (h : 0 ≤ p ∧ p < k) : f_sure_letter [mD k rows, .int p] = .ok (.int p) := by
  rw [sure_letter_eq k rows _ rfl, if_pos (inR_int (by omega))]
theorem ix_m0 (k : Int) (rows : List (List Int)) : ixD (mD k rows) (.int 0) = some (.int k) := atI_0 _ _
theorem ix_m1 (k : Int) (rows : List (List Int)) : ixD (mD k rows) (.int 1) = some (rowsD rows) := atI_1 _ _ _
theorem ix_rows {rows : List (List Int)} {p : Int} {r : D} (h : L2.atI (rows.map rowD) p = some r) : ixD (rowsD rows) (.int p) = some r := h
theorem ix_row {r : List Int} {p : Int} {x : D} (h : L2.atI (r.map D.int) p = some x) : ixD (rowD r) (.int p) = some x := h
/-! walking -/
def at2 (rows : List (List Int)) (p a : Int) : Int := (rows.getD p.toNat []).getD a.toNat 0
def goI (rows : List (List Int)) (p : Int) (w : List Int) : Int := w.foldl (at2 rows) p
section
variable {k : Int} {rows : List (List Int)} (M : Mach k rows)
include M
theorem at2_ok {p a : Int} (hp : 0 ≤ p ∧ p < rows.length) (ha : 0 ≤ a ∧ a < k) : L2.atI (rows.map rowD) p = some (rowD (rows.getD p.toNat [])) ∧ L2.atI ((rows.getD p.toNat []).map D.int) a = some (.int (at2 rows p a)) ∧ 0 ≤ at2 rows p a ∧ at2 rows p a < rows.length := by
  have h1 : p.toNat < rows.length := by omega
  have e1 : rows[p.toNat]? = some (rows.getD p.toNat []) := by
    rw [List.getD_eq_getElem?_getD, List.getElem?_eq_getElem h1]; rfl
  have m1 : rows.getD p.toNat [] ∈ rows := List.mem_of_getElem? e1
  have hl := M.len _ m1
  have h2 : a.toNat < (rows.getD p.toNat []).length := by omega
  have e2 : (rows.getD p.toNat [])[a.toNat]? = some (at2 rows p a) := by
    unfold at2
    rw [List.getD_eq_getElem?_getD (l := rows.getD p.toNat []), List.getElem?_eq_getElem h2]; rfl
  refine ⟨atI_i hp.1 (by rw [List.getElem?_map, e1]; rfl), atI_i ha.1 (by rw [List.getElem?_map, e2]; rfl), M.ent _ m1 _ (List.mem_of_getElem? e2)⟩
theorem goI_ok : ∀ {w : List Int} {p : Int}, (0 ≤ p ∧ p < rows.length) → (∀ v ∈ w, 0 ≤ v ∧ v < k) → 0 ≤ goI rows p w ∧ goI rows p w < rows.length
  | [], p, hp, _ => hp
  | a :: w, p, hp, hw => goI_ok (w := w) (at2_ok M hp (hw a (List.mem_cons_self ..))).2.2 fun v hv => hw v (List.mem_cons_of_mem _ hv)
theorem led_loop (W : D) : ∀ (w : List Int) (p : Int) (x : SV), (0 ≤ p ∧ p < rows.length) → (∀ v ∈ w, 0 ≤ v ∧ v < k) → isIo x = false →
    ∃ x', isIo x' = false ∧ forGo (gN 3) (sSet 1 (eOp2 ixD (eOp2 ixD (eOp2 ixD (eVar 0) (eC (.int 1))) (eVar 1)) (eVar 3))) (w.map D.int) [.va (mD k rows), .va (.int p), .va W, x] = .nx [.va (mD k rows), .va (.int (goI rows p w)), .va W, x']
  | [], p, x, _, _, hx => ⟨x, hx, rfl⟩
  | a :: w, p, x, hp, hw, hx => by
    obtain ⟨h1, h2, h3⟩ := at2_ok M hp (hw a (List.mem_cons_self ..))
    obtain ⟨x', hx', e⟩ := led_loop W w (at2 rows p a) (.va (.int a)) h3 (fun v hv => hw v (List.mem_cons_of_mem _ hv)) rfl
    refine ⟨x', hx', ?_⟩
    rw [List.map_cons]
    unfold forGo
    simp only [hx, mD, rowsD, rowD, atI_1, eVar, eC, aNil, aCons, eTup, fLst, eOp1, eOp2, fOp2, eOpN, fOpN, tBl, tAnd2, tOr2, tNt, eAnd, eOr, eNot, eIf, eChain, eCall, fCall, RV.get, frz, frzL, getL, isB, isOwn_un, isOwn_va, isOwn_li, isOwn_di, isOwn_l2, isOwn_io, sRet, sSet, sSetF, putS, isIo_un, isIo_va, isIo_li, isIo_di, isIo_l2, isIo_io, sIf, sDrop, eFz, eSl, fSl, oNo, oSo, ixD_tup, ixD_lst, ixD_scr, slD_tup, slD_lst, slD_scr, slF_lst, slF_scr, tTrue, iSeq, gN, gTp, gsNil, gsCons, eVar2, lenD_tup, lenD_lst, lenD_scr, cmpD_ii, addD_ii, subD_ii, negD_i, ltD_ii, isNonD_n, notNonD_n, L2.Z.isNon, tupD_tup, tupD_lst, lstF_tup, lstF_lst, lstF_scr, flat_int, flat_bl, flat_non, flat_ints, intD_i, intD_b, absD_i, min2D_ii, sFor, fComp, wipeS, unw, noOwn_nil, noOwn_cons, List.map_cons, List.map_nil, List.length_cons, List.length_nil, List.replicate, List.cons_append, List.nil_append, List.getElem?_cons_zero, List.getElem?_cons_succ, List.set_cons_zero, List.set_cons_succ, List.any_cons, List.any_nil, List.all_cons, List.all_nil, Bool.or_false, Bool.false_or, Bool.and_true, Bool.true_and, Bool.not_true, Bool.not_false, Bool.false_and, Bool.and_false, Bool.false_eq_true, if_true, if_false, ite_true, ite_false, reduceIte, reduceCtorEq, decide_true, decide_false, Nat.reduceAdd, lineN_0, lineN_1, lineN_2, lineN_3, lineN_4, lineN_5, lineN_6, lineN_7, lineN_8, lineN_9, lineN_10, lineN_11, lineN_12, lineN_13, lineN_14, lineN_15, lineN_16, lineN_17, lineN_18, lineN_19, lineN_20, lineN_21, lineN_22, lineN_23, lineN_24] at h1 h2 e ⊢
    simp only [h1, h2, eVar, eC, aNil, aCons, eTup, fLst, eOp1, eOp2, fOp2, eOpN, fOpN, tBl, tAnd2, tOr2, tNt, eAnd, eOr, eNot, eIf, eChain, eCall, fCall, RV.get, frz, frzL, getL, isB, isOwn_un, isOwn_va, isOwn_li, isOwn_di, isOwn_l2, isOwn_io, sRet, sSet, sSetF, putS, isIo_un, isIo_va, isIo_li, isIo_di, isIo_l2, isIo_io, sIf, sDrop, eFz, eSl, fSl, oNo, oSo, ixD_tup, ixD_lst, ixD_scr, slD_tup, slD_lst, slD_scr, slF_lst, slF_scr, tTrue, iSeq, gN, gTp, gsNil, gsCons, eVar2, lenD_tup, lenD_lst, lenD_scr, cmpD_ii, addD_ii, subD_ii, negD_i, ltD_ii, isNonD_n, notNonD_n, L2.Z.isNon, tupD_tup, tupD_lst, lstF_tup, lstF_lst, lstF_scr, flat_int, flat_bl, flat_non, flat_ints, intD_i, intD_b, absD_i, min2D_ii, sFor, fComp, wipeS, unw, noOwn_nil, noOwn_cons, List.map_cons, List.map_nil, List.length_cons, List.length_nil, List.replicate, List.cons_append, List.nil_append, List.getElem?_cons_zero, List.getElem?_cons_succ, List.set_cons_zero, List.set_cons_succ, List.any_cons, List.any_nil, List.all_cons, List.all_nil, Bool.or_false, Bool.false_or, Bool.and_true, Bool.true_and, Bool.not_true, Bool.not_false, Bool.false_and, Bool.and_false, Bool.false_eq_true, if_true, if_false, ite_true, ite_false, reduceIte, reduceCtorEq, decide_true, decide_false, Nat.reduceAdd, lineN_0, lineN_1, lineN_2, lineN_3, lineN_4, lineN_5, lineN_6, lineN_7, lineN_8, lineN_9, lineN_10, lineN_11, lineN_12, lineN_13, lineN_14, lineN_15, lineN_16, lineN_17, lineN_18, lineN_19, lineN_20, lineN_21, lineN_22, lineN_23, lineN_24]
    exact e
theorem led_in_eq {w : List Int} {p : Int} (hp : 0 ≤ p ∧ p < rows.length) (W : Wd k w) : f_led_in [mD k rows, .int p, wD w] = .ok (.int (goI rows p w)) := by
  obtain ⟨x', _, e⟩ := led_loop M (wD w) w p .un hp W.ent rfl
  simp only [f_led_in, fnP, m_led_in, sSeq, wD, eVar, eC, aNil, aCons, eTup, fLst, eOp1, eOp2, fOp2, eOpN, fOpN, tBl, tAnd2, tOr2, tNt, eAnd, eOr, eNot, eIf, eChain, eCall, fCall, RV.get, frz, frzL, getL, isB, isOwn_un, isOwn_va, isOwn_li, isOwn_di, isOwn_l2, isOwn_io, sRet, sSet, sSetF, putS, isIo_un, isIo_va, isIo_li, isIo_di, isIo_l2, isIo_io, sIf, sDrop, eFz, eSl, fSl, oNo, oSo, ixD_tup, ixD_lst, ixD_scr, slD_tup, slD_lst, slD_scr, slF_lst, slF_scr, tTrue, iSeq, gN, gTp, gsNil, gsCons, eVar2, lenD_tup, lenD_lst, lenD_scr, cmpD_ii, addD_ii, subD_ii, negD_i, ltD_ii, isNonD_n, notNonD_n, L2.Z.isNon, tupD_tup, tupD_lst, lstF_tup, lstF_lst, lstF_scr, flat_int, flat_bl, flat_non, flat_ints, intD_i, intD_b, absD_i, min2D_ii, sFor, fComp, wipeS, unw, noOwn_nil, noOwn_cons, List.map_cons, List.map_nil, List.length_cons, List.length_nil, List.replicate, List.cons_append, List.nil_append, List.getElem?_cons_zero, List.getElem?_cons_succ, List.set_cons_zero, List.set_cons_succ, List.any_cons, List.any_nil, List.all_cons, List.all_nil, Bool.or_false, Bool.false_or, Bool.and_true, Bool.true_and, Bool.not_true, Bool.not_false, Bool.false_and, Bool.and_false, Bool.false_eq_true, if_true, if_false, ite_true, ite_false, reduceIte, reduceCtorEq, decide_true, decide_false, Nat.reduceAdd, lineN_0, lineN_1, lineN_2, lineN_3, lineN_4, lineN_5, lineN_6, lineN_7, lineN_8, lineN_9, lineN_10, lineN_11, lineN_12, lineN_13, lineN_14, lineN_15, lineN_16, lineN_17, lineN_18, lineN_19, lineN_20, lineN_21, lineN_22, lineN_23, lineN_24] at e ⊢
  simp only [e, eVar, eC, aNil, aCons, eTup, fLst, eOp1, eOp2, fOp2, eOpN, fOpN, tBl, tAnd2, tOr2, tNt, eAnd, eOr, eNot, eIf, eChain, eCall, fCall, RV.get, frz, frzL, getL, isB, isOwn_un, isOwn_va, isOwn_li, isOwn_di, isOwn_l2, isOwn_io, sRet, sSet, sSetF, putS, isIo_un, isIo_va, isIo_li, isIo_di, isIo_l2, isIo_io, sIf, sDrop, eFz, eSl, fSl, oNo, oSo, ixD_tup, ixD_lst, ixD_scr, slD_tup, slD_lst, slD_scr, slF_lst, slF_scr, tTrue, iSeq, gN, gTp, gsNil, gsCons, eVar2, lenD_tup, lenD_lst, lenD_scr, cmpD_ii, addD_ii, subD_ii, negD_i, ltD_ii, isNonD_n, notNonD_n, L2.Z.isNon, tupD_tup, tupD_lst, lstF_tup, lstF_lst, lstF_scr, flat_int, flat_bl, flat_non, flat_ints, intD_i, intD_b, absD_i, min2D_ii, sFor, fComp, wipeS, unw, noOwn_nil, noOwn_cons, List.map_cons, List.map_nil, List.length_cons, List.length_nil, List.replicate, List.cons_append, List.nil_append, List.getElem?_cons_zero, List.getElem?_cons_succ, List.set_cons_zero, List.set_cons_succ, List.any_cons, List.any_nil, List.all_cons, List.all_nil, Bool.or_false, Bool.false_or, Bool.and_true, Bool.true_and, Bool.not_true, Bool.not_false, Bool.false_and, Bool.and_false, Bool.false_eq_true, if_true, if_false, ite_true, ite_false, reduceIte, reduceCtorEq, decide_true, decide_false, Nat.reduceAdd, lineN_0, lineN_1, lineN_2, lineN_3, lineN_4, lineN_5, lineN_6, lineN_7, lineN_8, lineN_9, lineN_10, lineN_11, lineN_12, lineN_13, lineN_14, lineN_15, lineN_16, lineN_17, lineN_18, lineN_19, lineN_20, lineN_21, lineN_22, lineN_23, lineN_24]
theorem go_loop (W : D) : ∀ (w : List Int) (p : Int) (x : SV), (0 ≤ p ∧ p < rows.length) → (∀ v ∈ w, 0 ≤ v ∧ v < k) → isIo x = false →
    ∃ x', isIo x' = false ∧ forGo (gN 3) (sSet 1 (eOp2 ixD (eOp2 ixD (eVar 0) (eVar 1)) (eVar 3))) (w.map D.int) [.va (rowsD rows), .va (.int p), .va W, x] = .nx [.va (rowsD rows), .va (.int (goI rows p w)), .va W, x']
  | [], p, x, _, _, hx => ⟨x, hx, rfl⟩
  | a :: w, p, x, hp, hw, hx => by
    obtain ⟨h1, h2, h3⟩ := at2_ok M hp (hw a (List.mem_cons_self ..))
    obtain ⟨x', hx', e⟩ := go_loop W w (at2 rows p a) (.va (.int a)) h3 (fun v hv => hw v (List.mem_cons_of_mem _ hv)) rfl
    refine ⟨x', hx', ?_⟩
    rw [List.map_cons]
    unfold forGo
    simp only [hx, rowsD, rowD, eVar, eC, aNil, aCons, eTup, fLst, eOp1, eOp2, fOp2, eOpN, fOpN, tBl, tAnd2, tOr2, tNt, eAnd, eOr, eNot, eIf, eChain, eCall, fCall, RV.get, frz, frzL, getL, isB, isOwn_un, isOwn_va, isOwn_li, isOwn_di, isOwn_l2, isOwn_io, sRet, sSet, sSetF, putS, isIo_un, isIo_va, isIo_li, isIo_di, isIo_l2, isIo_io, sIf, sDrop, eFz, eSl, fSl, oNo, oSo, ixD_tup, ixD_lst, ixD_scr, slD_tup, slD_lst, slD_scr, slF_lst, slF_scr, tTrue, iSeq, gN, gTp, gsNil, gsCons, eVar2, lenD_tup, lenD_lst, lenD_scr, cmpD_ii, addD_ii, subD_ii, negD_i, ltD_ii, isNonD_n, notNonD_n, L2.Z.isNon, tupD_tup, tupD_lst, lstF_tup, lstF_lst, lstF_scr, flat_int, flat_bl, flat_non, flat_ints, intD_i, intD_b, absD_i, min2D_ii, sFor, fComp, wipeS, unw, noOwn_nil, noOwn_cons, List.map_cons, List.map_nil, List.length_cons, List.length_nil, List.replicate, List.cons_append, List.nil_append, List.getElem?_cons_zero, List.getElem?_cons_succ, List.set_cons_zero, List.set_cons_succ, List.any_cons, List.any_nil, List.all_cons, List.all_nil, Bool.or_false, Bool.false_or, Bool.and_true, Bool.true_and, Bool.not_true, Bool.not_false, Bool.false_and, Bool.and_false, Bool.false_eq_true, if_true, if_false, ite_true, ite_false, reduceIte, reduceCtorEq, decide_true, decide_false, Nat.reduceAdd, lineN_0, lineN_1, lineN_2, lineN_3, lineN_4, lineN_5, lineN_6, lineN_7, lineN_8, lineN_9, lineN_10, lineN_11, lineN_12, lineN_13, lineN_14, lineN_15, lineN_16, lineN_17, lineN_18, lineN_19, lineN_20, lineN_21, lineN_22, lineN_23, lineN_24] at h1 h2 e ⊢
    simp only [h1, h2, eVar, eC, aNil, aCons, eTup, fLst, eOp1, eOp2, fOp2, eOpN, fOpN, tBl, tAnd2, tOr2, tNt, eAnd, eOr, eNot, eIf, eChain, eCall, fCall, RV.get, frz, frzL, getL, isB, isOwn_un, isOwn_va, isOwn_li, isOwn_di, isOwn_l2, isOwn_io, sRet, sSet, sSetF, putS, isIo_un, isIo_va, isIo_li, isIo_di, isIo_l2, isIo_io, sIf, sDrop, eFz, eSl, fSl, oNo, oSo, ixD_tup, ixD_lst, ixD_scr, slD_tup, slD_lst, slD_scr, slF_lst, slF_scr, tTrue, iSeq, gN, gTp, gsNil, gsCons, eVar2, lenD_tup, lenD_lst, lenD_scr, cmpD_ii, addD_ii, subD_ii, negD_i, ltD_ii, isNonD_n, notNonD_n, L2.Z.isNon, tupD_tup, tupD_lst, lstF_tup, lstF_lst, lstF_scr, flat_int, flat_bl, flat_non, flat_ints, intD_i, intD_b, absD_i, min2D_ii, sFor, fComp, wipeS, unw, noOwn_nil, noOwn_cons, List.map_cons, List.map_nil, List.length_cons, List.length_nil, List.replicate, List.cons_append, List.nil_append, List.getElem?_cons_zero, List.getElem?_cons_succ, List.set_cons_zero, List.set_cons_succ, List.any_cons, List.any_nil, List.all_cons, List.all_nil, Bool.or_false, Bool.false_or, Bool.and_true, Bool.true_and, Bool.not_true, Bool.not_false, Bool.false_and, Bool.and_false, Bool.false_eq_true, if_true, if_false, ite_true, ite_false, reduceIte, reduceCtorEq, decide_true, decide_false, Nat.reduceAdd, lineN_0, lineN_1, lineN_2, lineN_3, lineN_4, lineN_5, lineN_6, lineN_7, lineN_8, lineN_9, lineN_10, lineN_11, lineN_12, lineN_13, lineN_14, lineN_15, lineN_16, lineN_17, lineN_18, lineN_19, lineN_20, lineN_21, lineN_22, lineN_23, lineN_24]
    exact e
theorem law_go_eq {w : List Int} {p : Int} (hp : 0 ≤ p ∧ p < rows.length) (W : ∀ v ∈ w, 0 ≤ v ∧ v < k) : f_law_go [rowsD rows, .int p, wD w] = .ok (.int (goI rows p w)) := by
  obtain ⟨x', _, e⟩ := go_loop M (wD w) w p .un hp W rfl
  simp only [f_law_go, fnP, m_law_go, sSeq, wD, eVar, eC, aNil, aCons, eTup, fLst, eOp1, eOp2, fOp2, eOpN, fOpN, tBl, tAnd2, tOr2, tNt, eAnd, eOr, eNot, eIf, eChain, eCall, fCall, RV.get, frz, frzL, getL, isB, isOwn_un, isOwn_va, isOwn_li, isOwn_di, isOwn_l2, isOwn_io, sRet, sSet, sSetF, putS, isIo_un, isIo_va, isIo_li, isIo_di, isIo_l2, isIo_io, sIf, sDrop, eFz, eSl, fSl, oNo, oSo, ixD_tup, ixD_lst, ixD_scr, slD_tup, slD_lst, slD_scr, slF_lst, slF_scr, tTrue, iSeq, gN, gTp, gsNil, gsCons, eVar2, lenD_tup, lenD_lst, lenD_scr, cmpD_ii, addD_ii, subD_ii, negD_i, ltD_ii, isNonD_n, notNonD_n, L2.Z.isNon, tupD_tup, tupD_lst, lstF_tup, lstF_lst, lstF_scr, flat_int, flat_bl, flat_non, flat_ints, intD_i, intD_b, absD_i, min2D_ii, sFor, fComp, wipeS, unw, noOwn_nil, noOwn_cons, List.map_cons, List.map_nil, List.length_cons, List.length_nil, List.replicate, List.cons_append, List.nil_append, List.getElem?_cons_zero, List.getElem?_cons_succ, List.set_cons_zero, List.set_cons_succ, List.any_cons, List.any_nil, List.all_cons, List.all_nil, Bool.or_false, Bool.false_or, Bool.and_true, Bool.true_and, Bool.not_true, Bool.not_false, Bool.false_and, Bool.and_false, Bool.false_eq_true, if_true, if_false, ite_true, ite_false, reduceIte, reduceCtorEq, decide_true, decide_false, Nat.reduceAdd, lineN_0, lineN_1, lineN_2, lineN_3, lineN_4, lineN_5, lineN_6, lineN_7, lineN_8, lineN_9, lineN_10, lineN_11, lineN_12, lineN_13, lineN_14, lineN_15, lineN_16, lineN_17, lineN_18, lineN_19, lineN_20, lineN_21, lineN_22, lineN_23, lineN_24] at e ⊢
  simp only [e, eVar, eC, aNil, aCons, eTup, fLst, eOp1, eOp2, fOp2, eOpN, fOpN, tBl, tAnd2, tOr2, tNt, eAnd, eOr, eNot, eIf, eChain, eCall, fCall, RV.get, frz, frzL, getL, isB, isOwn_un, isOwn_va, isOwn_li, isOwn_di, isOwn_l2, isOwn_io, sRet, sSet, sSetF, putS, isIo_un, isIo_va, isIo_li, isIo_di, isIo_l2, isIo_io, sIf, sDrop, eFz, eSl, fSl, oNo, oSo, ixD_tup, ixD_lst, ixD_scr, slD_tup, slD_lst, slD_scr, slF_lst, slF_scr, tTrue, iSeq, gN, gTp, gsNil, gsCons, eVar2, lenD_tup, lenD_lst, lenD_scr, cmpD_ii, addD_ii, subD_ii, negD_i, ltD_ii, isNonD_n, notNonD_n, L2.Z.isNon, tupD_tup, tupD_lst, lstF_tup, lstF_lst, lstF_scr, flat_int, flat_bl, flat_non, flat_ints, intD_i, intD_b, absD_i, min2D_ii, sFor, fComp, wipeS, unw, noOwn_nil, noOwn_cons, List.map_cons, List.map_nil, List.length_cons, List.length_nil, List.replicate, List.cons_append, List.nil_append, List.getElem?_cons_zero, List.getElem?_cons_succ, List.set_cons_zero, List.set_cons_succ, List.any_cons, List.any_nil, List.all_cons, List.all_nil, Bool.or_false, Bool.false_or, Bool.and_true, Bool.true_and, Bool.not_true, Bool.not_false, Bool.false_and, Bool.and_false, Bool.false_eq_true, if_true, if_false, ite_true, ite_false, reduceIte, reduceCtorEq, decide_true, decide_false, Nat.reduceAdd, lineN_0, lineN_1, lineN_2, lineN_3, lineN_4, lineN_5, lineN_6, lineN_7, lineN_8, lineN_9, lineN_10, lineN_11, lineN_12, lineN_13, lineN_14, lineN_15, lineN_16, lineN_17, lineN_18, lineN_19, lineN_20, lineN_21, lineN_22, lineN_23, lineN_24]
theorem is_machine_m : f_is_machine [mD k rows] = .ok (.bl true) := by
  simp only [f_is_machine, fnP, m_is_machine, is_machine_in_eq _ (gd_mach M 8), isM_mach M, eVar, eC, aNil, aCons, eTup, fLst, eOp1, eOp2, fOp2, eOpN, fOpN, tBl, tAnd2, tOr2, tNt, eAnd, eOr, eNot, eIf, eChain, eCall, fCall, RV.get, frz, frzL, getL, isB, isOwn_un, isOwn_va, isOwn_li, isOwn_di, isOwn_l2, isOwn_io, sRet, sSet, sSetF, putS, isIo_un, isIo_va, isIo_li, isIo_di, isIo_l2, isIo_io, sIf, sDrop, eFz, eSl, fSl, oNo, oSo, ixD_tup, ixD_lst, ixD_scr, slD_tup, slD_lst, slD_scr, slF_lst, slF_scr, tTrue, iSeq, gN, gTp, gsNil, gsCons, eVar2, lenD_tup, lenD_lst, lenD_scr, cmpD_ii, addD_ii, subD_ii, negD_i, ltD_ii, isNonD_n, notNonD_n, L2.Z.isNon, tupD_tup, tupD_lst, lstF_tup, lstF_lst, lstF_scr, flat_int, flat_bl, flat_non, flat_ints, intD_i, intD_b, absD_i, min2D_ii, sFor, fComp, wipeS, unw, noOwn_nil, noOwn_cons, List.map_cons, List.map_nil, List.length_cons, List.length_nil, List.replicate, List.cons_append, List.nil_append, List.getElem?_cons_zero, List.getElem?_cons_succ, List.set_cons_zero, List.set_cons_succ, List.any_cons, List.any_nil, List.all_cons, List.all_nil, Bool.or_false, Bool.false_or, Bool.and_true, Bool.true_and, Bool.not_true, Bool.not_false, Bool.false_and, Bool.and_false, Bool.false_eq_true, if_true, if_false, ite_true, ite_false, reduceIte, reduceCtorEq, decide_true, decide_false, Nat.reduceAdd, lineN_0, lineN_1, lineN_2, lineN_3, lineN_4, lineN_5, lineN_6, lineN_7, lineN_8, lineN_9, lineN_10, lineN_11, lineN_12, lineN_13, lineN_14, lineN_15, lineN_16, lineN_17, lineN_18, lineN_19, lineN_20, lineN_21, lineN_22, lineN_23, lineN_24]
theorem is_word_m {n : Nat} (d : D) (h : gd n d = true) : f_is_word [mD k rows, d] = .ok (.bl (isW k d)) := by
  simp only [f_is_word, fnP, m_is_word, sure_machine_m M, is_word_in_eq k rows d h, eVar, eC, aNil, aCons, eTup, fLst, eOp1, eOp2, fOp2, eOpN, fOpN, tBl, tAnd2, tOr2, tNt, eAnd, eOr, eNot, eIf, eChain, eCall, fCall, RV.get, frz, frzL, getL, isB, isOwn_un, isOwn_va, isOwn_li, isOwn_di, isOwn_l2, isOwn_io, sRet, sSet, sSetF, putS, isIo_un, isIo_va, isIo_li, isIo_di, isIo_l2, isIo_io, sIf, sDrop, eFz, eSl, fSl, oNo, oSo, ixD_tup, ixD_lst, ixD_scr, slD_tup, slD_lst, slD_scr, slF_lst, slF_scr, tTrue, iSeq, gN, gTp, gsNil, gsCons, eVar2, lenD_tup, lenD_lst, lenD_scr, cmpD_ii, addD_ii, subD_ii, negD_i, ltD_ii, isNonD_n, notNonD_n, L2.Z.isNon, tupD_tup, tupD_lst, lstF_tup, lstF_lst, lstF_scr, flat_int, flat_bl, flat_non, flat_ints, intD_i, intD_b, absD_i, min2D_ii, sFor, fComp, wipeS, unw, noOwn_nil, noOwn_cons, List.map_cons, List.map_nil, List.length_cons, List.length_nil, List.replicate, List.cons_append, List.nil_append, List.getElem?_cons_zero, List.getElem?_cons_succ, List.set_cons_zero, List.set_cons_succ, List.any_cons, List.any_nil, List.all_cons, List.all_nil, Bool.or_false, Bool.false_or, Bool.and_true, Bool.true_and, Bool.not_true, Bool.not_false, Bool.false_and, Bool.and_false, Bool.false_eq_true, if_true, if_false, ite_true, ite_false, reduceIte, reduceCtorEq, decide_true, decide_false, Nat.reduceAdd, lineN_0, lineN_1, lineN_2, lineN_3, lineN_4, lineN_5, lineN_6, lineN_7, lineN_8, lineN_9, lineN_10, lineN_11, lineN_12, lineN_13, lineN_14, lineN_15, lineN_16, lineN_17, lineN_18, lineN_19, lineN_20, lineN_21, lineN_22, lineN_23, lineN_24]
theorem step_m {p a : Int} (hp : 0 ≤ p ∧ p < rows.length) (ha : 0 ≤ a ∧ a < k) : f_step [mD k rows, .int p, .int a] = .ok (.int (at2 rows p a)) := by
  obtain ⟨h1, h2, h3⟩ := at2_ok M hp ha
  simp only [f_step, fnP, m_step, sSeq, sure_machine_m M, sure_place_i hp, sure_letter_i ha, ix_m1, ix_rows h1, ix_row h2, eVar, eC, aNil, aCons, eTup, fLst, eOp1, eOp2, fOp2, eOpN, fOpN, tBl, tAnd2, tOr2, tNt, eAnd, eOr, eNot, eIf, eChain, eCall, fCall, RV.get, frz, frzL, getL, isB, isOwn_un, isOwn_va, isOwn_li, isOwn_di, isOwn_l2, isOwn_io, sRet, sSet, sSetF, putS, isIo_un, isIo_va, isIo_li, isIo_di, isIo_l2, isIo_io, sIf, sDrop, eFz, eSl, fSl, oNo, oSo, ixD_tup, ixD_lst, ixD_scr, slD_tup, slD_lst, slD_scr, slF_lst, slF_scr, tTrue, iSeq, gN, gTp, gsNil, gsCons, eVar2, lenD_tup, lenD_lst, lenD_scr, cmpD_ii, addD_ii, subD_ii, negD_i, ltD_ii, isNonD_n, notNonD_n, L2.Z.isNon, tupD_tup, tupD_lst, lstF_tup, lstF_lst, lstF_scr, flat_int, flat_bl, flat_non, flat_ints, intD_i, intD_b, absD_i, min2D_ii, sFor, fComp, wipeS, unw, noOwn_nil, noOwn_cons, List.map_cons, List.map_nil, List.length_cons, List.length_nil, List.replicate, List.cons_append, List.nil_append, List.getElem?_cons_zero, List.getElem?_cons_succ, List.set_cons_zero, List.set_cons_succ, List.any_cons, List.any_nil, List.all_cons, List.all_nil, Bool.or_false, Bool.false_or, Bool.and_true, Bool.true_and, Bool.not_true, Bool.not_false, Bool.false_and, Bool.and_false, Bool.false_eq_true, if_true, if_false, ite_true, ite_false, reduceIte, reduceCtorEq, decide_true, decide_false, Nat.reduceAdd, lineN_0, lineN_1, lineN_2, lineN_3, lineN_4, lineN_5, lineN_6, lineN_7, lineN_8, lineN_9, lineN_10, lineN_11, lineN_12, lineN_13, lineN_14, lineN_15, lineN_16, lineN_17, lineN_18, lineN_19, lineN_20, lineN_21, lineN_22, lineN_23, lineN_24]
theorem led_m {p : Int} {w : List Int} (hp : 0 ≤ p ∧ p < rows.length) (W : Wd k w) : f_led [mD k rows, .int p, wD w] = .ok (.int (goI rows p w)) := by
  simp only [f_led, fnP, m_led, sSeq, sure_machine_m M, sure_place_i hp, sure_word_w W, led_in_eq M hp W, eVar, eC, aNil, aCons, eTup, fLst, eOp1, eOp2, fOp2, eOpN, fOpN, tBl, tAnd2, tOr2, tNt, eAnd, eOr, eNot, eIf, eChain, eCall, fCall, RV.get, frz, frzL, getL, isB, isOwn_un, isOwn_va, isOwn_li, isOwn_di, isOwn_l2, isOwn_io, sRet, sSet, sSetF, putS, isIo_un, isIo_va, isIo_li, isIo_di, isIo_l2, isIo_io, sIf, sDrop, eFz, eSl, fSl, oNo, oSo, ixD_tup, ixD_lst, ixD_scr, slD_tup, slD_lst, slD_scr, slF_lst, slF_scr, tTrue, iSeq, gN, gTp, gsNil, gsCons, eVar2, lenD_tup, lenD_lst, lenD_scr, cmpD_ii, addD_ii, subD_ii, negD_i, ltD_ii, isNonD_n, notNonD_n, L2.Z.isNon, tupD_tup, tupD_lst, lstF_tup, lstF_lst, lstF_scr, flat_int, flat_bl, flat_non, flat_ints, intD_i, intD_b, absD_i, min2D_ii, sFor, fComp, wipeS, unw, noOwn_nil, noOwn_cons, List.map_cons, List.map_nil, List.length_cons, List.length_nil, List.replicate, List.cons_append, List.nil_append, List.getElem?_cons_zero, List.getElem?_cons_succ, List.set_cons_zero, List.set_cons_succ, List.any_cons, List.any_nil, List.all_cons, List.all_nil, Bool.or_false, Bool.false_or, Bool.and_true, Bool.true_and, Bool.not_true, Bool.not_false, Bool.false_and, Bool.and_false, Bool.false_eq_true, if_true, if_false, ite_true, ite_false, reduceIte, reduceCtorEq, decide_true, decide_false, Nat.reduceAdd, lineN_0, lineN_1, lineN_2, lineN_3, lineN_4, lineN_5, lineN_6, lineN_7, lineN_8, lineN_9, lineN_10, lineN_11, lineN_12, lineN_13, lineN_14, lineN_15, lineN_16, lineN_17, lineN_18, lineN_19, lineN_20, lineN_21, lineN_22, lineN_23, lineN_24]
end
end L2.G04

/-! part P04c -/
set_option Elab.async false
set_option linter.all false
set_option maxRecDepth 100000
set_option maxHeartbeats 4000000
namespace L2.G04
open PySem L2.Z
/-! the law's own == -/
theorem same_at_refl : ∀ (n : Nat) (d : D), gd n d = true → n ≤ 60 → f_law_same_at (n + 1) [d, d] = .ok (.bl true)
  | n, d, h, hn => by
    have ht := gd_tame h
    have no := gd_no h
    have e := eqD_refl h (by omega)
    show fnP 4 (m_law_same (f_law_same_at n)) [d, d] = _
    simp only [fnP, m_law_same, sSeq, isi_lt d ht, eVar, eC, aNil, aCons, eTup, fLst, eOp1, eOp2, fOp2, eOpN, fOpN, tBl, tAnd2, tOr2, tNt, eAnd, eOr, eNot, eIf, eChain, eCall, fCall, RV.get, frz, frzL, getL, isB, isOwn_un, isOwn_va, isOwn_li, isOwn_di, isOwn_l2, isOwn_io, sRet, sSet, sSetF, putS, isIo_un, isIo_va, isIo_li, isIo_di, isIo_l2, isIo_io, sIf, sDrop, eFz, eSl, fSl, oNo, oSo, ixD_tup, ixD_lst, ixD_scr, slD_tup, slD_lst, slD_scr, slF_lst, slF_scr, tTrue, iSeq, gN, gTp, gsNil, gsCons, eVar2, lenD_tup, lenD_lst, lenD_scr, cmpD_ii, addD_ii, subD_ii, negD_i, ltD_ii, isNonD_n, notNonD_n, L2.Z.isNon, tupD_tup, tupD_lst, lstF_tup, lstF_lst, lstF_scr, flat_int, flat_bl, flat_non, flat_ints, intD_i, intD_b, absD_i, min2D_ii, sFor, fComp, wipeS, unw, noOwn_nil, noOwn_cons, List.map_cons, List.map_nil, List.length_cons, List.length_nil, List.replicate, List.cons_append, List.nil_append, List.getElem?_cons_zero, List.getElem?_cons_succ, List.set_cons_zero, List.set_cons_succ, List.any_cons, List.any_nil, List.all_cons, List.all_nil, Bool.or_false, Bool.false_or, Bool.and_true, Bool.true_and, Bool.not_true, Bool.not_false, Bool.false_and, Bool.and_false, Bool.false_eq_true, if_true, if_false, ite_true, ite_false, reduceIte, reduceCtorEq, decide_true, decide_false, Nat.reduceAdd, lineN_0, lineN_1, lineN_2, lineN_3, lineN_4, lineN_5, lineN_6, lineN_7, lineN_8, lineN_9, lineN_10, lineN_11, lineN_12, lineN_13, lineN_14, lineN_15, lineN_16, lineN_17, lineN_18, lineN_19, lineN_20, lineN_21, lineN_22, lineN_23, lineN_24]
    cases d with
    | tup xs =>
      cases n with
      | zero => unfold gd at h; cases h
      | succ n =>
      obtain ⟨hl, hx⟩ := gd_tup.mp h
      simp only [isTupD, isLstD, isi_list _ ht, isi_tuple _ ht, neD_bb, eqD_int, iZip2, decide_eq_true (len_line (Nat.le_trans (zip_len xs xs) hl)), beq_self_eq_true, eVar, eC, aNil, aCons, eTup, fLst, eOp1, eOp2, fOp2, eOpN, fOpN, tBl, tAnd2, tOr2, tNt, eAnd, eOr, eNot, eIf, eChain, eCall, fCall, RV.get, frz, frzL, getL, isB, isOwn_un, isOwn_va, isOwn_li, isOwn_di, isOwn_l2, isOwn_io, sRet, sSet, sSetF, putS, isIo_un, isIo_va, isIo_li, isIo_di, isIo_l2, isIo_io, sIf, sDrop, eFz, eSl, fSl, oNo, oSo, ixD_tup, ixD_lst, ixD_scr, slD_tup, slD_lst, slD_scr, slF_lst, slF_scr, tTrue, iSeq, gN, gTp, gsNil, gsCons, eVar2, lenD_tup, lenD_lst, lenD_scr, cmpD_ii, addD_ii, subD_ii, negD_i, ltD_ii, isNonD_n, notNonD_n, L2.Z.isNon, tupD_tup, tupD_lst, lstF_tup, lstF_lst, lstF_scr, flat_int, flat_bl, flat_non, flat_ints, intD_i, intD_b, absD_i, min2D_ii, sFor, fComp, wipeS, unw, noOwn_nil, noOwn_cons, List.map_cons, List.map_nil, List.length_cons, List.length_nil, List.replicate, List.cons_append, List.nil_append, List.getElem?_cons_zero, List.getElem?_cons_succ, List.set_cons_zero, List.set_cons_succ, List.any_cons, List.any_nil, List.all_cons, List.all_nil, Bool.or_false, Bool.false_or, Bool.and_true, Bool.true_and, Bool.not_true, Bool.not_false, Bool.false_and, Bool.and_false, Bool.false_eq_true, if_true, if_false, ite_true, ite_false, reduceIte, reduceCtorEq, decide_true, decide_false, Nat.reduceAdd, lineN_0, lineN_1, lineN_2, lineN_3, lineN_4, lineN_5, lineN_6, lineN_7, lineN_8, lineN_9, lineN_10, lineN_11, lineN_12, lineN_13, lineN_14, lineN_15, lineN_16, lineN_17, lineN_18, lineN_19, lineN_20, lineN_21, lineN_22, lineN_23, lineN_24]
      rw [compGo_mapT (h := fun _ => .bl true)]
      · simp only [allD_true, decide_true, eVar, eC, aNil, aCons, eTup, fLst, eOp1, eOp2, fOp2, eOpN, fOpN, tBl, tAnd2, tOr2, tNt, eAnd, eOr, eNot, eIf, eChain, eCall, fCall, RV.get, frz, frzL, getL, isB, isOwn_un, isOwn_va, isOwn_li, isOwn_di, isOwn_l2, isOwn_io, sRet, sSet, sSetF, putS, isIo_un, isIo_va, isIo_li, isIo_di, isIo_l2, isIo_io, sIf, sDrop, eFz, eSl, fSl, oNo, oSo, ixD_tup, ixD_lst, ixD_scr, slD_tup, slD_lst, slD_scr, slF_lst, slF_scr, tTrue, iSeq, gN, gTp, gsNil, gsCons, eVar2, lenD_tup, lenD_lst, lenD_scr, cmpD_ii, addD_ii, subD_ii, negD_i, ltD_ii, isNonD_n, notNonD_n, L2.Z.isNon, tupD_tup, tupD_lst, lstF_tup, lstF_lst, lstF_scr, flat_int, flat_bl, flat_non, flat_ints, intD_i, intD_b, absD_i, min2D_ii, sFor, fComp, wipeS, unw, noOwn_nil, noOwn_cons, List.map_cons, List.map_nil, List.length_cons, List.length_nil, List.replicate, List.cons_append, List.nil_append, List.getElem?_cons_zero, List.getElem?_cons_succ, List.set_cons_zero, List.set_cons_succ, List.any_cons, List.any_nil, List.all_cons, List.all_nil, Bool.or_false, Bool.false_or, Bool.and_true, Bool.true_and, Bool.not_true, Bool.not_false, Bool.false_and, Bool.and_false, Bool.false_eq_true, if_true, if_false, ite_true, ite_false, reduceIte, reduceCtorEq, decide_true, decide_false, Nat.reduceAdd, lineN_0, lineN_1, lineN_2, lineN_3, lineN_4, lineN_5, lineN_6, lineN_7, lineN_8, lineN_9, lineN_10, lineN_11, lineN_12, lineN_13, lineN_14, lineN_15, lineN_16, lineN_17, lineN_18, lineN_19, lineN_20, lineN_21, lineN_22, lineN_23, lineN_24]
      · intro p hp
        obtain ⟨a, ha, rfl⟩ := mem_zip_self hp
        exact ⟨[.va (.tup xs), .va (.tup xs), .va a, .va a], .v (.bl true), rfl, by simp only [same_at_refl n a (gdL_iff.mp hx a ha) (by omega), eVar, eC, aNil, aCons, eTup, fLst, eOp1, eOp2, fOp2, eOpN, fOpN, tBl, tAnd2, tOr2, tNt, eAnd, eOr, eNot, eIf, eChain, eCall, fCall, RV.get, frz, frzL, getL, isB, isOwn_un, isOwn_va, isOwn_li, isOwn_di, isOwn_l2, isOwn_io, sRet, sSet, sSetF, putS, isIo_un, isIo_va, isIo_li, isIo_di, isIo_l2, isIo_io, sIf, sDrop, eFz, eSl, fSl, oNo, oSo, ixD_tup, ixD_lst, ixD_scr, slD_tup, slD_lst, slD_scr, slF_lst, slF_scr, tTrue, iSeq, gN, gTp, gsNil, gsCons, eVar2, lenD_tup, lenD_lst, lenD_scr, cmpD_ii, addD_ii, subD_ii, negD_i, ltD_ii, isNonD_n, notNonD_n, L2.Z.isNon, tupD_tup, tupD_lst, lstF_tup, lstF_lst, lstF_scr, flat_int, flat_bl, flat_non, flat_ints, intD_i, intD_b, absD_i, min2D_ii, sFor, fComp, wipeS, unw, noOwn_nil, noOwn_cons, List.map_cons, List.map_nil, List.length_cons, List.length_nil, List.replicate, List.cons_append, List.nil_append, List.getElem?_cons_zero, List.getElem?_cons_succ, List.set_cons_zero, List.set_cons_succ, List.any_cons, List.any_nil, List.all_cons, List.all_nil, Bool.or_false, Bool.false_or, Bool.and_true, Bool.true_and, Bool.not_true, Bool.not_false, Bool.false_and, Bool.and_false, Bool.false_eq_true, if_true, if_false, ite_true, ite_false, reduceIte, reduceCtorEq, decide_true, decide_false, Nat.reduceAdd, lineN_0, lineN_1, lineN_2, lineN_3, lineN_4, lineN_5, lineN_6, lineN_7, lineN_8, lineN_9, lineN_10, lineN_11, lineN_12, lineN_13, lineN_14, lineN_15, lineN_16, lineN_17, lineN_18, lineN_19, lineN_20, lineN_21, lineN_22, lineN_23, lineN_24], rfl, rfl⟩
    | lst xs =>
      cases n with
      | zero => unfold gd at h; cases h
      | succ n =>
      obtain ⟨hl, hx⟩ := gd_lst.mp h
      simp only [isTupD, isLstD, isi_list _ ht, isi_tuple _ ht, neD_bb, eqD_int, iZip2, decide_eq_true (len_line (Nat.le_trans (zip_len xs xs) hl)), beq_self_eq_true, eVar, eC, aNil, aCons, eTup, fLst, eOp1, eOp2, fOp2, eOpN, fOpN, tBl, tAnd2, tOr2, tNt, eAnd, eOr, eNot, eIf, eChain, eCall, fCall, RV.get, frz, frzL, getL, isB, isOwn_un, isOwn_va, isOwn_li, isOwn_di, isOwn_l2, isOwn_io, sRet, sSet, sSetF, putS, isIo_un, isIo_va, isIo_li, isIo_di, isIo_l2, isIo_io, sIf, sDrop, eFz, eSl, fSl, oNo, oSo, ixD_tup, ixD_lst, ixD_scr, slD_tup, slD_lst, slD_scr, slF_lst, slF_scr, tTrue, iSeq, gN, gTp, gsNil, gsCons, eVar2, lenD_tup, lenD_lst, lenD_scr, cmpD_ii, addD_ii, subD_ii, negD_i, ltD_ii, isNonD_n, notNonD_n, L2.Z.isNon, tupD_tup, tupD_lst, lstF_tup, lstF_lst, lstF_scr, flat_int, flat_bl, flat_non, flat_ints, intD_i, intD_b, absD_i, min2D_ii, sFor, fComp, wipeS, unw, noOwn_nil, noOwn_cons, List.map_cons, List.map_nil, List.length_cons, List.length_nil, List.replicate, List.cons_append, List.nil_append, List.getElem?_cons_zero, List.getElem?_cons_succ, List.set_cons_zero, List.set_cons_succ, List.any_cons, List.any_nil, List.all_cons, List.all_nil, Bool.or_false, Bool.false_or, Bool.and_true, Bool.true_and, Bool.not_true, Bool.not_false, Bool.false_and, Bool.and_false, Bool.false_eq_true, if_true, if_false, ite_true, ite_false, reduceIte, reduceCtorEq, decide_true, decide_false, Nat.reduceAdd, lineN_0, lineN_1, lineN_2, lineN_3, lineN_4, lineN_5, lineN_6, lineN_7, lineN_8, lineN_9, lineN_10, lineN_11, lineN_12, lineN_13, lineN_14, lineN_15, lineN_16, lineN_17, lineN_18, lineN_19, lineN_20, lineN_21, lineN_22, lineN_23, lineN_24]
      rw [compGo_mapT (h := fun _ => .bl true)]
      · simp only [allD_true, decide_true, eVar, eC, aNil, aCons, eTup, fLst, eOp1, eOp2, fOp2, eOpN, fOpN, tBl, tAnd2, tOr2, tNt, eAnd, eOr, eNot, eIf, eChain, eCall, fCall, RV.get, frz, frzL, getL, isB, isOwn_un, isOwn_va, isOwn_li, isOwn_di, isOwn_l2, isOwn_io, sRet, sSet, sSetF, putS, isIo_un, isIo_va, isIo_li, isIo_di, isIo_l2, isIo_io, sIf, sDrop, eFz, eSl, fSl, oNo, oSo, ixD_tup, ixD_lst, ixD_scr, slD_tup, slD_lst, slD_scr, slF_lst, slF_scr, tTrue, iSeq, gN, gTp, gsNil, gsCons, eVar2, lenD_tup, lenD_lst, lenD_scr, cmpD_ii, addD_ii, subD_ii, negD_i, ltD_ii, isNonD_n, notNonD_n, L2.Z.isNon, tupD_tup, tupD_lst, lstF_tup, lstF_lst, lstF_scr, flat_int, flat_bl, flat_non, flat_ints, intD_i, intD_b, absD_i, min2D_ii, sFor, fComp, wipeS, unw, noOwn_nil, noOwn_cons, List.map_cons, List.map_nil, List.length_cons, List.length_nil, List.replicate, List.cons_append, List.nil_append, List.getElem?_cons_zero, List.getElem?_cons_succ, List.set_cons_zero, List.set_cons_succ, List.any_cons, List.any_nil, List.all_cons, List.all_nil, Bool.or_false, Bool.false_or, Bool.and_true, Bool.true_and, Bool.not_true, Bool.not_false, Bool.false_and, Bool.and_false, Bool.false_eq_true, if_true, if_false, ite_true, ite_false, reduceIte, reduceCtorEq, decide_true, decide_false, Nat.reduceAdd, lineN_0, lineN_1, lineN_2, lineN_3, lineN_4, lineN_5, lineN_6, lineN_7, lineN_8, lineN_9, lineN_10, lineN_11, lineN_12, lineN_13, lineN_14, lineN_15, lineN_16, lineN_17, lineN_18, lineN_19, lineN_20, lineN_21, lineN_22, lineN_23, lineN_24]
      · intro p hp
        obtain ⟨a, ha, rfl⟩ := mem_zip_self hp
        exact ⟨[.va (.lst xs), .va (.lst xs), .va a, .va a], .v (.bl true), rfl, by simp only [same_at_refl n a (gdL_iff.mp hx a ha) (by omega), eVar, eC, aNil, aCons, eTup, fLst, eOp1, eOp2, fOp2, eOpN, fOpN, tBl, tAnd2, tOr2, tNt, eAnd, eOr, eNot, eIf, eChain, eCall, fCall, RV.get, frz, frzL, getL, isB, isOwn_un, isOwn_va, isOwn_li, isOwn_di, isOwn_l2, isOwn_io, sRet, sSet, sSetF, putS, isIo_un, isIo_va, isIo_li, isIo_di, isIo_l2, isIo_io, sIf, sDrop, eFz, eSl, fSl, oNo, oSo, ixD_tup, ixD_lst, ixD_scr, slD_tup, slD_lst, slD_scr, slF_lst, slF_scr, tTrue, iSeq, gN, gTp, gsNil, gsCons, eVar2, lenD_tup, lenD_lst, lenD_scr, cmpD_ii, addD_ii, subD_ii, negD_i, ltD_ii, isNonD_n, notNonD_n, L2.Z.isNon, tupD_tup, tupD_lst, lstF_tup, lstF_lst, lstF_scr, flat_int, flat_bl, flat_non, flat_ints, intD_i, intD_b, absD_i, min2D_ii, sFor, fComp, wipeS, unw, noOwn_nil, noOwn_cons, List.map_cons, List.map_nil, List.length_cons, List.length_nil, List.replicate, List.cons_append, List.nil_append, List.getElem?_cons_zero, List.getElem?_cons_succ, List.set_cons_zero, List.set_cons_succ, List.any_cons, List.any_nil, List.all_cons, List.all_nil, Bool.or_false, Bool.false_or, Bool.and_true, Bool.true_and, Bool.not_true, Bool.not_false, Bool.false_and, Bool.and_false, Bool.false_eq_true, if_true, if_false, ite_true, ite_false, reduceIte, reduceCtorEq, decide_true, decide_false, Nat.reduceAdd, lineN_0, lineN_1, lineN_2, lineN_3, lineN_4, lineN_5, lineN_6, lineN_7, lineN_8, lineN_9, lineN_10, lineN_11, lineN_12, lineN_13, lineN_14, lineN_15, lineN_16, lineN_17, lineN_18, lineN_19, lineN_20, lineN_21, lineN_22, lineN_23, lineN_24], rfl, rfl⟩
    | dct k => exact absurd rfl (no.2.1 _)
    | fn k => exact absurd rfl (no.1 _)
    | scr k => exact absurd rfl (no.2.2 _)
    | non => simp only [isTupD, isLstD, eVar, eC, aNil, aCons, eTup, fLst, eOp1, eOp2, fOp2, eOpN, fOpN, tBl, tAnd2, tOr2, tNt, eAnd, eOr, eNot, eIf, eChain, eCall, fCall, RV.get, frz, frzL, getL, isB, isOwn_un, isOwn_va, isOwn_li, isOwn_di, isOwn_l2, isOwn_io, sRet, sSet, sSetF, putS, isIo_un, isIo_va, isIo_li, isIo_di, isIo_l2, isIo_io, sIf, sDrop, eFz, eSl, fSl, oNo, oSo, ixD_tup, ixD_lst, ixD_scr, slD_tup, slD_lst, slD_scr, slF_lst, slF_scr, tTrue, iSeq, gN, gTp, gsNil, gsCons, eVar2, lenD_tup, lenD_lst, lenD_scr, cmpD_ii, addD_ii, subD_ii, negD_i, ltD_ii, isNonD_n, notNonD_n, L2.Z.isNon, tupD_tup, tupD_lst, lstF_tup, lstF_lst, lstF_scr, flat_int, flat_bl, flat_non, flat_ints, intD_i, intD_b, absD_i, min2D_ii, sFor, fComp, wipeS, unw, noOwn_nil, noOwn_cons, List.map_cons, List.map_nil, List.length_cons, List.length_nil, List.replicate, List.cons_append, List.nil_append, List.getElem?_cons_zero, List.getElem?_cons_succ, List.set_cons_zero, List.set_cons_succ, List.any_cons, List.any_nil, List.all_cons, List.all_nil, Bool.or_false, Bool.false_or, Bool.and_true, Bool.true_and, Bool.not_true, Bool.not_false, Bool.false_and, Bool.and_false, Bool.false_eq_true, if_true, if_false, ite_true, ite_false, reduceIte, reduceCtorEq, decide_true, decide_false, Nat.reduceAdd, lineN_0, lineN_1, lineN_2, lineN_3, lineN_4, lineN_5, lineN_6, lineN_7, lineN_8, lineN_9, lineN_10, lineN_11, lineN_12, lineN_13, lineN_14, lineN_15, lineN_16, lineN_17, lineN_18, lineN_19, lineN_20, lineN_21, lineN_22, lineN_23, lineN_24]
    | bl b => simp only [isTupD, isLstD, isBlD, isStrD, isi_bs _ ht, isi_bool _ ht, isi_str _ ht, eqD_bb, beq_self_eq_true, eVar, eC, aNil, aCons, eTup, fLst, eOp1, eOp2, fOp2, eOpN, fOpN, tBl, tAnd2, tOr2, tNt, eAnd, eOr, eNot, eIf, eChain, eCall, fCall, RV.get, frz, frzL, getL, isB, isOwn_un, isOwn_va, isOwn_li, isOwn_di, isOwn_l2, isOwn_io, sRet, sSet, sSetF, putS, isIo_un, isIo_va, isIo_li, isIo_di, isIo_l2, isIo_io, sIf, sDrop, eFz, eSl, fSl, oNo, oSo, ixD_tup, ixD_lst, ixD_scr, slD_tup, slD_lst, slD_scr, slF_lst, slF_scr, tTrue, iSeq, gN, gTp, gsNil, gsCons, eVar2, lenD_tup, lenD_lst, lenD_scr, cmpD_ii, addD_ii, subD_ii, negD_i, ltD_ii, isNonD_n, notNonD_n, L2.Z.isNon, tupD_tup, tupD_lst, lstF_tup, lstF_lst, lstF_scr, flat_int, flat_bl, flat_non, flat_ints, intD_i, intD_b, absD_i, min2D_ii, sFor, fComp, wipeS, unw, noOwn_nil, noOwn_cons, List.map_cons, List.map_nil, List.length_cons, List.length_nil, List.replicate, List.cons_append, List.nil_append, List.getElem?_cons_zero, List.getElem?_cons_succ, List.set_cons_zero, List.set_cons_succ, List.any_cons, List.any_nil, List.all_cons, List.all_nil, Bool.or_false, Bool.false_or, Bool.and_true, Bool.true_and, Bool.not_true, Bool.not_false, Bool.false_and, Bool.and_false, Bool.false_eq_true, if_true, if_false, ite_true, ite_false, reduceIte, reduceCtorEq, decide_true, decide_false, Nat.reduceAdd, lineN_0, lineN_1, lineN_2, lineN_3, lineN_4, lineN_5, lineN_6, lineN_7, lineN_8, lineN_9, lineN_10, lineN_11, lineN_12, lineN_13, lineN_14, lineN_15, lineN_16, lineN_17, lineN_18, lineN_19, lineN_20, lineN_21, lineN_22, lineN_23, lineN_24]
    | str b => simp only [isTupD, isLstD, isBlD, isStrD, isi_bs _ ht, isi_bool _ ht, isi_str _ ht, eqD_bb, e, beq_self_eq_true, eVar, eC, aNil, aCons, eTup, fLst, eOp1, eOp2, fOp2, eOpN, fOpN, tBl, tAnd2, tOr2, tNt, eAnd, eOr, eNot, eIf, eChain, eCall, fCall, RV.get, frz, frzL, getL, isB, isOwn_un, isOwn_va, isOwn_li, isOwn_di, isOwn_l2, isOwn_io, sRet, sSet, sSetF, putS, isIo_un, isIo_va, isIo_li, isIo_di, isIo_l2, isIo_io, sIf, sDrop, eFz, eSl, fSl, oNo, oSo, ixD_tup, ixD_lst, ixD_scr, slD_tup, slD_lst, slD_scr, slF_lst, slF_scr, tTrue, iSeq, gN, gTp, gsNil, gsCons, eVar2, lenD_tup, lenD_lst, lenD_scr, cmpD_ii, addD_ii, subD_ii, negD_i, ltD_ii, isNonD_n, notNonD_n, L2.Z.isNon, tupD_tup, tupD_lst, lstF_tup, lstF_lst, lstF_scr, flat_int, flat_bl, flat_non, flat_ints, intD_i, intD_b, absD_i, min2D_ii, sFor, fComp, wipeS, unw, noOwn_nil, noOwn_cons, List.map_cons, List.map_nil, List.length_cons, List.length_nil, List.replicate, List.cons_append, List.nil_append, List.getElem?_cons_zero, List.getElem?_cons_succ, List.set_cons_zero, List.set_cons_succ, List.any_cons, List.any_nil, List.all_cons, List.all_nil, Bool.or_false, Bool.false_or, Bool.and_true, Bool.true_and, Bool.not_true, Bool.not_false, Bool.false_and, Bool.and_false, Bool.false_eq_true, if_true, if_false, ite_true, ite_false, reduceIte, reduceCtorEq, decide_true, decide_false, Nat.reduceAdd, lineN_0, lineN_1, lineN_2, lineN_3, lineN_4, lineN_5, lineN_6, lineN_7, lineN_8, lineN_9, lineN_10, lineN_11, lineN_12, lineN_13, lineN_14, lineN_15, lineN_16, lineN_17, lineN_18, lineN_19, lineN_20, lineN_21, lineN_22, lineN_23, lineN_24]
    | int i => simp only [isTupD, isLstD, isBlD, isStrD, isInt, isi_bs _ ht, isi_bool _ ht, isi_int _ ht, e, eVar, eC, aNil, aCons, eTup, fLst, eOp1, eOp2, fOp2, eOpN, fOpN, tBl, tAnd2, tOr2, tNt, eAnd, eOr, eNot, eIf, eChain, eCall, fCall, RV.get, frz, frzL, getL, isB, isOwn_un, isOwn_va, isOwn_li, isOwn_di, isOwn_l2, isOwn_io, sRet, sSet, sSetF, putS, isIo_un, isIo_va, isIo_li, isIo_di, isIo_l2, isIo_io, sIf, sDrop, eFz, eSl, fSl, oNo, oSo, ixD_tup, ixD_lst, ixD_scr, slD_tup, slD_lst, slD_scr, slF_lst, slF_scr, tTrue, iSeq, gN, gTp, gsNil, gsCons, eVar2, lenD_tup, lenD_lst, lenD_scr, cmpD_ii, addD_ii, subD_ii, negD_i, ltD_ii, isNonD_n, notNonD_n, L2.Z.isNon, tupD_tup, tupD_lst, lstF_tup, lstF_lst, lstF_scr, flat_int, flat_bl, flat_non, flat_ints, intD_i, intD_b, absD_i, min2D_ii, sFor, fComp, wipeS, unw, noOwn_nil, noOwn_cons, List.map_cons, List.map_nil, List.length_cons, List.length_nil, List.replicate, List.cons_append, List.nil_append, List.getElem?_cons_zero, List.getElem?_cons_succ, List.set_cons_zero, List.set_cons_succ, List.any_cons, List.any_nil, List.all_cons, List.all_nil, Bool.or_false, Bool.false_or, Bool.and_true, Bool.true_and, Bool.not_true, Bool.not_false, Bool.false_and, Bool.and_false, Bool.false_eq_true, if_true, if_false, ite_true, ite_false, reduceIte, reduceCtorEq, decide_true, decide_false, Nat.reduceAdd, lineN_0, lineN_1, lineN_2, lineN_3, lineN_4, lineN_5, lineN_6, lineN_7, lineN_8, lineN_9, lineN_10, lineN_11, lineN_12, lineN_13, lineN_14, lineN_15, lineN_16, lineN_17, lineN_18, lineN_19, lineN_20, lineN_21, lineN_22, lineN_23, lineN_24]
theorem same_refl {n : Nat} (d : D) (h : gd n d = true) (hn : n ≤ 11) : f_law_same [d, d] = .ok (.bl true) := same_at_refl 11 d (gd_mono n 11 d hn h) (by decide)
/-! draws -/
def Tin (n : Nat) (t : List D) : Prop := ∃ a b c : Int, t = [.int a, .int b, .int c] ∧ 0 ≤ a ∧ 0 ≤ c ∧ c ≤ n
theorem Tin.le {n m : Nat} {t : List D} (h : Tin n t) (l : n ≤ m) : Tin m t := by
  obtain ⟨a, b, c, h1, h2, h3, h4⟩ := h
  exact ⟨a, b, c, h1, h2, h3, by omega⟩
theorem take_ok {n : Nat} {t : List D} {m : Int} (T : Tin n t) (hn : n ≤ 1000000000) (h1 : 1 ≤ m) (h2 : m ≤ 1000000) : ∃ (r : Int) (t' : List D), f_law_take t [.int m] = .v (.int r) t' ∧ 0 ≤ r ∧ r < m ∧ Tin (n + 1) t' := by
  obtain ⟨a, b, c, rfl, ha, hc, hcn⟩ := T
  have hm : m ≠ 0 := by omega
  by_cases h0 : 0 < a
  · refine ⟨a.fmod m, [.int (a.fdiv m), .int b, .int c], ?_, Int.fmod_nonneg_of_pos _ (by omega), Int.fmod_lt_of_pos _ (by omega), _, _, _, rfl, ?_, hc, by omega⟩
    · simp only [f_law_take, fnI, m_law_take, sSeq, atI_0, atI_1, atI_2, decide_eq_true h0, modD_ii hm, fdivD_ii (show m ≠ 0 ∧ m.natAbs < 1073741824 by omega), sStore, ioOf, ioSet, Option.bind, ixN3_0, eVar, eC, aNil, aCons, eTup, fLst, eOp1, eOp2, fOp2, eOpN, fOpN, tBl, tAnd2, tOr2, tNt, eAnd, eOr, eNot, eIf, eChain, eCall, fCall, RV.get, frz, frzL, getL, isB, isOwn_un, isOwn_va, isOwn_li, isOwn_di, isOwn_l2, isOwn_io, sRet, sSet, sSetF, putS, isIo_un, isIo_va, isIo_li, isIo_di, isIo_l2, isIo_io, sIf, sDrop, eFz, eSl, fSl, oNo, oSo, ixD_tup, ixD_lst, ixD_scr, slD_tup, slD_lst, slD_scr, slF_lst, slF_scr, tTrue, iSeq, gN, gTp, gsNil, gsCons, eVar2, lenD_tup, lenD_lst, lenD_scr, cmpD_ii, addD_ii, subD_ii, negD_i, ltD_ii, isNonD_n, notNonD_n, L2.Z.isNon, tupD_tup, tupD_lst, lstF_tup, lstF_lst, lstF_scr, flat_int, flat_bl, flat_non, flat_ints, intD_i, intD_b, absD_i, min2D_ii, sFor, fComp, wipeS, unw, noOwn_nil, noOwn_cons, List.map_cons, List.map_nil, List.length_cons, List.length_nil, List.replicate, List.cons_append, List.nil_append, List.getElem?_cons_zero, List.getElem?_cons_succ, List.set_cons_zero, List.set_cons_succ, List.any_cons, List.any_nil, List.all_cons, List.all_nil, Bool.or_false, Bool.false_or, Bool.and_true, Bool.true_and, Bool.not_true, Bool.not_false, Bool.false_and, Bool.and_false, Bool.false_eq_true, if_true, if_false, ite_true, ite_false, reduceIte, reduceCtorEq, decide_true, decide_false, Nat.reduceAdd, lineN_0, lineN_1, lineN_2, lineN_3, lineN_4, lineN_5, lineN_6, lineN_7, lineN_8, lineN_9, lineN_10, lineN_11, lineN_12, lineN_13, lineN_14, lineN_15, lineN_16, lineN_17, lineN_18, lineN_19, lineN_20, lineN_21, lineN_22, lineN_23, lineN_24]
    · exact Int.fdiv_nonneg (by omega) (by omega)
  · have wl := Int.fmod_nonneg_of_pos (((b + 48271 * (c + 1)) * (39373 + (c + 1))).fmod 2147483647) (show (0 : Int) < 40009 by decide)
    have wu := Int.fmod_lt_of_pos (((b + 48271 * (c + 1)) * (39373 + (c + 1))).fmod 2147483647) (show (0 : Int) < 40009 by decide)
    have e1 : mulD (.int 48271) (.int (c + 1)) = some (.int (48271 * (c + 1))) := mulD_ii (.inl (by decide))
    have e2 : mulD (.int (b + 48271 * (c + 1))) (.int (39373 + (c + 1))) = some (.int ((b + 48271 * (c + 1)) * (39373 + (c + 1)))) := mulD_ii (.inr (by omega))
    generalize ho : ((b + 48271 * (c + 1)) * (39373 + (c + 1))).fmod 2147483647 = once at wl wu
    have e3 : mulD (.int (once + (c + 1) + b.fdiv 1000003)) (.int (once.fmod 40009 + 7)) = some (.int ((once + (c + 1) + b.fdiv 1000003) * (once.fmod 40009 + 7))) := mulD_ii (.inr (by omega))
    generalize ht : ((once + (c + 1) + b.fdiv 1000003) * (once.fmod 40009 + 7)).fmod 2147483629 = twice
    have e4 : mulD (.int twice) (.int 48271) = some (.int (twice * 48271)) := mulD_ii (.inr (by decide))
    refine ⟨(((twice * 48271 + once).fmod 2147483587).fdiv 64).fmod m, [.int a, .int b, .int (c + 1)], ?_, Int.fmod_nonneg_of_pos _ (by omega), Int.fmod_lt_of_pos _ (by omega), _, _, _, rfl, ha, by omega, by omega⟩
    simp only [f_law_take, fnI, m_law_take, sSeq, atI_0, atI_1, atI_2, decide_eq_false h0, modD_ii hm, sStore, ioOf, ioSet, Option.bind, ixN3_2, e1, e2, e3, e4, ho, ht, modD_ii (show (2147483647 : Int) ≠ 0 by decide), modD_ii (show (40009 : Int) ≠ 0 by decide), modD_ii (show (2147483629 : Int) ≠ 0 by decide), modD_ii (show (2147483587 : Int) ≠ 0 by decide), fdivD_ii (show (1000003 : Int) ≠ 0 ∧ (1000003 : Int).natAbs < 1073741824 by decide), fdivD_ii (show (64 : Int) ≠ 0 ∧ (64 : Int).natAbs < 1073741824 by decide), eVar, eC, aNil, aCons, eTup, fLst, eOp1, eOp2, fOp2, eOpN, fOpN, tBl, tAnd2, tOr2, tNt, eAnd, eOr, eNot, eIf, eChain, eCall, fCall, RV.get, frz, frzL, getL, isB, isOwn_un, isOwn_va, isOwn_li, isOwn_di, isOwn_l2, isOwn_io, sRet, sSet, sSetF, putS, isIo_un, isIo_va, isIo_li, isIo_di, isIo_l2, isIo_io, sIf, sDrop, eFz, eSl, fSl, oNo, oSo, ixD_tup, ixD_lst, ixD_scr, slD_tup, slD_lst, slD_scr, slF_lst, slF_scr, tTrue, iSeq, gN, gTp, gsNil, gsCons, eVar2, lenD_tup, lenD_lst, lenD_scr, cmpD_ii, addD_ii, subD_ii, negD_i, ltD_ii, isNonD_n, notNonD_n, L2.Z.isNon, tupD_tup, tupD_lst, lstF_tup, lstF_lst, lstF_scr, flat_int, flat_bl, flat_non, flat_ints, intD_i, intD_b, absD_i, min2D_ii, sFor, fComp, wipeS, unw, noOwn_nil, noOwn_cons, List.map_cons, List.map_nil, List.length_cons, List.length_nil, List.replicate, List.cons_append, List.nil_append, List.getElem?_cons_zero, List.getElem?_cons_succ, List.set_cons_zero, List.set_cons_succ, List.any_cons, List.any_nil, List.all_cons, List.all_nil, Bool.or_false, Bool.false_or, Bool.and_true, Bool.true_and, Bool.not_true, Bool.not_false, Bool.false_and, Bool.and_false, Bool.false_eq_true, if_true, if_false, ite_true, ite_false, reduceIte, reduceCtorEq, decide_true, decide_false, Nat.reduceAdd, lineN_0, lineN_1, lineN_2, lineN_3, lineN_4, lineN_5, lineN_6, lineN_7, lineN_8, lineN_9, lineN_10, lineN_11, lineN_12, lineN_13, lineN_14, lineN_15, lineN_16, lineN_17, lineN_18, lineN_19, lineN_20, lineN_21, lineN_22, lineN_23, lineN_24]
end L2.G04

/-! part P04d -/
set_option Elab.async false
set_option linter.all false
set_option maxRecDepth 100000
set_option maxHeartbeats 4000000
namespace L2.G04
open PySem L2.Z
theorem word_ok {n : Nat} {t : List D} {k l : Int} (T : Tin n t) (hn : n + 1002 ≤ 1000000000) (h1 : 1 ≤ k) (h2 : k ≤ 1000) (h3 : 0 ≤ l) (h4 : l ≤ 1000) :
    ∃ (w : List Int) (t' : List D), f_law_word t [.int k, .int l] = .v (wD w) t' ∧ (w.length : Int) ≤ l ∧ (∀ v ∈ w, 0 ≤ v ∧ v < k) ∧ Tin (n + 1002) t' := by
  obtain ⟨r, t1, e1, r0, r1, T1⟩ := take_ok T (m := l + 1) (by omega) (by omega) (by omega)
  obtain ⟨ds, t2, e2, dl, dq, T2⟩ := compGo_dr (vs := [3]) (gm := gN 3) (me := eCallI 2 0 f_law_take (aCons (eVar 1) aNil)) Tin (fun t => [.io t, .va (.int k), .va (.int l), .un]) (fun d => ∃ i : Int, d = .int i ∧ 0 ≤ i ∧ i < k) 1 1000000000 (rangeD 0 r) (by
    intro x hx n t hn T
    obtain ⟨s, t', e, s0, s1, T'⟩ := take_ok T (m := k) (by omega) h1 (by omega)
    refine ⟨[.io t, .va (.int k), .va (.int l), .va x], .v (.int s), [.io t', .va (.int k), .va (.int l), .va x], .int s, _, t', rfl, ?_, rfl, rfl, ⟨s, rfl, s0, s1⟩, T'⟩
    simp only [eCallI, e, ioOf, ioSet, Option.bind, eVar, eC, aNil, aCons, eTup, fLst, eOp1, eOp2, fOp2, eOpN, fOpN, tBl, tAnd2, tOr2, tNt, eAnd, eOr, eNot, eIf, eChain, eCall, fCall, RV.get, frz, frzL, getL, isB, isOwn_un, isOwn_va, isOwn_li, isOwn_di, isOwn_l2, isOwn_io, sRet, sSet, sSetF, putS, isIo_un, isIo_va, isIo_li, isIo_di, isIo_l2, isIo_io, sIf, sDrop, eFz, eSl, fSl, oNo, oSo, ixD_tup, ixD_lst, ixD_scr, slD_tup, slD_lst, slD_scr, slF_lst, slF_scr, tTrue, iSeq, gN, gTp, gsNil, gsCons, eVar2, lenD_tup, lenD_lst, lenD_scr, cmpD_ii, addD_ii, subD_ii, negD_i, ltD_ii, isNonD_n, notNonD_n, L2.Z.isNon, tupD_tup, tupD_lst, lstF_tup, lstF_lst, lstF_scr, flat_int, flat_bl, flat_non, flat_ints, intD_i, intD_b, absD_i, min2D_ii, sFor, fComp, wipeS, unw, noOwn_nil, noOwn_cons, List.map_cons, List.map_nil, List.length_cons, List.length_nil, List.replicate, List.cons_append, List.nil_append, List.getElem?_cons_zero, List.getElem?_cons_succ, List.set_cons_zero, List.set_cons_succ, List.any_cons, List.any_nil, List.all_cons, List.all_nil, Bool.or_false, Bool.false_or, Bool.and_true, Bool.true_and, Bool.not_true, Bool.not_false, Bool.false_and, Bool.and_false, Bool.false_eq_true, if_true, if_false, ite_true, ite_false, reduceIte, reduceCtorEq, decide_true, decide_false, Nat.reduceAdd, lineN_0, lineN_1, lineN_2, lineN_3, lineN_4, lineN_5, lineN_6, lineN_7, lineN_8, lineN_9, lineN_10, lineN_11, lineN_12, lineN_13, lineN_14, lineN_15, lineN_16, lineN_17, lineN_18, lineN_19, lineN_20, lineN_21, lineN_22, lineN_23, lineN_24]) (n + 1) t1 (by rw [range_len]; omega) T1
  obtain ⟨w, rfl, hw⟩ := ints_all dq
  rw [List.length_map, range_len] at dl
  refine ⟨w, t2, ?_, by omega, hw, T2.le (by rw [range_len]; omega)⟩
  have hr : (-(2 ^ 62 : Int) ≤ r ∧ r < 2 ^ 62) := by omega
  have hl : decide ((rangeD 0 r).length ≤ lineN) = true := decide_eq_true (len_line (by rw [range_len]; omega))
  simp only [f_law_word, fnI, m_law_word, eCallI, ioOf, ioSet, Option.bind, e1, iRange1, if_pos hr, hl, e2, eVar, eC, aNil, aCons, eTup, fLst, eOp1, eOp2, fOp2, eOpN, fOpN, tBl, tAnd2, tOr2, tNt, eAnd, eOr, eNot, eIf, eChain, eCall, fCall, RV.get, frz, frzL, getL, isB, isOwn_un, isOwn_va, isOwn_li, isOwn_di, isOwn_l2, isOwn_io, sRet, sSet, sSetF, putS, isIo_un, isIo_va, isIo_li, isIo_di, isIo_l2, isIo_io, sIf, sDrop, eFz, eSl, fSl, oNo, oSo, ixD_tup, ixD_lst, ixD_scr, slD_tup, slD_lst, slD_scr, slF_lst, slF_scr, tTrue, iSeq, gN, gTp, gsNil, gsCons, eVar2, lenD_tup, lenD_lst, lenD_scr, cmpD_ii, addD_ii, subD_ii, negD_i, ltD_ii, isNonD_n, notNonD_n, L2.Z.isNon, tupD_tup, tupD_lst, lstF_tup, lstF_lst, lstF_scr, flat_int, flat_bl, flat_non, flat_ints, intD_i, intD_b, absD_i, min2D_ii, sFor, fComp, wipeS, unw, noOwn_nil, noOwn_cons, List.map_cons, List.map_nil, List.length_cons, List.length_nil, List.replicate, List.cons_append, List.nil_append, List.getElem?_cons_zero, List.getElem?_cons_succ, List.set_cons_zero, List.set_cons_succ, List.any_cons, List.any_nil, List.all_cons, List.all_nil, Bool.or_false, Bool.false_or, Bool.and_true, Bool.true_and, Bool.not_true, Bool.not_false, Bool.false_and, Bool.and_false, Bool.false_eq_true, if_true, if_false, ite_true, ite_false, reduceIte, reduceCtorEq, decide_true, decide_false, Nat.reduceAdd, lineN_0, lineN_1, lineN_2, lineN_3, lineN_4, lineN_5, lineN_6, lineN_7, lineN_8, lineN_9, lineN_10, lineN_11, lineN_12, lineN_13, lineN_14, lineN_15, lineN_16, lineN_17, lineN_18, lineN_19, lineN_20, lineN_21, lineN_22, lineN_23, lineN_24]
  rfl
theorem ixN_of {n : Nat} {r : Int} (h0 : 0 ≤ r) (h1 : r < n) : ixN n r = some r.toNat := by
  unfold ixN
  rw [if_pos h0, if_pos h1]
theorem of_ok {n : Nat} {t : List D} {gs : List D} (T : Tin n t) (hn : n ≤ 1000000000) (h1 : gs ≠ []) (h2 : gs.length ≤ 1000) :
    ∃ (g : D) (t' : List D), f_law_of t [.lst gs] = .v g t' ∧ g ∈ gs ∧ Tin (n + 1) t' := by
  have hl : 1 ≤ gs.length := List.length_pos_iff.mpr h1
  obtain ⟨r, t1, e1, r0, r1, T1⟩ := take_ok T (m := gs.length) hn (by omega) (by omega)
  have hr : r.toNat < gs.length := by omega
  refine ⟨gs[r.toNat], t1, ?_, List.getElem_mem hr, T1⟩
  have e2 : L2.atI gs r = some gs[r.toNat] := atI_i r0 (List.getElem?_eq_getElem hr)
  simp only [f_law_of, fnI, m_law_of, eCallI, ioOf, ioSet, Option.bind, e1, e2, eVar, eC, aNil, aCons, eTup, fLst, eOp1, eOp2, fOp2, eOpN, fOpN, tBl, tAnd2, tOr2, tNt, eAnd, eOr, eNot, eIf, eChain, eCall, fCall, RV.get, frz, frzL, getL, isB, isOwn_un, isOwn_va, isOwn_li, isOwn_di, isOwn_l2, isOwn_io, sRet, sSet, sSetF, putS, isIo_un, isIo_va, isIo_li, isIo_di, isIo_l2, isIo_io, sIf, sDrop, eFz, eSl, fSl, oNo, oSo, ixD_tup, ixD_lst, ixD_scr, slD_tup, slD_lst, slD_scr, slF_lst, slF_scr, tTrue, iSeq, gN, gTp, gsNil, gsCons, eVar2, lenD_tup, lenD_lst, lenD_scr, cmpD_ii, addD_ii, subD_ii, negD_i, ltD_ii, isNonD_n, notNonD_n, L2.Z.isNon, tupD_tup, tupD_lst, lstF_tup, lstF_lst, lstF_scr, flat_int, flat_bl, flat_non, flat_ints, intD_i, intD_b, absD_i, min2D_ii, sFor, fComp, wipeS, unw, noOwn_nil, noOwn_cons, List.map_cons, List.map_nil, List.length_cons, List.length_nil, List.replicate, List.cons_append, List.nil_append, List.getElem?_cons_zero, List.getElem?_cons_succ, List.set_cons_zero, List.set_cons_succ, List.any_cons, List.any_nil, List.all_cons, List.all_nil, Bool.or_false, Bool.false_or, Bool.and_true, Bool.true_and, Bool.not_true, Bool.not_false, Bool.false_and, Bool.and_false, Bool.false_eq_true, if_true, if_false, ite_true, ite_false, reduceIte, reduceCtorEq, decide_true, decide_false, Nat.reduceAdd, lineN_0, lineN_1, lineN_2, lineN_3, lineN_4, lineN_5, lineN_6, lineN_7, lineN_8, lineN_9, lineN_10, lineN_11, lineN_12, lineN_13, lineN_14, lineN_15, lineN_16, lineN_17, lineN_18, lineN_19, lineN_20, lineN_21, lineN_22, lineN_23, lineN_24]
theorem pick_loop (G c : D) : ∀ (xs : List D) (n : Nat) (t : List D) (x : SV) (pool found : List D), Tin n t → n + xs.length ≤ 1000000000 → xs.length ≤ pool.length → pool.length ≤ 1000 → found.length + xs.length ≤ 1000 → isIo x = false →
    ∃ t' x' pool' found', forGo (gN 3) (sAppend 5 (ePopAt 4 (eCallI 2 0 f_law_take (aCons (eOpN lenD (aCons (eVar 4) aNil)) aNil)))) xs [.io t, .va G, .va c, x, .li pool, .li found] = .nx [.io t', .va G, .va c, x', .li pool', .li found'] ∧ (found' ++ pool').Perm (found ++ pool) ∧ found'.length = found.length + xs.length ∧ Tin (n + xs.length) t'
  | [], n, t, x, pool, found, T, _, _, _, _, hx => ⟨t, x, pool, found, rfl, .refl _, rfl, T⟩
  | y :: xs, n, t, x, pool, found, T, hn, h1, h2, h3, hx => by
    rw [List.length_cons] at hn h1 h3
    obtain ⟨r, t1, e1, r0, r1, T1⟩ := take_ok T (m := pool.length) (by omega) (by omega) (by omega)
    have hr : r.toNat < pool.length := by omega
    have e2 : seqIndex? r pool.length = some r.toNat := (ixN_seq (ixN_of r0 r1)).1
    have e3 : pool[r.toNat]? = some pool[r.toNat] := List.getElem?_eq_getElem hr
    obtain ⟨t', x', pool', found', k1, k2, k3, k4⟩ := pick_loop G c xs (n + 1) t1 (.va y) (pool.eraseIdx r.toNat) (found ++ [pool[r.toNat]]) T1 (by omega) (by rw [List.length_eraseIdx, if_pos hr]; omega) (by rw [List.length_eraseIdx, if_pos hr]; omega) (by rw [List.length_append, List.length_singleton]; omega) rfl
    refine ⟨t', x', pool', found', ?_, ?_, ?_, by rw [List.length_cons, show n + (xs.length + 1) = n + 1 + xs.length by omega]; exact k4⟩
    · unfold forGo
      have hb : (-(2 ^ 63 : Int) ≤ r ∧ r < 2 ^ 63) := by omega
      have hf : found.length < lineN := Nat.lt_of_lt_of_le (show found.length < 1000 by omega) (by decide)
      simp only [hx, sAppend, ePopAt, eCallI, ioOf, ioSet, Option.bind, e1, e2, e3, if_pos hb, if_pos hf, eVar, eC, aNil, aCons, eTup, fLst, eOp1, eOp2, fOp2, eOpN, fOpN, tBl, tAnd2, tOr2, tNt, eAnd, eOr, eNot, eIf, eChain, eCall, fCall, RV.get, frz, frzL, getL, isB, isOwn_un, isOwn_va, isOwn_li, isOwn_di, isOwn_l2, isOwn_io, sRet, sSet, sSetF, putS, isIo_un, isIo_va, isIo_li, isIo_di, isIo_l2, isIo_io, sIf, sDrop, eFz, eSl, fSl, oNo, oSo, ixD_tup, ixD_lst, ixD_scr, slD_tup, slD_lst, slD_scr, slF_lst, slF_scr, tTrue, iSeq, gN, gTp, gsNil, gsCons, eVar2, lenD_tup, lenD_lst, lenD_scr, cmpD_ii, addD_ii, subD_ii, negD_i, ltD_ii, isNonD_n, notNonD_n, L2.Z.isNon, tupD_tup, tupD_lst, lstF_tup, lstF_lst, lstF_scr, flat_int, flat_bl, flat_non, flat_ints, intD_i, intD_b, absD_i, min2D_ii, sFor, fComp, wipeS, unw, noOwn_nil, noOwn_cons, List.map_cons, List.map_nil, List.length_cons, List.length_nil, List.replicate, List.cons_append, List.nil_append, List.getElem?_cons_zero, List.getElem?_cons_succ, List.set_cons_zero, List.set_cons_succ, List.any_cons, List.any_nil, List.all_cons, List.all_nil, Bool.or_false, Bool.false_or, Bool.and_true, Bool.true_and, Bool.not_true, Bool.not_false, Bool.false_and, Bool.and_false, Bool.false_eq_true, if_true, if_false, ite_true, ite_false, reduceIte, reduceCtorEq, decide_true, decide_false, Nat.reduceAdd, lineN_0, lineN_1, lineN_2, lineN_3, lineN_4, lineN_5, lineN_6, lineN_7, lineN_8, lineN_9, lineN_10, lineN_11, lineN_12, lineN_13, lineN_14, lineN_15, lineN_16, lineN_17, lineN_18, lineN_19, lineN_20, lineN_21, lineN_22, lineN_23, lineN_24]
      exact k1
    · refine k2.trans ?_
      rw [List.append_assoc]
      exact List.Perm.append_left _ (perm_erase hr)
    · rw [k3, List.length_append, List.length_singleton, List.length_cons]; omega
theorem pick_ok {n : Nat} {t : List D} {gs : List D} {c : Int} (T : Tin n t) (hn : n + 1000 ≤ 1000000000) (h2 : gs.length ≤ 1000) (h0 : 0 ≤ c) (h1 : c ≤ gs.length) :
    ∃ (found rest t' : List D), f_law_pick t [.lst gs, .int c] = .f found t' ∧ (found ++ rest).Perm gs ∧ (found.length : Int) = c ∧ Tin (n + 1000) t' := by
  have hm : (if (gs.length : Int) < c then (gs.length : Int) else c) = c := if_neg (by omega)
  have hc : (-(2 ^ 62 : Int) ≤ c ∧ c < 2 ^ 62) := by omega
  obtain ⟨t', x', pool', found', k1, k2, k3, k4⟩ := pick_loop (.lst gs) (.int c) (rangeD 0 c) n t .un gs [] T (by rw [range_len]; omega) (by rw [range_len]; omega) h2 (by rw [range_len, List.length_nil]; omega) rfl
  rw [List.length_nil, range_len] at k3
  refine ⟨found', pool', t', ?_, by simpa using k2, by omega, k4.le (by rw [range_len]; omega)⟩
  simp only [f_law_pick, fnI, m_law_pick, sSeq, sPar, vConsF, vCons, vNil, putMany, iRange1, if_pos hc, hm, k1, sRetO, ioOf, ioSet, Option.bind, eVar, eC, aNil, aCons, eTup, fLst, eOp1, eOp2, fOp2, eOpN, fOpN, tBl, tAnd2, tOr2, tNt, eAnd, eOr, eNot, eIf, eChain, eCall, fCall, RV.get, frz, frzL, getL, isB, isOwn_un, isOwn_va, isOwn_li, isOwn_di, isOwn_l2, isOwn_io, sRet, sSet, sSetF, putS, isIo_un, isIo_va, isIo_li, isIo_di, isIo_l2, isIo_io, sIf, sDrop, eFz, eSl, fSl, oNo, oSo, ixD_tup, ixD_lst, ixD_scr, slD_tup, slD_lst, slD_scr, slF_lst, slF_scr, tTrue, iSeq, gN, gTp, gsNil, gsCons, eVar2, lenD_tup, lenD_lst, lenD_scr, cmpD_ii, addD_ii, subD_ii, negD_i, ltD_ii, isNonD_n, notNonD_n, L2.Z.isNon, tupD_tup, tupD_lst, lstF_tup, lstF_lst, lstF_scr, flat_int, flat_bl, flat_non, flat_ints, intD_i, intD_b, absD_i, min2D_ii, sFor, fComp, wipeS, unw, noOwn_nil, noOwn_cons, List.map_cons, List.map_nil, List.length_cons, List.length_nil, List.replicate, List.cons_append, List.nil_append, List.getElem?_cons_zero, List.getElem?_cons_succ, List.set_cons_zero, List.set_cons_succ, List.any_cons, List.any_nil, List.all_cons, List.all_nil, Bool.or_false, Bool.false_or, Bool.and_true, Bool.true_and, Bool.not_true, Bool.not_false, Bool.false_and, Bool.and_false, Bool.false_eq_true, if_true, if_false, ite_true, ite_false, reduceIte, reduceCtorEq, decide_true, decide_false, Nat.reduceAdd, lineN_0, lineN_1, lineN_2, lineN_3, lineN_4, lineN_5, lineN_6, lineN_7, lineN_8, lineN_9, lineN_10, lineN_11, lineN_12, lineN_13, lineN_14, lineN_15, lineN_16, lineN_17, lineN_18, lineN_19, lineN_20, lineN_21, lineN_22, lineN_23, lineN_24]
end L2.G04

/-! part P04e -/
set_option Elab.async false
set_option linter.all false
set_option maxRecDepth 100000
set_option maxHeartbeats 4000000
namespace L2.G04
open PySem L2.Z
mutual
def cnt : D → Nat
  | .tup xs => cntL xs + 1
  | .lst xs => cntL xs + 1
  | _ => 1
def cntL : List D → Nat
  | [] => 0
  | x :: xs => cnt x + cntL xs
end
theorem isLst_tup {d : D} (h : ¬ (isLstD d || isTupD d) = true) {n : Nat} (g : gd n d = true) : tpl d = d := by
  cases d with
  | tup xs => exact absurd rfl h
  | lst xs => exact absurd rfl h
  | _ => unfold tpl; rfl
theorem mixed_at_ok : ∀ (f : Nat) (d : D) (n : Nat) (t : List D), gd f d = true → Tin n t → n + cnt d ≤ 1000000000 →
    ∃ d' t', f_law_mixed_at (f + 1) t [d] = .v d' t' ∧ gd f d' = true ∧ tpl d' = tpl d ∧ Tin (n + cnt d) t'
  | f, d, n, t, h, T, hn => by
    have ht := gd_tame h
    have no := gd_no h
    cases hb : (isLstD d || isTupD d) with
    | false =>
      refine ⟨d, t, ?_, h, rfl, T.le (by omega)⟩
      show fnI 4 (m_law_mixed (f_law_mixed_at f)) t [d] = _
      simp only [fnI, m_law_mixed, sSeq, isi_lt d ht, hb, eVar, eC, aNil, aCons, eTup, fLst, eOp1, eOp2, fOp2, eOpN, fOpN, tBl, tAnd2, tOr2, tNt, eAnd, eOr, eNot, eIf, eChain, eCall, fCall, RV.get, frz, frzL, getL, isB, isOwn_un, isOwn_va, isOwn_li, isOwn_di, isOwn_l2, isOwn_io, sRet, sSet, sSetF, putS, isIo_un, isIo_va, isIo_li, isIo_di, isIo_l2, isIo_io, sIf, sDrop, eFz, eSl, fSl, oNo, oSo, ixD_tup, ixD_lst, ixD_scr, slD_tup, slD_lst, slD_scr, slF_lst, slF_scr, tTrue, iSeq, gN, gTp, gsNil, gsCons, eVar2, lenD_tup, lenD_lst, lenD_scr, cmpD_ii, addD_ii, subD_ii, negD_i, ltD_ii, isNonD_n, notNonD_n, L2.Z.isNon, tupD_tup, tupD_lst, lstF_tup, lstF_lst, lstF_scr, flat_int, flat_bl, flat_non, flat_ints, intD_i, intD_b, absD_i, min2D_ii, sFor, fComp, wipeS, unw, noOwn_nil, noOwn_cons, List.map_cons, List.map_nil, List.length_cons, List.length_nil, List.replicate, List.cons_append, List.nil_append, List.getElem?_cons_zero, List.getElem?_cons_succ, List.set_cons_zero, List.set_cons_succ, List.any_cons, List.any_nil, List.all_cons, List.all_nil, Bool.or_false, Bool.false_or, Bool.and_true, Bool.true_and, Bool.not_true, Bool.not_false, Bool.false_and, Bool.and_false, Bool.false_eq_true, if_true, if_false, ite_true, ite_false, reduceIte, reduceCtorEq, decide_true, decide_false, Nat.reduceAdd, lineN_0, lineN_1, lineN_2, lineN_3, lineN_4, lineN_5, lineN_6, lineN_7, lineN_8, lineN_9, lineN_10, lineN_11, lineN_12, lineN_13, lineN_14, lineN_15, lineN_16, lineN_17, lineN_18, lineN_19, lineN_20, lineN_21, lineN_22, lineN_23, lineN_24]
    | true =>
      obtain ⟨f, xs, rfl, hl, hx, hc, hd, hdd⟩ : ∃ f' xs, f = f' + 1 ∧ xs.length ≤ 1000 ∧ gdL f' xs = true ∧ cnt d = cntL xs + 1 ∧ tpl d = .tup (tplL xs) ∧ (d = .tup xs ∨ d = .lst xs) := by
        cases d with
        | tup xs =>
          cases f with
          | zero => unfold gd at h; cases h
          | succ f => exact ⟨f, xs, rfl, (gd_tup.mp h).1, (gd_tup.mp h).2, by unfold cnt; rfl, by unfold tpl; rfl, .inl rfl⟩
        | lst xs =>
          cases f with
          | zero => unfold gd at h; cases h
          | succ f => exact ⟨f, xs, rfl, (gd_lst.mp h).1, (gd_lst.mp h).2, by unfold cnt; rfl, by unfold tpl; rfl, .inr rfl⟩
        | scr k => exact absurd rfl (no.2.2 _)
        | _ => cases hb
      -- the row
      have row : ∀ (xs : List D) (n : Nat) (t : List D), gdL f xs = true → Tin n t → n + cntL xs ≤ 1000000000 → ∃ ys t', compGo [3] (gN 3) tTrue (eCallI 2 0 (f_law_mixed_at (f + 1)) (aCons (eVar 3) aNil)) xs [.io t, .va d, .un, .un] = .ok ys [.io t', .va d, .un, .un] ∧ ys.length = xs.length ∧ gdL f ys = true ∧ tplL ys = tplL xs ∧ Tin (n + cntL xs) t' := by
        intro xs
        induction xs with
        | nil => exact fun n t _ T _ => ⟨[], t, rfl, rfl, by unfold gdL; rfl, rfl, T.le (by omega)⟩
        | cons x xs ih =>
          intro n t hx T hn
          unfold gdL at hx
          rw [Bool.and_eq_true] at hx
          unfold cntL at hn
          obtain ⟨y, t1, e1, g1, p1, T1⟩ := mixed_at_ok f x n t hx.1 T (by omega)
          obtain ⟨ys, t2, e2, l2, g2, p2, T2⟩ := ih (n + cnt x) t1 hx.2 T1 (by omega)
          refine ⟨y :: ys, t2, ?_, by rw [List.length_cons, List.length_cons, l2], by unfold gdL; rw [g1, g2]; rfl, by unfold tplL; rw [p1, p2], by unfold cntL; exact T2.le (by omega)⟩
          unfold compGo
          simp only [eCallI, ioOf, ioSet, Option.bind, e1, eVar, eC, aNil, aCons, eTup, fLst, eOp1, eOp2, fOp2, eOpN, fOpN, tBl, tAnd2, tOr2, tNt, eAnd, eOr, eNot, eIf, eChain, eCall, fCall, RV.get, frz, frzL, getL, isB, isOwn_un, isOwn_va, isOwn_li, isOwn_di, isOwn_l2, isOwn_io, sRet, sSet, sSetF, putS, isIo_un, isIo_va, isIo_li, isIo_di, isIo_l2, isIo_io, sIf, sDrop, eFz, eSl, fSl, oNo, oSo, ixD_tup, ixD_lst, ixD_scr, slD_tup, slD_lst, slD_scr, slF_lst, slF_scr, tTrue, iSeq, gN, gTp, gsNil, gsCons, eVar2, lenD_tup, lenD_lst, lenD_scr, cmpD_ii, addD_ii, subD_ii, negD_i, ltD_ii, isNonD_n, notNonD_n, L2.Z.isNon, tupD_tup, tupD_lst, lstF_tup, lstF_lst, lstF_scr, flat_int, flat_bl, flat_non, flat_ints, intD_i, intD_b, absD_i, min2D_ii, sFor, fComp, wipeS, unw, noOwn_nil, noOwn_cons, List.map_cons, List.map_nil, List.length_cons, List.length_nil, List.replicate, List.cons_append, List.nil_append, List.getElem?_cons_zero, List.getElem?_cons_succ, List.set_cons_zero, List.set_cons_succ, List.any_cons, List.any_nil, List.all_cons, List.all_nil, Bool.or_false, Bool.false_or, Bool.and_true, Bool.true_and, Bool.not_true, Bool.not_false, Bool.false_and, Bool.and_false, Bool.false_eq_true, if_true, if_false, ite_true, ite_false, reduceIte, reduceCtorEq, decide_true, decide_false, Nat.reduceAdd, lineN_0, lineN_1, lineN_2, lineN_3, lineN_4, lineN_5, lineN_6, lineN_7, lineN_8, lineN_9, lineN_10, lineN_11, lineN_12, lineN_13, lineN_14, lineN_15, lineN_16, lineN_17, lineN_18, lineN_19, lineN_20, lineN_21, lineN_22, lineN_23, lineN_24]
          simp only [e2, eVar, eC, aNil, aCons, eTup, fLst, eOp1, eOp2, fOp2, eOpN, fOpN, tBl, tAnd2, tOr2, tNt, eAnd, eOr, eNot, eIf, eChain, eCall, fCall, RV.get, frz, frzL, getL, isB, isOwn_un, isOwn_va, isOwn_li, isOwn_di, isOwn_l2, isOwn_io, sRet, sSet, sSetF, putS, isIo_un, isIo_va, isIo_li, isIo_di, isIo_l2, isIo_io, sIf, sDrop, eFz, eSl, fSl, oNo, oSo, ixD_tup, ixD_lst, ixD_scr, slD_tup, slD_lst, slD_scr, slF_lst, slF_scr, tTrue, iSeq, gN, gTp, gsNil, gsCons, eVar2, lenD_tup, lenD_lst, lenD_scr, cmpD_ii, addD_ii, subD_ii, negD_i, ltD_ii, isNonD_n, notNonD_n, L2.Z.isNon, tupD_tup, tupD_lst, lstF_tup, lstF_lst, lstF_scr, flat_int, flat_bl, flat_non, flat_ints, intD_i, intD_b, absD_i, min2D_ii, sFor, fComp, wipeS, unw, noOwn_nil, noOwn_cons, List.map_cons, List.map_nil, List.length_cons, List.length_nil, List.replicate, List.cons_append, List.nil_append, List.getElem?_cons_zero, List.getElem?_cons_succ, List.set_cons_zero, List.set_cons_succ, List.any_cons, List.any_nil, List.all_cons, List.all_nil, Bool.or_false, Bool.false_or, Bool.and_true, Bool.true_and, Bool.not_true, Bool.not_false, Bool.false_and, Bool.and_false, Bool.false_eq_true, if_true, if_false, ite_true, ite_false, reduceIte, reduceCtorEq, decide_true, decide_false, Nat.reduceAdd, lineN_0, lineN_1, lineN_2, lineN_3, lineN_4, lineN_5, lineN_6, lineN_7, lineN_8, lineN_9, lineN_10, lineN_11, lineN_12, lineN_13, lineN_14, lineN_15, lineN_16, lineN_17, lineN_18, lineN_19, lineN_20, lineN_21, lineN_22, lineN_23, lineN_24]
      obtain ⟨ys, t1, e1, l1, g1, p1, T1⟩ := row xs n t hx T (by omega)
      obtain ⟨r, t2, e2, r0, r1, T2⟩ := take_ok T1 (m := 2) (by omega) (by decide) (by decide)
      refine ⟨if r = 0 then .lst ys else .tup ys, t2, ?_, ?_, ?_, T2.le (by omega)⟩
      · show fnI 4 (m_law_mixed (f_law_mixed_at (f + 1))) t [d] = _
        have hl' : decide (xs.length ≤ lineN) = true := decide_eq_true (len_line hl)
        simp only [fnI, m_law_mixed, sSeq, isi_lt d ht, hb, eVar, eC, aNil, aCons, eTup, fLst, eOp1, eOp2, fOp2, eOpN, fOpN, tBl, tAnd2, tOr2, tNt, eAnd, eOr, eNot, eIf, eChain, eCall, fCall, RV.get, frz, frzL, getL, isB, isOwn_un, isOwn_va, isOwn_li, isOwn_di, isOwn_l2, isOwn_io, sRet, sSet, sSetF, putS, isIo_un, isIo_va, isIo_li, isIo_di, isIo_l2, isIo_io, sIf, sDrop, eFz, eSl, fSl, oNo, oSo, ixD_tup, ixD_lst, ixD_scr, slD_tup, slD_lst, slD_scr, slF_lst, slF_scr, tTrue, iSeq, gN, gTp, gsNil, gsCons, eVar2, lenD_tup, lenD_lst, lenD_scr, cmpD_ii, addD_ii, subD_ii, negD_i, ltD_ii, isNonD_n, notNonD_n, L2.Z.isNon, tupD_tup, tupD_lst, lstF_tup, lstF_lst, lstF_scr, flat_int, flat_bl, flat_non, flat_ints, intD_i, intD_b, absD_i, min2D_ii, sFor, fComp, wipeS, unw, noOwn_nil, noOwn_cons, List.map_cons, List.map_nil, List.length_cons, List.length_nil, List.replicate, List.cons_append, List.nil_append, List.getElem?_cons_zero, List.getElem?_cons_succ, List.set_cons_zero, List.set_cons_succ, List.any_cons, List.any_nil, List.all_cons, List.all_nil, Bool.or_false, Bool.false_or, Bool.and_true, Bool.true_and, Bool.not_true, Bool.not_false, Bool.false_and, Bool.and_false, Bool.false_eq_true, if_true, if_false, ite_true, ite_false, reduceIte, reduceCtorEq, decide_true, decide_false, Nat.reduceAdd, lineN_0, lineN_1, lineN_2, lineN_3, lineN_4, lineN_5, lineN_6, lineN_7, lineN_8, lineN_9, lineN_10, lineN_11, lineN_12, lineN_13, lineN_14, lineN_15, lineN_16, lineN_17, lineN_18, lineN_19, lineN_20, lineN_21, lineN_22, lineN_23, lineN_24]
        rcases hdd with rfl | rfl
        all_goals
          simp only [hl', e1, eVar, eC, aNil, aCons, eTup, fLst, eOp1, eOp2, fOp2, eOpN, fOpN, tBl, tAnd2, tOr2, tNt, eAnd, eOr, eNot, eIf, eChain, eCall, fCall, RV.get, frz, frzL, getL, isB, isOwn_un, isOwn_va, isOwn_li, isOwn_di, isOwn_l2, isOwn_io, sRet, sSet, sSetF, putS, isIo_un, isIo_va, isIo_li, isIo_di, isIo_l2, isIo_io, sIf, sDrop, eFz, eSl, fSl, oNo, oSo, ixD_tup, ixD_lst, ixD_scr, slD_tup, slD_lst, slD_scr, slF_lst, slF_scr, tTrue, iSeq, gN, gTp, gsNil, gsCons, eVar2, lenD_tup, lenD_lst, lenD_scr, cmpD_ii, addD_ii, subD_ii, negD_i, ltD_ii, isNonD_n, notNonD_n, L2.Z.isNon, tupD_tup, tupD_lst, lstF_tup, lstF_lst, lstF_scr, flat_int, flat_bl, flat_non, flat_ints, intD_i, intD_b, absD_i, min2D_ii, sFor, fComp, wipeS, unw, noOwn_nil, noOwn_cons, List.map_cons, List.map_nil, List.length_cons, List.length_nil, List.replicate, List.cons_append, List.nil_append, List.getElem?_cons_zero, List.getElem?_cons_succ, List.set_cons_zero, List.set_cons_succ, List.any_cons, List.any_nil, List.all_cons, List.all_nil, Bool.or_false, Bool.false_or, Bool.and_true, Bool.true_and, Bool.not_true, Bool.not_false, Bool.false_and, Bool.and_false, Bool.false_eq_true, if_true, if_false, ite_true, ite_false, reduceIte, reduceCtorEq, decide_true, decide_false, Nat.reduceAdd, lineN_0, lineN_1, lineN_2, lineN_3, lineN_4, lineN_5, lineN_6, lineN_7, lineN_8, lineN_9, lineN_10, lineN_11, lineN_12, lineN_13, lineN_14, lineN_15, lineN_16, lineN_17, lineN_18, lineN_19, lineN_20, lineN_21, lineN_22, lineN_23, lineN_24]
          simp only [eCallI, ioOf, ioSet, Option.bind, e2, eqD_int, eVar, eC, aNil, aCons, eTup, fLst, eOp1, eOp2, fOp2, eOpN, fOpN, tBl, tAnd2, tOr2, tNt, eAnd, eOr, eNot, eIf, eChain, eCall, fCall, RV.get, frz, frzL, getL, isB, isOwn_un, isOwn_va, isOwn_li, isOwn_di, isOwn_l2, isOwn_io, sRet, sSet, sSetF, putS, isIo_un, isIo_va, isIo_li, isIo_di, isIo_l2, isIo_io, sIf, sDrop, eFz, eSl, fSl, oNo, oSo, ixD_tup, ixD_lst, ixD_scr, slD_tup, slD_lst, slD_scr, slF_lst, slF_scr, tTrue, iSeq, gN, gTp, gsNil, gsCons, eVar2, lenD_tup, lenD_lst, lenD_scr, cmpD_ii, addD_ii, subD_ii, negD_i, ltD_ii, isNonD_n, notNonD_n, L2.Z.isNon, tupD_tup, tupD_lst, lstF_tup, lstF_lst, lstF_scr, flat_int, flat_bl, flat_non, flat_ints, intD_i, intD_b, absD_i, min2D_ii, sFor, fComp, wipeS, unw, noOwn_nil, noOwn_cons, List.map_cons, List.map_nil, List.length_cons, List.length_nil, List.replicate, List.cons_append, List.nil_append, List.getElem?_cons_zero, List.getElem?_cons_succ, List.set_cons_zero, List.set_cons_succ, List.any_cons, List.any_nil, List.all_cons, List.all_nil, Bool.or_false, Bool.false_or, Bool.and_true, Bool.true_and, Bool.not_true, Bool.not_false, Bool.false_and, Bool.and_false, Bool.false_eq_true, if_true, if_false, ite_true, ite_false, reduceIte, reduceCtorEq, decide_true, decide_false, Nat.reduceAdd, lineN_0, lineN_1, lineN_2, lineN_3, lineN_4, lineN_5, lineN_6, lineN_7, lineN_8, lineN_9, lineN_10, lineN_11, lineN_12, lineN_13, lineN_14, lineN_15, lineN_16, lineN_17, lineN_18, lineN_19, lineN_20, lineN_21, lineN_22, lineN_23, lineN_24]
          by_cases h0 : r = 0
          · simp only [h0, decide_true, if_pos, eVar, eC, aNil, aCons, eTup, fLst, eOp1, eOp2, fOp2, eOpN, fOpN, tBl, tAnd2, tOr2, tNt, eAnd, eOr, eNot, eIf, eChain, eCall, fCall, RV.get, frz, frzL, getL, isB, isOwn_un, isOwn_va, isOwn_li, isOwn_di, isOwn_l2, isOwn_io, sRet, sSet, sSetF, putS, isIo_un, isIo_va, isIo_li, isIo_di, isIo_l2, isIo_io, sIf, sDrop, eFz, eSl, fSl, oNo, oSo, ixD_tup, ixD_lst, ixD_scr, slD_tup, slD_lst, slD_scr, slF_lst, slF_scr, tTrue, iSeq, gN, gTp, gsNil, gsCons, eVar2, lenD_tup, lenD_lst, lenD_scr, cmpD_ii, addD_ii, subD_ii, negD_i, ltD_ii, isNonD_n, notNonD_n, L2.Z.isNon, tupD_tup, tupD_lst, lstF_tup, lstF_lst, lstF_scr, flat_int, flat_bl, flat_non, flat_ints, intD_i, intD_b, absD_i, min2D_ii, sFor, fComp, wipeS, unw, noOwn_nil, noOwn_cons, List.map_cons, List.map_nil, List.length_cons, List.length_nil, List.replicate, List.cons_append, List.nil_append, List.getElem?_cons_zero, List.getElem?_cons_succ, List.set_cons_zero, List.set_cons_succ, List.any_cons, List.any_nil, List.all_cons, List.all_nil, Bool.or_false, Bool.false_or, Bool.and_true, Bool.true_and, Bool.not_true, Bool.not_false, Bool.false_and, Bool.and_false, Bool.false_eq_true, if_true, if_false, ite_true, ite_false, reduceIte, reduceCtorEq, decide_true, decide_false, Nat.reduceAdd, lineN_0, lineN_1, lineN_2, lineN_3, lineN_4, lineN_5, lineN_6, lineN_7, lineN_8, lineN_9, lineN_10, lineN_11, lineN_12, lineN_13, lineN_14, lineN_15, lineN_16, lineN_17, lineN_18, lineN_19, lineN_20, lineN_21, lineN_22, lineN_23, lineN_24]
          · simp only [h0, decide_false, if_neg, eVar, eC, aNil, aCons, eTup, fLst, eOp1, eOp2, fOp2, eOpN, fOpN, tBl, tAnd2, tOr2, tNt, eAnd, eOr, eNot, eIf, eChain, eCall, fCall, RV.get, frz, frzL, getL, isB, isOwn_un, isOwn_va, isOwn_li, isOwn_di, isOwn_l2, isOwn_io, sRet, sSet, sSetF, putS, isIo_un, isIo_va, isIo_li, isIo_di, isIo_l2, isIo_io, sIf, sDrop, eFz, eSl, fSl, oNo, oSo, ixD_tup, ixD_lst, ixD_scr, slD_tup, slD_lst, slD_scr, slF_lst, slF_scr, tTrue, iSeq, gN, gTp, gsNil, gsCons, eVar2, lenD_tup, lenD_lst, lenD_scr, cmpD_ii, addD_ii, subD_ii, negD_i, ltD_ii, isNonD_n, notNonD_n, L2.Z.isNon, tupD_tup, tupD_lst, lstF_tup, lstF_lst, lstF_scr, flat_int, flat_bl, flat_non, flat_ints, intD_i, intD_b, absD_i, min2D_ii, sFor, fComp, wipeS, unw, noOwn_nil, noOwn_cons, List.map_cons, List.map_nil, List.length_cons, List.length_nil, List.replicate, List.cons_append, List.nil_append, List.getElem?_cons_zero, List.getElem?_cons_succ, List.set_cons_zero, List.set_cons_succ, List.any_cons, List.any_nil, List.all_cons, List.all_nil, Bool.or_false, Bool.false_or, Bool.and_true, Bool.true_and, Bool.not_true, Bool.not_false, Bool.false_and, Bool.and_false, Bool.false_eq_true, if_true, if_false, ite_true, ite_false, reduceIte, reduceCtorEq, decide_true, decide_false, Nat.reduceAdd, lineN_0, lineN_1, lineN_2, lineN_3, lineN_4, lineN_5, lineN_6, lineN_7, lineN_8, lineN_9, lineN_10, lineN_11, lineN_12, lineN_13, lineN_14, lineN_15, lineN_16, lineN_17, lineN_18, lineN_19, lineN_20, lineN_21, lineN_22, lineN_23, lineN_24]
      · by_cases h0 : r = 0
        · rw [if_pos h0]; exact gd_lst.mpr ⟨by omega, g1⟩
        · rw [if_neg h0]; exact gd_tup.mpr ⟨by omega, g1⟩
      · rw [hd, ← p1]
        by_cases h0 : r = 0
        · rw [if_pos h0]; unfold tpl; rfl
        · rw [if_neg h0]; unfold tpl; rfl
end L2.G04

/-! part P04f -/
set_option Elab.async false
set_option linter.all false
set_option maxRecDepth 100000
set_option maxHeartbeats 4000000
namespace L2.G04
open PySem L2.Z
theorem set_of_tup (ns : List Int) (h : ns.length < 64) : f_set_of [.tup (ns.map D.int)] = .ok (.tup ((setI ns).map D.int)) := by
  simp only [f_set_of, fnP, m_set_of, fSortZ, zSet, itsD, intsOf_map, if_pos (show ns.length ≤ 4000 by omega), if_pos h, eVar, eC, aNil, aCons, eTup, fLst, eOp1, eOp2, fOp2, eOpN, fOpN, tBl, tAnd2, tOr2, tNt, eAnd, eOr, eNot, eIf, eChain, eCall, fCall, RV.get, frz, frzL, getL, isB, isOwn_un, isOwn_va, isOwn_li, isOwn_di, isOwn_l2, isOwn_io, sRet, sSet, sSetF, putS, isIo_un, isIo_va, isIo_li, isIo_di, isIo_l2, isIo_io, sIf, sDrop, eFz, eSl, fSl, oNo, oSo, ixD_tup, ixD_lst, ixD_scr, slD_tup, slD_lst, slD_scr, slF_lst, slF_scr, tTrue, iSeq, gN, gTp, gsNil, gsCons, eVar2, lenD_tup, lenD_lst, lenD_scr, cmpD_ii, addD_ii, subD_ii, negD_i, ltD_ii, isNonD_n, notNonD_n, L2.Z.isNon, tupD_tup, tupD_lst, lstF_tup, lstF_lst, lstF_scr, flat_int, flat_bl, flat_non, flat_ints, intD_i, intD_b, absD_i, min2D_ii, sFor, fComp, wipeS, unw, noOwn_nil, noOwn_cons, List.map_cons, List.map_nil, List.length_cons, List.length_nil, List.replicate, List.cons_append, List.nil_append, List.getElem?_cons_zero, List.getElem?_cons_succ, List.set_cons_zero, List.set_cons_succ, List.any_cons, List.any_nil, List.all_cons, List.all_nil, Bool.or_false, Bool.false_or, Bool.and_true, Bool.true_and, Bool.not_true, Bool.not_false, Bool.false_and, Bool.and_false, Bool.false_eq_true, if_true, if_false, ite_true, ite_false, reduceIte, reduceCtorEq, decide_true, decide_false, Nat.reduceAdd, lineN_0, lineN_1, lineN_2, lineN_3, lineN_4, lineN_5, lineN_6, lineN_7, lineN_8, lineN_9, lineN_10, lineN_11, lineN_12, lineN_13, lineN_14, lineN_15, lineN_16, lineN_17, lineN_18, lineN_19, lineN_20, lineN_21, lineN_22, lineN_23, lineN_24]
theorem set_of_lst (ns : List Int) (h : ns.length < 64) : f_set_of [.lst (ns.map D.int)] = .ok (.tup ((setI ns).map D.int)) := by
  simp only [f_set_of, fnP, m_set_of, fSortZ, zSet, itsD, intsOf_map, if_pos (show ns.length ≤ 4000 by omega), if_pos h, eVar, eC, aNil, aCons, eTup, fLst, eOp1, eOp2, fOp2, eOpN, fOpN, tBl, tAnd2, tOr2, tNt, eAnd, eOr, eNot, eIf, eChain, eCall, fCall, RV.get, frz, frzL, getL, isB, isOwn_un, isOwn_va, isOwn_li, isOwn_di, isOwn_l2, isOwn_io, sRet, sSet, sSetF, putS, isIo_un, isIo_va, isIo_li, isIo_di, isIo_l2, isIo_io, sIf, sDrop, eFz, eSl, fSl, oNo, oSo, ixD_tup, ixD_lst, ixD_scr, slD_tup, slD_lst, slD_scr, slF_lst, slF_scr, tTrue, iSeq, gN, gTp, gsNil, gsCons, eVar2, lenD_tup, lenD_lst, lenD_scr, cmpD_ii, addD_ii, subD_ii, negD_i, ltD_ii, isNonD_n, notNonD_n, L2.Z.isNon, tupD_tup, tupD_lst, lstF_tup, lstF_lst, lstF_scr, flat_int, flat_bl, flat_non, flat_ints, intD_i, intD_b, absD_i, min2D_ii, sFor, fComp, wipeS, unw, noOwn_nil, noOwn_cons, List.map_cons, List.map_nil, List.length_cons, List.length_nil, List.replicate, List.cons_append, List.nil_append, List.getElem?_cons_zero, List.getElem?_cons_succ, List.set_cons_zero, List.set_cons_succ, List.any_cons, List.any_nil, List.all_cons, List.all_nil, Bool.or_false, Bool.false_or, Bool.and_true, Bool.true_and, Bool.not_true, Bool.not_false, Bool.false_and, Bool.and_false, Bool.false_eq_true, if_true, if_false, ite_true, ite_false, reduceIte, reduceCtorEq, decide_true, decide_false, Nat.reduceAdd, lineN_0, lineN_1, lineN_2, lineN_3, lineN_4, lineN_5, lineN_6, lineN_7, lineN_8, lineN_9, lineN_10, lineN_11, lineN_12, lineN_13, lineN_14, lineN_15, lineN_16, lineN_17, lineN_18, lineN_19, lineN_20, lineN_21, lineN_22, lineN_23, lineN_24]
/-! the places that are reached -/
def freshI (rows : List (List Int)) (found : List Int) (p : Int) : List Int := (setI (rows.getD p.toNat [])).filter fun v => !decide (v ∈ found)
def runI (rows : List (List Int)) : Nat → List Int → List Int → List Int
  | 0, f, _ => f
  | n + 1, f, l => match l.getLast? with
    | none => f
    | some p => runI rows n (f ++ freshI rows f p) (l.dropLast ++ freshI rows f p)
structure Inv (rows : List (List Int)) (f l : List Int) : Prop where
  nd : f.Nodup
  fr : ∀ v ∈ f, 0 ≤ v ∧ v < rows.length
  lr : ∀ v ∈ l, 0 ≤ v ∧ v < rows.length
theorem nodup_bound : ∀ {n : Nat} {f : List Int}, f.Nodup → (∀ v ∈ f, 0 ≤ v ∧ v < (n : Int)) → f.length ≤ n
  | 0, f, _, h => by
    cases f with
    | nil => simp
    | cons x f => have := h x (List.mem_cons_self ..); omega
  | n + 1, f, nd, h => by
    have h1 : (f.erase (n : Int)).length ≤ n := nodup_bound (nd.erase _) fun v hv => by
      have h2 := h v (List.mem_of_mem_erase hv)
      have h3 : v ≠ (n : Int) := fun e => by subst e; exact (List.Nodup.not_mem_erase nd) hv
      omega
    rw [List.length_erase] at h1
    split at h1 <;> omega
section
variable {k : Int} {rows : List (List Int)} (M : Mach k rows)
include M
theorem row_at {p : Int} (hp : 0 ≤ p ∧ p < rows.length) : rows.getD p.toNat [] ∈ rows ∧ L2.atI (rows.map rowD) p = some (rowD (rows.getD p.toNat [])) ∧ (rows.getD p.toNat []).length ≤ 4 := by
  have h1 : p.toNat < rows.length := by omega
  have e1 : rows[p.toNat]? = some (rows.getD p.toNat []) := by
    rw [List.getD_eq_getElem?_getD, List.getElem?_eq_getElem h1]; rfl
  have m1 : rows.getD p.toNat [] ∈ rows := List.mem_of_getElem? e1
  have := M.len _ m1
  have := M.k4
  exact ⟨m1, atI_i hp.1 (by rw [List.getElem?_map, e1]; rfl), by omega⟩
theorem fresh_ok {f : List Int} {p : Int} (hp : 0 ≤ p ∧ p < rows.length) : (∀ v ∈ freshI rows f p, (0 ≤ v ∧ v < rows.length) ∧ v ∉ f) ∧ (freshI rows f p).Nodup := by
  refine ⟨fun v hv => ?_, ?_⟩
  · unfold freshI at hv
    rw [List.mem_filter] at hv
    refine ⟨M.ent _ (row_at M hp).1 v (mem_setI.mp hv.1), ?_⟩
    simpa using hv.2
  · exact List.Pairwise.filter _ ((pw_setI _).imp fun h => Int.ne_of_lt h)
theorem inv_step {f l : List Int} {p : Int} (I : Inv rows f l) (hp : 0 ≤ p ∧ p < rows.length) : Inv rows (f ++ freshI rows f p) (l.dropLast ++ freshI rows f p) := by
  obtain ⟨h1, h2⟩ := fresh_ok M (f := f) hp
  refine ⟨List.nodup_append.mpr ⟨I.nd, h2, fun a ha b hb e => (h1 b hb).2 (e ▸ ha)⟩, fun v hv => ?_, fun v hv => ?_⟩
  · rcases List.mem_append.mp hv with h | h
    · exact I.fr v h
    · exact (h1 v h).1
  · rcases List.mem_append.mp hv with h | h
    · exact I.lr v ((List.dropLast_sublist l).subset h)
    · exact (h1 v h).1
end
/-- what is left to do -/
def meas (rows : List (List Int)) (f l : List Int) : Nat := 2 * (rows.length - f.length) + l.length
theorem last_some {l : List Int} (h : l ≠ []) : ∃ p, l.getLast? = some p ∧ p ∈ l ∧ l[l.length - 1]? = some p := by
  refine ⟨l.getLast h, List.getLast?_eq_some_getLast h, List.getLast_mem h, ?_⟩
  rw [← List.getLast?_eq_getElem?, List.getLast?_eq_some_getLast h]
theorem run_more (rows : List (List Int)) : ∀ (n : Nat) (f : List Int), runI rows n f [] = f
  | 0, _ => rfl
  | n + 1, f => rfl
theorem filter_fresh (rows : List (List Int)) (f : List Int) (ns : List Int) : (((setI ns).map D.int).filter fun x => !(f.map D.int).any fun z => eqv z x).map id = ((setI ns).filter fun v => !decide (v ∈ f)).map D.int := by
  rw [List.map_id, List.filter_map]
  congr 1
  apply List.filter_congr
  intro v _
  show (!(f.map D.int).any fun z => eqv z (.int v)) = _
  rw [L2.Z.any_ints]
theorem eqv_nil (x : D) (xs : List D) : eqv (.lst (x :: xs)) (.lst []) = false := by unfold eqv; unfold eqvL; rfl
theorem neD_nil (ns : List Int) : neD (.lst (ns.map D.int)) (.lst []) = some (.bl (decide (ns ≠ []))) := by
  rw [neD_pl (pl_lst 63 _ (plL_ints 63 ns)) (pl_lst 63 _ (plL_nil 63))]
  cases ns with
  | nil => simp [eqv, eqvL]
  | cons n ns => rw [List.map_cons, eqv_nil]; simp
section
variable {k : Int} {rows : List (List Int)} (M : Mach k rows)
include M
theorem places_loop (P : D) : ∀ (m : Nat) (f l : List Int) (x y : SV) (N : Nat), m ≤ 30 → Inv rows f l → meas rows f l ≤ m → m < N → isIo x = false → isIo y = false → (∀ s, y = s → isOwn s = false) →
    ∃ x' y', whGo (tBl (eOp2 neD (eVar 3) (eFz (fLst aNil)))) (sSeq (sSet 4 (eFz (fComp [5] (iSeq (eCall 1 f_set_of (aCons (eOp2 ixD (eVar 0) (ePop 3)) aNil))) (gN 5) (tBl (eOp2 notInD (eVar 5) (eVar 2))) (eVar 5)))) (sSeq (sExtend 2 (eVar 4)) (sExtend 3 (eVar 4)))) N
      [.va (rowsD rows), .va P, .li (f.map D.int), .li (l.map D.int), x, y] = .nx [.va (rowsD rows), .va P, .li ((runI rows m f l).map D.int), .li [], x', y'] := by
  intro m
  induction m with
  | zero =>
    intro f l x y N h30 I hm hN hx hy ho
    have : l = [] := by
      unfold meas at hm
      exact List.eq_nil_of_length_eq_zero (by omega)
    subst this
    cases N with
    | zero => omega
    | succ N =>
      refine ⟨x, y, ?_⟩
      unfold whGo
      have := neD_nil []
      simp only [List.map_nil] at this
      simp only [this, runI, ne_eq, not_true_eq_false, decide_false, eVar, eC, aNil, aCons, eTup, fLst, eOp1, eOp2, fOp2, eOpN, fOpN, tBl, tAnd2, tOr2, tNt, eAnd, eOr, eNot, eIf, eChain, eCall, fCall, RV.get, frz, frzL, getL, isB, isOwn_un, isOwn_va, isOwn_li, isOwn_di, isOwn_l2, isOwn_io, sRet, sSet, sSetF, putS, isIo_un, isIo_va, isIo_li, isIo_di, isIo_l2, isIo_io, sIf, sDrop, eFz, eSl, fSl, oNo, oSo, ixD_tup, ixD_lst, ixD_scr, slD_tup, slD_lst, slD_scr, slF_lst, slF_scr, tTrue, iSeq, gN, gTp, gsNil, gsCons, eVar2, lenD_tup, lenD_lst, lenD_scr, cmpD_ii, addD_ii, subD_ii, negD_i, ltD_ii, isNonD_n, notNonD_n, L2.Z.isNon, tupD_tup, tupD_lst, lstF_tup, lstF_lst, lstF_scr, flat_int, flat_bl, flat_non, flat_ints, intD_i, intD_b, absD_i, min2D_ii, sFor, fComp, wipeS, unw, noOwn_nil, noOwn_cons, List.map_cons, List.map_nil, List.length_cons, List.length_nil, List.replicate, List.cons_append, List.nil_append, List.getElem?_cons_zero, List.getElem?_cons_succ, List.set_cons_zero, List.set_cons_succ, List.any_cons, List.any_nil, List.all_cons, List.all_nil, Bool.or_false, Bool.false_or, Bool.and_true, Bool.true_and, Bool.not_true, Bool.not_false, Bool.false_and, Bool.and_false, Bool.false_eq_true, if_true, if_false, ite_true, ite_false, reduceIte, reduceCtorEq, decide_true, decide_false, Nat.reduceAdd, lineN_0, lineN_1, lineN_2, lineN_3, lineN_4, lineN_5, lineN_6, lineN_7, lineN_8, lineN_9, lineN_10, lineN_11, lineN_12, lineN_13, lineN_14, lineN_15, lineN_16, lineN_17, lineN_18, lineN_19, lineN_20, lineN_21, lineN_22, lineN_23, lineN_24]
  | succ m ih =>
    intro f l x y N h30 I hm hN hx hy ho
    cases N with
    | zero => omega
    | succ N =>
    by_cases hl : l = []
    · subst hl
      refine ⟨x, y, ?_⟩
      unfold whGo
      have := neD_nil []
      simp only [List.map_nil] at this
      simp only [this, run_more, ne_eq, not_true_eq_false, decide_false, eVar, eC, aNil, aCons, eTup, fLst, eOp1, eOp2, fOp2, eOpN, fOpN, tBl, tAnd2, tOr2, tNt, eAnd, eOr, eNot, eIf, eChain, eCall, fCall, RV.get, frz, frzL, getL, isB, isOwn_un, isOwn_va, isOwn_li, isOwn_di, isOwn_l2, isOwn_io, sRet, sSet, sSetF, putS, isIo_un, isIo_va, isIo_li, isIo_di, isIo_l2, isIo_io, sIf, sDrop, eFz, eSl, fSl, oNo, oSo, ixD_tup, ixD_lst, ixD_scr, slD_tup, slD_lst, slD_scr, slF_lst, slF_scr, tTrue, iSeq, gN, gTp, gsNil, gsCons, eVar2, lenD_tup, lenD_lst, lenD_scr, cmpD_ii, addD_ii, subD_ii, negD_i, ltD_ii, isNonD_n, notNonD_n, L2.Z.isNon, tupD_tup, tupD_lst, lstF_tup, lstF_lst, lstF_scr, flat_int, flat_bl, flat_non, flat_ints, intD_i, intD_b, absD_i, min2D_ii, sFor, fComp, wipeS, unw, noOwn_nil, noOwn_cons, List.map_cons, List.map_nil, List.length_cons, List.length_nil, List.replicate, List.cons_append, List.nil_append, List.getElem?_cons_zero, List.getElem?_cons_succ, List.set_cons_zero, List.set_cons_succ, List.any_cons, List.any_nil, List.all_cons, List.all_nil, Bool.or_false, Bool.false_or, Bool.and_true, Bool.true_and, Bool.not_true, Bool.not_false, Bool.false_and, Bool.and_false, Bool.false_eq_true, if_true, if_false, ite_true, ite_false, reduceIte, reduceCtorEq, decide_true, decide_false, Nat.reduceAdd, lineN_0, lineN_1, lineN_2, lineN_3, lineN_4, lineN_5, lineN_6, lineN_7, lineN_8, lineN_9, lineN_10, lineN_11, lineN_12, lineN_13, lineN_14, lineN_15, lineN_16, lineN_17, lineN_18, lineN_19, lineN_20, lineN_21, lineN_22, lineN_23, lineN_24]
    · obtain ⟨p, e1, e2, e3⟩ := last_some hl
      have hp := I.lr p e2
      obtain ⟨r1, r2, r3⟩ := row_at M hp
      have I' := inv_step M I hp
      have nl := nodup_bound I'.nd I'.fr
      rw [List.length_append] at nl
      have hll : 1 ≤ l.length := List.length_pos_iff.mpr hl
      have hf := nodup_bound I.nd I.fr
      have n10 := M.n10
      have hm' : meas rows (f ++ freshI rows f p) (l.dropLast ++ freshI rows f p) ≤ m := by
        unfold meas at hm ⊢
        rw [List.length_append, List.length_append, List.length_dropLast]
        omega
      obtain ⟨x', y', e⟩ := ih (f ++ freshI rows f p) (l.dropLast ++ freshI rows f p) (.va (.lst ((freshI rows f p).map D.int))) y N (by omega) I' hm' (by omega) rfl hy ho
      refine ⟨x', y', ?_⟩
      unfold whGo
      have c1 := neD_nil l
      have c2 : (l.map D.int)[(l.map D.int).length - 1]? = some (.int p) := by rw [List.length_map, List.getElem?_map, e3]; rfl
      have c3 : decide (l ≠ []) = true := decide_eq_true hl
      have c4 : runI rows (m + 1) f l = runI rows m (f ++ freshI rows f p) (l.dropLast ++ freshI rows f p) := by
        show (match l.getLast? with | none => f | some p => runI rows m (f ++ freshI rows f p) (l.dropLast ++ freshI rows f p)) = _
        rw [e1]
      rw [c4]
      have c5 : f_set_of [rowD (rows.getD p.toNat [])] = .ok (.tup ((setI (rows.getD p.toNat [])).map D.int)) := set_of_tup _ (by omega)
      have sl := setI_len (rows.getD p.toNat [])
      have c6 : decide (((setI (rows.getD p.toNat [])).map D.int).length ≤ lineN) = true := decide_eq_true (len_line (by rw [List.length_map]; omega))
      have yo : (match y with | s => !isOwn s) = true := by rw [show (match y with | s => !isOwn s) = !isOwn y from rfl, ho y rfl]; rfl
      have fl : (freshI rows f p).length ≤ 10 := by omega
      have l10 : l.length ≤ 40 := by unfold meas at hm; omega
      simp only [c1, c3, sSeq, ePop, ioOf, ioSet, Option.bind, c2, ix_rows r2, c5, c6, ho y rfl, eVar, eC, aNil, aCons, eTup, fLst, eOp1, eOp2, fOp2, eOpN, fOpN, tBl, tAnd2, tOr2, tNt, eAnd, eOr, eNot, eIf, eChain, eCall, fCall, RV.get, frz, frzL, getL, isB, isOwn_un, isOwn_va, isOwn_li, isOwn_di, isOwn_l2, isOwn_io, sRet, sSet, sSetF, putS, isIo_un, isIo_va, isIo_li, isIo_di, isIo_l2, isIo_io, sIf, sDrop, eFz, eSl, fSl, oNo, oSo, ixD_tup, ixD_lst, ixD_scr, slD_tup, slD_lst, slD_scr, slF_lst, slF_scr, tTrue, iSeq, gN, gTp, gsNil, gsCons, eVar2, lenD_tup, lenD_lst, lenD_scr, cmpD_ii, addD_ii, subD_ii, negD_i, ltD_ii, isNonD_n, notNonD_n, L2.Z.isNon, tupD_tup, tupD_lst, lstF_tup, lstF_lst, lstF_scr, flat_int, flat_bl, flat_non, flat_ints, intD_i, intD_b, absD_i, min2D_ii, sFor, fComp, wipeS, unw, noOwn_nil, noOwn_cons, List.map_cons, List.map_nil, List.length_cons, List.length_nil, List.replicate, List.cons_append, List.nil_append, List.getElem?_cons_zero, List.getElem?_cons_succ, List.set_cons_zero, List.set_cons_succ, List.any_cons, List.any_nil, List.all_cons, List.all_nil, Bool.or_false, Bool.false_or, Bool.and_true, Bool.true_and, Bool.not_true, Bool.not_false, Bool.false_and, Bool.and_false, Bool.false_eq_true, if_true, if_false, ite_true, ite_false, reduceIte, reduceCtorEq, decide_true, decide_false, Nat.reduceAdd, lineN_0, lineN_1, lineN_2, lineN_3, lineN_4, lineN_5, lineN_6, lineN_7, lineN_8, lineN_9, lineN_10, lineN_11, lineN_12, lineN_13, lineN_14, lineN_15, lineN_16, lineN_17, lineN_18, lineN_19, lineN_20, lineN_21, lineN_22, lineN_23, lineN_24]
      have hE1 : (f.map D.int).length + ((freshI rows f p).map D.int).length ≤ lineN := len_line (by rw [List.length_map, List.length_map]; omega)
      have hE2 : ((l.map D.int).dropLast).length + ((freshI rows f p).map D.int).length ≤ lineN := len_line (by rw [List.length_dropLast, List.length_map, List.length_map]; omega)
      rw [compGo_filter (p := fun x => !(f.map D.int).any fun z => eqv z x) (h := id)]
      · rw [filter_fresh rows]
        rw [List.map_append, List.map_append, List.map_dropLast] at e
        have fe : ((setI (rows.getD p.toNat [])).filter fun v => !decide (v ∈ f)) = freshI rows f p := rfl
        simp only [fe, hx, sExtend, ioOf, ioSet, Option.bind, if_pos hE1, if_pos hE2, eVar, eC, aNil, aCons, eTup, fLst, eOp1, eOp2, fOp2, eOpN, fOpN, tBl, tAnd2, tOr2, tNt, eAnd, eOr, eNot, eIf, eChain, eCall, fCall, RV.get, frz, frzL, getL, isB, isOwn_un, isOwn_va, isOwn_li, isOwn_di, isOwn_l2, isOwn_io, sRet, sSet, sSetF, putS, isIo_un, isIo_va, isIo_li, isIo_di, isIo_l2, isIo_io, sIf, sDrop, eFz, eSl, fSl, oNo, oSo, ixD_tup, ixD_lst, ixD_scr, slD_tup, slD_lst, slD_scr, slF_lst, slF_scr, tTrue, iSeq, gN, gTp, gsNil, gsCons, eVar2, lenD_tup, lenD_lst, lenD_scr, cmpD_ii, addD_ii, subD_ii, negD_i, ltD_ii, isNonD_n, notNonD_n, L2.Z.isNon, tupD_tup, tupD_lst, lstF_tup, lstF_lst, lstF_scr, flat_int, flat_bl, flat_non, flat_ints, intD_i, intD_b, absD_i, min2D_ii, sFor, fComp, wipeS, unw, noOwn_nil, noOwn_cons, List.map_cons, List.map_nil, List.length_cons, List.length_nil, List.replicate, List.cons_append, List.nil_append, List.getElem?_cons_zero, List.getElem?_cons_succ, List.set_cons_zero, List.set_cons_succ, List.any_cons, List.any_nil, List.all_cons, List.all_nil, Bool.or_false, Bool.false_or, Bool.and_true, Bool.true_and, Bool.not_true, Bool.not_false, Bool.false_and, Bool.and_false, Bool.false_eq_true, if_true, if_false, ite_true, ite_false, reduceIte, reduceCtorEq, decide_true, decide_false, Nat.reduceAdd, lineN_0, lineN_1, lineN_2, lineN_3, lineN_4, lineN_5, lineN_6, lineN_7, lineN_8, lineN_9, lineN_10, lineN_11, lineN_12, lineN_13, lineN_14, lineN_15, lineN_16, lineN_17, lineN_18, lineN_19, lineN_20, lineN_21, lineN_22, lineN_23, lineN_24]
        exact e
      · intro q hq
        obtain ⟨v, hv, rfl⟩ := List.mem_map.mp hq
        refine ⟨[.va (rowsD rows), .va P, .li (f.map D.int), .li (l.map D.int).dropLast, x, .va (.int v)], rfl, ?_, fun _ => ⟨.v (.int v), rfl, rfl⟩, rfl⟩
        simp only [notInD_lst (pl_int 64 v) (plL_ints 63 f), eVar, eC, aNil, aCons, eTup, fLst, eOp1, eOp2, fOp2, eOpN, fOpN, tBl, tAnd2, tOr2, tNt, eAnd, eOr, eNot, eIf, eChain, eCall, fCall, RV.get, frz, frzL, getL, isB, isOwn_un, isOwn_va, isOwn_li, isOwn_di, isOwn_l2, isOwn_io, sRet, sSet, sSetF, putS, isIo_un, isIo_va, isIo_li, isIo_di, isIo_l2, isIo_io, sIf, sDrop, eFz, eSl, fSl, oNo, oSo, ixD_tup, ixD_lst, ixD_scr, slD_tup, slD_lst, slD_scr, slF_lst, slF_scr, tTrue, iSeq, gN, gTp, gsNil, gsCons, eVar2, lenD_tup, lenD_lst, lenD_scr, cmpD_ii, addD_ii, subD_ii, negD_i, ltD_ii, isNonD_n, notNonD_n, L2.Z.isNon, tupD_tup, tupD_lst, lstF_tup, lstF_lst, lstF_scr, flat_int, flat_bl, flat_non, flat_ints, intD_i, intD_b, absD_i, min2D_ii, sFor, fComp, wipeS, unw, noOwn_nil, noOwn_cons, List.map_cons, List.map_nil, List.length_cons, List.length_nil, List.replicate, List.cons_append, List.nil_append, List.getElem?_cons_zero, List.getElem?_cons_succ, List.set_cons_zero, List.set_cons_succ, List.any_cons, List.any_nil, List.all_cons, List.all_nil, Bool.or_false, Bool.false_or, Bool.and_true, Bool.true_and, Bool.not_true, Bool.not_false, Bool.false_and, Bool.and_false, Bool.false_eq_true, if_true, if_false, ite_true, ite_false, reduceIte, reduceCtorEq, decide_true, decide_false, Nat.reduceAdd, lineN_0, lineN_1, lineN_2, lineN_3, lineN_4, lineN_5, lineN_6, lineN_7, lineN_8, lineN_9, lineN_10, lineN_11, lineN_12, lineN_13, lineN_14, lineN_15, lineN_16, lineN_17, lineN_18, lineN_19, lineN_20, lineN_21, lineN_22, lineN_23, lineN_24]
theorem run_inv : ∀ (n : Nat) (f l : List Int), Inv rows f l → (runI rows n f l).Nodup ∧ ∀ v ∈ runI rows n f l, 0 ≤ v ∧ v < rows.length
  | 0, f, l, I => ⟨I.nd, I.fr⟩
  | n + 1, f, l, I => by
    by_cases hl : l = []
    · subst hl; rw [run_more]; exact ⟨I.nd, I.fr⟩
    · obtain ⟨p, e1, e2, _⟩ := last_some hl
      have c4 : runI rows (n + 1) f l = runI rows n (f ++ freshI rows f p) (l.dropLast ++ freshI rows f p) := by
        show (match l.getLast? with | none => f | some p => runI rows n (f ++ freshI rows f p) (l.dropLast ++ freshI rows f p)) = _
        rw [e1]
      rw [c4]
      exact run_inv n _ _ (inv_step M I (I.lr p e2))
omit M in
theorem inv_one {p : Int} (hp : 0 ≤ p ∧ p < rows.length) : Inv rows [p] [p] := ⟨by simp, fun v hv => by rw [List.mem_singleton] at hv; rw [hv]; exact hp, fun v hv => by rw [List.mem_singleton] at hv; rw [hv]; exact hp⟩
/-- all that is reached from p -/
def reach (rows : List (List Int)) (p : Int) : List Int := runI rows 30 [p] [p]
theorem reach_ok {p : Int} (hp : 0 ≤ p ∧ p < rows.length) : (reach rows p).Nodup ∧ (∀ v ∈ reach rows p, 0 ≤ v ∧ v < rows.length) ∧ (reach rows p).length ≤ 10 := by
  obtain ⟨h1, h2⟩ := run_inv M 30 [p] [p] (inv_one hp)
  have := nodup_bound h1 h2
  have := M.n10
  exact ⟨h1, h2, by unfold reach; omega⟩
theorem places_in_eq {p : Int} (hp : 0 ≤ p ∧ p < rows.length) : f_places_in [rowsD rows, .int p] = .ok (.tup ((setI (reach rows p)).map D.int)) := by
  have I := inv_one hp
  have n10 := M.n10
  obtain ⟨x', y', e⟩ := places_loop M (.int p) 30 [p] [p] .un .un 100000 (by decide) I (by unfold meas; simp only [List.length_singleton]; omega) (by decide) rfl rfl (fun s h => by subst h; rfl)
  rw [List.map_singleton] at e
  have hl : (runI rows 30 [p] [p]).length < 64 := Nat.lt_of_le_of_lt (reach_ok M hp).2.2 (by decide)
  have c := set_of_lst _ hl
  simp only [f_places_in, fnP, m_places_in, sSeq, sPar, vConsF, vNil, putMany, eVar, eC, aNil, aCons, eTup, fLst, eOp1, eOp2, fOp2, eOpN, fOpN, tBl, tAnd2, tOr2, tNt, eAnd, eOr, eNot, eIf, eChain, eCall, fCall, RV.get, frz, frzL, getL, isB, isOwn_un, isOwn_va, isOwn_li, isOwn_di, isOwn_l2, isOwn_io, sRet, sSet, sSetF, putS, isIo_un, isIo_va, isIo_li, isIo_di, isIo_l2, isIo_io, sIf, sDrop, eFz, eSl, fSl, oNo, oSo, ixD_tup, ixD_lst, ixD_scr, slD_tup, slD_lst, slD_scr, slF_lst, slF_scr, tTrue, iSeq, gN, gTp, gsNil, gsCons, eVar2, lenD_tup, lenD_lst, lenD_scr, cmpD_ii, addD_ii, subD_ii, negD_i, ltD_ii, isNonD_n, notNonD_n, L2.Z.isNon, tupD_tup, tupD_lst, lstF_tup, lstF_lst, lstF_scr, flat_int, flat_bl, flat_non, flat_ints, intD_i, intD_b, absD_i, min2D_ii, sFor, fComp, wipeS, unw, noOwn_nil, noOwn_cons, List.map_cons, List.map_nil, List.length_cons, List.length_nil, List.replicate, List.cons_append, List.nil_append, List.getElem?_cons_zero, List.getElem?_cons_succ, List.set_cons_zero, List.set_cons_succ, List.any_cons, List.any_nil, List.all_cons, List.all_nil, Bool.or_false, Bool.false_or, Bool.and_true, Bool.true_and, Bool.not_true, Bool.not_false, Bool.false_and, Bool.and_false, Bool.false_eq_true, if_true, if_false, ite_true, ite_false, reduceIte, reduceCtorEq, decide_true, decide_false, Nat.reduceAdd, lineN_0, lineN_1, lineN_2, lineN_3, lineN_4, lineN_5, lineN_6, lineN_7, lineN_8, lineN_9, lineN_10, lineN_11, lineN_12, lineN_13, lineN_14, lineN_15, lineN_16, lineN_17, lineN_18, lineN_19, lineN_20, lineN_21, lineN_22, lineN_23, lineN_24] at e ⊢
  simp only [e, c, reach, eVar, eC, aNil, aCons, eTup, fLst, eOp1, eOp2, fOp2, eOpN, fOpN, tBl, tAnd2, tOr2, tNt, eAnd, eOr, eNot, eIf, eChain, eCall, fCall, RV.get, frz, frzL, getL, isB, isOwn_un, isOwn_va, isOwn_li, isOwn_di, isOwn_l2, isOwn_io, sRet, sSet, sSetF, putS, isIo_un, isIo_va, isIo_li, isIo_di, isIo_l2, isIo_io, sIf, sDrop, eFz, eSl, fSl, oNo, oSo, ixD_tup, ixD_lst, ixD_scr, slD_tup, slD_lst, slD_scr, slF_lst, slF_scr, tTrue, iSeq, gN, gTp, gsNil, gsCons, eVar2, lenD_tup, lenD_lst, lenD_scr, cmpD_ii, addD_ii, subD_ii, negD_i, ltD_ii, isNonD_n, notNonD_n, L2.Z.isNon, tupD_tup, tupD_lst, lstF_tup, lstF_lst, lstF_scr, flat_int, flat_bl, flat_non, flat_ints, intD_i, intD_b, absD_i, min2D_ii, sFor, fComp, wipeS, unw, noOwn_nil, noOwn_cons, List.map_cons, List.map_nil, List.length_cons, List.length_nil, List.replicate, List.cons_append, List.nil_append, List.getElem?_cons_zero, List.getElem?_cons_succ, List.set_cons_zero, List.set_cons_succ, List.any_cons, List.any_nil, List.all_cons, List.all_nil, Bool.or_false, Bool.false_or, Bool.and_true, Bool.true_and, Bool.not_true, Bool.not_false, Bool.false_and, Bool.and_false, Bool.false_eq_true, if_true, if_false, ite_true, ite_false, reduceIte, reduceCtorEq, decide_true, decide_false, Nat.reduceAdd, lineN_0, lineN_1, lineN_2, lineN_3, lineN_4, lineN_5, lineN_6, lineN_7, lineN_8, lineN_9, lineN_10, lineN_11, lineN_12, lineN_13, lineN_14, lineN_15, lineN_16, lineN_17, lineN_18, lineN_19, lineN_20, lineN_21, lineN_22, lineN_23, lineN_24]
end
end L2.G04

/-! part P04g -/
set_option Elab.async false
set_option linter.all false
set_option maxRecDepth 100000
set_option maxHeartbeats 4000000
namespace L2.G04
open PySem L2.Z
theorem setI_nodup {l : List Int} (h : l.Nodup) : setI l = sortI l := by
  symm
  refine setI_of ?_ fun j => (perm_sortI l).mem_iff
  have h1 := pw_sortI l
  have h2 : (sortI l).Nodup := (perm_sortI l).nodup_iff.mpr h
  exact (h1.and h2).imp fun ⟨a, b⟩ => by omega
theorem eqD_nil (ns : List Int) : eqD (.lst (ns.map D.int)) (.lst []) = some (.bl (decide (ns = []))) := by
  rw [eqD_pl (pl_lst 63 _ (plL_ints 63 ns)) (pl_lst 63 _ (plL_nil 63))]
  cases ns with
  | nil => simp [eqv, eqvL]
  | cons n ns => rw [List.map_cons, eqv_nil]; simp
section
variable {k : Int} {rows : List (List Int)} (M : Mach k rows)
include M
theorem from_loop (P : D) : ∀ (xs : List D) (m : Nat) (f l : List Int) (x y z : SV), m ≤ 30 → Inv rows f l → meas rows f l ≤ m → m < xs.length → isIo x = false → isIo y = false → isIo z = false → isOwn z = false →
    ∃ x' y' z', forGo (gN 2) (sSeq (sIf (tBl (eOp2 eqD (eVar 4) (eFz (fLst aNil)))) .bk .nx) (sSeq (sSet 5 (eFz (fComp [6] (iSeq (eFz (fSortZ (zSet (aCons (eOp2 ixD (eVar 0) (ePop 4)) aNil))))) (gN 6) (tBl (eOp2 notInD (eVar 6) (eVar 3))) (eVar 6)))) (sPar [3, 4] (vCons (eOp2 addD (eVar 3) (eVar 5)) (vConsF (fOp2 catF (eVar 4) (eVar 5)) vNil))))) xs
      [.va (rowsD rows), .va P, x, .va (.lst (f.map D.int)), .li (l.map D.int), y, z] = .nx [.va (rowsD rows), .va P, x', .va (.lst ((runI rows m f l).map D.int)), .li [], y', z']
  | [], m, f, l, x, y, z, _, _, _, hN, _, _, _, _ => by simp at hN
  | q :: xs, m, f, l, x, y, z, h30, I, hm, hN, hx, hy, hz, ho => by
    rw [List.length_cons] at hN
    by_cases hl : l = []
    · subst hl
      refine ⟨.va q, y, z, ?_⟩
      unfold forGo
      have := eqD_nil []
      simp only [List.map_nil] at this
      simp only [this, hx, sSeq, run_more, decide_true, eVar, eC, aNil, aCons, eTup, fLst, eOp1, eOp2, fOp2, eOpN, fOpN, tBl, tAnd2, tOr2, tNt, eAnd, eOr, eNot, eIf, eChain, eCall, fCall, RV.get, frz, frzL, getL, isB, isOwn_un, isOwn_va, isOwn_li, isOwn_di, isOwn_l2, isOwn_io, sRet, sSet, sSetF, putS, isIo_un, isIo_va, isIo_li, isIo_di, isIo_l2, isIo_io, sIf, sDrop, eFz, eSl, fSl, oNo, oSo, ixD_tup, ixD_lst, ixD_scr, slD_tup, slD_lst, slD_scr, slF_lst, slF_scr, tTrue, iSeq, gN, gTp, gsNil, gsCons, eVar2, lenD_tup, lenD_lst, lenD_scr, cmpD_ii, addD_ii, subD_ii, negD_i, ltD_ii, isNonD_n, notNonD_n, L2.Z.isNon, tupD_tup, tupD_lst, lstF_tup, lstF_lst, lstF_scr, flat_int, flat_bl, flat_non, flat_ints, intD_i, intD_b, absD_i, min2D_ii, sFor, fComp, wipeS, unw, noOwn_nil, noOwn_cons, List.map_cons, List.map_nil, List.length_cons, List.length_nil, List.replicate, List.cons_append, List.nil_append, List.getElem?_cons_zero, List.getElem?_cons_succ, List.set_cons_zero, List.set_cons_succ, List.any_cons, List.any_nil, List.all_cons, List.all_nil, Bool.or_false, Bool.false_or, Bool.and_true, Bool.true_and, Bool.not_true, Bool.not_false, Bool.false_and, Bool.and_false, Bool.false_eq_true, if_true, if_false, ite_true, ite_false, reduceIte, reduceCtorEq, decide_true, decide_false, Nat.reduceAdd, lineN_0, lineN_1, lineN_2, lineN_3, lineN_4, lineN_5, lineN_6, lineN_7, lineN_8, lineN_9, lineN_10, lineN_11, lineN_12, lineN_13, lineN_14, lineN_15, lineN_16, lineN_17, lineN_18, lineN_19, lineN_20, lineN_21, lineN_22, lineN_23, lineN_24]
    · obtain ⟨p, e1, e2, e3⟩ := last_some hl
      have hp := I.lr p e2
      obtain ⟨r1, r2, r3⟩ := row_at M hp
      have I' := inv_step M I hp
      have nl := nodup_bound I'.nd I'.fr
      rw [List.length_append] at nl
      have hll : 1 ≤ l.length := List.length_pos_iff.mpr hl
      have hf := nodup_bound I.nd I.fr
      have n10 := M.n10
      cases m with
      | zero => unfold meas at hm; omega
      | succ m =>
      have hm' : meas rows (f ++ freshI rows f p) (l.dropLast ++ freshI rows f p) ≤ m := by
        unfold meas at hm ⊢
        rw [List.length_append, List.length_append, List.length_dropLast]
        omega
      obtain ⟨x', y', z', e⟩ := from_loop P xs m (f ++ freshI rows f p) (l.dropLast ++ freshI rows f p) (.va q) (.va (.lst ((freshI rows f p).map D.int))) z (by omega) I' hm' (by omega) rfl rfl hz ho
      refine ⟨x', y', z', ?_⟩
      have c1 := eqD_nil l
      have c2 : (l.map D.int)[(l.map D.int).length - 1]? = some (.int p) := by rw [List.length_map, List.getElem?_map, e3]; rfl
      have c3 : decide (l = []) = false := decide_eq_false hl
      have c4 : runI rows (m + 1) f l = runI rows m (f ++ freshI rows f p) (l.dropLast ++ freshI rows f p) := by
        show (match l.getLast? with | none => f | some p => runI rows m (f ++ freshI rows f p) (l.dropLast ++ freshI rows f p)) = _
        rw [e1]
      rw [c4]
      have sl := setI_len (rows.getD p.toNat [])
      have c5 : itsD (rowD (rows.getD p.toNat [])) = some ((rows.getD p.toNat []).map D.int) := rfl
      have c6 : decide (((setI (rows.getD p.toNat [])).map D.int).length ≤ lineN) = true := decide_eq_true (len_line (by rw [List.length_map]; omega))
      have fl : (freshI rows f p).length ≤ 10 := by omega
      have l10 : l.length ≤ 40 := by unfold meas at hm; omega
      have hE1 : (f.map D.int).length + ((freshI rows f p).map D.int).length ≤ lineN := len_line (by rw [List.length_map, List.length_map]; omega)
      have hE2 : ((l.map D.int).dropLast).length + ((freshI rows f p).map D.int).length ≤ lineN := len_line (by rw [List.length_dropLast, List.length_map, List.length_map]; omega)
      unfold forGo
      simp only [c1, c3, hx, sSeq, ePop, ioOf, ioSet, Option.bind, c2, ix_rows r2, fSortZ, zSet, c5, intsOf_map, if_pos (show (rows.getD p.toNat []).length ≤ 4000 by omega), if_pos (show (rows.getD p.toNat []).length < 64 by omega), c6, ho, eVar, eC, aNil, aCons, eTup, fLst, eOp1, eOp2, fOp2, eOpN, fOpN, tBl, tAnd2, tOr2, tNt, eAnd, eOr, eNot, eIf, eChain, eCall, fCall, RV.get, frz, frzL, getL, isB, isOwn_un, isOwn_va, isOwn_li, isOwn_di, isOwn_l2, isOwn_io, sRet, sSet, sSetF, putS, isIo_un, isIo_va, isIo_li, isIo_di, isIo_l2, isIo_io, sIf, sDrop, eFz, eSl, fSl, oNo, oSo, ixD_tup, ixD_lst, ixD_scr, slD_tup, slD_lst, slD_scr, slF_lst, slF_scr, tTrue, iSeq, gN, gTp, gsNil, gsCons, eVar2, lenD_tup, lenD_lst, lenD_scr, cmpD_ii, addD_ii, subD_ii, negD_i, ltD_ii, isNonD_n, notNonD_n, L2.Z.isNon, tupD_tup, tupD_lst, lstF_tup, lstF_lst, lstF_scr, flat_int, flat_bl, flat_non, flat_ints, intD_i, intD_b, absD_i, min2D_ii, sFor, fComp, wipeS, unw, noOwn_nil, noOwn_cons, List.map_cons, List.map_nil, List.length_cons, List.length_nil, List.replicate, List.cons_append, List.nil_append, List.getElem?_cons_zero, List.getElem?_cons_succ, List.set_cons_zero, List.set_cons_succ, List.any_cons, List.any_nil, List.all_cons, List.all_nil, Bool.or_false, Bool.false_or, Bool.and_true, Bool.true_and, Bool.not_true, Bool.not_false, Bool.false_and, Bool.and_false, Bool.false_eq_true, if_true, if_false, ite_true, ite_false, reduceIte, reduceCtorEq, decide_true, decide_false, Nat.reduceAdd, lineN_0, lineN_1, lineN_2, lineN_3, lineN_4, lineN_5, lineN_6, lineN_7, lineN_8, lineN_9, lineN_10, lineN_11, lineN_12, lineN_13, lineN_14, lineN_15, lineN_16, lineN_17, lineN_18, lineN_19, lineN_20, lineN_21, lineN_22, lineN_23, lineN_24]
      rw [compGo_filter (p := fun x => !(f.map D.int).any fun z => eqv z x) (h := id)]
      · rw [filter_fresh rows]
        rw [List.map_append, List.map_append, List.map_dropLast] at e
        have fe : ((setI (rows.getD p.toNat [])).filter fun v => !decide (v ∈ f)) = freshI rows f p := rfl
        simp only [fe, hy, sPar, vCons, vConsF, vNil, putMany, addD_ll hE1, catF_ll hE2, eVar, eC, aNil, aCons, eTup, fLst, eOp1, eOp2, fOp2, eOpN, fOpN, tBl, tAnd2, tOr2, tNt, eAnd, eOr, eNot, eIf, eChain, eCall, fCall, RV.get, frz, frzL, getL, isB, isOwn_un, isOwn_va, isOwn_li, isOwn_di, isOwn_l2, isOwn_io, sRet, sSet, sSetF, putS, isIo_un, isIo_va, isIo_li, isIo_di, isIo_l2, isIo_io, sIf, sDrop, eFz, eSl, fSl, oNo, oSo, ixD_tup, ixD_lst, ixD_scr, slD_tup, slD_lst, slD_scr, slF_lst, slF_scr, tTrue, iSeq, gN, gTp, gsNil, gsCons, eVar2, lenD_tup, lenD_lst, lenD_scr, cmpD_ii, addD_ii, subD_ii, negD_i, ltD_ii, isNonD_n, notNonD_n, L2.Z.isNon, tupD_tup, tupD_lst, lstF_tup, lstF_lst, lstF_scr, flat_int, flat_bl, flat_non, flat_ints, intD_i, intD_b, absD_i, min2D_ii, sFor, fComp, wipeS, unw, noOwn_nil, noOwn_cons, List.map_cons, List.map_nil, List.length_cons, List.length_nil, List.replicate, List.cons_append, List.nil_append, List.getElem?_cons_zero, List.getElem?_cons_succ, List.set_cons_zero, List.set_cons_succ, List.any_cons, List.any_nil, List.all_cons, List.all_nil, Bool.or_false, Bool.false_or, Bool.and_true, Bool.true_and, Bool.not_true, Bool.not_false, Bool.false_and, Bool.and_false, Bool.false_eq_true, if_true, if_false, ite_true, ite_false, reduceIte, reduceCtorEq, decide_true, decide_false, Nat.reduceAdd, lineN_0, lineN_1, lineN_2, lineN_3, lineN_4, lineN_5, lineN_6, lineN_7, lineN_8, lineN_9, lineN_10, lineN_11, lineN_12, lineN_13, lineN_14, lineN_15, lineN_16, lineN_17, lineN_18, lineN_19, lineN_20, lineN_21, lineN_22, lineN_23, lineN_24]
        exact e
      · intro q' hq
        obtain ⟨v, hv, rfl⟩ := List.mem_map.mp hq
        refine ⟨[.va (rowsD rows), .va P, .va q, .va (.lst (f.map D.int)), .li (l.map D.int).dropLast, y, .va (.int v)], rfl, ?_, fun _ => ⟨.v (.int v), rfl, rfl⟩, rfl⟩
        simp only [notInD_lst (pl_int 64 v) (plL_ints 63 f), eVar, eC, aNil, aCons, eTup, fLst, eOp1, eOp2, fOp2, eOpN, fOpN, tBl, tAnd2, tOr2, tNt, eAnd, eOr, eNot, eIf, eChain, eCall, fCall, RV.get, frz, frzL, getL, isB, isOwn_un, isOwn_va, isOwn_li, isOwn_di, isOwn_l2, isOwn_io, sRet, sSet, sSetF, putS, isIo_un, isIo_va, isIo_li, isIo_di, isIo_l2, isIo_io, sIf, sDrop, eFz, eSl, fSl, oNo, oSo, ixD_tup, ixD_lst, ixD_scr, slD_tup, slD_lst, slD_scr, slF_lst, slF_scr, tTrue, iSeq, gN, gTp, gsNil, gsCons, eVar2, lenD_tup, lenD_lst, lenD_scr, cmpD_ii, addD_ii, subD_ii, negD_i, ltD_ii, isNonD_n, notNonD_n, L2.Z.isNon, tupD_tup, tupD_lst, lstF_tup, lstF_lst, lstF_scr, flat_int, flat_bl, flat_non, flat_ints, intD_i, intD_b, absD_i, min2D_ii, sFor, fComp, wipeS, unw, noOwn_nil, noOwn_cons, List.map_cons, List.map_nil, List.length_cons, List.length_nil, List.replicate, List.cons_append, List.nil_append, List.getElem?_cons_zero, List.getElem?_cons_succ, List.set_cons_zero, List.set_cons_succ, List.any_cons, List.any_nil, List.all_cons, List.all_nil, Bool.or_false, Bool.false_or, Bool.and_true, Bool.true_and, Bool.not_true, Bool.not_false, Bool.false_and, Bool.and_false, Bool.false_eq_true, if_true, if_false, ite_true, ite_false, reduceIte, reduceCtorEq, decide_true, decide_false, Nat.reduceAdd, lineN_0, lineN_1, lineN_2, lineN_3, lineN_4, lineN_5, lineN_6, lineN_7, lineN_8, lineN_9, lineN_10, lineN_11, lineN_12, lineN_13, lineN_14, lineN_15, lineN_16, lineN_17, lineN_18, lineN_19, lineN_20, lineN_21, lineN_22, lineN_23, lineN_24]
theorem law_from_eq {p : Int} (hp : 0 ≤ p ∧ p < rows.length) : f_law_from [rowsD rows, .int p] = .ok (.lst ((setI (reach rows p)).map D.int)) := by
  have I := inv_one hp
  have n10 := M.n10
  obtain ⟨x', y', z', e⟩ := from_loop M (.int p) (rangeD 0 200) 30 [p] [p] .un .un .un (by decide) I (by unfold meas; simp only [List.length_singleton]; omega) (by rw [range_len]; decide) rfl rfl rfl rfl
  rw [List.map_singleton] at e
  have c := setI_nodup (reach_ok M hp).1
  have h2 : (-(2 ^ 62 : Int) ≤ 200 ∧ (200 : Int) < 2 ^ 62) := by decide
  simp only [f_law_from, fnP, m_law_from, sSeq, sPar, vCons, vConsF, vNil, putMany, iRange1, if_pos h2, eVar, eC, aNil, aCons, eTup, fLst, eOp1, eOp2, fOp2, eOpN, fOpN, tBl, tAnd2, tOr2, tNt, eAnd, eOr, eNot, eIf, eChain, eCall, fCall, RV.get, frz, frzL, getL, isB, isOwn_un, isOwn_va, isOwn_li, isOwn_di, isOwn_l2, isOwn_io, sRet, sSet, sSetF, putS, isIo_un, isIo_va, isIo_li, isIo_di, isIo_l2, isIo_io, sIf, sDrop, eFz, eSl, fSl, oNo, oSo, ixD_tup, ixD_lst, ixD_scr, slD_tup, slD_lst, slD_scr, slF_lst, slF_scr, tTrue, iSeq, gN, gTp, gsNil, gsCons, eVar2, lenD_tup, lenD_lst, lenD_scr, cmpD_ii, addD_ii, subD_ii, negD_i, ltD_ii, isNonD_n, notNonD_n, L2.Z.isNon, tupD_tup, tupD_lst, lstF_tup, lstF_lst, lstF_scr, flat_int, flat_bl, flat_non, flat_ints, intD_i, intD_b, absD_i, min2D_ii, sFor, fComp, wipeS, unw, noOwn_nil, noOwn_cons, List.map_cons, List.map_nil, List.length_cons, List.length_nil, List.replicate, List.cons_append, List.nil_append, List.getElem?_cons_zero, List.getElem?_cons_succ, List.set_cons_zero, List.set_cons_succ, List.any_cons, List.any_nil, List.all_cons, List.all_nil, Bool.or_false, Bool.false_or, Bool.and_true, Bool.true_and, Bool.not_true, Bool.not_false, Bool.false_and, Bool.and_false, Bool.false_eq_true, if_true, if_false, ite_true, ite_false, reduceIte, reduceCtorEq, decide_true, decide_false, Nat.reduceAdd, lineN_0, lineN_1, lineN_2, lineN_3, lineN_4, lineN_5, lineN_6, lineN_7, lineN_8, lineN_9, lineN_10, lineN_11, lineN_12, lineN_13, lineN_14, lineN_15, lineN_16, lineN_17, lineN_18, lineN_19, lineN_20, lineN_21, lineN_22, lineN_23, lineN_24] at e ⊢
  simp only [e, sortF, intsOf_map, eVar, eC, aNil, aCons, eTup, fLst, eOp1, eOp2, fOp2, eOpN, fOpN, tBl, tAnd2, tOr2, tNt, eAnd, eOr, eNot, eIf, eChain, eCall, fCall, RV.get, frz, frzL, getL, isB, isOwn_un, isOwn_va, isOwn_li, isOwn_di, isOwn_l2, isOwn_io, sRet, sSet, sSetF, putS, isIo_un, isIo_va, isIo_li, isIo_di, isIo_l2, isIo_io, sIf, sDrop, eFz, eSl, fSl, oNo, oSo, ixD_tup, ixD_lst, ixD_scr, slD_tup, slD_lst, slD_scr, slF_lst, slF_scr, tTrue, iSeq, gN, gTp, gsNil, gsCons, eVar2, lenD_tup, lenD_lst, lenD_scr, cmpD_ii, addD_ii, subD_ii, negD_i, ltD_ii, isNonD_n, notNonD_n, L2.Z.isNon, tupD_tup, tupD_lst, lstF_tup, lstF_lst, lstF_scr, flat_int, flat_bl, flat_non, flat_ints, intD_i, intD_b, absD_i, min2D_ii, sFor, fComp, wipeS, unw, noOwn_nil, noOwn_cons, List.map_cons, List.map_nil, List.length_cons, List.length_nil, List.replicate, List.cons_append, List.nil_append, List.getElem?_cons_zero, List.getElem?_cons_succ, List.set_cons_zero, List.set_cons_succ, List.any_cons, List.any_nil, List.all_cons, List.all_nil, Bool.or_false, Bool.false_or, Bool.and_true, Bool.true_and, Bool.not_true, Bool.not_false, Bool.false_and, Bool.and_false, Bool.false_eq_true, if_true, if_false, ite_true, ite_false, reduceIte, reduceCtorEq, decide_true, decide_false, Nat.reduceAdd, lineN_0, lineN_1, lineN_2, lineN_3, lineN_4, lineN_5, lineN_6, lineN_7, lineN_8, lineN_9, lineN_10, lineN_11, lineN_12, lineN_13, lineN_14, lineN_15, lineN_16, lineN_17, lineN_18, lineN_19, lineN_20, lineN_21, lineN_22, lineN_23, lineN_24]
  rw [c]; rfl
theorem places_from_m {p : Int} (hp : 0 ≤ p ∧ p < rows.length) : f_places_from [mD k rows, .int p] = .ok (.tup ((setI (reach rows p)).map D.int)) := by
  simp only [f_places_from, fnP, m_places_from, sSeq, sure_machine_m M, ix_m1, sure_place_i hp, places_in_eq M hp, eVar, eC, aNil, aCons, eTup, fLst, eOp1, eOp2, fOp2, eOpN, fOpN, tBl, tAnd2, tOr2, tNt, eAnd, eOr, eNot, eIf, eChain, eCall, fCall, RV.get, frz, frzL, getL, isB, isOwn_un, isOwn_va, isOwn_li, isOwn_di, isOwn_l2, isOwn_io, sRet, sSet, sSetF, putS, isIo_un, isIo_va, isIo_li, isIo_di, isIo_l2, isIo_io, sIf, sDrop, eFz, eSl, fSl, oNo, oSo, ixD_tup, ixD_lst, ixD_scr, slD_tup, slD_lst, slD_scr, slF_lst, slF_scr, tTrue, iSeq, gN, gTp, gsNil, gsCons, eVar2, lenD_tup, lenD_lst, lenD_scr, cmpD_ii, addD_ii, subD_ii, negD_i, ltD_ii, isNonD_n, notNonD_n, L2.Z.isNon, tupD_tup, tupD_lst, lstF_tup, lstF_lst, lstF_scr, flat_int, flat_bl, flat_non, flat_ints, intD_i, intD_b, absD_i, min2D_ii, sFor, fComp, wipeS, unw, noOwn_nil, noOwn_cons, List.map_cons, List.map_nil, List.length_cons, List.length_nil, List.replicate, List.cons_append, List.nil_append, List.getElem?_cons_zero, List.getElem?_cons_succ, List.set_cons_zero, List.set_cons_succ, List.any_cons, List.any_nil, List.all_cons, List.all_nil, Bool.or_false, Bool.false_or, Bool.and_true, Bool.true_and, Bool.not_true, Bool.not_false, Bool.false_and, Bool.and_false, Bool.false_eq_true, if_true, if_false, ite_true, ite_false, reduceIte, reduceCtorEq, decide_true, decide_false, Nat.reduceAdd, lineN_0, lineN_1, lineN_2, lineN_3, lineN_4, lineN_5, lineN_6, lineN_7, lineN_8, lineN_9, lineN_10, lineN_11, lineN_12, lineN_13, lineN_14, lineN_15, lineN_16, lineN_17, lineN_18, lineN_19, lineN_20, lineN_21, lineN_22, lineN_23, lineN_24]
end
end L2.G04

/-! part P04i -/
set_option Elab.async false
set_option linter.all false
set_option maxRecDepth 100000
set_option maxHeartbeats 4000000
namespace L2.G04
open PySem L2.Z
/-! a machine, drawn -/
structure Env where
  n : Int
  k : Int
  a1 : SV
  a2 : SV
  a3 : SV
  a4 : SV
  a8 : SV
  a9 : SV
  a10 : SV
  a11 : SV
  a12 : SV
  a13 : SV
  a15 : SV
  a16 : SV
  a17 : SV
  a18 : SV
def St (e : Env) (t : List D) (x5 x14 : SV) : Lo := [.io t, e.a1, e.a2, e.a3, e.a4, x5, .va (.int e.n), .va (.int e.k), e.a8, e.a9, e.a10, e.a11, e.a12, e.a13, x14, e.a15, e.a16, e.a17, e.a18]
theorem take_e {A : Lo → R RV} {L : Lo} {n : Nat} {t : List D} {m : Int} (h0 : L[0]? = some (.io t)) (hA : A L = .ok (.v (.int m)) L) (T : Tin n t) (hn : n ≤ 1000000000) (h1 : 1 ≤ m) (h2 : m ≤ 1000000) :
    ∃ (r : Int) (t' : List D), eCallI 2 0 f_law_take (aCons A aNil) L = .ok (.v (.int r)) (L.set 0 (.io t')) ∧ 0 ≤ r ∧ r < m ∧ Tin (n + 1) t' := by
  obtain ⟨r, t', e, r0, r1, T1⟩ := take_ok T hn h1 h2
  refine ⟨r, t', ?_, r0, r1, T1⟩
  unfold eCallI
  rw [h0]
  show (match aCons A aNil L with | .ok rs L1 => _ | .ex x L1 => _ | .no => _) = _
  rw [aOne hA]
  dsimp only
  rw [h0]
  show (if (decide ([RV.v (D.int m)].length + 1 = 2) && !([RV.v (D.int m)].any (isB · L))) = true then (match f_law_take t [.int m] with | .v d ys => R.ok (RV.v d) (L.set 0 (.io ys)) | .f ds ys => _ | .no => _) else _) = _
  rw [e]
  rfl
theorem rows_all {P : List Int → Prop} : ∀ {ds : List D}, (∀ d ∈ ds, ∃ r, d = rowD r ∧ P r) → ∃ rows : List (List Int), ds = rows.map rowD ∧ ∀ r ∈ rows, P r
  | [], _ => ⟨[], rfl, by simp⟩
  | d :: ds, h => by
    obtain ⟨rows, rfl, hr⟩ := rows_all fun y hy => h y (List.mem_cons_of_mem _ hy)
    obtain ⟨r, rfl, h2⟩ := h d (List.mem_cons_self ..)
    refine ⟨r :: rows, rfl, fun z hm => ?_⟩
    rcases List.mem_cons.mp hm with rfl | hm
    · exact h2
    · exact hr z hm
theorem row_dr (e : Env) {lo hi : Int} (hk : 0 ≤ e.k ∧ e.k ≤ 4) {ME : Lo → R RV} {x14 : SV} (q : Nat)
    (H : ∀ (a : Int) (n : Nat) (t : List D), 0 ≤ a → a < e.k → n + q ≤ 1000000000 → Tin n t → ∃ (i : Int) (t' : List D), ME (St e t (.va (.int a)) x14) = .ok (.v (.int i)) (St e t' (.va (.int a)) x14) ∧ (lo ≤ i ∧ i < hi) ∧ Tin (n + q) t')
    (n : Nat) (t : List D) (hn : n + 4 * q ≤ 1000000000) (T : Tin n t) :
    ∃ (r : List Int) (t' : List D), fComp [5] (iRange1 (aCons (eVar 7) aNil)) (gN 5) tTrue ME (St e t .un x14) = .ok (r.map D.int) (St e t' .un x14) ∧ ((r.length : Int) = e.k ∧ ∀ v ∈ r, lo ≤ v ∧ v < hi) ∧ Tin (n + 4 * q) t' := by
  have hq : q * (e.k - 0).toNat ≤ 4 * q := by rw [Nat.mul_comm 4]; exact Nat.mul_le_mul_left q (by omega)
  obtain ⟨ds, t2, e2, dl, dq, T2⟩ := compGo_dr (vs := [5]) (gm := gN 5) (me := ME) Tin (fun t => St e t .un x14) (fun d => ∃ i : Int, d = .int i ∧ lo ≤ i ∧ i < hi) q 1000000000 (rangeD 0 e.k) (by
    intro x hx n t hn T
    obtain ⟨a, rfl, h0, h1⟩ := range_mem hx
    obtain ⟨i, t', e1, hi, T'⟩ := H a n t h0 h1 hn T
    exact ⟨St e t (.va (.int a)) x14, .v (.int i), St e t' (.va (.int a)) x14, .int i, _, t', rfl, e1, rfl, rfl, ⟨i, rfl, hi⟩, T'⟩) n t (by rw [range_len]; omega) T
  obtain ⟨r, rfl, hr⟩ := ints_all (p := fun i => lo ≤ i ∧ i < hi) dq
  rw [List.length_map, range_len] at dl
  exact ⟨r, t2, fComp_of (iR1_of rfl rfl (by omega)) (by rw [range_len]; omega) rfl e2, ⟨by omega, hr⟩, T2.le (by rw [range_len]; omega)⟩
theorem rows_dr (e : Env) {m : Int} (hm : 0 ≤ m ∧ m ≤ 10) {X RE : Lo → R RV} (q : Nat) (Q : D → Prop)
    (hX : ∀ t, ∃ r, X (St e t .un .un) = .ok r (St e t .un .un) ∧ r.get (St e t .un .un) = some (.int m))
    (H : ∀ (p : Int) (n : Nat) (t : List D), 0 ≤ p → p < m → n + q ≤ 1000000000 → Tin n t → ∃ (d : D) (t' : List D), RE (St e t .un (.va (.int p))) = .ok (.v d) (St e t' .un (.va (.int p))) ∧ Q d ∧ Tin (n + q) t')
    (n : Nat) (t : List D) (hn : n + 10 * q ≤ 1000000000) (T : Tin n t) :
    ∃ (ds t' : List D), fComp [14] (iRange1 (aCons X aNil)) (gN 14) tTrue RE (St e t .un .un) = .ok ds (St e t' .un .un) ∧ ((ds.length : Int) = m ∧ ∀ d ∈ ds, Q d) ∧ Tin (n + 10 * q) t' := by
  have hq : q * (m - 0).toNat ≤ 10 * q := by rw [Nat.mul_comm 10]; exact Nat.mul_le_mul_left q (by omega)
  obtain ⟨ds, t2, e2, dl, dq, T2⟩ := compGo_dr (vs := [14]) (gm := gN 14) (me := RE) Tin (fun t => St e t .un .un) Q q 1000000000 (rangeD 0 m) (by
    intro x hx n t hn T
    obtain ⟨p, rfl, h0, h1⟩ := range_mem hx
    obtain ⟨d, t', e1, hi, T'⟩ := H p n t h0 h1 hn T
    exact ⟨St e t .un (.va (.int p)), .v d, St e t' .un (.va (.int p)), d, _, t', rfl, e1, rfl, rfl, hi, T'⟩) n t (by rw [range_len]; omega) T
  rw [range_len] at dl
  obtain ⟨r, x1, x2⟩ := hX t
  exact ⟨ds, t2, fComp_of (iR1_of x1 x2 (by omega)) (by rw [range_len]; omega) rfl e2, ⟨by omega, dq⟩, T2.le (by rw [range_len]; omega)⟩
/-- tuples of tuples -/
theorem rows_t (e : Env) {m lo hi : Int} (hm : 0 ≤ m ∧ m ≤ 10) (hk : 0 ≤ e.k ∧ e.k ≤ 4) {X ME : Lo → R RV} (q : Nat)
    (hX : ∀ t, ∃ r, X (St e t .un .un) = .ok r (St e t .un .un) ∧ r.get (St e t .un .un) = some (.int m))
    (H : ∀ (p a : Int) (n : Nat) (t : List D), 0 ≤ p → p < m → 0 ≤ a → a < e.k → n + q ≤ 1000000000 → Tin n t → ∃ (i : Int) (t' : List D), ME (St e t (.va (.int a)) (.va (.int p))) = .ok (.v (.int i)) (St e t' (.va (.int a)) (.va (.int p))) ∧ (lo ≤ i ∧ i < hi) ∧ Tin (n + q) t')
    (n : Nat) (t : List D) (hn : n + 40 * q ≤ 1000000000) (T : Tin n t) :
    ∃ (rows : List (List Int)) (t' : List D), fComp [14] (iRange1 (aCons X aNil)) (gN 14) tTrue (eOpN tupD (aCons (eFz (fComp [5] (iRange1 (aCons (eVar 7) aNil)) (gN 5) tTrue ME)) aNil)) (St e t .un .un) = .ok (rows.map rowD) (St e t' .un .un) ∧ ((rows.length : Int) = m ∧ ∀ r ∈ rows, (r.length : Int) = e.k ∧ ∀ v ∈ r, lo ≤ v ∧ v < hi) ∧ Tin (n + 40 * q) t' := by
  obtain ⟨ds, t2, e2, ⟨dl, dq⟩, T2⟩ := rows_dr e hm (X := X) (RE := eOpN tupD (aCons (eFz (fComp [5] (iRange1 (aCons (eVar 7) aNil)) (gN 5) tTrue ME)) aNil)) (4 * q) (fun d => ∃ r : List Int, d = rowD r ∧ ((r.length : Int) = e.k ∧ ∀ v ∈ r, lo ≤ v ∧ v < hi)) hX (by
    intro p n t p0 p1 hn T
    obtain ⟨r, t', e1, hr, T'⟩ := row_dr e hk (lo := lo) (hi := hi) (ME := ME) (x14 := .va (.int p)) q (fun a n t a0 a1 => H p a n t p0 p1 a0 a1) n t hn T
    exact ⟨rowD r, t', eOpN_of (aOne (eFz_of e1)) rfl rfl, ⟨r, rfl, hr⟩, T'⟩) n t (by omega) T
  obtain ⟨rows, rfl, hr⟩ := rows_all dq
  rw [List.length_map] at dl
  exact ⟨rows, t2, e2, ⟨dl, hr⟩, T2.le (by omega)⟩
theorem ret_of (e : Env) {F : Lo → R (List D)} {t t' : List D} {rows : List (List Int)} (h : F (St e t .un .un) = .ok (rows.map rowD) (St e t' .un .un)) :
    sRet (eTup (aCons (eVar 7) (aCons (eOpN tupD (aCons (eFz F) aNil)) aNil))) (St e t .un .un) = .rt (mD e.k rows) (St e t' .un .un) := by
  have e1 : eOpN tupD (aCons (eFz F) aNil) (St e t .un .un) = .ok (.v (rowsD rows)) (St e t' .un .un) := eOpN_of (aOne (eFz_of h)) rfl rfl
  have e2 : aCons (eVar 7) (aCons (eOpN tupD (aCons (eFz F) aNil)) aNil) (St e t .un .un) = .ok [.v (.int e.k), .v (rowsD rows)] (St e t' .un .un) := aCons_of rfl (aOne e1)
  unfold sRet eTup
  rw [e2]
  rfl
theorem mach_of {k n : Int} {rows : List (List Int)} (h1 : 1 ≤ n ∧ n ≤ 10) (h2 : 1 ≤ k ∧ k ≤ 4) (h3 : (rows.length : Int) = n ∧ ∀ r ∈ rows, (r.length : Int) = k ∧ ∀ v ∈ r, 0 ≤ v ∧ v < n) : Mach k rows :=
  ⟨h2.1, h2.2, by omega, by omega, fun r hr => (h3.2 r hr).1, fun r hr v hv => by rw [h3.1]; exact (h3.2 r hr).2 v hv⟩
/-- what is drawn in any of the ways -/
def Drawn (e : Env) (n : Nat) (r : SR) : Prop := ∃ (rows : List (List Int)) (t' : List D) (L : Lo), r = .rt (mD e.k rows) L ∧ L[0]? = some (.io t') ∧ Mach e.k rows ∧ (rows.length : Int) = e.n ∧ Tin n t'
section
variable {e : Env} (hn : 1 ≤ e.n ∧ e.n ≤ 10) (hk : 1 ≤ e.k ∧ e.k ≤ 4)
include hn hk
theorem kind01 (n : Nat) (t : List D) (hb : n + 40 ≤ 1000000000) (T : Tin n t) : Drawn e (n + 40) (sRet (eTup (aCons (eVar 7) (aCons (eOpN tupD (aCons (eFz (fComp [14] (iRange1 (aCons (eVar 6) aNil)) (gN 14) tTrue (eOpN tupD (aCons (eFz (fComp [5] (iRange1 (aCons (eVar 7) aNil)) (gN 5) tTrue (eCallI 2 0 f_law_take (aCons (eVar 6) aNil)))) aNil)))) aNil)) aNil))) (St e t .un .un)) := by
  obtain ⟨rows, t2, e2, h2, T2⟩ := rows_t e (m := e.n) (lo := 0) (hi := e.n) ⟨by omega, hn.2⟩ ⟨by omega, hk.2⟩ (X := eVar 6) (ME := eCallI 2 0 f_law_take (aCons (eVar 6) aNil)) 1 (fun t => ⟨.v (.int e.n), rfl, rfl⟩) (by
    intro p a n t p0 p1 a0 a1 hb T
    obtain ⟨r, t', e1, r0, r1, T1⟩ := take_e (A := eVar 6) (L := St e t (.va (.int a)) (.va (.int p))) (m := e.n) rfl rfl T (by omega) (by omega) (by omega)
    exact ⟨r, t', e1, ⟨r0, r1⟩, T1⟩) n t (by omega) T
  exact ⟨rows, t2, _, ret_of e e2, rfl, mach_of hn hk h2, h2.1, T2.le (by omega)⟩
end
end L2.G04

/-! part P04j -/
set_option Elab.async false
set_option linter.all false
set_option maxRecDepth 100000
set_option maxHeartbeats 4000000
namespace L2.G04
open PySem L2.Z
theorem pick_e {A1 A2 : Lo → R RV} {L : Lo} {n : Nat} {t gs : List D} {c : Int} (h0 : L[0]? = some (.io t)) (h1 : A1 L = .ok (.v (.lst gs)) L) (h2 : A2 L = .ok (.v (.int c)) L) (T : Tin n t) (hn : n + 1000 ≤ 1000000000) (hg : gs.length ≤ 1000) (c0 : 0 ≤ c) (c1 : c ≤ gs.length) :
    ∃ (found rest t' : List D), fCallI 3 0 f_law_pick (aCons A1 (aCons A2 aNil)) L = .ok found (L.set 0 (.io t')) ∧ (found ++ rest).Perm gs ∧ (found.length : Int) = c ∧ Tin (n + 1000) t' := by
  obtain ⟨found, rest, t', e, p, l, T'⟩ := pick_ok T hn hg c0 c1
  refine ⟨found, rest, t', ?_, p, l, T'⟩
  have e2 : aCons A1 (aCons A2 aNil) L = .ok [.v (.lst gs), .v (.int c)] L := by
    exact aCons_of h1 (aOne h2)
  unfold fCallI
  rw [h0]
  show (match aCons A1 (aCons A2 aNil) L with | .ok rs L1 => _ | .ex x L1 => _ | .no => _) = _
  rw [e2]
  dsimp only
  rw [h0]
  show (if (decide ([RV.v (D.lst gs), RV.v (D.int c)].length + 1 = 3) && !([RV.v (D.lst gs), RV.v (D.int c)].any (isB · L))) = true then (match f_law_pick t [.lst gs, .int c] with | .f ds ys => R.ok ds (L.set 0 (.io ys)) | _ => _) else _) = _
  rw [e]
  rfl
theorem pick_mem {found rest : List D} {n : Int} (p : (found ++ rest).Perm (rangeD 0 n)) : ∀ x ∈ found, ∃ i : Int, x = .int i ∧ 0 ≤ i ∧ i < n := fun x hx => range_mem (p.mem_iff.mp (List.mem_append_left _ hx))
theorem rget2 {m k hi : Int} {rs : List (List D)} (B : BoxL m k hi rs) {a p : Int} (ha : 0 ≤ a ∧ a < m) (hp : 0 ≤ p ∧ p < k) : ∃ (xs : List D) (i : Int), rs[a.toNat]? = some xs ∧ xs[p.toNat]? = some (.int i) ∧ 0 ≤ i ∧ i < hi := by
  have h1 : a.toNat < rs.length := by have := B.1; omega
  obtain ⟨h2, h3⟩ := B.2 _ (List.getElem_mem h1)
  have h4 : p.toNat < rs[a.toNat].length := by omega
  obtain ⟨i, e, h5⟩ := h3 _ (List.getElem_mem h4)
  exact ⟨_, i, List.getElem?_eq_getElem h1, by rw [List.getElem?_eq_getElem h4, e], h5⟩
abbrev readE : Lo → R RV := eOp2 ixD (eOp2 ixD (eVar2 3) (eVar 5)) (eVar 14)
abbrev readR : Lo → R RV := eOpN tupD (aCons (eFz (fComp [5] (iRange1 (aCons (eVar 7) aNil)) (gN 5) tTrue readE)) aNil)
theorem read_va (e : Env) {sw : List (List D)} (h3 : e.a3 = .va (.lst (sw.map .lst))) (B : BoxL e.k e.n e.n sw) {t : List D} {a p : Int} (ha : 0 ≤ a ∧ a < e.k) (hp : 0 ≤ p ∧ p < e.n) :
    ∃ i : Int, readE (St e t (.va (.int a)) (.va (.int p))) = .ok (.v (.int i)) (St e t (.va (.int a)) (.va (.int p))) ∧ 0 ≤ i ∧ i < e.n := by
  obtain ⟨xs, i, e1, e2, hi⟩ := rget2 B ha hp
  have v3 : eVar2 3 (St e t (.va (.int a)) (.va (.int p))) = .ok (.v (.lst (sw.map .lst))) (St e t (.va (.int a)) (.va (.int p))) := by
    show (match (some e.a3 : Option SV) with | some (.l2 xss) => _ | _ => eVar 3 _) = _
    rw [h3]
    show (match (some e.a3 : Option SV) with | some (.va d) => _ | some .un => _ | some (.l2 _) => _ | some _ => _ | none => _) = _
    rw [h3]
  exact ⟨i, eOp2_v (x := .lst xs) (eOp2_v v3 rfl (ixL ha.1 (by rw [List.getElem?_map, e1]; rfl))) rfl (ixL hp.1 e2), hi⟩
theorem read_l2 (e : Env) {sw : List (List D)} {t : List D} {a p : Int} :
    readE (St {e with a3 := .l2 sw} t (.va (.int a)) (.va (.int p))) = readE (St {e with a3 := .va (.lst (sw.map .lst))} t (.va (.int a)) (.va (.int p))) := rfl
section
variable {e : Env} (hn : 1 ≤ e.n ∧ e.n ≤ 10) (hk : 1 ≤ e.k ∧ e.k ≤ 4)
include hn hk
theorem readR_l2 {sw : List (List D)} (B : BoxL e.k e.n e.n sw) {t : List D} {p : Int} (hp : 0 ≤ p ∧ p < e.n) :
    readR (St {e with a3 := .l2 sw} t .un (.va (.int p))) = readR (St {e with a3 := .va (.lst (sw.map .lst))} t .un (.va (.int p))) := by
  obtain ⟨i, e1, _⟩ := read_va {e with a3 := .va (.lst (sw.map .lst))} (t := t) (a := 0) rfl B ⟨by omega, by show (0 : Int) < e.k; omega⟩ hp
  obtain ⟨xs, hx⟩ := rangeD_cons (show (0 : Int) < e.k by omega)
  have c : fComp [5] (iRange1 (aCons (eVar 7) aNil)) (gN 5) tTrue readE (St {e with a3 := .l2 sw} t .un (.va (.int p))) = fComp [5] (iRange1 (aCons (eVar 7) aNil)) (gN 5) tTrue readE (St {e with a3 := .va (.lst (sw.map .lst))} t .un (.va (.int p))) := by
    refine fComp_first (xs := rangeD 0 e.k) (iR1_of rfl rfl (by omega)) (iR1_of rfl rfl (by omega)) rfl rfl ?_
    rw [hx]
    exact compGo_first (A := St {e with a3 := .l2 sw} t (.va (.int 0)) (.va (.int p))) (A' := St {e with a3 := .va (.lst (sw.map .lst))} t (.va (.int 0)) (.va (.int p))) rfl rfl ((read_l2 e).trans e1) e1 (fun M => rfl)
  have c2 : eFz (fComp [5] (iRange1 (aCons (eVar 7) aNil)) (gN 5) tTrue readE) (St {e with a3 := .l2 sw} t .un (.va (.int p))) = eFz (fComp [5] (iRange1 (aCons (eVar 7) aNil)) (gN 5) tTrue readE) (St {e with a3 := .va (.lst (sw.map .lst))} t .un (.va (.int p))) := by
    unfold eFz; rw [c]
  exact eOpN_congr c2
theorem readT_va {sw : List (List D)} (h3 : e.a3 = .va (.lst (sw.map .lst))) (B : BoxL e.k e.n e.n sw) (n : Nat) (t : List D) (hb : n ≤ 1000000000) (T : Tin n t) :
    ∃ (rows : List (List Int)) (t' : List D), fComp [14] (iRange1 (aCons (eVar 6) aNil)) (gN 14) tTrue readR (St e t .un .un) = .ok (rows.map rowD) (St e t' .un .un) ∧ ((rows.length : Int) = e.n ∧ ∀ r ∈ rows, (r.length : Int) = e.k ∧ ∀ v ∈ r, 0 ≤ v ∧ v < e.n) ∧ Tin n t' :=
  rows_t e (m := e.n) (lo := 0) (hi := e.n) ⟨by omega, hn.2⟩ ⟨by omega, hk.2⟩ (X := eVar 6) (ME := readE) 0 (fun t => ⟨.v (.int e.n), rfl, rfl⟩) (by
    intro p a n t p0 p1 a0 a1 hb T
    obtain ⟨i, e1, hi⟩ := read_va e (t := t) h3 B ⟨a0, a1⟩ ⟨p0, p1⟩
    exact ⟨i, t, e1, hi, T⟩) n t hb T
theorem kind2 {sw : List (List D)} (B : BoxL e.k e.n e.n sw) (n : Nat) (t : List D) (hb : n ≤ 1000000000) (T : Tin n t) : Drawn {e with a3 := .l2 sw} n (sRet (eTup (aCons (eVar 7) (aCons (eOpN tupD (aCons (eFz (fComp [14] (iRange1 (aCons (eVar 6) aNil)) (gN 14) tTrue readR)) aNil)) aNil))) (St {e with a3 := .l2 sw} t .un .un)) := by
  obtain ⟨rows, t2, e2, h2, T2⟩ := readT_va (e := {e with a3 := .va (.lst (sw.map .lst))}) hn hk rfl B n t hb T
  obtain ⟨xs, hx⟩ := rangeD_cons (show (0 : Int) < e.n by omega)
  obtain ⟨r0, t0, w1, w2, w3⟩ := row_dr {e with a3 := .va (.lst (sw.map .lst))} (lo := 0) (hi := e.n) ⟨show 0 ≤ e.k by omega, hk.2⟩ (ME := readE) (x14 := .va (.int 0)) 0 (fun a n t a0 a1 hb T => by
    obtain ⟨i, e1, hi⟩ := read_va {e with a3 := .va (.lst (sw.map .lst))} (t := t) (p := 0) rfl B ⟨a0, a1⟩ ⟨by omega, show (0 : Int) < e.n by omega⟩
    exact ⟨i, t, e1, hi, T⟩) n t hb T
  have w : readR (St {e with a3 := .va (.lst (sw.map .lst))} t .un (.va (.int 0))) = .ok (.v (rowD r0)) (St {e with a3 := .va (.lst (sw.map .lst))} t0 .un (.va (.int 0))) := eOpN_of (aOne (eFz_of w1)) rfl rfl
  have c : fComp [14] (iRange1 (aCons (eVar 6) aNil)) (gN 14) tTrue readR (St {e with a3 := .l2 sw} t .un .un) = fComp [14] (iRange1 (aCons (eVar 6) aNil)) (gN 14) tTrue readR (St {e with a3 := .va (.lst (sw.map .lst))} t .un .un) := by
    refine fComp_first (xs := rangeD 0 e.n) (iR1_of rfl rfl (by omega)) (iR1_of rfl rfl (by omega)) rfl rfl ?_
    rw [hx]
    exact compGo_first (A := St {e with a3 := .l2 sw} t .un (.va (.int 0))) (A' := St {e with a3 := .va (.lst (sw.map .lst))} t .un (.va (.int 0))) rfl rfl ((readR_l2 hn hk B ⟨by omega, by omega⟩).trans w) w (fun M => rfl)
  have e3 : eOpN tupD (aCons (eFz (fComp [14] (iRange1 (aCons (eVar 6) aNil)) (gN 14) tTrue readR)) aNil) (St {e with a3 := .l2 sw} t .un .un) = .ok (.v (rowsD rows)) (St {e with a3 := .va (.lst (sw.map .lst))} t2 .un .un) := eOpN_of (aOne (eFz_of (c.trans e2))) rfl rfl
  have e4 : aCons (eVar 7) (aCons (eOpN tupD (aCons (eFz (fComp [14] (iRange1 (aCons (eVar 6) aNil)) (gN 14) tTrue readR)) aNil)) aNil) (St {e with a3 := .l2 sw} t .un .un) = .ok [.v (.int e.k), .v (rowsD rows)] (St {e with a3 := .va (.lst (sw.map .lst))} t2 .un .un) := aCons_of rfl (aOne e3)
  refine ⟨rows, t2, St {e with a3 := .va (.lst (sw.map .lst))} t2 .un .un, ?_, rfl, mach_of hn hk h2, h2.1, T2⟩
  unfold sRet eTup
  rw [e4]
  rfl
theorem swaps_ok (h3 : e.a3 = .un) (n : Nat) (t : List D) (hb : n + 4000 ≤ 1000000000) (T : Tin n t) :
    ∃ (sw : List (List D)) (t' : List D), sSetG 3 (gComp [5] (iRange1 (aCons (eVar 7) aNil)) (gN 5) tTrue (fCallI 3 0 f_law_pick (aCons (eFz (fRg (rg1 (eVar 6)))) (aCons (eVar 6) aNil)))) (St e t .un .un) = .nx (St {e with a3 := .l2 sw} t' .un .un) ∧ BoxL e.k e.n e.n sw ∧ Tin (n + 4000) t' := by
  have hq : 1000 * (e.k - 0).toNat ≤ 4000 := by omega
  obtain ⟨ds, t2, e2, dl, dq, T2⟩ := compGo2_dr (vs := [5]) (gm := gN 5) (me := fCallI 3 0 f_law_pick (aCons (eFz (fRg (rg1 (eVar 6)))) (aCons (eVar 6) aNil))) Tin (fun t => St e t .un .un) (fun xs => (xs.length : Int) = e.n ∧ ∀ x ∈ xs, ∃ i : Int, x = .int i ∧ 0 ≤ i ∧ i < e.n) 1000 1000000000 (rangeD 0 e.k) (by
    intro x hx n t hb T
    obtain ⟨a, rfl, a0, a1⟩ := range_mem hx
    obtain ⟨found, rest, t', e1, p, l, T'⟩ := pick_e (A1 := eFz (fRg (rg1 (eVar 6)))) (A2 := eVar 6) (L := St e t (.va (.int a)) .un) (gs := rangeD 0 e.n) (c := e.n) rfl (eFz_of (fRg_of (rg1_of rfl rfl) (rgOk0 (by omega) (by omega)))) rfl T hb (by rw [range_len]; omega) (by omega) (by rw [range_len]; omega)
    exact ⟨St e t (.va (.int a)) .un, found, _, t', rfl, e1, rfl, ⟨l, pick_mem p⟩, T'⟩) n t (by rw [range_len]; omega) T
  rw [range_len] at dl
  have s1 : gComp [5] (iRange1 (aCons (eVar 7) aNil)) (gN 5) tTrue (fCallI 3 0 f_law_pick (aCons (eFz (fRg (rg1 (eVar 6)))) (aCons (eVar 6) aNil))) (St e t .un .un) = .ok ds (St e t2 .un .un) := gComp_of (iR1_of rfl rfl (by omega)) (by rw [range_len]; omega) rfl e2
  refine ⟨ds, t2, sSetG_of (i := 3) s1 (s0 := e.a3) rfl (by rw [h3]; rfl), ⟨by omega, dq⟩, T2.le (by rw [range_len]; omega)⟩
theorem store3 {sw : List (List D)} (B : BoxL e.k e.n e.n sw) (n : Nat) (t : List D) (hb : n + 2 ≤ 1000000000) (T : Tin n t) :
    ∃ (sw' : List (List D)) (t' : List D), sStore2 3 (eOp1 negD (eC (.int 1))) (eCallI 2 0 f_law_take (aCons (eVar 6) aNil)) (eCallI 2 0 f_law_take (aCons (eVar 6) aNil)) (St {e with a3 := .l2 sw} t .un .un) = .nx (St {e with a3 := .l2 sw'} t' .un .un) ∧ BoxL e.k e.n e.n sw' ∧ Tin (n + 2) t' := by
  obtain ⟨r, t1, e1, r0, r1, T1⟩ := take_e (A := eVar 6) (L := St {e with a3 := .l2 sw} t .un .un) (m := e.n) rfl rfl T (by omega) (by omega) (by omega)
  obtain ⟨s, t2, e2, s0, s1, T2⟩ := take_e (A := eVar 6) (L := St {e with a3 := .un} t1 .un .un) (m := e.n) rfl rfl T1 (by omega) (by omega) (by omega)
  have hl := B.1
  have h5 : ixN sw.length (-1) = some (sw.length - 1) := by
    unfold ixN; rw [if_neg (by decide), if_pos (by omega)]; congr 1; omega
  have h6 : sw.length - 1 < sw.length := by omega
  have h7 := (B.2 _ (List.getElem_mem h6)).1
  have h8 : ixN (sw[sw.length - 1]).length s = some s.toNat := ixN_of s0 (by omega)
  exact ⟨_, t2, sStore2_of (L4 := St {e with a3 := .un} t2 .un .un) (o := -1) (k := s) e1 rfl rfl rfl h5 (List.getElem?_eq_getElem h6) e2 rfl rfl h8, B.set (List.getElem?_eq_getElem h6) ⟨r0, r1⟩, T2⟩
end
end L2.G04

/-! part P04k -/
set_option Elab.async false
set_option linter.all false
set_option maxRecDepth 100000
set_option maxHeartbeats 4000000
namespace L2.G04
open PySem L2.Z
theorem ret_m (e : Env) {M : Lo → R RV} {t t' : List D} {L : Lo} {rows : List (List Int)} (h : eOpN tupD (aCons M aNil) (St e t .un .un) = .ok (.v (rowsD rows)) L) :
    sRet (eTup (aCons (eVar 7) (aCons (eOpN tupD (aCons M aNil)) aNil))) (St e t .un .un) = .rt (mD e.k rows) L := by
  have e2 : aCons (eVar 7) (aCons (eOpN tupD (aCons M aNil)) aNil) (St e t .un .un) = .ok [.v (.int e.k), .v (rowsD rows)] L := aCons_of rfl (aOne h)
  unfold sRet eTup
  rw [e2]
  rfl
section
variable {e : Env} (hn : 1 ≤ e.n ∧ e.n ≤ 10) (hk : 1 ≤ e.k ∧ e.k ≤ 4)
include hn hk
theorem less_ok (h9 : e.a9 = .un) (hn2 : 1 < e.n) (n : Nat) (t : List D) (hb : n + 1 ≤ 1000000000) (T : Tin n t) :
    ∃ (m : Int) (t' : List D), sSet 9 (eOp2 addD (eC (.int 1)) (eCallI 2 0 f_law_take (aCons (eOp2 subD (eVar 6) (eC (.int 1))) aNil))) (St e t .un .un) = .nx (St {e with a9 := .va (.int m)} t' .un .un) ∧ 1 ≤ m ∧ m ≤ e.n - 1 ∧ Tin (n + 1) t' := by
  obtain ⟨r, t1, e1, r0, r1, T1⟩ := take_e (A := eOp2 subD (eVar 6) (eC (.int 1))) (L := St e t .un .un) (m := e.n - 1) rfl rfl T (by omega) (by omega) (by omega)
  exact ⟨1 + r, t1, sSet_v (i := 9) (eOp2_v rfl e1 rfl) (s0 := e.a9) rfl (by rw [h9]; rfl), by omega, by omega, T1⟩
theorem low_ok {m : Int} (h9 : e.a9 = .va (.int m)) (h10 : e.a10 = .un) (hm : 1 ≤ m ∧ m ≤ 10) (n : Nat) (t : List D) (hb : n + 40 ≤ 1000000000) (T : Tin n t) :
    ∃ (low : List (List Int)) (t' : List D), sSet 10 (eFz (fComp [14] (iRange1 (aCons (eVar 9) aNil)) (gN 14) tTrue (eOpN tupD (aCons (eFz (fComp [5] (iRange1 (aCons (eVar 7) aNil)) (gN 5) tTrue (eCallI 2 0 f_law_take (aCons (eVar 9) aNil)))) aNil)))) (St e t .un .un) = .nx (St {e with a10 := .va (.lst (low.map rowD))} t' .un .un) ∧ ((low.length : Int) = m ∧ ∀ r ∈ low, (r.length : Int) = e.k ∧ ∀ v ∈ r, 0 ≤ v ∧ v < m) ∧ Tin (n + 40) t' := by
  have v9 : ∀ t x5 x14, eVar 9 (St e t x5 x14) = .ok (.v (.int m)) (St e t x5 x14) := fun t x5 x14 => by
    show (match (some e.a9 : Option SV) with | some (.va d) => _ | some .un => _ | some (.l2 _) => _ | some _ => _ | none => _) = _
    rw [h9]
  obtain ⟨rows, t2, e2, h2, T2⟩ := rows_t e (m := m) (lo := 0) (hi := m) ⟨by omega, hm.2⟩ ⟨by omega, hk.2⟩ (X := eVar 9) (ME := eCallI 2 0 f_law_take (aCons (eVar 9) aNil)) 1 (fun t => ⟨.v (.int m), v9 .., rfl⟩) (by
    intro p a n t p0 p1 a0 a1 hb T
    obtain ⟨r, t', e1, r0, r1, T1⟩ := take_e (A := eVar 9) (L := St e t (.va (.int a)) (.va (.int p))) (m := m) rfl (v9 ..) T (by omega) (by omega) (by omega)
    exact ⟨r, t', e1, ⟨r0, r1⟩, T1⟩) n t (by omega) T
  exact ⟨rows, t2, sSet_v (i := 10) (eFz_of e2) (s0 := e.a10) rfl (by rw [h10]; rfl), h2, T2⟩
theorem high_ok {m : Int} (h9 : e.a9 = .va (.int m)) (h11 : e.a11 = .un) (hm : 1 ≤ m ∧ m ≤ e.n - 1) (n : Nat) (t : List D) (hb : n + 80 ≤ 1000000000) (T : Tin n t) :
    ∃ (low : List (List Int)) (t' : List D), sSet 11 (eFz (fComp [14] (iRange1 (aCons (eOp2 subD (eVar 6) (eVar 9)) aNil)) (gN 14) tTrue (eOpN tupD (aCons (eFz (fComp [5] (iRange1 (aCons (eVar 7) aNil)) (gN 5) tTrue (eIf (tBl (eOp2 (cmpD fun i j => decide (j < i)) (eCallI 2 0 f_law_take (aCons (eC (.int 6)) aNil)) (eC (.int 0)))) (eOp2 addD (eVar 9) (eCallI 2 0 f_law_take (aCons (eOp2 subD (eVar 6) (eVar 9)) aNil))) (eCallI 2 0 f_law_take (aCons (eVar 6) aNil))))) aNil)))) (St e t .un .un) = .nx (St {e with a11 := .va (.lst (low.map rowD))} t' .un .un) ∧ ((low.length : Int) = e.n - m ∧ ∀ r ∈ low, (r.length : Int) = e.k ∧ ∀ v ∈ r, 0 ≤ v ∧ v < e.n) ∧ Tin (n + 80) t' := by
  have v9 : ∀ t x5 x14, eVar 9 (St e t x5 x14) = .ok (.v (.int m)) (St e t x5 x14) := fun t x5 x14 => by
    show (match (some e.a9 : Option SV) with | some (.va d) => _ | some .un => _ | some (.l2 _) => _ | some _ => _ | none => _) = _
    rw [h9]
  have vs : ∀ t x5 x14, eOp2 subD (eVar 6) (eVar 9) (St e t x5 x14) = .ok (.v (.int (e.n - m))) (St e t x5 x14) := fun t x5 x14 => eOp2_v rfl (v9 ..) rfl
  obtain ⟨rows, t2, e2, h2, T2⟩ := rows_t e (m := e.n - m) (lo := 0) (hi := e.n) ⟨by omega, by omega⟩ ⟨by omega, hk.2⟩ (X := eOp2 subD (eVar 6) (eVar 9)) (ME := eIf (tBl (eOp2 (cmpD fun i j => decide (j < i)) (eCallI 2 0 f_law_take (aCons (eC (.int 6)) aNil)) (eC (.int 0)))) (eOp2 addD (eVar 9) (eCallI 2 0 f_law_take (aCons (eOp2 subD (eVar 6) (eVar 9)) aNil))) (eCallI 2 0 f_law_take (aCons (eVar 6) aNil))) 2 (fun t => ⟨.v (.int (e.n - m)), vs .., rfl⟩) (by
    intro p a n t p0 p1 a0 a1 hb T
    obtain ⟨r, t1, e1, r0, r1, T1⟩ := take_e (A := eC (.int 6)) (L := St e t (.va (.int a)) (.va (.int p))) (m := 6) rfl rfl T (by omega) (by omega) (by omega)
    have e2 : tBl (eOp2 (cmpD fun i j => decide (j < i)) (eCallI 2 0 f_law_take (aCons (eC (.int 6)) aNil)) (eC (.int 0))) (St e t (.va (.int a)) (.va (.int p))) = .ok (decide (0 < r)) (St e t1 (.va (.int a)) (.va (.int p))) := tBl_v (eOp2_v e1 rfl rfl)
    by_cases h : 0 < r
    · rw [decide_eq_true h] at e2
      obtain ⟨s, t2, e3, s0, s1, T2⟩ := take_e (A := eOp2 subD (eVar 6) (eVar 9)) (L := St e t1 (.va (.int a)) (.va (.int p))) (m := e.n - m) rfl (vs ..) T1 (by omega) (by omega) (by omega)
      refine ⟨m + s, t2, ?_, ⟨by omega, by omega⟩, T2⟩
      unfold eIf
      rw [e2]
      exact eOp2_v (v9 ..) e3 rfl
    · rw [decide_eq_false h] at e2
      obtain ⟨s, t2, e3, s0, s1, T2⟩ := take_e (A := eVar 6) (L := St e t1 (.va (.int a)) (.va (.int p))) (m := e.n) rfl rfl T1 (by omega) (by omega) (by omega)
      refine ⟨s, t2, ?_, ⟨by omega, by omega⟩, T2⟩
      unfold eIf
      rw [e2]
      exact e3) n t (by omega) T
  exact ⟨rows, t2, sSet_v (i := 11) (eFz_of e2) (s0 := e.a11) rfl (by rw [h11]; rfl), h2, T2⟩
theorem join_ok {m : Int} {low high : List (List Int)} (h10 : e.a10 = .va (.lst (low.map rowD))) (h11 : e.a11 = .va (.lst (high.map rowD))) (hm : 1 ≤ m ∧ m ≤ e.n - 1)
    (h1 : (low.length : Int) = m ∧ ∀ r ∈ low, (r.length : Int) = e.k ∧ ∀ v ∈ r, 0 ≤ v ∧ v < m) (h2 : (high.length : Int) = e.n - m ∧ ∀ r ∈ high, (r.length : Int) = e.k ∧ ∀ v ∈ r, 0 ≤ v ∧ v < e.n) (n : Nat) (t : List D) (T : Tin n t) :
    Drawn e n (sRet (eTup (aCons (eVar 7) (aCons (eOpN tupD (aCons (eOp2 addD (eVar 10) (eVar 11)) aNil)) aNil))) (St e t .un .un)) := by
  have v10 : eVar 10 (St e t .un .un) = .ok (.v (.lst (low.map rowD))) (St e t .un .un) := by
    show (match (some e.a10 : Option SV) with | some (.va d) => _ | some .un => _ | some (.l2 _) => _ | some _ => _ | none => _) = _
    rw [h10]
  have v11 : eVar 11 (St e t .un .un) = .ok (.v (.lst (high.map rowD))) (St e t .un .un) := by
    show (match (some e.a11 : Option SV) with | some (.va d) => _ | some .un => _ | some (.l2 _) => _ | some _ => _ | none => _) = _
    rw [h11]
  have hl : (low.map rowD).length + (high.map rowD).length ≤ lineN := len_line (by rw [List.length_map, List.length_map]; omega)
  have e1 : eOpN tupD (aCons (eOp2 addD (eVar 10) (eVar 11)) aNil) (St e t .un .un) = .ok (.v (rowsD (low ++ high))) (St e t .un .un) := by
    refine eOpN_of (aOne (eOp2_v v10 v11 (addD_ll hl))) rfl ?_
    unfold rowsD
    rw [List.map_append]
    rfl
  have h3 : (((low ++ high).length : Nat) : Int) = e.n ∧ ∀ r ∈ low ++ high, (r.length : Int) = e.k ∧ ∀ v ∈ r, 0 ≤ v ∧ v < e.n := by
    refine ⟨by rw [List.length_append]; omega, fun r hr => ?_⟩
    rcases List.mem_append.mp hr with h | h
    · obtain ⟨k1, k2⟩ := h1.2 r h
      exact ⟨k1, fun v hv => by have := k2 v hv; omega⟩
    · exact h2.2 r h
  exact ⟨_, t, _, ret_m e (t' := t) e1, rfl, mach_of hn hk h3, h3.1, T⟩
end
end L2.G04

/-! part P04l -/
set_option Elab.async false
set_option linter.all false
set_option maxRecDepth 100000
set_option maxHeartbeats 4000000
namespace L2.G04
open PySem L2.Z
theorem of_e {A : Lo → R RV} {L : Lo} {n : Nat} {t gs : List D} (h0 : L[0]? = some (.io t)) (hA : A L = .ok (.v (.lst gs)) L) (T : Tin n t) (hn : n ≤ 1000000000) (h1 : gs ≠ []) (h2 : gs.length ≤ 1000) :
    ∃ (g : D) (t' : List D), eCallI 2 0 f_law_of (aCons A aNil) L = .ok (.v g) (L.set 0 (.io t')) ∧ g ∈ gs ∧ Tin (n + 1) t' := by
  obtain ⟨g, t', e, hg, T1⟩ := of_ok T hn h1 h2
  refine ⟨g, t', ?_, hg, T1⟩
  unfold eCallI
  rw [h0]
  show (match aCons A aNil L with | .ok rs L1 => _ | .ex x L1 => _ | .no => _) = _
  rw [aOne hA]
  dsimp only
  rw [h0]
  show (if (decide ([RV.v (D.lst gs)].length + 1 = 2) && !([RV.v (D.lst gs)].any (isB · L))) = true then (match f_law_of t [.lst gs] with | .v d ys => R.ok (RV.v d) (L.set 0 (.io ys)) | .f ds ys => _ | .no => _) else _) = _
  rw [e]
  rfl
theorem lists_all {P : List Int → Prop} : ∀ {ds : List D}, (∀ d ∈ ds, ∃ r : List Int, d = .lst (r.map D.int) ∧ P r) → ∃ rows : List (List Int), ds = rows.map (fun r => .lst (r.map D.int)) ∧ ∀ r ∈ rows, P r
  | [], _ => ⟨[], rfl, by simp⟩
  | d :: ds, h => by
    obtain ⟨rows, rfl, hr⟩ := lists_all fun y hy => h y (List.mem_cons_of_mem _ hy)
    obtain ⟨r, rfl, h2⟩ := h d (List.mem_cons_self ..)
    refine ⟨r :: rows, rfl, fun z hm => ?_⟩
    rcases List.mem_cons.mp hm with rfl | hm
    · exact h2
    · exact hr z hm
abbrev ownE : Lo → R RV := eOpN tupD (aCons (eFz (fComp [17] (iSeq (eOp2 ixD (eVar 13) (eOp2 ixD (eVar 12) (eVar 14)))) (gN 17) tTrue (eCallI 2 0 f_law_of (aCons (eFz (fComp [18] (iRange1 (aCons (eVar 6) aNil)) (gN 18) (tBl (eOp2 eqD (eOp2 ixD (eVar 12) (eVar 18)) (eVar 17))) (eVar 18))) aNil)))) aNil)
section
variable {e : Env} (hn : 1 ≤ e.n ∧ e.n ≤ 10) (hk : 1 ≤ e.k ∧ e.k ≤ 4)
include hn hk
theorem names_ok {m : Int} (h9 : e.a9 = .va (.int m)) (h12 : e.a12 = .un) (hm : 1 ≤ m ∧ m ≤ e.n - 1) (n : Nat) (t : List D) (hb : n + 10 ≤ 1000000000) (T : Tin n t) :
    ∃ (nm : List Int) (t' : List D), sSet 12 (eOp2 addD (eFz (fRg (rg1 (eVar 9)))) (eFz (fComp [14] (iRange1 (aCons (eOp2 subD (eVar 6) (eVar 9)) aNil)) (gN 14) tTrue (eCallI 2 0 f_law_take (aCons (eVar 9) aNil))))) (St e t .un .un) = .nx (St {e with a12 := .va (.lst (nm.map D.int))} t' .un .un) ∧ (nm.length : Int) = e.n ∧ (∀ v ∈ nm, 0 ≤ v ∧ v < m) ∧ (∀ g, 0 ≤ g → g < m → nm[g.toNat]? = some g) ∧ Tin (n + 10) t' := by
  have v9 : ∀ t x5 x14, eVar 9 (St e t x5 x14) = .ok (.v (.int m)) (St e t x5 x14) := fun t x5 x14 => by
    show (match (some e.a9 : Option SV) with | some (.va d) => _ | some .un => _ | some (.l2 _) => _ | some _ => _ | none => _) = _
    rw [h9]
  have vs : ∀ t x5 x14, eOp2 subD (eVar 6) (eVar 9) (St e t x5 x14) = .ok (.v (.int (e.n - m))) (St e t x5 x14) := fun t x5 x14 => eOp2_v rfl (v9 ..) rfl
  obtain ⟨ds, t2, e2, ⟨dl, dq⟩, T2⟩ := rows_dr e (m := e.n - m) ⟨by omega, by omega⟩ (X := eOp2 subD (eVar 6) (eVar 9)) (RE := eCallI 2 0 f_law_take (aCons (eVar 9) aNil)) 1 (fun d => ∃ i : Int, d = .int i ∧ 0 ≤ i ∧ i < m) (fun t => ⟨.v (.int (e.n - m)), vs .., rfl⟩) (by
    intro p n t p0 p1 hb T
    obtain ⟨r, t', e1, r0, r1, T1⟩ := take_e (A := eVar 9) (L := St e t .un (.va (.int p))) (m := m) rfl (v9 ..) T (by omega) (by omega) (by omega)
    exact ⟨.int r, t', e1, ⟨r, rfl, r0, r1⟩, T1⟩) n t (by omega) T
  obtain ⟨ns, rfl, hns⟩ := ints_all (p := fun i => 0 ≤ i ∧ i < m) dq
  rw [List.length_map] at dl
  have e3 : eFz (fRg (rg1 (eVar 9))) (St e t .un .un) = .ok (.v (.lst (rangeD 0 m))) (St e t .un .un) := eFz_of (fRg_of (rg1_of (v9 ..) rfl) (rgOk0 (by omega) (by omega)))
  have hl : (rangeD 0 m).length + (ns.map D.int).length ≤ lineN := len_line (by rw [range_len, List.length_map]; omega)
  refine ⟨rangeI 0 m ++ ns, t2, ?_, by rw [List.length_append, rangeI_len]; omega, ?_, ?_, T2⟩
  · rw [List.map_append, ← rangeD_I]
    exact sSet_v (i := 12) (eOp2_v e3 (eFz_of e2) (addD_ll hl)) (s0 := e.a12) rfl (by rw [h12]; rfl)
  · intro v hv
    rcases List.mem_append.mp hv with h | h
    · exact mem_rangeI.mp h
    · exact hns v h
  · intro g g0 g1
    rw [List.getElem?_append_left (by rw [rangeI_len]; omega)]
    unfold rangeI
    rw [List.getElem?_map, List.getElem?_range (by omega)]
    show some (0 + (g.toNat : Int)) = some g
    congr 1; omega
theorem base_ok {m : Int} (h9 : e.a9 = .va (.int m)) (h13 : e.a13 = .un) (hm : 1 ≤ m ∧ m ≤ e.n - 1) (n : Nat) (t : List D) (hb : n + 40 ≤ 1000000000) (T : Tin n t) :
    ∃ (base : List (List Int)) (t' : List D), sSet 13 (eFz (fComp [14] (iRange1 (aCons (eVar 9) aNil)) (gN 14) tTrue (eFz (fComp [5] (iRange1 (aCons (eVar 7) aNil)) (gN 5) tTrue (eCallI 2 0 f_law_take (aCons (eVar 9) aNil)))))) (St e t .un .un) = .nx (St {e with a13 := .va (.lst (base.map fun r => .lst (r.map D.int)))} t' .un .un) ∧ ((base.length : Int) = m ∧ ∀ r ∈ base, (r.length : Int) = e.k ∧ ∀ v ∈ r, 0 ≤ v ∧ v < m) ∧ Tin (n + 40) t' := by
  have v9 : ∀ t x5 x14, eVar 9 (St e t x5 x14) = .ok (.v (.int m)) (St e t x5 x14) := fun t x5 x14 => by
    show (match (some e.a9 : Option SV) with | some (.va d) => _ | some .un => _ | some (.l2 _) => _ | some _ => _ | none => _) = _
    rw [h9]
  obtain ⟨ds, t2, e2, ⟨dl, dq⟩, T2⟩ := rows_dr e (m := m) ⟨by omega, by omega⟩ (X := eVar 9) (RE := eFz (fComp [5] (iRange1 (aCons (eVar 7) aNil)) (gN 5) tTrue (eCallI 2 0 f_law_take (aCons (eVar 9) aNil)))) 4 (fun d => ∃ r : List Int, d = .lst (r.map D.int) ∧ ((r.length : Int) = e.k ∧ ∀ v ∈ r, 0 ≤ v ∧ v < m)) (fun t => ⟨.v (.int m), v9 .., rfl⟩) (by
    intro p n t p0 p1 hb T
    obtain ⟨r, t', e1, hr, T'⟩ := row_dr e ⟨by omega, hk.2⟩ (lo := 0) (hi := m) (ME := eCallI 2 0 f_law_take (aCons (eVar 9) aNil)) (x14 := .va (.int p)) 1 (by
      intro a n t a0 a1 hb T
      obtain ⟨r, t', e1, r0, r1, T1⟩ := take_e (A := eVar 9) (L := St e t (.va (.int a)) (.va (.int p))) (m := m) rfl (v9 ..) T (by omega) (by omega) (by omega)
      exact ⟨r, t', e1, ⟨r0, r1⟩, T1⟩) n t hb T
    exact ⟨.lst (r.map D.int), t', eFz_of e1, ⟨r, rfl, hr⟩, T'⟩) n t (by omega) T
  obtain ⟨base, rfl, hr⟩ := lists_all dq
  rw [List.length_map] at dl
  exact ⟨base, t2, sSet_v (i := 13) (eFz_of e2) (s0 := e.a13) rfl (by rw [h13]; rfl), ⟨dl, hr⟩, T2⟩
theorem own_ok {m : Int} {nm : List Int} {base : List (List Int)} (h12 : e.a12 = .va (.lst (nm.map D.int))) (h13 : e.a13 = .va (.lst (base.map fun r => .lst (r.map D.int)))) (h17 : e.a17 = .un) (h18 : e.a18 = .un) (hm : 1 ≤ m ∧ m ≤ e.n - 1)
    (n1 : (nm.length : Int) = e.n) (n2 : ∀ v ∈ nm, 0 ≤ v ∧ v < m) (n3 : ∀ g, 0 ≤ g → g < m → nm[g.toNat]? = some g) (hb : (base.length : Int) = m ∧ ∀ r ∈ base, (r.length : Int) = e.k ∧ ∀ v ∈ r, 0 ≤ v ∧ v < m)
    {p : Int} (hp : 0 ≤ p ∧ p < e.n) (n : Nat) (t : List D) (hB : n + 4 ≤ 1000000000) (T : Tin n t) :
    ∃ (r : List Int) (t' : List D), ownE (St e t .un (.va (.int p))) = .ok (.v (rowD r)) (St e t' .un (.va (.int p))) ∧ ((r.length : Int) = e.k ∧ ∀ v ∈ r, 0 ≤ v ∧ v < e.n) ∧ Tin (n + 4) t' := by
  have hp1 : p.toNat < nm.length := by omega
  obtain ⟨g0, g1⟩ := n2 _ (List.getElem_mem hp1)
  have hp2 : nm[p.toNat].toNat < base.length := by omega
  obtain ⟨b1, b2⟩ := hb.2 _ (List.getElem_mem hp2)
  have v12 : ∀ (e' : Env) t x5 x14, e'.a12 = e.a12 → eVar 12 (St e' t x5 x14) = .ok (.v (.lst (nm.map D.int))) (St e' t x5 x14) := fun e' t x5 x14 h => by
    show (match (some e'.a12 : Option SV) with | some (.va d) => _ | some .un => _ | some (.l2 _) => _ | some _ => _ | none => _) = _
    rw [h, h12]
  have v13 : ∀ t x5 x14, eVar 13 (St e t x5 x14) = .ok (.v (.lst (base.map fun r => .lst (r.map D.int)))) (St e t x5 x14) := fun t x5 x14 => by
    show (match (some e.a13 : Option SV) with | some (.va d) => _ | some .un => _ | some (.l2 _) => _ | some _ => _ | none => _) = _
    rw [h13]
  have s1 : iSeq (eOp2 ixD (eVar 13) (eOp2 ixD (eVar 12) (eVar 14))) (St e t .un (.va (.int p))) = .ok (base[nm[p.toNat].toNat].map D.int) (St e t .un (.va (.int p))) :=
    iSeq_lst (eOp2_v (v13 ..) (eOp2_v (v12 e _ _ _ rfl) rfl (ixL hp.1 (by rw [List.getElem?_map, List.getElem?_eq_getElem hp1]; rfl))) (ixL g0 (by rw [List.getElem?_map, List.getElem?_eq_getElem hp2]; rfl)))
  have in18 : ∀ (t : List D) (g : Int), fComp [18] (iRange1 (aCons (eVar 6) aNil)) (gN 18) (tBl (eOp2 eqD (eOp2 ixD (eVar 12) (eVar 18)) (eVar 17))) (eVar 18) (St {e with a17 := .va (.int g)} t .un (.va (.int p))) = .ok (((rangeD 0 e.n).filter fun x => match x with | .int q => decide (nm.getD q.toNat 0 = g) | _ => false).map id) (St {e with a17 := .va (.int g)} t .un (.va (.int p))) := by
    intro t g
    refine fComp_of (iR1_of (i := e.n) rfl rfl (by omega)) (by rw [range_len]; omega) (noOwn_one (s := e.a18) rfl (by rw [h18]; rfl)) ?_
    refine compGo_filter _ fun x hx => ?_
    obtain ⟨q, rfl, q0, q1⟩ := range_mem hx
    have hq : q.toNat < nm.length := by omega
    refine ⟨St {e with a17 := .va (.int g), a18 := .va (.int q)} t .un (.va (.int p)), rfl, ?_, fun _ => ⟨.v (.int q), rfl, rfl⟩, by rw [← h18]; rfl⟩
    refine tBl_v (eOp2_v (eOp2_v (v12 _ _ _ _ rfl) rfl (ixL q0 (by rw [List.getElem?_map, List.getElem?_eq_getElem hq]; rfl))) rfl ?_)
    rw [eqD_int]
    show some (D.bl (decide (nm[q.toNat] = g))) = some (D.bl (decide (nm.getD q.toNat 0 = g)))
    rw [List.getD_eq_getElem?_getD, List.getElem?_eq_getElem hq]; rfl
  obtain ⟨ds, t2, e2, dl, dq, T2⟩ := compGo_dr (vs := [17]) (gm := gN 17) (me := eCallI 2 0 f_law_of (aCons (eFz (fComp [18] (iRange1 (aCons (eVar 6) aNil)) (gN 18) (tBl (eOp2 eqD (eOp2 ixD (eVar 12) (eVar 18)) (eVar 17))) (eVar 18))) aNil)) Tin (fun t => St e t .un (.va (.int p))) (fun d => ∃ i : Int, d = .int i ∧ 0 ≤ i ∧ i < e.n) 1 1000000000 (base[nm[p.toNat].toNat].map D.int) (by
    intro x hx n t hb' T
    obtain ⟨g, hg, rfl⟩ := List.mem_map.mp hx
    obtain ⟨z0, z1⟩ := b2 g hg
    have ne : (((rangeD 0 e.n).filter fun x => match x with | .int q => decide (nm.getD q.toNat 0 = g) | _ => false).map id) ≠ [] := by
      rw [List.map_id]
      have : D.int g ∈ (rangeD 0 e.n).filter fun x => match x with | .int q => decide (nm.getD q.toNat 0 = g) | _ => false := by
        rw [List.mem_filter]
        refine ⟨?_, ?_⟩
        · rw [rangeD_I]; exact List.mem_map.mpr ⟨g, mem_rangeI.mpr ⟨z0, by omega⟩, rfl⟩
        · show decide (nm.getD g.toNat 0 = g) = true
          rw [List.getD_eq_getElem?_getD, n3 g z0 z1]; simp
      exact List.ne_nil_of_mem this
    have ln : (((rangeD 0 e.n).filter fun x => match x with | .int q => decide (nm.getD q.toNat 0 = g) | _ => false).map id).length ≤ 1000 := by
      rw [List.length_map]
      refine Nat.le_trans (List.length_filter_le _ _) ?_
      rw [range_len]; omega
    obtain ⟨d, t', e1, hd, T1⟩ := of_e (L := St {e with a17 := .va (.int g)} t .un (.va (.int p))) rfl (eFz_of (in18 t g)) T (by omega) ne ln
    rw [List.map_id, List.mem_filter] at hd
    obtain ⟨q, rfl, q0, q1⟩ := range_mem hd.1
    refine ⟨St {e with a17 := .va (.int g)} t .un (.va (.int p)), .v (.int q), St {e with a17 := .va (.int g)} t' .un (.va (.int p)), .int q, _, t', ?_, e1, rfl, ?_, ⟨q, rfl, q0, q1⟩, T1⟩
    · rfl
    · show St {e with a17 := e.a17} t' .un (.va (.int p)) = _
      rfl) n t (by rw [List.length_map]; omega) T
  obtain ⟨r, rfl, hr⟩ := ints_all (p := fun i => 0 ≤ i ∧ i < e.n) dq
  rw [List.length_map, List.length_map] at dl
  exact ⟨r, t2, eOpN_of (aOne (eFz_of (fComp_of s1 (by rw [List.length_map]; omega) (noOwn_one (s := e.a17) rfl (by rw [h17]; rfl)) e2))) rfl rfl, ⟨by omega, hr⟩, T2.le (by rw [List.length_map]; omega)⟩
theorem own_loop {m : Int} {nm : List Int} {base : List (List Int)} (h12 : e.a12 = .va (.lst (nm.map D.int))) (h13 : e.a13 = .va (.lst (base.map fun r => .lst (r.map D.int)))) (h17 : e.a17 = .un) (h18 : e.a18 = .un) (hm : 1 ≤ m ∧ m ≤ e.n - 1)
    (n1 : (nm.length : Int) = e.n) (n2 : ∀ v ∈ nm, 0 ≤ v ∧ v < m) (n3 : ∀ g, 0 ≤ g → g < m → nm[g.toNat]? = some g) (hb : (base.length : Int) = m ∧ ∀ r ∈ base, (r.length : Int) = e.k ∧ ∀ v ∈ r, 0 ≤ v ∧ v < m) :
    ∀ (xs : List D) (acc : List (List Int)) (n : Nat) (t : List D) (x14 : SV), (∀ x ∈ xs, ∃ p : Int, x = .int p ∧ 0 ≤ p ∧ p < e.n) → isIo x14 = false → n + 4 * xs.length ≤ 1000000000 → acc.length + xs.length ≤ 100 → (∀ r ∈ acc, (r.length : Int) = e.k ∧ ∀ v ∈ r, 0 ≤ v ∧ v < e.n) → Tin n t →
    ∃ (rows : List (List Int)) (t' : List D) (x : SV), forGo (gN 14) (sAppend 4 ownE) xs (St {e with a4 := .li (acc.map rowD)} t .un x14) = .nx (St {e with a4 := .li (rows.map rowD)} t' .un x) ∧ rows.length = acc.length + xs.length ∧ (∀ r ∈ rows, (r.length : Int) = e.k ∧ ∀ v ∈ r, 0 ≤ v ∧ v < e.n) ∧ Tin (n + 4 * xs.length) t'
  | [], acc, n, t, x14, _, _, _, _, ha, T => ⟨acc, t, x14, rfl, rfl, ha, T⟩
  | x :: xs, acc, n, t, x14, hx, h14, hB, hl, ha, T => by
    rw [List.length_cons] at hB hl
    obtain ⟨p, rfl, p0, p1⟩ := hx x (List.mem_cons_self ..)
    obtain ⟨r, t1, e1, hr, T1⟩ := own_ok (e := {e with a4 := .li (acc.map rowD)}) hn hk h12 h13 h17 h18 hm n1 n2 n3 hb ⟨p0, p1⟩ n t (by omega) T
    obtain ⟨rows, t2, x2, e2, l2, h2, T2⟩ := own_loop h12 h13 h17 h18 hm n1 n2 n3 hb xs (acc ++ [r]) (n + 4) t1 (.va (.int p)) (fun y hy => hx y (List.mem_cons_of_mem _ hy)) rfl (by omega) (by rw [List.length_append, List.length_singleton]; omega) (fun z hz => by
      rcases List.mem_append.mp hz with h | h
      · exact ha z h
      · rw [List.mem_singleton] at h; subst h; exact hr) T1
    rw [List.map_append] at e2
    refine ⟨rows, t2, x2, ?_, by rw [l2, List.length_append, List.length_singleton, List.length_cons]; omega, h2, by rw [List.length_cons]; exact T2.le (by omega)⟩
    unfold forGo
    have g : gN 14 (.int p) (St {e with a4 := .li (acc.map rowD)} t .un x14) = some (St {e with a4 := .li (acc.map rowD)} t .un (.va (.int p))) := by
      show (if isIo x14 = true then none else some _) = _
      rw [h14]; rfl
    rw [g]; dsimp only
    rw [sAppend_li (L := St {e with a4 := .li (acc.map rowD)} t .un (.va (.int p))) (xs := acc.map rowD) rfl e1 rfl (by rw [List.length_map]; omega)]
    exact e2
theorem kind5 {m : Int} {nm : List Int} {base : List (List Int)} (h12 : e.a12 = .va (.lst (nm.map D.int))) (h13 : e.a13 = .va (.lst (base.map fun r => .lst (r.map D.int)))) (h4 : e.a4 = .un) (h17 : e.a17 = .un) (h18 : e.a18 = .un) (hm : 1 ≤ m ∧ m ≤ e.n - 1)
    (n1 : (nm.length : Int) = e.n) (n2 : ∀ v ∈ nm, 0 ≤ v ∧ v < m) (n3 : ∀ g, 0 ≤ g → g < m → nm[g.toNat]? = some g) (hb : (base.length : Int) = m ∧ ∀ r ∈ base, (r.length : Int) = e.k ∧ ∀ v ∈ r, 0 ≤ v ∧ v < m)
    (n : Nat) (t : List D) (hB : n + 40 ≤ 1000000000) (T : Tin n t) :
    Drawn e (n + 40) (sSeq (sSetF 4 (fLst aNil)) (sSeq (sFor (iRange1 (aCons (eVar 6) aNil)) (gN 14) (sAppend 4 ownE)) (sRet (eTup (aCons (eVar 7) (aCons (eOpN tupD (aCons (eVar2 4) aNil)) aNil))))) (St e t .un .un)) := by
  obtain ⟨rows, t2, x2, e2, l2, h2, T2⟩ := own_loop hn hk h12 h13 h17 h18 hm n1 n2 n3 hb (rangeD 0 e.n) [] n t .un (fun x hx => range_mem hx) rfl (by rw [range_len]; omega) (by rw [range_len, List.length_nil]; omega) (by simp) T
  rw [List.length_nil, range_len] at l2
  have s1 : sSetF 4 (fLst aNil) (St e t .un .un) = .nx (St {e with a4 := .li []} t .un .un) := by
    show (if isIo e.a4 = true then SR.no else _) = _
    rw [h4]; rfl
  have s2 : sFor (iRange1 (aCons (eVar 6) aNil)) (gN 14) (sAppend 4 ownE) (St {e with a4 := .li []} t .un .un) = .nx (St {e with a4 := .li (rows.map rowD)} t2 .un x2) := by
    unfold sFor
    rw [iR1_of (m := eVar 6) (r := .v (.int e.n)) (L1 := St {e with a4 := .li []} t .un .un) rfl rfl (by omega)]
    exact e2
  have h3 : (rows.length : Int) = e.n ∧ ∀ r ∈ rows, (r.length : Int) = e.k ∧ ∀ v ∈ r, 0 ≤ v ∧ v < e.n := ⟨by omega, h2⟩
  refine ⟨rows, t2, St {e with a4 := .li (rows.map rowD)} t2 .un x2, ?_, rfl, mach_of hn hk h3, h3.1, T2.le (by rw [range_len]; omega)⟩
  rw [sSeq_nx s1, sSeq_nx s2]
  rfl
end
end L2.G04

/-! part P04m -/
set_option Elab.async false
set_option linter.all false
set_option maxRecDepth 100000
set_option maxHeartbeats 4000000
namespace L2.G04
open PySem L2.Z
theorem ret_L {M : Lo → R RV} {L L' : Lo} {k : Int} {rows : List (List Int)} (h7 : eVar 7 L = .ok (.v (.int k)) L) (h : eOpN tupD (aCons M aNil) L = .ok (.v (rowsD rows)) L') :
    sRet (eTup (aCons (eVar 7) (aCons (eOpN tupD (aCons M aNil)) aNil))) L = .rt (mD k rows) L' := by
  have e2 : aCons (eVar 7) (aCons (eOpN tupD (aCons M aNil)) aNil) L = .ok [.v (.int k), .v (rowsD rows)] L' := aCons_of h7 (aOne h)
  unfold sRet eTup
  rw [e2]
  rfl
abbrev ringE : Lo → R (List D) := fOp2 catF (eFz (fLst (aCons (eOp2 modD (eOp2 addD (eVar 14) (eC (.int 1))) (eVar 6)) aNil))) (eOp2 mulD (eFz (fLst (aCons (eVar 14) aNil))) (eOp2 subD (eVar 7) (eC (.int 1))))
abbrev putE : Lo → SR := sStore2 4 (eCallI 2 0 f_law_take (aCons (eVar 6) aNil)) (eVar 5) (eCallI 2 0 f_law_take (aCons (eVar 6) aNil))
section
variable {e : Env} (hn : 1 ≤ e.n ∧ e.n ≤ 10) (hk : 1 ≤ e.k ∧ e.k ≤ 4)
include hn hk
theorem ring_ok (h4 : e.a4 = .un) (t : List D) :
    ∃ rs : List (List D), sSetG 4 (gComp [14] (iRange1 (aCons (eVar 6) aNil)) (gN 14) tTrue ringE) (St e t .un .un) = .nx (St {e with a4 := .l2 rs} t .un .un) ∧ BoxL e.n e.k e.n rs := by
  have c := compGo2_mapT (vs := [14]) (gm := gN 14) (me := ringE) (L := St e t .un .un) (xs := rangeD 0 e.n) (h := fun d => match d with | .int p => [.int ((p + 1).fmod e.n)] ++ repL [.int p] (e.k - 1) | _ => []) (by
    intro x hx
    obtain ⟨p, rfl, p0, p1⟩ := range_mem hx
    refine ⟨St e t .un (.va (.int p)), rfl, ?_, rfl⟩
    have hm : mulD (.lst [.int p]) (.int (e.k - 1)) = some (.lst (repL [.int p] (e.k - 1))) := if_pos ⟨by omega, by omega, len_line (by rw [List.length_singleton]; omega)⟩
    have hl : [D.int ((p + 1).fmod e.n)].length + (repL [.int p] (e.k - 1)).length ≤ lineN := len_line (by
      unfold repL
      rw [List.length_flatten, List.map_replicate, List.sum_replicate_nat, List.length_singleton, List.length_singleton]; omega)
    exact fOp2_v (eFz_of (fLst_one (eOp2_v (eOp2_v rfl rfl rfl) rfl (modD_ii (by omega))))) (eOp2_v (eFz_of (fLst_one rfl)) (eOp2_v rfl rfl rfl) hm) (catF_ll hl))
  have s1 : gComp [14] (iRange1 (aCons (eVar 6) aNil)) (gN 14) tTrue ringE (St e t .un .un) = .ok _ (St e t .un .un) := gComp_of (iR1_of rfl rfl (by omega)) (by rw [range_len]; omega) rfl c
  refine ⟨_, sSetG_of (i := 4) s1 (s0 := e.a4) rfl (by rw [h4]; rfl), by rw [List.length_map, range_len]; omega, fun xs hx => ?_⟩
  obtain ⟨d, hd, rfl⟩ := List.mem_map.mp hx
  obtain ⟨p, rfl, p0, p1⟩ := range_mem hd
  have m0 := Int.fmod_nonneg_of_pos (p + 1) (show 0 < e.n by omega)
  have m1 := Int.fmod_lt_of_pos (p + 1) (show 0 < e.n by omega)
  constructor
  · show ((([D.int ((p + 1).fmod e.n)] ++ repL [.int p] (e.k - 1)).length : Nat) : Int) = e.k
    unfold repL
    rw [List.length_append, List.length_flatten, List.map_replicate, List.sum_replicate_nat, List.length_singleton, List.length_singleton]; omega
  · intro x hx
    rcases List.mem_append.mp (show x ∈ [D.int ((p + 1).fmod e.n)] ++ repL [.int p] (e.k - 1) from hx) with h | h
    · rw [List.mem_singleton] at h; exact ⟨_, h, m0, m1⟩
    · unfold repL at h
      rw [List.mem_flatten] at h
      obtain ⟨l, hl, hx⟩ := h
      rw [(List.mem_replicate.mp hl).2, List.mem_singleton] at hx
      exact ⟨p, hx, p0, p1⟩
theorem put_ok {rs : List (List D)} (B : BoxL e.n e.k e.n rs) {a : Int} (ha : 0 ≤ a ∧ a < e.k) (x15 : SV) (n : Nat) (t : List D) (hb : n + 2 ≤ 1000000000) (T : Tin n t) :
    ∃ (rs' : List (List D)) (t' : List D), putE (St {e with a4 := .l2 rs, a15 := x15} t (.va (.int a)) .un) = .nx (St {e with a4 := .l2 rs', a15 := x15} t' (.va (.int a)) .un) ∧ BoxL e.n e.k e.n rs' ∧ Tin (n + 2) t' := by
  obtain ⟨r, t1, e1, r0, r1, T1⟩ := take_e (A := eVar 6) (L := St {e with a4 := .l2 rs, a15 := x15} t (.va (.int a)) .un) (m := e.n) rfl rfl T (by omega) (by omega) (by omega)
  obtain ⟨s, t2, e2, s0, s1, T2⟩ := take_e (A := eVar 6) (L := St {e with a4 := .un, a15 := x15} t1 (.va (.int a)) .un) (m := e.n) rfl rfl T1 (by omega) (by omega) (by omega)
  have hl := B.1
  have h6 : s.toNat < rs.length := by omega
  have h7 := (B.2 _ (List.getElem_mem h6)).1
  have h5 : ixN rs.length s = some s.toNat := ixN_of s0 (by omega)
  have h8 : ixN (rs[s.toNat]).length a = some a.toNat := ixN_of ha.1 (by omega)
  exact ⟨_, t2, sStore2_of (L4 := St {e with a4 := .un, a15 := x15} t2 (.va (.int a)) .un) (o := s) (k := a) e1 rfl e2 rfl h5 (List.getElem?_eq_getElem h6) rfl rfl rfl h8, B.set (List.getElem?_eq_getElem h6) ⟨r0, r1⟩, T2⟩
theorem put_loop {a : Int} (ha : 0 ≤ a ∧ a < e.k) : ∀ (xs : List D) (rs : List (List D)) (x15 : SV) (n : Nat) (t : List D), BoxL e.n e.k e.n rs → isIo x15 = false → n + 2 * xs.length ≤ 1000000000 → Tin n t →
    ∃ (rs' : List (List D)) (y15 : SV) (t' : List D), forGo (gN 15) putE xs (St {e with a4 := .l2 rs, a15 := x15} t (.va (.int a)) .un) = .nx (St {e with a4 := .l2 rs', a15 := y15} t' (.va (.int a)) .un) ∧ BoxL e.n e.k e.n rs' ∧ isIo y15 = false ∧ Tin (n + 2 * xs.length) t'
  | [], rs, x15, n, t, B, h15, hb, T => ⟨rs, x15, t, rfl, B, h15, T⟩
  | x :: xs, rs, x15, n, t, B, h15, hb, T => by
    rw [List.length_cons] at hb
    obtain ⟨rs1, t1, e1, B1, T1⟩ := put_ok hn hk B ha (.va x) n t (by omega) T
    obtain ⟨rs2, y, t2, e2, B2, hy, T2⟩ := put_loop ha xs rs1 (.va x) (n + 2) t1 B1 rfl (by omega) T1
    refine ⟨rs2, y, t2, ?_, B2, hy, by rw [List.length_cons]; exact T2.le (by omega)⟩
    unfold forGo
    have g : gN 15 x (St {e with a4 := .l2 rs, a15 := x15} t (.va (.int a)) .un) = some (St {e with a4 := .l2 rs, a15 := .va x} t (.va (.int a)) .un) := by
      show (if isIo x15 = true then none else some _) = _
      rw [h15]; rfl
    rw [g]; dsimp only
    rw [e1]
    exact e2
abbrev turnsE : Lo → SR := sFor (iRange1 (aCons (eOp2 addD (eC (.int 1)) (eCallI 2 0 f_law_take (aCons (eC (.int 2)) aNil))) aNil)) (gN 15) putE
theorem turns_loop : ∀ (xs : List D) (rs : List (List D)) (x5 x15 : SV) (n : Nat) (t : List D), (∀ x ∈ xs, ∃ a : Int, x = .int a ∧ 0 ≤ a ∧ a < e.k) → BoxL e.n e.k e.n rs → isIo x5 = false → isIo x15 = false → n + 5 * xs.length ≤ 1000000000 → Tin n t →
    ∃ (rs' : List (List D)) (y5 y15 : SV) (t' : List D), forGo (gN 5) turnsE xs (St {e with a4 := .l2 rs, a15 := x15} t x5 .un) = .nx (St {e with a4 := .l2 rs', a15 := y15} t' y5 .un) ∧ BoxL e.n e.k e.n rs' ∧ Tin (n + 5 * xs.length) t'
  | [], rs, x5, x15, n, t, _, B, h5, h15, hb, T => ⟨rs, x5, x15, t, rfl, B, T⟩
  | x :: xs, rs, x5, x15, n, t, hx, B, h5, h15, hb, T => by
    rw [List.length_cons] at hb
    obtain ⟨a, rfl, a0, a1⟩ := hx x (List.mem_cons_self ..)
    obtain ⟨r, t1, e1, r0, r1, T1⟩ := take_e (A := eC (.int 2)) (L := St {e with a4 := .l2 rs, a15 := x15} t (.va (.int a)) .un) (m := 2) rfl rfl T (by omega) (by omega) (by omega)
    obtain ⟨rs1, y, t2, e2, B2, hy, T2⟩ := put_loop hn hk ⟨a0, a1⟩ (rangeD 0 (1 + r)) rs x15 (n + 1) t1 B h15 (by rw [range_len]; omega) T1
    obtain ⟨rs3, z5, z15, t3, e3, B3, T3⟩ := turns_loop xs rs1 (.va (.int a)) y (n + 5) t2 (fun z hz => hx z (List.mem_cons_of_mem _ hz)) B2 rfl hy (by omega) (T2.le (by rw [range_len]; omega))
    refine ⟨rs3, z5, z15, t3, ?_, B3, by rw [List.length_cons]; exact T3.le (by omega)⟩
    unfold forGo
    have g : gN 5 (.int a) (St {e with a4 := .l2 rs, a15 := x15} t x5 .un) = some (St {e with a4 := .l2 rs, a15 := x15} t (.va (.int a)) .un) := by
      show (if isIo x5 = true then none else some _) = _
      rw [h5]; rfl
    rw [g]; dsimp only
    have s : turnsE (St {e with a4 := .l2 rs, a15 := x15} t (.va (.int a)) .un) = .nx (St {e with a4 := .l2 rs1, a15 := y} t2 (.va (.int a)) .un) := by
      unfold turnsE sFor
      have i1 : iRange1 (aCons (eOp2 addD (eC (.int 1)) (eCallI 2 0 f_law_take (aCons (eC (.int 2)) aNil))) aNil) (St {e with a4 := .l2 rs, a15 := x15} t (.va (.int a)) .un) = .ok (rangeD 0 (1 + r)) (St {e with a4 := .l2 rs, a15 := x15} t1 (.va (.int a)) .un) := iR1_of (eOp2_v rfl e1 rfl) rfl (by omega)
      rw [i1]
      exact e2
    rw [s]
    exact e3
theorem last_ok {rs : List (List D)} (h4 : e.a4 = .l2 rs) (h16 : e.a16 = .un) (B : BoxL e.n e.k e.n rs) (x5 : SV) (n : Nat) (t : List D) (T : Tin n t) :
    Drawn e n (sRet (eTup (aCons (eVar 7) (aCons (eOpN tupD (aCons (eFz (fComp [16] (iSeq (eVar2 4)) (gN 16) tTrue (eOpN tupD (aCons (eVar 16) aNil)))) aNil)) aNil))) (St e t x5 .un)) := by
  obtain ⟨rows, er, hr⟩ := BoxL.rows B.2
  have v4 : eVar2 4 (St e t x5 .un) = .ok (.v (.lst (rs.map .lst))) (St {e with a4 := .va (.lst (rs.map .lst))} t x5 .un) := by
    show (match (some e.a4 : Option SV) with | some (.l2 xss) => _ | _ => eVar 4 _) = _
    rw [h4]; rfl
  have c := compGo_mapT (vs := [16]) (gm := gN 16) (me := eOpN tupD (aCons (eVar 16) aNil)) (L := St {e with a4 := .va (.lst (rs.map .lst))} t x5 .un) (xs := rs.map .lst) (h := fun d => match d with | .lst xs => .tup xs | d => d) (by
    intro x hx
    obtain ⟨xs, hxs, rfl⟩ := List.mem_map.mp hx
    refine ⟨St {e with a4 := .va (.lst (rs.map .lst)), a16 := .va (.lst xs)} t x5 .un, .v (.tup xs), ?_, eOpN_of (aOne rfl) rfl rfl, rfl, by rw [← h16]; rfl⟩
    show gN 16 _ (St {e with a4 := .va (.lst (rs.map .lst)), a16 := .un} t x5 .un) = _
    rfl)
  have hl := B.1
  have e1 : eOpN tupD (aCons (eFz (fComp [16] (iSeq (eVar2 4)) (gN 16) tTrue (eOpN tupD (aCons (eVar 16) aNil)))) aNil) (St e t x5 .un) = .ok (.v (rowsD rows)) (St {e with a4 := .va (.lst (rs.map .lst))} t x5 .un) := by
    refine eOpN_of (aOne (eFz_of (fComp_of (iSeq_lst v4) (by rw [List.length_map]; omega) (noOwn_one (s := e.a16) rfl (by rw [h16]; rfl)) c))) rfl ?_
    rw [tupD_lst, er]
    unfold rowsD
    rw [List.map_map, List.map_map]
    rfl
  have h3 : (rows.length : Int) = e.n ∧ ∀ r ∈ rows, (r.length : Int) = e.k ∧ ∀ v ∈ r, 0 ≤ v ∧ v < e.n := ⟨by rw [er, List.length_map] at hl; exact hl, hr⟩
  exact ⟨rows, t, _, ret_L rfl e1, rfl, mach_of hn hk h3, h3.1, T⟩
end
theorem Drawn.le {e : Env} {n m : Nat} {r : SR} (h : Drawn e n r) (l : n ≤ m) : Drawn e m r := by
  obtain ⟨rows, t', L, h1, h2, h3, h4, h5⟩ := h
  exact ⟨rows, t', L, h1, h2, h3, h4, h5.le l⟩
theorem Drawn.seq {e : Env} {n : Nat} {a b : Lo → SR} {L : Lo} (h : Drawn e n (a L)) : Drawn e n (sSeq a b L) := by
  obtain ⟨rows, t', L', h1, h2⟩ := h
  exact ⟨rows, t', L', sSeq_rt h1, h2⟩
theorem Drawn.iff {e : Env} {n : Nat} {c : Lo → R Bool} {a b : Lo → SR} {L : Lo} (hc : c L = .ok true L) (h : Drawn e n (a L)) : Drawn e n (sSeq (sIf c a .nx) b L) := Drawn.seq (by rw [sIf_t hc]; exact h)
theorem Drawn.env {e e' : Env} {n : Nat} {r : SR} (h : Drawn e' n r) (h1 : e'.k = e.k) (h2 : e'.n = e.n) : Drawn e n r := by
  unfold Drawn at h ⊢
  rw [h1, h2] at h; exact h
theorem machine_ok {n : Nat} {t : List D} {N K : Int} (hN : 1 ≤ N ∧ N ≤ 10) (hK : 1 ≤ K ∧ K ≤ 4) (T : Tin n t) (hb : n + 10000 ≤ 1000000000) :
    ∃ (k : Int) (rows : List (List Int)) (t' : List D), f_law_machine t [.int N, .int K] = .v (mD k rows) t' ∧ Mach k rows ∧ k ≤ K ∧ (rows.length : Int) ≤ N ∧ Tin (n + 10000) t' := by
  obtain ⟨r1, t1, e1, a1, b1, T1⟩ := take_e (A := eVar 1) (L := [.io t, .va (.int N), .va (.int K), .un, .un, .un, .un, .un, .un, .un, .un, .un, .un, .un, .un, .un, .un, .un, .un]) (m := N) rfl rfl T (by omega) (by omega) (by omega)
  obtain ⟨r2, t2, e2, a2, b2, T2⟩ := take_e (A := eVar 2) (L := [.io t1, .va (.int N), .va (.int K), .un, .un, .un, .un, .un, .un, .un, .un, .un, .un, .un, .un, .un, .un, .un, .un]) (m := K) rfl rfl T1 (by omega) (by omega) (by omega)
  obtain ⟨kd, t3, e3, a3, b3, T3⟩ := take_e (A := eC (.int 7)) (L := [.io t2, .va (.int N), .va (.int K), .un, .un, .un, .un, .un, .un, .un, .un, .un, .un, .un, .un, .un, .un, .un, .un]) (m := 7) rfl rfl T2 (by omega) (by omega) (by omega)
  obtain ⟨e, he⟩ : ∃ e : Env, e = ⟨1 + r1, 1 + r2, .va (.int N), .va (.int K), .un, .un, .va (.int kd), .un, .un, .un, .un, .un, .un, .un, .un, .un⟩ := ⟨_, rfl⟩
  have D0 : Drawn e (n + 10000) (m_law_machine [.io t, .va (.int N), .va (.int K), .un, .un, .un, .un, .un, .un, .un, .un, .un, .un, .un, .un, .un, .un, .un, .un]) := by
    have hn : 1 ≤ e.n ∧ e.n ≤ 10 := by rw [he]; exact ⟨by show 1 ≤ 1 + r1; omega, by show 1 + r1 ≤ 10; omega⟩
    have hk : 1 ≤ e.k ∧ e.k ≤ 4 := by rw [he]; exact ⟨by show 1 ≤ 1 + r2; omega, by show 1 + r2 ≤ 4; omega⟩
    have g8 : e.a8 = .va (.int kd) := by rw [he]
    have g3 : e.a3 = .un := by rw [he]
    have g4 : e.a4 = .un := by rw [he]
    have g9 : e.a9 = .un := by rw [he]
    have g10 : e.a10 = .un := by rw [he]
    have g11 : e.a11 = .un := by rw [he]
    have g12 : e.a12 = .un := by rw [he]
    have g13 : e.a13 = .un := by rw [he]
    have g15 : e.a15 = .un := by rw [he]
    have g16 : e.a16 = .un := by rw [he]
    have g17 : e.a17 = .un := by rw [he]
    have g18 : e.a18 = .un := by rw [he]
    unfold m_law_machine
    have s0 : sPar [6, 7, 8] (vCons (eOp2 addD (eC (.int 1)) (eCallI 2 0 f_law_take (aCons (eVar 1) aNil))) (vCons (eOp2 addD (eC (.int 1)) (eCallI 2 0 f_law_take (aCons (eVar 2) aNil))) (vCons (eCallI 2 0 f_law_take (aCons (eC (.int 7)) aNil)) vNil))) [.io t, .va (.int N), .va (.int K), .un, .un, .un, .un, .un, .un, .un, .un, .un, .un, .un, .un, .un, .un, .un, .un] = .nx (St e t3 .un .un) := sPar_of (vCons_v (eOp2_v rfl e1 rfl) (vCons_v (eOp2_v rfl e2 rfl) (vCons_v e3 rfl))) (by rw [he]; rfl)
    rw [sSeq_nx s0]
    have v8 : ∀ (e' : Env) t, e'.a8 = e.a8 → eVar 8 (St e' t .un .un) = .ok (.v (.int kd)) (St e' t .un .un) := fun e' t h => by
      show (match (some e'.a8 : Option SV) with | some (.va d) => _ | some .un => _ | some (.l2 _) => _ | some _ => _ | none => _) = _
      rw [h, g8]
    have c2 := tBl_v (eOp2_v (f := ltD) (v8 e t3 rfl) (show eC (.int 2) (St e t3 .un .un) = .ok (.v (.int 2)) _ from rfl) (ltD_ii kd 2))
    by_cases h2 : kd < 2
    · rw [decide_eq_true h2] at c2
      exact Drawn.iff c2 ((kind01 hn hk _ t3 (by omega) T3).le (by omega))
    rw [decide_eq_false h2] at c2
    rw [sIf_skip c2]
    obtain ⟨sw, t4, e4, B, T4⟩ := swaps_ok hn hk g3 _ t3 (by omega) T3
    rw [sSeq_nx e4]
    have ce : ∀ (j : Int) t, tBl (eOp2 eqD (eVar 8) (eC (.int j))) (St {e with a3 := .l2 sw} t .un .un) = .ok (decide (kd = j)) (St {e with a3 := .l2 sw} t .un .un) := fun j t => tBl_v (eOp2_v (v8 _ t rfl) rfl (eqD_int kd j))
    have cn : ∀ t, tBl (eOp2 (cmpD fun i j => decide (j < i)) (eVar 6) (eC (.int 1))) (St {e with a3 := .l2 sw} t .un .un) = .ok (decide (1 < e.n)) (St {e with a3 := .l2 sw} t .un .un) := fun t => tBl_v (eOp2_v rfl rfl rfl)
    by_cases h2 : kd = 2
    · have c := ce 2 t4
      rw [decide_eq_true h2] at c
      exact Drawn.iff c (((kind2 hn hk B _ t4 (by omega) T4).env rfl rfl).le (by omega))
    have c := ce 2 t4
    rw [decide_eq_false h2] at c
    rw [sIf_skip c]
    by_cases h3 : kd = 3
    · have c := ce 3 t4
      rw [decide_eq_true h3] at c
      obtain ⟨sw', t5, e5, B5, T5⟩ := store3 hn hk B _ t4 (by omega) T4
      refine Drawn.iff c ?_
      rw [sSeq_nx e5]
      exact ((kind2 hn hk B5 _ t5 (by omega) T5).env rfl rfl).le (by omega)
    have c := ce 3 t4
    rw [decide_eq_false h3] at c
    rw [sIf_skip c]
    have c4 := tAnd2_v (ce 4 t4) (cn t4)
    have c5 := tAnd2_v (ce 5 t4) (cn t4)
    by_cases h4 : kd = 4 ∧ 1 < e.n
    · rw [decide_eq_true h4.1, decide_eq_true h4.2] at c4
      refine Drawn.iff c4 ?_
      obtain ⟨m, t5, e5, m0, m1, T5⟩ := less_ok (e := {e with a3 := .l2 sw}) hn hk g9 h4.2 _ t4 (by omega) T4
      rw [sSeq_nx e5]
      obtain ⟨low, t6, e6, hlow, T6⟩ := low_ok (e := {e with a3 := .l2 sw, a9 := .va (.int m)}) hn hk rfl g10 ⟨m0, by have : m ≤ e.n - 1 := m1; omega⟩ _ t5 (by omega) T5
      rw [sSeq_nx e6]
      obtain ⟨high, t7, e7, hhigh, T7⟩ := high_ok (e := {e with a3 := .l2 sw, a9 := .va (.int m), a10 := .va (.lst (low.map rowD))}) hn hk rfl g11 ⟨m0, m1⟩ _ t6 (by omega) T6
      rw [sSeq_nx e7]
      exact ((join_ok (e := {e with a3 := .l2 sw, a9 := .va (.int m), a10 := .va (.lst (low.map rowD)), a11 := .va (.lst (high.map rowD))}) hn hk rfl rfl ⟨m0, m1⟩ hlow hhigh _ t7 T7).env rfl rfl).le (by omega)
    rw [sIf_skip (show _ = R.ok false _ from by rw [c4]; congr 1; rw [Bool.and_eq_false_iff]; by_cases h : kd = 4 <;> simp [h] <;> omega)]
    by_cases h5 : kd = 5 ∧ 1 < e.n
    · rw [decide_eq_true h5.1, decide_eq_true h5.2] at c5
      refine Drawn.iff c5 ?_
      obtain ⟨m, t5, e5, m0, m1, T5⟩ := less_ok (e := {e with a3 := .l2 sw}) hn hk g9 h5.2 _ t4 (by omega) T4
      rw [sSeq_nx e5]
      obtain ⟨nm, t6, e6, n1, n2, n3, T6⟩ := names_ok (e := {e with a3 := .l2 sw, a9 := .va (.int m)}) hn hk rfl g12 ⟨m0, m1⟩ _ t5 (by omega) T5
      rw [sSeq_nx e6]
      obtain ⟨base, t7, e7, hbase, T7⟩ := base_ok (e := {e with a3 := .l2 sw, a9 := .va (.int m), a12 := .va (.lst (nm.map D.int))}) hn hk rfl g13 ⟨m0, m1⟩ _ t6 (by omega) T6
      rw [sSeq_nx e7]
      exact ((kind5 (e := {e with a3 := .l2 sw, a9 := .va (.int m), a12 := .va (.lst (nm.map D.int)), a13 := .va (.lst (base.map fun r => .lst (r.map D.int)))}) hn hk rfl rfl g4 g17 g18 ⟨m0, m1⟩ n1 n2 n3 hbase _ t7 (by omega) T7).env rfl rfl).le (by omega)
    rw [sIf_skip (show _ = R.ok false _ from by rw [c5]; congr 1; rw [Bool.and_eq_false_iff]; by_cases h : kd = 5 <;> simp [h] <;> omega)]
    obtain ⟨rs, e5, B5⟩ := ring_ok (e := {e with a3 := .l2 sw}) hn hk g4 t4
    rw [sSeq_nx e5]
    obtain ⟨rs', y5, y15, t6, e6, B6, T6⟩ := turns_loop (e := {e with a3 := .l2 sw}) hn hk (rangeD 1 e.k) rs .un .un _ t4 (fun x hx => by obtain ⟨a, h, z0, z1⟩ := range_mem hx; exact ⟨a, h, by omega, z1⟩) B5 rfl rfl (by rw [range_len]; omega) T4
    have s6 : sFor (iRange2 (aCons (eC (.int 1)) (aCons (eVar 7) aNil))) (gN 5) turnsE (St {e with a3 := .l2 sw, a4 := .l2 rs} t4 .un .un) = .nx (St {e with a3 := .l2 sw, a4 := .l2 rs', a15 := y15} t6 y5 .un) := by
      unfold sFor
      have i2 : iRange2 (aCons (eC (.int 1)) (aCons (eVar 7) aNil)) (St {e with a3 := .l2 sw, a4 := .l2 rs} t4 .un .un) = .ok (rangeD 1 e.k) (St {e with a3 := .l2 sw, a4 := .l2 rs} t4 .un .un) := by
        show (if -(2 ^ 62) ≤ (1 : Int) ∧ (1 : Int) < 2 ^ 62 ∧ -(2 ^ 62) ≤ e.k ∧ e.k < 2 ^ 62 then R.ok (rangeD 1 e.k) (St {e with a3 := .l2 sw, a4 := .l2 rs} t4 .un .un) else R.no) = _
        rw [if_pos (by omega)]
      rw [i2]
      dsimp only
      rw [show (e.a15 : SV) = .un from g15] at *
      exact e6
    rw [sSeq_nx s6]
    exact ((last_ok (e := {e with a3 := .l2 sw, a4 := .l2 rs', a15 := y15}) hn hk rfl g16 B6 y5 _ t6 T6).env rfl rfl).le (by rw [range_len]; omega)
  obtain ⟨rows, t', L, h1, h2, h3, h4, h5⟩ := D0
  have ek : e.k = 1 + r2 := by rw [he]
  have en : e.n = 1 + r1 := by rw [he]
  refine ⟨e.k, rows, t', ?_, h3, by omega, by omega, h5⟩
  show (match m_law_machine [.io t, .va (.int N), .va (.int K), .un, .un, .un, .un, .un, .un, .un, .un, .un, .un, .un, .un, .un, .un, .un, .un] with | .rt d L => _ | .nx L => _ | .rf es L => _ | _ => _) = _
  rw [h1]; dsimp only
  rw [h2]
end L2.G04

/-! part P04h -/
set_option Elab.async false
set_option linter.all false
set_option maxRecDepth 100000
set_option maxHeartbeats 4000000
namespace L2.G04
open PySem L2.Z
theorem len_rows (rows : List (List Int)) : lenD [rowsD rows] = some (.int rows.length) := by
  show lenD [.tup (rows.map rowD)] = _
  rw [lenD_tup, List.length_map]
section
variable {k : Int} {rows : List (List Int)} (M : Mach k rows)
include M
theorem hangs_in_eq : f_hangs_in [rowsD rows] = .ok (.bl ((rangeI 0 rows.length).all fun p => decide ((setI (reach rows p)).length = rows.length))) := by
  have n10 := M.n10
  have l1 : ∀ s, eOpN lenD (aCons (eVar 0) aNil) [.va (rowsD rows), s] = .ok (.v (.int rows.length)) [.va (rowsD rows), s] := fun s => eOpN_of (aOne rfl) rfl (len_rows rows)
  have c : compGo [1] (gN 1) tTrue (eOp2 eqD (eOpN lenD (aCons (eCall 2 f_places_in (aCons (eVar 0) (aCons (eVar 1) aNil))) aNil)) (eOpN lenD (aCons (eVar 0) aNil))) (rangeD 0 rows.length) [.va (rowsD rows), .un] = .ok ((rangeD 0 rows.length).map fun x => .bl (match x with | .int p => decide ((setI (reach rows p)).length = rows.length) | _ => false)) [.va (rowsD rows), .un] := by
    refine compGo_mapT (h := fun x => .bl (match x with | .int p => decide ((setI (reach rows p)).length = rows.length) | _ => false)) fun x hx => ?_
    obtain ⟨p, rfl, h0, h1⟩ := range_mem hx
    refine ⟨[.va (rowsD rows), .va (.int p)], .v (.bl (decide ((setI (reach rows p)).length = rows.length))), rfl, ?_, rfl, rfl⟩
    have e1 : eCall 2 f_places_in (aCons (eVar 0) (aCons (eVar 1) aNil)) [.va (rowsD rows), .va (.int p)] = .ok (.v (.tup ((setI (reach rows p)).map D.int))) [.va (rowsD rows), .va (.int p)] := eCall2 rfl rfl (places_in_eq M ⟨h0, h1⟩)
    have e2 : eqD (.int ((setI (reach rows p)).map D.int).length) (.int rows.length) = some (.bl (decide ((setI (reach rows p)).length = rows.length))) := by
      rw [eqD_int, List.length_map]; congr 2; rw [decide_eq_decide]; omega
    exact eOp2_v (eOpN_of (aOne e1) rfl (lenD_tup _)) (l1 _) e2
  have c2 : fComp [1] (iRange1 (aCons (eOpN lenD (aCons (eVar 0) aNil)) aNil)) (gN 1) tTrue (eOp2 eqD (eOpN lenD (aCons (eCall 2 f_places_in (aCons (eVar 0) (aCons (eVar 1) aNil))) aNil)) (eOpN lenD (aCons (eVar 0) aNil))) [.va (rowsD rows), .un] = .ok _ [.va (rowsD rows), .un] := fComp_of (iR1_of (l1 _) rfl (by omega)) (by rw [range_len]; omega) rfl c
  refine fnP_rt (L := [.va (rowsD rows), .un]) (sRet_v (eOpN_of (aOne (eFz_of c2)) rfl ?_))
  rw [allD_map, rangeD_I, List.all_map]
  rfl
theorem law_hangs_eq : f_law_hangs [rowsD rows] = .ok (.bl ((rangeI 0 rows.length).all fun p => decide ((setI (reach rows p)).length = rows.length))) := by
  have n10 := M.n10
  have l1 : ∀ s, eOpN lenD (aCons (eVar 0) aNil) [.va (rowsD rows), s] = .ok (.v (.int rows.length)) [.va (rowsD rows), s] := fun s => eOpN_of (aOne rfl) rfl (len_rows rows)
  have c : compGo [1] (gN 1) (tBl (eOp2 ltD (eOpN lenD (aCons (eCall 2 f_law_from (aCons (eVar 0) (aCons (eVar 1) aNil))) aNil)) (eOpN lenD (aCons (eVar 0) aNil)))) (eVar 1) (rangeD 0 rows.length) [.va (rowsD rows), .un] = .ok (((rangeD 0 rows.length).filter fun x => match x with | .int p => decide ((setI (reach rows p)).length < rows.length) | _ => false).map id) [.va (rowsD rows), .un] := by
    refine compGo_filter _ fun x hx => ?_
    obtain ⟨p, rfl, h0, h1⟩ := range_mem hx
    refine ⟨[.va (rowsD rows), .va (.int p)], rfl, ?_, fun _ => ⟨.v (.int p), rfl, rfl⟩, rfl⟩
    have e1 : eCall 2 f_law_from (aCons (eVar 0) (aCons (eVar 1) aNil)) [.va (rowsD rows), .va (.int p)] = .ok (.v (.lst ((setI (reach rows p)).map D.int))) [.va (rowsD rows), .va (.int p)] := eCall2 rfl rfl (law_from_eq M ⟨h0, h1⟩)
    have e2 : ltD (.int ((setI (reach rows p)).map D.int).length) (.int rows.length) = some (.bl (decide ((setI (reach rows p)).length < rows.length))) := by
      rw [ltD_ii, List.length_map]; congr 2; rw [decide_eq_decide]; omega
    exact tBl_v (eOp2_v (eOpN_of (aOne e1) rfl (lenD_lst _)) (l1 _) e2)
  have c2 : fComp [1] (iRange1 (aCons (eOpN lenD (aCons (eVar 0) aNil)) aNil)) (gN 1) (tBl (eOp2 ltD (eOpN lenD (aCons (eCall 2 f_law_from (aCons (eVar 0) (aCons (eVar 1) aNil))) aNil)) (eOpN lenD (aCons (eVar 0) aNil)))) (eVar 1) [.va (rowsD rows), .un] = .ok _ [.va (rowsD rows), .un] := fComp_of (iR1_of (l1 _) rfl (by omega)) (by rw [range_len]; omega) rfl c
  have c3 : eFz (fLst aNil) [.va (rowsD rows), .un] = .ok (.v (.lst [])) [.va (rowsD rows), .un] := rfl
  have c4 : eqD (.lst (((rangeD 0 rows.length).filter fun x => match x with | .int p => decide ((setI (reach rows p)).length < rows.length) | _ => false).map id)) (.lst []) = some (.bl ((rangeI 0 rows.length).all fun p => decide ((setI (reach rows p)).length = rows.length))) := by
    have e : (((rangeD 0 rows.length).filter fun x => match x with | .int p => decide ((setI (reach rows p)).length < rows.length) | _ => false).map id) = ((rangeI 0 rows.length).filter fun p => decide ((setI (reach rows p)).length < rows.length)).map D.int := by
      rw [List.map_id, rangeD_I, List.filter_map]
      rfl
    rw [e, eqD_nil]
    refine congrArg (fun b => some (D.bl b)) ?_
    rw [Bool.eq_iff_iff, decide_eq_true_eq, List.filter_eq_nil_iff, List.all_eq_true]
    constructor
    · intro h p hp
      have h1 := h p hp
      rw [mem_rangeI] at hp
      have h3 := reach_ok M hp
      have h4 := nodup_bound h3.1 h3.2.1
      have h5 := setI_len (reach rows p)
      rw [decide_eq_true_eq] at h1 ⊢
      omega
    · intro h p hp
      have h1 := h p hp
      rw [decide_eq_true_eq] at h1 ⊢
      omega
  exact fnP_rt (L := [.va (rowsD rows), .un]) (sRet_v (eOp2_v (eFz_of c2) c3 c4))
theorem hangs_together_m : f_hangs_together [mD k rows] = .ok (.bl ((rangeI 0 rows.length).all fun p => decide ((setI (reach rows p)).length = rows.length))) := by
  have c1 : eCall 1 f_sure_machine (aCons (eVar 0) aNil) [.va (mD k rows)] = .ok (.v (mD k rows)) [.va (mD k rows)] := eCall1 rfl (sure_machine_m M)
  have c2 : eC (.int 1) [.va (mD k rows)] = .ok (.v (.int 1)) [.va (mD k rows)] := rfl
  exact fnP_rt (L := [.va (mD k rows)]) (sRet_v (eCall1 (eOp2_v c1 c2 (ix_m1 k rows)) (hangs_in_eq M)))
theorem all_of_m : f_all_of [mD k rows] = .ok (.tup (rangeD 0 rows.length)) := by
  have n10 := M.n10
  have c0 : eVar 0 [.va (mD k rows)] = .ok (.v (mD k rows)) [.va (mD k rows)] := rfl
  have c2 : eC (.int 1) [.va (mD k rows)] = .ok (.v (.int 1)) [.va (mD k rows)] := rfl
  exact fnP_rt (L := [.va (mD k rows)]) (sRet_v (eTupRg_of (rg1_of (eOpN_of (aOne (eOp2_v c0 c2 (ix_m1 k rows))) rfl (len_rows rows)) rfl) (rgOk0 (by omega) (by omega))))
theorem map_of_m {w : List Int} (W : Wd k w) : f_map_of [mD k rows, .lst (w.map D.int)] = .ok (wD ((rangeI 0 rows.length).map fun p => goI rows p w)) := by
  have n10 := M.n10
  have s1 : sSet 2 (eCall 1 f_sure_machine (aCons (eVar 0) aNil)) [.va (mD k rows), .va (.lst (w.map D.int)), .un, .un, .un] = .nx [.va (mD k rows), .va (.lst (w.map D.int)), .va (mD k rows), .un, .un] := sSet_v (i := 2) (s0 := .un) (eCall1 (x := mD k rows) rfl (sure_machine_m M)) rfl rfl
  have s2 : sSet 3 (eCall 2 f_sure_word (aCons (eVar 2) (aCons (eVar 1) aNil))) [.va (mD k rows), .va (.lst (w.map D.int)), .va (mD k rows), .un, .un] = .nx [.va (mD k rows), .va (.lst (w.map D.int)), .va (mD k rows), .va (wD w), .un] := sSet_v (i := 3) (s0 := .un) (eCall2 (x := mD k rows) (y := .lst (w.map D.int)) rfl rfl (sure_word_l W rows)) rfl rfl
  have c0 : eVar 2 [.va (mD k rows), .va (.lst (w.map D.int)), .va (mD k rows), .va (wD w), .un] = .ok (.v (mD k rows)) [.va (mD k rows), .va (.lst (w.map D.int)), .va (mD k rows), .va (wD w), .un] := rfl
  have c : compGo [4] (gN 4) tTrue (eCall 3 f_led_in (aCons (eVar 2) (aCons (eVar 4) (aCons (eVar 3) aNil)))) (rangeD 0 rows.length) [.va (mD k rows), .va (.lst (w.map D.int)), .va (mD k rows), .va (wD w), .un] = .ok ((rangeD 0 rows.length).map fun x => match x with | .int p => .int (goI rows p w) | d => d) [.va (mD k rows), .va (.lst (w.map D.int)), .va (mD k rows), .va (wD w), .un] := by
    refine compGo_mapT (h := fun x => match x with | .int p => .int (goI rows p w) | d => d) fun x hx => ?_
    obtain ⟨p, rfl, h0, h1⟩ := range_mem hx
    refine ⟨[.va (mD k rows), .va (.lst (w.map D.int)), .va (mD k rows), .va (wD w), .va (.int p)], .v (.int (goI rows p w)), rfl, ?_, rfl, rfl⟩
    exact eCall3 (x := mD k rows) (y := .int p) (z := wD w) rfl rfl rfl (led_in_eq M ⟨h0, h1⟩ W)
  have c2 := fComp_of (iSeq_tup (eCall1 c0 (all_of_m M))) (by rw [range_len]; omega) rfl c
  have c3 : ((rangeD 0 rows.length).map fun x => match x with | .int p => .int (goI rows p w) | d => d) = ((rangeI 0 rows.length).map fun p => goI rows p w).map D.int := by
    rw [rangeD_I, List.map_map, List.map_map]
    rfl
  rw [c3] at c2
  have c4 : m_map_of [.va (mD k rows), .va (.lst (w.map D.int)), .un, .un, .un] = .rt (wD ((rangeI 0 rows.length).map fun p => goI rows p w)) [.va (mD k rows), .va (.lst (w.map D.int)), .va (mD k rows), .va (wD w), .un] := by
    rw [m_map_of, sSeq_nx s1, sSeq_nx s2]
    exact sRet_v (eOpN_of (aOne (eFz_of c2)) rfl (tupD_lst _))
  exact fnP_rt c4
end
end L2.G04

/-! part P04n -/
set_option Elab.async false
set_option linter.all false
set_option maxRecDepth 100000
set_option maxHeartbeats 4000000
namespace L2.G04
open PySem L2.Z
/-! lots -/
def Asc : List Int → Prop := List.Pairwise (· < ·)
theorem zip_asc : ∀ {l : List Int}, Asc l → ∀ x ∈ zipD (l.map D.int) ((l.map D.int).drop 1), ∃ a b : Int, x = .tup [.int a, .int b] ∧ a < b
  | [], _, x, h => by unfold zipD at h; cases h
  | [a], _, x, h => by
    rw [List.map_singleton, List.drop_one, List.tail_cons] at h
    unfold zipD at h; cases h
  | a :: b :: l, A, x, h => by
    rw [List.map_cons, List.map_cons, List.drop_one, List.tail_cons] at h
    unfold zipD at h
    rcases List.mem_cons.mp h with rfl | h
    · exact ⟨a, b, rfl, (List.pairwise_cons.mp A).1 b (List.mem_cons_self ..)⟩
    · exact zip_asc (l := b :: l) (List.pairwise_cons.mp A).2 x (by rw [List.map_cons, List.drop_one, List.tail_cons]; exact h)
theorem cut1 {α : Type} (xs : List α) (h : xs.length ≤ 1000) : cutA xs (some 1) none = xs.drop 1 := by
  have e1 : HT.sIx xs.length 0 (some 1) = min 1 xs.length := by
    unfold HT.sIx
    simp
    try omega
  have e2 : HT.sIx xs.length xs.length none = xs.length := by
    unfold HT.sIx
    simp
  unfold cutA
  rw [e1, e2]
  cases xs with
  | nil => rfl
  | cons x xs =>
    rw [List.length_cons, Nat.min_eq_left (by omega), List.drop_one, List.tail_cons]
    exact List.take_of_length_le (by omega)
theorem ascends_eq {l : List Int} (A : Asc l) (h : l.length ≤ 100) : f_ascends [.tup (l.map D.int)] = .ok (.bl true) := by
  have c : compGo [1, 2] (gTp (gsCons (gN 1) (gsCons (gN 2) gsNil))) tTrue (eOp2 ltD (eVar 1) (eVar 2)) (zipD (l.map D.int) ((l.map D.int).drop 1)) [.va (.tup (l.map D.int)), .un, .un] = .ok ((zipD (l.map D.int) ((l.map D.int).drop 1)).map fun _ => D.bl true) [.va (.tup (l.map D.int)), .un, .un] := by
    refine compGo_mapT (h := fun _ => .bl true) fun x hx => ?_
    obtain ⟨a, b, rfl, hab⟩ := zip_asc A x hx
    refine ⟨[.va (.tup (l.map D.int)), .va (.int a), .va (.int b)], .v (.bl true), rfl, ?_, rfl, rfl⟩
    exact eOp2_v (x := .int a) (y := .int b) rfl rfl (by rw [ltD_ii, decide_eq_true hab])
  have s : iZip2 (aCons (eVar 0) (aCons (eSl slD (eVar 0) (oSo (eC (.int 1))) oNo) aNil)) [.va (.tup (l.map D.int)), .un, .un] = .ok (zipD (l.map D.int) ((l.map D.int).drop 1)) [.va (.tup (l.map D.int)), .un, .un] := by
    rw [← cut1 (l.map D.int) (by rw [List.length_map]; omega)]
    rfl
  have hl := zip_len (l.map D.int) ((l.map D.int).drop 1)
  rw [List.length_map] at hl
  exact fnP_rt (L := [.va (.tup (l.map D.int)), .un, .un]) (sRet_v (eOpN_of (aOne (eFz_of (fComp_of s (by omega) rfl c))) rfl (allD_true _)))
structure Lot (n : Int) (l : List Int) : Prop where
  asc : Asc l
  ne : l ≠ []
  ent : ∀ v ∈ l, 0 ≤ v ∧ v < n
  len : l.length ≤ 100
theorem neD_tnil {x : D} {xs : List D} (h : plL 63 (x :: xs) = true) : neD (.tup (x :: xs)) (.tup []) = some (.bl true) := by
  rw [neD_pl (pl_tup 63 _ h) (pl_tup 63 _ (plL_nil 63))]
  have : eqv (.tup (x :: xs)) (.tup []) = false := by unfold eqv; unfold eqvL; rfl
  rw [this]; rfl
theorem tpl_l (w : List Int) : tpl (.lst (w.map D.int)) = wD w := by unfold tpl; rw [tpl_ints]; rfl
section
variable {k : Int} {rows : List (List Int)} (M : Mach k rows)
include M
theorem is_lot_in_eq {l : List Int} (A : Lot rows.length l) : f_is_lot_in [mD k rows, wD l] = .ok (.bl true) := by
  have n10 := M.n10
  have e1 : allIn (inR 0 (rows.length - 1)) (wD l) = true := by
    unfold wD; rw [allIn_ints]
    exact decide_eq_true fun v hv => by have := A.ent v hv; omega
  have e2 : f_are_within [wD l, .int 0, .int (rows.length - 1)] = .ok (.bl true) := by
    rw [are_within_eq (n := 1) (wD l) 0 _ (gd_w (by have := A.len; omega) 0), e1]
  have e3 : neD (wD l) (.tup []) = some (.bl true) := by
    obtain ⟨x, xs, rfl⟩ : ∃ x xs, l = x :: xs := by
      cases l with
      | nil => exact absurd rfl A.ne
      | cons x xs => exact ⟨x, xs, rfl⟩
    exact neD_tnil (plL_ints 63 (x :: xs))
  have b0 : eVar 0 [.va (mD k rows), .va (wD l)] = .ok (.v (mD k rows)) [.va (mD k rows), .va (wD l)] := rfl
  have b1 : eC (.int 1) [.va (mD k rows), .va (wD l)] = .ok (.v (.int 1)) [.va (mD k rows), .va (wD l)] := rfl
  have b2 : eVar 1 [.va (mD k rows), .va (wD l)] = .ok (.v (wD l)) [.va (mD k rows), .va (wD l)] := rfl
  have b3 : eC (.int 0) [.va (mD k rows), .va (wD l)] = .ok (.v (.int 0)) [.va (mD k rows), .va (wD l)] := rfl
  have b4 : eTup aNil [.va (mD k rows), .va (wD l)] = .ok (.v (.tup [])) [.va (mD k rows), .va (wD l)] := rfl
  exact fnP_rt (L := [.va (mD k rows), .va (wD l)]) (sRet_v (eAnd_v (eCall3 b2 b3 (eOp2_v (eOpN_of (aOne (eOp2_v b0 b1 (ix_m1 k rows))) rfl (len_rows rows)) b1 rfl) e2) (eAnd_v (eOp2_v b2 b4 e3) (eCall1 b2 (ascends_eq A.asc A.len)))))
theorem sure_lot_l {l : List Int} (A : Lot rows.length l) : f_sure_lot [mD k rows, .lst (l.map D.int)] = .ok (wD l) := by
  have e1 : f_tupled [.lst (l.map D.int)] = .ok (wD l) := by
    rw [tupled_eq _ (gd_lst.mpr ⟨by have := A.len; rw [List.length_map]; omega, gdL_ints 10 l⟩), tpl_l]
  have s1 : sSet 2 (eCall 1 f_tupled (aCons (eVar 1) aNil)) [.va (mD k rows), .va (.lst (l.map D.int)), .un] = .nx [.va (mD k rows), .va (.lst (l.map D.int)), .va (wD l)] := sSet_v (i := 2) (s0 := .un) (eCall1 (x := .lst (l.map D.int)) rfl e1) rfl rfl
  have c : eCall 2 f_is_lot_in (aCons (eVar 0) (aCons (eVar 2) aNil)) [.va (mD k rows), .va (.lst (l.map D.int)), .va (wD l)] = .ok (.v (.bl true)) [.va (mD k rows), .va (.lst (l.map D.int)), .va (wD l)] := eCall2 (x := mD k rows) (y := wD l) rfl rfl (is_lot_in_eq M A)
  refine fnP_rt (L := [.va (mD k rows), .va (.lst (l.map D.int)), .va (wD l)]) ?_
  show m_sure_lot [.va (mD k rows), .va (.lst (l.map D.int)), .un] = _
  rw [m_sure_lot, sSeq_nx s1, sIf_not c]
  rfl
theorem lot_in_eq {l w : List Int} (A : Lot rows.length l) (hl : l.length < 64) (W : Wd k w) : f_lot_in [mD k rows, wD l, wD w] = .ok (wD (setI (l.map fun p => goI rows p w))) := by
  have c : compGo [3] (gN 3) tTrue (eCall 3 f_led_in (aCons (eVar 0) (aCons (eVar 3) (aCons (eVar 2) aNil)))) (l.map D.int) [.va (mD k rows), .va (wD l), .va (wD w), .un] = .ok ((l.map D.int).map fun x => match x with | .int p => .int (goI rows p w) | d => d) [.va (mD k rows), .va (wD l), .va (wD w), .un] := by
    refine compGo_mapT (h := fun x => match x with | .int p => .int (goI rows p w) | d => d) fun x hx => ?_
    obtain ⟨p, hp, rfl⟩ := List.mem_map.mp hx
    refine ⟨[.va (mD k rows), .va (wD l), .va (wD w), .va (.int p)], .v (.int (goI rows p w)), rfl, ?_, rfl, rfl⟩
    exact eCall3 (x := mD k rows) (y := .int p) (z := wD w) rfl rfl rfl (led_in_eq M (A.ent p hp) W)
  have c3 : ((l.map D.int).map fun x => match x with | .int p => .int (goI rows p w) | d => d) = (l.map fun p => goI rows p w).map D.int := by
    rw [List.map_map, List.map_map]; rfl
  rw [c3] at c
  have s : iSeq (eVar 1) [.va (mD k rows), .va (wD l), .va (wD w), .un] = .ok (l.map D.int) [.va (mD k rows), .va (wD l), .va (wD w), .un] := rfl
  exact fnP_rt (L := [.va (mD k rows), .va (wD l), .va (wD w), .un]) (sRet_v (eCall1 (eFz_of (fComp_of s (by rw [List.length_map]; omega) rfl c)) (set_of_lst _ (by rw [List.length_map]; exact hl))))
theorem lot_led_m {d : D} (hg : gd 11 d = true) (ht : tpl d = mD k rows) {l w : List Int} (A : Lot rows.length l) (hl : l.length < 64) (W : Wd k w) : f_lot_led [d, .lst (l.map D.int), wD w] = .ok (wD (setI (l.map fun p => goI rows p w))) := by
  have s1 : sSet 3 (eCall 1 f_sure_machine (aCons (eVar 0) aNil)) [.va d, .va (.lst (l.map D.int)), .va (wD w), .un, .un] = .nx [.va d, .va (.lst (l.map D.int)), .va (wD w), .va (mD k rows), .un] := sSet_v (i := 3) (s0 := .un) (eCall1 (x := d) rfl (sure_machine_t M hg ht)) rfl rfl
  have s2 : sSet 4 (eCall 2 f_sure_lot (aCons (eVar 3) (aCons (eVar 1) aNil))) [.va d, .va (.lst (l.map D.int)), .va (wD w), .va (mD k rows), .un] = .nx [.va d, .va (.lst (l.map D.int)), .va (wD w), .va (mD k rows), .va (wD l)] := sSet_v (i := 4) (s0 := .un) (eCall2 (x := mD k rows) (y := .lst (l.map D.int)) rfl rfl (sure_lot_l M A)) rfl rfl
  have c1 : eCall 2 f_sure_word (aCons (eVar 3) (aCons (eVar 2) aNil)) [.va d, .va (.lst (l.map D.int)), .va (wD w), .va (mD k rows), .va (wD l)] = .ok (.v (wD w)) [.va d, .va (.lst (l.map D.int)), .va (wD w), .va (mD k rows), .va (wD l)] := eCall2 (x := mD k rows) (y := wD w) rfl rfl (sure_word_w W rows)
  have c2 : eCall 3 f_lot_in (aCons (eVar 3) (aCons (eVar 4) (aCons (eCall 2 f_sure_word (aCons (eVar 3) (aCons (eVar 2) aNil))) aNil))) [.va d, .va (.lst (l.map D.int)), .va (wD w), .va (mD k rows), .va (wD l)] = .ok (.v (wD (setI (l.map fun p => goI rows p w)))) [.va d, .va (.lst (l.map D.int)), .va (wD w), .va (mD k rows), .va (wD l)] := eCall3 (x := mD k rows) (y := wD l) rfl rfl c1 (lot_in_eq M A hl W)
  refine fnP_rt (L := [.va d, .va (.lst (l.map D.int)), .va (wD w), .va (mD k rows), .va (wD l)]) ?_
  show m_lot_led [.va d, .va (.lst (l.map D.int)), .va (wD w), .un, .un] = _
  rw [m_lot_led, sSeq_nx s1, sSeq_nx s2]
  exact sRet_v c2
end
/-- what is picked of a range, sorted, is a lot -/
theorem lot_of {n : Int} {found rest : List D} (h0 : 1 ≤ n) (h1 : n ≤ 60) (p : (found ++ rest).Perm (rangeD 0 n)) (ne : found ≠ []) : ∃ ns : List Int, found = ns.map D.int ∧ Lot n (sortI ns) ∧ (sortI ns).length < 64 := by
  obtain ⟨ns, rfl, hn⟩ := ints_all (p := fun i => 0 ≤ i ∧ i < n) (pick_mem p)
  have nd : (ns.map D.int ++ rest).Nodup := p.nodup_iff.mpr (by
    rw [rangeD_I]
    exact List.pairwise_map.mpr ((rangeI_nodup 0 n).imp fun h e => h (by cases e; rfl)))
  have nd2 : ns.Nodup := by
    have := (List.nodup_append.mp nd).1
    exact (List.pairwise_map.mp this).imp fun h e => h (by rw [e])
  have hl : ns.length ≤ n.toNat := by
    have := p.length_eq
    rw [List.length_append, List.length_map, range_len] at this
    omega
  have hs := (perm_sortI ns)
  refine ⟨ns, rfl, ⟨?_, ?_, fun v hv => hn v (hs.mem_iff.mp hv), by rw [hs.length_eq]; omega⟩, by rw [hs.length_eq]; omega⟩
  · rw [← setI_nodup nd2]; exact pw_setI ns
  · intro e
    have := hs.length_eq
    rw [e] at this
    exact ne (by rw [List.eq_nil_of_length_eq_zero this.symm]; rfl)
end L2.G04

/-! part P04o -/
set_option Elab.async false
set_option linter.all false
set_option maxRecDepth 100000
set_option maxHeartbeats 4000000
namespace L2.G04
open PySem L2.Z
/-! what is drawn from -/
theorem box_ok {cs : List Int} {j : Int} (h0 : 0 ≤ j) (h1 : j < cs.length) (h2 : cs.length ≤ 100) : ∃ t : List D, f_law_box [.lst (cs.map D.int), .int j] = .ok t ∧ Tin 0 t := by
  have hj : j.toNat < cs.length := by omega
  have hat : L2.atI (cs.map D.int) j = some (.int cs[j.toNat]) := atI_i h0 (by rw [List.getElem?_map, List.getElem?_eq_getElem hj]; rfl)
  generalize cs[j.toNat] = b at hat
  have hlt : (decide (j < ((cs.map D.int).length : Int))) = true := decide_eq_true (by rw [List.length_map]; exact h1)
  have p1 : powD (.int 10) (.int 18) = some (.int (10 ^ 18)) := rfl
  generalize hA : (if b < 0 then -b else b) = A
  have hA0 : 0 ≤ A := by rw [← hA]; split <;> omega
  generalize hB : decide ((10 : Int) ^ 18 ≤ A) = B
  have m1 : mulD (.int A) (.int (if B then 1 else 0)) = some (.int (A * (if B then 1 else 0))) := mulD_ii (.inr (by cases B <;> simp))
  have m2 : mulD (.int 39373) (.int j) = some (.int (39373 * j)) := mulD_ii (.inl (by decide))
  have m3 : modD (.int b) (.int 2305843009213693951) = some (.int (b.fmod 2305843009213693951)) := modD_ii (by decide)
  refine ⟨[.int (A * (if B then 1 else 0)), .int (b.fmod 2305843009213693951 + 39373 * j + 26303004), .int 0], ?_, _, _, _, rfl, ?_, by omega, by omega⟩
  · have s1 : sSet 2 (eIf (tBl (eOp2 ltD (eVar 1) (eOpN lenD (aCons (eVar 0) aNil)))) (eOp2 ixD (eVar 0) (eVar 1)) (eC (.int 0))) [.va (.lst (cs.map D.int)), .va (.int j), .un] = .nx [.va (.lst (cs.map D.int)), .va (.int j), .va (.int b)] := by
      refine sSet_v (i := 2) (s0 := .un) (L1 := [.va (.lst (cs.map D.int)), .va (.int j), .un]) ?_ rfl rfl
      have c : tBl (eOp2 ltD (eVar 1) (eOpN lenD (aCons (eVar 0) aNil))) [.va (.lst (cs.map D.int)), .va (.int j), .un] = .ok true [.va (.lst (cs.map D.int)), .va (.int j), .un] := by
        rw [← hlt]
        exact tBl_v (eOp2_v (x := .int j) (y := .int (cs.map D.int).length) rfl rfl rfl)
      unfold eIf
      rw [c]
      exact eOp2_v (x := .lst (cs.map D.int)) (y := .int j) rfl rfl hat
    have a1 : eOpN absD (aCons (eVar 2) aNil) [.va (.lst (cs.map D.int)), .va (.int j), .va (.int b)] = .ok (.v (.int A)) [.va (.lst (cs.map D.int)), .va (.int j), .va (.int b)] := eOpN_of (aOne rfl) rfl (by rw [absD_i, hA])
    have a2 : eOp2 powD (eC (.int 10)) (eC (.int 18)) [.va (.lst (cs.map D.int)), .va (.int j), .va (.int b)] = .ok (.v (.int (10 ^ 18))) [.va (.lst (cs.map D.int)), .va (.int j), .va (.int b)] := eOp2_v rfl rfl p1
    have a3 : eOpN intD (aCons (eOp2 (cmpD fun i j => decide (j ≤ i)) (eOpN absD (aCons (eVar 2) aNil)) (eOp2 powD (eC (.int 10)) (eC (.int 18)))) aNil) [.va (.lst (cs.map D.int)), .va (.int j), .va (.int b)] = .ok (.v (.int (if B then 1 else 0))) [.va (.lst (cs.map D.int)), .va (.int j), .va (.int b)] := eOpN_of (aOne (eOp2_v a1 a2 (by rw [cmpD_ii, hB]))) rfl (intD_b B)
    have a4 : eOp2 modD (eOpN intD (aCons (eVar 2) aNil)) (eC (.int 2305843009213693951)) [.va (.lst (cs.map D.int)), .va (.int j), .va (.int b)] = .ok (.v (.int (b.fmod 2305843009213693951))) [.va (.lst (cs.map D.int)), .va (.int j), .va (.int b)] := eOp2_v (x := .int b) rfl rfl m3
    have a5 : eOp2 addD (eOp2 addD (eOp2 modD (eOpN intD (aCons (eVar 2) aNil)) (eC (.int 2305843009213693951))) (eOp2 mulD (eC (.int 39373)) (eVar 1))) (eC (.int 26303004)) [.va (.lst (cs.map D.int)), .va (.int j), .va (.int b)] = .ok (.v (.int (b.fmod 2305843009213693951 + 39373 * j + 26303004))) [.va (.lst (cs.map D.int)), .va (.int j), .va (.int b)] := eOp2_v (eOp2_v a4 (eOp2_v (y := .int j) rfl rfl m2) rfl) rfl rfl
    have a6 : eC (.int 0) [.va (.lst (cs.map D.int)), .va (.int j), .va (.int b)] = .ok (.v (.int 0)) [.va (.lst (cs.map D.int)), .va (.int j), .va (.int b)] := rfl
    have f1 := fLst_of (aCons_of (eOp2_v a1 a3 m1) (aCons_of a5 (aOne a6))) (ds := [.int (A * (if B then 1 else 0)), .int (b.fmod 2305843009213693951 + 39373 * j + 26303004), .int 0]) rfl (show 3 ≤ 1000 by decide)
    show (match m_law_box [.va (.lst (cs.map D.int)), .va (.int j), .un] with | .rf xs _ => FR.ok xs | .ex x _ => _ | _ => _) = _
    rw [m_law_box, sSeq_nx s1]
    unfold sRetF
    rw [f1]
  · cases B
    · simp
    · simpa using hA0
theorem enum_mem : ∀ {xs : List D} {k : Nat} {x : D}, x ∈ enumD k xs → ∃ (i : Nat) (y : D), x = .tup [.int i, y] ∧ y ∈ xs ∧ i < k + xs.length
  | [], k, x, h => by unfold enumD at h; cases h
  | a :: xs, k, x, h => by
    unfold enumD at h
    rcases List.mem_cons.mp h with rfl | h
    · exact ⟨k, a, rfl, List.mem_cons_self .., by rw [List.length_cons]; omega⟩
    · obtain ⟨i, y, h1, h2, h3⟩ := enum_mem h
      exact ⟨i, y, h1, List.mem_cons_of_mem _ h2, by rw [List.length_cons]; omega⟩
theorem cells_loop (S : D) : ∀ (zs : List D) (cs : List Int) (s3 s4 s5 : SV), cs.length = 2 → (∀ z ∈ zs, ∃ (i : Nat) (b : Int), z = .tup [.int i, .int b] ∧ i < 1000) → isIo s3 = false → isIo s4 = false → isIo s5 = false →
    ∃ (cs' : List Int) (t3 t4 t5 : SV), forGo (gTp (gsCons (gN 3) (gsCons (gN 4) gsNil))) (sSeq (sSet 5 (eOp2 modD (eOpN intD (aCons (eVar 3) aNil)) (eVar 1))) (sStore 2 (eVar 5) (eOp2 addD (eOp2 ixD (eVar 2) (eVar 5)) (eOp2 mulD (eVar 4) (eOp2 addD (eVar 3) (eC (.int 2))))))) zs [.va S, .va (.int 2), .li (cs.map D.int), s3, s4, s5] = .nx [.va S, .va (.int 2), .li (cs'.map D.int), t3, t4, t5] ∧ cs'.length = 2
  | [], cs, s3, s4, s5, hc, _, _, _, _ => ⟨cs, s3, s4, s5, rfl, hc⟩
  | z :: zs, cs, s3, s4, s5, hc, hz, h3, h4, h5 => by
    obtain ⟨i, b, rfl, hi⟩ := hz z (List.mem_cons_self ..)
    have m0 := Int.fmod_nonneg_of_pos (i : Int) (show (0 : Int) < 2 by decide)
    have m1 := Int.fmod_lt_of_pos (i : Int) (show (0 : Int) < 2 by decide)
    have e1 : modD (.int i) (.int 2) = some (.int ((i : Int).fmod 2)) := modD_ii (by decide)
    generalize (i : Int).fmod 2 = m at m0 m1 e1
    have hm : m.toNat < cs.length := by omega
    have e2 : ixD (.lst (cs.map D.int)) (.int m) = some (.int cs[m.toNat]) := ixL m0 (by rw [List.getElem?_map, List.getElem?_eq_getElem hm]; rfl)
    have e3 : ixN (cs.map D.int).length m = some m.toNat := ixN_of m0 (by rw [List.length_map]; omega)
    have e4 : mulD (.int b) (.int ((i : Int) + 2)) = some (.int (b * ((i : Int) + 2))) := mulD_ii (.inr (by omega))
    generalize cs[m.toNat] = v at e2
    obtain ⟨cs', t3, t4, t5, k1, k2⟩ := cells_loop S zs (cs.set m.toNat (v + b * ((i : Int) + 2))) (.va (.int i)) (.va (.int b)) (.va (.int m)) (by rw [List.length_set]; exact hc) (fun y hy => hz y (List.mem_cons_of_mem _ hy)) rfl rfl rfl
    refine ⟨cs', t3, t4, t5, ?_, k2⟩
    have g : gTp (gsCons (gN 3) (gsCons (gN 4) gsNil)) (.tup [.int i, .int b]) [.va S, .va (.int 2), .li (cs.map D.int), s3, s4, s5] = some [.va S, .va (.int 2), .li (cs.map D.int), .va (.int i), .va (.int b), s5] := by
      simp only [h3, h4, eVar, eC, aNil, aCons, eTup, fLst, eOp1, eOp2, fOp2, eOpN, fOpN, tBl, tAnd2, tOr2, tNt, eAnd, eOr, eNot, eIf, eChain, eCall, fCall, RV.get, frz, frzL, getL, isB, isOwn_un, isOwn_va, isOwn_li, isOwn_di, isOwn_l2, isOwn_io, sRet, sSet, sSetF, putS, isIo_un, isIo_va, isIo_li, isIo_di, isIo_l2, isIo_io, sIf, sDrop, eFz, eSl, fSl, oNo, oSo, ixD_tup, ixD_lst, ixD_scr, slD_tup, slD_lst, slD_scr, slF_lst, slF_scr, tTrue, iSeq, gN, gTp, gsNil, gsCons, eVar2, lenD_tup, lenD_lst, lenD_scr, cmpD_ii, addD_ii, subD_ii, negD_i, ltD_ii, isNonD_n, notNonD_n, L2.Z.isNon, tupD_tup, tupD_lst, lstF_tup, lstF_lst, lstF_scr, flat_int, flat_bl, flat_non, flat_ints, intD_i, intD_b, absD_i, min2D_ii, sFor, fComp, wipeS, unw, noOwn_nil, noOwn_cons, List.map_cons, List.map_nil, List.length_cons, List.length_nil, List.replicate, List.cons_append, List.nil_append, List.getElem?_cons_zero, List.getElem?_cons_succ, List.set_cons_zero, List.set_cons_succ, List.any_cons, List.any_nil, List.all_cons, List.all_nil, Bool.or_false, Bool.false_or, Bool.and_true, Bool.true_and, Bool.not_true, Bool.not_false, Bool.false_and, Bool.and_false, Bool.false_eq_true, if_true, if_false, ite_true, ite_false, reduceIte, reduceCtorEq, decide_true, decide_false, Nat.reduceAdd, lineN_0, lineN_1, lineN_2, lineN_3, lineN_4, lineN_5, lineN_6, lineN_7, lineN_8, lineN_9, lineN_10, lineN_11, lineN_12, lineN_13, lineN_14, lineN_15, lineN_16, lineN_17, lineN_18, lineN_19, lineN_20, lineN_21, lineN_22, lineN_23, lineN_24]
    have s1 : sSet 5 (eOp2 modD (eOpN intD (aCons (eVar 3) aNil)) (eVar 1)) [.va S, .va (.int 2), .li (cs.map D.int), .va (.int i), .va (.int b), s5] = .nx [.va S, .va (.int 2), .li (cs.map D.int), .va (.int i), .va (.int b), .va (.int m)] := by
      have c : eOpN intD (aCons (eVar 3) aNil) [.va S, .va (.int 2), .li (cs.map D.int), .va (.int i), .va (.int b), s5] = .ok (.v (.int i)) [.va S, .va (.int 2), .li (cs.map D.int), .va (.int i), .va (.int b), s5] := eOpN_of (aOne rfl) rfl (intD_i i)
      exact sSet_v (i := 5) (s0 := s5) (eOp2_v (y := .int 2) c rfl e1) rfl h5
    have c1 : eOp2 ixD (eVar 2) (eVar 5) [.va S, .va (.int 2), .li (cs.map D.int), .va (.int i), .va (.int b), .va (.int m)] = .ok (.v (.int v)) [.va S, .va (.int 2), .li (cs.map D.int), .va (.int i), .va (.int b), .va (.int m)] := by
      show (match ixD (.lst (cs.map D.int)) (.int m) with | some d => R.ok (RV.v d) _ | none => R.no) = _
      rw [e2]
    have c2 : eOp2 mulD (eVar 4) (eOp2 addD (eVar 3) (eC (.int 2))) [.va S, .va (.int 2), .li (cs.map D.int), .va (.int i), .va (.int b), .va (.int m)] = .ok (.v (.int (b * ((i : Int) + 2)))) [.va S, .va (.int 2), .li (cs.map D.int), .va (.int i), .va (.int b), .va (.int m)] := eOp2_v (x := .int b) (y := .int ((i : Int) + 2)) rfl rfl e4
    have s2 : sStore 2 (eVar 5) (eOp2 addD (eOp2 ixD (eVar 2) (eVar 5)) (eOp2 mulD (eVar 4) (eOp2 addD (eVar 3) (eC (.int 2))))) [.va S, .va (.int 2), .li (cs.map D.int), .va (.int i), .va (.int b), .va (.int m)] = .nx [.va S, .va (.int 2), .li ((cs.set m.toNat (v + b * ((i : Int) + 2))).map D.int), .va (.int i), .va (.int b), .va (.int m)] := by
      unfold sStore
      rw [eOp2_v c1 c2 (addD_ii v _)]
      show (match ixN (cs.map D.int).length m with | some j => SR.nx _ | none => SR.no) = _
      rw [e3, List.map_set]
      rfl
    unfold forGo
    rw [g]; dsimp only
    rw [sSeq_nx s1, s2]
    exact k1
theorem cells_ok (ns : List Int) (h : ns.length ≤ 63) : ∃ cs : List Int, f_law_cells [.scr ns, .int 2] = .ok (.lst (cs.map D.int)) ∧ 1 ≤ cs.length ∧ cs.length ≤ 2 := by
  have u1 : cutA (ns.map D.int) none (some 2) = (ns.map D.int).take 2 := by
    unfold cutA
    rw [HT.sIx_none, show (some (2 : Int)) = some ((2 : Nat) : Int) from rfl, HT.sIx_nat, List.drop_zero]
    by_cases h2 : 2 ≤ (ns.map D.int).length
    · rw [Nat.min_eq_left h2]
    · rw [Nat.min_eq_right (by omega), Nat.sub_zero, List.take_length, List.take_of_length_le (by omega)]
  have u2 : ∀ x ∈ cutA (ns.map D.int) (some 2) (some 63), ∃ b : Int, x = .int b := by
    intro x hx
    unfold cutA at hx
    obtain ⟨b, _, rfl⟩ := List.mem_map.mp (List.mem_of_mem_drop (List.mem_of_mem_take hx))
    exact ⟨b, rfl⟩
  have u3 : (cutA (ns.map D.int) (some 2) (some 63)).length ≤ 63 := by
    unfold cutA
    rw [List.length_take, List.length_drop, List.length_map]; omega
  have u4 : ns.length ≤ 2 → cutA (ns.map D.int) (some 2) (some 63) = [] := by
    intro h2
    unfold cutA
    rw [show (some (2 : Int)) = some ((2 : Nat) : Int) from rfl, HT.sIx_nat, List.drop_of_length_le (by rw [List.length_map]; omega), List.take_nil]
  -- the first two
  obtain ⟨c0, e0, l0, l1, l2⟩ : ∃ c0 : List Int, sSetF 2 (fOr (fOpN lstF (aCons (eSl slD (eVar 0) oNo (oSo (eVar 1))) aNil)) (fLst (aCons (eC (.int 0)) aNil))) [.va (.scr ns), .va (.int 2), .un, .un, .un, .un] = .nx [.va (.scr ns), .va (.int 2), .li (c0.map D.int), .un, .un, .un] ∧ 1 ≤ c0.length ∧ c0.length ≤ 2 ∧ (2 < ns.length → c0.length = 2) := by
    have a1 : fOpN lstF (aCons (eSl slD (eVar 0) oNo (oSo (eVar 1))) aNil) [.va (.scr ns), .va (.int 2), .un, .un, .un, .un] = .ok ((ns.map D.int).take 2) [.va (.scr ns), .va (.int 2), .un, .un, .un, .un] := by
      rw [← u1]; rfl
    cases ns with
    | nil =>
      refine ⟨[0], ?_, by decide, by decide, by simp⟩
      unfold sSetF fOr
      rw [a1]
      rfl
    | cons n ns =>
      refine ⟨(n :: ns).take 2, ?_, by rw [List.length_take, List.length_cons]; omega, by rw [List.length_take]; omega, fun hl => by rw [List.length_take]; omega⟩
      unfold sSetF fOr
      rw [a1, List.map_take]
      rfl
  have e1 : iEnumL (aCons (eSl slD (eVar 0) (oSo (eVar 1)) (oSo (eC (.int 63)))) aNil) [.va (.scr ns), .va (.int 2), .li (c0.map D.int), .un, .un, .un] = .ok (enumD 0 (cutA (ns.map D.int) (some 2) (some 63))) [.va (.scr ns), .va (.int 2), .li (c0.map D.int), .un, .un, .un] := rfl
  obtain ⟨cs, t3, t4, t5, k1, k2, k3⟩ : ∃ (cs : List Int) (t3 t4 t5 : SV), forGo (gTp (gsCons (gN 3) (gsCons (gN 4) gsNil))) (sSeq (sSet 5 (eOp2 modD (eOpN intD (aCons (eVar 3) aNil)) (eVar 1))) (sStore 2 (eVar 5) (eOp2 addD (eOp2 ixD (eVar 2) (eVar 5)) (eOp2 mulD (eVar 4) (eOp2 addD (eVar 3) (eC (.int 2))))))) (enumD 0 (cutA (ns.map D.int) (some 2) (some 63))) [.va (.scr ns), .va (.int 2), .li (c0.map D.int), .un, .un, .un] = .nx [.va (.scr ns), .va (.int 2), .li (cs.map D.int), t3, t4, t5] ∧ 1 ≤ cs.length ∧ cs.length ≤ 2 := by
    by_cases h2 : ns.length ≤ 2
    · rw [u4 h2]
      exact ⟨c0, .un, .un, .un, rfl, l0, l1⟩
    · obtain ⟨cs, t3, t4, t5, k1, k2⟩ := cells_loop (.scr ns) (enumD 0 (cutA (ns.map D.int) (some 2) (some 63))) c0 .un .un .un (l2 (by omega)) (fun z hz => by
        obtain ⟨i, y, e, hy, hi⟩ := enum_mem hz
        obtain ⟨b, rfl⟩ := u2 y hy
        exact ⟨i, b, e, by omega⟩) rfl rfl rfl
      exact ⟨cs, t3, t4, t5, k1, by omega, by omega⟩
  refine ⟨cs, ?_, k2, k3⟩
  show (match m_law_cells [.va (.scr ns), .va (.int 2), .un, .un, .un, .un] with | .rt d _ => FR.ok d | .nx _ => _ | .ex x _ => _ | _ => _) = _
  rw [m_law_cells, sSeq_nx e0]
  have s2 : sFor (iEnumL (aCons (eSl slD (eVar 0) (oSo (eVar 1)) (oSo (eC (.int 63)))) aNil)) (gTp (gsCons (gN 3) (gsCons (gN 4) gsNil))) (sSeq (sSet 5 (eOp2 modD (eOpN intD (aCons (eVar 3) aNil)) (eVar 1))) (sStore 2 (eVar 5) (eOp2 addD (eOp2 ixD (eVar 2) (eVar 5)) (eOp2 mulD (eVar 4) (eOp2 addD (eVar 3) (eC (.int 2))))))) [.va (.scr ns), .va (.int 2), .li (c0.map D.int), .un, .un, .un] = .nx [.va (.scr ns), .va (.int 2), .li (cs.map D.int), t3, t4, t5] := by
    unfold sFor
    rw [e1]; exact k1
  rw [sSeq_nx s2]
  rfl
end L2.G04

/-! part P04p -/
set_option Elab.async false
set_option linter.all false
set_option maxRecDepth 100000
set_option maxHeartbeats 4000000
namespace L2.G04
open PySem L2.Z
/-! things that are none -/
def AllV (P : D → Prop) (m : Lo → R (List RV)) (L : Lo) (n : Nat) : Prop := ∃ ds : List D, m L = .ok (ds.map .v) L ∧ ds.length = n ∧ ∀ d ∈ ds, P d
theorem AllV.nil (P : D → Prop) (L : Lo) : AllV P aNil L 0 := ⟨[], rfl, rfl, by simp⟩
theorem AllV.cons {P : D → Prop} {e : Lo → R RV} {m : Lo → R (List RV)} {L : Lo} {n : Nat} (h : ∃ d, e L = .ok (.v d) L ∧ P d) (hm : AllV P m L n) : AllV P (aCons e m) L (n + 1) := by
  obtain ⟨d, h1, h2⟩ := h
  obtain ⟨ds, m1, m2, m3⟩ := hm
  refine ⟨d :: ds, aCons_of h1 m1, by rw [List.length_cons, m2], fun x hx => ?_⟩
  rcases List.mem_cons.mp hx with rfl | hx
  · exact h2
  · exact m3 x hx
theorem frz_v : ∀ (ds : List D) (L : Lo), frzL (ds.map .v) L = some (ds, L)
  | [], L => rfl
  | d :: ds, L => by
    rw [List.map_cons]
    unfold frzL
    rw [show frz (.v d) L = some (d, L) from rfl]
    dsimp only
    rw [frz_v ds L]
theorem AllV.lst {P : D → Prop} {m : Lo → R (List RV)} {L : Lo} {n : Nat} (h : AllV P m L n) (hn : n ≤ 1000) : ∃ ds : List D, eFz (fLst m) L = .ok (.v (.lst ds)) L ∧ ds.length = n ∧ ∀ d ∈ ds, P d := by
  obtain ⟨ds, m1, m2, m3⟩ := h
  exact ⟨ds, eFz_of (fLst_of m1 (frz_v ds L) (by omega)), m2, m3⟩
theorem isM_row {k : Int} {rs : List D} {r : D} (hr : r ∈ rs) (h : rowOk k rs.length r = false) : isM (.tup [.int k, .tup rs]) = false := by
  rw [isM_eq]
  have : rs.all (rowOk k rs.length) = false := List.all_eq_false.mpr ⟨r, hr, by rw [h]; decide⟩
  rw [this, Bool.and_false]
theorem gd_pair {n : Nat} {x y : D} (hx : gd n x = true) (hy : gd n y = true) : gd (n + 1) (.tup [x, y]) = true := by
  refine gd_tup.mpr ⟨by simp, gdL_iff.mpr fun z hz => ?_⟩
  rcases List.mem_cons.mp hz with rfl | hz
  · exact hx
  · rw [List.mem_singleton] at hz; subst hz; exact hy
theorem gd_rs {n : Nat} {rs : List D} (hl : rs.length ≤ 1000) (h : ∀ r ∈ rs, gd n r = true) : gd (n + 1) (.tup rs) = true := gd_tup.mpr ⟨hl, gdL_iff.mpr h⟩
theorem gd_rep {n : Nat} {x : D} {m : Nat} (hm : m ≤ 1000) (h : gd n x = true) : gd (n + 1) (.tup (List.replicate m x)) = true :=
  gd_rs (by rw [List.length_replicate]; exact hm) fun r hr => by rw [(List.mem_replicate.mp hr).2]; exact h
theorem cutm1 {α : Type} (xs : List α) (h : 1 ≤ xs.length) : cutA xs none (some (-1)) = xs.dropLast := by
  have e2 : HT.sIx xs.length xs.length (some (-1)) = xs.length - 1 := by
    show (if (-1 : Int) < 0 then (-1 + (xs.length : Int)).toNat else min (-1 : Int).toNat xs.length) = _
    rw [if_pos (by decide)]; omega
  unfold cutA
  rw [HT.sIx_none, e2, List.drop_zero, Nat.sub_zero, List.dropLast_eq_take]
theorem mulD_t1 (x : D) {k : Int} (h1 : 1 ≤ k) (h2 : k ≤ 1000) : mulD (.tup [x]) (.int k) = some (.tup (List.replicate k.toNat x)) := by
  rw [mulD_t h1 h2 (show [x].length ≤ 1000 from (by decide : 1 ≤ 1000)), repL_one]
theorem allIn_rep {p : D → Bool} {x : D} {m : Nat} (hm : 1 ≤ m) (h : p x = false) : allIn p (.tup (List.replicate m x)) = false := by
  show (List.replicate m x).all p = false
  exact List.all_eq_false.mpr ⟨x, List.mem_replicate.mpr ⟨by omega, rfl⟩, by rw [h]; decide⟩
section
variable {k : Int} {rows : List (List Int)} (M : Mach k rows)
include M
theorem gd_rowsG (n : Nat) : ∀ r ∈ rows.map rowD, gd (n + 1) r = true := fun r hr => by
  obtain ⟨w, hw, rfl⟩ := List.mem_map.mp hr
  have h1 := M.len w hw
  have h2 := M.k4
  exact gd_row n w (by omega)
theorem rl : (rows.map rowD).length = rows.length := List.length_map ..
/-- the last row made another one -/
theorem bad_last {r : D} (hg : gd 5 r = true) (hb : rowOk k rows.length r = false) : gd 11 (.tup [.int k, .tup ((rows.map rowD).dropLast ++ [r])]) = true ∧ isM (.tup [.int k, .tup ((rows.map rowD).dropLast ++ [r])]) = false := by
  have n1 := M.n1
  have n10 := M.n10
  have hl : ((rows.map rowD).dropLast ++ [r]).length = rows.length := by rw [List.length_append, List.length_dropLast, List.length_map, List.length_singleton]; omega
  constructor
  · refine gd_pair (gd_int _ _) (gd_rs (by rw [hl]; omega) fun x hx => ?_)
    rcases List.mem_append.mp hx with h | h
    · exact gd_rowsG M 8 x ((List.dropLast_sublist _).subset h)
    · rw [List.mem_singleton] at h; subst h; exact gd_mono 5 9 _ (by decide) hg
  · exact isM_row (r := r) (List.mem_append_right _ (List.mem_singleton.mpr rfl)) (by rw [hl]; exact hb)
theorem last_row : ∃ r : List Int, L2.atI (rows.map rowD) (-1) = some (rowD r) ∧ (r.length : Int) = k ∧ r.length ≤ 4 := by
  have n1 := M.n1
  have n10 := M.n10
  have h6 : rows.length - 1 < rows.length := by omega
  have h4 := M.k4
  have hl := M.len _ (List.getElem_mem h6)
  refine ⟨rows[rows.length - 1], ?_, hl, by omega⟩
  unfold L2.atI
  rw [rl M]
  have : ixN rows.length (-1) = some (rows.length - 1) := by
    unfold ixN; rw [if_neg (by decide), if_pos (by omega)]; congr 1; omega
  rw [this]
  show (rows.map rowD)[rows.length - 1]? = _
  rw [List.getElem?_map, List.getElem?_eq_getElem h6]; rfl
end
def RS (k : Int) (rows : List (List Int)) (t : List D) (s3 s4 s5 s6 s7 s10 s11 s12 s13 x14 x15 : SV) : Lo := [.io t, .va (mD k rows), .va (.int rows.length), s3, s4, s5, s6, s7, .va (.int k), .va (rowsD rows), s10, s11, s12, s13, x14, x15]
abbrev GM (d : D) : Prop := gd 11 d = true ∧ isM d = false
section
variable {k : Int} {rows : List (List Int)} (M : Mach k rows) (t : List D) (s3 s4 s5 s6 s7 s10 s11 s12 s13 x15 : SV)
include M
theorem bads_ok : ∃ ds : List D, eFz (fLst (aCons (eC .non) (aCons (eC (.int 5)) (aCons (eTup aNil) (aCons (eTup (aCons (eVar 8) aNil)) (aCons (eTup (aCons (eVar 8) (aCons (eTup aNil) aNil))) (aCons (eTup (aCons (eVar 8) (aCons (eFz (fOpN lstF (aCons (eVar 9) aNil))) aNil))) (aCons (eFz (fLst (aCons (eVar 8) (aCons (eVar 9) aNil)))) (aCons (eTup (aCons (eC (.int 0)) (aCons (eVar 9) aNil))) (aCons (eTup (aCons (eC (.int 5)) (aCons (eOpN tupD (aCons (eFz (fComp [14] (iSeq (eVar 9)) (gN 14) tTrue (eOp2 addD (eVar 14) (eOp2 mulD (eTup (aCons (eC (.int 0)) aNil)) (eOp2 subD (eC (.int 5)) (eVar 8)))))) aNil)) aNil))) (aCons (eTup (aCons (eOp2 addD (eVar 8) (eC (.int 1))) (aCons (eVar 9) aNil))) (aCons (eIf (tBl (eOp2 (cmpD fun i j => decide (j < i)) (eVar 8) (eC (.int 1)))) (eTup (aCons (eC (.bl true)) (aCons (eVar 9) aNil))) (eTup (aCons (eC (.str (Str.ofString "1"))) (aCons (eVar 9) aNil)))) (aCons (eTup (aCons (eVar 8) (aCons (eOp2 addD (eSl slD (eVar 9) oNo (oSo (eOp1 negD (eC (.int 1))))) (eTup (aCons (eOp2 mulD (eTup (aCons (eVar 2) aNil)) (eVar 8)) aNil))) aNil))) (aCons (eTup (aCons (eVar 8) (aCons (eOp2 addD (eSl slD (eVar 9) oNo (oSo (eOp1 negD (eC (.int 1))))) (eTup (aCons (eOp2 mulD (eTup (aCons (eOp1 negD (eC (.int 1))) aNil)) (eVar 8)) aNil))) aNil))) (aCons (eIf (tBl (eOp2 (cmpD fun i j => decide (j < i)) (eVar 8) (eC (.int 0)))) (eTup (aCons (eVar 8) (aCons (eOp2 addD (eSl slD (eVar 9) oNo (oSo (eOp1 negD (eC (.int 1))))) (eTup (aCons (eOp2 mulD (eTup (aCons (eC (.bl true)) aNil)) (eVar 8)) aNil))) aNil))) (eC .non)) (aCons (eTup (aCons (eVar 8) (aCons (eOp2 addD (eVar 9) (eOp2 mulD (eTup (aCons (eOp2 mulD (eTup (aCons (eC (.int 0)) aNil)) (eVar 8)) aNil)) (eOp2 subD (eC (.int 11)) (eVar 2)))) aNil))) (aCons (eTup (aCons (eVar 8) (aCons (eVar 9) (aCons (eC (.int 1)) aNil)))) (aCons (eTup (aCons (eVar 8) (aCons (eOp2 addD (eSl slD (eVar 9) oNo (oSo (eOp1 negD (eC (.int 1))))) (eTup (aCons (eOp2 addD (eOp2 ixD (eVar 9) (eOp1 negD (eC (.int 1)))) (eTup (aCons (eC (.int 0)) aNil))) aNil))) aNil))) (aCons (eTup (aCons (eVar 8) (aCons (eOpN tupD (aCons (eFz (fComp [14] (iSeq (eVar 9)) (gN 14) tTrue (eFz (fOpN lstF (aCons (eVar 14) aNil))))) aNil)) aNil))) aNil))))))))))))))))))) (RS k rows t s3 s4 s5 s6 s7 s10 s11 s12 s13 .un x15) = .ok (.v (.lst ds)) (RS k rows t s3 s4 s5 s6 s7 s10 s11 s12 s13 .un x15) ∧ ds.length = 18 ∧ ∀ d ∈ ds, GM d := by
  have n1 := M.n1
  have n10 := M.n10
  have k1 := M.k1
  have k4 := M.k4
  have gI : ∀ i : Int, gd 10 (.int i) = true := fun i => gd_int _ _
  have gR : gd 10 (rowsD rows) = true := gd_rs (by rw [List.length_map]; omega) (gd_rowsG M 8)
  have hlr : (rows.map rowD).length = rows.length := List.length_map ..
  obtain ⟨L, hL⟩ : ∃ L, L = RS k rows t s3 s4 s5 s6 s7 s10 s11 s12 s13 .un x15 := ⟨_, rfl⟩
  have v2 : eVar 2 L = .ok (.v (.int rows.length)) L := by rw [hL]; rfl
  have v8 : eVar 8 L = .ok (.v (.int k)) L := by rw [hL]; rfl
  have v9 : eVar 9 L = .ok (.v (rowsD rows)) L := by rw [hL]; rfl
  have vc : ∀ d, eC d L = .ok (.v d) L := fun d => rfl
  have vn : eOp1 negD (eC (.int 1)) L = .ok (.v (.int (-1))) L := eOp1_v (vc _) rfl
  have t1 : ∀ {e : Lo → R RV} {d : D}, e L = .ok (.v d) L → eTup (aCons e aNil) L = .ok (.v (.tup [d])) L := fun h => eTup_of (aOne h) rfl (show 1 ≤ 1000 by decide)
  have t2 : ∀ {e f : Lo → R RV} {d c : D}, e L = .ok (.v d) L → f L = .ok (.v c) L → eTup (aCons e (aCons f aNil)) L = .ok (.v (.tup [d, c])) L := fun h1 h2 => eTup_of (aCons_of h1 (aOne h2)) rfl (show 2 ≤ 1000 by decide)
  have t3 : ∀ {e f h : Lo → R RV} {d c b : D}, e L = .ok (.v d) L → f L = .ok (.v c) L → h L = .ok (.v b) L → eTup (aCons e (aCons f (aCons h aNil))) L = .ok (.v (.tup [d, c, b])) L := fun h1 h2 h3 => eTup_of (aCons_of h1 (aCons_of h2 (aOne h3))) rfl (show 3 ≤ 1000 by decide)
  have rp : ∀ {e : Lo → R RV} {d : D}, e L = .ok (.v d) L → eOp2 mulD (eTup (aCons e aNil)) (eVar 8) L = .ok (.v (.tup (List.replicate k.toNat d))) L := fun h => eOp2_v (t1 h) v8 (mulD_t1 _ k1 (by omega))
  have ct : eSl slD (eVar 9) oNo (oSo (eOp1 negD (eC (.int 1)))) L = .ok (.v (.tup (rows.map rowD).dropLast)) L := by
    have o1 : oSo (eOp1 negD (eC (.int 1))) L = .ok (some (-1)) L := by unfold oSo; rw [vn]; rfl
    unfold eSl
    rw [v9]; dsimp only
    rw [show oNo L = .ok none L from rfl]; dsimp only
    rw [o1]; dsimp only
    show (match slD (.tup (rows.map rowD)) none (some (-1)) with | some r => R.ok (RV.v r) L | none => R.no) = _
    rw [slD_tup, cutm1 _ (by rw [hlr]; omega)]
  have jn : ∀ {e : Lo → R RV} {r : D}, e L = .ok (.v r) L → eOp2 addD (eSl slD (eVar 9) oNo (oSo (eOp1 negD (eC (.int 1))))) (eTup (aCons e aNil)) L = .ok (.v (.tup ((rows.map rowD).dropLast ++ [r]))) L := fun h => eOp2_v ct (t1 h) (addD_tt (len_line (by rw [List.length_dropLast, hlr, List.length_singleton]; omega)))
  have kn : 1 ≤ k.toNat := by omega
  have kk : k.toNat ≤ 1000 := by omega
  have lp : ∀ x, lenIs k (.tup (List.replicate k.toNat x)) = true := fun x => by
    show decide (((List.replicate k.toNat x).length : Int) = k) = true
    rw [List.length_replicate]; exact decide_eq_true (by omega)
  rw [← hL]
  refine AllV.lst (n := 18) ?_ (by decide)
  refine .cons ⟨.non, rfl, gd_non _, rfl⟩ (.cons ⟨.int 5, rfl, gd_int _ _, rfl⟩ (.cons ⟨.tup [], rfl, gd_rs (by decide) (by simp), rfl⟩ (.cons ⟨_, t1 v8, gd_rs (show 1 ≤ 1000 by decide) (fun r hr => by rw [List.mem_singleton] at hr; subst hr; exact gI _), rfl⟩ ?_)))
  refine .cons ⟨_, t2 v8 (show eTup aNil L = .ok (.v (.tup [])) L from rfl), gd_pair (gI _) (gd_rs (by decide) (by simp)), by rw [isM_eq]; simp⟩ ?_
  have w9 : eFz (fOpN lstF (aCons (eVar 9) aNil)) L = .ok (.v (.lst (rows.map rowD))) L := eFz_of (fOpN_of (aOne v9) rfl rfl)
  refine .cons ⟨_, t2 v8 w9, gd_pair (gI _) (gd_lst.mpr ⟨by rw [hlr]; omega, gdL_iff.mpr (gd_rowsG M 8)⟩), rfl⟩ ?_
  refine .cons ⟨_, eFz_of (fLst_of (aCons_of v8 (aOne v9)) rfl (show 2 ≤ 1000 by decide)), gd_lst.mpr ⟨show 2 ≤ 1000 by decide, gdL_iff.mpr fun z hz => ?_⟩, rfl⟩ ?_
  · rcases List.mem_cons.mp hz with rfl | hz
    · exact gI _
    · rw [List.mem_singleton] at hz; subst hz; exact gR
  refine .cons ⟨_, t2 (vc (.int 0)) v9, gd_pair (gI _) gR, by unfold rowsD; rw [isM_eq]; simp⟩ ?_
  -- five letters
  have b9 : ∃ d, eOpN tupD (aCons (eFz (fComp [14] (iSeq (eVar 9)) (gN 14) tTrue (eOp2 addD (eVar 14) (eOp2 mulD (eTup (aCons (eC (.int 0)) aNil)) (eOp2 subD (eC (.int 5)) (eVar 8)))))) aNil) L = .ok (.v (.tup d)) L ∧ gd 10 (.tup d) = true := by
    have c := compGo_mapT (vs := [14]) (gm := gN 14) (me := eOp2 addD (eVar 14) (eOp2 mulD (eTup (aCons (eC (.int 0)) aNil)) (eOp2 subD (eC (.int 5)) (eVar 8)))) (L := L) (xs := rows.map rowD) (h := fun d => match d with | .tup xs => .tup (xs ++ List.replicate (5 - k).toNat (.int 0)) | d => d) (by
      intro x hx
      obtain ⟨r, hr, rfl⟩ := List.mem_map.mp hx
      have hr1 := M.len r hr
      refine ⟨RS k rows t s3 s4 s5 s6 s7 s10 s11 s12 s13 (.va (rowD r)) x15, .v (.tup (r.map D.int ++ List.replicate (5 - k).toNat (.int 0))), by rw [hL]; rfl, ?_, rfl, by rw [hL]; rfl⟩
      have a1 : eTup (aCons (eC (.int 0)) aNil) (RS k rows t s3 s4 s5 s6 s7 s10 s11 s12 s13 (.va (rowD r)) x15) = .ok (.v (.tup [.int 0])) (RS k rows t s3 s4 s5 s6 s7 s10 s11 s12 s13 (.va (rowD r)) x15) := rfl
      have a2 : eOp2 subD (eC (.int 5)) (eVar 8) (RS k rows t s3 s4 s5 s6 s7 s10 s11 s12 s13 (.va (rowD r)) x15) = .ok (.v (.int (5 - k))) (RS k rows t s3 s4 s5 s6 s7 s10 s11 s12 s13 (.va (rowD r)) x15) := rfl
      have a3 : eVar 14 (RS k rows t s3 s4 s5 s6 s7 s10 s11 s12 s13 (.va (rowD r)) x15) = .ok (.v (.tup (r.map D.int))) (RS k rows t s3 s4 s5 s6 s7 s10 s11 s12 s13 (.va (rowD r)) x15) := rfl
      have a4 : mulD (.tup [.int 0]) (.int (5 - k)) = some (.tup (List.replicate (5 - k).toNat (.int 0))) := mulD_t1 _ (by omega) (by omega)
      exact eOp2_v a3 (eOp2_v a1 a2 a4) (addD_tt (len_line (by rw [List.length_map, List.length_replicate]; omega))))
    refine ⟨_, eOpN_of (aOne (eFz_of (fComp_of (iSeq_tup v9) (by rw [hlr]; omega) (by rw [hL]; rfl) c))) rfl (tupD_lst _), gd_rs (by rw [List.length_map, hlr]; omega) fun x hx => ?_⟩
    obtain ⟨d, hd, rfl⟩ := List.mem_map.mp hx
    obtain ⟨r, hr, rfl⟩ := List.mem_map.mp hd
    have hr1 := M.len r hr
    refine gd_rs (n := 8) (by show (r.map D.int ++ List.replicate (5 - k).toNat (D.int 0)).length ≤ 1000; rw [List.length_append, List.length_map, List.length_replicate]; omega) fun y hy => ?_
    rcases List.mem_append.mp (show y ∈ r.map D.int ++ List.replicate (5 - k).toNat (D.int 0) from hy) with h | h
    · obtain ⟨i, _, rfl⟩ := List.mem_map.mp h; exact gd_int _ _
    · rw [(List.mem_replicate.mp h).2]; exact gd_int _ _
  obtain ⟨d9, b9, g9⟩ := b9
  refine .cons ⟨_, t2 (vc (.int 5)) b9, gd_pair (gI _) g9, by rw [isM_eq]; simp⟩ ?_
  -- a letter too many
  have b10 : eOp2 addD (eVar 8) (eC (.int 1)) L = .ok (.v (.int (k + 1))) L := eOp2_v v8 (vc _) rfl
  refine .cons ⟨_, t2 b10 v9, gd_pair (gI _) gR, ?_⟩ ?_
  · obtain ⟨r, hr⟩ : ∃ r, r ∈ rows := ⟨rows[0], List.getElem_mem (by omega)⟩
    refine isM_row (r := rowD r) (List.mem_map.mpr ⟨r, hr, rfl⟩) ?_
    have : lenIs (k + 1) (rowD r) = false := by
      show decide (((r.map D.int).length : Int) = k + 1) = false
      have := M.len r hr
      rw [List.length_map]; exact decide_eq_false (by omega)
    unfold rowOk; rw [this]; rfl
  refine .cons ?_ ?_
  · by_cases h : 1 < k
    · have c : tBl (eOp2 (cmpD fun i j => decide (j < i)) (eVar 8) (eC (.int 1))) L = .ok true L := by rw [← decide_eq_true h]; exact tBl_v (eOp2_v v8 (vc _) rfl)
      refine ⟨.tup [.bl true, rowsD rows], ?_, gd_pair (gd_bl _ _) gR, rfl⟩
      unfold eIf; rw [c]; exact t2 (vc _) v9
    · have c : tBl (eOp2 (cmpD fun i j => decide (j < i)) (eVar 8) (eC (.int 1))) L = .ok false L := by rw [← decide_eq_false h]; exact tBl_v (eOp2_v v8 (vc _) rfl)
      refine ⟨.tup [.str (Str.ofString "1"), rowsD rows], ?_, gd_pair (gd_str _ _ (by decide +kernel)) gR, rfl⟩
      unfold eIf; rw [c]; exact t2 (vc _) v9
  have bl := fun (x : D) (hg : gd 4 x = true) (hx : inR 0 ((rows.length : Int) - 1) x = false) => bad_last M (r := .tup (List.replicate k.toNat x)) (gd_rep kk hg) (by unfold rowOk; rw [lp x, allIn_rep kn hx]; rfl)
  refine .cons ⟨_, t2 v8 (jn (rp v2)), bl _ (gd_int _ _) (by show (decide (0 ≤ (rows.length : Int)) && decide ((rows.length : Int) ≤ (rows.length : Int) - 1)) = false; rw [decide_eq_false (show ¬ (rows.length : Int) ≤ (rows.length : Int) - 1 by omega)]; simp)⟩ ?_
  refine .cons ⟨_, t2 v8 (jn (rp vn)), bl _ (gd_int _ _) rfl⟩ ?_
  refine .cons ?_ ?_
  · have c : tBl (eOp2 (cmpD fun i j => decide (j < i)) (eVar 8) (eC (.int 0))) L = .ok true L := by rw [← decide_eq_true (show 0 < k by omega)]; exact tBl_v (eOp2_v v8 (vc _) rfl)
    refine ⟨_, ?_, bl (.bl true) (gd_bl _ _) rfl⟩
    unfold eIf; rw [c]; exact t2 v8 (jn (rp (vc _)))
  -- too many rows
  have b15 : eOp2 addD (eVar 9) (eOp2 mulD (eTup (aCons (eOp2 mulD (eTup (aCons (eC (.int 0)) aNil)) (eVar 8)) aNil)) (eOp2 subD (eC (.int 11)) (eVar 2))) L = .ok (.v (.tup (rows.map rowD ++ List.replicate (11 - (rows.length : Int)).toNat (.tup (List.replicate k.toNat (.int 0)))))) L := by
    have a1 : eOp2 subD (eC (.int 11)) (eVar 2) L = .ok (.v (.int (11 - (rows.length : Int)))) L := eOp2_v (vc _) v2 rfl
    have a2 : mulD (.tup [.tup (List.replicate k.toNat (.int 0))]) (.int (11 - (rows.length : Int))) = some (.tup (List.replicate (11 - (rows.length : Int)).toNat (.tup (List.replicate k.toNat (.int 0))))) := mulD_t1 _ (by omega) (by omega)
    exact eOp2_v v9 (eOp2_v (t1 (rp (vc _))) a1 a2) (addD_tt (len_line (by rw [hlr, List.length_replicate]; omega)))
  refine .cons ⟨_, t2 v8 b15, gd_pair (gI _) (gd_rs (by rw [List.length_append, hlr, List.length_replicate]; omega) fun x hx => ?_), ?_⟩ ?_
  · rcases List.mem_append.mp hx with h | h
    · exact gd_rowsG M 8 x h
    · rw [(List.mem_replicate.mp h).2]; exact gd_rep (n := 8) kk (gd_int _ _)
  · rw [isM_eq, show decide ((rows.map rowD ++ List.replicate (11 - (rows.length : Int)).toNat (D.tup (List.replicate k.toNat (.int 0)))).length ≤ 10) = false from decide_eq_false (by rw [List.length_append, hlr, List.length_replicate]; omega)]
    simp
  refine .cons ⟨_, t3 v8 v9 (vc (.int 1)), gd_rs (show 3 ≤ 1000 by decide) fun z hz => ?_, rfl⟩ ?_
  · rcases List.mem_cons.mp hz with rfl | hz
    · exact gI _
    · rcases List.mem_cons.mp hz with rfl | hz
      · exact gR
      · rw [List.mem_singleton] at hz; subst hz; exact gI _
  -- a row too long
  obtain ⟨r, r1, r2, r3⟩ := last_row M
  have b17 : eOp2 addD (eOp2 ixD (eVar 9) (eOp1 negD (eC (.int 1)))) (eTup (aCons (eC (.int 0)) aNil)) L = .ok (.v (.tup (r.map D.int ++ [.int 0]))) L := eOp2_v (eOp2_v v9 vn r1) (t1 (vc _)) (addD_tt (len_line (by rw [List.length_map, List.length_singleton]; omega)))
  refine .cons ⟨_, t2 v8 (jn b17), bad_last M (gd_rs (n := 4) (by rw [List.length_append, List.length_map, List.length_singleton]; omega) fun x hx => ?_) ?_⟩ ?_
  · rcases List.mem_append.mp hx with h | h
    · obtain ⟨i, _, rfl⟩ := List.mem_map.mp h; exact gd_int _ _
    · rw [List.mem_singleton] at h; subst h; exact gd_int _ _
  · have : lenIs k (.tup (r.map D.int ++ [.int 0])) = false := by
      show decide (((r.map D.int ++ [D.int 0]).length : Int) = k) = false
      rw [List.length_append, List.length_map, List.length_singleton]; exact decide_eq_false (by omega)
    unfold rowOk; rw [this]; rfl
  -- rows that are lists
  have b18 : eOpN tupD (aCons (eFz (fComp [14] (iSeq (eVar 9)) (gN 14) tTrue (eFz (fOpN lstF (aCons (eVar 14) aNil))))) aNil) L = .ok (.v (.tup (rows.map fun r => .lst (r.map D.int)))) L := by
    have c := compGo_mapT (vs := [14]) (gm := gN 14) (me := eFz (fOpN lstF (aCons (eVar 14) aNil))) (L := L) (xs := rows.map rowD) (h := fun d => match d with | .tup xs => .lst xs | d => d) (by
      intro x hx
      obtain ⟨r, hr, rfl⟩ := List.mem_map.mp hx
      exact ⟨RS k rows t s3 s4 s5 s6 s7 s10 s11 s12 s13 (.va (rowD r)) x15, .v (.lst (r.map D.int)), by rw [hL]; rfl, rfl, rfl, by rw [hL]; rfl⟩)
    rw [List.map_map] at c
    exact eOpN_of (aOne (eFz_of (fComp_of (iSeq_tup v9) (by rw [hlr]; omega) (by rw [hL]; rfl) c))) rfl (tupD_lst _)
  refine .cons ⟨_, t2 v8 b18, gd_pair (gI _) (gd_rs (by rw [List.length_map]; omega) fun x hx => ?_), ?_⟩ (.nil _ _)
  · obtain ⟨r, hr, rfl⟩ := List.mem_map.mp hx
    have := M.len r hr
    exact gd_lst.mpr ⟨by rw [List.length_map]; omega, gdL_ints 8 r⟩
  · obtain ⟨r, hr⟩ : ∃ r, r ∈ rows := ⟨rows[0], List.getElem_mem (by omega)⟩
    exact isM_row (r := .lst (r.map D.int)) (List.mem_map.mpr ⟨r, hr, rfl⟩) rfl
end
end L2.G04

/-! part P04q -/
set_option Elab.async false
set_option linter.all false
set_option maxRecDepth 100000
set_option maxHeartbeats 4000000
namespace L2.G04
open PySem L2.Z
theorem goI_app (rows : List (List Int)) (p : Int) (a b : List Int) : goI rows p (a ++ b) = goI rows (goI rows p a) b := by unfold goI; rw [List.foldl_append]
theorem wD_app (a b : List Int) (h : a.length + b.length ≤ 1000) : addD (wD a) (wD b) = some (wD (a ++ b)) := by
  unfold wD
  rw [addD_tt (len_line (by rw [List.length_map, List.length_map]; exact h)), List.map_append]
theorem Wd.app {k : Int} {a b : List Int} (A : Wd k a) (B : Wd k b) (h : a.length + b.length ≤ 400) : Wd k (a ++ b) :=
  ⟨by rw [List.length_append]; exact h, fun v hv => by rcases List.mem_append.mp hv with z | z; exact A.ent v z; exact B.ent v z⟩
theorem cntL_ints : ∀ ns : List Int, cntL (ns.map D.int) = ns.length
  | [] => by unfold cntL; rfl
  | n :: ns => by
    rw [List.map_cons]; unfold cntL; rw [cntL_ints ns, List.length_cons]
    have : cnt (.int n) = 1 := by unfold cnt; rfl
    omega
theorem cntL_rows : ∀ {rows : List (List Int)}, (∀ r ∈ rows, r.length ≤ 4) → cntL (rows.map rowD) ≤ 5 * rows.length
  | [], _ => by rw [List.map_nil]; unfold cntL; simp
  | r :: rows, h => by
    have ih := cntL_rows fun x hx => h x (List.mem_cons_of_mem _ hx)
    have h1 := h r (List.mem_cons_self ..)
    rw [List.map_cons]; unfold cntL
    have : cnt (rowD r) = r.length + 1 := by unfold rowD cnt; rw [cntL_ints]
    rw [List.length_cons]; omega
theorem cnt_mach {k : Int} {rows : List (List Int)} (M : Mach k rows) : cnt (mD k rows) ≤ 60 := by
  have h := cntL_rows (rows := rows) fun r hr => by have := M.len r hr; have := M.k4; omega
  have n10 := M.n10
  have e1 : cnt (.int k) = 1 := by unfold cnt; rfl
  have e2 : cnt (rowsD rows) = cntL (rows.map rowD) + 1 := by unfold rowsD; unfold cnt; rfl
  unfold mD cnt cntL cntL cntL
  omega
theorem gd_lst2 {n : Nat} {ds : List D} (hl : ds.length ≤ 1000) (h : ∀ d ∈ ds, gd n d = true) : gd (n + 1) (.lst ds) = true := gd_lst.mpr ⟨hl, gdL_iff.mpr h⟩
section
variable {k : Int} {rows : List (List Int)} (M : Mach k rows)
include M
abbrev got1E : Lo → R RV := eFz (fLst (aCons (eCall 1 f_is_machine (aCons (eVar 1) aNil)) (aCons (eCall 2 f_is_word (aCons (eVar 1) (aCons (eVar 10) aNil))) (aCons (eCall 3 f_step (aCons (eVar 1) (aCons (eVar 12) (aCons (eVar 13) aNil)))) (aCons (eCall 3 f_led (aCons (eVar 1) (aCons (eVar 12) (aCons (eVar 10) aNil)))) (aCons (eCall 3 f_led (aCons (eVar 1) (aCons (eCall 3 f_led (aCons (eVar 1) (aCons (eVar 12) (aCons (eVar 10) aNil)))) (aCons (eVar 11) aNil)))) (aCons (eCall 3 f_led (aCons (eVar 1) (aCons (eVar 12) (aCons (eOp2 addD (eVar 10) (eVar 11)) aNil)))) aNil)))))))
abbrev due1E : Lo → R RV := eFz (fLst (aCons (eC (.bl true)) (aCons (eC (.bl true)) (aCons (eOp2 ixD (eOp2 ixD (eVar 9) (eVar 12)) (eVar 13)) (aCons (eOp2 ixD (eVar 5) (eC (.int 0))) (aCons (eOp2 ixD (eVar 5) (eC (.int 1))) (aCons (eOp2 ixD (eVar 5) (eC (.int 1))) aNil)))))))
abbrev ends1E : Lo → R RV := eFz (fLst (aCons (eCall 3 f_law_go (aCons (eVar 9) (aCons (eVar 12) (aCons (eVar 10) aNil)))) (aCons (eCall 3 f_law_go (aCons (eVar 9) (aCons (eVar 12) (aCons (eOp2 addD (eVar 10) (eVar 11)) aNil)))) aNil)))
theorem first_ok {t : List D} {s3 s6 s7 x14 x15 : SV} {one two : List Int} {p a : Int} (A : Wd k one) (B : Wd k two) (la : one.length ≤ 9) (lb : two.length ≤ 9) (hp : 0 ≤ p ∧ p < rows.length) (ha : 0 ≤ a ∧ a < k) (rest : Lo → SR) :
    ∃ g d : D, sSeq (sSet 4 got1E) (sSeq (sSet 5 ends1E) (sSeq (sIf (tNt (tBl (eCall 2 f_law_same (aCons (eVar 4) (aCons due1E aNil))))) (sRet (eC (.bl false))) .nx) rest)) (RS k rows t s3 .un .un s6 s7 (.va (wD one)) (.va (wD two)) (.va (.int p)) (.va (.int a)) x14 x15)
      = rest (RS k rows t s3 (.va g) (.va d) s6 s7 (.va (wD one)) (.va (wD two)) (.va (.int p)) (.va (.int a)) x14 x15) := by
  refine ⟨.lst [.bl true, .bl true, .int (at2 rows p a), .int (goI rows p one), .int (goI rows (goI rows p one) two), .int (goI rows p (one ++ two))], .lst [.int (goI rows p one), .int (goI rows p (one ++ two))], ?_⟩
  have hg := goI_ok M hp A.ent
  have W := A.app B (by omega)
  obtain ⟨L, hL⟩ : ∃ L, L = RS k rows t s3 .un .un s6 s7 (.va (wD one)) (.va (wD two)) (.va (.int p)) (.va (.int a)) x14 x15 := ⟨_, rfl⟩
  have v1 : eVar 1 L = .ok (.v (mD k rows)) L := by rw [hL]; rfl
  have v10 : eVar 10 L = .ok (.v (wD one)) L := by rw [hL]; rfl
  have v11 : eVar 11 L = .ok (.v (wD two)) L := by rw [hL]; rfl
  have v12 : eVar 12 L = .ok (.v (.int p)) L := by rw [hL]; rfl
  have v13 : eVar 13 L = .ok (.v (.int a)) L := by rw [hL]; rfl
  have vj : eOp2 addD (eVar 10) (eVar 11) L = .ok (.v (wD (one ++ two))) L := eOp2_v v10 v11 (wD_app _ _ (by omega))
  have w1 : f_is_word [mD k rows, wD one] = .ok (.bl true) := by rw [is_word_m M (wD one) (gd_w (by omega) 10), isW_wd A]
  have g1 : got1E L = .ok (.v (.lst [.bl true, .bl true, .int (at2 rows p a), .int (goI rows p one), .int (goI rows (goI rows p one) two), .int (goI rows p (one ++ two))])) L :=
    eFz_of (fLst_of (aCons_of (eCall1 v1 (is_machine_m M)) (aCons_of (eCall2 v1 v10 w1) (aCons_of (eCall3 v1 v12 v13 (step_m M hp ha)) (aCons_of (eCall3 v1 v12 v10 (led_m M hp A)) (aCons_of (eCall3 v1 (eCall3 v1 v12 v10 (led_m M hp A)) v11 (led_m M hg B)) (aOne (eCall3 v1 v12 vj (led_m M hp W)))))))) rfl (show 6 ≤ 1000 by decide))
  have s1 : sSet 4 got1E L = .nx (RS k rows t s3 (.va (.lst [.bl true, .bl true, .int (at2 rows p a), .int (goI rows p one), .int (goI rows (goI rows p one) two), .int (goI rows p (one ++ two))])) .un s6 s7 (.va (wD one)) (.va (wD two)) (.va (.int p)) (.va (.int a)) x14 x15) := by
    rw [sSet_v (i := 4) (s0 := .un) g1 (by rw [hL]; rfl) rfl, hL]; rfl
  rw [← hL, sSeq_nx s1]
  clear hL v1 v10 v11 v12 v13 vj g1 s1 L
  obtain ⟨L, hL⟩ : ∃ L, L = RS k rows t s3 (.va (.lst [.bl true, .bl true, .int (at2 rows p a), .int (goI rows p one), .int (goI rows (goI rows p one) two), .int (goI rows p (one ++ two))])) .un s6 s7 (.va (wD one)) (.va (wD two)) (.va (.int p)) (.va (.int a)) x14 x15 := ⟨_, rfl⟩
  have v9 : eVar 9 L = .ok (.v (rowsD rows)) L := by rw [hL]; rfl
  have v10 : eVar 10 L = .ok (.v (wD one)) L := by rw [hL]; rfl
  have v11 : eVar 11 L = .ok (.v (wD two)) L := by rw [hL]; rfl
  have v12 : eVar 12 L = .ok (.v (.int p)) L := by rw [hL]; rfl
  have vj : eOp2 addD (eVar 10) (eVar 11) L = .ok (.v (wD (one ++ two))) L := eOp2_v v10 v11 (wD_app _ _ (by omega))
  have g2 : ends1E L = .ok (.v (.lst [.int (goI rows p one), .int (goI rows p (one ++ two))])) L :=
    eFz_of (fLst_of (aCons_of (eCall3 v9 v12 v10 (law_go_eq M hp A.ent)) (aOne (eCall3 v9 v12 vj (law_go_eq M hp W.ent)))) rfl (show 2 ≤ 1000 by decide))
  have s2 : sSet 5 ends1E L = .nx (RS k rows t s3 (.va (.lst [.bl true, .bl true, .int (at2 rows p a), .int (goI rows p one), .int (goI rows (goI rows p one) two), .int (goI rows p (one ++ two))])) (.va (.lst [.int (goI rows p one), .int (goI rows p (one ++ two))])) s6 s7 (.va (wD one)) (.va (wD two)) (.va (.int p)) (.va (.int a)) x14 x15) := by
    rw [sSet_v (i := 5) (s0 := .un) g2 (by rw [hL]; rfl) rfl, hL]; rfl
  rw [← hL, sSeq_nx s2]
  clear hL v9 v10 v11 v12 vj g2 s2 L
  obtain ⟨L, hL⟩ : ∃ L, L = RS k rows t s3 (.va (.lst [.bl true, .bl true, .int (at2 rows p a), .int (goI rows p one), .int (goI rows (goI rows p one) two), .int (goI rows p (one ++ two))])) (.va (.lst [.int (goI rows p one), .int (goI rows p (one ++ two))])) s6 s7 (.va (wD one)) (.va (wD two)) (.va (.int p)) (.va (.int a)) x14 x15 := ⟨_, rfl⟩
  rw [← hL]
  have v4 : eVar 4 L = .ok (.v (.lst [.bl true, .bl true, .int (at2 rows p a), .int (goI rows p one), .int (goI rows (goI rows p one) two), .int (goI rows p (one ++ two))])) L := by rw [hL]; rfl
  have v5 : eVar 5 L = .ok (.v (.lst [.int (goI rows p one), .int (goI rows p (one ++ two))])) L := by rw [hL]; rfl
  have v9 : eVar 9 L = .ok (.v (rowsD rows)) L := by rw [hL]; rfl
  have v12 : eVar 12 L = .ok (.v (.int p)) L := by rw [hL]; rfl
  have v13 : eVar 13 L = .ok (.v (.int a)) L := by rw [hL]; rfl
  have vc : ∀ d, eC d L = .ok (.v d) L := fun d => rfl
  obtain ⟨h1, h2, h3⟩ := at2_ok M hp ha
  have g3 : due1E L = .ok (.v (.lst [.bl true, .bl true, .int (at2 rows p a), .int (goI rows p one), .int (goI rows p (one ++ two)), .int (goI rows p (one ++ two))])) L :=
    eFz_of (fLst_of (aCons_of (vc _) (aCons_of (vc _) (aCons_of (eOp2_v (eOp2_v v9 v12 (ix_rows h1)) v13 (ix_row h2)) (aCons_of (eOp2_v v5 (vc _) (atI_0 _ _)) (aCons_of (eOp2_v v5 (vc _) (atI_1 _ _ _)) (aOne (eOp2_v v5 (vc _) (atI_1 _ _ _)))))))) rfl (show 6 ≤ 1000 by decide))
  rw [← goI_app] at v4
  have gg : gd 11 (.lst [.bl true, .bl true, .int (at2 rows p a), .int (goI rows p one), .int (goI rows p (one ++ two)), .int (goI rows p (one ++ two))]) = true := gd_lst2 (show 6 ≤ 1000 by decide) fun d hd => by
    simp only [List.mem_cons, List.not_mem_nil, or_false] at hd
    rcases hd with rfl | rfl | rfl | rfl | rfl | rfl <;> first | exact gd_bl _ _ | exact gd_int _ _
  exact sIf_not (eCall2 v4 g3 (same_refl _ gg (by decide)))
abbrev got2E : Lo → R RV := eFz (fLst (aCons (eCall 3 f_lot_led (aCons (eCallI 2 0 f_law_mixed (aCons (eVar 1) aNil)) (aCons (eFz (fOpN lstF (aCons (eVar 3) aNil))) (aCons (eVar 10) aNil)))) (aCons (eCall 2 f_map_of (aCons (eVar 1) (aCons (eFz (fOpN lstF (aCons (eVar 11) aNil))) aNil))) (aCons (eCall 2 f_places_from (aCons (eVar 1) (aCons (eVar 12) aNil))) (aCons (eCall 1 f_hangs_together (aCons (eVar 1) aNil)) aNil)))))
abbrev due2E : Lo → R RV := eFz (fLst (aCons (eOpN tupD (aCons (eFz (fSortZ (zSet (aCons (eFz (fComp [15] (iSeq (eVar 3)) (gN 15) tTrue (eCall 3 f_law_go (aCons (eVar 9) (aCons (eVar 15) (aCons (eVar 10) aNil)))))) aNil)))) aNil)) (aCons (eOpN tupD (aCons (eFz (fComp [15] (iRange1 (aCons (eVar 2) aNil)) (gN 15) tTrue (eCall 3 f_law_go (aCons (eVar 9) (aCons (eVar 15) (aCons (eVar 11) aNil)))))) aNil)) (aCons (eOpN tupD (aCons (eCall 2 f_law_from (aCons (eVar 9) (aCons (eVar 12) aNil))) aNil)) (aCons (eCall 1 f_law_hangs (aCons (eVar 9) aNil)) aNil)))))
theorem second_ok {n : Nat} {t : List D} {s5 s6 s7 x14 : SV} {g : D} {lot one two : List Int} {p a : Int} (T : Tin n t) (hb : n + 60 ≤ 1000000000) (Z : Lot rows.length lot) (lz : lot.length < 64) (A : Wd k one) (B : Wd k two) (hp : 0 ≤ p ∧ p < rows.length) (rest : Lo → SR) :
    ∃ (g' : D) (t' : List D), sSeq (sSet 4 got2E) (sSeq (sIf (tNt (tBl (eCall 2 f_law_same (aCons (eVar 4) (aCons due2E aNil))))) (sRet (eC (.bl false))) .nx) rest) (RS k rows t (.va (wD lot)) (.va g) s5 s6 s7 (.va (wD one)) (.va (wD two)) (.va (.int p)) (.va (.int a)) x14 .un)
      = rest (RS k rows t' (.va (wD lot)) (.va g') s5 s6 s7 (.va (wD one)) (.va (wD two)) (.va (.int p)) (.va (.int a)) x14 .un) ∧ Tin (n + 60) t' := by
  have n10 := M.n10
  obtain ⟨d, t1, e1, hd, ht, T1⟩ := mixed_at_ok 11 (mD k rows) n t (gd_mach M 8) T (by have := cnt_mach M; omega)
  rw [tpl_mach] at ht
  obtain ⟨hv, hh⟩ : ∃ hv, hv = ((rangeI 0 rows.length).all fun p => decide ((setI (reach rows p)).length = rows.length)) := ⟨_, rfl⟩
  obtain ⟨rv, hr⟩ : ∃ rv, rv = setI (reach rows p) := ⟨_, rfl⟩
  have er1 : f_places_from [mD k rows, .int p] = .ok (wD rv) := by rw [hr]; exact places_from_m M hp
  have er2 : f_law_from [rowsD rows, .int p] = .ok (.lst (rv.map D.int)) := by rw [hr]; exact law_from_eq M hp
  have eh1 : f_hangs_together [mD k rows] = .ok (.bl hv) := by rw [hh]; exact hangs_together_m M
  have eh2 : f_law_hangs [rowsD rows] = .ok (.bl hv) := by rw [hh]; exact law_hangs_eq M
  have lr : rv.length ≤ 10 := by
    rw [hr]
    exact Nat.le_trans (setI_len _) (reach_ok M hp).2.2
  clear hr hh
  obtain ⟨L, hL⟩ : ∃ L, L = RS k rows t (.va (wD lot)) (.va g) s5 s6 s7 (.va (wD one)) (.va (wD two)) (.va (.int p)) (.va (.int a)) x14 .un := ⟨_, rfl⟩
  obtain ⟨K, hK⟩ : ∃ K, K = RS k rows t1 (.va (wD lot)) (.va g) s5 s6 s7 (.va (wD one)) (.va (wD two)) (.va (.int p)) (.va (.int a)) x14 .un := ⟨_, rfl⟩
  have m1 : eCallI 2 0 f_law_mixed (aCons (eVar 1) aNil) L = .ok (.v d) K := by
    rw [hL, hK]
    exact eCallI2 (L1 := RS k rows t (.va (wD lot)) (.va g) s5 s6 s7 (.va (wD one)) (.va (wD two)) (.va (.int p)) (.va (.int a)) x14 .un) (x := mD k rows) (t0 := t) (t := t) rfl rfl rfl e1
  have v1 : eVar 1 K = .ok (.v (mD k rows)) K := by rw [hK]; rfl
  have v3 : eVar 3 K = .ok (.v (wD lot)) K := by rw [hK]; rfl
  have v10 : eVar 10 K = .ok (.v (wD one)) K := by rw [hK]; rfl
  have v11 : eVar 11 K = .ok (.v (wD two)) K := by rw [hK]; rfl
  have v12 : eVar 12 K = .ok (.v (.int p)) K := by rw [hK]; rfl
  have w3 : eFz (fOpN lstF (aCons (eVar 3) aNil)) K = .ok (.v (.lst (lot.map D.int))) K := eFz_of (fOpN_of (aOne v3) rfl (lstF_tup _))
  have w11 : eFz (fOpN lstF (aCons (eVar 11) aNil)) K = .ok (.v (.lst (two.map D.int))) K := eFz_of (fOpN_of (aOne v11) rfl (lstF_tup _))
  have g1 : got2E L = .ok (.v (.lst [wD (setI (lot.map fun p => goI rows p one)), wD ((rangeI 0 rows.length).map fun p => goI rows p two), wD rv, .bl hv])) K :=
    eFz_of (fLst_of (aCons_of (eCall3 m1 w3 v10 (lot_led_m M hd ht Z lz A)) (aCons_of (eCall2 v1 w11 (map_of_m M B)) (aCons_of (eCall2 v1 v12 er1) (aOne (eCall1 v1 eh1))))) rfl (show 4 ≤ 1000 by decide))
  have s1 : sSet 4 got2E L = .nx (RS k rows t1 (.va (wD lot)) (.va (.lst [wD (setI (lot.map fun p => goI rows p one)), wD ((rangeI 0 rows.length).map fun p => goI rows p two), wD rv, .bl hv])) s5 s6 s7 (.va (wD one)) (.va (wD two)) (.va (.int p)) (.va (.int a)) x14 .un) := by
    rw [sSet_v (i := 4) (s0 := .va g) g1 (by rw [hK]; rfl) rfl, hK]; rfl
  refine ⟨.lst [wD (setI (lot.map fun p => goI rows p one)), wD ((rangeI 0 rows.length).map fun p => goI rows p two), wD rv, .bl hv], t1, ?_, T1.le (by have := cnt_mach M; omega)⟩
  rw [← hL, sSeq_nx s1]
  clear hL hK v1 v3 v10 v11 v12 w3 w11 g1 s1 m1 L K
  obtain ⟨L, hL⟩ : ∃ L, L = RS k rows t1 (.va (wD lot)) (.va (.lst [wD (setI (lot.map fun p => goI rows p one)), wD ((rangeI 0 rows.length).map fun p => goI rows p two), wD rv, .bl hv])) s5 s6 s7 (.va (wD one)) (.va (wD two)) (.va (.int p)) (.va (.int a)) x14 .un := ⟨_, rfl⟩
  rw [← hL]
  have v2 : eVar 2 L = .ok (.v (.int rows.length)) L := by rw [hL]; rfl
  have v3 : eVar 3 L = .ok (.v (.tup (lot.map D.int))) L := by rw [hL]; rfl
  have v4 : eVar 4 L = .ok (.v (.lst [wD (setI (lot.map fun p => goI rows p one)), wD ((rangeI 0 rows.length).map fun p => goI rows p two), wD rv, .bl hv])) L := by rw [hL]; rfl
  have v9 : eVar 9 L = .ok (.v (rowsD rows)) L := by rw [hL]; rfl
  have v12 : eVar 12 L = .ok (.v (.int p)) L := by rw [hL]; rfl
  have el : ∀ (j : Nat) (w : List Int), (j = 10 ∧ w = one ∨ j = 11 ∧ w = two) → ∀ q : Int, 0 ≤ q → q < rows.length → ∃ L2 rv, gN 15 (.int q) (wipeS L [15]) = some L2 ∧ eCall 3 f_law_go (aCons (eVar 9) (aCons (eVar 15) (aCons (eVar j) aNil))) L2 = .ok rv L2 ∧ frz rv L2 = some (.int (goI rows q w), L2) ∧ unw L L2 [15] = L := by
    intro j w hj q q0 q1
    refine ⟨RS k rows t1 (.va (wD lot)) (.va (.lst [wD (setI (lot.map fun p => goI rows p one)), wD ((rangeI 0 rows.length).map fun p => goI rows p two), wD rv, .bl hv])) s5 s6 s7 (.va (wD one)) (.va (wD two)) (.va (.int p)) (.va (.int a)) x14 (.va (.int q)), .v (.int (goI rows q w)), by rw [hL]; rfl, ?_, rfl, by rw [hL]; rfl⟩
    rcases hj with ⟨rfl, rfl⟩ | ⟨rfl, rfl⟩
    · exact eCall3 (x := rowsD rows) (y := .int q) (z := wD w) rfl rfl rfl (law_go_eq M ⟨q0, q1⟩ A.ent)
    · exact eCall3 (x := rowsD rows) (y := .int q) (z := wD w) rfl rfl rfl (law_go_eq M ⟨q0, q1⟩ B.ent)
  have c1 : compGo [15] (gN 15) tTrue (eCall 3 f_law_go (aCons (eVar 9) (aCons (eVar 15) (aCons (eVar 10) aNil)))) (lot.map D.int) L = .ok ((lot.map D.int).map fun x => match x with | .int q => .int (goI rows q one) | d => d) L := by
    refine compGo_mapT (h := fun x => match x with | .int q => .int (goI rows q one) | d => d) fun x hx => ?_
    obtain ⟨q, hq, rfl⟩ := List.mem_map.mp hx
    exact el 10 one (.inl ⟨rfl, rfl⟩) q (Z.ent q hq).1 (Z.ent q hq).2
  have c2 : compGo [15] (gN 15) tTrue (eCall 3 f_law_go (aCons (eVar 9) (aCons (eVar 15) (aCons (eVar 11) aNil)))) (rangeD 0 rows.length) L = .ok ((rangeD 0 rows.length).map fun x => match x with | .int q => .int (goI rows q two) | d => d) L := by
    refine compGo_mapT (h := fun x => match x with | .int q => .int (goI rows q two) | d => d) fun x hx => ?_
    obtain ⟨q, rfl, q0, q1⟩ := range_mem hx
    exact el 11 two (.inr ⟨rfl, rfl⟩) q q0 q1
  have d1 : ((lot.map D.int).map fun x => match x with | .int q => .int (goI rows q one) | d => d) = (lot.map fun p => goI rows p one).map D.int := by
    rw [List.map_map, List.map_map]; rfl
  have d2 : ((rangeD 0 rows.length).map fun x => match x with | .int q => .int (goI rows q two) | d => d) = ((rangeI 0 rows.length).map fun p => goI rows p two).map D.int := by
    rw [rangeD_I, List.map_map, List.map_map]; rfl
  rw [d1] at c1
  rw [d2] at c2
  have no15 : noOwnAt L [15] = true := by rw [hL]; rfl
  have x1 : eFz (fComp [15] (iSeq (eVar 3)) (gN 15) tTrue (eCall 3 f_law_go (aCons (eVar 9) (aCons (eVar 15) (aCons (eVar 10) aNil))))) L = .ok (.v (.lst ((lot.map fun p => goI rows p one).map D.int))) L := eFz_of (fComp_of (iSeq_tup v3) (by rw [List.length_map]; omega) no15 c1)
  have x2 : eOpN tupD (aCons (eFz (fSortZ (zSet (aCons (eFz (fComp [15] (iSeq (eVar 3)) (gN 15) tTrue (eCall 3 f_law_go (aCons (eVar 9) (aCons (eVar 15) (aCons (eVar 10) aNil)))))) aNil)))) aNil) L = .ok (.v (wD (setI (lot.map fun p => goI rows p one)))) L := by
    refine eOpN_of (aOne (eFz_of (ds := (setI (lot.map fun p => goI rows p one)).map D.int) ?_)) rfl (tupD_lst _)
    have z1 : zSet (aCons (eFz (fComp [15] (iSeq (eVar 3)) (gN 15) tTrue (eCall 3 f_law_go (aCons (eVar 9) (aCons (eVar 15) (aCons (eVar 10) aNil)))))) aNil) L = .ok (lot.map fun p => goI rows p one) L := by
      unfold zSet
      rw [aOne x1]
      show (match intsOf ((lot.map fun p => goI rows p one).map D.int) with | some ns => if ns.length ≤ 4000 then R.ok ns L else R.no | none => R.no) = _
      rw [intsOf_map]
      dsimp only
      rw [if_pos (by rw [List.length_map]; omega)]
    unfold fSortZ
    rw [z1]
    dsimp only
    rw [if_pos (by rw [List.length_map]; exact lz)]
  have x3 : eOpN tupD (aCons (eFz (fComp [15] (iRange1 (aCons (eVar 2) aNil)) (gN 15) tTrue (eCall 3 f_law_go (aCons (eVar 9) (aCons (eVar 15) (aCons (eVar 11) aNil)))))) aNil) L = .ok (.v (wD ((rangeI 0 rows.length).map fun p => goI rows p two))) L := eOpN_of (aOne (eFz_of (fComp_of (iR1_of v2 rfl (by omega)) (by rw [range_len]; omega) no15 c2))) rfl (tupD_lst _)
  have x4 : eOpN tupD (aCons (eCall 2 f_law_from (aCons (eVar 9) (aCons (eVar 12) aNil))) aNil) L = .ok (.v (wD rv)) L := eOpN_of (aOne (eCall2 v9 v12 er2)) rfl (tupD_lst _)
  have g3 : due2E L = .ok (.v (.lst [wD (setI (lot.map fun p => goI rows p one)), wD ((rangeI 0 rows.length).map fun p => goI rows p two), wD rv, .bl hv])) L :=
    eFz_of (fLst_of (aCons_of x2 (aCons_of x3 (aCons_of x4 (aOne (eCall1 v9 eh2))))) rfl (show 4 ≤ 1000 by decide))
  have ls := setI_len (lot.map fun p => goI rows p one)
  rw [List.length_map] at ls
  have gg : gd 11 (.lst [wD (setI (lot.map fun p => goI rows p one)), wD ((rangeI 0 rows.length).map fun p => goI rows p two), wD rv, .bl hv]) = true := gd_lst2 (show 4 ≤ 1000 by decide) fun d hd => by
    simp only [List.mem_cons, List.not_mem_nil, or_false] at hd
    rcases hd with rfl | rfl | rfl | rfl
    · exact gd_w (by omega) 9
    · exact gd_w (by rw [List.length_map, rangeI_len]; omega) 9
    · exact gd_w (by omega) 9
    · exact gd_bl _ _
  exact sIf_not (eCall2 v4 g3 (same_refl _ gg (by decide)))
end
end L2.G04

/-! part P04r -/
set_option Elab.async false
set_option linter.all false
set_option maxRecDepth 100000
set_option maxHeartbeats 4000000
namespace L2.G04
open PySem L2.Z
abbrev badsE : Lo → R RV := eFz (fLst (aCons (eC .non) (aCons (eC (.int 5)) (aCons (eTup aNil) (aCons (eTup (aCons (eVar 8) aNil)) (aCons (eTup (aCons (eVar 8) (aCons (eTup aNil) aNil))) (aCons (eTup (aCons (eVar 8) (aCons (eFz (fOpN lstF (aCons (eVar 9) aNil))) aNil))) (aCons (eFz (fLst (aCons (eVar 8) (aCons (eVar 9) aNil)))) (aCons (eTup (aCons (eC (.int 0)) (aCons (eVar 9) aNil))) (aCons (eTup (aCons (eC (.int 5)) (aCons (eOpN tupD (aCons (eFz (fComp [14] (iSeq (eVar 9)) (gN 14) tTrue (eOp2 addD (eVar 14) (eOp2 mulD (eTup (aCons (eC (.int 0)) aNil)) (eOp2 subD (eC (.int 5)) (eVar 8)))))) aNil)) aNil))) (aCons (eTup (aCons (eOp2 addD (eVar 8) (eC (.int 1))) (aCons (eVar 9) aNil))) (aCons (eIf (tBl (eOp2 (cmpD fun i j => decide (j < i)) (eVar 8) (eC (.int 1)))) (eTup (aCons (eC (.bl true)) (aCons (eVar 9) aNil))) (eTup (aCons (eC (.str (Str.ofString "1"))) (aCons (eVar 9) aNil)))) (aCons (eTup (aCons (eVar 8) (aCons (eOp2 addD (eSl slD (eVar 9) oNo (oSo (eOp1 negD (eC (.int 1))))) (eTup (aCons (eOp2 mulD (eTup (aCons (eVar 2) aNil)) (eVar 8)) aNil))) aNil))) (aCons (eTup (aCons (eVar 8) (aCons (eOp2 addD (eSl slD (eVar 9) oNo (oSo (eOp1 negD (eC (.int 1))))) (eTup (aCons (eOp2 mulD (eTup (aCons (eOp1 negD (eC (.int 1))) aNil)) (eVar 8)) aNil))) aNil))) (aCons (eIf (tBl (eOp2 (cmpD fun i j => decide (j < i)) (eVar 8) (eC (.int 0)))) (eTup (aCons (eVar 8) (aCons (eOp2 addD (eSl slD (eVar 9) oNo (oSo (eOp1 negD (eC (.int 1))))) (eTup (aCons (eOp2 mulD (eTup (aCons (eC (.bl true)) aNil)) (eVar 8)) aNil))) aNil))) (eC .non)) (aCons (eTup (aCons (eVar 8) (aCons (eOp2 addD (eVar 9) (eOp2 mulD (eTup (aCons (eOp2 mulD (eTup (aCons (eC (.int 0)) aNil)) (eVar 8)) aNil)) (eOp2 subD (eC (.int 11)) (eVar 2)))) aNil))) (aCons (eTup (aCons (eVar 8) (aCons (eVar 9) (aCons (eC (.int 1)) aNil)))) (aCons (eTup (aCons (eVar 8) (aCons (eOp2 addD (eSl slD (eVar 9) oNo (oSo (eOp1 negD (eC (.int 1))))) (eTup (aCons (eOp2 addD (eOp2 ixD (eVar 9) (eOp1 negD (eC (.int 1)))) (eTup (aCons (eC (.int 0)) aNil))) aNil))) aNil))) (aCons (eTup (aCons (eVar 8) (aCons (eOpN tupD (aCons (eFz (fComp [14] (iSeq (eVar 9)) (gN 14) tTrue (eFz (fOpN lstF (aCons (eVar 14) aNil))))) aNil)) aNil))) aNil)))))))))))))))))))
abbrev wordsE : Lo → R RV := eFz (fLst (aCons (eC .non) (aCons (eC (.int 5)) (aCons (eTup (aCons (eVar 8) aNil)) (aCons (eTup (aCons (eOp1 negD (eC (.int 1))) aNil)) (aCons (eFz (fLst (aCons (eC (.int 0)) aNil))) (aCons (eTup (aCons (eC (.str (Str.ofString "0"))) aNil)) (aCons (eTup (aCons (eC (.bl true)) aNil)) (aCons (eOp2 mulD (eTup (aCons (eC (.int 0)) aNil)) (eC (.int 401))) (aCons (eTup (aCons (eTup (aCons (eC (.int 0)) aNil)) aNil)) aNil))))))))))
abbrev lastE : Lo → SR := sRet (eCall 2 f_law_same (aCons (eOp2 addD (eFz (fComp [14] (iSeq (eVar 7)) (gN 14) tTrue (eCall 2 f_is_word (aCons (eVar 1) (aCons (eVar 14) aNil))))) (eFz (fLst (aCons (eCall 2 f_is_word (aCons (eVar 1) (aCons (eOp2 mulD (eTup (aCons (eC (.int 0)) aNil)) (eC (.int 400))) aNil))) (aCons (eCall 2 f_is_word (aCons (eVar 1) (aCons (eTup aNil) aNil))) aNil))))) (aCons (eOp2 addD (eOp2 mulD (eFz (fLst (aCons (eC (.bl false)) aNil))) (eOpN lenD (aCons (eVar 7) aNil))) (eFz (fLst (aCons (eC (.bl true)) (aCons (eC (.bl true)) aNil))))) aNil)))
theorem map_false (ds : List D) : (ds.map fun _ => D.bl false) = List.replicate ds.length (D.bl false) := List.map_const'
section
variable {k : Int} {rows : List (List Int)} (M : Mach k rows)
include M
theorem third_ok (t : List D) (s3 s4 s5 s7 s10 s11 s12 s13 x15 : SV) (rest : Lo → SR) :
    ∃ ds : List D, sSeq (sSet 6 badsE) (sSeq (sIf (tNt (tBl (eCall 2 f_law_same (aCons (eFz (fComp [14] (iSeq (eVar 6)) (gN 14) tTrue (eCall 1 f_is_machine (aCons (eVar 14) aNil)))) (aCons (eOp2 mulD (eFz (fLst (aCons (eC (.bl false)) aNil))) (eOpN lenD (aCons (eVar 6) aNil))) aNil))))) (sRet (eC (.bl false))) .nx) rest) (RS k rows t s3 s4 s5 .un s7 s10 s11 s12 s13 .un x15)
      = rest (RS k rows t s3 s4 s5 (.va (.lst ds)) s7 s10 s11 s12 s13 .un x15) := by
  obtain ⟨ds, e1, l1, h1⟩ := bads_ok M t s3 s4 s5 .un s7 s10 s11 s12 s13 x15
  refine ⟨ds, ?_⟩
  have s1 : sSet 6 badsE (RS k rows t s3 s4 s5 .un s7 s10 s11 s12 s13 .un x15) = .nx (RS k rows t s3 s4 s5 (.va (.lst ds)) s7 s10 s11 s12 s13 .un x15) := sSet_v (i := 6) (s0 := .un) e1 rfl rfl
  rw [sSeq_nx s1]
  obtain ⟨L, hL⟩ : ∃ L, L = RS k rows t s3 s4 s5 (.va (.lst ds)) s7 s10 s11 s12 s13 .un x15 := ⟨_, rfl⟩
  rw [← hL]
  have v6 : eVar 6 L = .ok (.v (.lst ds)) L := by rw [hL]; rfl
  have c : compGo [14] (gN 14) tTrue (eCall 1 f_is_machine (aCons (eVar 14) aNil)) ds L = .ok (ds.map fun _ => .bl false) L := by
    refine compGo_mapT (h := fun _ => .bl false) fun d hd => ?_
    obtain ⟨g, b⟩ := h1 d hd
    refine ⟨RS k rows t s3 s4 s5 (.va (.lst ds)) s7 s10 s11 s12 s13 (.va d) x15, .v (.bl false), by rw [hL]; rfl, ?_, rfl, by rw [hL]; rfl⟩
    have e : f_is_machine [d] = .ok (.bl false) := by
      simp only [f_is_machine, fnP, m_is_machine, is_machine_in_eq d g, b, eVar, eC, aNil, aCons, eTup, fLst, eOp1, eOp2, fOp2, eOpN, fOpN, tBl, tAnd2, tOr2, tNt, eAnd, eOr, eNot, eIf, eChain, eCall, fCall, RV.get, frz, frzL, getL, isB, isOwn_un, isOwn_va, isOwn_li, isOwn_di, isOwn_l2, isOwn_io, sRet, sSet, sSetF, putS, isIo_un, isIo_va, isIo_li, isIo_di, isIo_l2, isIo_io, sIf, sDrop, eFz, eSl, fSl, oNo, oSo, ixD_tup, ixD_lst, ixD_scr, slD_tup, slD_lst, slD_scr, slF_lst, slF_scr, tTrue, iSeq, gN, gTp, gsNil, gsCons, eVar2, lenD_tup, lenD_lst, lenD_scr, cmpD_ii, addD_ii, subD_ii, negD_i, ltD_ii, isNonD_n, notNonD_n, L2.Z.isNon, tupD_tup, tupD_lst, lstF_tup, lstF_lst, lstF_scr, flat_int, flat_bl, flat_non, flat_ints, intD_i, intD_b, absD_i, min2D_ii, sFor, fComp, wipeS, unw, noOwn_nil, noOwn_cons, List.map_cons, List.map_nil, List.length_cons, List.length_nil, List.replicate, List.cons_append, List.nil_append, List.getElem?_cons_zero, List.getElem?_cons_succ, List.set_cons_zero, List.set_cons_succ, List.any_cons, List.any_nil, List.all_cons, List.all_nil, Bool.or_false, Bool.false_or, Bool.and_true, Bool.true_and, Bool.not_true, Bool.not_false, Bool.false_and, Bool.and_false, Bool.false_eq_true, if_true, if_false, ite_true, ite_false, reduceIte, reduceCtorEq, decide_true, decide_false, Nat.reduceAdd, lineN_0, lineN_1, lineN_2, lineN_3, lineN_4, lineN_5, lineN_6, lineN_7, lineN_8, lineN_9, lineN_10, lineN_11, lineN_12, lineN_13, lineN_14, lineN_15, lineN_16, lineN_17, lineN_18, lineN_19, lineN_20, lineN_21, lineN_22, lineN_23, lineN_24]
    exact eCall1 (x := d) rfl e
  rw [map_false, l1] at c
  have c1 : eFz (fComp [14] (iSeq (eVar 6)) (gN 14) tTrue (eCall 1 f_is_machine (aCons (eVar 14) aNil))) L = .ok (.v (.lst (List.replicate 18 (.bl false)))) L := eFz_of (fComp_of (iSeq_lst v6) (by omega) (by rw [hL]; rfl) c)
  have c2 : eOp2 mulD (eFz (fLst (aCons (eC (.bl false)) aNil))) (eOpN lenD (aCons (eVar 6) aNil)) L = .ok (.v (.lst (List.replicate 18 (.bl false)))) L := by
    have a1 : eFz (fLst (aCons (eC (.bl false)) aNil)) L = .ok (.v (.lst [.bl false])) L := eFz_of (fLst_one rfl)
    have a2 : eOpN lenD (aCons (eVar 6) aNil) L = .ok (.v (.int 18)) L := eOpN_of (aOne v6) rfl (by rw [lenD_lst, l1]; rfl)
    have a3 : mulD (.lst [.bl false]) (.int 18) = some (.lst (List.replicate 18 (.bl false))) := by
      rw [mulD_l (by decide) (by decide) (show [D.bl false].length * (18 : Int).toNat ≤ 1000 from (by decide : 1 * 18 ≤ 1000)), repL_one]; rfl
    exact eOp2_v a1 a2 a3
  have gg : gd 11 (.lst (List.replicate 18 (.bl false))) = true := gd_lst2 (by rw [List.length_replicate]; decide) fun d hd => by
    rw [(List.mem_replicate.mp hd).2]; exact gd_bl _ _
  exact sIf_not (eCall2 c1 c2 (same_refl _ gg (by decide)))
theorem words_ok (t : List D) (s3 s4 s5 s6 s7 s10 s11 s12 s13 x15 : SV) : ∃ ds : List D, wordsE (RS k rows t s3 s4 s5 s6 s7 s10 s11 s12 s13 .un x15) = .ok (.v (.lst ds)) (RS k rows t s3 s4 s5 s6 s7 s10 s11 s12 s13 .un x15) ∧ ds.length = 9 ∧ ∀ d ∈ ds, gd 11 d = true ∧ isW k d = false := by
  have k1 := M.k1
  have k4 := M.k4
  obtain ⟨L, hL⟩ : ∃ L, L = RS k rows t s3 s4 s5 s6 s7 s10 s11 s12 s13 .un x15 := ⟨_, rfl⟩
  have v8 : eVar 8 L = .ok (.v (.int k)) L := by rw [hL]; rfl
  have vc : ∀ d, eC d L = .ok (.v d) L := fun d => rfl
  have vn : eOp1 negD (eC (.int 1)) L = .ok (.v (.int (-1))) L := eOp1_v (vc _) rfl
  have t1 : ∀ {e : Lo → R RV} {d : D}, e L = .ok (.v d) L → eTup (aCons e aNil) L = .ok (.v (.tup [d])) L := fun h => eTup_of (aOne h) rfl (show 1 ≤ 1000 by decide)
  have g1 : ∀ {d : D}, gd 10 d = true → gd 11 (.tup [d]) = true := fun h => gd_rs (show 1 ≤ 1000 by decide) fun r hr => by rw [List.mem_singleton] at hr; subst hr; exact h
  have b1 : ∀ {d : D}, inR 0 (k - 1) d = false → isW k (.tup [d]) = false := fun {d} h => by
    unfold isW
    have : allIn (inR 0 (k - 1)) (.tup [d]) = false := by
      show ([d].all _) = false
      rw [List.all_cons, h]; rfl
    rw [this]; rfl
  have m1 : mulD (.tup [.int 0]) (.int 401) = some (.tup (List.replicate 401 (.int 0))) := mulD_t1 _ (by decide) (by decide)
  rw [← hL]
  refine AllV.lst (n := 9) ?_ (by decide)
  refine .cons ⟨.non, rfl, gd_non _, rfl⟩ (.cons ⟨.int 5, rfl, gd_int _ _, rfl⟩ (.cons ⟨_, t1 v8, g1 (gd_int _ _), b1 ?_⟩ (.cons ⟨_, t1 vn, g1 (gd_int _ _), b1 rfl⟩ (.cons ⟨_, eFz_of (fLst_one (vc _)), ?_, rfl⟩ (.cons ⟨_, t1 (vc _), g1 (gd_str _ _ (by decide +kernel)), b1 rfl⟩ (.cons ⟨_, t1 (vc _), g1 (gd_bl _ _), b1 rfl⟩ (.cons ⟨_, eOp2_v (t1 (vc _)) (vc _) m1, gd_rep (by decide) (gd_int _ _), ?_⟩ (.cons ⟨_, t1 (t1 (vc _)), g1 (gd_rs (n := 9) (show 1 ≤ 1000 by decide) ?_), b1 rfl⟩ (.nil _ _)))))))))
  · show (decide (0 ≤ k) && decide (k ≤ k - 1)) = false
    rw [decide_eq_false (show ¬ k ≤ k - 1 by omega), Bool.and_false]
  · exact gd_lst2 (show 1 ≤ 1000 by decide) fun d hd => by rw [List.mem_singleton] at hd; subst hd; exact gd_int _ _
  · unfold isW
    have : lenLe 400 (.tup (List.replicate 401 (.int 0))) = false := by
      show decide (((List.replicate 401 (D.int 0)).length : Int) ≤ 400) = false
      rw [List.length_replicate]; decide
    rw [this, Bool.and_false]
  · intro r hr
    rw [List.mem_singleton] at hr; subst hr; exact gd_int _ _
theorem fourth_ok (t : List D) (s3 s4 s5 s6 s10 s11 s12 s13 x15 : SV) :
    ∃ L', sSeq (sSet 7 wordsE) lastE (RS k rows t s3 s4 s5 s6 .un s10 s11 s12 s13 .un x15) = .rt (.bl true) L' ∧ L'[0]? = some (.io t) := by
  have k1 := M.k1
  obtain ⟨ds, e1, l1, h1⟩ := words_ok M t s3 s4 s5 s6 .un s10 s11 s12 s13 x15
  have s1 : sSet 7 wordsE (RS k rows t s3 s4 s5 s6 .un s10 s11 s12 s13 .un x15) = .nx (RS k rows t s3 s4 s5 s6 (.va (.lst ds)) s10 s11 s12 s13 .un x15) := sSet_v (i := 7) (s0 := .un) e1 rfl rfl
  rw [sSeq_nx s1]
  obtain ⟨L, hL⟩ : ∃ L, L = RS k rows t s3 s4 s5 s6 (.va (.lst ds)) s10 s11 s12 s13 .un x15 := ⟨_, rfl⟩
  rw [← hL]
  have v1 : eVar 1 L = .ok (.v (mD k rows)) L := by rw [hL]; rfl
  have v7 : eVar 7 L = .ok (.v (.lst ds)) L := by rw [hL]; rfl
  have vc : ∀ d, eC d L = .ok (.v d) L := fun d => rfl
  have c : compGo [14] (gN 14) tTrue (eCall 2 f_is_word (aCons (eVar 1) (aCons (eVar 14) aNil))) ds L = .ok (ds.map fun _ => .bl false) L := by
    refine compGo_mapT (h := fun _ => .bl false) fun d hd => ?_
    obtain ⟨g, b⟩ := h1 d hd
    refine ⟨RS k rows t s3 s4 s5 s6 (.va (.lst ds)) s10 s11 s12 s13 (.va d) x15, .v (.bl false), by rw [hL]; rfl, ?_, rfl, by rw [hL]; rfl⟩
    have e : f_is_word [mD k rows, d] = .ok (.bl false) := by rw [is_word_m M d g, b]
    exact eCall2 (x := mD k rows) (y := d) rfl rfl e
  rw [map_false, l1] at c
  have c1 : eFz (fComp [14] (iSeq (eVar 7)) (gN 14) tTrue (eCall 2 f_is_word (aCons (eVar 1) (aCons (eVar 14) aNil)))) L = .ok (.v (.lst (List.replicate 9 (.bl false)))) L := eFz_of (fComp_of (iSeq_lst v7) (by omega) (by rw [hL]; rfl) c)
  have c2 : eOp2 mulD (eFz (fLst (aCons (eC (.bl false)) aNil))) (eOpN lenD (aCons (eVar 7) aNil)) L = .ok (.v (.lst (List.replicate 9 (.bl false)))) L := by
    have a1 : eFz (fLst (aCons (eC (.bl false)) aNil)) L = .ok (.v (.lst [.bl false])) L := eFz_of (fLst_one rfl)
    have a2 : eOpN lenD (aCons (eVar 7) aNil) L = .ok (.v (.int 9)) L := eOpN_of (aOne v7) rfl (by rw [lenD_lst, l1]; rfl)
    have a3 : mulD (.lst [.bl false]) (.int 9) = some (.lst (List.replicate 9 (.bl false))) := by
      rw [mulD_l (by decide) (by decide) (show [D.bl false].length * (9 : Int).toNat ≤ 1000 from (by decide : 1 * 9 ≤ 1000)), repL_one]; rfl
    exact eOp2_v a1 a2 a3
  have w400 : Wd k (List.replicate 400 0) := ⟨by rw [List.length_replicate]; decide, fun v hv => by rw [(List.mem_replicate.mp hv).2]; omega⟩
  have w0 : Wd k [] := ⟨by decide, by simp⟩
  have e400 : f_is_word [mD k rows, .tup (List.replicate 400 (.int 0))] = .ok (.bl true) := by
    have : D.tup (List.replicate 400 (.int 0)) = wD (List.replicate 400 0) := by unfold wD; rw [List.map_replicate]
    rw [this, is_word_m M _ (gd_w (by rw [List.length_replicate]; decide) 10), isW_wd w400]
  have e0 : f_is_word [mD k rows, .tup []] = .ok (.bl true) := by
    have : D.tup [] = wD [] := rfl
    rw [this, is_word_m M _ (gd_w (by decide) 10), isW_wd w0]
  have m1 : mulD (.tup [.int 0]) (.int 400) = some (.tup (List.replicate 400 (.int 0))) := mulD_t1 _ (by decide) (by decide)
  have t1 : eTup (aCons (eC (.int 0)) aNil) L = .ok (.v (.tup [.int 0])) L := eTup_of (aOne (vc _)) rfl (show 1 ≤ 1000 by decide)
  have t0 : eTup aNil L = .ok (.v (.tup [])) L := rfl
  have p1 : eFz (fLst (aCons (eCall 2 f_is_word (aCons (eVar 1) (aCons (eOp2 mulD (eTup (aCons (eC (.int 0)) aNil)) (eC (.int 400))) aNil))) (aCons (eCall 2 f_is_word (aCons (eVar 1) (aCons (eTup aNil) aNil))) aNil))) L = .ok (.v (.lst [.bl true, .bl true])) L := eFz_of (fLst_of (aCons_of (eCall2 v1 (eOp2_v t1 (vc _) m1) e400) (aOne (eCall2 v1 t0 e0))) rfl (show 2 ≤ 1000 by decide))
  have p2 : eFz (fLst (aCons (eC (.bl true)) (aCons (eC (.bl true)) aNil))) L = .ok (.v (.lst [.bl true, .bl true])) L := eFz_of (fLst_of (aCons_of (vc _) (aOne (vc _))) rfl (show 2 ≤ 1000 by decide))
  have hl : (List.replicate 9 (D.bl false)).length + [D.bl true, D.bl true].length ≤ lineN := len_line (by rw [List.length_replicate]; decide)
  have gg : gd 11 (.lst (List.replicate 9 (.bl false) ++ [.bl true, .bl true])) = true := gd_lst2 (by rw [List.length_append, List.length_replicate]; decide) fun d hd => by
    rcases List.mem_append.mp hd with h | h
    · rw [(List.mem_replicate.mp h).2]; exact gd_bl _ _
    · simp only [List.mem_cons, List.not_mem_nil, or_false] at h
      rcases h with rfl | rfl <;> exact gd_bl _ _
  refine ⟨L, sRet_v (eCall2 (eOp2_v c1 p1 (addD_ll hl)) (eOp2_v c2 p2 (addD_ll hl)) (same_refl _ gg (by decide))), by rw [hL]; rfl⟩
end
theorem sort_e {ns : List Int} : sortF [.lst (ns.map D.int)] = some ((sortI ns).map D.int) := by
  show (match intsOf (ns.map D.int) with | some ns => some ((sortI ns).map D.int) | none => none) = _
  rw [intsOf_map]
theorem right_ok {n : Nat} {t : List D} (T : Tin n t) (hb : n + 20000 ≤ 1000000000) : ∃ t' : List D, f_law_right t [] = .v (.bl true) t' ∧ Tin (n + 20000) t' := by
  obtain ⟨k, rows, t1, e1, M, _, _, T1⟩ := machine_ok (N := 10) (K := 4) (by omega) (by omega) T (by omega)
  have n1 := M.n1
  have n10 := M.n10
  have k1 := M.k1
  have k4 := M.k4
  have s1 : sSet 1 (eCallI 3 0 f_law_machine (aCons (eC (.int 10)) (aCons (eC (.int 4)) aNil))) [.io t, .un, .un, .un, .un, .un, .un, .un, .un, .un, .un, .un, .un, .un, .un, .un] = .nx [.io t1, .va (mD k rows), .un, .un, .un, .un, .un, .un, .un, .un, .un, .un, .un, .un, .un, .un] :=
    sSet_v (i := 1) (s0 := .un) (L1 := [.io t1, .un, .un, .un, .un, .un, .un, .un, .un, .un, .un, .un, .un, .un, .un, .un]) (eCallI3 (x := .int 10) (y := .int 4) (t0 := t) (t := t) (L1 := [.io t, .un, .un, .un, .un, .un, .un, .un, .un, .un, .un, .un, .un, .un, .un, .un]) (L2 := [.io t, .un, .un, .un, .un, .un, .un, .un, .un, .un, .un, .un, .un, .un, .un, .un]) rfl rfl rfl rfl e1) rfl rfl
  have s2 : sAsgT (gTp (gsCons (gN 8) (gsCons (gN 9) gsNil))) (eVar 1) [.io t1, .va (mD k rows), .un, .un, .un, .un, .un, .un, .un, .un, .un, .un, .un, .un, .un, .un] = .nx [.io t1, .va (mD k rows), .un, .un, .un, .un, .un, .un, .va (.int k), .va (rowsD rows), .un, .un, .un, .un, .un, .un] := rfl
  have s3 : sSet 2 (eOpN lenD (aCons (eVar 9) aNil)) [.io t1, .va (mD k rows), .un, .un, .un, .un, .un, .un, .va (.int k), .va (rowsD rows), .un, .un, .un, .un, .un, .un] = .nx (RS k rows t1 .un .un .un .un .un .un .un .un .un .un .un) :=
    sSet_v (i := 2) (s0 := .un) (L1 := [.io t1, .va (mD k rows), .un, .un, .un, .un, .un, .un, .va (.int k), .va (rowsD rows), .un, .un, .un, .un, .un, .un]) (eOpN_of (aOne (r := .v (rowsD rows)) rfl) rfl (len_rows rows)) rfl rfl
  -- two words
  obtain ⟨one, t2, e2, l2, h2, T2⟩ := word_ok (k := k) (l := 9) T1 (by omega) k1 (by omega) (by decide) (by decide)
  obtain ⟨two, t3, e3, l3, h3, T3⟩ := word_ok (k := k) (l := 9) T2 (by omega) k1 (by omega) (by decide) (by decide)
  have A : Wd k one := ⟨by omega, h2⟩
  have B : Wd k two := ⟨by omega, h3⟩
  have s4 : sPar [10, 11] (vCons (eCallI 3 0 f_law_word (aCons (eVar 8) (aCons (eC (.int 9)) aNil))) (vCons (eCallI 3 0 f_law_word (aCons (eVar 8) (aCons (eC (.int 9)) aNil))) vNil)) (RS k rows t1 .un .un .un .un .un .un .un .un .un .un .un) = .nx (RS k rows t3 .un .un .un .un .un (.va (wD one)) (.va (wD two)) .un .un .un .un) := by
    have c1 : eCallI 3 0 f_law_word (aCons (eVar 8) (aCons (eC (.int 9)) aNil)) (RS k rows t1 .un .un .un .un .un .un .un .un .un .un .un) = .ok (.v (wD one)) (RS k rows t2 .un .un .un .un .un .un .un .un .un .un .un) := eCallI3 (x := .int k) (y := .int 9) (t0 := t1) (t := t1) (L1 := RS k rows t1 .un .un .un .un .un .un .un .un .un .un .un) (L2 := RS k rows t1 .un .un .un .un .un .un .un .un .un .un .un) rfl rfl rfl rfl e2
    have c2 : eCallI 3 0 f_law_word (aCons (eVar 8) (aCons (eC (.int 9)) aNil)) (RS k rows t2 .un .un .un .un .un .un .un .un .un .un .un) = .ok (.v (wD two)) (RS k rows t3 .un .un .un .un .un .un .un .un .un .un .un) := eCallI3 (x := .int k) (y := .int 9) (t0 := t2) (t := t2) (L1 := RS k rows t2 .un .un .un .un .un .un .un .un .un .un .un) (L2 := RS k rows t2 .un .un .un .un .un .un .un .un .un .un .un) rfl rfl rfl rfl e3
    exact sPar_of (vCons_v c1 (vCons_v c2 rfl)) rfl
  -- a place and a letter
  obtain ⟨p, t4, e4, p0, p1, T4⟩ := take_e (A := eVar 2) (L := RS k rows t3 .un .un .un .un .un (.va (wD one)) (.va (wD two)) .un .un .un .un) (m := rows.length) rfl rfl T3 (by omega) (by omega) (by omega)
  obtain ⟨a, t5, e5, a0, a1, T5⟩ := take_e (A := eVar 8) (L := RS k rows t4 .un .un .un .un .un (.va (wD one)) (.va (wD two)) .un .un .un .un) (m := k) rfl rfl T4 (by omega) (by omega) (by omega)
  have s5 : sPar [12, 13] (vCons (eCallI 2 0 f_law_take (aCons (eVar 2) aNil)) (vCons (eCallI 2 0 f_law_take (aCons (eVar 8) aNil)) vNil)) (RS k rows t3 .un .un .un .un .un (.va (wD one)) (.va (wD two)) .un .un .un .un) = .nx (RS k rows t5 .un .un .un .un .un (.va (wD one)) (.va (wD two)) (.va (.int p)) (.va (.int a)) .un .un) := sPar_of (vCons_v e4 (vCons_v e5 rfl)) rfl
  -- a lot
  obtain ⟨c, t6, e6, c0, c1, T6⟩ := take_e (A := eVar 2) (L := RS k rows t5 .un .un .un .un .un (.va (wD one)) (.va (wD two)) (.va (.int p)) (.va (.int a)) .un .un) (m := rows.length) rfl rfl T5 (by omega) (by omega) (by omega)
  obtain ⟨found, rst, t7, e7, p7, l7, T7⟩ := pick_ok (gs := rangeD 0 rows.length) (c := 1 + c) T6 (by omega) (by rw [range_len]; omega) (by omega) (by rw [range_len]; omega)
  obtain ⟨ns, rfl, Z, lz⟩ := lot_of (by omega) (by omega) p7 (fun z => by subst z; simp at l7; omega)
  have s6 : sSet 3 (eOpN tupD (aCons (eFz (fOpN sortF (aCons (eCallI 3 0 f_law_pick (aCons (eFz (fRg (rg1 (eVar 2)))) (aCons (eOp2 addD (eC (.int 1)) (eCallI 2 0 f_law_take (aCons (eVar 2) aNil))) aNil))) aNil))) aNil)) (RS k rows t5 .un .un .un .un .un (.va (wD one)) (.va (wD two)) (.va (.int p)) (.va (.int a)) .un .un) = .nx (RS k rows t7 (.va (wD (sortI ns))) .un .un .un .un (.va (wD one)) (.va (wD two)) (.va (.int p)) (.va (.int a)) .un .un) := by
    have x1 : eFz (fRg (rg1 (eVar 2))) (RS k rows t5 .un .un .un .un .un (.va (wD one)) (.va (wD two)) (.va (.int p)) (.va (.int a)) .un .un) = .ok (.v (.lst (rangeD 0 rows.length))) (RS k rows t5 .un .un .un .un .un (.va (wD one)) (.va (wD two)) (.va (.int p)) (.va (.int a)) .un .un) := eFz_of (fRg_of (rg1_of (r := .v (.int rows.length)) rfl rfl) (rgOk0 (by omega) (by omega)))
    have x2 : eOp2 addD (eC (.int 1)) (eCallI 2 0 f_law_take (aCons (eVar 2) aNil)) (RS k rows t5 .un .un .un .un .un (.va (wD one)) (.va (wD two)) (.va (.int p)) (.va (.int a)) .un .un) = .ok (.v (.int (1 + c))) (RS k rows t6 .un .un .un .un .un (.va (wD one)) (.va (wD two)) (.va (.int p)) (.va (.int a)) .un .un) := eOp2_v rfl e6 rfl
    have x3 : eCallI 3 0 f_law_pick (aCons (eFz (fRg (rg1 (eVar 2)))) (aCons (eOp2 addD (eC (.int 1)) (eCallI 2 0 f_law_take (aCons (eVar 2) aNil))) aNil)) (RS k rows t5 .un .un .un .un .un (.va (wD one)) (.va (wD two)) (.va (.int p)) (.va (.int a)) .un .un) = .ok (.v (.lst (ns.map D.int))) (RS k rows t7 .un .un .un .un .un (.va (wD one)) (.va (wD two)) (.va (.int p)) (.va (.int a)) .un .un) := eCallI3f (t0 := t5) (t := t6) rfl x1 x2 rfl e7
    exact sSet_v (i := 3) (s0 := .un) (eOpN_of (aOne (eFz_of (fOpN_of (aOne x3) rfl sort_e))) rfl (tupD_lst _)) rfl rfl
  have T7' := T7
  obtain ⟨g, d, z1⟩ := first_ok M (t := t7) (s3 := .va (wD (sortI ns))) (s6 := .un) (s7 := .un) (x14 := .un) (x15 := .un) A B (by omega) (by omega) ⟨p0, p1⟩ ⟨a0, a1⟩
    (sSeq (sSet 4 got2E) (sSeq (sIf (tNt (tBl (eCall 2 f_law_same (aCons (eVar 4) (aCons due2E aNil))))) (sRet (eC (.bl false))) .nx) (sSeq (sSet 6 badsE) (sSeq (sIf (tNt (tBl (eCall 2 f_law_same (aCons (eFz (fComp [14] (iSeq (eVar 6)) (gN 14) tTrue (eCall 1 f_is_machine (aCons (eVar 14) aNil)))) (aCons (eOp2 mulD (eFz (fLst (aCons (eC (.bl false)) aNil))) (eOpN lenD (aCons (eVar 6) aNil))) aNil))))) (sRet (eC (.bl false))) .nx) (sSeq (sSet 7 wordsE) lastE)))))
  obtain ⟨g', t8, z2, T8⟩ := second_ok M (t := t7) (s5 := .va d) (s6 := .un) (s7 := .un) (x14 := .un) (g := g) (lot := sortI ns) (one := one) (two := two) (p := p) (a := a) T7 (by omega) Z lz A B ⟨p0, p1⟩
    (sSeq (sSet 6 badsE) (sSeq (sIf (tNt (tBl (eCall 2 f_law_same (aCons (eFz (fComp [14] (iSeq (eVar 6)) (gN 14) tTrue (eCall 1 f_is_machine (aCons (eVar 14) aNil)))) (aCons (eOp2 mulD (eFz (fLst (aCons (eC (.bl false)) aNil))) (eOpN lenD (aCons (eVar 6) aNil))) aNil))))) (sRet (eC (.bl false))) .nx) (sSeq (sSet 7 wordsE) lastE)))
  obtain ⟨ds, z3⟩ := third_ok M t8 (.va (wD (sortI ns))) (.va g') (.va d) .un (.va (wD one)) (.va (wD two)) (.va (.int p)) (.va (.int a)) .un (sSeq (sSet 7 wordsE) lastE)
  obtain ⟨L', z4, z5⟩ := fourth_ok M t8 (.va (wD (sortI ns))) (.va g') (.va d) (.va (.lst ds)) (.va (wD one)) (.va (wD two)) (.va (.int p)) (.va (.int a)) .un
  have z : m_law_right [.io t, .un, .un, .un, .un, .un, .un, .un, .un, .un, .un, .un, .un, .un, .un, .un] = .rt (.bl true) L' := by
    rw [m_law_right, sSeq_nx s1, sSeq_nx s2, sSeq_nx s3, sSeq_nx s4, sSeq_nx s5, sSeq_nx s6]
    exact z1.trans (z2.trans (z3.trans z4))
  refine ⟨t8, ?_, T8.le (by omega)⟩
  show (match m_law_right [.io t, .un, .un, .un, .un, .un, .un, .un, .un, .un, .un, .un, .un, .un, .un, .un] with | .rt d L => _ | .nx L => _ | .rf es L => _ | _ => _) = _
  rw [z]; dsimp only
  rw [z5]
/-! the law -/
theorem law_loop (S : D) (cs : List Int) (h2 : cs.length ≤ 100) : ∀ (xs : List D) (s2 s3 s4 : SV), (∀ x ∈ xs, ∃ j : Int, x = .int j ∧ 0 ≤ j ∧ j < cs.length) → isIo s2 = false → isIo s3 = false → isOwn s4 = false → isIo s4 = false →
    ∃ t2 t3 t4, forGo (gN 2) (sSeq (sSetF 3 (fCall 2 f_law_box (aCons (eVar 1) (aCons (eVar 2) aNil)))) (sIf (tNt (tBl (eOpN allD (aCons (eFz (fComp [4] (iRange1 (aCons (eC (.int 6)) aNil)) (gN 4) tTrue (eCallI 1 3 f_law_right aNil))) aNil)))) (sRet (eC (.bl false))) .nx)) xs [.va S, .va (.lst (cs.map D.int)), s2, s3, s4] = .nx [.va S, .va (.lst (cs.map D.int)), t2, t3, t4]
  | [], s2, s3, s4, _, _, _, _, _ => ⟨s2, s3, s4, rfl⟩
  | x :: xs, s2, s3, s4, hx, i2, i3, o4, i4 => by
    obtain ⟨j, rfl, j0, j1⟩ := hx x (List.mem_cons_self ..)
    obtain ⟨t, e1, T⟩ := box_ok j0 j1 h2
    have g : gN 2 (.int j) [.va S, .va (.lst (cs.map D.int)), s2, s3, s4] = some [.va S, .va (.lst (cs.map D.int)), .va (.int j), s3, s4] := by
      show (if isIo s2 = true then none else some _) = _
      rw [i2]; rfl
    have s1 : sSetF 3 (fCall 2 f_law_box (aCons (eVar 1) (aCons (eVar 2) aNil))) [.va S, .va (.lst (cs.map D.int)), .va (.int j), s3, s4] = .nx [.va S, .va (.lst (cs.map D.int)), .va (.int j), .li t, s4] := by
      have c : fCall 2 f_law_box (aCons (eVar 1) (aCons (eVar 2) aNil)) [.va S, .va (.lst (cs.map D.int)), .va (.int j), s3, s4] = .ok t [.va S, .va (.lst (cs.map D.int)), .va (.int j), s3, s4] := by
        show (match f_law_box [.lst (cs.map D.int), .int j] with | .ok xs => R.ok xs _ | .ex x => _ | .no => _) = _
        rw [e1]
      unfold sSetF
      rw [c]
      show (if isIo s3 = true then SR.no else _) = _
      rw [i3]; rfl
    obtain ⟨ds, t', k1, k2, k3, k4⟩ := compGo_dr (vs := [4]) (gm := gN 4) (me := eCallI 1 3 f_law_right aNil) Tin (fun t => [.va S, .va (.lst (cs.map D.int)), .va (.int j), .li t, s4]) (fun d => d = .bl true) 20000 1000000000 (rangeD 0 6) (by
      intro x hx n t hb T
      obtain ⟨t', e2, T2⟩ := right_ok T hb
      refine ⟨[.va S, .va (.lst (cs.map D.int)), .va (.int j), .li t, .va x], .v (.bl true), [.va S, .va (.lst (cs.map D.int)), .va (.int j), .li t', .va x], .bl true, _, t', rfl, ?_, rfl, rfl, rfl, T2⟩
      show (match f_law_right t [] with | .v d ys => R.ok (RV.v d) [.va S, .va (.lst (cs.map D.int)), .va (.int j), .li ys, .va x] | .f ds ys => _ | .no => _) = _
      rw [e2]) 0 t (by rw [range_len]; omega) T
    have hd : ds = (rangeD 0 6).map fun _ => D.bl true := by
      rw [List.map_const', ← k2]
      exact List.eq_replicate_of_mem k3
    have c1 : fComp [4] (iRange1 (aCons (eC (.int 6)) aNil)) (gN 4) tTrue (eCallI 1 3 f_law_right aNil) [.va S, .va (.lst (cs.map D.int)), .va (.int j), .li t, s4] = .ok ds [.va S, .va (.lst (cs.map D.int)), .va (.int j), .li t', s4] :=
      fComp_of (iR1_of (i := 6) (r := .v (.int 6)) rfl rfl (by omega)) (by rw [range_len]; omega) (noOwn_one (i := 3) (s := s4) rfl o4) k1
    have c2 : eOpN allD (aCons (eFz (fComp [4] (iRange1 (aCons (eC (.int 6)) aNil)) (gN 4) tTrue (eCallI 1 3 f_law_right aNil))) aNil) [.va S, .va (.lst (cs.map D.int)), .va (.int j), .li t, s4] = .ok (.v (.bl true)) [.va S, .va (.lst (cs.map D.int)), .va (.int j), .li t', s4] :=
      eOpN_of (aOne (eFz_of c1)) rfl (by rw [hd]; exact allD_true _)
    have s5 : sIf (tNt (tBl (eOpN allD (aCons (eFz (fComp [4] (iRange1 (aCons (eC (.int 6)) aNil)) (gN 4) tTrue (eCallI 1 3 f_law_right aNil))) aNil)))) (sRet (eC (.bl false))) .nx [.va S, .va (.lst (cs.map D.int)), .va (.int j), .li t, s4] = .nx [.va S, .va (.lst (cs.map D.int)), .va (.int j), .li t', s4] := by
      have e : ∀ (m : Lo → R RV) (L L1 : Lo), m L = .ok (.v (.bl true)) L1 → sIf (tNt (tBl m)) (sRet (eC (.bl false))) .nx L = .nx L1 := fun m L L1 h => by
        unfold sIf tNt; rw [tBl_v h]; rfl
      exact e _ _ _ c2
    obtain ⟨u2, u3, u4, k⟩ := law_loop S cs h2 xs (.va (.int j)) (.li t') s4 (fun y hy => hx y (List.mem_cons_of_mem _ hy)) rfl rfl o4 i4
    refine ⟨u2, u3, u4, ?_⟩
    unfold forGo
    rw [g]; dsimp only
    rw [sSeq_nx s1, s5]
    exact k
end L2.G04

/-! part P04s -/
set_option Elab.async false
set_option linter.all false
set_option maxRecDepth 100000
set_option maxHeartbeats 4000000
namespace L2.G04
open PySem L2.Z
theorem law_s1 (ns cs : List Int) (e1 : f_law_cells [.scr ns, .int 2] = .ok (.lst (cs.map D.int))) : sSet 1 (eCall 2 f_law_cells (aCons (eVar 0) (aCons (eC (.int 2)) aNil))) [.va (.scr ns), .un, .un, .un, .un] = .nx [.va (.scr ns), .va (.lst (cs.map D.int)), .un, .un, .un] := by
  have v0 : eVar 0 [.va (.scr ns), .un, .un, .un, .un] = .ok (.v (.scr ns)) [.va (.scr ns), .un, .un, .un, .un] := rfl
  have v2 : eC (.int 2) [.va (.scr ns), .un, .un, .un, .un] = .ok (.v (.int 2)) [.va (.scr ns), .un, .un, .un, .un] := rfl
  exact sSet_v (i := 1) (s0 := .un) (eCall2 v0 v2 e1) rfl rfl
theorem law_s2 (ns cs : List Int) (l2 : cs.length ≤ 2) (t2 t3 t4 : SV) (B : Lo → SR) (k : forGo (gN 2) B (rangeD 0 cs.length) [.va (.scr ns), .va (.lst (cs.map D.int)), .un, .un, .un] = .nx [.va (.scr ns), .va (.lst (cs.map D.int)), t2, t3, t4]) :
    sFor (iRange1 (aCons (eOpN lenD (aCons (eVar 1) aNil)) aNil)) (gN 2) B [.va (.scr ns), .va (.lst (cs.map D.int)), .un, .un, .un] = .nx [.va (.scr ns), .va (.lst (cs.map D.int)), t2, t3, t4] := by
  have v1 : eVar 1 [.va (.scr ns), .va (.lst (cs.map D.int)), .un, .un, .un] = .ok (.v (.lst (cs.map D.int))) [.va (.scr ns), .va (.lst (cs.map D.int)), .un, .un, .un] := rfl
  have qa : lenD [.lst (cs.map D.int)] = some (.int cs.length) := by rw [lenD_lst, List.length_map]
  have i0 : eOpN lenD (aCons (eVar 1) aNil) [.va (.scr ns), .va (.lst (cs.map D.int)), .un, .un, .un] = .ok (.v (.int cs.length)) [.va (.scr ns), .va (.lst (cs.map D.int)), .un, .un, .un] := eOpN_of (aOne v1) rfl qa
  have i1 : iRange1 (aCons (eOpN lenD (aCons (eVar 1) aNil)) aNil) [.va (.scr ns), .va (.lst (cs.map D.int)), .un, .un, .un] = .ok (rangeD 0 cs.length) [.va (.scr ns), .va (.lst (cs.map D.int)), .un, .un, .un] := iR1_of i0 rfl (by omega)
  exact sFor_of i1 k
theorem law_body (ns : List Int) (h : ns.length ≤ 63) : ∃ L, m_law [.va (.scr ns), .un, .un, .un, .un] = .rt (.bl true) L := by
  obtain ⟨cs, e1, l1, l2⟩ := cells_ok ns h
  obtain ⟨t2, t3, t4, k⟩ := law_loop (.scr ns) cs (by omega) (rangeD 0 cs.length) .un .un .un (fun x hx => range_mem hx) rfl rfl rfl rfl
  refine ⟨[.va (.scr ns), .va (.lst (cs.map D.int)), t2, t3, t4], ?_⟩
  rw [m_law, sSeq_nx (law_s1 ns cs e1), sSeq_nx (law_s2 ns cs l2 t2 t3 t4 _ k)]
  exact sRet_v rfl
theorem law_true (ns : List Int) (h : ns.length ≤ 63) : f_law [.scr ns] = .ok (.bl true) := by
  obtain ⟨L, e⟩ := law_body ns h
  unfold f_law
  exact fnP_rt e
end L2.G04

/-! part G04H -/
set_option Elab.async false
set_option linter.all false
set_option maxRecDepth 100000
set_option maxHeartbeats 0
namespace L2.G04
open PySem PySem.Spec PyProof.Rows L2.Z
abbrev R : PySem.W.OpenRow := PySem.W.OpenLaw.row PySem.Challenge.rw_onewordhome_k04_whole_letters_words_lots
def d0 : He.DefD := ⟨("is_number", none), "is_number", "is_number", defArgs (topS 3), defBody (topS 3), defScope (topS 3), [], []⟩
def d1 : He.DefD := ⟨("is_within", none), "is_within", "is_within", defArgs (topS 4), defBody (topS 4), defScope (topS 4), [], []⟩
def d2 : He.DefD := ⟨("sure_within", none), "sure_within", "sure_within", defArgs (topS 5), defBody (topS 5), defScope (topS 5), [], []⟩
def d3 : He.DefD := ⟨("is_long", none), "is_long", "is_long", defArgs (topS 6), defBody (topS 6), defScope (topS 6), [], []⟩
def d4 : He.DefD := ⟨("are_numbers", none), "are_numbers", "are_numbers", defArgs (topS 7), defBody (topS 7), defScope (topS 7), [], []⟩
def d5 : He.DefD := ⟨("are_within", none), "are_within", "are_within", defArgs (topS 8), defBody (topS 8), defScope (topS 8), [], []⟩
def d6 : He.DefD := ⟨("ascends", none), "ascends", "ascends", defArgs (topS 9), defBody (topS 9), defScope (topS 9), [], []⟩
def d7 : He.DefD := ⟨("tupled", none), "tupled", "tupled", defArgs (topS 10), defBody (topS 10), defScope (topS 10), [], []⟩
def d8 : He.DefD := ⟨("set_of", none), "set_of", "set_of", defArgs (topS 11), defBody (topS 11), defScope (topS 11), [], []⟩
def d9 : He.DefD := ⟨("is_machine_in", none), "is_machine_in", "is_machine_in", defArgs (topS 16), defBody (topS 16), defScope (topS 16), [], []⟩
def d10 : He.DefD := ⟨("sure_machine", none), "sure_machine", "sure_machine", defArgs (topS 17), defBody (topS 17), defScope (topS 17), [], []⟩
def d11 : He.DefD := ⟨("is_word_in", none), "is_word_in", "is_word_in", defArgs (topS 18), defBody (topS 18), defScope (topS 18), [], []⟩
def d12 : He.DefD := ⟨("sure_word", none), "sure_word", "sure_word", defArgs (topS 19), defBody (topS 19), defScope (topS 19), [], []⟩
def d13 : He.DefD := ⟨("sure_place", none), "sure_place", "sure_place", defArgs (topS 20), defBody (topS 20), defScope (topS 20), [], []⟩
def d14 : He.DefD := ⟨("sure_letter", none), "sure_letter", "sure_letter", defArgs (topS 21), defBody (topS 21), defScope (topS 21), [], []⟩
def d15 : He.DefD := ⟨("is_lot_in", none), "is_lot_in", "is_lot_in", defArgs (topS 22), defBody (topS 22), defScope (topS 22), [], []⟩
def d16 : He.DefD := ⟨("sure_lot", none), "sure_lot", "sure_lot", defArgs (topS 23), defBody (topS 23), defScope (topS 23), [], []⟩
def d17 : He.DefD := ⟨("led_in", none), "led_in", "led_in", defArgs (topS 24), defBody (topS 24), defScope (topS 24), [], []⟩
def d18 : He.DefD := ⟨("lot_in", none), "lot_in", "lot_in", defArgs (topS 25), defBody (topS 25), defScope (topS 25), [], []⟩
def d19 : He.DefD := ⟨("all_of", none), "all_of", "all_of", defArgs (topS 26), defBody (topS 26), defScope (topS 26), [], []⟩
def d20 : He.DefD := ⟨("places_in", none), "places_in", "places_in", defArgs (topS 27), defBody (topS 27), defScope (topS 27), [], []⟩
def d21 : He.DefD := ⟨("hangs_in", none), "hangs_in", "hangs_in", defArgs (topS 28), defBody (topS 28), defScope (topS 28), [], []⟩
def d22 : He.DefD := ⟨("is_machine", none), "is_machine", "is_machine", defArgs (topS 29), defBody (topS 29), defScope (topS 29), [], []⟩
def d23 : He.DefD := ⟨("is_word", none), "is_word", "is_word", defArgs (topS 30), defBody (topS 30), defScope (topS 30), [], []⟩
def d24 : He.DefD := ⟨("step", none), "step", "step", defArgs (topS 31), defBody (topS 31), defScope (topS 31), [], []⟩
def d25 : He.DefD := ⟨("led", none), "led", "led", defArgs (topS 32), defBody (topS 32), defScope (topS 32), [], []⟩
def d26 : He.DefD := ⟨("lot_led", none), "lot_led", "lot_led", defArgs (topS 33), defBody (topS 33), defScope (topS 33), [], []⟩
def d27 : He.DefD := ⟨("map_of", none), "map_of", "map_of", defArgs (topS 34), defBody (topS 34), defScope (topS 34), [], []⟩
def d28 : He.DefD := ⟨("places_from", none), "places_from", "places_from", defArgs (topS 35), defBody (topS 35), defScope (topS 35), [], []⟩
def d29 : He.DefD := ⟨("hangs_together", none), "hangs_together", "hangs_together", defArgs (topS 36), defBody (topS 36), defScope (topS 36), [], []⟩
def d30 : He.DefD := ⟨("_law_box", none), "_law_box", "_law_box", defArgs (topS 38), defBody (topS 38), defScope (topS 38), [], []⟩
def d31 : He.DefD := ⟨("_law_take", none), "_law_take", "_law_take", defArgs (topS 39), defBody (topS 39), defScope (topS 39), [], []⟩
def d32 : He.DefD := ⟨("_law_cells", none), "_law_cells", "_law_cells", defArgs (topS 40), defBody (topS 40), defScope (topS 40), [], []⟩
def d33 : He.DefD := ⟨("_law_of", none), "_law_of", "_law_of", defArgs (topS 41), defBody (topS 41), defScope (topS 41), [], []⟩
def d34 : He.DefD := ⟨("_law_pick", none), "_law_pick", "_law_pick", defArgs (topS 42), defBody (topS 42), defScope (topS 42), [], []⟩
def d35 : He.DefD := ⟨("_law_same", none), "_law_same", "_law_same", defArgs (topS 43), defBody (topS 43), defScope (topS 43), [], []⟩
def d36 : He.DefD := ⟨("_law_mixed", none), "_law_mixed", "_law_mixed", defArgs (topS 44), defBody (topS 44), defScope (topS 44), [], []⟩
def d37 : He.DefD := ⟨("_law_machine", none), "_law_machine", "_law_machine", defArgs (topS 45), defBody (topS 45), defScope (topS 45), [], []⟩
def d38 : He.DefD := ⟨("_law_word", none), "_law_word", "_law_word", defArgs (topS 46), defBody (topS 46), defScope (topS 46), [], []⟩
def d39 : He.DefD := ⟨("_law_go", none), "_law_go", "_law_go", defArgs (topS 47), defBody (topS 47), defScope (topS 47), [], []⟩
def d40 : He.DefD := ⟨("_law_from", none), "_law_from", "_law_from", defArgs (topS 48), defBody (topS 48), defScope (topS 48), [], []⟩
def d41 : He.DefD := ⟨("_law_hangs", none), "_law_hangs", "_law_hangs", defArgs (topS 49), defBody (topS 49), defScope (topS 49), [], []⟩
def d42 : He.DefD := ⟨("_law_right", none), "_law_right", "_law_right", defArgs (topS 50), defBody (topS 50), defScope (topS 50), [], []⟩
def d43 : He.DefD := ⟨("law", none), "law", "law", defArgs (topS 51), defBody (topS 51), defScope (topS 51), [], []⟩
def fn : List He.DefD := [d0, d1, d2, d3, d4, d5, d6, d7, d8, d9, d10, d11, d12, d13, d14, d15, d16, d17, d18, d19, d20, d21, d22, d23, d24, d25, d26, d27, d28, d29, d30, d31, d32, d33, d34, d35, d36, d37, d38, d39, d40, d41, d42, d43]
def fa : List He.Fa := [.glo "is_number", .glo "is_within", .glo "sure_within", .glo "is_long", .glo "are_numbers", .glo "are_within", .glo "ascends", .glo "tupled", .glo "set_of", .glo "is_machine_in", .glo "sure_machine", .glo "is_word_in", .glo "sure_word", .glo "sure_place", .glo "sure_letter", .glo "is_lot_in", .glo "sure_lot", .glo "led_in", .glo "lot_in", .glo "all_of", .glo "places_in", .glo "hangs_in", .glo "is_machine", .glo "is_word", .glo "step", .glo "led", .glo "lot_led", .glo "map_of", .glo "places_from", .glo "hangs_together", .glo "_law_box", .glo "_law_take", .glo "_law_cells", .glo "_law_of", .glo "_law_pick", .glo "_law_same", .glo "_law_mixed", .glo "_law_machine", .glo "_law_word", .glo "_law_go", .glo "_law_from", .glo "_law_hangs", .glo "_law_right", .glo "law", .free "isinstance", .free "int", .free "bool", .exc "Unfit", .glo "Unfit", .free "tuple", .free "len", .free "all", .free "zip", .free "list", .free "sorted", .free "set", .int "MOST_LETTERS" 4, .int "MOST_PLACES" 10, .int "MOST_WORD" 400, .free "range", .free "abs", .free "enumerate", .free "min", .free "str"]
abbrev hk : PySem.W.Hook := He.hookD 4 fa fn
def ob (s : PySem.W.SharedT) : He.AlD := He.obsDG 4 fa fn (HandSHeadRun.getT s)
theorem ob_eq (s : PySem.W.SharedT) : ob s = hk.obs s.abs := He.obsDG_eq (HandSHeadRun.getT_eq s)
def loose0 : List Str := ["Unfit", "is_number", "is_within", "sure_within", "is_long", "are_numbers", "are_within", "ascends", "tupled", "set_of", "MOST_LETTERS", "MOST_PLACES", "MOST_WORD", "is_machine_in", "sure_machine", "is_word_in", "sure_word", "sure_place", "sure_letter", "is_lot_in", "sure_lot", "led_in", "lot_in", "all_of", "places_in", "hangs_in", "is_machine", "is_word", "step", "led"]
def loose1 : List Str := ["lot_led", "map_of", "places_from", "hangs_together", "_law_box", "_law_take", "_law_cells", "_law_of", "_law_pick", "_law_same", "_law_mixed", "_law_machine", "_law_word", "_law_go", "_law_from", "_law_hangs", "_law_right"]
def loose : List Str := loose0 ++ loose1
theorem run (w : World) : HandSHeadRun.RunEq R (PySem.W.view R.prog [51]) hk ob 4000 loose w := by
  intro os
  kernel_rfl
def fnames0 : List Str := ["is_number", "is_within", "sure_within", "is_long", "are_numbers", "are_within", "ascends", "tupled", "set_of", "is_machine_in", "sure_machine", "is_word_in", "sure_word", "sure_place", "sure_letter", "is_lot_in", "sure_lot", "led_in", "lot_in", "all_of", "places_in", "hangs_in", "is_machine", "is_word", "step", "led", "lot_led", "map_of", "places_from", "hangs_together"]
def fnames1 : List Str := ["_law_box", "_law_take", "_law_cells", "_law_of", "_law_pick", "_law_same", "_law_mixed", "_law_machine", "_law_word", "_law_go", "_law_from", "_law_hangs", "_law_right", "law"]
def fnames : List Str := fnames0 ++ fnames1
def xnames : List Str := ["Unfit", "CanNot", "TooMany", "BadText", "NothingDone"]
def gOf (K : PySem.W.Frag) : Nm := ⟨fun n => He.ga K (fnames.getD n ""), fun n => He.ga K (xnames.getD n "")⟩
theorem facts {P : Program} {w : World} {K : PySem.W.Frag} {h : Heap} {mg : Str → Option Value} {f : Addr} (X : K.In h) (G : h.Ns mainGlobals mg) (hfa : mg ("law" : Str) = some (.ref f)) (c : He.SaysD fa fn K) (T : ∀ ns : List Int, ns.length ≤ 63 → f_law [.scr ns] = .ok (.bl true)) :
    ∃ fd : FuncData, (∀ (s : Shared) (v : Value), BindsTo s fd ⟨[v], []⟩ [("script", v)]) ∧ ∀ base : Heap, FnOk P w K mg base (L2.CX P w) 17 f fd ["script"] (spLaw K 63) := by
  obtain ⟨fd, F⟩ := c.def_ 43 (d := d43) rfl
  have e := hfa.symm.trans (He.glo_ok X G (c.fact 43 (f := .glo "law") rfl))
  cases e
  have b := FunD.bindsA (ps := ["script"]) F fun _ _ _ _ _ _ us hl => match us, hl with | [_], _ => rfl
  have n_isinstance : mg "isinstance" = none := He.free_ok X G (c.fact 44 (f := .free "isinstance") rfl)
  have n_int : mg "int" = none := He.free_ok X G (c.fact 45 (f := .free "int") rfl)
  have n_bool : mg "bool" = none := He.free_ok X G (c.fact 46 (f := .free "bool") rfl)
  have x_Unfit : ExcK K mg "Unfit" ((gOf K).xa 0) := excK rfl (c.fact 47 (f := .exc "Unfit") rfl) (He.glo_ok X G (c.fact 48 (f := .glo "Unfit") rfl))
  have n_tuple : mg "tuple" = none := He.free_ok X G (c.fact 49 (f := .free "tuple") rfl)
  have n_len : mg "len" = none := He.free_ok X G (c.fact 50 (f := .free "len") rfl)
  have n_all : mg "all" = none := He.free_ok X G (c.fact 51 (f := .free "all") rfl)
  have n_zip : mg "zip" = none := He.free_ok X G (c.fact 52 (f := .free "zip") rfl)
  have n_list : mg "list" = none := He.free_ok X G (c.fact 53 (f := .free "list") rfl)
  have n_sorted : mg "sorted" = none := He.free_ok X G (c.fact 54 (f := .free "sorted") rfl)
  have n_set : mg "set" = none := He.free_ok X G (c.fact 55 (f := .free "set") rfl)
  have g_MOST_LETTERS : ∃ t, mg "MOST_LETTERS" = some (.int 4 t) := He.int_ok X G (c.fact 56 (f := .int "MOST_LETTERS" 4) rfl)
  have g_MOST_PLACES : ∃ t, mg "MOST_PLACES" = some (.int 10 t) := He.int_ok X G (c.fact 57 (f := .int "MOST_PLACES" 10) rfl)
  have g_MOST_WORD : ∃ t, mg "MOST_WORD" = some (.int 400 t) := He.int_ok X G (c.fact 58 (f := .int "MOST_WORD" 400) rfl)
  have n_range : mg "range" = none := He.free_ok X G (c.fact 59 (f := .free "range") rfl)
  have n_abs : mg "abs" = none := He.free_ok X G (c.fact 60 (f := .free "abs") rfl)
  have n_enumerate : mg "enumerate" = none := He.free_ok X G (c.fact 61 (f := .free "enumerate") rfl)
  have n_min : mg "min" = none := He.free_ok X G (c.fact 62 (f := .free "min") rfl)
  have n_str : mg "str" = none := He.free_ok X G (c.fact 63 (f := .free "str") rfl)
  refine ⟨fd, fun s v => b s [v] rfl, fun base => ?_⟩
  have c_is_number := ok_is_number (Pg := P) (w := w) (g := gOf K) (base := base) (atTop (c.def_ 0 (d := d0) rfl) (He.glo_ok X G (c.fact 0 (f := .glo "is_number") rfl))) n_isinstance n_int n_bool
  have c_is_within := ok_is_within (Pg := P) (w := w) (g := gOf K) (base := base) (atTop (c.def_ 1 (d := d1) rfl) (He.glo_ok X G (c.fact 1 (f := .glo "is_within") rfl))) c_is_number
  have c_sure_within := ok_sure_within (Pg := P) (w := w) (g := gOf K) (base := base) (atTop (c.def_ 2 (d := d2) rfl) (He.glo_ok X G (c.fact 2 (f := .glo "sure_within") rfl))) x_Unfit c_is_within
  have c_is_long := ok_is_long (Pg := P) (w := w) (g := gOf K) (base := base) (atTop (c.def_ 3 (d := d3) rfl) (He.glo_ok X G (c.fact 3 (f := .glo "is_long") rfl))) n_isinstance n_tuple n_len
  have c_are_numbers := ok_are_numbers (Pg := P) (w := w) (g := gOf K) (base := base) (atTop (c.def_ 4 (d := d4) rfl) (He.glo_ok X G (c.fact 4 (f := .glo "are_numbers") rfl))) n_isinstance n_tuple n_all c_is_number
  have c_are_within := ok_are_within (Pg := P) (w := w) (g := gOf K) (base := base) (atTop (c.def_ 5 (d := d5) rfl) (He.glo_ok X G (c.fact 5 (f := .glo "are_within") rfl))) n_all c_are_numbers
  have c_ascends := ok_ascends (Pg := P) (w := w) (g := gOf K) (base := base) (atTop (c.def_ 6 (d := d6) rfl) (He.glo_ok X G (c.fact 6 (f := .glo "ascends") rfl))) n_zip n_all
  have c_tupled := ok_tupled (Pg := P) (w := w) (g := gOf K) (base := base) (atTop (c.def_ 7 (d := d7) rfl) (He.glo_ok X G (c.fact 7 (f := .glo "tupled") rfl))) n_isinstance n_list n_tuple
  have c_set_of := ok_set_of (Pg := P) (w := w) (g := gOf K) (base := base) (atTop (c.def_ 8 (d := d8) rfl) (He.glo_ok X G (c.fact 8 (f := .glo "set_of") rfl))) n_sorted n_set n_tuple
  have c_is_machine_in := ok_is_machine_in (Pg := P) (w := w) (g := gOf K) (base := base) (atTop (c.def_ 9 (d := d9) rfl) (He.glo_ok X G (c.fact 9 (f := .glo "is_machine_in") rfl))) g_MOST_LETTERS n_isinstance n_tuple n_len g_MOST_PLACES n_all c_are_within c_is_long c_is_within
  have c_sure_machine := ok_sure_machine (Pg := P) (w := w) (g := gOf K) (base := base) (atTop (c.def_ 10 (d := d10) rfl) (He.glo_ok X G (c.fact 10 (f := .glo "sure_machine") rfl))) x_Unfit c_is_machine_in c_tupled
  have c_is_word_in := ok_is_word_in (Pg := P) (w := w) (g := gOf K) (base := base) (atTop (c.def_ 11 (d := d11) rfl) (He.glo_ok X G (c.fact 11 (f := .glo "is_word_in") rfl))) n_len g_MOST_WORD c_are_within
  have c_sure_word := ok_sure_word (Pg := P) (w := w) (g := gOf K) (base := base) (atTop (c.def_ 12 (d := d12) rfl) (He.glo_ok X G (c.fact 12 (f := .glo "sure_word") rfl))) x_Unfit c_is_word_in c_tupled
  have c_sure_place := ok_sure_place (Pg := P) (w := w) (g := gOf K) (base := base) (atTop (c.def_ 13 (d := d13) rfl) (He.glo_ok X G (c.fact 13 (f := .glo "sure_place") rfl))) n_len c_sure_within
  have c_sure_letter := ok_sure_letter (Pg := P) (w := w) (g := gOf K) (base := base) (atTop (c.def_ 14 (d := d14) rfl) (He.glo_ok X G (c.fact 14 (f := .glo "sure_letter") rfl))) c_sure_within
  have c_is_lot_in := ok_is_lot_in (Pg := P) (w := w) (g := gOf K) (base := base) (atTop (c.def_ 15 (d := d15) rfl) (He.glo_ok X G (c.fact 15 (f := .glo "is_lot_in") rfl))) n_len c_are_within c_ascends
  have c_sure_lot := ok_sure_lot (Pg := P) (w := w) (g := gOf K) (base := base) (atTop (c.def_ 16 (d := d16) rfl) (He.glo_ok X G (c.fact 16 (f := .glo "sure_lot") rfl))) x_Unfit c_is_lot_in c_tupled
  have c_led_in := ok_led_in (Pg := P) (w := w) (g := gOf K) (base := base) (atTop (c.def_ 17 (d := d17) rfl) (He.glo_ok X G (c.fact 17 (f := .glo "led_in") rfl))) 
  have c_lot_in := ok_lot_in (Pg := P) (w := w) (g := gOf K) (base := base) (atTop (c.def_ 18 (d := d18) rfl) (He.glo_ok X G (c.fact 18 (f := .glo "lot_in") rfl))) c_led_in c_set_of
  have c_all_of := ok_all_of (Pg := P) (w := w) (g := gOf K) (base := base) (atTop (c.def_ 19 (d := d19) rfl) (He.glo_ok X G (c.fact 19 (f := .glo "all_of") rfl))) n_range n_len n_tuple
  have c_places_in := ok_places_in (Pg := P) (w := w) (g := gOf K) (base := base) (atTop (c.def_ 20 (d := d20) rfl) (He.glo_ok X G (c.fact 20 (f := .glo "places_in") rfl))) c_set_of
  have c_hangs_in := ok_hangs_in (Pg := P) (w := w) (g := gOf K) (base := base) (atTop (c.def_ 21 (d := d21) rfl) (He.glo_ok X G (c.fact 21 (f := .glo "hangs_in") rfl))) n_len n_range n_all c_places_in
  have c_is_machine := ok_is_machine (Pg := P) (w := w) (g := gOf K) (base := base) (atTop (c.def_ 22 (d := d22) rfl) (He.glo_ok X G (c.fact 22 (f := .glo "is_machine") rfl))) c_is_machine_in
  have c_is_word := ok_is_word (Pg := P) (w := w) (g := gOf K) (base := base) (atTop (c.def_ 23 (d := d23) rfl) (He.glo_ok X G (c.fact 23 (f := .glo "is_word") rfl))) c_is_word_in c_sure_machine
  have c_step := ok_step (Pg := P) (w := w) (g := gOf K) (base := base) (atTop (c.def_ 24 (d := d24) rfl) (He.glo_ok X G (c.fact 24 (f := .glo "step") rfl))) c_sure_letter c_sure_machine c_sure_place
  have c_led := ok_led (Pg := P) (w := w) (g := gOf K) (base := base) (atTop (c.def_ 25 (d := d25) rfl) (He.glo_ok X G (c.fact 25 (f := .glo "led") rfl))) c_led_in c_sure_machine c_sure_place c_sure_word
  have c_lot_led := ok_lot_led (Pg := P) (w := w) (g := gOf K) (base := base) (atTop (c.def_ 26 (d := d26) rfl) (He.glo_ok X G (c.fact 26 (f := .glo "lot_led") rfl))) c_lot_in c_sure_lot c_sure_machine c_sure_word
  have c_map_of := ok_map_of (Pg := P) (w := w) (g := gOf K) (base := base) (atTop (c.def_ 27 (d := d27) rfl) (He.glo_ok X G (c.fact 27 (f := .glo "map_of") rfl))) n_tuple c_all_of c_led_in c_sure_machine c_sure_word
  have c_places_from := ok_places_from (Pg := P) (w := w) (g := gOf K) (base := base) (atTop (c.def_ 28 (d := d28) rfl) (He.glo_ok X G (c.fact 28 (f := .glo "places_from") rfl))) c_places_in c_sure_machine c_sure_place
  have c_hangs_together := ok_hangs_together (Pg := P) (w := w) (g := gOf K) (base := base) (atTop (c.def_ 29 (d := d29) rfl) (He.glo_ok X G (c.fact 29 (f := .glo "hangs_together") rfl))) c_hangs_in c_sure_machine
  have c_law_box := ok_law_box (Pg := P) (w := w) (g := gOf K) (base := base) (atTop (c.def_ 30 (d := d30) rfl) (He.glo_ok X G (c.fact 30 (f := .glo "_law_box") rfl))) n_len n_int n_abs
  have c_law_take := ok_law_take (Pg := P) (w := w) (g := gOf K) (base := base) (atTop (c.def_ 31 (d := d31) rfl) (He.glo_ok X G (c.fact 31 (f := .glo "_law_take") rfl))) n_int
  have c_law_cells := ok_law_cells (Pg := P) (w := w) (g := gOf K) (base := base) (atTop (c.def_ 32 (d := d32) rfl) (He.glo_ok X G (c.fact 32 (f := .glo "_law_cells") rfl))) n_list n_enumerate n_int
  have c_law_of := ok_law_of (Pg := P) (w := w) (g := gOf K) (base := base) (atTop (c.def_ 33 (d := d33) rfl) (He.glo_ok X G (c.fact 33 (f := .glo "_law_of") rfl))) n_len c_law_take
  have c_law_pick := ok_law_pick (Pg := P) (w := w) (g := gOf K) (base := base) (atTop (c.def_ 34 (d := d34) rfl) (He.glo_ok X G (c.fact 34 (f := .glo "_law_pick") rfl))) n_list n_len n_int n_min n_range c_law_take
  have c_law_same := ok_law_same (Pg := P) (w := w) (g := gOf K) (base := base) (atTop (c.def_ 35 (d := d35) rfl) (He.glo_ok X G (c.fact 35 (f := .glo "_law_same") rfl))) n_isinstance n_list n_tuple n_len n_zip n_all n_bool n_str n_int
  have c_law_mixed := ok_law_mixed (Pg := P) (w := w) (g := gOf K) (base := base) (atTop (c.def_ 36 (d := d36) rfl) (He.glo_ok X G (c.fact 36 (f := .glo "_law_mixed") rfl))) n_isinstance n_list n_tuple c_law_take
  have c_law_machine := ok_law_machine (Pg := P) (w := w) (g := gOf K) (base := base) (atTop (c.def_ 37 (d := d37) rfl) (He.glo_ok X G (c.fact 37 (f := .glo "_law_machine") rfl))) n_range n_tuple n_list c_law_of c_law_pick c_law_take
  have c_law_word := ok_law_word (Pg := P) (w := w) (g := gOf K) (base := base) (atTop (c.def_ 38 (d := d38) rfl) (He.glo_ok X G (c.fact 38 (f := .glo "_law_word") rfl))) n_range n_tuple c_law_take
  have c_law_go := ok_law_go (Pg := P) (w := w) (g := gOf K) (base := base) (atTop (c.def_ 39 (d := d39) rfl) (He.glo_ok X G (c.fact 39 (f := .glo "_law_go") rfl))) 
  have c_law_from := ok_law_from (Pg := P) (w := w) (g := gOf K) (base := base) (atTop (c.def_ 40 (d := d40) rfl) (He.glo_ok X G (c.fact 40 (f := .glo "_law_from") rfl))) n_range n_sorted n_set
  have c_law_hangs := ok_law_hangs (Pg := P) (w := w) (g := gOf K) (base := base) (atTop (c.def_ 41 (d := d41) rfl) (He.glo_ok X G (c.fact 41 (f := .glo "_law_hangs") rfl))) n_len n_range c_law_from
  have c_law_right := ok_law_right (Pg := P) (w := w) (g := gOf K) (base := base) (atTop (c.def_ 42 (d := d42) rfl) (He.glo_ok X G (c.fact 42 (f := .glo "_law_right") rfl))) n_len n_range n_list n_sorted n_tuple n_set c_law_from c_law_go c_law_hangs c_law_machine c_law_mixed c_law_pick c_law_same c_law_take c_law_word c_hangs_together c_is_machine c_is_word c_led c_lot_led c_map_of c_places_from c_step
  exact law_of (ok_law (g := gOf K) (funOf F) n_len n_range n_all c_law_box c_law_cells c_law_right) T
end L2.G04
open PySem PySem.W PySem.Calls PyProof.Rows
theorem PySem.Challenge.cw_onewordhome_k04_whole_letters_words_lots_holds : PySem.Challenge.rw_onewordhome_k04_whole_letters_words_lots.Holds := by
  w_on; o_law
  refine HandSHeadRun.head_any (r := OpenLaw.row PySem.Challenge.rw_onewordhome_k04_whole_letters_words_lots) (q := view (OpenLaw.row PySem.Challenge.rw_onewordhome_k04_whole_letters_words_lots).prog [51]) (H := L2.G04.hk) (ob := L2.G04.ob) (M := 4000) (loose := L2.G04.loose) (d := HandSHeadRun.topDef (OpenLaw.row PySem.Challenge.rw_onewordhome_k04_whole_letters_words_lots).prog 51) (kwd := []) L2.G04.ob_eq
    (by kernel_rfl) (fun s => by kernel_rfl) L2.G04.run (by kernel_rfl) (by kernel_rfl) (by kernel_rfl) (by rfl) (by first | assumption | decide +kernel) (by decide +kernel) ⟨rfl, rfl, rfl, rfl, rfl, by decide +kernel⟩ ?hw ?hc
  case hw => w_witness2
  case hc =>
    refine L2.Z.walkZ (l := PySem.Challenge.rw_onewordhome_k04_whole_letters_words_lots) (n := 63) (k := 17) (x := "script") rfl (by decide) (by kernel_rfl) ⟨rfl, by decide, by decide⟩ ?F
    intro w mg fa h Y G hmg0
    obtain ⟨K, KX, c⟩ := Y
    have e : (HandSHeadRun.topDef (OpenLaw.row PySem.Challenge.rw_onewordhome_k04_whole_letters_words_lots).prog 51).name = ("law" : PySem.Str) := by kernel_rfl
    obtain ⟨fd, hb, hF⟩ := L2.G04.facts (P := (PySem.Challenge.rw_onewordhome_k04_whole_letters_words_lots).prog) (w := w) KX G (e ▸ hmg0) c L2.G04.law_true
    exact ⟨K, fd, KX, hb, hF⟩

import PyProof.Rows.All
import Wide.All
import OpenK.AllK
import Wide.FinOn
import HandS.ForMost
import HandS.ForExc
import HandS.TupAny
import HandS.Deep
import HandS.Flow
import HandS.Style
import HandS.Text
import HandS.Conv
import HandS.DictTup
import HandS.ForDict
import HandS.RaiseMore
import PyProof.StrLawsRepr
import PyProof.ReprLen
import PyProof.FitsInt
import HandS.Ends
import HandS.Words
import PySem.Challenge.RW_surelyread_k49_distance_counts
set_option Elab.async false
set_option linter.all false
set_option maxRecDepth 100000
set_option maxHeartbeats 4000000
/-! PL: a layer of pure values over HandS. A def of the text is shown to compute a plain function over pure values and a numbered store. -/
namespace PL
open PySem PySem.Spec PyProof.Rows L2
abbrev St := L2.St

/-! ### pure values, the store -/
inductive D where
  | none
  | bool (b : Bool)
  | int (i : Int)
  | str (s : List Char)
  | tup (l : List D)
  | ref (n : Nat)
  | rol (l : List Int)
  deriving Inhabited

mutual
def D.beq : D → D → Bool
  | .none, .none => true
  | .bool a, .bool b => a == b
  | .int a, .int b => decide (a = b)
  | .str a, .str b => decide (a = b)
  | .tup a, .tup b => D.beqs a b
  | .ref a, .ref b => decide (a = b)
  | .rol a, .rol b => decide (a = b)
  | _, _ => false
def D.beqs : List D → List D → Bool
  | [], [] => true
  | a :: r, b :: q => D.beq a b && D.beqs r q
  | _, _ => false
end
mutual
theorem D.beq_iff : ∀ a b : D, D.beq a b = true ↔ a = b
  | .none, b => by cases b <;> simp [D.beq]
  | .bool x, b => by cases b <;> simp [D.beq]
  | .int x, b => by cases b <;> simp [D.beq]
  | .str x, b => by cases b <;> simp [D.beq]
  | .tup x, b => by
    cases b with
    | tup y =>
      have := D.beqs_iff x y
      simp [D.beq, this]
    | _ => simp [D.beq]
  | .ref x, b => by cases b <;> simp [D.beq]
  | .rol x, b => by cases b <;> simp [D.beq]
theorem D.beqs_iff : ∀ a b : List D, D.beqs a b = true ↔ a = b
  | [], b => by cases b <;> simp [D.beqs]
  | x :: r, b => by
    cases b with
    | nil => simp [D.beqs]
    | cons y q =>
      have h1 := D.beq_iff x y
      have h2 := D.beqs_iff r q
      simp [D.beqs, h1, h2]
end
instance : DecidableEq D := fun a b => if h : D.beq a b = true then .isTrue ((D.beq_iff a b).mp h) else .isFalse fun e => h ((D.beq_iff a b).mpr e)

inductive Cell where
  | lst (l : List D)
  | dct (t : Bool) (l : List (D × D))
  | obj (c : Str) (fs : List (Str × D))
  deriving DecidableEq, Inhabited

abbrev Sto := List Cell
abbrev Lo := List (Option D)
/-- an exception: its class's name, its fields -/
structure Xn where
  cls : Str
  fs : List (Str × D)

inductive O (α : Type) where
  | ok (a : α) (s : Sto)
  | exc (x : Xn) (s : Sto)
  | bad
inductive R where
  | nx (l : Lo) (s : Sto)
  | rt (d : D) (s : Sto)
  | bk (l : Lo) (s : Sto)
  | ct (l : Lo) (s : Sto)
  | ex (x : Xn) (l : Lo) (s : Sto)
  | bad
def O.bind {α β : Type} (x : O α) (f : α → Sto → O β) : O β := match x with
  | .ok a s => f a s
  | .exc e s => .exc e s
  | .bad => .bad
/-- an expression's result, then a statement's -/
def O.then {α : Type} (x : O α) (l : Lo) (f : α → Sto → R) : R := match x with
  | .ok a s => f a s
  | .exc e s => .ex e l s
  | .bad => .bad
@[simp] theorem O.bind_ok {α β : Type} (a : α) (s : Sto) (f : α → Sto → O β) : (O.ok a s).bind f = f a s := rfl
@[simp] theorem O.bind_exc {α β : Type} (x : Xn) (s : Sto) (f : α → Sto → O β) : (O.exc x s).bind f = .exc x s := rfl
@[simp] theorem O.bind_bad {α β : Type} (f : α → Sto → O β) : (O.bad).bind f = .bad := rfl
@[simp] theorem O.then_ok {α : Type} (a : α) (s : Sto) (l : Lo) (f : α → Sto → R) : (O.ok a s).then l f = f a s := rfl
@[simp] theorem O.then_exc {α : Type} (x : Xn) (s : Sto) (l : Lo) (f : α → Sto → R) : (O.exc x s : O α).then l f = .ex x l s := rfl
@[simp] theorem O.then_bad {α : Type} (l : Lo) (f : α → Sto → R) : (O.bad : O α).then l f = .bad := rfl

abbrev Ex := Lo → Sto → O D
abbrev Tx := Lo → Sto → O Bool
abbrev Ax := Lo → Sto → O (List D)
abbrev Sx := Lo → Sto → R
abbrev Fn := List D → Sto → O D

/-- a text of the model's -/
def sT (l : List Char) : Str := ⟨(l.map Char.toNat).toArray⟩
theorem chr_inj {a b : Char} (h : a.toNat = b.toNat) : a = b := by
  apply Char.ext
  apply UInt32.toNat_inj.mp
  exact h
theorem map_chr_inj : ∀ {a b : List Char}, a.map Char.toNat = b.map Char.toNat → a = b
  | [], [], _ => rfl
  | [], _ :: _, h => by simp at h
  | _ :: _, [], h => by simp at h
  | x :: a, y :: b, h => by
    simp only [List.map_cons, List.cons.injEq] at h
    rw [chr_inj h.1, map_chr_inj h.2]
theorem sT_inj {a b : List Char} (h : sT a = sT b) : a = b := by
  unfold sT at h
  have h1 := Str.mk.inj h
  have h2 : a.map Char.toNat = b.map Char.toNat := by simpa using congrArg Array.toList h1
  exact map_chr_inj h2
theorem sT_app (a b : List Char) : sT a ++ sT b = sT (a ++ b) := by
  show Str.append _ _ = _
  unfold Str.append sT
  simp
theorem sT_len (a : List Char) : (sT a).length = a.length := by
  show Array.size _ = _
  simp [sT]
theorem sT_cps (a : List Char) : (sT a).cps.toList = a.map Char.toNat := by simp [sT]

/-! ### how pure values stand in the abstract heap -/
mutual
inductive Rel (H : Hp) (ρ : List Addr) : D → V → Prop
  | none : Rel H ρ .none .non
  | bool (b : Bool) : Rel H ρ (.bool b) (.bl b)
  | int (i : Int) : Rel H ρ (.int i) (.int i)
  | str (l : List Char) : Rel H ρ (.str l) (.str (sT l))
  | tup {a : Addr} {ds : List D} {vs : List V} : H a = some (.tup vs) → Rels H ρ ds vs → Rel H ρ (.tup ds) (.ref a)
  | ref {n : Nat} {a : Addr} : ρ[n]? = some a → Rel H ρ (.ref n) (.ref a)
  | rol {a : Addr} {o : Obj} {l : List Int} : H a = some (.frz o (.lst (l.map V.int))) → Rel H ρ (.rol l) (.ref a)
inductive Rels (H : Hp) (ρ : List Addr) : List D → List V → Prop
  | nil : Rels H ρ [] []
  | cons {d : D} {v : V} {ds : List D} {vs : List V} : Rel H ρ d v → Rels H ρ ds vs → Rels H ρ (d :: ds) (v :: vs)
end

/-- a later state: tuples and frozen things stand, the numbers keep their addresses -/
structure Ext (H : Hp) (ρ : List Addr) (H' : Hp) (ρ' : List Addr) : Prop where
  tup : ∀ a vs, H a = some (.tup vs) → H' a = some (.tup vs)
  frz : ∀ a o u, H a = some (.frz o u) → H' a = some (.frz o u)
  pre : ∃ m, ρ' = ρ ++ m
theorem Ext.refl (H : Hp) (ρ : List Addr) : Ext H ρ H ρ := ⟨fun _ _ h => h, fun _ _ _ h => h, [], by simp⟩
theorem Ext.trans {H H1 H2 : Hp} {ρ ρ1 ρ2 : List Addr} (a : Ext H ρ H1 ρ1) (b : Ext H1 ρ1 H2 ρ2) : Ext H ρ H2 ρ2 := by
  obtain ⟨m, e⟩ := a.pre
  obtain ⟨m', e'⟩ := b.pre
  exact ⟨fun c vs h => b.tup c vs (a.tup c vs h), fun c o u h => b.frz c o u (a.frz c o u h), m ++ m', by rw [e', e, List.append_assoc]⟩
theorem Ext.get {H H' : Hp} {ρ ρ' : List Addr} (e : Ext H ρ H' ρ') {n : Nat} {a : Addr} (h : ρ[n]? = some a) : ρ'[n]? = some a := by
  obtain ⟨m, rfl⟩ := e.pre
  rw [List.getElem?_append_left (List.getElem?_eq_some_iff.mp h).1]
  exact h
mutual
theorem Rel.ext {H H' : Hp} {ρ ρ' : List Addr} (e : Ext H ρ H' ρ') : ∀ {d : D} {v : V}, Rel H ρ d v → Rel H' ρ' d v
  | _, _, .none => .none
  | _, _, .bool b => .bool b
  | _, _, .int i => .int i
  | _, _, .str l => .str l
  | _, _, .tup h r => .tup (e.tup _ _ h) (Rels.ext e r)
  | _, _, .ref h => .ref (e.get h)
  | _, _, .rol h => .rol (e.frz _ _ _ h)
theorem Rels.ext {H H' : Hp} {ρ ρ' : List Addr} (e : Ext H ρ H' ρ') : ∀ {ds : List D} {vs : List V}, Rels H ρ ds vs → Rels H' ρ' ds vs
  | _, _, .nil => .nil
  | _, _, .cons r q => .cons (Rel.ext e r) (Rels.ext e q)
end
theorem Rels.length {H : Hp} {ρ : List Addr} : ∀ {ds : List D} {vs : List V}, Rels H ρ ds vs → ds.length = vs.length
  | _, _, .nil => rfl
  | _, _, .cons _ q => congrArg (· + 1) (Rels.length q)
theorem Rels.get {H : Hp} {ρ : List Addr} : ∀ {ds : List D} {vs : List V} {i : Nat} {d : D}, Rels H ρ ds vs → ds[i]? = some d → ∃ v, vs[i]? = some v ∧ Rel H ρ d v
  | _, _, _, _, .nil, h => by simp at h
  | _, _, 0, _, .cons r _, h => by simp at h; subst h; exact ⟨_, rfl, r⟩
  | _, _, i + 1, d, .cons _ q, h => by
    obtain ⟨v, h1, h2⟩ := Rels.get (i := i) (d := d) q (by simpa using h)
    exact ⟨v, by simpa using h1, h2⟩
theorem Rels.append {H : Hp} {ρ : List Addr} : ∀ {ds es : List D} {vs us : List V}, Rels H ρ ds vs → Rels H ρ es us → Rels H ρ (ds ++ es) (vs ++ us)
  | _, _, _, _, .nil, s => s
  | _, _, _, _, .cons r t, s => .cons r (Rels.append t s)
theorem Rels.set {H : Hp} {ρ : List Addr} {d : D} {v : V} (r : Rel H ρ d v) : ∀ {ds : List D} {vs : List V} (i : Nat), Rels H ρ ds vs → Rels H ρ (ds.set i d) (vs.set i v)
  | _, _, _, .nil => .nil
  | _, _, 0, .cons _ t => .cons r t
  | _, _, i + 1, .cons q t => .cons q (Rels.set r i t)
theorem Rels.take {H : Hp} {ρ : List Addr} : ∀ {ds : List D} {vs : List V} (n : Nat), Rels H ρ ds vs → Rels H ρ (ds.take n) (vs.take n)
  | _, _, 0, _ => .nil
  | _, _, _ + 1, .nil => .nil
  | _, _, n + 1, .cons r t => .cons r (Rels.take n t)
theorem Rels.drop {H : Hp} {ρ : List Addr} : ∀ {ds : List D} {vs : List V} (n : Nat), Rels H ρ ds vs → Rels H ρ (ds.drop n) (vs.drop n)
  | _, _, 0, r => r
  | _, _, _ + 1, .nil => .nil
  | _, _, n + 1, .cons _ t => Rels.drop n t
theorem Rels.dropLast {H : Hp} {ρ : List Addr} {ds : List D} {vs : List V} (r : Rels H ρ ds vs) : Rels H ρ ds.dropLast vs.dropLast := by
  rw [List.dropLast_eq_take, List.dropLast_eq_take, r.length]
  exact r.take _
theorem Rels.reverse {H : Hp} {ρ : List Addr} : ∀ {ds : List D} {vs : List V}, Rels H ρ ds vs → Rels H ρ ds.reverse vs.reverse
  | _, _, .nil => .nil
  | _, _, .cons r t => by
    rw [List.reverse_cons, List.reverse_cons]
    exact (Rels.reverse t).append (.cons r .nil)
theorem Rels.ints {H : Hp} {ρ : List Addr} : ∀ {ns : List Int} {vs : List V}, Rels H ρ (ns.map D.int) vs → vs = ns.map V.int
  | [], _, .nil => rfl
  | n :: ns, _, .cons r t => by
    cases r
    rw [List.map_cons, Rels.ints t]

/-- fields -/
inductive RelF (H : Hp) (ρ : List Addr) : List (Str × D) → List (Str × V) → Prop
  | nil : RelF H ρ [] []
  | cons {f : Str} {d : D} {v : V} {ds : List (Str × D)} {vs : List (Str × V)} : Rel H ρ d v → RelF H ρ ds vs → RelF H ρ ((f, d) :: ds) ((f, v) :: vs)
theorem RelF.ext {H H' : Hp} {ρ ρ' : List Addr} (e : Ext H ρ H' ρ') {ds : List (Str × D)} {vs : List (Str × V)} (r : RelF H ρ ds vs) : RelF H' ρ' ds vs := by
  induction r with
  | nil => exact .nil
  | cons r _ ih => exact .cons (r.ext e) ih
/-- the keys of dicts -/
inductive KeyR : D → Key → Prop
  | int (i : Int) : KeyR (.int i) (.inl i)
  | str (l : List Char) : KeyR (.str l) (.inr (sT l))
inductive KeysR : List D → List Key → Prop
  | nil : KeysR [] []
  | cons {d : D} {k : Key} {ds : List D} {ks : List Key} : KeyR d k → KeysR ds ks → KeysR (d :: ds) (k :: ks)
inductive RelK (H : Hp) (ρ : List Addr) : List (D × D) → List (Key × V) → Prop
  | nil : RelK H ρ [] []
  | cons {c : D} {k : Key} {d : D} {v : V} {ds : List (D × D)} {vs : List (Key × V)} : KeyR c k → Rel H ρ d v → RelK H ρ ds vs → RelK H ρ ((c, d) :: ds) ((k, v) :: vs)
inductive RelT (H : Hp) (ρ : List Addr) : List (D × D) → List (List Key × V) → Prop
  | nil : RelT H ρ [] []
  | cons {c : List D} {k : List Key} {d : D} {v : V} {ds : List (D × D)} {vs : List (List Key × V)} : KeysR c k → Rel H ρ d v → RelT H ρ ds vs → RelT H ρ ((.tup c, d) :: ds) ((k, v) :: vs)
theorem RelK.ext {H H' : Hp} {ρ ρ' : List Addr} (e : Ext H ρ H' ρ') {ds : List (D × D)} {vs : List (Key × V)} (r : RelK H ρ ds vs) : RelK H' ρ' ds vs := by
  induction r with
  | nil => exact .nil
  | cons k r _ ih => exact .cons k (r.ext e) ih
theorem RelT.ext {H H' : Hp} {ρ ρ' : List Addr} (e : Ext H ρ H' ρ') {ds : List (D × D)} {vs : List (List Key × V)} (r : RelT H ρ ds vs) : RelT H' ρ' ds vs := by
  induction r with
  | nil => exact .nil
  | cons k r _ ih => exact .cons k (r.ext e) ih

/-- a cell at its address; mg: what the module's names hold (a class by its name) -/
def CellR (mg : Str → Option Value) (H : Hp) (ρ : List Addr) (a : Addr) : Cell → Prop
  | .lst ds => ∃ vs, H a = some (.lst vs) ∧ Rels H ρ ds vs
  | .dct false ds => ∃ vs, H a = some (.dK vs) ∧ RelK H ρ ds vs
  | .dct true ds => ∃ vs, H a = some (.dT vs) ∧ RelT H ρ ds vs
  | .obj c ds => ∃ C dx vs, mg c = some (.ref C) ∧ H a = some (.ins C dx vs) ∧ RelF H ρ ds vs
theorem CellR.some {mg : Str → Option Value} {H : Hp} {ρ : List Addr} {a : Addr} {c : Cell} (h : CellR mg H ρ a c) : ∃ o, H a = some o ∧ (∀ vs, o ≠ .tup vs) ∧ ∀ u w, o ≠ .frz u w := by
  cases c with
  | lst ds => obtain ⟨vs, h, _⟩ := h; exact ⟨_, h, (fun _ z => by cases z), fun _ _ z => by cases z⟩
  | dct t ds => cases t <;> (obtain ⟨vs, h, _⟩ := h; exact ⟨_, h, (fun _ z => by cases z), fun _ _ z => by cases z⟩)
  | obj c ds => obtain ⟨C, dx, vs, _, h, _⟩ := h; exact ⟨_, h, (fun _ z => by cases z), fun _ _ z => by cases z⟩
theorem CellR.move {mg : Str → Option Value} {H H' : Hp} {ρ ρ' : List Addr} {a : Addr} {c : Cell} (e : Ext H ρ H' ρ') (he : H' a = H a) (h : CellR mg H ρ a c) : CellR mg H' ρ' a c := by
  cases c with
  | lst ds => obtain ⟨vs, h, r⟩ := h; exact ⟨vs, he.trans h, r.ext e⟩
  | dct t ds => cases t <;> (obtain ⟨vs, h, r⟩ := h; exact ⟨vs, he.trans h, r.ext e⟩)
  | obj c ds => obtain ⟨C, dx, vs, m, h, r⟩ := h; exact ⟨C, dx, vs, m, he.trans h, r.ext e⟩

/-- the store stands in the heap -/
structure Wd (mg : Str → Option Value) (H : Hp) (ρ : List Addr) (s : Sto) : Prop where
  len : ρ.length = s.length
  nd : ρ.Nodup
  cel : ∀ (i : Nat) (c : Cell) (a : Addr), s[i]? = some c → ρ[i]? = some a → CellR mg H ρ a c
theorem Wd.at {mg : Str → Option Value} {H : Hp} {ρ : List Addr} {s : Sto} (w : Wd mg H ρ s) {i : Nat} {c : Cell} (h : s[i]? = some c) : ∃ a, ρ[i]? = some a ∧ CellR mg H ρ a c := by
  have hi : i < ρ.length := by rw [w.len]; exact (List.getElem?_eq_some_iff.mp h).1
  exact ⟨ρ[i], List.getElem?_eq_getElem hi, w.cel i c _ h (List.getElem?_eq_getElem hi)⟩
theorem Wd.of {mg : Str → Option Value} {H : Hp} {ρ : List Addr} {s : Sto} (w : Wd mg H ρ s) {i : Nat} {a : Addr} (h : ρ[i]? = some a) : ∃ c, s[i]? = some c ∧ CellR mg H ρ a c := by
  have hi : i < s.length := by rw [← w.len]; exact (List.getElem?_eq_some_iff.mp h).1
  exact ⟨s[i], List.getElem?_eq_getElem hi, w.cel i _ a (List.getElem?_eq_getElem hi) h⟩
theorem Wd.fresh {mg : Str → Option Value} {H : Hp} {ρ : List Addr} {s : Sto} (w : Wd mg H ρ s) {p : Addr} (hp : H p = none) : p ∉ ρ := fun hm => by
  obtain ⟨i, hi⟩ := List.getElem?_of_mem hm
  obtain ⟨c, _, h⟩ := w.of hi
  obtain ⟨o, e, _⟩ := h.some
  rw [hp] at e
  cases e
/-- a thing at a new place that no cell tells of -/
theorem ext_new {H : Hp} {ρ : List Addr} {p : Addr} {o : HO} (hp : H p = none) : Ext H ρ (upd H p o) ρ :=
  ⟨fun a vs h => by rw [upd_ne (ne_of_none h hp)]; exact h, fun a u w h => by rw [upd_ne (ne_of_none h hp)]; exact h, [], by simp⟩
theorem Wd.new {mg : Str → Option Value} {H : Hp} {ρ : List Addr} {s : Sto} (w : Wd mg H ρ s) {p : Addr} {o : HO} (hp : H p = none) : Wd mg (upd H p o) ρ s :=
  ⟨w.len, w.nd, fun i c a h1 h2 => (w.cel i c a h1 h2).move (ext_new hp) (upd_ne fun e => w.fresh hp (e ▸ List.mem_of_getElem? h2))⟩
/-- a new cell -/
theorem Wd.push {mg : Str → Option Value} {H H' : Hp} {ρ : List Addr} {s : Sto} (w : Wd mg H ρ s) {p : Addr} {c : Cell} (hp : H p = none) (hk : ∀ b, b ≠ p → H b ≠ none → H' b = H b) (hc : Ext H ρ H' (ρ ++ [p]) → CellR mg H' (ρ ++ [p]) p c) :
    Ext H ρ H' (ρ ++ [p]) ∧ Wd mg H' (ρ ++ [p]) (s ++ [c]) := by
  have e : Ext H ρ H' (ρ ++ [p]) := ⟨fun a vs h => by rw [hk a (ne_of_none h hp) (by rw [h]; simp)]; exact h, fun a u v h => by rw [hk a (ne_of_none h hp) (by rw [h]; simp)]; exact h, [p], rfl⟩
  refine ⟨e, by simp [w.len], ?_, fun i c' a h1 h2 => ?_⟩
  · rw [List.nodup_append]
    refine ⟨w.nd, by simp, fun x hx y hy => ?_⟩
    rw [List.mem_singleton] at hy
    subst hy
    exact fun z => w.fresh hp (z ▸ hx)
  · by_cases hi : i < s.length
    · rw [List.getElem?_append_left hi] at h1
      rw [List.getElem?_append_left (by rw [w.len]; exact hi)] at h2
      have hm := w.cel i c' a h1 h2
      obtain ⟨o, ho, _⟩ := hm.some
      exact hm.move e (hk a (ne_of_none ho hp) (by rw [ho]; simp))
    · have hl := w.len
      rw [List.getElem?_append_right (by omega)] at h1 h2
      have e0 : i - s.length = 0 := by
        have := (List.getElem?_eq_some_iff.mp h1).1
        simp at this
        omega
      rw [e0] at h1
      rw [hl, e0] at h2
      simp at h1 h2
      subst h1 h2
      exact hc e
theorem Wd.last {mg : Str → Option Value} {H : Hp} {ρ : List Addr} {s : Sto} (w : Wd mg H ρ s) {p : Addr} : (ρ ++ [p])[s.length]? = some p := by
  rw [← w.len]
  simp
theorem Wd.lst {mg : Str → Option Value} {H : Hp} {ρ : List Addr} {s : Sto} (w : Wd mg H ρ s) {p : Addr} {ds : List D} {vs : List V} (r : Rels H ρ ds vs) (hp : H p = none) :
    Ext H ρ (upd H p (.lst vs)) (ρ ++ [p]) ∧ Wd mg (upd H p (.lst vs)) (ρ ++ [p]) (s ++ [.lst ds]) ∧ Rel (upd H p (.lst vs)) (ρ ++ [p]) (.ref s.length) (.ref p) := by
  have q := w.push (c := .lst ds) hp (fun b hb _ => upd_ne (o := .lst vs) hb) fun e => ⟨vs, upd_same, r.ext e⟩
  exact ⟨q.1, q.2, .ref w.last⟩
/-- a cell is written -/
theorem Wd.write {mg : Str → Option Value} {H : Hp} {ρ : List Addr} {s : Sto} (w : Wd mg H ρ s) {i : Nat} {a : Addr} {c : Cell} {o : HO} (hi : ρ[i]? = some a) (hc : Ext H ρ (upd H a o) ρ → CellR mg (upd H a o) ρ a c) :
    Ext H ρ (upd H a o) ρ ∧ Wd mg (upd H a o) ρ (s.set i c) := by
  obtain ⟨c0, h0, h1⟩ := w.of hi
  obtain ⟨o1, ho, n1, n2⟩ := h1.some
  have e : Ext H ρ (upd H a o) ρ := ⟨fun b vs h => by
    rw [upd_ne (fun z => by subst z; rw [ho] at h; cases h; exact n1 _ rfl)]; exact h, fun b u v h => by
    rw [upd_ne (fun z => by subst z; rw [ho] at h; cases h; exact n2 _ _ rfl)]; exact h, [], by simp⟩
  refine ⟨e, by simp [w.len], w.nd, fun j c' b h2 h3 => ?_⟩
  by_cases hj : i = j
  · subst hj
    have hl : i < s.length := (List.getElem?_eq_some_iff.mp h0).1
    rw [List.getElem?_set_self hl] at h2
    rw [hi] at h3
    cases h2
    cases h3
    exact hc e
  · rw [List.getElem?_set_ne hj] at h2
    exact (w.cel j c' b h2 h3).move e (upd_ne fun z => hj (nd_ix w.nd hi (z ▸ h3)))

/-! ### names -/
inductive EnvR (H : Hp) (ρ : List Addr) : Lo → St → Prop
  | nil : EnvR H ρ [] []
  | free {l : Lo} {σ : St} {x : Option V} : EnvR H ρ l σ → EnvR H ρ (none :: l) (x :: σ)
  | cons {l : Lo} {σ : St} {d : D} {v : V} : Rel H ρ d v → EnvR H ρ l σ → EnvR H ρ (some d :: l) (some v :: σ)
theorem EnvR.ext {H H' : Hp} {ρ ρ' : List Addr} (e : Ext H ρ H' ρ') {l : Lo} {σ : St} (r : EnvR H ρ l σ) : EnvR H' ρ' l σ := by
  induction r with
  | nil => exact .nil
  | free _ ih => exact .free ih
  | cons r _ ih => exact .cons (r.ext e) ih
theorem EnvR.get {H : Hp} {ρ : List Addr} : ∀ {l : Lo} {σ : St} {i : Nat} {d : D}, EnvR H ρ l σ → l[i]? = some (some d) → ∃ v, σ[i]? = some (some v) ∧ Rel H ρ d v
  | _, _, _, _, .nil, h => by simp at h
  | _, _, 0, _, .free _, h => by simp at h
  | _, _, 0, _, .cons r _, h => by simp at h; subst h; exact ⟨_, rfl, r⟩
  | _, _, i + 1, d, .free q, h => by
    obtain ⟨v, h1, h2⟩ := EnvR.get (i := i) (d := d) q (by simpa using h)
    exact ⟨v, by simpa using h1, h2⟩
  | _, _, i + 1, d, .cons _ q, h => by
    obtain ⟨v, h1, h2⟩ := EnvR.get (i := i) (d := d) q (by simpa using h)
    exact ⟨v, by simpa using h1, h2⟩
theorem EnvR.set {H : Hp} {ρ : List Addr} {d : D} {v : V} (r : Rel H ρ d v) : ∀ {l : Lo} {σ : St} (i : Nat), EnvR H ρ l σ → EnvR H ρ (l.set i (some d)) (σ.set i (some v))
  | _, _, _, .nil => .nil
  | _, _, 0, .free q => .cons r q
  | _, _, 0, .cons _ q => .cons r q
  | _, _, i + 1, .free q => .free (EnvR.set r i q)
  | _, _, i + 1, .cons p q => .cons p (EnvR.set r i q)
theorem EnvR.unset {H : Hp} {ρ : List Addr} {x : Option V} : ∀ {l : Lo} {σ : St} (i : Nat), EnvR H ρ l σ → EnvR H ρ (l.set i none) (σ.set i x)
  | _, _, _, .nil => .nil
  | _, _, 0, .free q => .free q
  | _, _, 0, .cons _ q => .free q
  | _, _, i + 1, .free q => .free (EnvR.unset i q)
  | _, _, i + 1, .cons p q => .cons p (EnvR.unset i q)
theorem EnvR.length {H : Hp} {ρ : List Addr} {l : Lo} {σ : St} (r : EnvR H ρ l σ) : l.length = σ.length := by
  induction r with
  | nil => rfl
  | free _ ih => exact congrArg (· + 1) ih
  | cons _ _ ih => exact congrArg (· + 1) ih
/-- the entry of a def -/
theorem EnvR.start {H : Hp} {ρ : List Addr} : ∀ {ds : List D} {vs : List V} (k : Nat), Rels H ρ ds vs → EnvR H ρ (ds.map some ++ List.replicate k none) (vs.map some ++ List.replicate k none)
  | _, _, 0, .nil => .nil
  | _, _, k + 1, .nil => .free (EnvR.start k .nil)
  | _, _, k, .cons r q => .cons r (EnvR.start k q)

/-- an exception -/
def ExcR (mg : Str → Option Value) (H : Hp) (ρ : List Addr) (x : Xn) (c : Value) (dd : Option Addr) : Prop :=
  mg x.cls = some c ∧ (x.fs = [] ∨ ∃ d vs, dd = some d ∧ H d = some (.xd vs) ∧ RelF H ρ x.fs vs)

/-! ### readings of pure results -/
section
variable (mg : Str → Option Value) (W : WX)
def ResE {α β : Type} (rel : Hp → List Addr → α → β → Prop) (σ : St) (H : Hp) (ρ : List Addr) (r : O α) (Q : β → Hp → Prop) : Prop := match r with
  | .ok d s => ∀ ρ' H' v, Ext H ρ H' ρ' → Wd mg H' ρ' s → rel H' ρ' d v → Q v H'
  | .exc x s => ∀ ρ' H' c dd, Ext H ρ H' ρ' → Wd mg H' ρ' s → ExcR mg H' ρ' x c dd → W c dd σ H'
  | .bad => False
def tE (f : Ex) : TE := fun σ H Q => ∃ ρ l s, EnvR H ρ l σ ∧ Wd mg H ρ s ∧ ResE mg W Rel σ H ρ (f l s) Q
def tT (f : Tx) : TT := fun σ H Q => ∃ ρ l s, EnvR H ρ l σ ∧ Wd mg H ρ s ∧ ResE mg W (fun _ _ a b => a = b) σ H ρ (f l s) Q
def tA (f : Ax) : TA := fun σ H Q => ∃ ρ l s, EnvR H ρ l σ ∧ Wd mg H ρ s ∧ ResE mg W Rels σ H ρ (f l s) Q
def ResS (H : Hp) (ρ : List Addr) (r : R) (De : Ends) : Prop := match r with
  | .nx l s => ∀ ρ' H' σ', Ext H ρ H' ρ' → Wd mg H' ρ' s → EnvR H' ρ' l σ' → De.nx σ' H'
  | .bk l s => ∀ ρ' H' σ', Ext H ρ H' ρ' → Wd mg H' ρ' s → EnvR H' ρ' l σ' → De.bk σ' H'
  | .ct l s => ∀ ρ' H' σ', Ext H ρ H' ρ' → Wd mg H' ρ' s → EnvR H' ρ' l σ' → De.ct σ' H'
  | .rt d s => ∀ ρ' H' v, Ext H ρ H' ρ' → Wd mg H' ρ' s → Rel H' ρ' d v → De.rt v H'
  | .ex x l s => ∀ ρ' H' σ' c dd, Ext H ρ H' ρ' → Wd mg H' ρ' s → EnvR H' ρ' l σ' → ExcR mg H' ρ' x c dd → W c dd σ' H'
  | .bad => False
def tS (f : Sx) : TS := fun De σ H => ∃ ρ l s, EnvR H ρ l σ ∧ Wd mg H ρ s ∧ ResS mg W H ρ (f l s) De
end
/-- the judgements -/
def EV (X : Cx) (W : WX) (e : Expr) (f : Ex) : Prop := PE X e (tE X.mg W f)
def TV (X : Cx) (W : WX) (e : Expr) (f : Tx) : Prop := PT X e (tT X.mg W f)
def AV (X : Cx) (W : WX) (es : List Expr) (f : Ax) : Prop := PA X es (tA X.mg W f)
def SV (X : Cx) (W : WX) (st : Stmt) (f : Sx) : Prop := PS X st (tS X.mg W f)
def BV (X : Cx) (W : WX) (st : List Stmt) (f : Sx) : Prop := PSs X st (tS X.mg W f)

/-! ### weakening -/
theorem PE_imp {X : Cx} {e : Expr} {t t' : TE} (h : PE X e t) (i : ∀ σ H Q, t' σ H Q → t σ H Q) : PE X e t' := ⟨fun pins s σ H Q I q => h.run pins s σ H Q I (i σ H Q q)⟩
theorem PT_imp {X : Cx} {e : Expr} {t t' : TT} (h : PT X e t) (i : ∀ σ H Q, t' σ H Q → t σ H Q) : PT X e t' := ⟨fun pins s σ H Q I q => h.run pins s σ H Q I (i σ H Q q)⟩
theorem PA_imp {X : Cx} {e : List Expr} {t t' : TA} (h : PA X e t) (i : ∀ σ H Q, t' σ H Q → t σ H Q) : PA X e t' := ⟨fun pos pins s σ H Q I q => h.run pos pins s σ H Q I (i σ H Q q)⟩
theorem PS_imp {X : Cx} {e : Stmt} {t t' : TS} (h : PS X e t) (i : ∀ De σ H, t' De σ H → t De σ H) : PS X e t' := ⟨fun pins s σ H De I q => h.run pins s σ H De I (i De σ H q)⟩
theorem PSs_imp {X : Cx} {e : List Stmt} {t t' : TS} (h : PSs X e t) (i : ∀ De σ H, t' De σ H → t De σ H) : PSs X e t' := ⟨fun pins s σ H De I q => h.run pins s σ H De I (i De σ H q)⟩
end PL

namespace PL
open PySem PySem.Spec PyProof.Rows L2

/-! ### composing results -/
section
variable {mg : Str → Option Value} {W : WX} {α β γ δ : Type}
abbrev tG (mg : Str → Option Value) (W : WX) (rel : Hp → List Addr → α → β → Prop) (f : Lo → Sto → O α) : St → Hp → (β → Hp → Prop) → Prop :=
  fun σ H Q => ∃ ρ l s, EnvR H ρ l σ ∧ Wd mg H ρ s ∧ ResE mg W rel σ H ρ (f l s) Q
theorem ResE.later {rel : Hp → List Addr → α → β → Prop} {σ : St} {H H' : Hp} {ρ ρ' : List Addr} {r : O α} {Q : β → Hp → Prop} (e : Ext H ρ H' ρ') (h : ResE mg W rel σ H ρ r Q) : ResE mg W rel σ H' ρ' r Q := by
  cases r with
  | ok d s => exact fun ρ2 H2 v e2 => h ρ2 H2 v (e.trans e2)
  | exc x s => exact fun ρ2 H2 c dd e2 => h ρ2 H2 c dd (e.trans e2)
  | bad => exact h
theorem ResS.later {H H' : Hp} {ρ ρ' : List Addr} {r : R} {De : Ends} (e : Ext H ρ H' ρ') (h : ResS mg W H ρ r De) : ResS mg W H' ρ' r De := by
  cases r with
  | nx l s => exact fun ρ2 H2 σ2 e2 => h ρ2 H2 σ2 (e.trans e2)
  | bk l s => exact fun ρ2 H2 σ2 e2 => h ρ2 H2 σ2 (e.trans e2)
  | ct l s => exact fun ρ2 H2 σ2 e2 => h ρ2 H2 σ2 (e.trans e2)
  | rt d s => exact fun ρ2 H2 v e2 => h ρ2 H2 v (e.trans e2)
  | ex x l s => exact fun ρ2 H2 σ2 c dd e2 => h ρ2 H2 σ2 c dd (e.trans e2)
  | bad => exact h
/-- an expression first, then the rest -/
theorem gBind {rel0 : Hp → List Addr → α → β → Prop} {rel : Hp → List Addr → γ → δ → Prop} {a : Lo → Sto → O α} {k : α → Sto → O γ} {σ : St} {H : Hp} {ρ : List Addr} {l : Lo} {s : Sto} {Q : δ → Hp → Prop} {Q' : β → Hp → Prop}
    (hE : EnvR H ρ l σ) (hW : Wd mg H ρ s) (h : ResE mg W rel σ H ρ ((a l s).bind k) Q)
    (hk : ∀ d s1 ρ1 H1 v, Ext H ρ H1 ρ1 → EnvR H1 ρ1 l σ → Wd mg H1 ρ1 s1 → rel0 H1 ρ1 d v → ResE mg W rel σ H1 ρ1 (k d s1) Q → Q' v H1) : tG mg W rel0 a σ H Q' := by
  refine ⟨ρ, l, s, hE, hW, ?_⟩
  cases e : a l s with
  | ok d s1 =>
    rw [e] at h
    exact fun ρ1 H1 v x w r => hk d s1 ρ1 H1 v x (hE.ext x) w r (ResE.later x h)
  | exc x s1 =>
    rw [e] at h
    exact h
  | bad =>
    rw [e] at h
    exact h
theorem gThen {rel0 : Hp → List Addr → α → β → Prop} {a : Lo → Sto → O α} {k : α → Sto → R} {σ : St} {H : Hp} {ρ : List Addr} {l : Lo} {s : Sto} {De : Ends} {Q' : β → Hp → Prop}
    (hE : EnvR H ρ l σ) (hW : Wd mg H ρ s) (h : ResS mg W H ρ ((a l s).then l k) De)
    (hk : ∀ d s1 ρ1 H1 v, Ext H ρ H1 ρ1 → EnvR H1 ρ1 l σ → Wd mg H1 ρ1 s1 → rel0 H1 ρ1 d v → ResS mg W H1 ρ1 (k d s1) De → Q' v H1) : tG mg W rel0 a σ H Q' := by
  refine ⟨ρ, l, s, hE, hW, ?_⟩
  cases e : a l s with
  | ok d s1 =>
    rw [e] at h
    exact fun ρ1 H1 v x w r => hk d s1 ρ1 H1 v x (hE.ext x) w r (ResS.later x h)
  | exc x s1 =>
    rw [e] at h
    exact fun ρ1 H1 c dd x w r => h ρ1 H1 σ c dd x w (hE.ext x) r
  | bad =>
    rw [e] at h
    exact h
end

/-! ### names and constants -/
def xVar (i : Nat) : Ex := fun l s => match l[i]? with
  | some (some d) => .ok d s
  | _ => .bad
def xC (d : D) : Ex := fun _ s => .ok d s
section
variable {X : Cx} {W : WX}
theorem ev_var {i : Nat} {x : Str} {pos : Pos} (hN : X.N[i]? = some x := by rfl) (hv : Vis X.env.scope x := by first | exact Or.inl rfl | exact Or.inr (Or.inl rfl) | exact Or.inr (Or.inr rfl))
    (hd : (x == ("__debug__" : Str)) = false := by decide) (hcd : (x == ("__classdict__" : Str)) = false := by decide) : EV X W (.Name x pos) (xVar i) := by
  refine PE_imp (pv i hN hv hd hcd) ?_
  rintro σ H Q ⟨ρ, l, s, hE, hW, h⟩
  unfold xVar at h
  split at h
  · rename_i d e
    obtain ⟨v, h1, h2⟩ := hE.get e
    exact ⟨v, h1, h ρ H v (Ext.refl _ _) hW h2⟩
  · exact h.elim
theorem ev_int {i : Int} {j pos} : EV X W (.Constant (.int i) j pos) (xC (.int i)) := PE_imp pe_int fun σ H Q ⟨ρ, l, s, hE, hW, h⟩ => h ρ H _ (Ext.refl _ _) hW (.int i)
theorem ev_bool {b : Bool} {j pos} : EV X W (.Constant (.bool b) j pos) (xC (.bool b)) := PE_imp pe_bl fun σ H Q ⟨ρ, l, s, hE, hW, h⟩ => h ρ H _ (Ext.refl _ _) hW (.bool b)
theorem ev_none {j pos} : EV X W (.Constant .none j pos) (xC .none) := PE_imp pe_non fun σ H Q ⟨ρ, l, s, hE, hW, h⟩ => h ρ H _ (Ext.refl _ _) hW .none
theorem ev_str {x : Str} {t : List Char} {j pos} (ht : x = sT t := by decide +kernel) : EV X W (.Constant (.str x) j pos) (xC (.str t)) := by
  subst ht
  exact PE_imp pe_str fun σ H Q ⟨ρ, l, s, hE, hW, h⟩ => h ρ H _ (Ext.refl _ _) hW (.str t)
/-- a module's constant that is an int -/
theorem ev_globI {x : Str} {i : Int} {t : Tok} {pos : Pos} (hm : X.mg x = some (.int i t)) (hg : Gl X x := by rfl) (hd : (x == ("__debug__" : Str)) = false := by decide) : EV X W (.Name x pos) (xC (.int i)) :=
  PE_imp (pe_glob (v := .int i) hg hm ⟨t, rfl⟩ hd) fun σ H Q ⟨ρ, l, s, hE, hW, h⟩ => h ρ H _ (Ext.refl _ _) hW (.int i)
end

/-! ### lists of arguments, displays -/
def aNil : Ax := fun _ s => .ok [] s
def aCons (a : Ex) (r : Ax) : Ax := fun l s => (a l s).bind fun d s1 => (r l s1).bind fun ds s2 => .ok (d :: ds) s2
abbrev LN : Nat := 16777216
theorem ln_le {n : Nat} (h : n ≤ LN) : n ≤ sizeLine := by rw [sizeLine_eq]; exact h
theorem ln_lt {n : Nat} (h : n < LN) : n < sizeLine := by rw [sizeLine_eq]; exact h
def xTup (a : Ax) : Ex := fun l s => (a l s).bind fun ds s1 => if ds.length ≤ LN then .ok (.tup ds) s1 else .bad
def xLst (a : Ax) : Ex := fun l s => (a l s).bind fun ds s1 => if ds.length ≤ LN then .ok (.ref s1.length) (s1 ++ [.lst ds]) else .bad
section
variable {X : Cx} {W : WX} {e : Expr} {es : List Expr} {a : Ex} {r : Ax}
theorem av_nil : AV X W [] aNil := PA_imp pa_nil fun σ H Q ⟨ρ, l, s, hE, hW, h⟩ => h ρ H _ (Ext.refl _ _) hW .nil
theorem av_cons (ha : EV X W e a) (hr : AV X W es r) (hs : starEach (e :: es) X.env = (false, eval e X.env) :: starEach es X.env := by rfl) : AV X W (e :: es) (aCons a r) := by
  refine PA_imp (pa_cons ha hr hs) ?_
  rintro σ H Q ⟨ρ, l, s, hE, hW, h⟩
  refine gBind (a := a) (rel0 := Rel) hE hW h fun d s1 ρ1 H1 v x1 hE1 hW1 r1 h1 => ?_
  refine gBind (a := r) (rel0 := Rels) hE1 hW1 h1 fun ds s2 ρ2 H2 vs x2 hE2 hW2 r2 h2 => ?_
  exact h2 ρ2 H2 _ (Ext.refl _ _) hW2 (.cons (r1.ext x2) r2)
theorem ev_tup {pos : Pos} {k} (hr : AV X W es r) : EV X W (.Tuple es k pos) (xTup r) := by
  refine PE_imp (pe_tup hr) ?_
  rintro σ H Q ⟨ρ, l, s, hE, hW, h⟩
  refine gBind (a := r) (rel0 := Rels) hE hW h fun ds s1 ρ1 H1 vs x1 hE1 hW1 r1 h1 => ?_
  split at h1
  · rename_i hl
    refine ⟨ln_le (by rw [← r1.length]; exact hl), fun p hp => h1 ρ1 _ _ (ext_new hp) (hW1.new hp) (.tup upd_same (r1.ext (ext_new hp)))⟩
  · exact h1.elim
theorem ev_lst {pos : Pos} (hr : AV X W es r) : EV X W (.List es pos) (xLst r) := by
  refine PE_imp (pe_lst hr) ?_
  rintro σ H Q ⟨ρ, l, s, hE, hW, h⟩
  refine gBind (a := r) (rel0 := Rels) hE hW h fun ds s1 ρ1 H1 vs x1 hE1 hW1 r1 h1 => ?_
  split at h1
  · rename_i hl
    refine ⟨ln_le (by rw [← r1.length]; exact hl), fun p hp => ?_⟩
    obtain ⟨e1, w1, q1⟩ := hW1.lst r1 hp
    exact h1 _ _ _ e1 w1 q1
  · exact h1.elim
end

/-! ### operators on values -/
/-- what is asked of values for a pure result that raises nothing -/
def ResO (mg : Str → Option Value) (H : Hp) (ρ : List Addr) (r : O D) (Q : VK) : Prop := match r with
  | .ok d s => ∀ ρ' H' v, Ext H ρ H' ρ' → Wd mg H' ρ' s → Rel H' ρ' d v → Q v H'
  | _ => False
def rP (mg : Str → Option Value) (g : D → D → Sto → O D) : R2 := fun x y H Q => ∃ ρ d e s, Rel H ρ d x ∧ Rel H ρ e y ∧ Wd mg H ρ s ∧ ResO mg H ρ (g d e s) Q
/-- the pure operation speaks no exception -/
def Calm2 (g : D → D → Sto → O D) : Prop := ∀ d e s x s', g d e s ≠ .exc x s'
def xBin (g : D → D → Sto → O D) (a b : Ex) : Ex := fun l s => (a l s).bind fun d s1 => (b l s1).bind fun e s2 => g d e s2
theorem OpR_imp {X : Cx} {f : Value → Value → Sem Value} {r r' : R2} (h : OpR X f r) (i : ∀ x y H Q, r' x y H Q → r x y H Q) : OpR X f r' := fun pins s σ H x y v u Q I rx ry q => h pins s σ H x y v u Q I rx ry (i x y H Q q)
section
variable {X : Cx} {W : WX} {a b : Expr} {fa fb : Ex} {g : D → D → Sto → O D} {pos : Pos}
theorem ResO_of {σ : St} {H : Hp} {ρ : List Addr} {r : O D} {Q : VK} (hc : ∀ x s', r ≠ .exc x s') (h : ResE X.mg W Rel σ H ρ r Q) : ResO X.mg H ρ r Q := by
  cases r with
  | ok d s => exact h
  | exc x s => exact absurd rfl (hc x s)
  | bad => exact h
theorem bin_imp (hc : Calm2 g) {σ : St} {H : Hp} {Q : VK} (h : tE X.mg W (xBin g fa fb) σ H Q) : tE X.mg W fa σ H fun x H1 => tE X.mg W fb σ H1 fun y H2 => rP X.mg g x y H2 Q := by
  obtain ⟨ρ, l, s, hE, hW, h⟩ := h
  refine gBind (a := fa) (rel0 := Rel) hE hW h fun d s1 ρ1 H1 v x1 hE1 hW1 r1 h1 => ?_
  refine gBind (a := fb) (rel0 := Rel) hE1 hW1 h1 fun e s2 ρ2 H2 u x2 hE2 hW2 r2 h2 => ?_
  exact ⟨ρ2, d, e, s2, r1.ext x2, r2, hW2, ResO_of (hc d e s2) h2⟩
theorem ev_op {op : Operator} (ho : OpR X (binaryOp op) (rP X.mg g)) (hc : Calm2 g) (ha : EV X W a fa) (hb : EV X W b fb) : EV X W (.BinOp a op b pos) (xBin g fa fb) :=
  PE_imp (pe_op ho ha hb) fun σ H Q h => bin_imp hc h
theorem ev_cmp {op : CmpOp} (ho : OpR X (compareOp op) (rP X.mg g)) (hc : Calm2 g) (ha : EV X W a fa) (hb : EV X W b fb) (hm : behindInMarks op b = false) : EV X W (.Compare a [op] [b] pos) (xBin g fa fb) :=
  PE_imp (pe_cmpR ho ha hb hm) fun σ H Q h => bin_imp hc h
end

def pAdd : D → D → Sto → O D
  | .int a, .int b, s => .ok (.int (a + b)) s
  | .str a, .str b, s => if a.length + b.length ≤ LN then .ok (.str (a ++ b)) s else .bad
  | .tup a, .tup b, s => if a.length + b.length ≤ LN then .ok (.tup (a ++ b)) s else .bad
  | .ref i, .ref j, s => match s[i]?, s[j]? with
    | some (.lst a), some (.lst b) => if a.length + b.length ≤ LN then .ok (.ref s.length) (s ++ [.lst (a ++ b)]) else .bad
    | _, _ => .bad
  | _, _, _ => .bad
def pSub : D → D → Sto → O D
  | .int a, .int b, s => .ok (.int (a - b)) s
  | _, _, _ => .bad
def pMul : D → D → Sto → O D
  | .int a, .int b, s => if (-(2 ^ 64) < a ∧ a < 2 ^ 64) ∨ (-(2 ^ 64) < b ∧ b < 2 ^ 64) then .ok (.int (a * b)) s else .bad
  | _, _, _ => .bad
/-- // and % by a positive divisor -/
def pFdiv : D → D → Sto → O D
  | .int a, .int b, s => if 0 < b ∧ b < 1073741824 then .ok (.int (a / b)) s else .bad
  | _, _, _ => .bad
def pMod : D → D → Sto → O D
  | .int a, .int b, s => if 0 < b then .ok (.int (a % b)) s else .bad
  | _, _, _ => .bad
def pPow : D → D → Sto → O D
  | .int a, .int b, s => if 0 ≤ b ∧ b ≤ 1000000 ∧ a.natAbs < 2 ^ 64 then .ok (.int (a ^ b.toNat)) s else .bad
  | _, _, _ => .bad
theorem calm_add : Calm2 pAdd := by
  intro d e s x s' h
  unfold pAdd at h
  split at h <;> (try split at h) <;> (try split at h) <;> cases h
theorem calm_sub : Calm2 pSub := by intro d e s x s' h; unfold pSub at h; split at h <;> cases h
theorem calm_mul : Calm2 pMul := by intro d e s x s' h; unfold pMul at h; split at h <;> (try split at h) <;> cases h
theorem calm_fdiv : Calm2 pFdiv := by intro d e s x s' h; unfold pFdiv at h; split at h <;> (try split at h) <;> cases h
theorem calm_mod : Calm2 pMod := by intro d e s x s' h; unfold pMod at h; split at h <;> (try split at h) <;> cases h
theorem calm_pow : Calm2 pPow := by intro d e s x s' h; unfold pPow at h; split at h <;> (try split at h) <;> cases h
section
variable {X : Cx}
theorem or_add : OpR X (binaryOp .Add) (rP X.mg pAdd) := by
  refine OpR_imp (op_add.or (op_add_str.or (op_catA.or op_cat))) ?_
  rintro x y H Q ⟨ρ, d, e, s, rd, re, hW, h⟩
  unfold pAdd at h
  split at h
  · cases rd
    cases re
    exact .inl ⟨_, _, rfl, rfl, h ρ H _ (Ext.refl _ _) hW (.int _)⟩
  · cases rd
    cases re
    split at h
    · rename_i hl
      refine .inr (.inl ⟨_, _, rfl, rfl, ?_, ?_⟩)
      · rw [sT_len, sT_len]
        exact ln_le hl
      · rw [sT_app]
        exact h ρ H _ (Ext.refl _ _) hW (.str _)
    · exact h.elim
  · cases rd with
    | tup h1 r1 =>
      cases re with
      | tup h2 r2 =>
        split at h
        · rename_i hl
          refine .inr (.inr (.inl ⟨_, _, _, _, rfl, rfl, SqT.of h1, SqT.of h2, ln_le (by rw [← r1.length, ← r2.length]; exact hl), fun z => ?_, fun _ z => ?_, fun _ _ p hp => ?_⟩))
          · subst z
            cases r1
            exact h ρ H _ (Ext.refl _ _) hW (.tup h2 r2)
          · subst z
            cases r2
            exact h ρ H _ (Ext.refl _ _) hW (.tup h1 (by rw [List.append_nil]; exact r1))
          · exact h ρ _ _ (ext_new hp) (hW.new hp) (.tup upd_same ((r1.append r2).ext (ext_new hp)))
        · exact h.elim
  · cases rd with
    | ref h1 =>
      cases re with
      | ref h2 =>
        split at h
        · rename_i e1 e2
          split at h
          · rename_i hl
            obtain ⟨v1, q1, r1⟩ := hW.cel _ _ _ e1 h1
            obtain ⟨v2, q2, r2⟩ := hW.cel _ _ _ e2 h2
            refine .inr (.inr (.inr ⟨_, _, _, _, rfl, rfl, q1, q2, ln_le (by rw [← r1.length, ← r2.length]; exact hl), fun p hp => ?_⟩))
            obtain ⟨e3, w3, q3⟩ := hW.lst (r1.append r2) hp
            exact h _ _ _ e3 w3 q3
          · exact h.elim
        · exact h.elim
  · exact h.elim
theorem or_int2 {f : Value → Value → Sem Value} {g : D → D → Sto → O D} {C : Int → Int → Prop} {k : Int → Int → Int} (ho : OpR X f (rI C fun i j => .int (k i j))) (hg : ∀ d e s H ρ Q, ResO X.mg H ρ (g d e s) Q → ∃ i j, d = .int i ∧ e = .int j ∧ C i j ∧ g d e s = .ok (.int (k i j)) s) : OpR X f (rP X.mg g) := by
  refine OpR_imp ho ?_
  rintro x y H Q ⟨ρ, d, e, s, rd, re, hW, h⟩
  obtain ⟨i, j, rfl, rfl, hc, hq⟩ := hg d e s H ρ Q h
  cases rd
  cases re
  rw [hq] at h
  exact ⟨i, j, rfl, rfl, hc, h ρ H _ (Ext.refl _ _) hW (.int _)⟩
theorem or_sub : OpR X (binaryOp .Sub) (rP X.mg pSub) := by
  refine OpR_imp op_sub ?_
  rintro x y H Q ⟨ρ, d, e, s, rd, re, hW, h⟩
  unfold pSub at h
  split at h
  · cases rd
    cases re
    exact ⟨_, _, rfl, rfl, h ρ H _ (Ext.refl _ _) hW (.int _)⟩
  · exact h.elim
theorem or_mul : OpR X (binaryOp .Mult) (rP X.mg pMul) := or_int2 op_mul fun d e s H ρ Q h => by
  unfold pMul at h ⊢
  split at h
  · split at h
    · rename_i hc
      exact ⟨_, _, rfl, rfl, hc, if_pos hc⟩
    · exact h.elim
  · exact h.elim
theorem or_fdiv : OpR X (binaryOp .FloorDiv) (rP X.mg pFdiv) := or_int2 op_fdiv fun d e s H ρ Q h => by
  unfold pFdiv at h ⊢
  split at h
  · split at h
    · rename_i hc
      exact ⟨_, _, rfl, rfl, hc, if_pos hc⟩
    · exact h.elim
  · exact h.elim
theorem or_mod : OpR X (binaryOp .Mod) (rP X.mg pMod) := or_int2 op_mod fun d e s H ρ Q h => by
  unfold pMod at h ⊢
  split at h
  · split at h
    · rename_i hc
      exact ⟨_, _, rfl, rfl, hc, if_pos hc⟩
    · exact h.elim
  · exact h.elim
theorem or_pow : OpR X (binaryOp .Pow) (rP X.mg pPow) := or_int2 op_pow fun d e s H ρ Q h => by
  unfold pPow at h ⊢
  split at h
  · split at h
    · rename_i hc
      exact ⟨_, _, rfl, rfl, hc, if_pos hc⟩
    · exact h.elim
  · exact h.elim
end

/-! ### equality of pure data -/
mutual
def D.py : D → PyData
  | .none => .none
  | .bool b => .bool b
  | .int i => .int i
  | .str l => .str (sT l)
  | .tup l => .tuple (D.pys l)
  | .ref _ => .none
  | .rol _ => .none
def D.pys : List D → List PyData
  | [] => []
  | d :: r => D.py d :: D.pys r
end
mutual
/-- no lists, dicts, objects within -/
def D.pure : D → Bool
  | .tup l => D.pures l
  | .ref _ => false
  | .rol _ => false
  | .none => true
  | .bool _ => true
  | .int _ => true
  | .str _ => true
def D.pures : List D → Bool
  | [] => true
  | d :: r => D.pure d && D.pures r
end
mutual
def D.dep : D → Nat
  | .tup l => D.deps l + 1
  | .none => 0
  | .bool _ => 0
  | .int _ => 0
  | .str _ => 0
  | .ref _ => 0
  | .rol _ => 0
def D.deps : List D → Nat
  | [] => 0
  | d :: r => max (D.dep d) (D.deps r)
end
mutual
/-- a bool is not held against an int -/
def sameK : D → D → Bool
  | .bool _, .int _ => false
  | .int _, .bool _ => false
  | .tup a, .tup b => sameKs a b
  | _, _ => true
def sameKs : List D → List D → Bool
  | a :: r, b :: q => sameK a b && sameKs r q
  | _, _ => true
end
def okEq (d e : D) : Bool := d.pure && e.pure && sameK d e && decide (d.dep ≤ 63) && decide (e.dep ≤ 63)
theorem okEq_iff {d e : D} : okEq d e = true ↔ d.pure = true ∧ e.pure = true ∧ sameK d e = true ∧ d.dep ≤ 63 ∧ e.dep ≤ 63 := by
  simp [okEq, and_assoc]
mutual
theorem canLay_py : ∀ d : D, d.py.canLay0 = true
  | .none => by simp [D.py, PyData.canLay0]
  | .bool _ => by simp [D.py, PyData.canLay0]
  | .int _ => by simp [D.py, PyData.canLay0]
  | .str l => by
    have h : PyData.strOk (sT l) = true := by
      unfold PyData.strOk sT
      rw [← Array.all_toList]
      simp only [List.all_map, List.all_eq_true]
      intro c _
      have q := c.valid
      have e : c.toNat < 1114112 := by
        rcases q with q | q
        · exact Nat.lt_trans q (by decide)
        · exact q.2
      simpa using e
    simpa [D.py, PyData.canLay0] using h
  | .tup l => by simp [D.py, PyData.canLay0, canLay_pys l]
  | .ref _ => by simp [D.py, PyData.canLay0]
  | .rol _ => by simp [D.py, PyData.canLay0]
theorem canLay_pys : ∀ l : List D, PyData.canLayAll0 (D.pys l) = true
  | [] => by simp [D.pys, PyData.canLayAll0]
  | d :: r => by simp [D.pys, PyData.canLayAll0, canLay_py d, canLay_pys r]
end
mutual
theorem depth_py : ∀ d : D, d.py.depth = d.dep
  | .none => by simp [D.py, PyData.depth, D.dep]
  | .bool _ => by simp [D.py, PyData.depth, D.dep]
  | .int _ => by simp [D.py, PyData.depth, D.dep]
  | .str _ => by simp [D.py, PyData.depth, D.dep]
  | .tup l => by simp [D.py, PyData.depth, D.dep, depth_pys l]
  | .ref _ => by simp [D.py, PyData.depth, D.dep]
  | .rol _ => by simp [D.py, PyData.depth, D.dep]
theorem depth_pys : ∀ l : List D, PyData.depthAll (D.pys l) = D.deps l
  | [] => by simp [D.pys, PyData.depthAll, D.deps]
  | d :: r => by simp [D.pys, PyData.depthAll, D.deps, depth_py d, depth_pys r]
end
mutual
theorem eqv_py : ∀ d e : D, d.pure = true → e.pure = true → sameK d e = true → PyData.eqv d.py e.py = decide (d = e)
  | .none, e, _, _, _ => by cases e <;> simp_all [D.py, PyData.eqv, D.pure]
  | .bool b, e, _, _, _ => by cases e <;> simp_all [D.py, PyData.eqv, D.pure, sameK] <;> (rename_i c; cases b <;> cases c <;> rfl)
  | .int i, e, _, _, _ => by
    cases e <;> simp_all [D.py, PyData.eqv, D.pure, sameK]
    rw [Bool.eq_iff_iff]
    simp
  | .str l, e, _, _, _ => by
    cases e <;> simp_all [D.py, PyData.eqv, D.pure, sameK]
    rw [Bool.eq_iff_iff]
    simp only [beq_iff_eq, decide_eq_true_eq]
    exact ⟨sT_inj, fun h => by rw [h]⟩
  | .tup l, e, h1, h2, h3 => by
    cases e with
    | tup m =>
      have q := eqv_pys l m (by simpa [D.pure] using h1) (by simpa [D.pure] using h2) (by simpa [sameK] using h3)
      simp [D.py, PyData.eqv, q]
    | _ => simp_all [D.py, PyData.eqv, D.pure, sameK]
  | .ref _, _, h, _, _ => by simp [D.pure] at h
  | .rol _, _, h, _, _ => by simp [D.pure] at h
theorem eqv_pys : ∀ l m : List D, D.pures l = true → D.pures m = true → sameKs l m = true → PyData.eqvAll (D.pys l) (D.pys m) = decide (l = m)
  | [], m, _, _, _ => by cases m <;> simp [D.pys, PyData.eqvAll]
  | d :: r, m, h1, h2, h3 => by
    cases m with
    | nil => simp [D.pys, PyData.eqvAll]
    | cons e q =>
      simp only [D.pures, Bool.and_eq_true] at h1 h2
      simp only [sameKs, Bool.and_eq_true] at h3
      have e1 := eqv_py d e h1.1 h2.1 h3.1
      have e2 := eqv_pys r q h1.2 h2.2 h3.2
      simp only [D.pys, PyData.eqvAll, e1, e2]
      rw [Bool.eq_iff_iff]
      simp
end
mutual
theorem Rel.dp {K : PySem.W.Frag} {H : Hp} {ρ : List Addr} : ∀ {d : D} {v : V}, Rel H ρ d v → d.pure = true → Dp K H v d.py
  | _, _, .none, _ => by simpa [D.py] using Dp.non
  | _, _, .bool b, _ => by simpa [D.py] using Dp.bl b
  | _, _, .int i, _ => by simpa [D.py] using Dp.int i
  | _, _, .str l, _ => by simpa [D.py] using Dp.str (sT l)
  | _, _, .tup h r, p => by
    simp only [D.py]
    exact Dp.tup (SqT.of h) (Rels.dp r (by simpa [D.pure] using p))
  | _, _, .ref _, p => by simp [D.pure] at p
  | _, _, .rol _, p => by simp [D.pure] at p
theorem Rels.dp {K : PySem.W.Frag} {H : Hp} {ρ : List Addr} : ∀ {ds : List D} {vs : List V}, Rels H ρ ds vs → D.pures ds = true → DpAll K H vs (D.pys ds)
  | _, _, .nil, _ => by simpa [D.pys] using DpAll.nil
  | _, _, .cons r q, p => by
    simp only [D.pures, Bool.and_eq_true] at p
    simp only [D.pys]
    exact DpAll.cons (Rel.dp r p.1) (Rels.dp q p.2)
end
theorem shaped_py {d : D} (h : d.dep ≤ 64) : SeqAt.shaped d.py = true := by
  show (d.py.canLay0 && decide (d.py.depth ≤ 64)) = true
  rw [canLay_py, depth_py]
  simpa using h
theorem shaped_lst {l : List D} (h : D.deps l ≤ 63) : SeqAt.shaped (.list (D.pys l)) = true := by
  show ((PyData.list (D.pys l)).canLay0 && decide ((PyData.list (D.pys l)).depth ≤ 64)) = true
  simp [PyData.canLay0, PyData.depth, canLay_pys, depth_pys]
  omega
/-- == and != -/
def pEqB (neg : Bool) : D → D → Sto → O D
  | .ref i, .ref j, s => match s[i]?, s[j]? with
    | some (.lst a), some (.lst b) => if okEq (.tup a) (.tup b) = true then .ok (.bool (if neg then !decide (a = b) else decide (a = b))) s else .bad
    | _, _ => .bad
  | d, e, s => if okEq d e = true then .ok (.bool (if neg then !decide (d = e) else decide (d = e))) s else .bad
abbrev pEq := pEqB false
abbrev pNe := pEqB true
theorem calm_eq {b : Bool} : Calm2 (pEqB b) := by
  intro d e s x s' h
  unfold pEqB at h
  split at h <;> (try split at h) <;> (try split at h) <;> cases h
theorem eq_cases {b : Bool} {d e : D} {s : Sto} {mg : Str → Option Value} {K : PySem.W.Frag} {H : Hp} {ρ : List Addr} {Q : VK} {x y : V} (rd : Rel H ρ d x) (re : Rel H ρ e y) (hW : Wd mg H ρ s) (h : ResO mg H ρ (pEqB b d e s) Q) :
    ∃ p q, Dp K H x p ∧ Dp K H y q ∧ SeqAt.shaped p = true ∧ SeqAt.shaped q = true ∧ Q (.bl (if b then !PyData.eqv p q else PyData.eqv p q)) H := by
  have done : okEq d e = true → pEqB b d e s = .ok (.bool (if b then !decide (d = e) else decide (d = e))) s → ∃ p q, Dp K H x p ∧ Dp K H y q ∧ SeqAt.shaped p = true ∧ SeqAt.shaped q = true ∧ Q (.bl (if b then !PyData.eqv p q else PyData.eqv p q)) H := fun h1 h2 => by
    obtain ⟨p1, p2, p3, p4, p5⟩ := okEq_iff.mp h1
    rw [h2] at h
    refine ⟨d.py, e.py, rd.dp p1, re.dp p2, shaped_py (by omega), shaped_py (by omega), ?_⟩
    rw [eqv_py d e p1 p2 p3]
    exact h ρ H _ (Ext.refl _ _) hW (.bool _)
  unfold pEqB at h
  split at h
  · rename_i i j
    cases rd with
    | ref h1 =>
      cases re with
      | ref h2 =>
        split at h
        · rename_i a c e1 e2
          split at h
          · rename_i ho
            obtain ⟨p1, p2, p3, p4, p5⟩ := okEq_iff.mp ho
            obtain ⟨v1, q1, r1⟩ := hW.cel _ _ _ e1 h1
            obtain ⟨v2, q2, r2⟩ := hW.cel _ _ _ e2 h2
            simp only [D.pure] at p1 p2
            simp only [sameK] at p3
            simp only [D.dep] at p4 p5
            refine ⟨.list (D.pys a), .list (D.pys c), Dp.lst (SqL.of q1) (r1.dp p1), Dp.lst (SqL.of q2) (r2.dp p2), shaped_lst (by omega), shaped_lst (by omega), ?_⟩
            have q : PyData.eqv (.list (D.pys a)) (.list (D.pys c)) = decide (a = c) := by
              simp only [PyData.eqv]
              exact eqv_pys a c p1 p2 p3
            rw [q]
            exact h ρ H _ (Ext.refl _ _) hW (.bool _)
          · exact h.elim
        · exact h.elim
  · rename_i d e nr
    split at h
    · rename_i ho
      refine done ho ?_
      unfold pEqB
      split
      · exact absurd rfl (nr _ _ rfl)
      · rw [if_pos ho]
    · exact h.elim
section
variable {X : Cx}
theorem or_eq (hu : X.A.units + 64 < cLine) : OpR X (compareOp .Eq) (rP X.mg pEq) := by
  refine OpR_imp (op_eqD hu) ?_
  rintro x y H Q ⟨ρ, d, e, s, rd, re, hW, h⟩
  obtain ⟨p, q, h1, h2, h3, h4, h5⟩ := eq_cases (K := X.K) rd re hW h
  exact ⟨p, q, h1, h2, h3, h4, h5⟩
theorem or_ne (hu : X.A.units + 64 < cLine) : OpR X (compareOp .NotEq) (rP X.mg pNe) := by
  refine OpR_imp (op_neD hu) ?_
  rintro x y H Q ⟨ρ, d, e, s, rd, re, hW, h⟩
  obtain ⟨p, q, h1, h2, h3, h4, h5⟩ := eq_cases (K := X.K) rd re hW h
  exact ⟨p, q, h1, h2, h3, h4, h5⟩
end
end PL

namespace PL
open PySem PySem.Spec PyProof.Rows L2

/-! ### keys of dicts -/
def D.isKey : D → Bool
  | .int _ => true
  | .str _ => true
  | _ => false
/-- a key: an int, a text, a tuple of such (t) -/
def D.keyOk (t : Bool) : D → Bool
  | .tup l => t && l.all D.isKey
  | d => !t && d.isKey
theorem KeyR.ex {d : D} (h : d.isKey = true) : ∃ k, KeyR d k := by
  cases d <;> first | exact ⟨_, .int _⟩ | exact ⟨_, .str _⟩ | simp [D.isKey] at h
theorem KeysR.ex : ∀ {ds : List D}, ds.all D.isKey = true → ∃ ks, KeysR ds ks
  | [], _ => ⟨[], .nil⟩
  | d :: r, h => by
    simp only [List.all_cons, Bool.and_eq_true] at h
    obtain ⟨k, hk⟩ := KeyR.ex h.1
    obtain ⟨ks, hs⟩ := KeysR.ex (ds := r) h.2
    exact ⟨k :: ks, .cons hk hs⟩
theorem KeyR.val {H : Hp} {ρ : List Addr} {d : D} {k : Key} {v : V} (r : KeyR d k) (q : Rel H ρ d v) : v = kV k := by
  cases r <;> cases q <;> rfl
theorem KeysR.val {H : Hp} {ρ : List Addr} : ∀ {ds : List D} {ks : List Key} {vs : List V}, KeysR ds ks → Rels H ρ ds vs → vs = ks.map kV
  | _, _, _, .nil, .nil => rfl
  | _, _, _, .cons r s, .cons q t => by rw [List.map_cons, r.val q, KeysR.val s t]
theorem KeyR.iff {c d : D} {k j : Key} (r : KeyR c k) (q : KeyR d j) : c = d ↔ k = j := by
  cases r <;> cases q <;> simp
  constructor
  · intro h; rw [h]
  · exact sT_inj
theorem KeysR.iff : ∀ {c d : List D} {k j : List Key}, KeysR c k → KeysR d j → (c = d ↔ k = j)
  | _, _, _, _, .nil, .nil => by simp
  | _, _, _, _, .nil, .cons _ _ => by simp
  | _, _, _, _, .cons _ _, .nil => by simp
  | _, _, _, _, .cons r s, .cons q t => by
    have h1 := r.iff q
    have h2 := KeysR.iff s t
    simp [h1, h2]
def dget (l : List (D × D)) (k : D) : Option D := (l.find? fun p => decide (p.1 = k)).map (·.2)
def dput (l : List (D × D)) (k d : D) : List (D × D) := if (l.any fun p => decide (p.1 = k)) = true then l.map fun p => if p.1 = k then (p.1, d) else p else l ++ [(k, d)]
theorem RelK.get {H : Hp} {ρ : List Addr} {c : D} {k : Key} (hc : KeyR c k) : ∀ {ds : List (D × D)} {vs : List (Key × V)}, RelK H ρ ds vs →
    (∃ d v, dget ds c = some d ∧ valV vs k = some v ∧ Rel H ρ d v) ∨ (dget ds c = none ∧ valV vs k = none)
  | _, _, .nil => .inr ⟨rfl, rfl⟩
  | _, _, .cons (c := c') (k := k') (d := d) (v := v) (ds := ds) (vs := vs) hk r q => by
    by_cases h : c' = c
    · have h2 := (hk.iff hc).mp h
      exact .inl ⟨d, v, by simp [dget, List.find?_cons, h], valV_pos h2, r⟩
    · have h2 : ¬ k' = k := fun z => h ((hk.iff hc).mpr z)
      have e1 : dget ((c', d) :: ds) c = dget ds c := by simp [dget, List.find?_cons, h]
      have e2 : valV ((k', v) :: vs) k = valV vs k := valV_neg h2
      rw [e1, e2]
      exact RelK.get hc q
theorem RelT.get {H : Hp} {ρ : List Addr} {c : List D} {k : List Key} (hc : KeysR c k) : ∀ {ds : List (D × D)} {vs : List (List Key × V)}, RelT H ρ ds vs →
    (∃ d v, dget ds (.tup c) = some d ∧ valV vs k = some v ∧ Rel H ρ d v) ∨ (dget ds (.tup c) = none ∧ valV vs k = none)
  | _, _, .nil => .inr ⟨rfl, rfl⟩
  | _, _, .cons (c := c') (k := k') (d := d) (v := v) (ds := ds) (vs := vs) hk r q => by
    by_cases h : c' = c
    · have h2 := (hk.iff hc).mp h
      exact .inl ⟨d, v, by simp [dget, List.find?_cons, h], valV_pos h2, r⟩
    · have h2 : ¬ k' = k := fun z => h ((hk.iff hc).mpr z)
      have e1 : dget ((.tup c', d) :: ds) (.tup c) = dget ds (.tup c) := by simp [dget, List.find?_cons, h]
      have e2 : valV ((k', v) :: vs) k = valV vs k := valV_neg h2
      rw [e1, e2]
      exact RelT.get hc q
theorem RelK.any {H : Hp} {ρ : List Addr} {c : D} {k : Key} (hc : KeyR c k) : ∀ {ds : List (D × D)} {vs : List (Key × V)}, RelK H ρ ds vs → (ds.any fun p => decide (p.1 = c)) = vs.any fun p => decide (p.1 = k)
  | _, _, .nil => rfl
  | _, _, .cons hk _ q => by
    have h := hk.iff hc
    rw [List.any_cons, List.any_cons, RelK.any hc q]
    congr 1
    rw [Bool.eq_iff_iff]
    simpa using h
theorem RelT.any {H : Hp} {ρ : List Addr} {c : List D} {k : List Key} (hc : KeysR c k) : ∀ {ds : List (D × D)} {vs : List (List Key × V)}, RelT H ρ ds vs → (ds.any fun p => decide (p.1 = .tup c)) = vs.any fun p => decide (p.1 = k)
  | _, _, .nil => rfl
  | _, _, .cons hk _ q => by
    have h := hk.iff hc
    rw [List.any_cons, List.any_cons, RelT.any hc q]
    congr 1
    rw [Bool.eq_iff_iff]
    simpa using h
theorem RelK.app {H : Hp} {ρ : List Addr} : ∀ {ds es : List (D × D)} {vs us : List (Key × V)}, RelK H ρ ds vs → RelK H ρ es us → RelK H ρ (ds ++ es) (vs ++ us)
  | _, _, _, _, .nil, s => s
  | _, _, _, _, .cons k r t, s => .cons k r (RelK.app t s)
theorem RelT.app {H : Hp} {ρ : List Addr} : ∀ {ds es : List (D × D)} {vs us : List (List Key × V)}, RelT H ρ ds vs → RelT H ρ es us → RelT H ρ (ds ++ es) (vs ++ us)
  | _, _, _, _, .nil, s => s
  | _, _, _, _, .cons k r t, s => .cons k r (RelT.app t s)
theorem RelK.repl {H : Hp} {ρ : List Addr} {c : D} {k : Key} {d : D} {v : V} (hc : KeyR c k) (hr : Rel H ρ d v) : ∀ {ds : List (D × D)} {vs : List (Key × V)}, RelK H ρ ds vs →
    RelK H ρ (ds.map fun p => if p.1 = c then (p.1, d) else p) (vs.map fun p => if p.1 = k then (p.1, v) else p)
  | _, _, .nil => .nil
  | _, _, .cons (c := c') (k := k') hk r q => by
    have ih := RelK.repl hc hr q
    rw [List.map_cons, List.map_cons]
    by_cases h : c' = c
    · rw [if_pos h, if_pos ((hk.iff hc).mp h)]
      exact .cons hk hr ih
    · rw [if_neg h, if_neg fun z => h ((hk.iff hc).mpr z)]
      exact .cons hk r ih
theorem RelT.repl {H : Hp} {ρ : List Addr} {c : List D} {k : List Key} {d : D} {v : V} (hc : KeysR c k) (hr : Rel H ρ d v) : ∀ {ds : List (D × D)} {vs : List (List Key × V)}, RelT H ρ ds vs →
    RelT H ρ (ds.map fun p => if p.1 = .tup c then (p.1, d) else p) (vs.map fun p => if p.1 = k then (p.1, v) else p)
  | _, _, .nil => .nil
  | _, _, .cons (c := c') (k := k') hk r q => by
    have ih := RelT.repl hc hr q
    rw [List.map_cons, List.map_cons]
    by_cases h : c' = c
    · rw [if_pos (by rw [h]), if_pos ((hk.iff hc).mp h)]
      exact .cons hk hr ih
    · rw [if_neg (by simpa using h), if_neg fun z => h ((hk.iff hc).mpr z)]
      exact .cons hk r ih
theorem RelK.put {H : Hp} {ρ : List Addr} {c : D} {k : Key} {d : D} {v : V} (hc : KeyR c k) (hr : Rel H ρ d v) {ds : List (D × D)} {vs : List (Key × V)} (r : RelK H ρ ds vs) : RelK H ρ (dput ds c d) (putK vs k v) := by
  unfold dput putK
  rw [r.any hc]
  split
  · exact r.repl hc hr
  · exact r.app (.cons hc hr .nil)
theorem RelT.put {H : Hp} {ρ : List Addr} {c : List D} {k : List Key} {d : D} {v : V} (hc : KeysR c k) (hr : Rel H ρ d v) {ds : List (D × D)} {vs : List (List Key × V)} (r : RelT H ρ ds vs) : RelT H ρ (dput ds (.tup c) d) (putK vs k v) := by
  unfold dput putK
  rw [r.any hc]
  split
  · exact r.repl hc hr
  · exact r.app (.cons hc hr .nil)
theorem RelK.length {H : Hp} {ρ : List Addr} {ds : List (D × D)} {vs : List (Key × V)} (r : RelK H ρ ds vs) : ds.length = vs.length := by
  induction r with
  | nil => rfl
  | cons _ _ _ ih => exact congrArg (· + 1) ih
theorem RelT.length {H : Hp} {ρ : List Addr} {ds : List (D × D)} {vs : List (List Key × V)} (r : RelT H ρ ds vs) : ds.length = vs.length := by
  induction r with
  | nil => rfl
  | cons _ _ _ ih => exact congrArg (· + 1) ih
theorem keyOk_cases {t : Bool} {d : D} (h : d.keyOk t = true) : (t = false ∧ ∃ k, KeyR d k) ∨ ∃ l, t = true ∧ d = .tup l ∧ ∃ k, KeysR l k := by
  cases d with
  | tup l =>
    simp only [D.keyOk, Bool.and_eq_true] at h
    exact .inr ⟨l, h.1, rfl, KeysR.ex h.2⟩
  | _ =>
    simp only [D.keyOk, Bool.and_eq_true, Bool.not_eq_true'] at h
    exact .inl ⟨h.1, KeyR.ex h.2⟩
/-- what a dict's cell holds at a key -/
theorem dget_at {mg : Str → Option Value} {H : Hp} {ρ : List Addr} {a : Addr} {t : Bool} {l : List (D × D)} {k : D} {y : V} (h : CellR mg H ρ a (.dct t l)) (ho : k.keyOk t = true) (ry : Rel H ρ k y) :
    (∃ d v, dget l k = some d ∧ DGet H a y (some v) ∧ Rel H ρ d v) ∨ (dget l k = none ∧ DGet H a y none) := by
  rcases keyOk_cases ho with ⟨rfl, j, hj⟩ | ⟨c, rfl, rfl, j, hj⟩
  · obtain ⟨vs, e, r⟩ := h
    have ey := hj.val ry
    rcases r.get hj with ⟨d, v, h1, h2, h3⟩ | ⟨h1, h2⟩
    · exact .inl ⟨d, v, h1, by rw [ey, ← h2]; exact DGet.k e, h3⟩
    · exact .inr ⟨h1, by rw [ey, ← h2]; exact DGet.k e⟩
  · obtain ⟨vs, e, r⟩ := h
    cases ry with
    | tup hb rs =>
      rw [hj.val rs] at hb
      rcases r.get hj with ⟨d, v, h1, h2, h3⟩ | ⟨h1, h2⟩
      · exact .inl ⟨d, v, h1, by rw [← h2]; exact DGet.t e hb, h3⟩
      · exact .inr ⟨h1, by rw [← h2]; exact DGet.t e hb⟩

/-! ### subscripts -/
def pIx : D → D → Sto → O D
  | .tup l, .int i, s => match atI l i with
    | some d => .ok d s
    | none => .bad
  | .str l, .int i, s => if l.length ≤ LN then (match atI l i with
    | some c => .ok (.str [c]) s
    | none => .bad) else .bad
  | .rol l, .int i, s => match atI l i with
    | some j => .ok (.int j) s
    | none => .bad
  | .ref n, k, s => match s[n]? with
    | some (.lst l) => (match k with
      | .int i => (match atI l i with
        | some d => .ok d s
        | none => .bad)
      | _ => .bad)
    | some (.dct t l) => if k.keyOk t = true then (match dget l k with
      | some d => .ok d s
      | none => .bad) else .bad
    | _ => .bad
  | _, _, _ => .bad
theorem calm_ix : Calm2 pIx := by
  intro d e s x s' h
  unfold pIx at h
  split at h <;> (try split at h) <;> (try split at h) <;> (try split at h) <;> (try split at h) <;> cases h
theorem Rels.atI {H : Hp} {ρ : List Addr} {ds : List D} {vs : List V} {i : Int} {d : D} (r : Rels H ρ ds vs) (h : L2.atI ds i = some d) : ∃ v, L2.atI vs i = some v ∧ Rel H ρ d v := by
  unfold L2.atI at h ⊢
  rw [r.length] at h
  cases e : ixN vs.length i with
  | none => rw [e] at h; cases h
  | some j =>
    rw [e] at h
    exact r.get h
theorem atI_map {α β : Type} (f : α → β) (l : List α) (i : Int) : L2.atI (l.map f) i = (L2.atI l i).map f := by
  unfold L2.atI
  rw [List.length_map]
  cases ixN l.length i <;> simp
section
variable {X : Cx}
theorem ix_dict (hu : X.A.units + 1 < cLine) : IxR X (fun x y H Q => ∃ a v, x = .ref a ∧ DGet H a y (some v) ∧ Q v H) := by
  intro value slice pins s σ H x y v u Q I rx ry h hs
  obtain ⟨a, w, rfl, g, q⟩ := h
  cases rx
  exact tail_any (dict_typeIs I g) PySem.F.slot_dict_getitem.lookup (d_getItem hu I g ry fun w' s' I' r' => ⟨w, H, I', r', q⟩) hs
theorem IxR_imp {r r' : R2} (h : IxR X r) (i : ∀ x y H Q, r' x y H Q → r x y H Q) : IxR X r' := fun value slice pins s σ H x y v u Q I rx ry q hs => h value slice pins s σ H x y v u Q I rx ry (i x y H Q q) hs
theorem or_ix (hu : X.A.units + 1 < cLine) : IxR X (rP X.mg pIx) := by
  refine IxR_imp (ix_list.or (ix_tup.or (ix_str.or (ix_dict hu)))) ?_
  rintro x y H Q ⟨ρ, d, e, s, rd, re, hW, h⟩
  unfold pIx at h
  split at h
  · split at h
    · rename_i e1
      cases re
      cases rd with
      | tup h1 r1 =>
        obtain ⟨w, h2, r2⟩ := r1.atI e1
        exact .inr (.inl ⟨_, _, _, _, rfl, rfl, SqT.of h1, h2, h ρ H _ (Ext.refl _ _) hW r2⟩)
    · exact h.elim
  · split at h
    · rename_i hl
      split at h
      · rename_i l i c e1
        cases re
        cases rd
        refine .inr (.inr (.inl ⟨_, _, c.toNat, rfl, rfl, by rw [sT_len]; exact ln_le hl, by rw [sT_cps, atI_map, e1] <;> rfl, h ρ H _ (Ext.refl _ _) hW (.str [c])⟩))
      · exact h.elim
    · exact h.elim
  · split at h
    · rename_i l i j e1
      cases re
      cases rd with
      | rol h1 => exact .inl ⟨_, _, _, _, rfl, rfl, .inl (.inr ⟨_, h1⟩), by rw [atI_map, e1] <;> rfl, h ρ H _ (Ext.refl _ _) hW (.int j)⟩
    · exact h.elim
  · cases rd with
    | ref h1 =>
      split at h
      · rename_i e0
        obtain ⟨v1, q1, r1⟩ := hW.cel _ _ _ e0 h1
        split at h
        · split at h
          · rename_i e1
            cases re
            obtain ⟨w, h2, r2⟩ := r1.atI e1
            exact .inl ⟨_, _, _, _, rfl, rfl, SqL.of q1, h2, h ρ H _ (Ext.refl _ _) hW r2⟩
          · exact h.elim
        · exact h.elim
      · rename_i e0
        have hc := hW.cel _ _ _ e0 h1
        split at h
        · rename_i ho
          rcases dget_at hc ho re with ⟨d, v, h2, h3, h4⟩ | ⟨h2, _⟩
          · rw [h2] at h
            exact .inr (.inr (.inr ⟨_, v, rfl, h3, h ρ H _ (Ext.refl _ _) hW h4⟩))
          · rw [h2] at h
            exact h.elim
        · exact h.elim
      · exact h.elim
  · exact h.elim
variable {W : WX} {a b : Expr} {fa fb : Ex} {pos : Pos}
theorem ev_ix (hu : X.A.units + 64 < cLine) (ha : EV X W a fa) (hb : EV X W b fb) (hs : PlainIx b := by exact fun _ _ => rfl) : EV X W (.Subscript a b pos) (xBin pIx fa fb) :=
  PE_imp (pe_ix (or_ix (by omega)) ha hb hs) fun σ H Q h => bin_imp calm_ix h
end

/-! ### order, membership, is None -/
def pCmpI (k : Int → Int → Bool) : D → D → Sto → O D
  | .int a, .int b, s => .ok (.bool (k a b)) s
  | _, _, _ => .bad
abbrev pLt := pCmpI fun i j => decide (i < j)
abbrev pLe := pCmpI fun i j => decide (i ≤ j)
abbrev pGt := pCmpI fun i j => decide (j < i)
abbrev pGe := pCmpI fun i j => decide (j ≤ i)
theorem calm_cmp {k : Int → Int → Bool} : Calm2 (pCmpI k) := by intro d e s x s' h; unfold pCmpI at h; split at h <;> cases h
/-- x is None -/
def pIs : D → D → Sto → O D
  | d, .none, s => .ok (.bool (decide (d = .none))) s
  | .bool a, .bool b, s => .ok (.bool (decide (a = b))) s
  | _, _, _ => .bad
def pIsNot : D → D → Sto → O D
  | d, .none, s => .ok (.bool (!decide (d = .none))) s
  | .bool a, .bool b, s => .ok (.bool (!decide (a = b))) s
  | _, _, _ => .bad
theorem calm_is : Calm2 pIs := by intro d e s x s' h; unfold pIs at h; split at h <;> cases h
theorem calm_isnot : Calm2 pIsNot := by intro d e s x s' h; unfold pIsNot at h; split at h <;> cases h
def okIn (d : D) (l : List D) : Bool := d.pure && decide (d.dep ≤ 63) && l.all (okEq d)
def pIn (neg : Bool) : D → D → Sto → O D
  | .str [c], .str t, s => .ok (.bool (if neg then !decide (c ∈ t) else decide (c ∈ t))) s
  | d, .tup l, s => if okIn d l = true then .ok (.bool (if neg then !decide (d ∈ l) else decide (d ∈ l))) s else .bad
  | d, .ref n, s => match s[n]? with
    | some (.lst l) => if okIn d l = true then .ok (.bool (if neg then !decide (d ∈ l) else decide (d ∈ l))) s else .bad
    | some (.dct t l) => if d.keyOk t = true then .ok (.bool (if neg then !(dget l d).isSome else (dget l d).isSome)) s else .bad
    | _ => .bad
  | _, _, _ => .bad
theorem calm_in {b : Bool} : Calm2 (pIn b) := by
  intro d e s x s' h
  unfold pIn at h
  split at h <;> (try split at h) <;> (try split at h) <;> cases h
mutual
theorem sameK_comm : ∀ d e : D, sameK d e = sameK e d
  | .tup a, .tup b => by
    rw [sameK, sameK]
    exact sameKs_comm a b
  | .none, e => by cases e <;> rfl
  | .bool _, e => by cases e <;> rfl
  | .int _, e => by cases e <;> rfl
  | .str _, e => by cases e <;> rfl
  | .ref _, e => by cases e <;> rfl
  | .rol _, e => by cases e <;> rfl
  | .tup _, .none => rfl
  | .tup _, .bool _ => rfl
  | .tup _, .int _ => rfl
  | .tup _, .str _ => rfl
  | .tup _, .ref _ => rfl
  | .tup _, .rol _ => rfl
theorem sameKs_comm : ∀ l m : List D, sameKs l m = sameKs m l
  | [], m => by cases m <;> rfl
  | d :: r, [] => rfl
  | d :: r, e :: q => by
    rw [sameKs, sameKs, sameK_comm d e, sameKs_comm r q]
end
theorem any_pys {d : D} : ∀ {l : List D}, l.all (okEq d) = true → ((D.pys l).any fun z => PyData.eqv z d.py) = decide (d ∈ l)
  | [], _ => by simp [D.pys]
  | e :: r, h => by
    simp only [List.all_cons, Bool.and_eq_true] at h
    obtain ⟨p1, p2, p3, p4, p5⟩ := okEq_iff.mp h.1
    have ih := any_pys (d := d) h.2
    have hs : sameK e d = true := by rw [sameK_comm]; exact p3
    simp only [D.pys, List.any_cons, ih, eqv_py e d p2 p1 hs]
    rw [Bool.eq_iff_iff]
    simp only [Bool.or_eq_true, decide_eq_true_eq, List.mem_cons]
    constructor
    · rintro (h | h)
      · exact .inl h.symm
      · exact .inr h
    · rintro (h | h)
      · exact .inl h.symm
      · exact .inr h
theorem pures_of {d : D} : ∀ {l : List D}, l.all (okEq d) = true → D.pures l = true ∧ D.deps l ≤ 63
  | [], _ => ⟨by simp [D.pures], by simp [D.deps]⟩
  | e :: r, h => by
    simp only [List.all_cons, Bool.and_eq_true] at h
    obtain ⟨p1, p2, p3, p4, p5⟩ := okEq_iff.mp h.1
    obtain ⟨q1, q2⟩ := pures_of (d := d) h.2
    exact ⟨by simp [D.pures, p2, q1], by simp only [D.deps]; omega⟩
theorem okIn_iff {d : D} {l : List D} (h : okIn d l = true) : d.pure = true ∧ d.dep ≤ 63 ∧ l.all (okEq d) = true ∧ D.pures l = true ∧ D.deps l ≤ 63 := by
  unfold okIn at h
  simp only [Bool.and_eq_true, decide_eq_true_eq] at h
  obtain ⟨q1, q2⟩ := pures_of h.2
  exact ⟨h.1.1, h.1.2, h.2, q1, q2⟩
section
variable {X : Cx}
theorem or_cmpI {op : CmpOp} {k : Int → Int → Bool} (ho : OpR X (compareOp op) (rI0 fun i j => .bl (k i j))) : OpR X (compareOp op) (rP X.mg (pCmpI k)) := by
  refine OpR_imp ho ?_
  rintro x y H Q ⟨ρ, d, e, s, rd, re, hW, h⟩
  unfold pCmpI at h
  split at h
  · cases rd
    cases re
    exact ⟨_, _, rfl, rfl, h ρ H _ (Ext.refl _ _) hW (.bool _)⟩
  · exact h.elim
theorem or_lt : OpR X (compareOp .Lt) (rP X.mg pLt) := or_cmpI op_lt
theorem or_le : OpR X (compareOp .LtE) (rP X.mg pLe) := or_cmpI op_le
theorem or_gt : OpR X (compareOp .Gt) (rP X.mg pGt) := or_cmpI op_gt
theorem or_ge : OpR X (compareOp .GtE) (rP X.mg pGe) := or_cmpI op_ge
theorem Rel.none_iff {H : Hp} {ρ : List Addr} {d : D} {v : V} (r : Rel H ρ d v) : decide (v = .non) = decide (d = .none) := by
  cases r <;> simp
theorem or_is : OpR X (compareOp .Is) (rP X.mg pIs) := by
  refine OpR_imp (op_isN.or op_isBl) ?_
  rintro x y H Q ⟨ρ, d, e, s, rd, re, hW, h⟩
  unfold pIs at h
  split at h
  · cases re
    exact .inl ⟨rfl, by rw [rd.none_iff]; exact h ρ H _ (Ext.refl _ _) hW (.bool _)⟩
  · cases rd
    cases re
    exact .inr ⟨_, _, rfl, rfl, h ρ H _ (Ext.refl _ _) hW (.bool _)⟩
  · exact h.elim
theorem or_isnot : OpR X (compareOp .IsNot) (rP X.mg pIsNot) := by
  refine OpR_imp (op_notN.or op_notBl) ?_
  rintro x y H Q ⟨ρ, d, e, s, rd, re, hW, h⟩
  unfold pIsNot at h
  split at h
  · cases re
    exact .inl ⟨rfl, by rw [rd.none_iff]; exact h ρ H _ (Ext.refl _ _) hW (.bool _)⟩
  · cases rd
    cases re
    exact .inr ⟨_, _, rfl, rfl, h ρ H _ (Ext.refl _ _) hW (.bool _)⟩
  · exact h.elim
/-- a pure thing in a tuple -/
theorem op_inTup (hu : X.A.units + 65 < cLine) (neg : Bool) : OpR X (compareOp (if neg then .NotIn else .In)) (fun x y H Q => ∃ p ps, Dp X.K H x p ∧ Dp X.K H y (.tuple ps) ∧ SeqAt.shaped p = true ∧ SeqAt.shaped (.list ps) = true ∧ Q (.bl (if neg then !ps.any fun z => PyData.eqv z p else ps.any fun z => PyData.eqv z p)) H) := by
  intro pins s σ H x y v u Q I rx ry h
  obtain ⟨p, ps, h1, h2, h3, h4, q⟩ := h
  obtain ⟨as, r1⟩ := Dp.reads I p x v h1 rx
  obtain ⟨bs, r2⟩ := Dp.reads I (.tuple ps) y u h2 ry
  have c1 := SeqAt.canLay_of_shaped h4
  have d1 := SeqAt.depth_of_shaped h3
  have hm : X.A.units + 1 + min (PyData.depthAll ps) p.depth < cLine := by
    have : min (PyData.depthAll ps) p.depth ≤ 64 := Nat.le_trans (Nat.min_le_right _ _) d1
    omega
  cases neg with
  | false => exact SeqAt.in_tuple_reads r2 r1 (by simpa [PyData.canLay0] using c1) (SeqAt.canLay_of_shaped h3) hm ⟨.bl _, H, I, rfl, q⟩
  | true => exact SeqAt.notIn_tuple_reads r2 r1 (by simpa [PyData.canLay0] using c1) (SeqAt.canLay_of_shaped h3) hm ⟨.bl _, H, I, rfl, q⟩
theorem op_inDict (hu : X.A.units + 1 < cLine) (neg : Bool) : OpR X (compareOp (if neg then .NotIn else .In)) (fun x y H Q => ∃ a o, y = .ref a ∧ DGet H a x o ∧ Q (.bl (if neg then !o.isSome else o.isSome)) H) := by
  intro pins s σ H x y v u Q I rx ry h
  obtain ⟨a, o, rfl, g, q⟩ := h
  cases ry
  cases neg with
  | false => exact d_in hu I g rx fun s' I' => ⟨.bl _, H, I', rfl, q⟩
  | true => exact d_notIn hu I g rx fun s' I' => ⟨.bl _, H, I', rfl, q⟩
theorem op_inLst (hu : X.A.units + 65 < cLine) (neg : Bool) : OpR X (compareOp (if neg then .NotIn else .In)) (fun x y H Q => ∃ p ps, Dp X.K H x p ∧ Dp X.K H y (.list ps) ∧ SeqAt.shaped p = true ∧ SeqAt.shaped (.list ps) = true ∧ Q (.bl (if neg then !ps.any fun z => PyData.eqv z p else ps.any fun z => PyData.eqv z p)) H) := by
  cases neg with
  | false => exact op_inD hu
  | true => exact op_notInD hu
theorem op_inSign (neg : Bool) : OpR X (compareOp (if neg then .NotIn else .In)) (fun x y H Q => ∃ (c : Nat) (z : Str), x = .str ⟨#[c]⟩ ∧ y = .str z ∧ Q (.bl (if neg then !decide (c ∈ z.cps.toList) else decide (c ∈ z.cps.toList))) H) := by
  cases neg with
  | false => exact op_in_sign
  | true => exact op_notIn_sign
theorem mem_chr {c : Char} {t : List Char} : (c.toNat ∈ t.map Char.toNat) ↔ c ∈ t := by
  constructor
  · intro h
    obtain ⟨b, hb, e⟩ := List.mem_map.mp h
    exact chr_inj e ▸ hb
  · exact fun h => List.mem_map.mpr ⟨c, h, rfl⟩
theorem or_in (hu : X.A.units + 65 < cLine) (neg : Bool) : OpR X (compareOp (if neg then .NotIn else .In)) (rP X.mg (pIn neg)) := by
  refine OpR_imp ((op_inSign neg).or ((op_inTup hu neg).or ((op_inLst hu neg).or (op_inDict (by omega) neg)))) ?_
  rintro x y H Q ⟨ρ, d, e, s, rd, re, hW, h⟩
  unfold pIn at h
  split at h
  · rename_i c t
    cases rd
    cases re
    refine .inl ⟨c.toNat, sT t, rfl, rfl, ?_⟩
    have e1 : decide (c.toNat ∈ (sT t).cps.toList) = decide (c ∈ t) := by
      rw [sT_cps, decide_eq_decide]
      exact mem_chr
    rw [e1]
    exact h ρ H _ (Ext.refl _ _) hW (.bool _)
  · split at h
    · rename_i ho
      obtain ⟨p1, p2, p3, p4, p5⟩ := okIn_iff ho
      refine .inr (.inl ⟨_, _, rd.dp p1, re.dp (by simpa [D.pure] using p4), shaped_py (by omega), shaped_lst p5, ?_⟩)
      rw [any_pys p3]
      exact h ρ H _ (Ext.refl _ _) hW (.bool _)
    · exact h.elim
  · cases re with
    | ref h1 =>
      split at h
      · rename_i e0
        obtain ⟨v1, q1, r1⟩ := hW.cel _ _ _ e0 h1
        split at h
        · rename_i ho
          obtain ⟨p1, p2, p3, p4, p5⟩ := okIn_iff ho
          refine .inr (.inr (.inl ⟨_, _, rd.dp p1, Dp.lst (SqL.of q1) (r1.dp p4), shaped_py (by omega), shaped_lst p5, ?_⟩))
          rw [any_pys p3]
          exact h ρ H _ (Ext.refl _ _) hW (.bool _)
        · exact h.elim
      · rename_i e0
        have hc := hW.cel _ _ _ e0 h1
        split at h
        · rename_i ho
          rcases dget_at hc ho rd with ⟨d', v, h2, h3, h4⟩ | ⟨h2, h3⟩
          · rw [h2] at h
            exact .inr (.inr (.inr ⟨_, _, rfl, h3, h ρ H _ (Ext.refl _ _) hW (.bool _)⟩))
          · rw [h2] at h
            exact .inr (.inr (.inr ⟨_, _, rfl, h3, h ρ H _ (Ext.refl _ _) hW (.bool _)⟩))
        · exact h.elim
      · exact h.elim
  · exact h.elim
end

/-! ### tests -/
def pTruth : D → Sto → O Bool
  | .none, s => .ok false s
  | .bool b, s => .ok b s
  | .int i, s => .ok (i != 0) s
  | .str l, s => if l.length ≤ LN then .ok (!l.isEmpty) s else .bad
  | .tup l, s => .ok (!l.isEmpty) s
  | .ref n, s => match s[n]? with
    | some (.lst l) => .ok (!l.isEmpty) s
    | some (.dct false l) => .ok (!l.isEmpty) s
    | _ => .bad
  | .rol _, _ => .bad
def tOf (a : Ex) : Tx := fun l s => (a l s).bind pTruth
def tAnd2 (a b : Tx) : Tx := fun l s => (a l s).bind fun c s1 => if c = true then b l s1 else .ok false s1
def tOr2 (a b : Tx) : Tx := fun l s => (a l s).bind fun c s1 => if c = true then .ok true s1 else b l s1
def tNot1 (a : Tx) : Tx := fun l s => (a l s).bind fun c s1 => .ok (!c) s1
def xAnd2 (a b : Ex) : Ex := fun l s => (a l s).bind fun d s1 => match d with
  | .bool true => b l s1
  | .bool false => .ok (.bool false) s1
  | _ => .bad
def xOr2 (a b : Ex) : Ex := fun l s => (a l s).bind fun d s1 => match d with
  | .bool true => .ok (.bool true) s1
  | .bool false => b l s1
  | _ => .bad
def xNot1 (a : Ex) : Ex := fun l s => (a l s).bind fun d s1 => match d with
  | .bool c => .ok (.bool (!c)) s1
  | _ => .bad
def xIfE (t : Tx) (a b : Ex) : Ex := fun l s => (t l s).bind fun c s1 => if c = true then a l s1 else b l s1
theorem emp_len {α : Type} (l : List α) : (!l.isEmpty) = (((l.length : Nat) : Int) != 0) := by
  cases l with
  | nil => rfl
  | cons x t =>
    have e : ((((x :: t).length : Nat) : Int) != 0) = true := by
      rw [List.length_cons]
      simp only [bne_iff_ne, ne_eq]
      omega
    rw [e]
    rfl
theorem pTruth_calm {d : D} {s : Sto} {x : Xn} {s' : Sto} : pTruth d s ≠ .exc x s' := by
  intro h
  unfold pTruth at h
  split at h <;> (try split at h) <;> cases h
section
variable {X : Cx} {W : WX} {a b c : Expr} {fa fb : Ex} {ta tb : Tx} {pos : Pos} {rest : List Expr}
theorem truV_of {mg : Str → Option Value} {H : Hp} {ρ : List Addr} {d : D} {v : V} {s s' : Sto} {k : Bool} (r : Rel H ρ d v) (hW : Wd mg H ρ s) (h : pTruth d s = .ok k s') : s' = s ∧ TruV X.K v H k := by
  unfold pTruth at h
  split at h
  · cases h; cases r; exact ⟨rfl, rfl⟩
  · cases h; cases r; exact ⟨rfl, rfl⟩
  · cases h; cases r; exact ⟨rfl, rfl⟩
  · split at h
    · rename_i l s hl
      cases h; cases r
      refine ⟨rfl, by rw [sT_len]; exact ln_le hl, ?_⟩
      rw [sT_len]
      exact emp_len _
    · cases h
  · cases h
    cases r with
    | tup h1 r1 =>
      refine ⟨rfl, .inr (.inl ⟨_, SqT.of h1, ?_⟩)⟩
      cases r1 <;> rfl
  · split at h
    · rename_i e0
      cases h
      cases r with
      | ref h1 =>
        obtain ⟨v1, q1, r1⟩ := hW.cel _ _ _ e0 h1
        refine ⟨rfl, .inl ⟨_, SqL.of q1, ?_⟩⟩
        cases r1 <;> rfl
    · rename_i e0
      cases h
      cases r with
      | ref h1 =>
        obtain ⟨v1, q1, r1⟩ := hW.cel _ _ _ e0 h1
        refine ⟨rfl, .inr (.inr ⟨_, q1, ?_⟩)⟩
        cases r1 <;> rfl
    · cases h
  · cases h
theorem truth_imp {σ : St} {H : Hp} {Q : Bool → Hp → Prop} (h : tT X.mg W (tOf fa) σ H Q) : tE X.mg W fa σ H fun x H' => ∃ k, TruV X.K x H' k ∧ Q k H' := by
  obtain ⟨ρ, l, s, hE, hW, h⟩ := h
  refine gBind (a := fa) (rel0 := Rel) hE hW h fun d s1 ρ1 H1 v x1 hE1 hW1 r1 h1 => ?_
  cases e : pTruth d s1 with
  | ok k s2 =>
    obtain ⟨rfl, ht⟩ := truV_of (X := X) r1 hW1 e
    rw [e] at h1
    exact ⟨k, ht, h1 ρ1 H1 k (Ext.refl _ _) hW1 rfl⟩
  | exc x s2 => exact absurd e pTruth_calm
  | bad => rw [e] at h1; exact h1.elim
/-- a value's truth: names, calls, subscripts, fields -/
theorem tv_of (ha : EV X W a fa) (he : ∀ whole, isTrue a X.env whole = (do let v ← whole; standAt a.pos; holding [v] (truthy v)) := by intro _; rfl) : TV X W a (tOf fa) :=
  PT_imp (pt_truth ha he) fun σ H Q h => truth_imp h
theorem tv_cmp {op : CmpOp} {g : D → D → Sto → O D} (ho : OpR X (compareOp op) (rP X.mg g)) (hc : Calm2 g) (hb' : ∀ d e s z s', g d e s = .ok z s' → ∃ k, z = .bool k) (ha : EV X W a fa) (hb : EV X W b fb) (hm : behindInMarks op b = false) :
    TV X W (.Compare a [op] [b] pos) (tOf (xBin g fa fb)) := by
  refine PT_imp (pt_cmpR ho ha hb hm) ?_
  rintro σ H Q ⟨ρ, l, s, hE, hW, h⟩
  have h' : ResE X.mg W (fun _ _ a b => a = b) σ H ρ ((fa l s).bind fun d s1 => ((fb l s1).bind fun e s2 => (g d e s2).bind pTruth)) Q := by
    have e : tOf (xBin g fa fb) l s = ((fa l s).bind fun d s1 => ((fb l s1).bind fun e s2 => (g d e s2).bind pTruth)) := by
      unfold tOf xBin
      cases fa l s with
      | ok d s1 =>
        simp only [O.bind_ok]
        cases fb l s1 <;> rfl
      | exc x s1 => rfl
      | bad => rfl
    rw [← e]
    exact h
  refine gBind (a := fa) (rel0 := Rel) hE hW h' fun d s1 ρ1 H1 v x1 hE1 hW1 r1 h1 => ?_
  refine gBind (a := fb) (rel0 := Rel) hE1 hW1 h1 fun e s2 ρ2 H2 u x2 hE2 hW2 r2 h2 => ?_
  refine ⟨ρ2, d, e, s2, r1.ext x2, r2, hW2, ?_⟩
  cases eg : g d e s2 with
  | ok z s3 =>
    obtain ⟨k, rfl⟩ := hb' _ _ _ _ _ eg
    rw [eg] at h2
    intro ρ' H' w x3 w3 r3
    cases r3
    exact ⟨k, rfl, h2 ρ' H' k x3 w3 rfl⟩
  | exc x s3 => exact absurd eg (hc _ _ _ _ _)
  | bad => rw [eg] at h2; exact h2.elim
theorem tv_not (ha : TV X W a ta) : TV X W (.UnaryOp .Not a pos) (tNot1 ta) := by
  refine PT_imp (pt_not ha) ?_
  rintro σ H Q ⟨ρ, l, s, hE, hW, h⟩
  refine gBind (a := ta) (rel0 := fun _ _ a b => a = b) hE hW h fun d s1 ρ1 H1 v x1 hE1 hW1 r1 h1 => ?_
  subst r1
  exact h1 ρ1 H1 _ (Ext.refl _ _) hW1 rfl
/-- and, or as tests -/
def WV (X : Cx) (W : WX) (e : Expr) (f : Tx) : Prop := PW X e (tT X.mg W f)
theorem PW_imp {X : Cx} {e : Expr} {t t' : TT} (h : PW X e t) (i : ∀ σ H Q, t' σ H Q → t σ H Q) : PW X e t' := ⟨fun wh pins s σ H Q I q => h.run wh pins s σ H Q I (i σ H Q q)⟩
theorem tv_w (h : WV X W a ta) : TV X W a ta := h.pt
theorem wv_and1 (ha : TV X W a ta) : WV X W (.BoolOp .And [a] pos) ta := pw_and1 ha
theorem wv_or1 (ha : TV X W a ta) : WV X W (.BoolOp .Or [a] pos) ta := pw_or1 ha
theorem wv_and (ha : TV X W a ta) (hb : WV X W (.BoolOp .And (b :: rest) pos) tb) : WV X W (.BoolOp .And (a :: b :: rest) pos) (tAnd2 ta tb) := by
  refine PW_imp (pw_and ha hb) ?_
  rintro σ H Q ⟨ρ, l, s, hE, hW, h⟩
  refine gBind (a := ta) (rel0 := fun _ _ a b => a = b) hE hW h fun d s1 ρ1 H1 v x1 hE1 hW1 r1 h1 => ?_
  subst r1
  cases d with
  | true => exact ⟨ρ1, l, s1, hE1, hW1, h1⟩
  | false => exact h1 ρ1 H1 _ (Ext.refl _ _) hW1 rfl
theorem wv_or (ha : TV X W a ta) (hb : WV X W (.BoolOp .Or (b :: rest) pos) tb) : WV X W (.BoolOp .Or (a :: b :: rest) pos) (tOr2 ta tb) := by
  refine PW_imp (pw_or ha hb) ?_
  rintro σ H Q ⟨ρ, l, s, hE, hW, h⟩
  refine gBind (a := ta) (rel0 := fun _ _ a b => a = b) hE hW h fun d s1 ρ1 H1 v x1 hE1 hW1 r1 h1 => ?_
  subst r1
  cases d with
  | true => exact h1 ρ1 H1 _ (Ext.refl _ _) hW1 rfl
  | false => exact ⟨ρ1, l, s1, hE1, hW1, h1⟩
/-- .. as values -/
theorem ev_one {op} (h : EV X W a fa) : EV X W (.BoolOp op [a] pos) fa := pe_one h
theorem ev_and (ha : EV X W a fa) (hb : EV X W (.BoolOp .And (b :: rest) pos) fb) : EV X W (.BoolOp .And (a :: b :: rest) pos) (xAnd2 fa fb) := by
  refine PE_imp (pe_and ha hb) ?_
  rintro σ H Q ⟨ρ, l, s, hE, hW, h⟩
  refine gBind (a := fa) (rel0 := Rel) hE hW h fun d s1 ρ1 H1 v x1 hE1 hW1 r1 h1 => ?_
  split at h1
  · cases r1
    exact ⟨true, rfl, ⟨ρ1, l, s1, hE1, hW1, h1⟩⟩
  · cases r1
    exact ⟨false, rfl, h1 ρ1 H1 _ (Ext.refl _ _) hW1 (.bool _)⟩
  · exact h1.elim
theorem ev_or (ha : EV X W a fa) (hb : EV X W (.BoolOp .Or (b :: rest) pos) fb) : EV X W (.BoolOp .Or (a :: b :: rest) pos) (xOr2 fa fb) := by
  refine PE_imp (pe_or ha hb) ?_
  rintro σ H Q ⟨ρ, l, s, hE, hW, h⟩
  refine gBind (a := fa) (rel0 := Rel) hE hW h fun d s1 ρ1 H1 v x1 hE1 hW1 r1 h1 => ?_
  split at h1
  · cases r1
    exact ⟨true, rfl, h1 ρ1 H1 _ (Ext.refl _ _) hW1 (.bool _)⟩
  · cases r1
    exact ⟨false, rfl, ⟨ρ1, l, s1, hE1, hW1, h1⟩⟩
  · exact h1.elim
theorem ev_not (ha : EV X W a fa) : EV X W (.UnaryOp .Not a pos) (xNot1 fa) := by
  refine PE_imp (pe_not ha) ?_
  rintro σ H Q ⟨ρ, l, s, hE, hW, h⟩
  refine gBind (a := fa) (rel0 := Rel) hE hW h fun d s1 ρ1 H1 v x1 hE1 hW1 r1 h1 => ?_
  split at h1
  · cases r1
    exact ⟨_, rfl, h1 ρ1 H1 _ (Ext.refl _ _) hW1 (.bool _)⟩
  · exact h1.elim
theorem ev_if (hc : TV X W c ta) (ha : EV X W a fa) (hb : EV X W b fb) : EV X W (.IfExp c a b pos) (xIfE ta fa fb) := by
  refine PE_imp (pe_ifExp hc ha hb) ?_
  rintro σ H Q ⟨ρ, l, s, hE, hW, h⟩
  refine gBind (a := ta) (rel0 := fun _ _ a b => a = b) hE hW h fun d s1 ρ1 H1 v x1 hE1 hW1 r1 h1 => ?_
  subst r1
  cases d with
  | true => exact ⟨ρ1, l, s1, hE1, hW1, h1⟩
  | false => exact ⟨ρ1, l, s1, hE1, hW1, h1⟩
end
theorem bool_eq {b : Bool} (d e : D) (s : Sto) (z : D) (s' : Sto) (h : pEqB b d e s = .ok z s') : ∃ k, z = .bool k := by
  unfold pEqB at h
  split at h <;> (try split at h) <;> (try split at h) <;> first | (cases h; exact ⟨_, rfl⟩) | cases h
theorem bool_cmp {k : Int → Int → Bool} (d e : D) (s : Sto) (z : D) (s' : Sto) (h : pCmpI k d e s = .ok z s') : ∃ k, z = .bool k := by
  unfold pCmpI at h
  split at h <;> first | (cases h; exact ⟨_, rfl⟩) | cases h
theorem bool_is (d e : D) (s : Sto) (z : D) (s' : Sto) (h : pIs d e s = .ok z s') : ∃ k, z = .bool k := by
  unfold pIs at h
  split at h <;> first | (cases h; exact ⟨_, rfl⟩) | cases h
theorem bool_isnot (d e : D) (s : Sto) (z : D) (s' : Sto) (h : pIsNot d e s = .ok z s') : ∃ k, z = .bool k := by
  unfold pIsNot at h
  split at h <;> first | (cases h; exact ⟨_, rfl⟩) | cases h
theorem bool_in {b : Bool} (d e : D) (s : Sto) (z : D) (s' : Sto) (h : pIn b d e s = .ok z s') : ∃ k, z = .bool k := by
  unfold pIn at h
  split at h <;> (try split at h) <;> (try split at h) <;> first | (cases h; exact ⟨_, rfl⟩) | cases h
end PL

namespace PL
open PySem PySem.Spec PyProof.Rows L2

/-! ### statements -/
def sSeq (f g : Sx) : Sx := fun l s => match f l s with
  | .nx l' s' => g l' s'
  | r => r
def sSkip : Sx := fun l s => .nx l s
def sBrk : Sx := fun l s => .bk l s
def sCnt : Sx := fun l s => .ct l s
def sNever : Sx := fun _ _ => .bad
def sSet (i : Nat) (a : Ex) : Sx := fun l s => (a l s).then l fun d s1 => .nx (l.set i (some d)) s1
def sExpr (a : Ex) : Sx := fun l s => (a l s).then l fun _ s1 => .nx l s1
def sRet (a : Ex) : Sx := fun l s => (a l s).then l fun d s1 => .rt d s1
def sRetN : Sx := fun _ s => .rt .none s
def sIf (t : Tx) (f g : Sx) : Sx := fun l s => (t l s).then l fun c s1 => if c = true then f l s1 else g l s1
def sAug (i : Nat) (g : D → D → Sto → O D) (a : Ex) : Sx := fun l s => match l[i]? with
  | some (some d) => (a l s).then l fun e s1 => (g d e s1).then l fun z s2 => .nx (l.set i (some z)) s2
  | _ => .bad
section
variable {X : Cx} {W : WX} {st : Stmt} {rest p q : List Stmt} {f g : Sx} {e c : Expr} {fa : Ex} {ta : Tx} {pos : Pos}
theorem ResS.next {mg : Str → Option Value} {H : Hp} {ρ : List Addr} {l : Lo} {s : Sto} {σ : St} {De : Ends} (hE : EnvR H ρ l σ) (hW : Wd mg H ρ s) (h : ResS mg W H ρ (.nx l s) De) : De.nx σ H := h ρ H σ (Ext.refl _ _) hW hE
theorem bv_nil : BV X W [] sSkip := PSs_imp pss_nil fun De σ H ⟨ρ, l, s, hE, hW, h⟩ => h ρ H σ (Ext.refl _ _) hW hE
theorem seq_imp {De : Ends} {σ : St} {H : Hp} (h : tS X.mg W (sSeq f g) De σ H) : tS X.mg W f { De with nx := fun σ' H' => tS X.mg W g De σ' H' } σ H := by
  obtain ⟨ρ, l, s, hE, hW, h⟩ := h
  refine ⟨ρ, l, s, hE, hW, ?_⟩
  unfold sSeq at h
  cases e : f l s with
  | nx l1 s1 =>
    rw [e] at h
    exact fun ρ1 H1 σ1 x w r => ⟨ρ1, l1, s1, r, w, h.later x⟩
  | rt d s1 => rw [e] at h; exact h
  | bk l1 s1 => rw [e] at h; exact h
  | ct l1 s1 => rw [e] at h; exact h
  | ex x l1 s1 => rw [e] at h; exact h
  | bad => rw [e] at h; exact h
theorem bv_cons (h1 : SV X W st f) (h2 : BV X W rest g) : BV X W (st :: rest) (sSeq f g) := PSs_imp (pss_cons h1 h2) fun De σ H h => seq_imp h
theorem bv_one (h1 : SV X W st f) : BV X W [st] f := pss_one h1
theorem sv_pass : SV X W (.Pass pos) sSkip := PS_imp ps_pass fun De σ H ⟨ρ, l, s, hE, hW, h⟩ => h ρ H σ (Ext.refl _ _) hW hE
theorem sv_doc {x j pos pos'} : SV X W (.Expr (.Constant (.str x) j pos) pos') sSkip := PS_imp ps_doc fun De σ H ⟨ρ, l, s, hE, hW, h⟩ => h ρ H σ (Ext.refl _ _) hW hE
theorem sv_break : SV X W (.Break pos) sBrk := PS_imp ps_break fun De σ H ⟨ρ, l, s, hE, hW, h⟩ => h ρ H σ (Ext.refl _ _) hW hE
theorem sv_continue : SV X W (.Continue pos) sCnt := PS_imp ps_continue fun De σ H ⟨ρ, l, s, hE, hW, h⟩ => h ρ H σ (Ext.refl _ _) hW hE
theorem sv_never : SV X W st sNever := PS_imp ps_never fun De σ H ⟨ρ, l, s, hE, hW, h⟩ => h
theorem bv_never : BV X W rest sNever := PSs_imp pss_never fun De σ H ⟨ρ, l, s, hE, hW, h⟩ => h
theorem sv_set {i : Nat} {x : Str} {pos' : Pos} (hN : X.N.Nodup) (he : EV X W e fa) (hi : X.N[i]? = some x := by rfl) (hx : Loc X.env.scope x := by first | exact .inl rfl | exact .inr rfl) (hs : swapsWith e (some (.Name x pos')) pos.line X.env = pure false := by rfl)
    (hf : X.fn x = true ∨ X.env.scope.names.lookup x = some .local := by first | exact .inl rfl | exact .inr rfl) : SV X W (.Assign [.Name x pos'] e pos) (sSet i fa) := by
  refine PS_imp (ps_set hN hi hx he hs hf) ?_
  rintro De σ H ⟨ρ, l, s, hE, hW, h⟩
  refine gThen (a := fa) (rel0 := Rel) hE hW h fun d s1 ρ1 H1 v x1 hE1 hW1 r1 h1 => ?_
  exact h1 ρ1 H1 _ (Ext.refl _ _) hW1 (hE1.set r1 i)
theorem sv_expr (he : EV X W e fa) (hs : swapsWith e none pos.line X.env = pure false := by rfl) : SV X W (.Expr e pos) (sExpr fa) := by
  refine PS_imp (ps_expr he hs) ?_
  rintro De σ H ⟨ρ, l, s, hE, hW, h⟩
  refine gThen (a := fa) (rel0 := Rel) hE hW h fun d s1 ρ1 H1 v x1 hE1 hW1 r1 h1 => ?_
  exact h1 ρ1 H1 _ (Ext.refl _ _) hW1 hE1
theorem sv_ret (he : EV X W e fa) : SV X W (.Return (some e) pos) (sRet fa) := by
  refine PS_imp (ps_ret he) ?_
  rintro De σ H ⟨ρ, l, s, hE, hW, h⟩
  refine gThen (a := fa) (rel0 := Rel) hE hW h fun d s1 ρ1 H1 v x1 hE1 hW1 r1 h1 => ?_
  exact h1 ρ1 H1 _ (Ext.refl _ _) hW1 r1
theorem sv_retN : SV X W (.Return none pos) sRetN := PS_imp ps_retN fun De σ H ⟨ρ, l, s, hE, hW, h⟩ => h ρ H _ (Ext.refl _ _) hW .none
theorem sv_if (hc : TV X W c ta) (ha : BV X W p f) (hb : BV X W q g) : SV X W (.If c p q pos) (sIf ta f g) := by
  refine PS_imp (ps_if hc ha hb) ?_
  rintro De σ H ⟨ρ, l, s, hE, hW, h⟩
  refine gThen (a := ta) (rel0 := fun _ _ a b => a = b) hE hW h fun d s1 ρ1 H1 v x1 hE1 hW1 r1 h1 => ?_
  subst r1
  cases d with
  | true => exact ⟨ρ1, l, s1, hE1, hW1, h1⟩
  | false => exact ⟨ρ1, l, s1, hE1, hW1, h1⟩
/-- x op= e -/
theorem sv_aug {i : Nat} {x : Str} {op : Operator} {g : D → D → Sto → O D} {pos' : Pos} (ho : OpR X (inplaceOp op) (rP X.mg g)) (hc : Calm2 g) (hN : X.N.Nodup) (he : EV X W e fa) (hi : X.N[i]? = some x := by rfl) (hx : Loc X.env.scope x := by first | exact .inl rfl | exact .inr rfl)
    (hf : X.fn x = true ∨ X.env.scope.names.lookup x = some .local := by first | exact .inl rfl | exact .inr rfl) : SV X W (.AugAssign (.Name x pos') op e pos) (sAug i g fa) := by
  refine PS_imp (ps_aug hN hi hx he (show PIp X op (rP X.mg g) from ho) hf) ?_
  rintro De σ H ⟨ρ, l, s, hE, hW, h⟩
  unfold sAug at h
  split at h
  · rename_i d e1
    obtain ⟨v, h1, h2⟩ := hE.get e1
    refine ⟨v, h1, ?_⟩
    refine gThen (a := fa) (rel0 := Rel) hE hW h fun e2 s1 ρ1 H1 u x1 hE1 hW1 r1 h3 => ?_
    refine ⟨ρ1, d, e2, s1, h2.ext x1, r1, hW1, ?_⟩
    cases eg : g d e2 s1 with
    | ok z s2 =>
      rw [eg] at h3
      exact fun ρ2 H2 w x2 w2 r2 => h3 ρ2 H2 _ x2 w2 ((hE1.ext x2).set r2 i)
    | exc x s2 => exact absurd eg (hc _ _ _ _ _)
    | bad => rw [eg] at h3; exact h3.elim
  · exact h.elim
theorem ior_add : OpR X (inplaceOp .Add) (rP X.mg pSub) → True := fun _ => trivial
theorem ior_int2 {f : Value → Value → Sem Value} {g : D → D → Sto → O D} {k : Int → Int → Int} (ho : OpR X f (rI0 fun i j => .int (k i j))) (hg : ∀ d e s H ρ Q, ResO X.mg H ρ (g d e s) Q → ∃ i j, d = .int i ∧ e = .int j ∧ g d e s = .ok (.int (k i j)) s) : OpR X f (rP X.mg g) := by
  refine OpR_imp ho ?_
  rintro x y H Q ⟨ρ, d, e, s, rd, re, hW, h⟩
  obtain ⟨i, j, rfl, rfl, hq⟩ := hg d e s H ρ Q h
  cases rd
  cases re
  rw [hq] at h
  exact ⟨i, j, rfl, rfl, h ρ H _ (Ext.refl _ _) hW (.int _)⟩
end
/-- x += e: ints, texts (lists: their own) -/
def pIAdd : D → D → Sto → O D
  | .int a, .int b, s => .ok (.int (a + b)) s
  | .str a, .str b, s => if a.length + b.length ≤ LN then .ok (.str (a ++ b)) s else .bad
  | _, _, _ => .bad
theorem calm_iadd : Calm2 pIAdd := by intro d e s x s' h; unfold pIAdd at h; split at h <;> (try split at h) <;> cases h
section
variable {X : Cx}
theorem ior_iadd : OpR X (inplaceOp .Add) (rP X.mg pIAdd) := by
  refine OpR_imp (iop_add.or iop_add_str) ?_
  rintro x y H Q ⟨ρ, d, e, s, rd, re, hW, h⟩
  unfold pIAdd at h
  split at h
  · cases rd
    cases re
    exact .inl ⟨_, _, rfl, rfl, h ρ H _ (Ext.refl _ _) hW (.int _)⟩
  · cases rd
    cases re
    split at h
    · rename_i hl
      refine .inr ⟨_, _, rfl, rfl, ?_, ?_⟩
      · rw [sT_len, sT_len]
        exact ln_le hl
      · rw [sT_app]
        exact h ρ H _ (Ext.refl _ _) hW (.str _)
    · exact h.elim
  · exact h.elim
theorem ior_isub : OpR X (inplaceOp .Sub) (rP X.mg pSub) := ior_int2 iop_sub fun d e s H ρ Q h => by
  unfold pSub at h ⊢
  split at h
  · exact ⟨_, _, rfl, rfl, rfl⟩
  · exact h.elim
end

/-! ### targets of names -/
inductive Tg where
  | nm (i : Nat)
  | tp (is : List Nat)
def setL {α : Type} (l : List (Option α)) : List Nat → List α → List (Option α)
  | i :: is, d :: ds => setL (l.set i (some d)) is ds
  | _, _ => l
def Tg.put : Tg → D → Lo → Option Lo
  | .nm i, d, l => some (l.set i (some d))
  | .tp is, .tup ds, l => if ds.length = is.length then some (setL l is ds) else none
  | .tp _, _, _ => none
def gNames : List Nat → TGs
  | [] => gNil
  | i :: r => gCons (gName i) (gNames r)
def gTg (K : PySem.W.Frag) : Tg → TG
  | .nm i => gName i
  | .tp is => gTup K is.length (gNames is)
def GT (X : Cx) (target : Expr) (t : Tg) : Prop := PG X target (gTg X.K t)
theorem gNames_of : ∀ {is : List Nat} {vs : List V} {σ : St} {H : Hp} {Q : St → Hp → Prop}, vs.length = is.length → Q (setL σ is vs) H → gNames is vs σ H Q
  | [], [], _, _, _, _, q => ⟨rfl, q⟩
  | [], _ :: _, _, _, _, h, _ => by simp at h
  | _ :: _, [], _, _, _, h, _ => by simp at h
  | i :: is, v :: vs, σ, H, Q, h, q => ⟨v, vs, rfl, gNames_of (is := is) (vs := vs) (σ := σ.set i (some v)) (by simpa using h) q⟩
theorem EnvR.setL {H : Hp} {ρ : List Addr} : ∀ {is : List Nat} {ds : List D} {vs : List V} {l : Lo} {σ : St}, EnvR H ρ l σ → Rels H ρ ds vs → EnvR H ρ (setL l is ds) (setL σ is vs)
  | [], _, _, _, _, h, _ => h
  | _ :: _, _, _, _, _, h, .nil => h
  | i :: is, _, _, _, _, h, .cons r q => EnvR.setL (is := is) (h.set r i) q
/-- what a target of names does to the slots -/
theorem gTg_of {K : PySem.W.Frag} {t : Tg} {H : Hp} {ρ : List Addr} {d : D} {v : V} {l l' : Lo} {σ : St} {Q : St → Hp → Prop} (hE : EnvR H ρ l σ) (r : Rel H ρ d v) (h : t.put d l = some l')
    (q : ∀ σ', EnvR H ρ l' σ' → (∃ is vs, σ' = setL σ is vs ∧ match t with | .nm i => is = [i] | .tp js => is = js) → Q σ' H) : gTg K t v σ H Q := by
  cases t with
  | nm i =>
    cases h
    exact q _ (hE.set r i) ⟨[i], [v], rfl, rfl⟩
  | tp is =>
    cases d with
    | tup ds =>
      have h' : (if ds.length = is.length then some (setL l is ds) else none) = some l' := h
      by_cases hl : ds.length = is.length
      · rw [if_pos hl] at h'
        cases h'
        cases r with
        | tup h1 r1 =>
          refine ⟨_, _, rfl, SqT.of h1, by rw [← r1.length]; exact hl, gNames_of (by rw [← r1.length]; exact hl) (q _ (hE.setL r1) ⟨is, _, rfl, rfl⟩)⟩
      · rw [if_neg hl] at h'
        cases h'
    | _ => cases h
section
variable {X : Cx} {pos : Pos}
theorem gt_nm {i : Nat} {x : Str} (hN : X.N.Nodup) (hi : X.N[i]? = some x := by rfl) (hx : Loc X.env.scope x := by first | exact .inl rfl | exact .inr rfl)
    (hf : X.fn x = true ∨ X.env.scope.names.lookup x = some .local := by first | exact .inl rfl | exact .inr rfl) : GT X (.Name x pos) (.nm i) := pg_name hN hi hx hf
/-- the names of a tuple target -/
def GNs (X : Cx) (ts : List Expr) (is : List Nat) : Prop := PGs X ts (gNames is)
theorem gn_nil : GNs X [] [] := pgs_nil
theorem gn_cons {i : Nat} {x : Str} {ts : List Expr} {is : List Nat} {pos' : Pos} (hN : X.N.Nodup) (h2 : GNs X ts is) (hi : X.N[i]? = some x := by rfl) (hx : Loc X.env.scope x := by first | exact .inl rfl | exact .inr rfl)
    (hf : X.fn x = true ∨ X.env.scope.names.lookup x = some .local := by first | exact .inl rfl | exact .inr rfl)
    (hs : (assignEach (.Name x pos' :: ts) X.env).map (·.2) = assign (.Name x pos') X.env :: (assignEach ts X.env).map (·.2) := by rfl) : GNs X (.Name x pos' :: ts) (i :: is) := pgs_cons (pg_name hN hi hx hf) h2 hs
theorem gt_tp {es : List Expr} {k : Nat} {is : List Nat} (hc : X.calm = true) (h : GNs X es is) (hn : (assignEach es X.env).length = is.length := by rfl) (hst : (assignEach es X.env).findIdx? (·.1) = none := by rfl) : GT X (.Tuple es k pos) (.tp is) := pg_tup hc h hn hst
/-- a, b = e -/
def sUnp (is : List Nat) (a : Ex) : Sx := fun l s => (a l s).then l fun d s1 => match (Tg.tp is).put d l with
  | some l' => .nx l' s1
  | none => .bad
theorem sv_unp {W : WX} {tg e : Expr} {is : List Nat} {fa : Ex} (he : EV X W e fa) (hg : GT X tg (.tp is)) (hs : swapsWithSole [tg] e pos.line X.env = pure false := by rfl) (hw : swappedStores [tg] e X.env = pure none := by rfl)
    (h1 : (assignEach [tg] X.env).map (·.2) = [assign tg X.env] := by rfl) : SV X W (.Assign [tg] e pos) (sUnp is fa) := by
  refine PS_imp (ps_asg he hg hs hw h1) ?_
  rintro De σ H ⟨ρ, l, s, hE, hW, h⟩
  refine gThen (a := fa) (rel0 := Rel) hE hW h fun d s1 ρ1 H1 v x1 hE1 hW1 r1 h1 => ?_
  split at h1
  · rename_i l' e1
    exact gTg_of hE1 r1 e1 fun σ' q _ => h1 ρ1 H1 σ' (Ext.refl _ _) hW1 q
  · exact h1.elim
/-- a, b = x, y -/
def sPar (i j : Nat) (a : Ax) : Sx := fun l s => (a l s).then l fun ds s1 => match ds with
  | [d, e] => .nx ((l.set i (some d)).set j (some e)) s1
  | _ => .bad
theorem sv_par {W : WX} {i j : Nat} {x y : Str} {a b : Expr} {fa : Ax} {px py pt : Pos} {kt k2 pt2} (hc : X.calm = true) (hN : X.N.Nodup) (ha : AV X W [a, b] fa) (hi : X.N[i]? = some x := by rfl) (hj : X.N[j]? = some y := by rfl) (hij : i ≠ j := by decide)
    (hx : X.env.scope.names.lookup x = some .local := by rfl) (hy : X.env.scope.names.lookup y = some .local := by rfl)
    (hw : swappedStores [.Tuple [.Name x px, .Name y py] kt pt] (.Tuple [a, b] k2 pt2) X.env = pure (some [x, y]) := by rfl)
    (hs : swapsWithSole [.Tuple [.Name x px, .Name y py] kt pt] (.Tuple [a, b] k2 pt2) pos.line X.env = pure false := by rfl) :
    SV X W (.Assign [.Tuple [.Name x px, .Name y py] kt pt] (.Tuple [a, b] k2 pt2) pos) (sPar i j fa) := by
  refine PS_imp (ps_par hc hN hi hj hij hx hy ha hw hs) ?_
  rintro De σ H ⟨ρ, l, s, hE, hW, h⟩
  refine gThen (a := fa) (rel0 := Rels) hE hW h fun ds s1 ρ1 H1 vs x1 hE1 hW1 r1 h1 => ?_
  split at h1
  · cases r1 with
    | cons r1 r2 =>
      cases r2 with
      | cons r2 r3 =>
        cases r3
        exact ⟨_, _, rfl, h1 ρ1 H1 _ (Ext.refl _ _) hW1 ((hE1.set r1 i).set r2 j)⟩
  · exact h1.elim
end

/-! ### what a loop walks -/
structure ItD where
  chk : List (Nat × Cell)
  its : List D
/-- the lists that are walked stand as they stood -/
def okChk (c : List (Nat × Cell)) (s : Sto) : Prop := ∀ p ∈ c, s[p.1]? = some p.2
instance (c : List (Nat × Cell)) (s : Sto) : Decidable (okChk c s) := by unfold okChk; infer_instance
structure ItR (mg : Str → Option Value) (H0 : Hp) (ρ0 : List Addr) (J : It) (it : ItD) : Prop where
  go : ∀ H ρ s, Ext H0 ρ0 H ρ → Wd mg H ρ s → okChk it.chk s → ∀ i d, it.its[i]? = some d → J.go i H ∧ ∀ x H', J.yld i H x H' → Ext H ρ H' ρ ∧ Wd mg H' ρ s ∧ Rel H' ρ d x
  stop : ∀ H ρ s, Ext H0 ρ0 H ρ → Wd mg H ρ s → okChk it.chk s → J.stop it.its.length H
abbrev Ix := Lo → Sto → O ItD
def IV (X : Cx) (W : WX) (tg iter : Expr) (g : Ix) : Prop := PI X tg iter (tG X.mg W (fun H ρ it J => ItR X.mg H ρ J it) g)
theorem PI_imp {X : Cx} {tg e : Expr} {t t' : TI} (h : PI X tg e t) (i : ∀ σ H R, t' σ H R → t σ H R) : PI X tg e t' := ⟨fun pins s σ H R I q => h.run pins s σ H R I (i σ H R q)⟩
def rngL : Int → Nat → List D
  | _, 0 => []
  | lo, n + 1 => .int lo :: rngL (lo + 1) n
theorem rngL_len : ∀ (lo : Int) (n : Nat), (rngL lo n).length = n
  | _, 0 => rfl
  | lo, n + 1 => by rw [rngL, List.length_cons, rngL_len]
theorem rngL_get : ∀ (lo : Int) (n i : Nat) (d : D), (rngL lo n)[i]? = some d → i < n ∧ d = .int (lo + i)
  | _, 0, i, d, h => by simp [rngL] at h
  | lo, n + 1, 0, d, h => by
    simp [rngL] at h
    exact ⟨by omega, by rw [← h]; simp⟩
  | lo, n + 1, i + 1, d, h => by
    have q := rngL_get (lo + 1) n i d (by simpa [rngL] using h)
    refine ⟨by omega, ?_⟩
    rw [q.2]
    congr 1
    omega
theorem itR_rng {mg : Str → Option Value} {H : Hp} {ρ : List Addr} {lo : Int} {n : Nat} : ItR mg H ρ (Itr lo n) ⟨[], rngL lo n⟩ := by
  refine ⟨fun H1 ρ1 s x w _ i d h => ?_, fun H1 ρ1 s x w _ => ?_⟩
  · obtain ⟨h1, rfl⟩ := rngL_get lo n i d h
    refine ⟨h1, fun v H' y => ?_⟩
    obtain ⟨rfl, rfl⟩ := y
    exact ⟨Ext.refl _ _, w, .int _⟩
  · show n ≤ (rngL lo n).length
    rw [rngL_len]
    exact Nat.le_refl _
theorem itR_lst {K : PySem.W.Frag} {mg : Str → Option Value} {H : Hp} {ρ : List Addr} {n : Nat} {a : Addr} {l : List D} (h : ρ[n]? = some a) : ItR mg H ρ (Itl K a) ⟨[(n, .lst l)], l⟩ := by
  refine ⟨fun H1 ρ1 s x w c i d hd => ?_, fun H1 ρ1 s x w c => ?_⟩
  · obtain ⟨vs, q1, r1⟩ := w.cel n _ a (c _ (List.mem_singleton.mpr rfl)) (x.get h)
    obtain ⟨v, e1, r2⟩ := r1.get hd
    refine ⟨⟨vs, v, SqL.of q1, e1⟩, fun y H' z => ?_⟩
    obtain ⟨rfl, z⟩ := z
    have e2 := z vs (SqL.of q1)
    rw [e1] at e2
    cases e2
    exact ⟨Ext.refl _ _, w, r2⟩
  · obtain ⟨vs, q1, r1⟩ := w.cel n _ a (c _ (List.mem_singleton.mpr rfl)) (x.get h)
    exact ⟨vs, SqL.of q1, by show vs.length ≤ l.length; rw [r1.length]; exact Nat.le_refl _⟩
theorem itR_tup {K : PySem.W.Frag} {mg : Str → Option Value} {H : Hp} {ρ : List Addr} {a : Addr} {l : List D} {vs : List V} (h : H a = some (.tup vs)) (r : Rels H ρ l vs) : ItR mg H ρ (Itt K a) ⟨[], l⟩ := by
  refine ⟨fun H1 ρ1 s x w c i d hd => ?_, fun H1 ρ1 s x w c => ?_⟩
  · have q1 := x.tup _ _ h
    obtain ⟨v, e1, r2⟩ := (r.ext x).get hd
    refine ⟨⟨vs, v, SqT.of q1, e1⟩, fun y H' z => ?_⟩
    obtain ⟨rfl, z⟩ := z
    have e2 := z vs (SqT.of q1)
    rw [e1] at e2
    cases e2
    exact ⟨Ext.refl _ _, w, r2⟩
  · exact ⟨vs, SqT.of (x.tup _ _ h), by show vs.length ≤ l.length; rw [r.length]; exact Nat.le_refl _⟩
/-- range(a), range(a, b) -/
def iRange1 (a : Ax) : Ix := fun l s => (a l s).bind fun ds s1 => match ds with
  | [.int j] => if -(2 ^ 62) ≤ j ∧ j < 2 ^ 62 then .ok ⟨[], rngL 0 j.toNat⟩ s1 else .bad
  | _ => .bad
def iRange2 (a : Ax) : Ix := fun l s => (a l s).bind fun ds s1 => match ds with
  | [.int i, .int j] => if -(2 ^ 62) ≤ i ∧ i < 2 ^ 62 ∧ -(2 ^ 62) ≤ j ∧ j < 2 ^ 62 then .ok ⟨[], rngL i (j - i).toNat⟩ s1 else .bad
  | _ => .bad
/-- a list or a tuple -/
def iSeq (a : Ex) : Ix := fun l s => (a l s).bind fun d s1 => match d with
  | .tup l => .ok ⟨[], l⟩ s1
  | .ref n => (match s1[n]? with
    | some (.lst l) => .ok ⟨[(n, .lst l)], l⟩ s1
    | _ => .bad)
  | _ => .bad
section
variable {X : Cx} {W : WX} {tg a b : Expr} {fa : Ax} {fe : Ex} {p pos : Pos}
theorem iv_range1 (hm : X.mg "range" = none) (ha : AV X W [a] fa) (hg : Gl X "range" := by rfl) (hs : starEach [a] X.env = [(false, eval a X.env)] := by rfl) : IV X W tg (.Call (.Name "range" p) [a] [] pos) (iRange1 fa) := by
  refine PI_imp (pi_range1 hg hm ha hs) ?_
  rintro σ H R ⟨ρ, l, s, hE, hW, h⟩
  refine gBind (a := fa) (rel0 := Rels) hE hW h fun ds s1 ρ1 H1 vs x1 hE1 hW1 r1 h1 => ?_
  split at h1
  · split at h1
    · rename_i hl
      cases r1 with
      | cons r q =>
        cases q
        cases r
        exact ⟨_, rfl, hl.1, hl.2, h1 ρ1 H1 _ (Ext.refl _ _) hW1 itR_rng⟩
    · exact h1.elim
  · exact h1.elim
theorem iv_range2 (hm : X.mg "range" = none) (ha : AV X W [a, b] fa) (hg : Gl X "range" := by rfl) (hs : starEach [a, b] X.env = [(false, eval a X.env), (false, eval b X.env)] := by rfl) (hs2 : starEach [b] X.env = [(false, eval b X.env)] := by rfl) :
    IV X W tg (.Call (.Name "range" p) [a, b] [] pos) (iRange2 fa) := by
  refine PI_imp (pi_range2 hg hm ha hs hs2) ?_
  rintro σ H R ⟨ρ, l, s, hE, hW, h⟩
  refine gBind (a := fa) (rel0 := Rels) hE hW h fun ds s1 ρ1 H1 vs x1 hE1 hW1 r1 h1 => ?_
  split at h1
  · split at h1
    · rename_i hl
      cases r1 with
      | cons r q =>
        cases q with
        | cons r' q =>
          cases q
          cases r
          cases r'
          exact ⟨_, _, rfl, hl, h1 ρ1 H1 _ (Ext.refl _ _) hW1 itR_rng⟩
    · exact h1.elim
  · exact h1.elim
/-- which of two walks: by what the value is -/
theorem pi_or {l : Expr} {w1 w2 : TI} (h1 : PI X tg l w1) (h2 : PI X tg l w2) : PI X tg l (fun σ H R => w1 σ H R ∨ w2 σ H R) := ⟨fun pins s σ H R I h => h.elim (h1.run pins s σ H R I) (h2.run pins s σ H R I)⟩
end
def tSeqI (K : PySem.W.Frag) (te : TE) : TI := fun σ H R => te σ H fun x H1 => ∃ a, x = .ref a ∧ (((∃ xs, SqL K H1 a xs) ∧ R (Itl K a) H1) ∨ ((∃ xs, SqT K H1 a xs) ∧ R (Itt K a) H1))
section
variable {X : Cx} {W : WX} {tg a b : Expr} {fa : Ax} {fe : Ex} {p pos : Pos}
theorem pi_seq {l : Expr} {tl : TE} (hl : PE X l tl) : PI X tg l (tSeqI X.K tl) := by
  refine ⟨fun pins s σ H R I h => ?_⟩
  refine thn (hl.run pins s σ H _ I h) fun v s1 ⟨x, H1, I1, r1, q1⟩ => ?_
  obtain ⟨c, e, q⟩ := q1
  subst e
  cases r1
  have fp : ∀ b ∈ [s1.heap.objs.size], FpOk X pins H1 b := fun b hb => by
    rw [List.mem_singleton.mp hb]
    exact I1.fpOk (Nat.le_refl _) (I1.hok.fresh (Nat.le_refl _))
  rcases q with ⟨⟨xs, hq⟩, q⟩ | ⟨⟨xs, hq⟩, q⟩
  · obtain ⟨its, rv, pl, hz⟩ := I1.list hq
    refine wpAny_pyIter_list pl.isList ?_
    exact ⟨s1.heap.objs.size, [s1.heap.objs.size], _, _, H1, rfl, I1.kept (t' := s1.toks) fun b o e => Heap.get?_push_of_some _ e, turn_list c _, ⟨_, Heap.get?_push_size _ rfl, rfl, rfl⟩, fp, q⟩
  · obtain ⟨its, rv, pt, hz⟩ := I1.tuple hq
    refine wpAny_pyIter_tuple (show s1.heap.IsTuple c its.toArray from pt) ?_
    exact ⟨s1.heap.objs.size, [s1.heap.objs.size], _, _, H1, rfl, I1.kept (t' := s1.toks) fun b o e => Heap.get?_push_of_some _ e, turn_tuple c _, ⟨_, Heap.get?_push_size _ rfl, rfl, rfl⟩, fp, q⟩
theorem iv_seq (ha : EV X W a fe) : IV X W tg a (iSeq fe) := by
  refine PI_imp (pi_seq ha) ?_
  rintro σ H R ⟨ρ, l, s, hE, hW, h⟩
  refine gBind (a := fe) (rel0 := Rel) hE hW h fun d s1 ρ1 H1 v x1 hE1 hW1 r1 h1 => ?_
  split at h1
  · cases r1 with
    | tup q1 r2 => exact ⟨_, rfl, .inr ⟨⟨_, SqT.of q1⟩, h1 ρ1 H1 _ (Ext.refl _ _) hW1 (itR_tup q1 r2)⟩⟩
  · cases r1 with
    | ref q1 =>
      split at h1
      · rename_i e0
        obtain ⟨vs, q2, r2⟩ := hW1.cel _ _ _ e0 q1
        exact ⟨_, rfl, .inl ⟨⟨_, SqL.of q2⟩, h1 ρ1 H1 _ (Ext.refl _ _) hW1 (itR_lst q1)⟩⟩
      · exact h1.elim
  · exact h1.elim
end

/-! ### for, while -/
def forL (chk : List (Nat × Cell)) (step : D → Lo → Sto → R) : List D → Lo → Sto → R
  | [], l, s => if okChk chk s then .nx l s else .bad
  | d :: r, l, s => if okChk chk s then (match step d l s with
    | .nx l' s' => forL chk step r l' s'
    | .ct l' s' => forL chk step r l' s'
    | .bk l' s' => .nx l' s'
    | q => q) else .bad
def stepT (tg : Tg) (body : Sx) (d : D) : Sx := fun l s => match tg.put d l with
  | some l' => body l' s
  | none => .bad
def sFor (g : Ix) (tg : Tg) (body : Sx) : Sx := fun l s => (g l s).then l fun it s1 => forL it.chk (stepT tg body) it.its l s1
def whileN (t : Tx) (body : Sx) : Nat → Sx
  | 0, _, _ => .bad
  | n + 1, l, s => (t l s).then l fun c s1 => if c = true then (match body l s1 with
    | .nx l' s' => whileN t body n l' s'
    | .ct l' s' => whileN t body n l' s'
    | .bk l' s' => .nx l' s'
    | q => q) else .nx l s1
section
variable {X : Cx} {W : WX} {tg iter c : Expr} {body : List Stmt} {g : Ix} {t : Tg} {fb : Sx} {ft : Tx} {pos : Pos}
theorem sv_for (hp : PassesOwn (model X.prog X.w) X.A X.env X.xe) (hc : X.calm = true) (hi : IV X W tg iter g) (hg : GT X tg t) (hb : BV X W body fb) (hs : ∀ x, foldedSetIterable iter X.env x = pure x := by intro _; rfl) :
    SV X W (.For tg iter body [] pos) (sFor g t fb) := by
  refine PS_imp (ps_for hp hc hi hg hb hs) ?_
  rintro De σ H ⟨ρ, l, s, hE, hW, h⟩
  refine gThen (a := g) (rel0 := fun H ρ it J => ItR X.mg H ρ J it) hE hW h fun it s1 ρ1 H1 J x1 hE1 hW1 hJ h1 => ?_
  refine ⟨fun i m σ' H' => ∃ ρ' l' s', Ext H1 ρ1 H' ρ' ∧ EnvR H' ρ' l' σ' ∧ Wd X.mg H' ρ' s' ∧ i ≤ it.its.length ∧ m = it.its.length - i ∧ ResS X.mg W H' ρ' (forL it.chk (stepT t fb) (it.its.drop i) l' s') De,
    ⟨_, ρ1, l, s1, Ext.refl _ _, hE1, hW1, Nat.zero_le _, rfl, h1⟩, ?_⟩
  rintro i m σ' H' ⟨ρ', l', s', x2, hE2, hW2, hi, rfl, h2⟩
  by_cases hl : i < it.its.length
  · rw [List.drop_eq_getElem_cons hl] at h2
    unfold forL at h2
    split at h2
    · rename_i hk
      obtain ⟨q1, q2⟩ := hJ.go H' ρ' s' x2 hW2 hk i _ (List.getElem?_eq_getElem hl)
      refine .inr ⟨q1, fun σ3 H3 => ∃ ρ3 l3 s3, Ext H1 ρ1 H3 ρ3 ∧ EnvR H3 ρ3 l3 σ3 ∧ Wd X.mg H3 ρ3 s3 ∧ ResS X.mg W H3 ρ3 (forL it.chk (stepT t fb) (it.its.drop (i + 1)) l3 s3) De, fun σ3 H3 ⟨ρ3, l3, s3, a1, a2, a3, a4⟩ => ⟨_, by omega, ρ3, l3, s3, a1, a2, a3, hl, rfl, a4⟩, fun v H3 y => ?_⟩
      obtain ⟨x3, hW3, r3⟩ := q2 v H3 y
      unfold stepT at h2
      cases e : t.put it.its[i] l' with
      | none =>
        rw [e] at h2
        exact h2.elim
      | some l4 =>
        rw [e] at h2
        refine gTg_of (hE2.ext x3) r3 e fun σ4 hE4 _ => ⟨ρ', l4, s', hE4, hW3, ?_⟩
        dsimp only at h2
        cases eb : fb l4 s' with
        | nx l5 s5 =>
          rw [eb] at h2
          exact fun ρ5 H5 σ5 x5 w5 e5 => ⟨ρ5, l5, s5, (x2.trans x3).trans x5, e5, w5, ResS.later (x3.trans x5) h2⟩
        | ct l5 s5 =>
          rw [eb] at h2
          exact fun ρ5 H5 σ5 x5 w5 e5 => ⟨ρ5, l5, s5, (x2.trans x3).trans x5, e5, w5, ResS.later (x3.trans x5) h2⟩
        | bk l5 s5 =>
          rw [eb] at h2
          exact ResS.later (r := .nx l5 s5) x3 h2
        | rt d5 s5 =>
          rw [eb] at h2
          exact ResS.later (r := .rt d5 s5) x3 h2
        | ex z l5 s5 =>
          rw [eb] at h2
          exact ResS.later (r := .ex z l5 s5) x3 h2
        | bad =>
          rw [eb] at h2
          exact h2
    · exact h2.elim
  · have e : i = it.its.length := by omega
    subst e
    rw [List.drop_length] at h2
    unfold forL at h2
    split at h2
    · rename_i hk
      exact .inl ⟨hJ.stop H' ρ' s' x2 hW2 hk, h2 ρ' H' σ' (Ext.refl _ _) hW2 hE2⟩
    · exact h2.elim
theorem sv_while (n : Nat) (hp : PassesOwn (model X.prog X.w) X.A X.env X.xe) (hc : TV X W c ft) (hb : BV X W body fb) : SV X W (.While c body [] pos) (whileN ft fb n) := by
  refine PS_imp (ps_while hp hc hb) ?_
  rintro De σ H ⟨ρ, l, s, hE, hW, h⟩
  refine ⟨fun m σ' H' => ∃ ρ' l' s', EnvR H' ρ' l' σ' ∧ Wd X.mg H' ρ' s' ∧ ResS X.mg W H' ρ' (whileN ft fb m l' s') De, ⟨n, ρ, l, s, hE, hW, h⟩, ?_⟩
  rintro m σ' H' ⟨ρ', l', s', hE2, hW2, h2⟩
  cases m with
  | zero => exact h2.elim
  | succ m =>
    unfold whileN at h2
    refine gThen (a := ft) (rel0 := fun _ _ a b => a = b) hE2 hW2 h2 fun d s1 ρ1 H1 v x1 hE1 hW1 r1 h1 => ?_
    subst r1
    cases d with
    | true =>
      refine ⟨fun σ3 H3 => ∃ ρ3 l3 s3, EnvR H3 ρ3 l3 σ3 ∧ Wd X.mg H3 ρ3 s3 ∧ ResS X.mg W H3 ρ3 (whileN ft fb m l3 s3) De, fun σ3 H3 q => ⟨m, by omega, q⟩, ρ1, l', s1, hE1, hW1, ?_⟩
      simp only [if_true] at h1
      cases eb : fb l' s1 with
      | nx l5 s5 =>
        rw [eb] at h1
        exact fun ρ5 H5 σ5 x5 w5 e5 => ⟨ρ5, l5, s5, e5, w5, ResS.later x5 h1⟩
      | ct l5 s5 =>
        rw [eb] at h1
        exact fun ρ5 H5 σ5 x5 w5 e5 => ⟨ρ5, l5, s5, e5, w5, ResS.later x5 h1⟩
      | bk l5 s5 =>
        rw [eb] at h1
        exact h1
      | rt d5 s5 =>
        rw [eb] at h1
        exact h1
      | ex z l5 s5 =>
        rw [eb] at h1
        exact h1
      | bad =>
        rw [eb] at h1
        exact h1
    | false => exact h1 ρ1 H1 _ (Ext.refl _ _) hW1 hE1
end
end PL

namespace PL
open PySem PySem.Spec PyProof.Rows L2

/-! ### the store's own steps -/
/-- a value at the end of a list -/
def pushC (s : Sto) (n : Nat) (d : D) : O Unit := match s[n]? with
  | some (.lst l) => if l.length < LN then .ok () (s.set n (.lst (l ++ [d]))) else .bad
  | _ => .bad
theorem wd_push {mg : Str → Option Value} {H : Hp} {ρ : List Addr} {s s' : Sto} {n : Nat} {d : D} {v : V} (w : Wd mg H ρ s) (r : Rel H ρ d v) (h : pushC s n d = .ok () s') :
    ∃ a vs, ρ[n]? = some a ∧ H a = some (.lst vs) ∧ vs.length < sizeLine ∧ Ext H ρ (upd H a (.lst (vs ++ [v]))) ρ ∧ Wd mg (upd H a (.lst (vs ++ [v]))) ρ s' := by
  unfold pushC at h
  split at h
  · rename_i l e
    split at h
    · rename_i hl
      cases h
      obtain ⟨a, h1, vs, h2, h3⟩ := w.at e
      have q := w.write (c := .lst (l ++ [d])) (o := .lst (vs ++ [v])) h1 fun x => ⟨_, upd_same, (h3.ext x).append (.cons (r.ext x) .nil)⟩
      exact ⟨a, vs, h1, h2, ln_lt (by rw [← h3.length]; exact hl), q.1, q.2⟩
    · cases h
  · cases h

/-! ### comprehensions -/
def wipeL (l : Lo) : List Nat → Lo
  | [] => l
  | v :: vs => (wipeL l vs).set v none
theorem EnvR.wipe {H : Hp} {ρ : List Addr} {l : Lo} {σ : St} (h : EnvR H ρ l σ) : ∀ vs : List Nat, EnvR H ρ (wipeL l vs) (L2.wipe σ vs)
  | [] => h
  | v :: vs => (EnvR.wipe h vs).unset v
theorem wipe_get (σ : St) : ∀ (vs : List Nat) (i : Nat), (L2.wipe σ vs)[i]? = if i ∈ vs then (if i < σ.length then some none else none) else σ[i]?
  | [], i => by simp [L2.wipe]
  | v :: vs, i => by
    have ih := wipe_get σ vs i
    have hl := wipe_length σ vs
    show ((L2.wipe σ vs).set v none)[i]? = _
    rw [List.getElem?_set]
    by_cases h : v = i
    · subst h
      simp [hl]
    · rw [if_neg h, ih]
      have e : (i ∈ v :: vs) ↔ i ∈ vs := by simp [Ne.symm h]
      simp only [e]
theorem setL_length {α : Type} : ∀ (is : List Nat) (ds : List α) (l : List (Option α)), (setL l is ds).length = l.length
  | [], ds, l => by simp [setL]
  | _ :: _, [], l => by simp [setL]
  | i :: is, d :: ds, l => by rw [setL, setL_length is ds, List.length_set]
theorem setL_get {α : Type} : ∀ (is : List Nat) (ds : List α) (l : List (Option α)) (j : Nat), j ∉ is → (setL l is ds)[j]? = l[j]?
  | [], ds, l, j, _ => by simp [setL]
  | _ :: _, [], l, j, _ => by simp [setL]
  | i :: is, d :: ds, l, j, h => by
    simp only [List.mem_cons, not_or] at h
    rw [setL, setL_get is ds _ j h.2, List.getElem?_set_ne (Ne.symm h.1)]
theorem wipe_setL {σ : St} {vs is : List Nat} {xs : List V} (h : ∀ i ∈ is, i ∈ vs) : L2.wipe (setL (L2.wipe σ vs) is xs) vs = L2.wipe σ vs := by
  apply List.ext_getElem?
  intro j
  rw [wipe_get, wipe_get, setL_length, wipe_length]
  by_cases hj : j ∈ vs
  · rw [if_pos hj, if_pos hj]
  · rw [if_neg hj, if_neg hj, setL_get is xs _ j (fun z => hj (h j z)), wipe_get, if_neg hj]
/-- no exception here -/
def O.calm {α : Type} (x : O α) : O α := match x with
  | .exc _ _ => .bad
  | y => y
@[simp] theorem O.calm_ok {α : Type} (a : α) (s : Sto) : (O.ok a s).calm = .ok a s := rfl
@[simp] theorem O.calm_exc {α : Type} (x : Xn) (s : Sto) : (O.exc x s : O α).calm = .bad := rfl
@[simp] theorem O.calm_bad {α : Type} : (O.bad : O α).calm = .bad := rfl
def tTrue : Tx := fun _ s => .ok true s
/-- one turn of a comprehension: an item or none -/
def lcStep (l0 : Lo) (tg : Tg) (tt : Tx) (fe : Ex) (d : D) (s : Sto) : O (Option D) := match tg.put d l0 with
  | some l1 => (tt l1 s).calm.bind fun c s1 => if c = true then (fe l1 s1).calm.bind fun y s2 => .ok (some y) s2 else .ok none s1
  | none => .bad
def lcL (chk : List (Nat × Cell)) (n : Nat) (step : D → Sto → O (Option D)) : List D → Sto → O D
  | [], s => if okChk chk s then .ok (.ref n) s else .bad
  | d :: r, s => if okChk chk s then (step d s).bind fun o s1 => match o with
    | some y => (pushC s1 n y).bind fun _ s2 => lcL chk n step r s2
    | none => lcL chk n step r s1
    else .bad
def xLc (own : List Nat) (g : Ix) (tg : Tg) (tt : Tx) (fe : Ex) : Ex := fun l s => (g l s).bind fun it s1 => lcL it.chk s1.length (lcStep (wipeL l own) tg tt fe) it.its (s1 ++ [.lst []])
def Tg.slots : Tg → List Nat
  | .nm i => [i]
  | .tp is => is
abbrev W0 : WX := fun _ _ _ _ => False
def QV (X : Cx) (ifs : List Expr) (f : Tx) : Prop := PTs X ifs (tT X.mg W0 f)
theorem PTs_imp {X : Cx} {e : List Expr} {t t' : TT} (h : PTs X e t) (i : ∀ σ H Q, t' σ H Q → t σ H Q) : PTs X e t' := ⟨fun pins s σ H Q I q => h.run pins s σ H Q I (i σ H Q q)⟩
section
variable {X : Cx} {W : WX} {elt tg iter c : Expr} {ifs : List Expr} {scope : Scope} {own : List (Str × Nat)} {pos : Pos} {g : Ix} {t : Tg} {tt : Tx} {fe : Ex}
theorem qv_nil : QV X [] tTrue := PTs_imp pts_nil fun σ H Q ⟨ρ, l, s, hE, hW, h⟩ => h ρ H true (Ext.refl _ _) hW rfl
theorem qv_one (h : TV X W0 c tt) : QV X [c] tt := pts_one h
theorem lc_read {σ : St} {H : Hp} {Q : VK} (hsl : ∀ i ∈ t.slots, i ∈ own.map (·.2)) (h : tE X.mg W (xLc (own.map (·.2)) g t tt fe) σ H Q) :
    tLc (tG X.mg W (fun H ρ it J => ItR X.mg H ρ J it) g) (gTg X.K t) (tT X.mg W0 tt) (tE X.mg W0 fe) (own.map (·.2)) σ H Q := by
  obtain ⟨ρ, l, s, hE, hW, h⟩ := h
  refine gBind (a := g) (rel0 := fun H ρ it J => ItR X.mg H ρ J it) hE hW h fun it s1 ρ1 H1 J x1 hE1 hW1 hJ h1 => ?_
  intro Dn hD
  obtain ⟨x2, w2, r2⟩ := hW1.lst (ds := []) (vs := []) .nil hD
  have nD : (ρ1 ++ [Dn])[s1.length]? = some Dn := hW1.last
  refine ⟨fun i m H' => ∃ ρ' s', Ext (upd H1 Dn (.lst [])) (ρ1 ++ [Dn]) H' ρ' ∧ Wd X.mg H' ρ' s' ∧ i ≤ it.its.length ∧ m = it.its.length - i ∧ ResE X.mg W Rel σ H' ρ' (lcL it.chk s1.length (lcStep (wipeL l (own.map (·.2))) t tt fe) (it.its.drop i) s') Q,
    ⟨_, ρ1 ++ [Dn], _, Ext.refl _ _, w2, Nat.zero_le _, rfl, ResE.later x2 h1⟩, ?_⟩
  rintro i m H' ⟨ρ', s', x3, w3, hi, rfl, h3⟩
  have nD' : ρ'[s1.length]? = some Dn := x3.get nD
  by_cases hl : i < it.its.length
  · rw [List.drop_eq_getElem_cons hl] at h3
    unfold lcL at h3
    split at h3
    · rename_i hk
      obtain ⟨q1, q2⟩ := hJ.go H' ρ' s' (x2.trans x3) w3 hk i _ (List.getElem?_eq_getElem hl)
      refine .inr ⟨q1, fun H5 => ∃ ρ5 s5, Ext (upd H1 Dn (.lst [])) (ρ1 ++ [Dn]) H5 ρ5 ∧ Wd X.mg H5 ρ5 s5 ∧ ResE X.mg W Rel σ H5 ρ5 (lcL it.chk s1.length (lcStep (wipeL l (own.map (·.2))) t tt fe) (it.its.drop (i + 1)) s5) Q,
        fun H5 ⟨ρ5, s5, a1, a2, a3⟩ => ⟨_, by omega, ρ5, s5, a1, a2, hl, rfl, a3⟩, fun v H5 y => ?_⟩
      obtain ⟨x4, w4, r4⟩ := q2 v H5 y
      unfold lcStep at h3
      cases e : t.put it.its[i] (wipeL l (own.map (·.2))) with
      | none =>
        rw [e] at h3
        exact h3.elim
      | some l4 =>
        rw [e] at h3
        have hEw : EnvR H5 ρ' (wipeL l (own.map (·.2))) (L2.wipe σ (own.map (·.2))) := (((hE1.ext x2).ext x3).ext x4).wipe _
        refine gTg_of hEw r4 e fun σ6 hE6 hσ => ⟨?_, ?_⟩
        · obtain ⟨is, vs, rfl, his⟩ := hσ
          refine wipe_setL fun j hj => hsl j ?_
          cases t with
          | nm k =>
            have z : is = [k] := his
            subst z
            exact hj
          | tp ks =>
            have z : is = ks := his
            subst z
            exact hj
        · refine ⟨ρ', l4, s', hE6, w4, ?_⟩
          dsimp only at h3
          cases et : tt l4 s' with
          | exc z s6 => rw [et] at h3; exact h3.elim
          | bad => rw [et] at h3; exact h3.elim
          | ok b s6 =>
            rw [et] at h3
            intro ρ7 H7 b' x7 w7 eb
            subst eb
            simp only [O.calm_ok, O.bind_ok] at h3
            have hE7 := hE6.ext x7
            cases b with
            | false =>
              simp only [Bool.false_eq_true, if_false, O.bind_ok] at h3 ⊢
              exact ⟨ρ7, s6, (x3.trans x4).trans x7, w7, ResE.later (x4.trans x7) h3⟩
            | true =>
              simp only [if_true] at h3 ⊢
              refine ⟨ρ7, l4, s6, hE7, w7, ?_⟩
              cases ee : fe l4 s6 with
              | exc z s8 => rw [ee] at h3; exact h3.elim
              | bad => rw [ee] at h3; exact h3.elim
              | ok d8 s8 =>
                rw [ee] at h3
                simp only [O.calm_ok, O.bind_ok] at h3
                intro ρ9 H9 v9 x9 w9 r9
                cases ep : pushC s8 s1.length d8 with
                | exc z s10 => rw [ep] at h3; unfold pushC at ep; split at ep <;> (try split at ep) <;> cases ep
                | bad => rw [ep] at h3; exact h3.elim
                | ok u s10 =>
                  rw [ep] at h3
                  simp only [O.bind_ok] at h3
                  obtain ⟨a, vs, k1, k2, k3, k4, k5⟩ := wd_push w9 r9 ep
                  have ea : a = Dn := by
                    have z := (x4.trans (x7.trans x9)).get nD'
                    rw [k1] at z
                    exact Option.some.inj z
                  subst ea
                  exact ⟨vs, k2, k3, ρ9, s10, (x3.trans (x4.trans (x7.trans x9))).trans k4, k5, ResE.later ((x4.trans (x7.trans x9)).trans k4) h3⟩
    · exact h3.elim
  · have e : i = it.its.length := by omega
    subst e
    rw [List.drop_length] at h3
    unfold lcL at h3
    split at h3
    · rename_i hk
      exact .inl ⟨hJ.stop H' ρ' s' (x2.trans x3) w3 hk, h3 ρ' H' _ (Ext.refl _ _) w3 (.ref nD')⟩
    · exact h3.elim
theorem ev_lc (hc : X.calm = true) (hN : X.N.Nodup) (hi : IV X W tg iter g) (ok : BlkOk X.N X.env.scope scope own)
    (hg : ∀ (s : Shared) (H : Hp) (C : Addr) (cl : List (Str × Addr)) (fp : List Addr), GT (X.blk s H scope (compEnvC scope cl C X.env) fp) tg t)
    (ht : ∀ (s : Shared) (H : Hp) (C : Addr) (cl : List (Str × Addr)) (fp : List Addr), QV (X.blk s H scope (compEnvC scope cl C X.env) fp) ifs tt)
    (he : ∀ (s : Shared) (H : Hp) (C : Addr) (cl : List (Str × Addr)) (fp : List Addr), EV (X.blk s H scope (compEnvC scope cl C X.env) fp) W0 elt fe)
    (hsl : ∀ i ∈ t.slots, i ∈ own.map (·.2) := by decide) (hs : ∀ x, foldedSetIterable iter X.env x = pure x := by intro _; rfl) :
    EV X W (.ListComp elt [⟨tg, iter, ifs, 0⟩] scope pos) (xLc (own.map (·.2)) g t tt fe) :=
  PE_imp (pe_lc (g := gTg X.K t) (tt := tT X.mg W0 tt) (te := tE X.mg W0 fe) hc hN hi ok hg ht he hs) fun σ H Q h => lc_read hsl h
/-- y = [..] on a line of its own -/
theorem sv_setLc {i : Nat} {y : Str} {py spos : Pos} (hc : X.calm = true) (hN : X.N.Nodup) (hi : IV X W tg iter g) (ok : BlkOk X.N X.env.scope scope own)
    (hg : ∀ (s : Shared) (H : Hp) (C : Addr) (cl : List (Str × Addr)) (fp : List Addr), GT (X.blk s H scope (compEnvC scope cl C X.env) fp) tg t)
    (ht : ∀ (s : Shared) (H : Hp) (C : Addr) (cl : List (Str × Addr)) (fp : List Addr), QV (X.blk s H scope (compEnvC scope cl C X.env) fp) ifs tt)
    (he : ∀ (s : Shared) (H : Hp) (C : Addr) (cl : List (Str × Addr)) (fp : List Addr), EV (X.blk s H scope (compEnvC scope cl C X.env) fp) W0 elt fe)
    (hsw : swapsWith (.ListComp elt [⟨tg, iter, ifs, 0⟩] scope pos) (some (.Name y py)) spos.line X.env = pure true) (hy : X.N[i]? = some y := by rfl) (hyl : X.env.scope.names.lookup y = some .local := by rfl)
    (hsl : ∀ i ∈ t.slots, i ∈ own.map (·.2) := by decide) (hs : ∀ x, foldedSetIterable iter X.env x = pure x := by intro _; rfl) :
    SV X W (.Assign [.Name y py] (.ListComp elt [⟨tg, iter, ifs, 0⟩] scope pos) spos) (sSet i (xLc (own.map (·.2)) g t tt fe)) := by
  refine PS_imp (ps_setLc (g := gTg X.K t) (tt := tT X.mg W0 tt) (te := tE X.mg W0 fe) hc hN hy hyl hsw hi ok hg ht he hs) ?_
  rintro De σ H ⟨ρ, l, s, hE, hW, h⟩
  show tLc _ _ _ _ _ σ H _
  have q : tE X.mg W (xLc (own.map (·.2)) g t tt fe) σ H (fun x H1 => gName i x σ H1 De.nx) := by
    refine gThen (a := xLc (own.map (·.2)) g t tt fe) (rel0 := Rel) hE hW h fun d s1 ρ1 H1 v x1 hE1 hW1 r1 h1 => ?_
    exact h1 ρ1 H1 _ (Ext.refl _ _) hW1 (hE1.set r1 i)
  exact lc_read hsl q
end

/-! ### defs -/
/-- what a def is shown to compute -/
structure FnP (P : Program) (w : World) (K : PySem.W.Frag) (mg : Str → Option Value) (base : Heap) (k : Nat) (f : Addr) (fd : FuncData) (ps : List Str) (m : Fn) : Prop where
  len : ∀ ds t, ds.length ≠ ps.length → m ds t = .bad
  run : ∀ (A : Around) (outer : List Env) (s : Shared) (H : Hp) (args : Args) (us : List Value) (vs : List V) (ρ : List Addr) (ds : List D) (t : Sto) (Q : VK) (E : XK),
    Room k A → A.guards = some [] → Env0 P w K mg base A outer s H → BindsTo s fd args (ps.zip us) → Vals vs us → Rels H ρ ds vs → Wd mg H ρ t →
    ResE mg (fun c dd _ H' => E c dd H') Rel [] H ρ (m ds t) Q → codeAny (model P w) A (.call (.ref f) args) (CR (L2.CX P w) outer P w H s Q E) s
/-- a def's body as a function: p parameters, n further names -/
def runB (p n : Nat) (body : Sx) : Fn := fun ds t => if ds.length = p then (match body (ds.map some ++ List.replicate n none) t with
  | .nx _ t' => .ok .none t'
  | .rt d t' => .ok d t'
  | .ex x _ t' => .exc x t'
  | _ => .bad) else .bad
theorem FnP.of {P : Program} {w : World} {K : PySem.W.Frag} {mg : Str → Option Value} {base : Heap} {x qual : Str} {st : Stmt} {f : Addr} {fd : FuncData} {N ps : List Str} {k p n : Nat} {m : Fn} {body : Sx}
    (F : Fun K x qual st f fd) (S : FnScope N ps (defScope st)) (hp : p = ps.length) (hn : n = N.length - ps.length) (hm : m = runB p n body)
    (hb : ∀ (cdv : Value) (A : Around) (outer : List Env) (s : Shared) (H : Hp) (E : XK), Room k (A.deeper (envOfC qual (defScope st) s.heap.objs.size f cdv)) → (A.deeper (envOfC qual (defScope st) s.heap.objs.size f cdv)).guards = some [] →
      BV (cxOf (L2.CX P w) P w K mg base N qual (defScope st) f cdv A outer s H E) (fun c dd _ H' => E c dd H') (defBody st) body) :
    FnP P w K mg base (k + 1) f fd ps m := by
  subst hm hp hn
  refine ⟨fun ds t h => if_neg h, ?_⟩
  intro A outer s H args us vs ρ ds t Q E room hgd e0 binds rv rd hw hres
  obtain ⟨oc, od, kV, doc, pm, an, cdv, ct, osl, rfl, lk, hcd⟩ := F.ex
  have hlen : ds.length = ps.length := by
    by_cases h : ds.length = ps.length
    · exact h
    · rw [show runB ps.length (N.length - ps.length) body ds t = .bad from if_neg h] at hres
      exact hres.elim
  have hvl : vs.length = ps.length := rd.length.symm.trans hlen
  have KX : K.In s.heap := e0.mod.kin.keeps fun b o z => (e0.bs b o z).1
  have lim := e0.mod.nolimit.keeps fun b o z => (e0.bs b o z).1
  have kinds : ∀ y ∈ ps.zip us, (defScope st).names.lookup y.1 = some .local ∨ ((defScope st).names.lookup y.1 = some .cell ∧
      ((cellsFrom (s.heap.objs.size + 1) (defScope st).names []).lookup y.1).isSome = true) := by
    rintro ⟨nm, v⟩ hy
    rcases S.par nm (List.of_mem_zip hy).1 with z | z
    · exact .inl z
    · exact .inr ⟨z, PySem.W.cellsFrom_some _ _ _ (.inl z)⟩
  refine codeAny_call_function room.depth (KX _ _ lk) rfl S.co S.gen rfl
    (PySem.W.codeRec_of KX hcd) (binds _ _ _ _ ?_)
  refine wpAny_newFunctionEnv_cells S.kind kinds ?_
  intro env he s1 ic
  subst he
  refine ⟨lim.keeps ic.toInCall.keep, codeAny_func ?_⟩
  have I := inv_start (CX := L2.CX P w) (E := E) S room.hd e0 hvl rv ic
  have body_ok := hb cdv A outer s H E (room.deeper _) hgd
  have hE : EnvR H ρ (ds.map some ++ List.replicate (N.length - ps.length) none) (L2.start N vs) := by
    unfold L2.start
    rw [hvl]
    exact EnvR.start _ rd
  have res : tS mg (fun c dd _ H' => E c dd H') body { nx := fun _ H' => Q .non H', rt := Q } (L2.start N vs) H := by
    refine ⟨ρ, _, t, hE, hw, ?_⟩
    unfold runB at hres
    rw [if_pos hlen] at hres
    cases e : body (ds.map some ++ List.replicate (N.length - ps.length) none) t with
    | nx l1 t1 =>
      rw [e] at hres
      exact fun ρ' H' σ' x1 w1 _ => hres ρ' H' _ x1 w1 .none
    | rt d t1 =>
      rw [e] at hres
      exact hres
    | bk l1 t1 => rw [e] at hres; exact hres.elim
    | ct l1 t1 => rw [e] at hres; exact hres.elim
    | ex z l1 t1 =>
      rw [e] at hres
      exact fun ρ' H' σ' c dd x1 w1 _ q => hres ρ' H' c dd x1 w1 q
    | bad => rw [e] at hres; exact hres.elim
  have go := body_ok.run [] s1 (L2.start N vs) H _ I res
  refine wpAny_mono go (fun fl s' z => ?_) fun e s' z => z
  cases fl with
  | next =>
    obtain ⟨σ', H', J, q⟩ := z
    exact ⟨V.non, H', J.os, J.bare, J.base, J.hok, rfl, q⟩
  | ret u =>
    obtain ⟨v, σ', H', J, r, q⟩ := z
    exact ⟨v, H', J.os, J.bare, J.base, J.hok, r, q⟩
  | brk =>
    obtain ⟨_, _, _, q⟩ := z
    exact q.elim
  | cont =>
    obtain ⟨_, _, _, q⟩ := z
    exact q.elim
theorem FnP.mono {P : Program} {w : World} {K : PySem.W.Frag} {mg : Str → Option Value} {base : Heap} {j k : Nat} {f : Addr} {fd : FuncData} {ps : List Str} {m : Fn} (F : FnP P w K mg base j f fd ps m) (h : j ≤ k) : FnP P w K mg base k f fd ps m :=
  ⟨F.len, fun A outer s H args us vs ρ ds t Q E hr => F.run A outer s H args us vs ρ ds t Q E (hr.mono h)⟩
/-- a call's arguments, then the def -/
def xCall (m : Fn) (a : Ax) : Ex := fun l s => (a l s).bind m
section
variable {X : Cx} {W : WX} {k : Nat} {f : Addr} {fd : FuncData} {ps : List Str} {m : Fn} {x : Str} {p pos : Pos} {e : Expr} {es : List Expr} {fa : Ax}
theorem FnP.go {pins : List (Addr × Obj)} {σ : St} {H : Hp} {s : Shared} {Q : VK} {us : List Value} {vs : List V} {ρ : List Addr} {ds : List D} {t : Sto} (G : FnP X.prog X.w X.K X.mg X.base k f fd ps m) (hr : Room k X.A) (hgd : X.A.guards = some [])
    (hb : Binds X.K fd ps []) (tk : Takes X W) (I : Inv X pins σ H s) (r : Vals vs us) (rd : Rels H ρ ds vs) (hw : Wd X.mg H ρ t) (h : ResE X.mg W Rel σ H ρ (m ds t) Q) : wpAny (model X.prog X.w) X.A (call (.ref f) us) (EP X pins σ Q) X.xe s := by
  have hl : us.length = ps.length := by
    rw [← r.length, ← rd.length]
    by_cases z : ds.length = ps.length
    · exact z
    · rw [G.len ds t z] at h
      exact h.elim
  have b := hb s us I.kIn (by rw [List.append_nil]; exact hl)
  rw [List.append_nil] at b
  have h' : ResE X.mg (fun c dd _ H' => WE W σ c dd H') Rel [] H ρ (m ds t) Q := by
    cases e : m ds t with
    | ok d s => rw [e] at h; exact h
    | exc y s => rw [e] at h; exact h
    | bad => rw [e] at h; exact h
  refine wpAny_call (codeAny_mono (G.run X.A X.stack s H ⟨us, []⟩ us vs ρ ds t Q (WE W σ) hr hgd I.env0 b r rd hw h') fun res s' hq => ?_)
  cases res with
  | error er => exact passAt tk σ pins H s er s' I hq
  | ok fl =>
    cases fl with
    | ret u => exact I.after hq
    | next => exact hq.elim
    | brk => exact hq.elim
    | cont => exact hq.elim
theorem ev_call (G : FnP X.prog X.w X.K X.mg X.base k f fd ps m) (hr : Room k X.A) (hgd : X.A.guards = some []) (hm : X.mg x = some (.ref f)) (hk : PySem.W.keepIn X.K (.ref f) = true) (hb : Binds X.K fd ps []) (tk : Takes X W)
    (ha : AV X W (e :: es) fa) (hg : Gl X x := by rfl) (hdb : (x == ("__debug__" : Str)) = false := by decide) (he : starEach (e :: es) X.env = (false, eval e X.env) :: starEach es X.env := by rfl) (hpl : (backTo pos (starEach es X.env)).any (·.1) = false := by rfl) :
    EV X W (.Call (.Name x p) (e :: es) [] pos) (xCall m fa) := by
  refine ⟨fun pins s σ H Q I h => ?_⟩
  obtain ⟨ρ, l, t, hE, hW, h⟩ := h
  refine wpAny_Call_Name_kw (ld_glob I hg hm ?_ hdb)
  have h2 := gBind (a := fa) (rel0 := Rels) (Q' := fun vs H1 => ∃ ρ1 ds t1, Rels H1 ρ1 ds vs ∧ Wd X.mg H1 ρ1 t1 ∧ ResE X.mg W Rel σ H1 ρ1 (m ds t1) Q) hE hW h fun ds t1 ρ1 H1 vs x1 hE1 hW1 r1 h1 => ⟨ρ1, ds, t1, r1, hW1, h1⟩
  refine PySem.W.callWith_K (h₀ := X.base) I.ok.mod.kin hk (thn (ha.run pos pins s σ H _ I h2) fun us s1 z => ?_) he hpl
  obtain ⟨vs, H1, I1, r, ρ1, ds, t1, rd, hw, hres⟩ := z
  exact ⟨I1.kIn, G.go hr hgd hb tk I1 r rd hw hres⟩
end
end PL

namespace PL
open PySem PySem.Spec PyProof.Rows L2

/-! ### calls of what is built in -/
def rC (mg : Str → Option Value) (g : Fn) : List V → Hp → VK → Prop := fun xs H Q => ∃ ρ ds s, Rels H ρ ds xs ∧ Wd mg H ρ s ∧ ResO mg H ρ (g ds s) Q
def CalmN (g : Fn) : Prop := ∀ ds s x s', g ds s ≠ .exc x s'
theorem CallR_imp {X : Cx} {f : Value} {r r' : List V → Hp → VK → Prop} (h : CallR X f r) (i : ∀ xs H Q, r' xs H Q → r xs H Q) : CallR X f r' := fun pins s σ H xs us Q I rs q => h pins s σ H xs us Q I rs (i xs H Q q)
section
variable {X : Cx} {W : WX} {e : Expr} {es : List Expr} {fa : Ax} {g : Fn} {x : Str} {p pos : Pos} {id T : String}
theorem args_imp (hcm : CalmN g) {σ : St} {H : Hp} {Q : VK} (h : tE X.mg W (xCall g fa) σ H Q) : tA X.mg W fa σ H fun vs H1 => rC X.mg g vs H1 Q := by
  obtain ⟨ρ, l, s, hE, hW, h⟩ := h
  refine gBind (a := fa) (rel0 := Rels) hE hW h fun ds s1 ρ1 H1 vs x1 hE1 hW1 r1 h1 => ?_
  exact ⟨ρ1, ds, s1, r1, hW1, ResO_of (hcm ds s1) h1⟩
theorem ev_callB (hc : CallR X (.builtin id) (rC X.mg g)) (hcm : CalmN g) (hv : bootBuiltins x = some (.builtin id)) (hm : X.mg x = none) (ha : AV X W (e :: es) fa) (hg : Gl X x := by rfl) (hn : x ≠ "__name__" := by decide) (hdb : (x == ("__debug__" : Str)) = false := by decide)
    (he : starEach (e :: es) X.env = (false, eval e X.env) :: starEach es X.env := by rfl) (hpl : (backTo pos (starEach es X.env)).any (·.1) = false := by rfl) : EV X W (.Call (.Name x p) (e :: es) [] pos) (xCall g fa) :=
  PE_imp (pe_callB hc hg hm hv ha hn hdb he hpl) fun σ H Q h => args_imp hcm h
theorem ev_callTy (hc : CallR X (.type T) (rC X.mg g)) (hcm : CalmN g) (hv : bootBuiltins x = some (.type T)) (hm : X.mg x = none) (ha : AV X W (e :: es) fa) (hg : Gl X x := by rfl) (hn : x ≠ "__name__" := by decide) (hdb : (x == ("__debug__" : Str)) = false := by decide)
    (he : starEach (e :: es) X.env = (false, eval e X.env) :: starEach es X.env := by rfl) (hpl : (backTo pos (starEach es X.env)).any (·.1) = false := by rfl) : EV X W (.Call (.Name x p) (e :: es) [] pos) (xCall g fa) :=
  PE_imp (pe_callTy hc hg hm hv ha hn hdb he hpl) fun σ H Q h => args_imp hcm h
end
/-- len -/
def pLen : Fn := fun ds s => match ds with
  | [.str l] => if l.length ≤ LN then .ok (.int l.length) s else .bad
  | [.tup l] => .ok (.int l.length) s
  | [.rol l] => .ok (.int l.length) s
  | [.ref n] => (match s[n]? with
    | some (.lst l) => .ok (.int l.length) s
    | some (.dct false l) => .ok (.int l.length) s
    | _ => .bad)
  | _ => .bad
theorem calm_len : CalmN pLen := by intro ds s x s' h; unfold pLen at h; split at h <;> (try split at h) <;> cases h
/-- int of an int, of a bool -/
def pInt : Fn := fun ds s => match ds with
  | [.int i] => .ok (.int i) s
  | [.bool b] => .ok (.int (if b then 1 else 0)) s
  | _ => .bad
theorem calm_int : CalmN pInt := by intro ds s x s' h; unfold pInt at h; split at h <;> cases h
def pBool : Fn := fun ds s => match ds with
  | [.int i] => .ok (.bool (i != 0)) s
  | [.bool b] => .ok (.bool b) s
  | _ => .bad
theorem calm_bool : CalmN pBool := by intro ds s x s' h; unfold pBool at h; split at h <;> cases h
/-- an int's digits -/
def decT (i : Int) : List Char := (toString i).toList
/-- str of an int, of a text -/
def pStr : Fn := fun ds s => match ds with
  | [.int i] => if i.natAbs.log2 < 1920 then .ok (.str (decT i)) s else .bad
  | [.str t] => .ok (.str t) s
  | _ => .bad
theorem calm_str : CalmN pStr := by intro ds s x s' h; unfold pStr at h; split at h <;> (try split at h) <;> cases h
def pAbs : Fn := fun ds s => match ds with
  | [.int i] => .ok (.int (if i < 0 then -i else i)) s
  | _ => .bad
theorem calm_abs : CalmN pAbs := by intro ds s x s' h; unfold pAbs at h; split at h <;> cases h
/-- min, max of two ints -/
def pMax2 : Fn := fun ds s => match ds with
  | [.int i, .int j] => .ok (.int (if j > i then j else i)) s
  | _ => .bad
theorem calm_max2 : CalmN pMax2 := by intro ds s x s' h; unfold pMax2 at h; split at h <;> cases h
def pMin2 : Fn := fun ds s => match ds with
  | [.int i, .int j] => .ok (.int (if j < i then j else i)) s
  | _ => .bad
theorem calm_min2 : CalmN pMin2 := by intro ds s x s' h; unfold pMin2 at h; split at h <;> cases h
/-- tuple, list of a list, of a tuple -/
def pTuple : Fn := fun ds s => match ds with
  | [.tup l] => .ok (.tup l) s
  | [.ref n] => (match s[n]? with
    | some (.lst l) => .ok (.tup l) s
    | _ => .bad)
  | [.rol l] => .ok (.tup (l.map D.int)) s
  | _ => .bad
theorem calm_tuple : CalmN pTuple := by intro ds s x s' h; unfold pTuple at h; split at h <;> (try split at h) <;> cases h
def pList : Fn := fun ds s => match ds with
  | [.tup l] => .ok (.ref s.length) (s ++ [.lst l])
  | [.ref n] => (match s[n]? with
    | some (.lst l) => .ok (.ref s.length) (s ++ [.lst l])
    | _ => .bad)
  | [.rol l] => .ok (.ref s.length) (s ++ [.lst (l.map D.int)])
  | _ => .bad
theorem calm_list : CalmN pList := by intro ds s x s' h; unfold pList at h; split at h <;> (try split at h) <;> cases h
/-- the ints of a list -/
def intsOf : List D → Option (List Int)
  | [] => some []
  | .int i :: r => (intsOf r).map (i :: ·)
  | _ :: _ => none
theorem intsOf_iff : ∀ {l : List D} {ns : List Int}, intsOf l = some ns → l = ns.map D.int
  | [], ns, h => by cases h; rfl
  | .int i :: r, ns, h => by
    simp only [intsOf, Option.map_eq_some_iff] at h
    obtain ⟨m, h1, rfl⟩ := h
    rw [intsOf_iff h1]
    rfl
  | .none :: _, _, h => by simp [intsOf] at h
  | .bool _ :: _, _, h => by simp [intsOf] at h
  | .str _ :: _, _, h => by simp [intsOf] at h
  | .tup _ :: _, _, h => by simp [intsOf] at h
  | .ref _ :: _, _, h => by simp [intsOf] at h
  | .rol _ :: _, _, h => by simp [intsOf] at h
theorem intsOf_map : ∀ ns : List Int, intsOf (ns.map D.int) = some ns
  | [] => rfl
  | n :: r => by simp [intsOf, intsOf_map r]
def pSum : Fn := fun ds s => match ds with
  | [.ref n] => (match s[n]? with
    | some (.lst l) => (match intsOf l with
      | some ns => .ok (.int ns.sum) s
      | none => .bad)
    | _ => .bad)
  | _ => .bad
theorem calm_sum : CalmN pSum := by intro ds s x s' h; unfold pSum at h; split at h <;> (try split at h) <;> (try split at h) <;> cases h
section
variable {X : Cx}
theorem Rels.one {H : Hp} {ρ : List Addr} {d : D} {xs : List V} (r : Rels H ρ [d] xs) : ∃ v, xs = [v] ∧ Rel H ρ d v := by
  cases r with
  | cons r q => cases q; exact ⟨_, rfl, r⟩
theorem Rels.two {H : Hp} {ρ : List Addr} {d e : D} {xs : List V} (r : Rels H ρ [d, e] xs) : ∃ v w, xs = [v, w] ∧ Rel H ρ d v ∧ Rel H ρ e w := by
  cases r with
  | cons r q =>
    obtain ⟨w, rfl, q2⟩ := q.one
    exact ⟨_, w, rfl, r, q2⟩
theorem cr_len : CallR X (.builtin "len") (rC X.mg pLen) := by
  refine CallR_imp (call_len.or call_lenD) ?_
  rintro xs H Q ⟨ρ, ds, s, rs, hW, h⟩
  unfold pLen at h
  split at h
  · obtain ⟨v, rfl, r⟩ := rs.one
    cases r
    split at h
    · rename_i hl
      exact .inl ⟨_, _, rfl, ⟨by rw [sT_len]; exact ln_le hl, (sT_len _).symm⟩, h ρ H _ (Ext.refl _ _) hW (.int _)⟩
    · exact h.elim
  · obtain ⟨v, rfl, r⟩ := rs.one
    cases r with
    | tup h1 r1 => exact .inl ⟨_, _, rfl, .inr ⟨_, SqT.of h1, r1.length⟩, h ρ H _ (Ext.refl _ _) hW (.int _)⟩
  · obtain ⟨v, rfl, r⟩ := rs.one
    cases r with
    | rol h1 => exact .inl ⟨_, _, rfl, .inl ⟨_, .inl (.inr ⟨_, h1⟩), by rw [List.length_map]⟩, h ρ H _ (Ext.refl _ _) hW (.int _)⟩
  · obtain ⟨v, rfl, r⟩ := rs.one
    cases r with
    | ref h1 =>
      split at h
      · rename_i e0
        obtain ⟨v1, q1, r1⟩ := hW.cel _ _ _ e0 h1
        exact .inl ⟨_, _, rfl, .inl ⟨_, SqL.of q1, r1.length⟩, h ρ H _ (Ext.refl _ _) hW (.int _)⟩
      · rename_i e0
        obtain ⟨v1, q1, r1⟩ := hW.cel _ _ _ e0 h1
        refine .inr ⟨_, _, rfl, q1, ?_⟩
        rw [← r1.length]
        exact h ρ H _ (Ext.refl _ _) hW (.int _)
      · exact h.elim
  · exact h.elim
theorem cr_int : CallR X (.type "int") (rC X.mg pInt) := by
  refine CallR_imp call_int1 ?_
  rintro xs H Q ⟨ρ, ds, s, rs, hW, h⟩
  unfold pInt at h
  split at h
  · obtain ⟨v, rfl, r⟩ := rs.one
    cases r
    exact .inl ⟨_, rfl, h ρ H _ (Ext.refl _ _) hW (.int _)⟩
  · obtain ⟨v, rfl, r⟩ := rs.one
    cases r
    exact .inr ⟨_, rfl, h ρ H _ (Ext.refl _ _) hW (.int _)⟩
  · exact h.elim
theorem cr_bool : CallR X (.type "bool") (rC X.mg pBool) := by
  refine CallR_imp call_bool1 ?_
  rintro xs H Q ⟨ρ, ds, s, rs, hW, h⟩
  unfold pBool at h
  split at h
  · obtain ⟨v, rfl, r⟩ := rs.one
    cases r
    exact .inl ⟨_, rfl, h ρ H _ (Ext.refl _ _) hW (.bool _)⟩
  · obtain ⟨v, rfl, r⟩ := rs.one
    cases r
    exact .inr ⟨_, rfl, h ρ H _ (Ext.refl _ _) hW (.bool _)⟩
  · exact h.elim
theorem sT_of (t : String) : (Str.ofString t) = sT t.toList := by
  rw [PySem.Str.ofString_eq_toList] <;> rfl
theorem cr_str : CallR X (.type "str") (rC X.mg pStr) := by
  refine CallR_imp (call_str_int.or SkE.call_str_str) ?_
  rintro xs H Q ⟨ρ, ds, s, rs, hW, h⟩
  unfold pStr at h
  split at h
  · obtain ⟨v, rfl, r⟩ := rs.one
    cases r
    split at h
    · rename_i hl
      refine .inl ⟨_, rfl, hl, ?_⟩
      have e : ∀ i : Int, V.str (toString i : String) = V.str (sT (decT i)) := fun i => congrArg V.str (sT_of _)
      rw [e]
      exact h ρ H _ (Ext.refl _ _) hW (.str _)
    · exact h.elim
  · obtain ⟨v, rfl, r⟩ := rs.one
    cases r
    exact .inr ⟨_, rfl, h ρ H _ (Ext.refl _ _) hW (.str _)⟩
  · exact h.elim
theorem cr_abs : CallR X (.builtin "abs") (rC X.mg pAbs) := by
  refine CallR_imp call_abs ?_
  rintro xs H Q ⟨ρ, ds, s, rs, hW, h⟩
  unfold pAbs at h
  split at h
  · obtain ⟨v, rfl, r⟩ := rs.one
    cases r
    exact ⟨_, rfl, h ρ H _ (Ext.refl _ _) hW (.int _)⟩
  · exact h.elim
theorem cr_max2 (hc : X.calm = true) : CallR X (.builtin "max") (rC X.mg pMax2) := by
  refine CallR_imp (call_max2 hc) ?_
  rintro xs H Q ⟨ρ, ds, s, rs, hW, h⟩
  unfold pMax2 at h
  split at h
  · obtain ⟨v, w, rfl, r, q⟩ := rs.two
    cases r
    cases q
    exact ⟨_, _, rfl, h ρ H _ (Ext.refl _ _) hW (.int _)⟩
  · exact h.elim
theorem cr_min2 (hc : X.calm = true) : CallR X (.builtin "min") (rC X.mg pMin2) := by
  refine CallR_imp (call_min2 hc) ?_
  rintro xs H Q ⟨ρ, ds, s, rs, hW, h⟩
  unfold pMin2 at h
  split at h
  · obtain ⟨v, w, rfl, r, q⟩ := rs.two
    cases r
    cases q
    exact ⟨_, _, rfl, h ρ H _ (Ext.refl _ _) hW (.int _)⟩
  · exact h.elim
theorem Rels.mapInt {H : Hp} {ρ : List Addr} : ∀ l : List Int, Rels H ρ (l.map D.int) (l.map V.int)
  | [] => .nil
  | i :: l => .cons (.int i) (Rels.mapInt l)
theorem cr_tuple : CallR X (.type "tuple") (rC X.mg pTuple) := by
  refine CallR_imp call_tuple_of ?_
  rintro xs H Q ⟨ρ, ds, s, rs, hW, h⟩
  unfold pTuple at h
  split at h
  · obtain ⟨v, rfl, r⟩ := rs.one
    cases r with
    | tup h1 r1 => exact ⟨_, _, rfl, .inr ⟨SqT.of h1, h ρ H _ (Ext.refl _ _) hW (.tup h1 r1)⟩⟩
  · obtain ⟨v, rfl, r⟩ := rs.one
    cases r with
    | ref h1 =>
      split at h
      · rename_i e0
        obtain ⟨v1, q1, r1⟩ := hW.cel _ _ _ e0 h1
        exact ⟨_, _, rfl, .inl ⟨SqL.of q1, fun p hp => h ρ _ _ (ext_new hp) (hW.new hp) (.tup upd_same (r1.ext (ext_new hp)))⟩⟩
      · exact h.elim
  · obtain ⟨v, rfl, r⟩ := rs.one
    cases r with
    | rol h1 => exact ⟨_, _, rfl, .inl ⟨.inl (.inr ⟨_, h1⟩), fun p hp => h ρ _ _ (ext_new hp) (hW.new hp) (.tup upd_same (Rels.mapInt _))⟩⟩
  · exact h.elim
theorem cr_list : CallR X (.type "list") (rC X.mg pList) := by
  refine CallR_imp call_list_of ?_
  rintro xs H Q ⟨ρ, ds, s, rs, hW, h⟩
  unfold pList at h
  split at h
  · obtain ⟨v, rfl, r⟩ := rs.one
    cases r with
    | tup h1 r1 =>
      refine ⟨_, _, rfl, .inr (SqT.of h1), fun p hp => ?_⟩
      obtain ⟨e3, w3, q3⟩ := hW.lst r1 hp
      exact h _ _ _ e3 w3 q3
  · obtain ⟨v, rfl, r⟩ := rs.one
    cases r with
    | ref h1 =>
      split at h
      · rename_i e0
        obtain ⟨v1, q1, r1⟩ := hW.cel _ _ _ e0 h1
        refine ⟨_, _, rfl, .inl (SqL.of q1), fun p hp => ?_⟩
        obtain ⟨e3, w3, q3⟩ := hW.lst r1 hp
        exact h _ _ _ e3 w3 q3
      · exact h.elim
  · obtain ⟨v, rfl, r⟩ := rs.one
    cases r with
    | rol h1 =>
      refine ⟨_, _, rfl, .inl (.inl (.inr ⟨_, h1⟩)), fun p hp => ?_⟩
      obtain ⟨e3, w3, q3⟩ := hW.lst (Rels.mapInt _) hp
      exact h _ _ _ e3 w3 q3
  · exact h.elim
theorem cr_sumD (hc : X.calm = true) : CallR X (.builtin "sum") (rC X.mg pSum) := by
  refine CallR_imp (cr_sum hc) ?_
  rintro xs H Q ⟨ρ, ds, s, rs, hW, h⟩
  unfold pSum at h
  split at h
  · obtain ⟨v, rfl, r⟩ := rs.one
    cases r with
    | ref h1 =>
      split at h
      · rename_i e0
        obtain ⟨v1, q1, r1⟩ := hW.cel _ _ _ e0 h1
        split at h
        · rename_i ns en
          have e2 := intsOf_iff en
          subst e2
          have e3 := r1.ints
          subst e3
          exact ⟨_, _, rfl, SqL.of q1, h ρ H _ (Ext.refl _ _) hW (.int _)⟩
        · exact h.elim
      · exact h.elim
  · exact h.elim
end
theorem bt_len : bootBuiltins "len" = some (.builtin "len") := by decide +kernel
theorem bt_int : bootBuiltins "int" = some (.type "int") := by decide +kernel
theorem bt_bool : bootBuiltins "bool" = some (.type "bool") := by decide +kernel
theorem bt_str : bootBuiltins "str" = some (.type "str") := by decide +kernel
theorem bt_abs : bootBuiltins "abs" = some (.builtin "abs") := by decide +kernel
theorem bt_max : bootBuiltins "max" = some (.builtin "max") := by decide +kernel
theorem bt_min : bootBuiltins "min" = some (.builtin "min") := by decide +kernel
theorem bt_tuple : bootBuiltins "tuple" = some (.type "tuple") := by decide +kernel
theorem bt_list : bootBuiltins "list" = some (.type "list") := by decide +kernel
theorem bt_sum : bootBuiltins "sum" = some (.builtin "sum") := by decide +kernel
theorem bt_repr : bootBuiltins "repr" = some (.builtin "repr") := by decide +kernel
end PL

namespace PL
open PySem PySem.Spec PyProof.Rows L2

/-! ### data that is laid out through the store, its repr -/
def allM {α β : Type} (f : α → Option β) : List α → Option (List β)
  | [] => some []
  | a :: r => match f a, allM f r with
    | some b, some q => some (b :: q)
    | _, _ => none
def lay : Nat → Sto → D → Option PyData
  | 0, _, _ => none
  | n + 1, s, d => match d with
    | .none => some .none
    | .bool b => some (.bool b)
    | .int i => some (.int i)
    | .str l => some (.str (sT l))
    | .tup l => (allM (lay n s) l).map .tuple
    | .ref i => (match s[i]? with
      | some (.lst l) => (allM (lay n s) l).map .list
      | _ => none)
    | .rol l => some (.list (l.map .int))
mutual
/-- a bound of the repr's length -/
def szB : PyData → Nat
  | .none => 4
  | .bool _ => 5
  | .int i => i.natAbs.log2 + 2
  | .str x => 10 * x.length + 2
  | .list l => szBs l + 3
  | .tuple l => szBs l + 3
  | .dict _ => 0
def szBs : List PyData → Nat
  | [] => 0
  | p :: r => szB p + 2 + szBs r
end
def okR (p : PyData) : Bool := p.showable && p.canLay0 && decide (p.depth ≤ 60) && decide (szB p ≤ LN)
theorem okR_iff {p : PyData} : okR p = true ↔ p.showable = true ∧ p.canLay0 = true ∧ p.depth ≤ 60 ∧ szB p ≤ LN := by simp [okR, and_assoc]
mutual
theorem shown_le : ∀ p : PyData, p.showable = true → p.canLay0 = true → p.shown.length ≤ szB p
  | .none, _, _ => by simp only [PyData.shown, szB]; decide
  | .bool b, _, _ => by cases b <;> simp only [PyData.shown, szB] <;> decide
  | .int i, _, _ => by
    simp only [PyData.shown, szB]
    have h := int_text_length_le (a := i) (k := i.natAbs.log2 + 1) (by omega) (by omega)
    show (Str.ofString (toString i)).length ≤ _
    rw [PySem.ofString_length]
    omega
  | .str x, _, h => by
    simp only [PyData.shown, szB]
    refine PySem.StrLaws.reprText_len x fun c hc => ?_
    simp only [PyData.canLay0] at h
    have h2 : x.cps.all (fun c => decide (c < 1114112)) = true := h
    rw [← Array.all_toList, List.all_eq_true] at h2
    have := h2 c hc
    simp only [decide_eq_true_eq] at this
    have e : (16 : Nat) ^ 8 = 4294967296 := by decide
    omega
  | .list l, h1, h2 => by
    simp only [PyData.shown, szB]
    have h := shown_les l (by simpa [PyData.showable] using h1) (by simpa [PyData.canLay0] using h2)
    have := listText_len_le (PyData.shownAll l)
    omega
  | .tuple l, h1, h2 => by
    simp only [PyData.shown, szB]
    have h := shown_les l (by simpa [PyData.showable] using h1) (by simpa [PyData.canLay0] using h2)
    have := tupleText_len_le (PyData.shownAll l)
    omega
  | .dict _, _, h => by simp [PyData.canLay0] at h
theorem shown_les : ∀ l : List PyData, PyData.showableAll l = true → PyData.canLayAll0 l = true → ((PyData.shownAll l).map (·.length)).sum + 2 * (PyData.shownAll l).length ≤ szBs l
  | [], _, _ => by simp [PyData.shownAll, szBs]
  | p :: r, h1, h2 => by
    simp only [PyData.showableAll, PyData.canLayAll0, Bool.and_eq_true] at h1 h2
    have a := shown_le p h1.1 h2.1
    have b := shown_les r h1.2 h2.2
    simp only [PyData.shownAll, szBs, List.map_cons, List.sum_cons, List.length_cons]
    omega
end
theorem allM_dp {K : PySem.W.Frag} {H : Hp} {ρ : List Addr} {f : D → Option PyData} (hf : ∀ d p v, f d = some p → Rel H ρ d v → Dp K H v p) : ∀ {ds : List D} {ps : List PyData} {vs : List V}, allM f ds = some ps → Rels H ρ ds vs → DpAll K H vs ps
  | [], ps, vs, h, r => by
    cases r
    cases h
    exact .nil
  | d :: ds, ps, vs, h, r => by
    cases r with
    | cons r q =>
      simp only [allM] at h
      split at h
      · rename_i b c e1 e2
        cases h
        exact .cons (hf _ _ _ e1 r) (allM_dp hf e2 q)
      · cases h
theorem ints_dp {K : PySem.W.Frag} {H : Hp} : ∀ l : List Int, DpAll K H (l.map V.int) (l.map PyData.int)
  | [] => .nil
  | i :: l => .cons (.int i) (ints_dp l)
theorem lay_dp {K : PySem.W.Frag} {mg : Str → Option Value} {H : Hp} {ρ : List Addr} {s : Sto} (w : Wd mg H ρ s) : ∀ (n : Nat) (d : D) (p : PyData) (v : V), lay n s d = some p → Rel H ρ d v → Dp K H v p
  | 0, _, _, _, h, _ => by cases h
  | n + 1, d, p, v, h, r => by
    cases r with
    | none => cases h; exact .non
    | bool b => cases h; exact .bl b
    | int i => cases h; exact .int i
    | str l => cases h; exact .str _
    | tup h1 r1 =>
      simp only [lay, Option.map_eq_some_iff] at h
      obtain ⟨ps, e, rfl⟩ := h
      exact .tup (SqT.of h1) (allM_dp (fun d p v a b => lay_dp w n d p v a b) e r1)
    | ref h1 =>
      simp only [lay] at h
      split at h
      · rename_i e0
        simp only [Option.map_eq_some_iff] at h
        obtain ⟨ps, e, rfl⟩ := h
        obtain ⟨v1, q1, r1⟩ := w.cel _ _ _ e0 h1
        exact .lst (SqL.of q1) (allM_dp (fun d p v a b => lay_dp w n d p v a b) e r1)
      · cases h
    | rol h1 =>
      cases h
      exact .lst (.inl (.inr ⟨_, h1⟩)) (ints_dp _)
section
variable {X : Cx}
def rRepr (K : PySem.W.Frag) : List V → Hp → VK → Prop := fun xs H Q => ∃ x p, xs = [x] ∧ Dp K H x p ∧ okR p = true ∧ Q (.str p.shown) H
theorem call_repr (hu : X.A.units + 64 < cLine) (hgd : X.A.guards = some []) : CallR X (.builtin "repr") (rRepr X.K) := by
  intro pins s σ H xs us Q I r h
  obtain ⟨x, p, rfl, hd, ho, q⟩ := h
  obtain ⟨h1, h2, h3, h4⟩ := okR_iff.mp ho
  have hl : p.shown.length ≤ sizeLine := ln_le (Nat.le_trans (shown_le p h1 h2) h4)
  have nod : p.hasDict = false := PyData.hasDict_of_canLay p h2
  obtain ⟨u, rfl, ru⟩ := vals1 r
  have hr := Dp.reads I p x u hd ru
  obtain ⟨as, hr⟩ := hr
  cases hd with
  | non =>
    cases ru
    exact PySem.P.repr_of_none ⟨.str _, H, I.tok _, ⟨_, rfl⟩, by simpa only [PyData.shown] using q⟩
  | bl b =>
    cases ru
    exact PySem.P.repr_of_bool ⟨.str _, H, I.tok _, ⟨_, rfl⟩, by simpa only [PyData.shown] using q⟩
  | int i =>
    obtain ⟨t, rfl⟩ := ru
    exact PySem.P.repr_of_int (by simpa [PyData.showable] using h1) ⟨.str _, H, I.tok _, ⟨_, rfl⟩, by simpa only [PyData.shown] using q⟩
  | str y =>
    obtain ⟨t, rfl⟩ := ru
    exact PySem.P.repr_of_str ⟨.str _, H, I.tok _, ⟨_, rfl⟩, by simpa only [PyData.shown] using q⟩ (by simpa only [PyData.shown] using hl)
  | lst h5 h6 =>
    cases ru
    exact repr_of_reads' hr h1 (PyData.noDict_hsm nod) hgd (by omega) (fun _ _ e => e) (fun h' u tk hk => ⟨.str _, H, I.kept hk, ⟨_, rfl⟩, q⟩) hl
  | tup h5 h6 =>
    cases ru
    exact repr_of_reads' hr h1 (PyData.noDict_hsm nod) hgd (by omega) (fun _ _ e => e) (fun h' u tk hk => ⟨.str _, H, I.kept hk, ⟨_, rfl⟩, q⟩) hl
/-- repr(a) == repr(b) -/
def xRep (neg : Bool) (a b : Ex) : Ex := fun l s => (a l s).bind fun d s1 => match lay 12 s1 d with
  | some p => if okR p = true then (b l s1).bind fun e s2 => (match lay 12 s2 e with
    | some q => if okR q = true then .ok (.bool (if neg then !decide (p.shown = q.shown) else decide (p.shown = q.shown))) s2 else .bad
    | none => .bad) else .bad
  | none => .bad
variable {W : WX} {a b : Expr} {fa fb : Ex} {p1 p2 q1 q2 pos : Pos}
theorem rep_imp {neg : Bool} {σ : St} {H : Hp} {Q : VK} (h : tE X.mg W (xRep neg fa fb) σ H Q) : tCB (rRepr X.K) (tCons (tE X.mg W fa) tNil) σ H fun x H1 => tCB (rRepr X.K) (tCons (tE X.mg W fb) tNil) σ H1 fun y H2 =>
    scal x y = true ∧ Q (.bl (if neg then !decide (x = y) else decide (x = y))) H2 := by
  obtain ⟨ρ, l, s, hE, hW, h⟩ := h
  show tE X.mg W fa σ H _
  refine gBind (a := fa) (rel0 := Rel) hE hW h fun d s1 ρ1 H1 v x1 hE1 hW1 r1 h1 => ?_
  split at h1
  · rename_i p ep
    split at h1
    · rename_i op
      refine ⟨v, p, rfl, lay_dp hW1 _ _ _ _ ep r1, op, ?_⟩
      show tE X.mg W fb σ H1 _
      refine gBind (a := fb) (rel0 := Rel) hE1 hW1 h1 fun e s2 ρ2 H2 u x2 hE2 hW2 r2 h2 => ?_
      split at h2
      · rename_i q eq
        split at h2
        · rename_i oq
          refine ⟨u, q, rfl, lay_dp hW2 _ _ _ _ eq r2, oq, rfl, ?_⟩
          have e : decide (V.str p.shown = V.str q.shown) = decide (p.shown = q.shown) := by
            rw [decide_eq_decide]
            exact ⟨fun z => V.str.inj z, fun z => by rw [z]⟩
          rw [e]
          exact h2 ρ2 H2 _ (Ext.refl _ _) hW2 (.bool _)
        · exact h2.elim
      · exact h2.elim
    · exact h1.elim
  · exact h1.elim
theorem ev_repEq (hu : X.A.units + 64 < cLine) (hgd : X.A.guards = some []) (hm : X.mg "repr" = none) (ha : EV X W a fa) (hb : EV X W b fb) (hg : Gl X "repr" := by rfl)
    (h1 : starEach [a] X.env = [(false, eval a X.env)] := by rfl) (h2 : starEach [b] X.env = [(false, eval b X.env)] := by rfl) :
    EV X W (.Compare (.Call (.Name "repr" p1) [a] [] q1) [.Eq] [.Call (.Name "repr" p2) [b] [] q2] pos) (xRep false fa fb) :=
  PE_imp (pe_cmpR op_eq (pe_callB (call_repr hu hgd) hg hm bt_repr (pa_cons ha pa_nil h1) (he := h1)) (pe_callB (call_repr hu hgd) hg hm bt_repr (pa_cons hb pa_nil h2) (he := h2)) rfl) fun σ H Q h => rep_imp h
theorem ev_repNe (hu : X.A.units + 64 < cLine) (hgd : X.A.guards = some []) (hm : X.mg "repr" = none) (ha : EV X W a fa) (hb : EV X W b fb) (hg : Gl X "repr" := by rfl)
    (h1 : starEach [a] X.env = [(false, eval a X.env)] := by rfl) (h2 : starEach [b] X.env = [(false, eval b X.env)] := by rfl) :
    EV X W (.Compare (.Call (.Name "repr" p1) [a] [] q1) [.NotEq] [.Call (.Name "repr" p2) [b] [] q2] pos) (xRep true fa fb) :=
  PE_imp (pe_cmpR op_ne (pe_callB (call_repr hu hgd) hg hm bt_repr (pa_cons ha pa_nil h1) (he := h1)) (pe_callB (call_repr hu hgd) hg hm bt_repr (pa_cons hb pa_nil h2) (he := h2)) rfl) fun σ H Q h => rep_imp h
end

/-! ### methods of lists, of texts -/
def isLst (d : D) (s : Sto) : Bool := match d with
  | .ref n => (match s[n]? with
    | some (.lst _) => true
    | _ => false)
  | .rol _ => true
  | _ => false
def isStr (d : D) (_ : Sto) : Bool := match d with
  | .str _ => true
  | _ => false
def xMeth (ty : D → Sto → Bool) (g : D → Fn) (o : Ex) (a : Ax) : Ex := fun l s => (o l s).bind fun d s1 => if ty d s1 = true then (a l s1).bind fun ds s2 => g d ds s2 else .bad
def rM (mg : Str → Option Value) (g : D → Fn) : V → List V → Hp → VK → Prop := fun x xs H Q => ∃ ρ d ds s, Rel H ρ d x ∧ Rels H ρ ds xs ∧ Wd mg H ρ s ∧ ResO mg H ρ (g d ds s) Q
def CalmM (g : D → Fn) : Prop := ∀ d, CalmN (g d)
theorem MtR_imp {X : Cx} {id : String} {r r' : V → List V → Hp → VK → Prop} (h : MtR X id r) (i : ∀ x xs H Q, r' x xs H Q → r x xs H Q) : MtR X id r' := fun pins s σ H x xs v us Q I rx rs q => h pins s σ H x xs v us Q I rx rs (i x xs H Q q)
section
variable {X : Cx} {W : WX} {o e : Expr} {es : List Expr} {fo : Ex} {fa : Ax} {name : Str} {apos cpos : Pos} {T id : String} {g : D → Fn} {ty : D → Sto → Bool}
def TyOf (X : Cx) (T : String) (ty : D → Sto → Bool) : Prop := ∀ d s H ρ x, Rel H ρ d x → Wd X.mg H ρ s → ty d s = true → tyV X.K T x H
theorem ty_lst : TyOf X "list" isLst := by
  intro d s H ρ x r hW h
  unfold isLst at h
  split at h
  · split at h
    · rename_i e0
      cases r with
      | ref h1 =>
        obtain ⟨v1, q1, r1⟩ := hW.cel _ _ _ e0 h1
        exact .inl ⟨rfl, _, SqL.of q1⟩
    · cases h
  · cases r with
    | rol h1 => exact .inl ⟨rfl, _, .inl (.inr ⟨_, h1⟩)⟩
  · cases h
theorem ty_str : TyOf X "str" isStr := by
  intro d s H ρ x r hW h
  unfold isStr at h
  split at h
  · cases r
    rfl
  · cases h
theorem ev_bm (pa : PlainAttrs T) (slot : Slot T name id) (hty : typeOf (.builtin id) = pure (.type "method_descriptor")) (hm : MtR X id (rM X.mg g)) (hcm : CalmM g) (ht : TyOf X T ty) (ho : EV X W o fo) (ha : AV X W (e :: es) fa)
    (hbase : attributeBase o name X.env (eval o X.env) = eval o X.env := by rfl)
    (hfew : ((backTo cpos (starEach (e :: es) X.env)).all (fun x => !x.1) && (backToKw cpos (keywordEach [] X.env)).all (fun x => x.1.isSome)
      && decide ((e :: es).length + ([] : List Keyword).length + (if ([] : List Keyword).isEmpty then 0 else 1) < 30)) = true := by rfl)
    (hline : (apos.endLine == cpos.line) = true := by rfl) (hs : starEach (e :: es) X.env = (false, eval e X.env) :: starEach es X.env := by rfl) (hplain : (backTo cpos (starEach es X.env)).any (·.1) = false := by rfl) :
    EV X W (.Call (.Attribute o name apos) (e :: es) [] cpos) (xMeth ty g fo fa) := by
  refine PE_imp (pe_bm pa slot hty hm ho ha hbase hfew hline hs hplain) ?_
  rintro σ H Q ⟨ρ, l, s, hE, hW, h⟩
  refine gBind (a := fo) (rel0 := Rel) hE hW h fun d s1 ρ1 H1 v x1 hE1 hW1 r1 h1 => ?_
  split at h1
  · rename_i t1
    refine ⟨ht d s1 H1 ρ1 v r1 hW1 t1, ?_⟩
    refine gBind (a := fa) (rel0 := Rels) hE1 hW1 h1 fun ds s2 ρ2 H2 vs x2 hE2 hW2 r2 h2 => ?_
    exact ⟨ρ2, d, ds, s2, r1.ext x2, r2, hW2, ResO_of (hcm d ds s2) h2⟩
  · exact h1.elim
theorem ev_bm0 (pa : PlainAttrs T) (slot : Slot T name id) (hty : typeOf (.builtin id) = pure (.type "method_descriptor")) (hm : MtR X id (rM X.mg g)) (hcm : CalmM g) (ht : TyOf X T ty) (ho : EV X W o fo)
    (hbase : attributeBase o name X.env (eval o X.env) = eval o X.env := by rfl) (hline : (apos.endLine == cpos.line) = true := by rfl) : EV X W (.Call (.Attribute o name apos) [] [] cpos) (xMeth ty g fo aNil) := by
  refine PE_imp (pe_bm0 pa slot hty hm ho hbase hline) ?_
  rintro σ H Q ⟨ρ, l, s, hE, hW, h⟩
  refine gBind (a := fo) (rel0 := Rel) hE hW h fun d s1 ρ1 H1 v x1 hE1 hW1 r1 h1 => ?_
  split at h1
  · rename_i t1
    refine ⟨ht d s1 H1 ρ1 v r1 hW1 t1, ?_⟩
    exact ⟨ρ1, d, [], s1, r1, .nil, hW1, ResO_of (hcm d [] s1) h1⟩
  · exact h1.elim
end
def pAppend (d : D) : Fn := fun ds s => match d, ds with
  | .ref n, [y] => (pushC s n y).bind fun _ s' => .ok .none s'
  | _, _ => .bad
def pExtend (d : D) : Fn := fun ds s => match d, ds with
  | .ref n, [.ref m] => (match s[n]?, s[m]? with
    | some (.lst a), some (.lst b) => if a.length + b.length ≤ LN then .ok .none (s.set n (.lst (a ++ b))) else .bad
    | _, _ => .bad)
  | _, _ => .bad
def pPop (d : D) : Fn := fun ds s => match d, ds with
  | .ref n, [] => (match s[n]? with
    | some (.lst a) => (match a[a.length - 1]? with
      | some y => .ok y (s.set n (.lst a.dropLast))
      | none => .bad)
    | _ => .bad)
  | .ref n, [.int i] => (match s[n]? with
    | some (.lst a) => if -(2 ^ 62) ≤ i ∧ i < 2 ^ 62 then (match ixN a.length i with
      | some k => (match a[k]? with
        | some y => .ok y (s.set n (.lst (a.eraseIdx k)))
        | none => .bad)
      | none => .bad) else .bad
    | _ => .bad)
  | _, _ => .bad
def pReverse (d : D) : Fn := fun ds s => match d, ds with
  | .ref n, [] => (match s[n]? with
    | some (.lst a) => .ok .none (s.set n (.lst a.reverse))
    | _ => .bad)
  | _, _ => .bad
def pClear (d : D) : Fn := fun ds s => match d, ds with
  | .ref n, [] => (match s[n]? with
    | some (.lst _) => .ok .none (s.set n (.lst []))
    | _ => .bad)
  | _, _ => .bad
def joinC (a : List Char) : List (List Char) → List Char
  | [] => []
  | [p] => p
  | p :: q :: r => p ++ (a ++ joinC a (q :: r))
def strsOf : List D → Option (List (List Char))
  | [] => some []
  | .str i :: r => (strsOf r).map (i :: ·)
  | _ :: _ => none
def joinD (a : List Char) (l : List D) (s : Sto) : O D := match strsOf l with
  | some ys => if (ys.map (·.length)).sum + ys.length * a.length ≤ LN then .ok (.str (joinC a ys)) s else .bad
  | none => .bad
def pJoin (d : D) : Fn := fun ds s => match d, ds with
  | .str a, [.tup l] => joinD a l s
  | .str a, [.ref n] => (match s[n]? with
    | some (.lst l) => joinD a l s
    | _ => .bad)
  | _, _ => .bad
theorem pushC_calm {s : Sto} {n : Nat} {y : D} {x : Xn} {s' : Sto} : pushC s n y ≠ .exc x s' := by
  intro h
  unfold pushC at h
  split at h <;> (try split at h) <;> cases h
theorem calm_append : CalmM pAppend := by
  intro d ds s x s' h
  unfold pAppend at h
  split at h
  · cases e : pushC s _ _ with
    | ok a b => rw [e] at h; cases h
    | exc a b => exact pushC_calm e
    | bad => rw [e] at h; cases h
  · cases h
theorem calm_extend : CalmM pExtend := by intro d ds s x s' h; unfold pExtend at h; split at h <;> (try split at h) <;> (try split at h) <;> cases h
theorem calm_pop : CalmM pPop := by intro d ds s x s' h; unfold pPop at h; split at h <;> (try split at h) <;> (try split at h) <;> (try split at h) <;> (try split at h) <;> cases h
theorem calm_reverse : CalmM pReverse := by intro d ds s x s' h; unfold pReverse at h; split at h <;> (try split at h) <;> cases h
theorem calm_clear : CalmM pClear := by intro d ds s x s' h; unfold pClear at h; split at h <;> (try split at h) <;> cases h
theorem calm_joinD {a : List Char} {l : List D} {s : Sto} {x : Xn} {s' : Sto} : joinD a l s ≠ .exc x s' := by
  intro h
  unfold joinD at h
  split at h <;> (try split at h) <;> cases h
theorem calm_join : CalmM pJoin := by
  intro d ds s x s' h
  unfold pJoin at h
  split at h
  · exact calm_joinD h
  · split at h
    · exact calm_joinD h
    · cases h
  · cases h
section
variable {X : Cx}
theorem Rels.eraseIdx {H : Hp} {ρ : List Addr} : ∀ {ds : List D} {vs : List V} (n : Nat), Rels H ρ ds vs → Rels H ρ (ds.eraseIdx n) (vs.eraseIdx n)
  | _, _, _, .nil => .nil
  | _, _, 0, .cons _ t => t
  | _, _, n + 1, .cons r t => .cons r (Rels.eraseIdx n t)
theorem Wd.setL {mg : Str → Option Value} {H : Hp} {ρ : List Addr} {s : Sto} (w : Wd mg H ρ s) {n : Nat} {a : Addr} {ds : List D} {vs : List V} (h1 : ρ[n]? = some a) (r : Rels H ρ ds vs) :
    Ext H ρ (upd H a (.lst vs)) ρ ∧ Wd mg (upd H a (.lst vs)) ρ (s.set n (.lst ds)) := w.write h1 fun x => ⟨_, upd_same, r.ext x⟩
theorem mt_appendD : MtR X "list.append" (rM X.mg pAppend) := by
  refine MtR_imp (r := rAppend) mt_append ?_
  rintro x xs H Q ⟨ρ, d, ds, s, rd, rs, hW, h⟩
  unfold pAppend at h
  split at h
  · rename_i n y
    obtain ⟨v, rfl, r⟩ := rs.one
    cases rd with
    | ref h1 =>
      cases e : pushC s n y with
      | ok u s' =>
        rw [e] at h
        obtain ⟨a, vs, k1, k2, k3, k4, k5⟩ := wd_push hW r e
        rw [h1] at k1
        cases k1
        exact ⟨_, _, _, rfl, rfl, k2, k3, h ρ _ _ k4 k5 .none⟩
      | exc a b => exact absurd e pushC_calm
      | bad => rw [e] at h; exact h.elim
  · exact h.elim
theorem mt_extendD : MtR X "list.extend" (rM X.mg pExtend) := by
  refine MtR_imp (r := rExtend) mt_extend ?_
  rintro x xs H Q ⟨ρ, d, ds, s, rd, rs, hW, h⟩
  unfold pExtend at h
  split at h
  · obtain ⟨v, rfl, r⟩ := rs.one
    cases rd with
    | ref h1 =>
      cases r with
      | ref h2 =>
        split at h
        · rename_i e1 e2
          split at h
          · rename_i hl
            obtain ⟨v1, q1, r1⟩ := hW.cel _ _ _ e1 h1
            obtain ⟨v2, q2, r2⟩ := hW.cel _ _ _ e2 h2
            obtain ⟨k4, k5⟩ := hW.setL h1 (r1.append r2)
            exact ⟨_, _, _, _, rfl, rfl, q1, q2, ln_le (by rw [← r1.length, ← r2.length]; exact hl), h ρ _ _ k4 k5 .none⟩
          · exact h.elim
        · exact h.elim
  · exact h.elim
theorem mt_popD : MtR X "list.pop" (rM X.mg pPop) := by
  refine MtR_imp (MtR.or (r := rPop) (r' := rPopAt) mt_pop mt_popAt) ?_
  rintro x xs H Q ⟨ρ, d, ds, s, rd, rs, hW, h⟩
  unfold pPop at h
  split at h
  · cases rs
    cases rd with
    | ref h1 =>
      split at h
      · rename_i e0
        obtain ⟨v1, q1, r1⟩ := hW.cel _ _ _ e0 h1
        split at h
        · rename_i y ey
          obtain ⟨u, e2, r2⟩ := r1.get ey
          obtain ⟨k4, k5⟩ := hW.setL h1 r1.dropLast
          exact .inl ⟨_, _, u, rfl, rfl, q1, by rw [← r1.length]; exact e2, h ρ _ _ k4 k5 (r2.ext k4)⟩
        · exact h.elim
      · exact h.elim
  · obtain ⟨v, rfl, r⟩ := rs.one
    cases r
    cases rd with
    | ref h1 =>
      split at h
      · rename_i e0
        obtain ⟨v1, q1, r1⟩ := hW.cel _ _ _ e0 h1
        split at h
        · rename_i hb
          split at h
          · rename_i k ek
            split at h
            · rename_i y ey
              obtain ⟨u, e2, r2⟩ := r1.get ey
              obtain ⟨k4, k5⟩ := hW.setL h1 (r1.eraseIdx k)
              rw [r1.length] at ek
              obtain ⟨z1, z2, z3, z4⟩ := ixN_seq ek
              exact .inr ⟨_, _, _, _, u, rfl, rfl, q1, by omega, by omega, z1, e2, h ρ _ _ k4 k5 (r2.ext k4)⟩
            · exact h.elim
          · exact h.elim
        · exact h.elim
      · exact h.elim
  · exact h.elim
theorem mt_reverseD : MtR X "list.reverse" (rM X.mg pReverse) := by
  refine MtR_imp (r := rReverse) mt_reverse ?_
  rintro x xs H Q ⟨ρ, d, ds, s, rd, rs, hW, h⟩
  unfold pReverse at h
  split at h
  · cases rs
    cases rd with
    | ref h1 =>
      split at h
      · rename_i e0
        obtain ⟨v1, q1, r1⟩ := hW.cel _ _ _ e0 h1
        obtain ⟨k4, k5⟩ := hW.setL h1 r1.reverse
        exact ⟨_, _, rfl, rfl, q1, h ρ _ _ k4 k5 .none⟩
      · exact h.elim
  · exact h.elim
theorem mt_clearD : MtR X "list.clear" (rM X.mg pClear) := by
  refine MtR_imp (r := rClear) mt_clear ?_
  rintro x xs H Q ⟨ρ, d, ds, s, rd, rs, hW, h⟩
  unfold pClear at h
  split at h
  · cases rs
    cases rd with
    | ref h1 =>
      split at h
      · rename_i e0
        obtain ⟨v1, q1, r1⟩ := hW.cel _ _ _ e0 h1
        obtain ⟨k4, k5⟩ := hW.setL (ds := []) (vs := []) h1 .nil
        exact ⟨_, _, rfl, rfl, q1, h ρ _ _ k4 k5 .none⟩
      · exact h.elim
  · exact h.elim
theorem joinC_sT (a : List Char) : ∀ ys : List (List Char), Str.join (sT a) (ys.map sT) = sT (joinC a ys)
  | [] => rfl
  | [p] => rfl
  | p :: q :: r => by
    have ih := joinC_sT a (q :: r)
    show sT p ++ sT a ++ Str.join (sT a) ((q :: r).map sT) = _
    rw [ih, sT_app, sT_app, List.append_assoc]
    rfl
theorem strs_rel {H : Hp} {ρ : List Addr} : ∀ {l : List D} {ys : List (List Char)} {vs : List V}, strsOf l = some ys → Rels H ρ l vs → vs = (ys.map sT).map V.str
  | [], ys, vs, h, r => by
    cases h
    cases r
    rfl
  | .str x :: l, ys, vs, h, r => by
    simp only [strsOf, Option.map_eq_some_iff] at h
    obtain ⟨m, h1, rfl⟩ := h
    cases r with
    | cons r q =>
      cases r
      rw [strs_rel h1 q]
      rfl
  | .none :: _, _, _, h, _ => by simp [strsOf] at h
  | .bool _ :: _, _, _, h, _ => by simp [strsOf] at h
  | .int _ :: _, _, _, h, _ => by simp [strsOf] at h
  | .tup _ :: _, _, _, h, _ => by simp [strsOf] at h
  | .ref _ :: _, _, _, h, _ => by simp [strsOf] at h
  | .rol _ :: _, _, _, h, _ => by simp [strsOf] at h
theorem join_rd {H : Hp} {ρ : List Addr} {a : List Char} {l : List D} {vs : List V} {s : Sto} {Q : VK} {p : Addr} (hW : Wd X.mg H ρ s) (r : Rels H ρ l vs) (hp : SqL X.K H p vs ∨ SqT X.K H p vs) (h : ResO X.mg H ρ (joinD a l s) Q) :
    ∃ b q, ∃ ys : List Str, V.str (sT a) = .str b ∧ [V.ref p] = [.ref q] ∧ (SqL X.K H q (ys.map V.str) ∨ SqT X.K H q (ys.map V.str)) ∧ (ys.map (·.length)).sum + ys.length * b.length ≤ 16777216 ∧ Q (.str (Txt.join b ys)) H := by
  unfold joinD at h
  split at h
  · rename_i ys e
    split at h
    · rename_i hl
      have ev := strs_rel e r
      subst ev
      refine ⟨sT a, p, ys.map sT, rfl, rfl, hp, ?_, ?_⟩
      · rw [List.map_map, List.length_map, sT_len]
        have e2 : (ys.map ((fun x : Str => x.length) ∘ sT)) = ys.map (·.length) := by
          apply List.map_congr_left
          intro x _
          exact sT_len x
        show (ys.map ((fun x : Str => x.length) ∘ sT)).sum + _ ≤ _
        rw [e2]
        exact hl
      · rw [TL.join_eq, joinC_sT]
        exact h ρ H _ (Ext.refl _ _) hW (.str _)
    · exact h.elim
  · exact h.elim
theorem mt_joinD : MtR X "str.join" (rM X.mg pJoin) := by
  refine MtR_imp mt_join ?_
  rintro x xs H Q ⟨ρ, d, ds, s, rd, rs, hW, h⟩
  unfold pJoin at h
  split at h
  · obtain ⟨v, rfl, r⟩ := rs.one
    cases rd
    cases r with
    | tup h1 r1 => exact join_rd hW r1 (.inr (SqT.of h1)) h
  · obtain ⟨v, rfl, r⟩ := rs.one
    cases rd
    cases r with
    | ref h1 =>
      split at h
      · rename_i e0
        obtain ⟨v1, q1, r1⟩ := hW.cel _ _ _ e0 h1
        exact join_rd hW r1 (.inl (SqL.of q1)) h
      · exact h.elim
  · exact h.elim
end
end PL

namespace PL
open PySem PySem.Spec PyProof.Rows L2

/-! ### o[i] = v -/
def putIx (o i v : D) (s : Sto) : Option Sto := match o with
  | .ref n => (match s[n]? with
    | some (.lst l) => (match i with
      | .int k => (match ixN l.length k with
        | some j => some (s.set n (.lst (l.set j v)))
        | none => none)
      | _ => none)
    | some (.dct t l) => if i.keyOk t = true ∧ l.length < LN then some (s.set n (.dct t (dput l i v))) else none
    | _ => none)
  | _ => none
def sPut (o i a : Ex) : Sx := fun l s => (a l s).then l fun v s1 => (o l s1).then l fun d s2 => (i l s2).then l fun k s3 => match putIx d k v s3 with
  | some s4 => .nx l s4
  | none => .bad
section
variable {X : Cx} {W : WX} {o i e : Expr} {fo fi fe : Ex} {pos p2 : Pos}
theorem PSet.or' {t t' : TSet} (h : PSet X t) (h' : PSet X t') : PSet X (fun o i v H Q => t o i v H Q ∨ t' o i v H Q) := by
  intro pins s σ H x y v xv yv u Q I r1 r2 r3 q
  rcases q with q | q
  · exact h pins s σ H x y v xv yv u Q I r1 r2 r3 q
  · exact h' pins s σ H x y v xv yv u Q I r1 r2 r3 q
def tSetD : TSet := fun o i v H Q => ∃ a H', o = .ref a ∧ DPut H a i v H' ∧ Q H'
theorem set_dct (hu : X.A.units + 1 < cLine) : PSet X tSetD := by
  intro pins s σ H o i v ov iv u Q I ro ri rv h
  obtain ⟨a, H', rfl, g, q⟩ := h
  cases ro
  exact d_setItem hu I g ri rv fun s' I' => ⟨H', I', q⟩
theorem dput_wd {mg : Str → Option Value} {H : Hp} {ρ : List Addr} {s : Sto} {n : Nat} {a : Addr} {t : Bool} {l : List (D × D)} {k v : D} {x y : V} (hW : Wd mg H ρ s) (e0 : s[n]? = some (.dct t l)) (h1 : ρ[n]? = some a) (ho : k.keyOk t = true) (hl : l.length < LN) (rk : Rel H ρ k x) (rv : Rel H ρ v y) :
    ∃ H', DPut H a x y H' ∧ Ext H ρ H' ρ ∧ Wd mg H' ρ (s.set n (.dct t (dput l k v))) := by
  have hc := hW.cel _ _ _ e0 h1
  rcases keyOk_cases ho with ⟨rfl, j, hj⟩ | ⟨c, rfl, rfl, j, hj⟩
  · obtain ⟨vs, q1, r1⟩ := hc
    have q := hW.write (c := .dct false (dput l k v)) (o := .dK (putK vs j y)) h1 fun z => ⟨_, upd_same, (r1.ext z).put hj (rv.ext z)⟩
    refine ⟨_, ?_, q.1, q.2⟩
    rw [hj.val rk]
    exact DPut.k q1 (ln_lt (by rw [← r1.length]; exact hl))
  · obtain ⟨vs, q1, r1⟩ := hc
    cases rk with
    | tup hb rs =>
      have q := hW.write (c := .dct true (dput l (.tup c) v)) (o := .dT (putK vs j y)) h1 fun z => ⟨_, upd_same, (r1.ext z).put hj (rv.ext z)⟩
      refine ⟨_, ?_, q.1, q.2⟩
      rw [hj.val rs] at hb
      exact DPut.t q1 hb (ln_lt (by rw [← r1.length]; exact hl))
theorem put_rd {H : Hp} {ρ : List Addr} {s s' : Sto} {d k v : D} {x y z : V} {Q : Hp → Prop} (hW : Wd X.mg H ρ s) (rd : Rel H ρ d x) (rk : Rel H ρ k y) (rv : Rel H ρ v z) (h : putIx d k v s = some s') (q : ∀ H', Ext H ρ H' ρ → Wd X.mg H' ρ s' → Q H') :
    rSetL x y z H Q ∨ tSetD x y z H Q := by
  unfold putIx at h
  split at h
  · cases rd with
    | ref h1 =>
      split at h
      · rename_i e0
        obtain ⟨v1, q1, r1⟩ := hW.cel _ _ _ e0 h1
        split at h
        · split at h
          · rename_i ej
            cases h
            cases rk
            obtain ⟨k4, k5⟩ := hW.setL h1 (r1.set rv _)
            exact .inl ⟨_, _, _, _, rfl, rfl, q1, by rw [← r1.length]; exact ej, q _ k4 k5⟩
          · cases h
        · cases h
      · rename_i e0
        split at h
        · rename_i hc
          cases h
          obtain ⟨H', g1, g2, g3⟩ := dput_wd hW e0 h1 hc.1 hc.2 rk rv
          exact .inr ⟨_, H', rfl, g1, q _ g2 g3⟩
        · cases h
      · cases h
  · cases h
theorem sv_put (hu : X.A.units + 64 < cLine) (he : EV X W e fe) (ho : EV X W o fo) (hi : EV X W i fi) (hs : swapsWithSole [.Subscript o i p2] e pos.line X.env = pure false := by rfl) (hw : swappedStores [.Subscript o i p2] e X.env = pure none := by rfl)
    (h1 : (assignEach [.Subscript o i p2] X.env).map (·.2) = [assign (.Subscript o i p2) X.env] := by rfl)
    (ha : ∀ v, assign (.Subscript o i p2) X.env v = (do
      let ov ← holding [v] (eval o X.env)
      let iv ← holding [v, ov] (eval i X.env)
      standAt p2
      holding [v, ov, iv] (setItem ov iv v)
      release [v, ov, iv] []) := by intro _; rfl) : SV X W (.Assign [.Subscript o i p2] e pos) (sPut fo fi fe) := by
  refine PS_imp (ps_asg he (pg_sub ho hi (PSet.or' set_list (set_dct (by omega))) ha) hs hw h1) ?_
  rintro De σ H ⟨ρ, l, s, hE, hW, h⟩
  refine gThen (a := fe) (rel0 := Rel) hE hW h fun v s1 ρ1 H1 z x1 hE1 hW1 r1 h1 => ?_
  refine gThen (a := fo) (rel0 := Rel) hE1 hW1 h1 fun d s2 ρ2 H2 x x2 hE2 hW2 r2 h2 => ?_
  refine gThen (a := fi) (rel0 := Rel) hE2 hW2 h2 fun k s3 ρ3 H3 y x3 hE3 hW3 r3 h3 => ?_
  split at h3
  · rename_i s4 e4
    exact put_rd hW3 (r2.ext x3) r3 ((r1.ext x2).ext x3) e4 fun H' z1 z2 => h3 ρ3 H' σ z1 z2 (hE3.ext z1)
  · exact h3.elim
end

/-! ### slices -/
def cutL {α : Type} (xs : List α) (lo hi : Option Int) : List α := (xs.drop (HT.sIx xs.length 0 lo)).take (HT.sIx xs.length xs.length hi - HT.sIx xs.length 0 lo)
/-- .. with the length given -/
def cutL' {α : Type} (n : Nat) (xs : List α) (lo hi : Option Int) : List α := (xs.drop (HT.sIx n 0 lo)).take (HT.sIx n n hi - HT.sIx n 0 lo)
def pSl (d : D) (lo hi : Option Int) (s : Sto) : O D := match d with
  | .tup l => .ok (.tup (cutL l lo hi)) s
  | .str l => if l.length ≤ LN then .ok (.str (cutL l lo hi)) s else .bad
  | .ref n => (match s[n]? with
    | some (.lst l) => .ok (.ref s.length) (s ++ [.lst (cutL l lo hi)])
    | _ => .bad)
  | .rol l => .ok (.ref s.length) (s ++ [.lst ((cutL l lo hi).map D.int)])
  | _ => .bad
/-- a slice's bound -/
def xPart (a : Ex) : Lo → Sto → O (Option Int) := fun l s => (a l s).bind fun d s1 => match d with
  | .int i => .ok (some i) s1
  | _ => .bad
def xNoPart : Lo → Sto → O (Option Int) := fun _ s => .ok none s
def xSl (a : Ex) (lo hi : Lo → Sto → O (Option Int)) : Ex := fun l s => (a l s).bind fun d s1 => (lo l s1).bind fun i s2 => (hi l s2).bind fun j s3 => pSl d i j s3
def rSlD (mg : Str → Option Value) : V → Option Int → Option Int → Hp → VK → Prop := fun x lo hi H Q => ∃ ρ d s, Rel H ρ d x ∧ Wd mg H ρ s ∧ ResO mg H ρ (pSl d lo hi s) Q
theorem pSl_calm {d : D} {lo hi : Option Int} {s : Sto} {x : Xn} {s' : Sto} : pSl d lo hi s ≠ .exc x s' := by
  intro h
  unfold pSl at h
  split at h <;> (try split at h) <;> cases h
section
variable {X : Cx} {W : WX} {e : Expr} {lo hi : Option Expr} {fe : Ex} {fl fh : Lo → Sto → O (Option Int)} {pos p2 : Pos}
theorem SlR_imp {r r' : V → Option Int → Option Int → Hp → VK → Prop} (h : SlR X r) (i : ∀ x lo hi H Q, r' x lo hi H Q → r x lo hi H Q) : SlR X r' := fun pins s σ H x v vl vu lo hi sl Q I rx hs pl pu q => h pins s σ H x v vl vu lo hi sl Q I rx hs pl pu (i x lo hi H Q q)
theorem cutL_map {α β : Type} (f : α → β) (xs : List α) (lo hi : Option Int) : cutL (xs.map f) lo hi = (cutL xs lo hi).map f := by
  unfold cutL
  rw [List.length_map, ← List.map_drop, ← List.map_take]
theorem Rels.cut {H : Hp} {ρ : List Addr} {ds : List D} {vs : List V} (r : Rels H ρ ds vs) (lo hi : Option Int) : Rels H ρ (cutL ds lo hi) (cutV vs lo hi) := by
  unfold cutL cutV
  rw [r.length]
  exact (r.drop _).take _
theorem sl_D : SlR X (rSlD X.mg) := by
  refine SlR_imp (sl_list.or (sl_tupA.or sl_str)) ?_
  rintro x lo hi H Q ⟨ρ, d, s, rd, hW, h⟩
  unfold pSl at h
  split at h
  · cases rd with
    | tup h1 r1 =>
      refine .inr (.inl ⟨_, _, rfl, SqT.of h1, fun z => ?_, fun _ p hp => h ρ _ _ (ext_new hp) (hW.new hp) (.tup upd_same ((r1.cut lo hi).ext (ext_new hp)))⟩)
      rename_i l _ vs
      have e : cutL l lo hi = l := by
        unfold cutL
        rw [r1.length, z.1, z.2, ← r1.length]
        simp
      rw [e] at h
      exact h ρ H _ (Ext.refl _ _) hW (.tup h1 r1)
  · split at h
    · rename_i l hl
      cases rd
      refine .inr (.inr ⟨_, rfl, by rw [sT_len]; exact ln_le hl, ?_⟩)
      have e : L2.cutS (sT l) lo hi = sT (cutL l lo hi) := by
        unfold L2.cutS
        rw [sT_len, sT_cps]
        show (⟨(cutL' l.length (l.map Char.toNat) lo hi).toArray⟩ : Str) = _
        unfold cutL' cutL sT
        rw [List.map_take, List.map_drop]
      rw [e]
      exact h ρ H _ (Ext.refl _ _) hW (.str _)
    · exact h.elim
  · cases rd with
    | ref h1 =>
      split at h
      · rename_i e0
        obtain ⟨v1, q1, r1⟩ := hW.cel _ _ _ e0 h1
        refine .inl ⟨_, _, rfl, SqL.of q1, fun p hp => ?_⟩
        obtain ⟨e3, w3, q3⟩ := hW.lst (r1.cut lo hi) hp
        exact h _ _ _ e3 w3 q3
      · exact h.elim
  · cases rd with
    | rol h1 =>
      refine .inl ⟨_, _, rfl, .inl (.inr ⟨_, h1⟩), fun p hp => ?_⟩
      rename_i ns _ _
      have e : cutV (ns.map V.int) lo hi = (cutL ns lo hi).map V.int := cutL_map V.int ns lo hi
      rw [e]
      obtain ⟨e3, w3, q3⟩ := hW.lst (Rels.mapInt (cutL ns lo hi)) hp
      exact h _ _ _ e3 w3 q3
  · exact h.elim
/-- a slice's bound, read -/
def tPO (X : Cx) (W : WX) (f : Lo → Sto → O (Option Int)) : TO := tG X.mg W (fun _ _ a b => a = b) f
def OV (X : Cx) (W : WX) (lo : Option Expr) (f : Lo → Sto → O (Option Int)) : Prop := PO X lo (tPO X W f)
theorem PO_imp {t t' : TO} (h : PO X lo t) (i : ∀ σ H Q, t' σ H Q → t σ H Q) : PO X lo t' := ⟨fun pins s σ H Q I q => h.run pins s σ H Q I (i σ H Q q)⟩
theorem ov_none : OV X W none xNoPart := PO_imp po_none fun σ H Q ⟨ρ, l, s, hE, hW, h⟩ => h ρ H none (Ext.refl _ _) hW rfl
theorem ov_some (h : EV X W e fe) : OV X W (some e) (xPart fe) := by
  refine PO_imp (po_some h) ?_
  rintro σ H Q ⟨ρ, l, s, hE, hW, h⟩
  refine gBind (a := fe) (rel0 := Rel) hE hW h fun d s1 ρ1 H1 v x1 hE1 hW1 r1 h1 => ?_
  split at h1
  · cases r1
    exact ⟨_, rfl, h1 ρ1 H1 _ (Ext.refl _ _) hW1 rfl⟩
  · exact h1.elim
theorem ev_slice (he : EV X W e fe) (hl : OV X W lo fl) (hh : OV X W hi fh) : EV X W (.Subscript e (.Slice lo hi none p2) pos) (xSl fe fl fh) := by
  refine PE_imp (pe_slice sl_D he hl hh) ?_
  rintro σ H Q ⟨ρ, l, s, hE, hW, h⟩
  refine gBind (a := fe) (rel0 := Rel) hE hW h fun d s1 ρ1 H1 v x1 hE1 hW1 r1 h1 => ?_
  refine gBind (a := fl) (rel0 := fun _ _ a b => a = b) hE1 hW1 h1 fun i s2 ρ2 H2 i' x2 hE2 hW2 e2 h2 => ?_
  subst e2
  refine gBind (a := fh) (rel0 := fun _ _ a b => a = b) hE2 hW2 h2 fun j s3 ρ3 H3 j' x3 hE3 hW3 e3 h3 => ?_
  subst e3
  exact ⟨ρ3, d, s3, (r1.ext x2).ext x3, hW3, ResO_of (fun _ _ => pSl_calm) h3⟩
end

/-! ### -x, a < b < c -/
def xNeg (a : Ex) : Ex := fun l s => (a l s).bind fun d s1 => match d with
  | .int i => .ok (.int (-i)) s1
  | _ => .bad
def xChain (g g' : D → D → Sto → O D) (a b c : Ex) : Ex := fun l s => (a l s).bind fun d s1 => (b l s1).bind fun e s2 => (g d e s2).bind fun z s3 => match z with
  | .bool true => (c l s3).bind fun w s4 => g' e w s4
  | .bool false => .ok (.bool false) s3
  | _ => .bad
section
variable {X : Cx} {W : WX} {a b c : Expr} {fa fb fc : Ex} {g g' : D → D → Sto → O D} {pos : Pos}
theorem ev_neg (ha : EV X W a fa) : EV X W (.UnaryOp .USub a pos) (xNeg fa) := by
  refine PE_imp (pe_un un_neg ha) ?_
  rintro σ H Q ⟨ρ, l, s, hE, hW, h⟩
  refine gBind (a := fa) (rel0 := Rel) hE hW h fun d s1 ρ1 H1 v x1 hE1 hW1 r1 h1 => ?_
  split at h1
  · cases r1
    exact ⟨_, rfl, h1 ρ1 H1 _ (Ext.refl _ _) hW1 (.int _)⟩
  · exact h1.elim
theorem chain_imp {σ : St} {H : Hp} {Q : VK} (hc : Calm2 g) (hc' : Calm2 g') (h : tE X.mg W (xChain g g' fa fb fc) σ H Q) : tChain (rP X.mg g) (rP X.mg g') (tE X.mg W fa) (tE X.mg W fb) (tE X.mg W fc) σ H Q := by
  obtain ⟨ρ, l, s, hE, hW, h⟩ := h
  refine gBind (a := fa) (rel0 := Rel) hE hW h fun d s1 ρ1 H1 v x1 hE1 hW1 r1 h1 => ?_
  refine gBind (a := fb) (rel0 := Rel) hE1 hW1 h1 fun e s2 ρ2 H2 u x2 hE2 hW2 r2 h2 => ?_
  refine ⟨ρ2, d, e, s2, r1.ext x2, r2, hW2, ?_⟩
  cases eg : g d e s2 with
  | exc x s3 => exact absurd eg (hc _ _ _ _ _)
  | bad => rw [eg] at h2; exact h2.elim
  | ok z s3 =>
    rw [eg] at h2
    intro ρ3 H3 z' x3 w3 r3
    simp only [O.bind_ok] at h2
    split at h2
    · cases r3
      refine ⟨true, rfl, ?_⟩
      rw [if_pos rfl]
      refine gBind (a := fc) (rel0 := Rel) (hE2.ext x3) w3 (h2.later x3) fun w s4 ρ4 H4 y x4 hE4 hW4 r4 h4 => ?_
      exact ⟨ρ4, e, w, s4, (r2.ext x3).ext x4, r4, hW4, ResO_of (hc' e w s4) h4⟩
    · cases r3
      refine ⟨false, rfl, ?_⟩
      rw [if_neg Bool.false_ne_true]
      exact h2 ρ3 H3 _ x3 w3 (.bool _)
    · exact h2.elim
theorem ev_chain {op op' : CmpOp} (ho : OpR X (compareOp op) (rP X.mg g)) (ho' : OpR X (compareOp op') (rP X.mg g')) (hc : Calm2 g) (hc' : Calm2 g') (h1 : EV X W a fa) (h2 : EV X W b fb) (h3 : EV X W c fc)
    (hm : lastMarks [op, op'] [b, c] = false := by with_unfolding_all rfl) : EV X W (.Compare a [op, op'] [b, c] pos) (xChain g g' fa fb fc) :=
  PE_imp (pe_chain ho ho' h1 h2 h3 hm) fun σ H Q h => chain_imp hc hc' h
theorem tv_chain {op op' : CmpOp} (ho : OpR X (compareOp op) (rP X.mg g)) (ho' : OpR X (compareOp op') (rP X.mg g')) (hc : Calm2 g) (hc' : Calm2 g') (hb' : ∀ d e s z s', g' d e s = .ok z s' → ∃ k, z = .bool k) (h1 : EV X W a fa) (h2 : EV X W b fb) (h3 : EV X W c fc)
    (hm : lastMarks [op, op'] [b, c] = false := by with_unfolding_all rfl) : TV X W (.Compare a [op, op'] [b, c] pos) (tOf (xChain g g' fa fb fc)) := by
  refine PT_imp (pt_chain ho ho' h1 h2 h3 hm) ?_
  rintro σ H Q ⟨ρ, l, s, hE, hW, h⟩
  refine chain_imp (W := W) (fa := fa) (fb := fb) (fc := fc) hc hc' (Q := fun x H' => ∃ k, x = .bl k ∧ Q k H') ⟨ρ, l, s, hE, hW, ?_⟩
  have hz : ∀ z s', xChain g g' fa fb fc l s = .ok z s' → ∃ k, z = .bool k := by
    intro z s' e
    unfold xChain at e
    cases e1 : fa l s with
    | ok d s1 =>
      rw [e1] at e
      simp only [O.bind_ok] at e
      cases e2 : fb l s1 with
      | ok d2 s2 =>
        rw [e2] at e
        simp only [O.bind_ok] at e
        cases e3 : g d d2 s2 with
        | ok z3 s3 =>
          rw [e3] at e
          simp only [O.bind_ok] at e
          split at e
          · cases e4 : fc l s3 with
            | ok z4 s4 =>
              rw [e4] at e
              exact hb' _ _ _ _ _ e
            | exc x s4 => rw [e4] at e; cases e
            | bad => rw [e4] at e; cases e
          · cases e; exact ⟨_, rfl⟩
          · cases e
        | exc x s3 => rw [e3] at e; cases e
        | bad => rw [e3] at e; cases e
      | exc x s2 => rw [e2] at e; cases e
      | bad => rw [e2] at e; cases e
    | exc x s1 => rw [e1] at e; cases e
    | bad => rw [e1] at e; cases e
  unfold tOf at h
  cases e : xChain g g' fa fb fc l s with
  | ok z s' =>
    obtain ⟨k, rfl⟩ := hz _ _ e
    rw [e] at h
    intro ρ' H' v x w r
    cases r
    exact ⟨k, rfl, h ρ' H' k x w rfl⟩
  | exc z s' => rw [e] at h; exact h
  | bad => rw [e] at h; exact h
end
end PL

namespace PL
open PySem PySem.Spec PyProof.Rows L2

/-! ### the head: the law's def is called with the script -/
def notLst (v : Value) : Bool := match v with
  | .type t => t != "list"
  | _ => true
/-- the written part holds no list -/
def noLists (K : PySem.W.Frag) : Bool := K.all fun p => notLst p.2.cls
theorem noLists_at {K : PySem.W.Frag} (h : noLists K = true) {a : Addr} {o : Obj} (e : K.lookup a = some o) (hc : o.cls = .type "list") : False := by
  unfold noLists at h
  rw [List.all_eq_true] at h
  induction K with
  | nil => cases e
  | cons p r ih =>
    rw [List.lookup_cons] at e
    split at e
    · cases e
      have q := h p (List.mem_cons_self ..)
      rw [hc] at q
      exact absurd q (by decide)
    · exact ih (fun y hy => h y (List.mem_cons_of_mem _ hy)) e
theorem top_run {P : Program} {w : World} {K : PySem.W.Frag} {mg mb : Str → Option Value} {k : Nat} {fa a : Addr} {fd : FuncData} {x : Str} {m : Fn} {t : Shared} {vs : List Value} {ns : List Int}
    (hK : K.In t.heap) (hG : t.heap.Ns mainGlobals mg) (hB : t.heap.Ns builtinsNs mb) (hBB : ∀ y : Str, y ≠ "__name__" → mb y = bootBuiltins y) (hL : t.heap.NoLimit) (hgen : t.gens = #[])
    (hobj : t.heap.get? a = some { cls := .type "list", data := .seq vs.toArray }) (hints : IntsAre vs ns) (hsz : ns.length ≤ sizeLine) (hroom : Room k callerA) (hno : noLists K = true)
    (F : ∀ base : Heap, K.In base → base.Ns mainGlobals mg → FnP P w K mg base k fa fd [x] m) (hbind : ∀ (s : Shared) (u : Value), BindsTo s fd ⟨[u], []⟩ [(x, u)])
    (hm : ∃ z, m [.rol ns] [] = .ok (.bool true) z) :
    codeAny (model P w) callerA (.call (.ref fa) ⟨[.ref a], []⟩) (fun r s' => r = .ok (.ret (.bool true)) ∧ OldK t.heap s'.heap ∧ s'.os = t.os ∧ AllBare s'.gens) t := by
  have rv := vals_ints hints
  have kn : K.lookup a = none := by
    cases e : K.lookup a with
    | none => rfl
    | some o =>
      have z := hK a o e
      rw [hobj] at z
      cases z
      exact (noLists_at hno e rfl).elim
  let scr : HO := .frz { cls := .type "list", data := .seq vs.toArray } (.lst (ns.map V.int))
  let H : Hp := fun b => if b = a then some scr else none
  have Ha : H a = some scr := if_pos rfl
  have Hn : ∀ b, b ≠ a → H b = none := fun b hb => if_neg hb
  have free : ∀ {b : Addr} {o : Obj} {es : Array DictEntry} {n : Nat}, t.heap.get? b = some o → o.data = .dict es n → H b = none := fun {b o es n} e d => Hn b fun z => by
    subst z
    rw [hobj] at e
    cases e
    cases d
  have nsH : ∀ {b : Addr} {f : Str → Option Value}, t.heap.Ns b f → (hidT t.heap H).Ns b f := fun ⟨o, es, n, e, d, r⟩ => ⟨o, es, n, hidT_get e (free e d), d, r⟩
  have kH : K.In (hidT t.heap H) := fun b o e => hidT_get (hK b o e) (Hn b fun z => by
    subst z
    rw [kn] at e
    cases e)
  have md : Mod K mg (hidT t.heap H) := ⟨kH, nsH hG, ⟨mb, nsH hB, hBB⟩, hL.elim fun c q => ⟨c, nsH q.1, q.2⟩⟩
  have hok : HOk P w H t.heap := fun b u z => by
    by_cases hb : b = a
    · subst hb
      rw [Ha] at z
      cases z
      exact ⟨hobj, by rw [List.length_map]; exact hsz, vs, _, rv, hobj⟩
    · rw [Hn b hb] at z
      cases z
  have env : Env0 P w K mg (hidT t.heap H) callerA [] t H := ⟨rfl, md, fun b o e => of_hidT e, Nat.le_of_eq (hidT_size _ _), trivial, fun b hb => (by cases hb), hok, .of_eq hgen⟩
  obtain ⟨z, hz⟩ := hm
  have rel : Rels H [] [D.rol ns] [.ref a] := .cons (.rol Ha) .nil
  have wd : Wd mg H [] [] := ⟨rfl, .nil, fun i c b h _ => by simp at h⟩
  have res : ResE mg (fun (c : Value) (dd : Option Addr) (_ : St) (H' : Hp) => (fun _ _ _ => False : XK) c dd H') Rel [] H [] (m [.rol ns] []) (fun v H' => v = .bl true ∧ H' a = some scr) := by
    rw [hz]
    intro ρ' H' v ex _ r
    cases r
    exact ⟨rfl, ex.frz a _ _ Ha⟩
  refine codeAny_mono ((F _ kH (nsH hG)).run callerA [] t H ⟨[.ref a], []⟩ [.ref a] [.ref a] [] [.rol ns] [] _ (fun _ _ _ => False) hroom rfl env (hbind t (.ref a)) (.cons rfl .nil) rel wd res) fun r s' h => ?_
  rcases r with e | fl
  · obtain ⟨_, _, _, _, _, _, _, _, _, _, _, _, q⟩ := h
    exact q.elim
  · cases fl with
    | ret u =>
      obtain ⟨v, H', hos, hbare, un, hok', ru, rfl, hA⟩ := h
      cases ru
      refine ⟨rfl, OldK.of_keep fun b o e => ?_, hos, hbare⟩
      by_cases hb : b = a
      · subst hb
        obtain ⟨q1, _⟩ := hok b _ Ha
        obtain ⟨q2, _⟩ := hok' b _ hA
        rw [q1] at e
        cases e
        exact q2
      · exact un.keep b o e (Hn b hb) (fun z => by cases z) (fun z => by cases z)
    | next => exact h.elim
    | brk => exact h.elim
    | cont => exact h.elim
/-- the goal behind k_head, from the law's def and what it computes -/
theorem top_walk {l : PySem.W.OpenLaw} {n k : Nat} {q : Program} {loose : List Str} {XP : (Str → Option Value) → Heap → Prop} {YP : World → Heap → Prop} {d : DefRec} {K : Params → PySem.W.Frag} {m : Fn} {x : Str}
    (hn : l.most = some n) (hn2 : n ≤ sizeLine) (hdf : d.params.defaults = []) (hr : Room k callerA) (hY : ∀ (w : World) (h : Heap), YP w h → (K w.params).In h)
    (hno : ∀ p : Params, noLists (K p) = true)
    (F : ∀ (w : World) (mg : Str → Option Value) (fa : Addr) (h : Heap), (K w.params).In h → h.Ns mainGlobals mg → mg d.name = some (.ref fa) →
      ∃ fd : FuncData, (∀ (s : Shared) (u : Value), BindsTo s fd ⟨[u], []⟩ [(x, u)]) ∧ ∀ base : Heap, (K w.params).In base → base.Ns mainGlobals mg → FnP l.prog w (K w.params) mg base k fa fd [x] m)
    (hm : ∀ ns : List Int, ns.length ≤ n → ∃ z, m [.rol ns] [] = .ok (.bool true) z) :
    PySem.W.WalkO q loose XP YP l.row.toRowW d [] (fun f vs => PySem.call f vs) := by
  refine Att.attach_call hn hdf ?_
  intro w s₀ t mg mb fa o pm cd doc a vs ns G Y ho hd hcd hmg hobj hints hlen hgen
  have hK := hY w _ Y
  obtain ⟨fd, hbind, hF⟩ := F w mg fa _ hK G.T.g hmg
  exact top_run hK G.T.g G.T.b G.T.builtins G.T.nolimit hgen hobj hints (Nat.le_trans hlen hn2) hr (hno _) hF hbind (hm ns hlen)
end PL

namespace PL
open PySem PySem.Spec PyProof.Rows L2

/-- a def of the module, known by its name -/
structure Glb (P : Program) (w : World) (K : PySem.W.Frag) (mg : Str → Option Value) (base : Heap) (x : Str) (k : Nat) (ps : List Str) (m : Fn) : Prop where
  ex : ∃ f fd, FnP P w K mg base k f fd ps m ∧ mg x = some (.ref f) ∧ PySem.W.keepIn K (.ref f) = true ∧ Binds K fd ps []
/-- .. its object -/
structure FunIn (K : PySem.W.Frag) (mg : Str → Option Value) (x : Str) (st : Stmt) (f : Addr) (fd : FuncData) (ps : List Str) : Prop where
  fn : Fun K x x st f fd
  at_ : mg x = some (.ref f)
  bd : Binds K fd ps []
theorem FunIn.glb {P : Program} {w : World} {K : PySem.W.Frag} {mg : Str → Option Value} {base : Heap} {x : Str} {st : Stmt} {f : Addr} {fd : FuncData} {ps : List Str} {k : Nat} {m : Fn} (F : FunIn K mg x st f fd ps) (h : FnP P w K mg base k f fd ps m) : Glb P w K mg base x k ps m :=
  ⟨f, fd, h, F.at_, F.fn.kp, F.bd⟩
theorem Glb.mono {P : Program} {w : World} {K : PySem.W.Frag} {mg : Str → Option Value} {base : Heap} {x : Str} {j k : Nat} {ps : List Str} {m : Fn} (G : Glb P w K mg base x j ps m) (h : j ≤ k) : Glb P w K mg base x k ps m := by
  obtain ⟨f, fd, a, b⟩ := G.ex
  exact ⟨f, fd, a.mono h, b⟩
theorem funIn_mk {K : PySem.W.Frag} {h : Heap} {mg : Str → Option Value} (X : K.In h) (G : h.Ns mainGlobals mg) {x : Str} {st : Stmt} {f : Addr} {oc kV doc pm cdv ct : Value} {od an : Option Addr} {osl : Array (Option Value)} {ps : List Str}
    (a : PySem.W.nsIn K mainGlobals x = some (some (.ref f))) (l : K.lookup f = some ⟨oc, od, .func (PySem.W.fnOf x x (defArgs st) (defBody st) (defScope st) .none kV doc pm an cdv ct), osl⟩)
    (c : PySem.W.codeIn K cdv x = true) (k : PySem.W.keepIn K (.ref f) = true)
    (hb : ∀ (kV doc pm : Value) (an : Option Addr) (cdv ct : Value) (us : List Value), us.length = ps.length → bindArgs (PySem.W.fnOf x x (defArgs st) (defBody st) (defScope st) .none kV doc pm an cdv ct) ⟨us, []⟩ = pure (ps.zip us)) :
    FunIn K mg x st f (PySem.W.fnOf x x (defArgs st) (defBody st) (defScope st) .none kV doc pm an cdv ct) ps :=
  ⟨fun_mk l c k, PySem.W.mg_of X G a, (fun_mk l c k).binds hb⟩
theorem tk0 {X : Cx} : Takes X W0 := by
  intro u s' h
  obtain ⟨_, _, _, _, _, _, _, _, _, _, _, _, _, _, _, _, q⟩ := h
  exact False.elim q
theorem u65 {k : Nat} {A : Around} (r : Room k A) : A.units + 65 < cLine := by
  have h := r.un
  omega
section
variable {X : Cx} {W : WX} {k j : Nat} {ps : List Str} {m : Fn} {x : Str} {p pos : Pos} {e : Expr} {es : List Expr} {fa : Ax}
theorem ev_callG (G : Glb X.prog X.w X.K X.mg X.base x j ps m) (hj : j ≤ k) (hr : Room k X.A) (hgd : X.A.guards = some []) (tk : Takes X W) (ha : AV X W (e :: es) fa) (hg : Gl X x := by rfl) (hdb : (x == ("__debug__" : Str)) = false := by decide)
    (he : starEach (e :: es) X.env = (false, eval e X.env) :: starEach es X.env := by rfl) (hpl : (backTo pos (starEach es X.env)).any (·.1) = false := by rfl) :
    EV X W (.Call (.Name x p) (e :: es) [] pos) (xCall m fa) := by
  obtain ⟨f, fd, h1, h2, h3, h4⟩ := (G.mono hj).ex
  exact ev_call h1 hr hgd h2 h3 h4 tk ha hg hdb he hpl
theorem or_inF (hu : X.A.units + 65 < cLine) : OpR X (compareOp .In) (rP X.mg (pIn false)) := or_in hu false
theorem or_inT (hu : X.A.units + 65 < cLine) : OpR X (compareOp .NotIn) (rP X.mg (pIn true)) := or_in hu true
end
/-- a def that can't be called -/
theorem FnP.bad {P : Program} {w : World} {K : PySem.W.Frag} {mg : Str → Option Value} {base : Heap} {k : Nat} {f : Addr} {fd : FuncData} {ps : List Str} : FnP P w K mg base k f fd ps (fun _ _ => .bad) :=
  ⟨fun _ _ _ => rfl, fun A outer s H args us vs ρ ds t Q E _ _ _ _ _ _ _ h => h.elim⟩
end PL

namespace PL
open PySem L2

/-! ### what is left to be shown of a pure run -/
inductive O.ret {α : Type} : O α → (α → Sto → Prop) → Prop
  | mk {a : α} {s : Sto} {Q : α → Sto → Prop} : Q a s → O.ret (.ok a s) Q
inductive R.wp : R → (Lo → Sto → Prop) → (D → Sto → Prop) → (Lo → Sto → Prop) → (Lo → Sto → Prop) → Prop
  | nx {l : Lo} {s : Sto} {N : Lo → Sto → Prop} {T : D → Sto → Prop} {B C : Lo → Sto → Prop} : N l s → R.wp (.nx l s) N T B C
  | rt {d : D} {s : Sto} {N : Lo → Sto → Prop} {T : D → Sto → Prop} {B C : Lo → Sto → Prop} : T d s → R.wp (.rt d s) N T B C
  | bk {l : Lo} {s : Sto} {N : Lo → Sto → Prop} {T : D → Sto → Prop} {B C : Lo → Sto → Prop} : B l s → R.wp (.bk l s) N T B C
  | ct {l : Lo} {s : Sto} {N : Lo → Sto → Prop} {T : D → Sto → Prop} {B C : Lo → Sto → Prop} : C l s → R.wp (.ct l s) N T B C
section
variable {α β : Type} {Q : α → Sto → Prop}
theorem ret_ok {a : α} {s : Sto} : (O.ok a s).ret Q ↔ Q a s := ⟨fun h => by cases h; assumption, .mk⟩
theorem ret_exc {x : Xn} {s : Sto} : ¬ (O.exc x s : O α).ret Q := fun h => by cases h
theorem ret_bad : ¬ (O.bad : O α).ret Q := fun h => by cases h
theorem ret_bind {x : O β} {f : β → Sto → O α} : (x.bind f).ret Q ↔ x.ret fun b s => (f b s).ret Q := by
  cases x with
  | ok b s => exact (ret_ok (Q := fun b s => (f b s).ret Q)).symm
  | exc y s => exact ⟨fun h => (ret_exc h).elim, fun h => (ret_exc h).elim⟩
  | bad => exact ⟨fun h => (ret_bad h).elim, fun h => (ret_bad h).elim⟩
theorem ret_mono {x : O α} {P : α → Sto → Prop} (h : x.ret P) (q : ∀ a s, P a s → Q a s) : x.ret Q := by
  cases h with
  | mk h => exact .mk (q _ _ h)
theorem ret_congr {x : O α} {P : α → Sto → Prop} (h : ∀ a s, P a s ↔ Q a s) : x.ret P ↔ x.ret Q := ⟨fun q => ret_mono q fun a s => (h a s).mp, fun q => ret_mono q fun a s => (h a s).mpr⟩
theorem ret_if {c : Prop} [Decidable c] {x : O α} : (if c then x else .bad).ret Q ↔ c ∧ x.ret Q := by
  split
  · rename_i h
    exact ⟨fun q => ⟨h, q⟩, fun q => q.2⟩
  · rename_i h
    exact ⟨fun q => (ret_bad q).elim, fun q => (h q.1).elim⟩
theorem ret_ite {c : Prop} [Decidable c] {x y : O α} : (if c then x else y).ret Q ↔ if c then x.ret Q else y.ret Q := by split <;> exact Iff.rfl
theorem ret_calm {x : O α} : x.calm.ret Q ↔ x.ret Q := by
  cases x with
  | ok b s => exact Iff.rfl
  | exc y s => exact ⟨fun h => (ret_bad h).elim, fun h => (ret_exc h).elim⟩
  | bad => exact Iff.rfl
theorem ret_ex {x : O α} (h : x.ret Q) : ∃ a s, x = .ok a s ∧ Q a s := by
  cases h with
  | mk h => exact ⟨_, _, rfl, h⟩
theorem ret_of {x : O α} {a : α} {s : Sto} (e : x = .ok a s) (h : Q a s) : x.ret Q := by rw [e]; exact .mk h
theorem ret_eq {x : O α} {a : α} {s : Sto} (e : x = .ok a s) : x.ret Q ↔ Q a s := by rw [e]; exact ret_ok
variable {N : Lo → Sto → Prop} {T : D → Sto → Prop} {B C : Lo → Sto → Prop}
theorem wp_nx {l : Lo} {s : Sto} : (R.nx l s).wp N T B C ↔ N l s := ⟨fun h => by cases h; assumption, .nx⟩
theorem wp_rt {d : D} {s : Sto} : (R.rt d s).wp N T B C ↔ T d s := ⟨fun h => by cases h; assumption, .rt⟩
theorem wp_bk {l : Lo} {s : Sto} : (R.bk l s).wp N T B C ↔ B l s := ⟨fun h => by cases h; assumption, .bk⟩
theorem wp_ct {l : Lo} {s : Sto} : (R.ct l s).wp N T B C ↔ C l s := ⟨fun h => by cases h; assumption, .ct⟩
theorem wp_ex {x : Xn} {l : Lo} {s : Sto} : ¬ (R.ex x l s).wp N T B C := fun h => by cases h
theorem wp_bad : ¬ R.bad.wp N T B C := fun h => by cases h
theorem wp_then {x : O β} {l : Lo} {f : β → Sto → R} : (x.then l f).wp N T B C ↔ x.ret fun b s => (f b s).wp N T B C := by
  cases x with
  | ok b s => exact (ret_ok (Q := fun b s => (f b s).wp N T B C)).symm
  | exc y s => exact ⟨fun h => (wp_ex h).elim, fun h => (ret_exc h).elim⟩
  | bad => exact ⟨fun h => (wp_bad h).elim, fun h => (ret_bad h).elim⟩
theorem wp_seq {f g : Sx} {l : Lo} {s : Sto} : (sSeq f g l s).wp N T B C ↔ (f l s).wp (fun l s => (g l s).wp N T B C) T B C := by
  unfold sSeq
  cases f l s with
  | nx l s => exact (wp_nx (N := fun l s => (g l s).wp N T B C)).symm
  | rt d s => exact ⟨fun h => .rt (wp_rt.mp h), fun h => .rt (wp_rt.mp h)⟩
  | bk l s => exact ⟨fun h => .bk (wp_bk.mp h), fun h => .bk (wp_bk.mp h)⟩
  | ct l s => exact ⟨fun h => .ct (wp_ct.mp h), fun h => .ct (wp_ct.mp h)⟩
  | ex _ _ _ => exact ⟨fun h => (wp_ex h).elim, fun h => (wp_ex h).elim⟩
  | bad => exact ⟨fun h => (wp_bad h).elim, fun h => (wp_bad h).elim⟩
theorem wp_mono {r : R} {N' : Lo → Sto → Prop} {T' : D → Sto → Prop} {B' C' : Lo → Sto → Prop} (h : r.wp N' T' B' C') (n : ∀ l s, N' l s → N l s) (t : ∀ d s, T' d s → T d s) (b : ∀ l s, B' l s → B l s) (c : ∀ l s, C' l s → C l s) : r.wp N T B C := by
  cases h with
  | nx h => exact .nx (n _ _ h)
  | rt h => exact .rt (t _ _ h)
  | bk h => exact .bk (b _ _ h)
  | ct h => exact .ct (c _ _ h)
theorem wp_mono0 {r : R} {N' : Lo → Sto → Prop} (h : r.wp N' T B C) (n : ∀ l s, N' l s → N l s) : r.wp N T B C := wp_mono h n (fun _ _ h => h) (fun _ _ h => h) fun _ _ h => h
/-- first f to where M holds, then g -/
theorem wp_cut {f g : Sx} {l : Lo} {s : Sto} (M : Lo → Sto → Prop) (h : (f l s).wp M T B C) (q : ∀ l s, M l s → (g l s).wp N T B C) : (sSeq f g l s).wp N T B C := wp_seq.mpr (wp_mono0 h q)
/-! expressions -/
variable {l : Lo} {s : Sto} {Q : D → Sto → Prop} {QA : List D → Sto → Prop} {QT : Bool → Sto → Prop} {a b c : Ex} {ar : Ax} {t u : Tx}
theorem w_c {d : D} : (xC d l s).ret Q ↔ Q d s := ret_ok
def varQ (Q : D → Sto → Prop) : Option (Option D) → Sto → Prop
  | some (some d), s => Q d s
  | _, _ => False
theorem var_at {d : D} : varQ Q (some (some d)) s ↔ Q d s := Iff.rfl
theorem w_var {i : Nat} : (xVar i l s).ret Q ↔ varQ Q l[i]? s := by
  unfold xVar
  generalize l[i]? = o
  cases o with
  | none => exact ⟨fun h => (ret_bad h).elim, fun h => h.elim⟩
  | some o => cases o with
    | none => exact ⟨fun h => (ret_bad h).elim, fun h => h.elim⟩
    | some d => exact ret_ok
theorem w_var_at {i : Nat} {d : D} (e : l[i]? = some (some d)) : (xVar i l s).ret Q ↔ Q d s := by rw [w_var, e]; exact Iff.rfl
theorem w_nil : (aNil l s).ret QA ↔ QA [] s := ret_ok
theorem w_cons : (aCons a ar l s).ret QA ↔ (a l s).ret fun d s1 => (ar l s1).ret fun ds s2 => QA (d :: ds) s2 := by simp only [aCons, ret_bind, ret_ok]
theorem w_bin {g : D → D → Sto → O D} : (xBin g a b l s).ret Q ↔ (a l s).ret fun d s1 => (b l s1).ret fun e s2 => (g d e s2).ret Q := by simp only [xBin, ret_bind]
theorem w_call {m : Fn} : (xCall m ar l s).ret Q ↔ (ar l s).ret fun ds s1 => (m ds s1).ret Q := ret_bind
theorem w_tup : (xTup ar l s).ret Q ↔ (ar l s).ret fun ds s1 => ds.length ≤ 16777216 ∧ Q (.tup ds) s1 := by simp only [xTup, ret_bind, ret_if, ret_ok]
theorem w_lst : (xLst ar l s).ret Q ↔ (ar l s).ret fun ds s1 => ds.length ≤ 16777216 ∧ Q (.ref s1.length) (s1 ++ [.lst ds]) := by simp only [xLst, ret_bind, ret_if, ret_ok]
theorem w_ife : (xIfE t a b l s).ret Q ↔ (t l s).ret fun c s1 => if c = true then (a l s1).ret Q else (b l s1).ret Q := by simp only [xIfE, ret_bind, ret_ite]
def andQ (k : Sto → Prop) (Q : D → Sto → Prop) : D → Sto → Prop
  | .bool c, s => if c = true then k s else Q (.bool false) s
  | _, _ => False
def orQ (k : Sto → Prop) (Q : D → Sto → Prop) : D → Sto → Prop
  | .bool c, s => if c = true then Q (.bool true) s else k s
  | _, _ => False
def notQ (Q : D → Sto → Prop) : D → Sto → Prop
  | .bool c, s => Q (.bool (!c)) s
  | _, _ => False
def negQ (Q : D → Sto → Prop) : D → Sto → Prop
  | .int i, s => Q (.int (-i)) s
  | _, _ => False
theorem and_at {k : Sto → Prop} {c : Bool} : andQ k Q (.bool c) s ↔ if c = true then k s else Q (.bool false) s := Iff.rfl
theorem or_at {k : Sto → Prop} {c : Bool} : orQ k Q (.bool c) s ↔ if c = true then Q (.bool true) s else k s := Iff.rfl
theorem not_at {c : Bool} : notQ Q (.bool c) s ↔ Q (.bool (!c)) s := Iff.rfl
theorem neg_at {i : Int} : negQ Q (.int i) s ↔ Q (.int (-i)) s := Iff.rfl
theorem no_bad : (O.bad : O D).ret Q ↔ False := ⟨ret_bad, False.elim⟩
theorem w_and : (xAnd2 a b l s).ret Q ↔ (a l s).ret (andQ (fun s1 => (b l s1).ret Q) Q) := by
  unfold xAnd2
  rw [ret_bind]
  refine ret_congr fun d s1 => ?_
  cases d with
  | bool c => cases c <;> simp only [andQ, ret_ok, if_true, Bool.false_eq_true, if_false]
  | _ => exact no_bad
theorem w_or : (xOr2 a b l s).ret Q ↔ (a l s).ret (orQ (fun s1 => (b l s1).ret Q) Q) := by
  unfold xOr2
  rw [ret_bind]
  refine ret_congr fun d s1 => ?_
  cases d with
  | bool c => cases c <;> simp only [orQ, ret_ok, if_true, Bool.false_eq_true, if_false]
  | _ => exact no_bad
theorem w_not : (xNot1 a l s).ret Q ↔ (a l s).ret (notQ Q) := by
  unfold xNot1
  rw [ret_bind]
  refine ret_congr fun d s1 => ?_
  cases d <;> first | exact no_bad | exact ret_ok
theorem w_neg : (xNeg a l s).ret Q ↔ (a l s).ret (negQ Q) := by
  unfold xNeg
  rw [ret_bind]
  refine ret_congr fun d s1 => ?_
  cases d <;> first | exact no_bad | exact ret_ok
theorem w_sl {lo hi : Lo → Sto → O (Option Int)} : (xSl a lo hi l s).ret Q ↔ (a l s).ret fun d s1 => (lo l s1).ret fun i s2 => (hi l s2).ret fun j s3 => (pSl d i j s3).ret Q := by simp only [xSl, ret_bind]
theorem w_nopart {QP : Option Int → Sto → Prop} : (xNoPart l s).ret QP ↔ QP none s := ret_ok
def partQ (Q : Option Int → Sto → Prop) : D → Sto → Prop
  | .int i, s => Q (some i) s
  | _, _ => False
theorem part_at {QP : Option Int → Sto → Prop} {i : Int} : partQ QP (.int i) s ↔ QP (some i) s := Iff.rfl
theorem w_part {QP : Option Int → Sto → Prop} : (xPart a l s).ret QP ↔ (a l s).ret (partQ QP) := by
  unfold xPart
  rw [ret_bind]
  refine ret_congr fun d s1 => ?_
  cases d <;> first | exact ⟨ret_bad, False.elim⟩ | exact ret_ok
theorem w_chain {g g' : D → D → Sto → O D} : (xChain g g' a b c l s).ret Q ↔ (a l s).ret fun d s1 => (b l s1).ret fun e s2 => (g d e s2).ret (andQ (fun s3 => (c l s3).ret fun w s4 => (g' e w s4).ret Q) Q) := by
  unfold xChain
  rw [ret_bind]
  refine ret_congr fun d s1 => ?_
  rw [ret_bind]
  refine ret_congr fun e s2 => ?_
  rw [ret_bind]
  refine ret_congr fun z s3 => ?_
  cases z with
  | bool k => cases k <;> simp only [andQ, ret_bind, ret_ok, if_true, Bool.false_eq_true, if_false]
  | _ => exact no_bad
theorem w_meth {ty : D → Sto → Bool} {g : D → Fn} : (xMeth ty g a ar l s).ret Q ↔ (a l s).ret fun d s1 => ty d s1 = true ∧ (ar l s1).ret fun ds s2 => (g d ds s2).ret Q := by simp only [xMeth, ret_bind, ret_if]
/-! tests -/
theorem w_of : (tOf a l s).ret QT ↔ (a l s).ret fun d s1 => (pTruth d s1).ret QT := ret_bind
theorem w_tand : (tAnd2 t u l s).ret QT ↔ (t l s).ret fun c s1 => if c = true then (u l s1).ret QT else QT false s1 := by simp only [tAnd2, ret_bind, ret_ite, ret_ok]
theorem w_tor : (tOr2 t u l s).ret QT ↔ (t l s).ret fun c s1 => if c = true then QT true s1 else (u l s1).ret QT := by simp only [tOr2, ret_bind, ret_ite, ret_ok]
theorem w_tnot : (tNot1 t l s).ret QT ↔ (t l s).ret fun c s1 => QT (!c) s1 := by simp only [tNot1, ret_bind, ret_ok]
theorem w_true : (tTrue l s).ret QT ↔ QT true s := ret_ok
theorem w_truth_b {k : Bool} : (pTruth (.bool k) s).ret QT ↔ QT k s := ret_ok
/-! statements -/
theorem w_skip : (sSkip l s).wp N T B C ↔ N l s := wp_nx
theorem w_brk : (sBrk l s).wp N T B C ↔ B l s := wp_bk
theorem w_cnt : (sCnt l s).wp N T B C ↔ C l s := wp_ct
theorem w_set {i : Nat} : (sSet i a l s).wp N T B C ↔ (a l s).ret fun d s1 => N (l.set i (some d)) s1 := by simp only [sSet, wp_then, wp_nx]
theorem w_expr : (sExpr a l s).wp N T B C ↔ (a l s).ret fun _ s1 => N l s1 := by simp only [sExpr, wp_then, wp_nx]
theorem w_ret : (sRet a l s).wp N T B C ↔ (a l s).ret fun d s1 => T d s1 := by simp only [sRet, wp_then, wp_rt]
theorem w_retN : (sRetN l s).wp N T B C ↔ T .none s := wp_rt
theorem wp_ite {c : Prop} [Decidable c] {x y : R} : (if c then x else y).wp N T B C ↔ if c then x.wp N T B C else y.wp N T B C := by split <;> exact Iff.rfl
theorem w_if {f g : Sx} : (sIf t f g l s).wp N T B C ↔ (t l s).ret fun c s1 => if c = true then (f l s1).wp N T B C else (g l s1).wp N T B C := by simp only [sIf, wp_then, wp_ite]
def augQ (k : D → Prop) : Option (Option D) → Prop
  | some (some d) => k d
  | _ => False
theorem aug_at {k : D → Prop} {d : D} : augQ k (some (some d)) ↔ k d := Iff.rfl
theorem no_wp : R.bad.wp N T B C ↔ False := ⟨wp_bad, False.elim⟩
theorem w_aug {i : Nat} {g : D → D → Sto → O D} : (sAug i g a l s).wp N T B C ↔ augQ (fun d => (a l s).ret fun e s1 => (g d e s1).ret fun z s2 => N (l.set i (some z)) s2) l[i]? := by
  unfold sAug
  generalize l[i]? = o
  cases o with
  | none => exact no_wp
  | some o => cases o with
    | none => exact no_wp
    | some d => simp only [augQ, wp_then, wp_nx]
def someQ {α : Type} (k : α → Prop) : Option α → Prop
  | some x => k x
  | none => False
theorem some_at {α : Type} {k : α → Prop} {x : α} : someQ k (some x) ↔ k x := Iff.rfl
theorem w_put {o i : Ex} : (sPut o i a l s).wp N T B C ↔ (a l s).ret fun v s1 => (o l s1).ret fun d s2 => (i l s2).ret fun k s3 => someQ (fun s4 => N l s4) (putIx d k v s3) := by
  unfold sPut
  rw [wp_then]
  refine ret_congr fun v s1 => ?_
  rw [wp_then]
  refine ret_congr fun d s2 => ?_
  rw [wp_then]
  refine ret_congr fun k s3 => ?_
  cases putIx d k v s3 with
  | none => exact no_wp
  | some s4 => exact wp_nx
theorem w_unp {is : List Nat} : (sUnp is a l s).wp N T B C ↔ (a l s).ret fun d s1 => someQ (fun l' => N l' s1) ((Tg.tp is).put d l) := by
  unfold sUnp
  rw [wp_then]
  refine ret_congr fun v s1 => ?_
  cases (Tg.tp is).put v l with
  | none => exact no_wp
  | some s4 => exact wp_nx
def parQ (k : D → D → Sto → Prop) : List D → Sto → Prop
  | [d, e], s => k d e s
  | _, _ => False
theorem par_at {k : D → D → Sto → Prop} {d e : D} : parQ k [d, e] s ↔ k d e s := Iff.rfl
theorem w_par {i j : Nat} : (sPar i j ar l s).wp N T B C ↔ (ar l s).ret (parQ fun d e s1 => N ((l.set i (some d)).set j (some e)) s1) := by
  unfold sPar
  rw [wp_then]
  refine ret_congr fun ds s1 => ?_
  rcases ds with _ | ⟨d, _ | ⟨e, _ | ⟨z, r⟩⟩⟩
  · exact no_wp
  · exact no_wp
  · exact wp_nx
  · exact no_wp
theorem w_for {g : Ix} {tg : Tg} {f : Sx} : (sFor g tg f l s).wp N T B C ↔ (g l s).ret fun it s1 => (forL it.chk (stepT tg f) it.its l s1).wp N T B C := wp_then
/-- a loop, by what holds ahead of each turn -/
theorem for_wp {chk : List (Nat × Cell)} {step : D → Lo → Sto → R} {its : List D} (I : Nat → Lo → Sto → Prop) (h0 : I 0 l s)
    (hs : ∀ i l s d, its[i]? = some d → I i l s → okChk chk s ∧ (step d l s).wp (I (i + 1)) T N (I (i + 1))) (he : ∀ l s, I its.length l s → okChk chk s ∧ N l s) :
    (forL chk step its l s).wp N T B C := by
  have go : ∀ (r : List D) (k : Nat) (l : Lo) (s : Sto), its.drop k = r → I k l s → k ≤ its.length → (forL chk step r l s).wp N T B C := by
    intro r
    induction r with
    | nil =>
      intro k l s e h hk
      have : its.length ≤ k := List.drop_eq_nil_iff.mp e
      have : k = its.length := by omega
      subst this
      obtain ⟨q1, q2⟩ := he l s h
      unfold forL
      rw [if_pos q1]
      exact .nx q2
    | cons d r ih =>
      intro k l s e h hk
      have hd : its[k]? = some d := by
        have z : (its.drop k)[0]? = some d := by rw [e]; rfl
        rw [List.getElem?_drop] at z
        simpa using z
      have hr : its.drop (k + 1) = r := by
        have z : (its.drop k).drop 1 = r := by rw [e]; rfl
        rw [List.drop_drop] at z
        simpa [Nat.add_comm] using z
      have hk' : k + 1 ≤ its.length := (List.getElem?_eq_some_iff.mp hd).1
      obtain ⟨q1, q2⟩ := hs k l s d hd h
      unfold forL
      rw [if_pos q1]
      cases es : step d l s with
      | nx l' s' => rw [es] at q2; exact ih _ _ _ hr (wp_nx.mp q2) hk'
      | ct l' s' => rw [es] at q2; exact ih _ _ _ hr (wp_ct.mp q2) hk'
      | bk l' s' => rw [es] at q2; exact .nx (wp_bk.mp q2)
      | rt d' s' => rw [es] at q2; exact .rt (wp_rt.mp q2)
      | ex _ _ _ => rw [es] at q2; exact (wp_ex q2).elim
      | bad => rw [es] at q2; exact (wp_bad q2).elim
  exact go its 0 l s rfl h0 (Nat.zero_le _)
theorem w_step_nm {i : Nat} {f : Sx} {d : D} : (stepT (.nm i) f d l s).wp N T B C ↔ (f (l.set i (some d)) s).wp N T B C := Iff.rfl
theorem w_step_tp {is : List Nat} {f : Sx} {ds : List D} (h : ds.length = is.length) : (stepT (.tp is) f (.tup ds) l s).wp N T B C ↔ (f (setL l is ds) s).wp N T B C := by
  have e : (Tg.tp is).put (.tup ds) l = some (setL l is ds) := if_pos h
  unfold stepT
  rw [e]
theorem okChk_nil' {s : Sto} : okChk [] s := by intro p hp; cases hp
/-- for .. in range(lo, lo + n) -/
theorem for_rng {step : D → Lo → Sto → R} {lo : Int} {n : Nat} (I : Nat → Lo → Sto → Prop) (h0 : I 0 l s)
    (hs : ∀ i l s, i < n → I i l s → (step (.int (lo + i)) l s).wp (I (i + 1)) T N (I (i + 1))) (he : ∀ l s, I n l s → N l s) :
    (forL [] step (rngL lo n) l s).wp N T B C := by
  refine for_wp I h0 (fun i l s d hd h => ?_) fun l s h => ⟨okChk_nil', he l s (by rw [rngL_len] at h; exact h)⟩
  obtain ⟨h1, rfl⟩ := rngL_get lo n i d hd
  exact ⟨okChk_nil', hs i l s h1 h⟩
theorem okChk_nil {s : Sto} : okChk [] s := by intro p hp; cases hp
theorem okChk_one {s : Sto} {n : Nat} {c : Cell} (h : s[n]? = some c) : okChk [(n, c)] s := by
  intro p hp
  rw [List.mem_singleton.mp hp]
  exact h
/-! what a loop walks -/
def rng1Q (QI : ItD → Sto → Prop) : List D → Sto → Prop
  | [.int j], s => (-(2 ^ 62) ≤ j ∧ j < 2 ^ 62) ∧ QI ⟨[], rngL 0 j.toNat⟩ s
  | _, _ => False
def rng2Q (QI : ItD → Sto → Prop) : List D → Sto → Prop
  | [.int i, .int j], s => (-(2 ^ 62) ≤ i ∧ i < 2 ^ 62 ∧ -(2 ^ 62) ≤ j ∧ j < 2 ^ 62) ∧ QI ⟨[], rngL i (j - i).toNat⟩ s
  | _, _ => False
theorem rng1_at {QI : ItD → Sto → Prop} {j : Int} : rng1Q QI [.int j] s ↔ (-(2 ^ 62) ≤ j ∧ j < 2 ^ 62) ∧ QI ⟨[], rngL 0 j.toNat⟩ s := Iff.rfl
theorem rng2_at {QI : ItD → Sto → Prop} {i j : Int} : rng2Q QI [.int i, .int j] s ↔ (-(2 ^ 62) ≤ i ∧ i < 2 ^ 62 ∧ -(2 ^ 62) ≤ j ∧ j < 2 ^ 62) ∧ QI ⟨[], rngL i (j - i).toNat⟩ s := Iff.rfl
theorem no_it {QI : ItD → Sto → Prop} : (O.bad : O ItD).ret QI ↔ False := ⟨ret_bad, False.elim⟩
theorem w_rng1 {QI : ItD → Sto → Prop} : (iRange1 ar l s).ret QI ↔ (ar l s).ret (rng1Q QI) := by
  unfold iRange1
  rw [ret_bind]
  refine ret_congr fun ds s1 => ?_
  rcases ds with _ | ⟨d, _ | ⟨e, r⟩⟩
  · exact no_it
  · cases d <;> first | exact no_it | (simp only [rng1Q, ret_if, ret_ok])
  · cases d <;> exact no_it
theorem w_rng2 {QI : ItD → Sto → Prop} : (iRange2 ar l s).ret QI ↔ (ar l s).ret (rng2Q QI) := by
  unfold iRange2
  rw [ret_bind]
  refine ret_congr fun ds s1 => ?_
  rcases ds with _ | ⟨d, _ | ⟨e, _ | ⟨z, r⟩⟩⟩
  · exact no_it
  · cases d <;> exact no_it
  · cases d <;> cases e <;> first | exact no_it | (simp only [rng2Q, ret_if, ret_ok])
  · cases d <;> cases e <;> exact no_it
def seqQ (QI : ItD → Sto → Prop) : D → Sto → Prop
  | .tup ds, s => QI ⟨[], ds⟩ s
  | .ref n, s => ∃ ds, s[n]? = some (.lst ds) ∧ QI ⟨[(n, .lst ds)], ds⟩ s
  | _, _ => False
theorem seq_tup {QI : ItD → Sto → Prop} {ds : List D} : seqQ QI (.tup ds) s ↔ QI ⟨[], ds⟩ s := Iff.rfl
theorem seq_ref {QI : ItD → Sto → Prop} {n : Nat} {ds : List D} (e : s[n]? = some (.lst ds)) : seqQ QI (.ref n) s ↔ QI ⟨[(n, .lst ds)], ds⟩ s := by
  constructor
  · rintro ⟨ds', e', q⟩
    cases e.symm.trans e'
    exact q
  · exact fun q => ⟨ds, e, q⟩
theorem w_seq {QI : ItD → Sto → Prop} : (iSeq a l s).ret QI ↔ (a l s).ret (seqQ QI) := by
  unfold iSeq
  rw [ret_bind]
  refine ret_congr fun d s1 => ?_
  cases d with
  | tup ds => exact ret_ok
  | ref n =>
    show (match s1[n]? with
      | some (.lst l) => (O.ok ⟨[(n, .lst l)], l⟩ s1 : O ItD)
      | _ => .bad).ret QI ↔ ∃ ds, s1[n]? = some (.lst ds) ∧ QI ⟨[(n, .lst ds)], ds⟩ s1
    generalize s1[n]? = o
    rcases o with _ | ⟨c⟩
    · exact ⟨fun h => (ret_bad h).elim, fun ⟨_, h, _⟩ => nomatch h⟩
    · cases c with
      | lst l => exact ⟨fun h => ⟨l, rfl, ret_ok.mp h⟩, fun ⟨_, h, q⟩ => by cases h; exact ret_ok.mpr q⟩
      | dct _ _ => exact ⟨fun h => (ret_bad h).elim, fun ⟨_, h, _⟩ => nomatch h⟩
      | obj _ _ => exact ⟨fun h => (ret_bad h).elim, fun ⟨_, h, _⟩ => nomatch h⟩
  | _ => exact no_it
/-! comprehensions -/
theorem w_lc {own : List Nat} {g : Ix} {tg : Tg} {tt : Tx} {fe : Ex} : (xLc own g tg tt fe l s).ret Q ↔ (g l s).ret fun it s1 => (lcL it.chk s1.length (lcStep (wipeL l own) tg tt fe) it.its (s1 ++ [.lst []])).ret Q := ret_bind
theorem push_at {n : Nat} {d : D} {acc : List D} (e : s[n]? = some (.lst acc)) (h : acc.length < 16777216) : pushC s n d = .ok () (s.set n (.lst (acc ++ [d]))) := by
  unfold pushC
  rw [e]
  exact if_pos h
/-- a comprehension without a test, by what holds ahead of each turn: the list made so far stands at n -/
theorem lc_wp {chk : List (Nat × Cell)} {n : Nat} {step : D → Sto → O (Option D)} {its : List D} (I : Nat → List D → Sto → Prop) (h0 : I 0 [] s) (hn : ∀ i acc s, I i acc s → okChk chk s ∧ s[n]? = some (.lst acc) ∧ acc.length ≤ i) (hl : its.length ≤ 16777216)
    (hs : ∀ i acc s d, its[i]? = some d → I i acc s → (step d s).ret fun o s1 => match o with
      | some y => s1[n]? = some (.lst acc) ∧ I (i + 1) (acc ++ [y]) (s1.set n (.lst (acc ++ [y])))
      | none => I (i + 1) acc s1) (he : ∀ acc s, I its.length acc s → Q (.ref n) s) :
    (lcL chk n step its s).ret Q := by
  have go : ∀ (r : List D) (k : Nat) (acc : List D) (s : Sto), its.drop k = r → I k acc s → k ≤ its.length → (lcL chk n step r s).ret Q := by
    intro r
    induction r with
    | nil =>
      intro k acc s e h hk
      have : its.length ≤ k := List.drop_eq_nil_iff.mp e
      have : k = its.length := by omega
      subst this
      unfold lcL
      rw [if_pos (hn _ _ _ h).1]
      exact .mk (he _ _ h)
    | cons d r ih =>
      intro k acc s e h hk
      have hd : its[k]? = some d := by
        have z : (its.drop k)[0]? = some d := by rw [e]; rfl
        rw [List.getElem?_drop] at z
        simpa using z
      have hr : its.drop (k + 1) = r := by
        have z : (its.drop k).drop 1 = r := by rw [e]; rfl
        rw [List.drop_drop] at z
        simpa [Nat.add_comm] using z
      have hk' : k + 1 ≤ its.length := (List.getElem?_eq_some_iff.mp hd).1
      obtain ⟨q1, q3, q4⟩ := hn _ _ _ h
      have q2 := hs k acc s d hd h
      unfold lcL
      rw [if_pos q1, ret_bind]
      refine ret_mono q2 fun o s1 q => ?_
      cases o with
      | none => exact ih _ _ _ hr q hk'
      | some y =>
        obtain ⟨q5, q6⟩ := q
        show ((pushC s1 n y).bind _).ret Q
        rw [push_at q5 (by omega)]
        exact ih _ _ _ hr q6 hk'
  exact go its 0 [] s rfl h0 (Nat.zero_le _)
theorem w_lcStep_nm {l0 : Lo} {i : Nat} {tt : Tx} {fe : Ex} {d : D} {QO : Option D → Sto → Prop} : (lcStep l0 (.nm i) tt fe d s).ret QO ↔ (tt (l0.set i (some d)) s).ret fun c s1 => if c = true then (fe (l0.set i (some d)) s1).ret fun y s2 => QO (some y) s2 else QO none s1 := by
  show ((tt (l0.set i (some d)) s).calm.bind fun c s1 => if c = true then (fe (l0.set i (some d)) s1).calm.bind fun y s2 => .ok (some y) s2 else .ok none s1).ret QO ↔ _
  simp only [ret_bind, ret_calm, ret_ite, ret_ok]
theorem w_lcStep_tp {l0 : Lo} {is : List Nat} {tt : Tx} {fe : Ex} {ds : List D} {QO : Option D → Sto → Prop} (h : ds.length = is.length) : (lcStep l0 (.tp is) tt fe (.tup ds) s).ret QO ↔ (tt (setL l0 is ds) s).ret fun c s1 => if c = true then (fe (setL l0 is ds) s1).ret fun y s2 => QO (some y) s2 else QO none s1 := by
  have e : (Tg.tp is).put (.tup ds) l0 = some (setL l0 is ds) := if_pos h
  unfold lcStep
  rw [e]
  simp only [ret_bind, ret_calm, ret_ite, ret_ok]
theorem w_lcStep_1 {l0 : Lo} {i : Nat} {fe : Ex} {d : D} {QO : Option D → Sto → Prop} : (lcStep l0 (.nm i) tTrue fe d s).ret QO ↔ (fe (l0.set i (some d)) s).ret fun y s2 => QO (some y) s2 := by
  rw [w_lcStep_nm, w_true, if_pos rfl]
end
/-- a def's run -/
theorem run_wp {p n : Nat} {body : Sx} {ds : List D} {t : Sto} {Q : D → Sto → Prop} (hl : ds.length = p) (h : (body (ds.map some ++ List.replicate n none) t).wp (fun _ s => Q .none s) Q (fun _ _ => False) fun _ _ => False) : (runB p n body ds t).ret Q := by
  unfold runB
  rw [if_pos hl]
  generalize body (ds.map some ++ List.replicate n none) t = r at h
  cases h with
  | nx h => exact .mk h
  | rt h => exact .mk h
  | bk h => exact h.elim
  | ct h => exact h.elim

/-! ### operations at known values -/
section
variable {s : Sto} {Q : D → Sto → Prop}
theorem o_add {i j : Int} : (pAdd (.int i) (.int j) s).ret Q ↔ Q (.int (i + j)) s := ret_ok
theorem o_iadd {i j : Int} : (pIAdd (.int i) (.int j) s).ret Q ↔ Q (.int (i + j)) s := ret_ok
theorem o_iaddS {a b : List Char} (h : a.length + b.length ≤ 16777216) : (pIAdd (.str a) (.str b) s).ret Q ↔ Q (.str (a ++ b)) s := by
  exact ret_eq (if_pos h)
theorem o_addS {a b : List Char} (h : a.length + b.length ≤ 16777216) : (pAdd (.str a) (.str b) s).ret Q ↔ Q (.str (a ++ b)) s := by
  exact ret_eq (if_pos h)
theorem o_addT {a b : List D} (h : a.length + b.length ≤ 16777216) : (pAdd (.tup a) (.tup b) s).ret Q ↔ Q (.tup (a ++ b)) s := by
  exact ret_eq (if_pos h)
theorem o_sub {i j : Int} : (pSub (.int i) (.int j) s).ret Q ↔ Q (.int (i - j)) s := ret_ok
theorem o_mul {i j : Int} (h : (-(2 ^ 64) < i ∧ i < 2 ^ 64) ∨ (-(2 ^ 64) < j ∧ j < 2 ^ 64)) : (pMul (.int i) (.int j) s).ret Q ↔ Q (.int (i * j)) s := by
  exact ret_eq (if_pos h)
theorem o_fdiv {i j : Int} (h : 0 < j ∧ j < 1073741824) : (pFdiv (.int i) (.int j) s).ret Q ↔ Q (.int (i / j)) s := by
  exact ret_eq (if_pos h)
theorem o_mod {i j : Int} (h : 0 < j) : (pMod (.int i) (.int j) s).ret Q ↔ Q (.int (i % j)) s := by
  exact ret_eq (if_pos h)
theorem o_pow {i j : Int} (h : 0 ≤ j ∧ j ≤ 1000000 ∧ i.natAbs < 2 ^ 64) : (pPow (.int i) (.int j) s).ret Q ↔ Q (.int (i ^ j.toNat)) s := by
  exact ret_eq (if_pos h)
theorem o_cmp {k : Int → Int → Bool} {i j : Int} : (pCmpI k (.int i) (.int j) s).ret Q ↔ Q (.bool (k i j)) s := ret_ok
theorem o_isN {d : D} : (pIs d .none s).ret Q ↔ Q (.bool (decide (d = .none))) s := by
  unfold pIs
  cases d <;> exact ret_ok
theorem o_notN {d : D} : (pIsNot d .none s).ret Q ↔ Q (.bool (!decide (d = .none))) s := by
  unfold pIsNot
  cases d <;> exact ret_ok
theorem o_eqI {b : Bool} {i j : Int} : (pEqB b (.int i) (.int j) s).ret Q ↔ Q (.bool (if b then !decide (i = j) else decide (i = j))) s := by
  have e : decide (D.int i = D.int j) = decide (i = j) := by simp
  show (if okEq (.int i) (.int j) = true then O.ok (D.bool (if b then !decide (D.int i = D.int j) else decide (D.int i = D.int j))) s else .bad).ret Q ↔ _
  rw [e, if_pos (by simp [okEq, D.pure, sameK, D.dep])]
  exact ret_ok
theorem o_eqS {b : Bool} {i j : List Char} : (pEqB b (.str i) (.str j) s).ret Q ↔ Q (.bool (if b then !decide (i = j) else decide (i = j))) s := by
  have e : decide (D.str i = D.str j) = decide (i = j) := by simp
  show (if okEq (.str i) (.str j) = true then O.ok (D.bool (if b then !decide (D.str i = D.str j) else decide (D.str i = D.str j))) s else .bad).ret Q ↔ _
  rw [e, if_pos (by simp [okEq, D.pure, sameK, D.dep])]
  exact ret_ok
theorem o_ixT {ds : List D} {i : Int} {d : D} (h : atI ds i = some d) : (pIx (.tup ds) (.int i) s).ret Q ↔ Q d s := by
  exact ret_eq (by simp only [pIx, h])
theorem o_ixL {n : Nat} {ds : List D} {i : Int} {d : D} (e : s[n]? = some (.lst ds)) (h : atI ds i = some d) : (pIx (.ref n) (.int i) s).ret Q ↔ Q d s := by
  have z : pIx (.ref n) (.int i) s = .ok d s := by
    simp only [pIx, e, h]
  exact ret_eq z
theorem o_ixR {ds : List Int} {i : Int} {d : Int} (h : atI ds i = some d) : (pIx (.rol ds) (.int i) s).ret Q ↔ Q (.int d) s := by
  exact ret_eq (by simp only [pIx, h])
theorem o_ixS {t : List Char} {i : Int} {c : Char} (hl : t.length ≤ 16777216) (h : atI t i = some c) : (pIx (.str t) (.int i) s).ret Q ↔ Q (.str [c]) s := by
  exact ret_eq (by simp only [pIx, h, if_pos (show t.length ≤ LN from hl)])
theorem o_lenL {n : Nat} {ds : List D} (e : s[n]? = some (.lst ds)) : (pLen [.ref n] s).ret Q ↔ Q (.int ds.length) s := by
  have z : pLen [.ref n] s = .ok (.int ds.length) s := by simp only [pLen, e]
  exact ret_eq z
theorem o_lenT {ds : List D} : (pLen [.tup ds] s).ret Q ↔ Q (.int ds.length) s := ret_ok
theorem o_lenR {ds : List Int} : (pLen [.rol ds] s).ret Q ↔ Q (.int ds.length) s := ret_ok
theorem o_lenS {t : List Char} (hl : t.length ≤ 16777216) : (pLen [.str t] s).ret Q ↔ Q (.int t.length) s := by
  exact ret_eq (if_pos hl)
theorem o_int {i : Int} : (pInt [.int i] s).ret Q ↔ Q (.int i) s := ret_ok
theorem o_intB {b : Bool} : (pInt [.bool b] s).ret Q ↔ Q (.int (if b then 1 else 0)) s := ret_ok
theorem o_tupL {n : Nat} {ds : List D} (e : s[n]? = some (.lst ds)) : (pTuple [.ref n] s).ret Q ↔ Q (.tup ds) s := by
  have z : pTuple [.ref n] s = .ok (.tup ds) s := by simp only [pTuple, e]
  exact ret_eq z
theorem o_str {i : Int} (h : i.natAbs.log2 < 1920) : (pStr [.int i] s).ret Q ↔ Q (.str (decT i)) s := by
  exact ret_eq (if_pos h)
theorem o_append {n : Nat} {ds : List D} {d : D} (e : s[n]? = some (.lst ds)) (h : ds.length < 16777216) : (pAppend (.ref n) [d] s).ret Q ↔ Q .none (s.set n (.lst (ds ++ [d]))) := by
  have z : pAppend (.ref n) [d] s = .ok .none (s.set n (.lst (ds ++ [d]))) := by
    simp only [pAppend, push_at e h, O.bind_ok]
  exact ret_eq z
theorem o_isLst {n : Nat} {ds : List D} (e : s[n]? = some (.lst ds)) : isLst (.ref n) s = true := by simp only [isLst, e]
theorem o_putL {n : Nat} {ds : List D} {i : Int} {j : Nat} {d : D} (e : s[n]? = some (.lst ds)) (h : ixN ds.length i = some j) : putIx (.ref n) (.int i) d s = some (s.set n (.lst (ds.set j d))) := by
  simp only [putIx, e, h]
theorem ixN_nat {n : Nat} {i : Int} (h0 : 0 ≤ i) (h : i < n) : ixN n i = some i.toNat := by
  unfold ixN
  rw [if_pos h0, if_pos h]
theorem atI_ix {α : Type} {l : List α} {i : Int} (h0 : 0 ≤ i) : atI l i = l[i.toNat]? := by
  unfold atI
  by_cases h : i < l.length
  · rw [ixN_nat h0 h]; rfl
  · unfold ixN
    rw [if_pos h0, if_neg h]
    show none = _
    symm
    rw [List.getElem?_eq_none_iff]
    omega
end
/-! ### repr(a) == repr(b) -/
theorem w_rep {neg : Bool} {a b : Ex} {l : Lo} {s : Sto} {Q : D → Sto → Prop} : (xRep neg a b l s).ret Q ↔ (a l s).ret fun d s1 => someQ (fun p => okR p = true ∧ (b l s1).ret fun e s2 => someQ (fun q => okR q = true ∧ Q (.bool (if neg then !decide (p.shown = q.shown) else decide (p.shown = q.shown))) s2) (lay 12 s2 e)) (lay 12 s1 d) := by
  unfold xRep
  rw [ret_bind]
  refine ret_congr fun d s1 => ?_
  cases lay 12 s1 d with
  | none => exact no_bad
  | some p =>
    show (if okR p = true then _ else O.bad).ret Q ↔ okR p = true ∧ _
    rw [ret_if, ret_bind]
    refine and_congr Iff.rfl (ret_congr fun e s2 => ?_)
    cases lay 12 s2 e with
    | none => exact no_bad
    | some q =>
      show (if okR q = true then _ else O.bad).ret Q ↔ okR q = true ∧ _
      rw [ret_if, ret_ok]
theorem log_small {n : Nat} (h : n ≤ 1900) : n.log2 < 1920 := Nat.lt_of_le_of_lt (Nat.log2_le_self n) (by omega)
theorem log_lt {n : Nat} (h : n < 2 ^ 64) : n.log2 < 1920 := by
  by_cases z : n = 0
  · subst z
    decide
  · exact Nat.lt_of_lt_of_le ((Nat.log2_lt z).mpr h) (by decide)
theorem okR_int {i : Int} (h : i.natAbs < 2 ^ 64) : okR (.int i) = true := by
  have := log_lt h
  simp [okR, PyData.showable, PyData.canLay0, PyData.depth, szB, LN, this]
  omega
theorem okR_none : okR .none = true := by decide
theorem okR_bool {b : Bool} : okR (.bool b) = true := by cases b <;> decide
theorem decT_len {i : Int} (h : i.natAbs < 2 ^ 64) : (decT i).length ≤ 1921 := by
  have h2 := int_text_length_le (a := i) (k := 1920) (by omega) (log_lt h)
  exact h2
theorem joinC_nil : ∀ l : List (List Char), joinC [] l = l.flatten
  | [] => rfl
  | [p] => by simp [joinC]
  | p :: q :: r => by
    rw [joinC, joinC_nil (q :: r)]
    simp
theorem strsOf_map {α : Type} (f : α → List Char) : ∀ l : List α, strsOf (l.map fun c => D.str (f c)) = some (l.map f)
  | [] => rfl
  | c :: l => by simp [strsOf, strsOf_map f l]
theorem one_sum : ∀ cs : List Char, ((cs.map fun c => [c]).map List.length).sum = cs.length
  | [] => rfl
  | c :: r => by
    have ih := one_sum r
    simp only [List.map_cons, List.sum_cons, List.length_cons, List.length_nil] at ih ⊢
    omega
theorem one_flat : ∀ cs : List Char, (cs.map fun c => [c]).flatten = cs
  | [] => rfl
  | c :: r => by
    have ih := one_flat r
    simp only [List.map_cons, List.flatten_cons, ih, List.cons_append, List.nil_append]
theorem o_joinL {n : Nat} {cs : List Char} {s : Sto} {Q : D → Sto → Prop} (e : s[n]? = some (.lst (cs.map fun c => D.str [c]))) (h : cs.length ≤ 1000000) : (pJoin (.str []) [.ref n] s).ret Q ↔ Q (.str cs) s := by
  have h1 := one_sum cs
  have h2 := one_flat cs
  refine ret_eq ?_
  simp only [pJoin, e, joinD, strsOf_map (fun c => [c]), h1, joinC_nil, h2]
  rw [if_pos]
  simp [LN]
  omega

/-! ### cells that stand -/
/-- the cells but those at X stand -/
def Fr (X : List Nat) (s s' : Sto) : Prop := ∀ i c, i ∉ X → s[i]? = some c → s'[i]? = some c
theorem Fr.refl {X : List Nat} {s : Sto} : Fr X s s := fun _ _ _ h => h
theorem Fr.trans {X : List Nat} {s s' t : Sto} (a : Fr X s s') (b : Fr X s' t) : Fr X s t := fun i c hi h => b i c hi (a i c hi h)
theorem Fr.more {X Y : List Nat} {s s' : Sto} (a : Fr X s s') (h : ∀ i ∈ X, i ∈ Y) : Fr Y s s' := fun i c hi q => a i c (fun z => hi (h i z)) q
theorem Fr.set {X : List Nat} {s : Sto} {n : Nat} {c : Cell} (h : n ∈ X) : Fr X s (s.set n c) := fun i c' hi q => by
  rw [List.getElem?_set_ne (fun z : n = i => hi (by rw [← z]; exact h))]
  exact q
theorem Fr.app {X : List Nat} {s t : Sto} : Fr X s (s ++ t) := fun i c' hi q => by
  rw [List.getElem?_append_left (List.getElem?_eq_some_iff.mp q).1]
  exact q
/-- new cells do not count for what was there -/
theorem Fr.fresh {X : List Nat} {s t : Sto} {n : Nat} (a : Fr (n :: X) s t) (h : s.length ≤ n) : Fr X s t := fun i c hi q => a i c (fun z => by
  rcases List.mem_cons.mp z with z | z
  · have := (List.getElem?_eq_some_iff.mp q).1
    omega
  · exact hi z) q
theorem Fr.fresh_in {x : Nat} {s t : Sto} {n : Nat} (a : Fr [x, n] s t) (h : s.length ≤ n) : Fr [x] s t := fun i c hi q => a i c (fun z => by
  have := (List.getElem?_eq_some_iff.mp q).1
  simp at z hi
  omega) q
theorem lt_of_at {s : Sto} {i : Nat} {c : Cell} (h : s[i]? = some c) : i < s.length := (List.getElem?_eq_some_iff.mp h).1
theorem set_at {s : Sto} {i : Nat} {c c' : Cell} (h : s[i]? = some c) : (s.set i c')[i]? = some c' := List.getElem?_set_self (lt_of_at h)
theorem set_ne {s : Sto} {i j : Nat} {c : Cell} (h : i ≠ j) : (s.set i c)[j]? = s[j]? := List.getElem?_set_ne h
theorem app_at {s : Sto} {c : Cell} : (s ++ [c])[s.length]? = some c := by simp
theorem app_old {s : Sto} {c c' : Cell} {i : Nat} (h : s[i]? = some c') : (s ++ [c])[i]? = some c' := by
  rw [List.getElem?_append_left (lt_of_at h)]
  exact h
end PL

namespace LW
open PySem PL L2
def l_differing_L1 : Sx := (sIf (tOf (xBin pNe (xBin pIx (xBin pIx (xVar 0) (xVar 3)) (xVar 4)) (xBin pIx (xBin pIx (xVar 1) (xVar 3)) (xVar 4)))) (sAug 2 pIAdd (xC (.int 1))) sSkip)
def l_differing_L2 : Sx := (sFor (iRange1 (aCons (xCall pLen (aCons (xBin pIx (xVar 0) (xVar 3)) aNil)) aNil)) (.nm 4) l_differing_L1)
def b_differing : Sx := (sSeq (sSet 2 (xC (.int 0)))
  (sSeq (sFor (iRange1 (aCons (xCall pLen (aCons (xVar 0) aNil)) aNil)) (.nm 3) l_differing_L2)
  (sRet (xVar 2))))
def m_differing : Fn := runB 2 3 b_differing
def b_distance : Sx := (sSeq (sSet 3 (xBin pIx (xBin pIx (xVar 0) (xVar 1)) (xC (.int 4))))
  (sSeq (sSet 4 (xBin pIx (xBin pIx (xVar 0) (xVar 2)) (xC (.int 4))))
  (sSeq (sIf (tOr2 (tOf (xBin pNe (xCall pLen (aCons (xVar 3) aNil)) (xCall pLen (aCons (xVar 4) aNil)))) (tOf (xBin pNe (xCall pLen (aCons (xBin pIx (xVar 3) (xC (.int 0))) aNil)) (xCall pLen (aCons (xBin pIx (xVar 4) (xC (.int 0))) aNil))))) (sRet (xC .none)) sSkip)
  (sRet (xCall m_differing (aCons (xVar 3) (aCons (xVar 4) aNil)))))))
def m_distance : Fn := runB 3 2 b_distance
def b__law_cell : Sx := (sSeq (sIf (tOf (xBin pLt (xVar 1) (xCall pLen (aCons (xVar 0) aNil)))) (sRet (xBin pIx (xVar 0) (xVar 1))) sSkip)
  (sRet (xC (.int 0))))
def m__law_cell : Fn := runB 2 0 b__law_cell
def l__law_digits_L1 : Sx := (sIf (tOf (xBin pGt (xVar 5) (xC (.int 0)))) (sSeq (sExpr (xMeth isLst pAppend (xVar 3) (aCons (xBin pMod (xCall pInt (aCons (xVar 5) aNil)) (xC (.int 1000))) aNil)))
  (sSet 5 (xBin pFdiv (xVar 5) (xC (.int 1000))))) sSkip)
def l__law_digits_L2 : Sx := (sSeq (sSet 7 (xBin pMod (xCall pInt (aCons (xBin pAdd (xBin pAdd (xBin pMul (xVar 7) (xC (.int 16807))) (xBin pMul (xC (.int 7)) (xVar 6))) (xC (.int 1))) aNil)) (xC (.int 2147483647))))
  (sExpr (xMeth isLst pAppend (xVar 3) (aCons (xBin pMod (xCall pInt (aCons (xBin pFdiv (xVar 7) (xC (.int 997))) aNil)) (xC (.int 1000))) aNil))))
def l__law_digits_L3 : Sx := (sSeq (sSet 5 (xCall m__law_cell (aCons (xVar 0) (aCons (xVar 4) aNil))))
  (sSeq (sIf (tOf (xBin pLt (xVar 5) (xC (.int 0)))) (sSet 5 (xBin pSub (xC (.int 1)) (xBin pMul (xC (.int 2)) (xVar 5)))) sSkip)
  (sIf (tOf (xBin pGe (xVar 5) (xBin pPow (xC (.int 10)) (xC (.int 18))))) (sFor (iRange1 (aCons (xC (.int 60)) aNil)) (.nm 6) l__law_digits_L1) (sSeq (sSet 7 (xBin pMod (xCall pInt (aCons (xBin pAdd (xBin pAdd (xBin pMul (xVar 5) (xC (.int 48271))) (xBin pMul (xVar 4) (xC (.int 69621)))) (xC (.int 11))) aNil)) (xC (.int 2147483647))))
  (sFor (iRange1 (aCons (xC (.int 12)) aNil)) (.nm 6) l__law_digits_L2)))))
def b__law_digits : Sx := (sSeq (sSet 3 (xLst aNil))
  (sSeq (sFor (iRange2 (aCons (xVar 1) (aCons (xVar 2) aNil))) (.nm 4) l__law_digits_L3)
  (sRet (xVar 3))))
def m__law_digits : Fn := runB 3 5 b__law_digits
def b__law_draw : Sx := (sSeq (sSet 2 (xBin pIx (xVar 0) (xC (.int 1))))
  (sSeq (sPut (xVar 0) (xC (.int 1)) (xBin pAdd (xVar 2) (xC (.int 1))))
  (sSeq (sIf (tOf (xBin pLt (xVar 2) (xCall pLen (aCons (xBin pIx (xVar 0) (xC (.int 0))) aNil)))) (sRet (xBin pMod (xCall pInt (aCons (xBin pIx (xBin pIx (xVar 0) (xC (.int 0))) (xVar 2)) aNil)) (xVar 1))) sSkip)
  (sRet (xBin pMod (xCall pInt (aCons (xBin pAdd (xBin pMul (xVar 2) (xC (.int 7))) (xC (.int 3))) aNil)) (xVar 1))))))
def m__law_draw : Fn := runB 2 1 b__law_draw
def b__law_same : Sx := (sRet (xRep false (xVar 0) (xVar 1)))
def m__law_same : Fn := runB 2 0 b__law_same
def e__law_shape_C1 : Ex := (xBin pIx (xC (.str ['.', '#'])) (xBin pMod (xCall pInt (aCons (xBin pFdiv (xCall m__law_draw (aCons (xVar 0) (aCons (xC (.int 5)) aNil))) (xC (.int 2))) aNil)) (xC (.int 2))))
def e__law_shape_C2 : Ex := (xMeth isStr pJoin (xC (.str [])) (aCons (xLc [6] (iRange1 (aCons (xVar 2) aNil)) (.nm 6) tTrue e__law_shape_C1) aNil))
def b__law_shape : Sx := (sSeq (sSet 4 (xCall pTuple (aCons (xLc [5] (iRange1 (aCons (xVar 3) aNil)) (.nm 5) tTrue e__law_shape_C2) aNil)))
  (sRet (xTup (aCons (xC (.str ['s', 'h', 'a', 'p', 'e'])) (aCons (xBin pAdd (xC (.str ['p'])) (xCall pStr (aCons (xVar 1) aNil))) (aCons (xC (.str [])) (aCons (xC (.int 0)) (aCons (xVar 4) aNil))))))))
def m__law_shape : Fn := runB 4 3 b__law_shape
def l__law_count_L1 : Sx := (sSet 2 (xBin pAdd (xVar 2) (xCall pInt (aCons (xBin pNe (xBin pIx (xBin pIx (xVar 0) (xVar 3)) (xVar 4)) (xBin pIx (xBin pIx (xVar 1) (xVar 3)) (xVar 4))) aNil))))
def l__law_count_L2 : Sx := (sFor (iRange1 (aCons (xCall pLen (aCons (xBin pIx (xVar 0) (xC (.int 0))) aNil)) aNil)) (.nm 4) l__law_count_L1)
def b__law_count : Sx := (sSeq (sIf (tOr2 (tOf (xBin pNe (xCall pLen (aCons (xVar 0) aNil)) (xCall pLen (aCons (xVar 1) aNil)))) (tOf (xBin pNe (xCall pLen (aCons (xBin pIx (xVar 0) (xC (.int 0))) aNil)) (xCall pLen (aCons (xBin pIx (xVar 1) (xC (.int 0))) aNil))))) (sRet (xC .none)) sSkip)
  (sSeq (sSet 2 (xC (.int 0)))
  (sSeq (sFor (iRange1 (aCons (xCall pLen (aCons (xVar 0) aNil)) aNil)) (.nm 3) l__law_count_L2)
  (sRet (xVar 2)))))
def m__law_count : Fn := runB 2 3 b__law_count
def l_law_L1 : Sx := (sSeq (sIf (tOf (xBin pEq (xCall m__law_draw (aCons (xVar 1) (aCons (xC (.int 4)) aNil))) (xC (.int 0)))) (sExpr (xMeth isLst pAppend (xVar 3) (aCons (xTup (aCons (xC (.str ['p', 'l', 'a', 'i', 'n'])) (aCons (xBin pAdd (xC (.str ['w'])) (xCall pStr (aCons (xVar 5) aNil))) (aCons (xC (.str [])) (aCons (xC (.int 0)) (aCons (xBin pEq (xVar 5) (xC (.int 1))) aNil)))))) aNil))) sSkip)
  (sSeq (sSet 6 (xBin pIx (xVar 2) (xCall m__law_draw (aCons (xVar 1) (aCons (xC (.int 2)) aNil)))))
  (sSeq (sExpr (xMeth isLst pAppend (xVar 4) (aCons (xCall pLen (aCons (xVar 3) aNil)) aNil)))
  (sExpr (xMeth isLst pAppend (xVar 3) (aCons (xCall m__law_shape (aCons (xVar 1) (aCons (xVar 5) (aCons (xVar 6) (aCons (xBin pIx (xVar 2) (xC (.int 1))) aNil))))) aNil))))))
def l_law_L2 : Sx := (sSeq (sSet 11 (xCall m_distance (aCons (xCall pTuple (aCons (xVar 3) aNil)) (aCons (xVar 7) (aCons (xVar 10) aNil)))))
  (sSeq (sSet 12 (xCall m_distance (aCons (xCall pTuple (aCons (xVar 3) aNil)) (aCons (xVar 10) (aCons (xVar 8) aNil)))))
  (sIf (tAnd2 (tOf (xBin pIsNot (xVar 9) (xC .none))) (tAnd2 (tOf (xBin pIsNot (xVar 11) (xC .none))) (tOf (xBin pGt (xVar 9) (xBin pAdd (xVar 11) (xVar 12)))))) (sRet (xC (.bool false))) sSkip)))
def l_law_L3 : Sx := (sSeq (sSet 9 (xCall m__law_count (aCons (xBin pIx (xBin pIx (xVar 3) (xVar 7)) (xC (.int 4))) (aCons (xBin pIx (xBin pIx (xVar 3) (xVar 8)) (xC (.int 4))) aNil))))
  (sSeq (sIf (tOr2 (tNot1 (tOf (xCall m__law_same (aCons (xCall m_distance (aCons (xCall pTuple (aCons (xVar 3) aNil)) (aCons (xVar 7) (aCons (xVar 8) aNil)))) (aCons (xVar 9) aNil))))) (tNot1 (tOf (xCall m__law_same (aCons (xCall m_distance (aCons (xCall pTuple (aCons (xVar 3) aNil)) (aCons (xVar 8) (aCons (xVar 7) aNil)))) (aCons (xVar 9) aNil)))))) (sRet (xC (.bool false))) sSkip)
  (sFor (iSeq (xVar 4)) (.nm 10) l_law_L2)))
def l_law_L4 : Sx := (sFor (iSeq (xVar 4)) (.nm 8) l_law_L3)
def b_law : Sx := (sSeq (sSet 1 (xLst (aCons (xCall m__law_digits (aCons (xVar 0) (aCons (xC (.int 0)) (aCons (xC (.int 63)) aNil)))) (aCons (xC (.int 0)) aNil))))
  (sSeq (sSet 2 (xLst (aCons (xBin pAdd (xC (.int 1)) (xCall m__law_draw (aCons (xVar 1) (aCons (xC (.int 16)) aNil)))) (aCons (xBin pAdd (xC (.int 1)) (xCall m__law_draw (aCons (xVar 1) (aCons (xC (.int 16)) aNil)))) aNil))))
  (sSeq (sSet 3 (xLst aNil))
  (sSeq (sSet 4 (xLst aNil))
  (sSeq (sFor (iRange1 (aCons (xBin pAdd (xC (.int 2)) (xCall m__law_draw (aCons (xVar 1) (aCons (xC (.int 5)) aNil)))) aNil)) (.nm 5) l_law_L1)
  (sSeq (sFor (iSeq (xVar 4)) (.nm 7) l_law_L4)
  (sRet (xBin pEq (xCall m_distance (aCons (xCall pTuple (aCons (xVar 3) aNil)) (aCons (xBin pIx (xVar 4) (xC (.int 0))) (aCons (xBin pIx (xVar 4) (xC (.int 0))) aNil)))) (xC (.int 0))))))))))
def m_law : Fn := runB 1 12 b_law
end LW

namespace LW
open PySem PySem.Spec PyProof.Rows L2 PL
def topS (i : Nat) : Stmt := PySem.Challenge.pw_surelyread_k49_distance_counts.main.body.getD i (.Pass ⟨0, 0, 0, 0⟩)
abbrev s_differing : Stmt := topS 1
theorem sc_differing : FnScope ["one", "other", "many", "y", "x"] ["one", "other"] (defScope s_differing) := ⟨rfl, rfl, rfl, by decide +kernel, rfl, by decide +kernel, by decide +kernel⟩
abbrev s_distance : Stmt := topS 3
theorem sc_distance : FnScope ["parts", "first", "second", "one", "other"] ["parts", "first", "second"] (defScope s_distance) := ⟨rfl, rfl, rfl, by decide +kernel, rfl, by decide +kernel, by decide +kernel⟩
abbrev s__law_cell : Stmt := topS 5
theorem sc__law_cell : FnScope ["_law_script", "_law_k"] ["_law_script", "_law_k"] (defScope s__law_cell) := ⟨rfl, rfl, rfl, by decide +kernel, rfl, by decide +kernel, by decide +kernel⟩
abbrev s__law_digits : Stmt := topS 6
theorem sc__law_digits : FnScope ["_law_script", "_law_first", "_law_last", "_law_digits_here", "_law_k", "_law_cell_here", "_law_turn", "_law_seed"] ["_law_script", "_law_first", "_law_last"] (defScope s__law_digits) := ⟨rfl, rfl, rfl, by decide +kernel, rfl, by decide +kernel, by decide +kernel⟩
abbrev s__law_draw : Stmt := topS 7
theorem sc__law_draw : FnScope ["_law_box", "_law_many", "_law_at"] ["_law_box", "_law_many"] (defScope s__law_draw) := ⟨rfl, rfl, rfl, by decide +kernel, rfl, by decide +kernel, by decide +kernel⟩
abbrev s__law_same : Stmt := topS 8
theorem sc__law_same : FnScope ["_law_actual", "_law_due"] ["_law_actual", "_law_due"] (defScope s__law_same) := ⟨rfl, rfl, rfl, by decide +kernel, rfl, by decide +kernel, by decide +kernel⟩
abbrev s__law_shape : Stmt := topS 9
theorem sc__law_shape : FnScope ["_law_box", "_law_k", "_law_width", "_law_height", "_law_rows", "_law_y", "_law_x"] ["_law_box", "_law_k", "_law_width", "_law_height"] (defScope s__law_shape) := ⟨rfl, rfl, rfl, by decide +kernel, rfl, by decide +kernel, by decide +kernel⟩
abbrev s__law_count : Stmt := topS 10
theorem sc__law_count : FnScope ["_law_one", "_law_other", "_law_many", "_law_y", "_law_x"] ["_law_one", "_law_other"] (defScope s__law_count) := ⟨rfl, rfl, rfl, by decide +kernel, rfl, by decide +kernel, by decide +kernel⟩
abbrev s_law : Stmt := topS 11
theorem sc_law : FnScope ["_law_script", "_law_box", "_law_sizes", "_law_parts", "_law_shapes", "_law_k", "_law_width", "_law_a", "_law_b", "_law_due", "_law_c", "_law_one", "_law_two"] ["_law_script"] (defScope s_law) := ⟨rfl, rfl, rfl, by decide +kernel, rfl, by decide +kernel, by decide +kernel⟩
section
variable {P : Program} {w : World} {K : PySem.W.Frag} {mg : Str → Option Value} {base : Heap}
theorem ok_differing {f : Addr} {fd : FuncData} (F : FunIn K mg "differing" s_differing f fd ["one", "other"]) (z_range : mg "range" = none) (z_len : mg "len" = none) : FnP P w K mg base 1 f fd ["one", "other"] m_differing :=
  FnP.of F.fn sc_differing rfl rfl rfl fun cdv A outer s H E hr hgd => by
    have nd := sc_differing.nd
    have u64 := hr.units
    have u65 := u65 hr
    have tk := takes_of (X := cxOf (L2.CX P w) P w K mg base ["one", "other", "many", "y", "x"] "differing" (defScope s_differing) f cdv A outer s H E) rfl rfl rfl rfl
    exact (bv_cons (sv_set (i := 2) nd ev_int)
    (bv_cons (sv_for (passes_of rfl) rfl (iv_range1 z_range (av_cons (ev_callB cr_len calm_len bt_len z_len (av_cons (ev_var (i := 0)) av_nil)) av_nil)) (gt_nm (i := 3) nd) (bv_one (sv_for (passes_of rfl) rfl (iv_range1 z_range (av_cons (ev_callB cr_len calm_len bt_len z_len (av_cons (ev_ix u64 (ev_var (i := 0)) (ev_var (i := 3))) av_nil)) av_nil)) (gt_nm (i := 4) nd) (bv_one (sv_if (tv_cmp (or_ne u64) calm_eq bool_eq (ev_ix u64 (ev_ix u64 (ev_var (i := 0)) (ev_var (i := 3))) (ev_var (i := 4))) (ev_ix u64 (ev_ix u64 (ev_var (i := 1)) (ev_var (i := 3))) (ev_var (i := 4))) (nomark _)) (bv_one (sv_aug (i := 2) ior_iadd calm_iadd nd ev_int)) bv_nil)))))
    (bv_one (sv_ret (ev_var (i := 2))))))
theorem ok_distance {f : Addr} {fd : FuncData} (F : FunIn K mg "distance" s_distance f fd ["parts", "first", "second"]) (c_differing : Glb P w K mg base "differing" 1 ["one", "other"] m_differing) (z_len : mg "len" = none) : FnP P w K mg base 2 f fd ["parts", "first", "second"] m_distance :=
  FnP.of F.fn sc_distance rfl rfl rfl fun cdv A outer s H E hr hgd => by
    have nd := sc_distance.nd
    have u64 := hr.units
    have u65 := u65 hr
    have tk := takes_of (X := cxOf (L2.CX P w) P w K mg base ["parts", "first", "second", "one", "other"] "distance" (defScope s_distance) f cdv A outer s H E) rfl rfl rfl rfl
    exact (bv_cons (sv_set (i := 3) nd (ev_ix u64 (ev_ix u64 (ev_var (i := 0)) (ev_var (i := 1))) ev_int))
    (bv_cons (sv_set (i := 4) nd (ev_ix u64 (ev_ix u64 (ev_var (i := 0)) (ev_var (i := 2))) ev_int))
    (bv_cons (sv_if (tv_w (wv_or (tv_cmp (or_ne u64) calm_eq bool_eq (ev_callB cr_len calm_len bt_len z_len (av_cons (ev_var (i := 3)) av_nil)) (ev_callB cr_len calm_len bt_len z_len (av_cons (ev_var (i := 4)) av_nil)) (nomark _)) (wv_or1 (tv_cmp (or_ne u64) calm_eq bool_eq (ev_callB cr_len calm_len bt_len z_len (av_cons (ev_ix u64 (ev_var (i := 3)) ev_int) av_nil)) (ev_callB cr_len calm_len bt_len z_len (av_cons (ev_ix u64 (ev_var (i := 4)) ev_int) av_nil)) (nomark _))))) (bv_one (sv_ret ev_none)) bv_nil)
    (bv_one (sv_ret (ev_callG c_differing (by omega) hr hgd tk (av_cons (ev_var (i := 3)) (av_cons (ev_var (i := 4)) av_nil))))))))
theorem ok__law_cell {f : Addr} {fd : FuncData} (F : FunIn K mg "_law_cell" s__law_cell f fd ["_law_script", "_law_k"]) (z_len : mg "len" = none) : FnP P w K mg base 1 f fd ["_law_script", "_law_k"] m__law_cell :=
  FnP.of F.fn sc__law_cell rfl rfl rfl fun cdv A outer s H E hr hgd => by
    have nd := sc__law_cell.nd
    have u64 := hr.units
    have u65 := u65 hr
    have tk := takes_of (X := cxOf (L2.CX P w) P w K mg base ["_law_script", "_law_k"] "_law_cell" (defScope s__law_cell) f cdv A outer s H E) rfl rfl rfl rfl
    exact (bv_cons (sv_if (tv_cmp or_lt calm_cmp bool_cmp (ev_var (i := 1)) (ev_callB cr_len calm_len bt_len z_len (av_cons (ev_var (i := 0)) av_nil)) (nomark _)) (bv_one (sv_ret (ev_ix u64 (ev_var (i := 0)) (ev_var (i := 1))))) bv_nil)
    (bv_one (sv_ret ev_int)))
theorem ok__law_digits {f : Addr} {fd : FuncData} (F : FunIn K mg "_law_digits" s__law_digits f fd ["_law_script", "_law_first", "_law_last"]) (c__law_cell : Glb P w K mg base "_law_cell" 1 ["_law_script", "_law_k"] m__law_cell) (z_range : mg "range" = none) (z_int : mg "int" = none) : FnP P w K mg base 2 f fd ["_law_script", "_law_first", "_law_last"] m__law_digits :=
  FnP.of F.fn sc__law_digits rfl rfl rfl fun cdv A outer s H E hr hgd => by
    have nd := sc__law_digits.nd
    have u64 := hr.units
    have u65 := u65 hr
    have tk := takes_of (X := cxOf (L2.CX P w) P w K mg base ["_law_script", "_law_first", "_law_last", "_law_digits_here", "_law_k", "_law_cell_here", "_law_turn", "_law_seed"] "_law_digits" (defScope s__law_digits) f cdv A outer s H E) rfl rfl rfl rfl
    exact (bv_cons (sv_set (i := 3) nd (ev_lst av_nil))
    (bv_cons (sv_for (passes_of rfl) rfl (iv_range2 z_range (av_cons (ev_var (i := 1)) (av_cons (ev_var (i := 2)) av_nil))) (gt_nm (i := 4) nd) (bv_cons (sv_set (i := 5) nd (ev_callG c__law_cell (by omega) hr hgd tk (av_cons (ev_var (i := 0)) (av_cons (ev_var (i := 4)) av_nil))))
    (bv_cons (sv_if (tv_cmp or_lt calm_cmp bool_cmp (ev_var (i := 5)) ev_int (nomark _)) (bv_one (sv_set (i := 5) nd (ev_op or_sub calm_sub ev_int (ev_op or_mul calm_mul ev_int (ev_var (i := 5)))))) bv_nil)
    (bv_one (sv_if (tv_cmp or_ge calm_cmp bool_cmp (ev_var (i := 5)) (ev_op or_pow calm_pow ev_int ev_int) (nomark _)) (bv_one (sv_for (passes_of rfl) rfl (iv_range1 z_range (av_cons ev_int av_nil)) (gt_nm (i := 6) nd) (bv_one (sv_if (tv_cmp or_gt calm_cmp bool_cmp (ev_var (i := 5)) ev_int (nomark _)) (bv_cons (sv_expr (ev_bm PySem.F.plainAttrs_list PySem.F.slot_list_append PySem.F.type_list_append mt_appendD calm_append ty_lst (ev_var (i := 3)) (av_cons (ev_op or_mod calm_mod (ev_callTy cr_int calm_int bt_int z_int (av_cons (ev_var (i := 5)) av_nil)) ev_int) av_nil)))
    (bv_one (sv_set (i := 5) nd (ev_op or_fdiv calm_fdiv (ev_var (i := 5)) ev_int)))) bv_nil)))) (bv_cons (sv_set (i := 7) nd (ev_op or_mod calm_mod (ev_callTy cr_int calm_int bt_int z_int (av_cons (ev_op or_add calm_add (ev_op or_add calm_add (ev_op or_mul calm_mul (ev_var (i := 5)) ev_int) (ev_op or_mul calm_mul (ev_var (i := 4)) ev_int)) ev_int) av_nil)) ev_int))
    (bv_one (sv_for (passes_of rfl) rfl (iv_range1 z_range (av_cons ev_int av_nil)) (gt_nm (i := 6) nd) (bv_cons (sv_set (i := 7) nd (ev_op or_mod calm_mod (ev_callTy cr_int calm_int bt_int z_int (av_cons (ev_op or_add calm_add (ev_op or_add calm_add (ev_op or_mul calm_mul (ev_var (i := 7)) ev_int) (ev_op or_mul calm_mul ev_int (ev_var (i := 6)))) ev_int) av_nil)) ev_int))
    (bv_one (sv_expr (ev_bm PySem.F.plainAttrs_list PySem.F.slot_list_append PySem.F.type_list_append mt_appendD calm_append ty_lst (ev_var (i := 3)) (av_cons (ev_op or_mod calm_mod (ev_callTy cr_int calm_int bt_int z_int (av_cons (ev_op or_fdiv calm_fdiv (ev_var (i := 7)) ev_int) av_nil)) ev_int) av_nil)))))))))))))
    (bv_one (sv_ret (ev_var (i := 3))))))
theorem ok__law_draw {f : Addr} {fd : FuncData} (F : FunIn K mg "_law_draw" s__law_draw f fd ["_law_box", "_law_many"]) (z_len : mg "len" = none) (z_int : mg "int" = none) : FnP P w K mg base 1 f fd ["_law_box", "_law_many"] m__law_draw :=
  FnP.of F.fn sc__law_draw rfl rfl rfl fun cdv A outer s H E hr hgd => by
    have nd := sc__law_draw.nd
    have u64 := hr.units
    have u65 := u65 hr
    have tk := takes_of (X := cxOf (L2.CX P w) P w K mg base ["_law_box", "_law_many", "_law_at"] "_law_draw" (defScope s__law_draw) f cdv A outer s H E) rfl rfl rfl rfl
    exact (bv_cons (sv_set (i := 2) nd (ev_ix u64 (ev_var (i := 0)) ev_int))
    (bv_cons (sv_put u64 (ev_op or_add calm_add (ev_var (i := 2)) ev_int) (ev_var (i := 0)) ev_int)
    (bv_cons (sv_if (tv_cmp or_lt calm_cmp bool_cmp (ev_var (i := 2)) (ev_callB cr_len calm_len bt_len z_len (av_cons (ev_ix u64 (ev_var (i := 0)) ev_int) av_nil)) (nomark _)) (bv_one (sv_ret (ev_op or_mod calm_mod (ev_callTy cr_int calm_int bt_int z_int (av_cons (ev_ix u64 (ev_ix u64 (ev_var (i := 0)) ev_int) (ev_var (i := 2))) av_nil)) (ev_var (i := 1))))) bv_nil)
    (bv_one (sv_ret (ev_op or_mod calm_mod (ev_callTy cr_int calm_int bt_int z_int (av_cons (ev_op or_add calm_add (ev_op or_mul calm_mul (ev_var (i := 2)) ev_int) ev_int) av_nil)) (ev_var (i := 1))))))))
theorem ok__law_same {f : Addr} {fd : FuncData} (F : FunIn K mg "_law_same" s__law_same f fd ["_law_actual", "_law_due"]) (z_repr : mg "repr" = none) : FnP P w K mg base 1 f fd ["_law_actual", "_law_due"] m__law_same :=
  FnP.of F.fn sc__law_same rfl rfl rfl fun cdv A outer s H E hr hgd => by
    have nd := sc__law_same.nd
    have u64 := hr.units
    have u65 := u65 hr
    have tk := takes_of (X := cxOf (L2.CX P w) P w K mg base ["_law_actual", "_law_due"] "_law_same" (defScope s__law_same) f cdv A outer s H E) rfl rfl rfl rfl
    exact (bv_one (sv_ret (ev_repEq u64 hgd z_repr (ev_var (i := 0)) (ev_var (i := 1)))))
theorem ok__law_shape {f : Addr} {fd : FuncData} (F : FunIn K mg "_law_shape" s__law_shape f fd ["_law_box", "_law_k", "_law_width", "_law_height"]) (c__law_draw : Glb P w K mg base "_law_draw" 1 ["_law_box", "_law_many"] m__law_draw) (z_tuple : mg "tuple" = none) (z_range : mg "range" = none) (z_int : mg "int" = none) (z_str : mg "str" = none) : FnP P w K mg base 2 f fd ["_law_box", "_law_k", "_law_width", "_law_height"] m__law_shape :=
  FnP.of F.fn sc__law_shape rfl rfl rfl fun cdv A outer s H E hr hgd => by
    have nd := sc__law_shape.nd
    have u64 := hr.units
    have u65 := u65 hr
    have tk := takes_of (X := cxOf (L2.CX P w) P w K mg base ["_law_box", "_law_k", "_law_width", "_law_height", "_law_rows", "_law_y", "_law_x"] "_law_shape" (defScope s__law_shape) f cdv A outer s H E) rfl rfl rfl rfl
    exact (bv_cons (sv_set (i := 4) nd (ev_callTy cr_tuple calm_tuple bt_tuple z_tuple (av_cons (ev_lc rfl nd (iv_range1 z_range (av_cons (ev_var (i := 3)) av_nil)) (blkOk_by (own := [("_law_y", 5)]) (by rfl)) (fun _ _ _ _ _ => (gt_nm (i := 5) nd)) (fun _ _ _ _ _ => qv_nil) (fun _ _ _ _ _ => (ev_bm PySem.F.plainAttrs_str PySem.F.slot_str_join PySem.F.type_str_join mt_joinD calm_join ty_str (ev_str (t := [])) (av_cons (ev_lc rfl nd (iv_range1 z_range (av_cons (ev_var (i := 2)) av_nil)) (blkOk_by (own := [("_law_x", 6)]) (by rfl)) (fun _ _ _ _ _ => (gt_nm (i := 6) nd)) (fun _ _ _ _ _ => qv_nil) (fun _ _ _ _ _ => (ev_ix u64 (ev_str (t := ['.', '#'])) (ev_op or_mod calm_mod (ev_callTy cr_int calm_int bt_int z_int (av_cons (ev_op or_fdiv calm_fdiv (ev_callG c__law_draw (by omega) hr hgd tk0 (av_cons (ev_var (i := 0)) (av_cons ev_int av_nil))) ev_int) av_nil)) ev_int)))) av_nil)))) av_nil)))
    (bv_one (sv_ret (ev_tup (av_cons (ev_str (t := ['s', 'h', 'a', 'p', 'e'])) (av_cons (ev_op or_add calm_add (ev_str (t := ['p'])) (ev_callTy cr_str calm_str bt_str z_str (av_cons (ev_var (i := 1)) av_nil))) (av_cons (ev_str (t := [])) (av_cons ev_int (av_cons (ev_var (i := 4)) av_nil)))))))))
theorem ok__law_count {f : Addr} {fd : FuncData} (F : FunIn K mg "_law_count" s__law_count f fd ["_law_one", "_law_other"]) (z_len : mg "len" = none) (z_range : mg "range" = none) (z_int : mg "int" = none) : FnP P w K mg base 1 f fd ["_law_one", "_law_other"] m__law_count :=
  FnP.of F.fn sc__law_count rfl rfl rfl fun cdv A outer s H E hr hgd => by
    have nd := sc__law_count.nd
    have u64 := hr.units
    have u65 := u65 hr
    have tk := takes_of (X := cxOf (L2.CX P w) P w K mg base ["_law_one", "_law_other", "_law_many", "_law_y", "_law_x"] "_law_count" (defScope s__law_count) f cdv A outer s H E) rfl rfl rfl rfl
    exact (bv_cons (sv_if (tv_w (wv_or (tv_cmp (or_ne u64) calm_eq bool_eq (ev_callB cr_len calm_len bt_len z_len (av_cons (ev_var (i := 0)) av_nil)) (ev_callB cr_len calm_len bt_len z_len (av_cons (ev_var (i := 1)) av_nil)) (nomark _)) (wv_or1 (tv_cmp (or_ne u64) calm_eq bool_eq (ev_callB cr_len calm_len bt_len z_len (av_cons (ev_ix u64 (ev_var (i := 0)) ev_int) av_nil)) (ev_callB cr_len calm_len bt_len z_len (av_cons (ev_ix u64 (ev_var (i := 1)) ev_int) av_nil)) (nomark _))))) (bv_one (sv_ret ev_none)) bv_nil)
    (bv_cons (sv_set (i := 2) nd ev_int)
    (bv_cons (sv_for (passes_of rfl) rfl (iv_range1 z_range (av_cons (ev_callB cr_len calm_len bt_len z_len (av_cons (ev_var (i := 0)) av_nil)) av_nil)) (gt_nm (i := 3) nd) (bv_one (sv_for (passes_of rfl) rfl (iv_range1 z_range (av_cons (ev_callB cr_len calm_len bt_len z_len (av_cons (ev_ix u64 (ev_var (i := 0)) ev_int) av_nil)) av_nil)) (gt_nm (i := 4) nd) (bv_one (sv_set (i := 2) nd (ev_op or_add calm_add (ev_var (i := 2)) (ev_callTy cr_int calm_int bt_int z_int (av_cons (ev_cmp (or_ne u64) calm_eq (ev_ix u64 (ev_ix u64 (ev_var (i := 0)) (ev_var (i := 3))) (ev_var (i := 4))) (ev_ix u64 (ev_ix u64 (ev_var (i := 1)) (ev_var (i := 3))) (ev_var (i := 4))) (nomark _)) av_nil))))))))
    (bv_one (sv_ret (ev_var (i := 2)))))))
theorem ok_law {f : Addr} {fd : FuncData} (F : FunIn K mg "law" s_law f fd ["_law_script"]) (c__law_digits : Glb P w K mg base "_law_digits" 2 ["_law_script", "_law_first", "_law_last"] m__law_digits) (c__law_draw : Glb P w K mg base "_law_draw" 1 ["_law_box", "_law_many"] m__law_draw) (c__law_shape : Glb P w K mg base "_law_shape" 2 ["_law_box", "_law_k", "_law_width", "_law_height"] m__law_shape) (c__law_count : Glb P w K mg base "_law_count" 1 ["_law_one", "_law_other"] m__law_count) (c__law_same : Glb P w K mg base "_law_same" 1 ["_law_actual", "_law_due"] m__law_same) (c_distance : Glb P w K mg base "distance" 2 ["parts", "first", "second"] m_distance) (z_range : mg "range" = none) (z_str : mg "str" = none) (z_len : mg "len" = none) (z_tuple : mg "tuple" = none) : FnP P w K mg base 3 f fd ["_law_script"] m_law :=
  FnP.of F.fn sc_law rfl rfl rfl fun cdv A outer s H E hr hgd => by
    have nd := sc_law.nd
    have u64 := hr.units
    have u65 := u65 hr
    have tk := takes_of (X := cxOf (L2.CX P w) P w K mg base ["_law_script", "_law_box", "_law_sizes", "_law_parts", "_law_shapes", "_law_k", "_law_width", "_law_a", "_law_b", "_law_due", "_law_c", "_law_one", "_law_two"] "law" (defScope s_law) f cdv A outer s H E) rfl rfl rfl rfl
    exact (bv_cons (sv_set (i := 1) nd (ev_lst (av_cons (ev_callG c__law_digits (by omega) hr hgd tk (av_cons (ev_var (i := 0)) (av_cons ev_int (av_cons ev_int av_nil)))) (av_cons ev_int av_nil))))
    (bv_cons (sv_set (i := 2) nd (ev_lst (av_cons (ev_op or_add calm_add ev_int (ev_callG c__law_draw (by omega) hr hgd tk (av_cons (ev_var (i := 1)) (av_cons ev_int av_nil)))) (av_cons (ev_op or_add calm_add ev_int (ev_callG c__law_draw (by omega) hr hgd tk (av_cons (ev_var (i := 1)) (av_cons ev_int av_nil)))) av_nil))))
    (bv_cons (sv_set (i := 3) nd (ev_lst av_nil))
    (bv_cons (sv_set (i := 4) nd (ev_lst av_nil))
    (bv_cons (sv_for (passes_of rfl) rfl (iv_range1 z_range (av_cons (ev_op or_add calm_add ev_int (ev_callG c__law_draw (by omega) hr hgd tk (av_cons (ev_var (i := 1)) (av_cons ev_int av_nil)))) av_nil)) (gt_nm (i := 5) nd) (bv_cons (sv_if (tv_cmp (or_eq u64) calm_eq bool_eq (ev_callG c__law_draw (by omega) hr hgd tk (av_cons (ev_var (i := 1)) (av_cons ev_int av_nil))) ev_int (nomark _)) (bv_one (sv_expr (ev_bm PySem.F.plainAttrs_list PySem.F.slot_list_append PySem.F.type_list_append mt_appendD calm_append ty_lst (ev_var (i := 3)) (av_cons (ev_tup (av_cons (ev_str (t := ['p', 'l', 'a', 'i', 'n'])) (av_cons (ev_op or_add calm_add (ev_str (t := ['w'])) (ev_callTy cr_str calm_str bt_str z_str (av_cons (ev_var (i := 5)) av_nil))) (av_cons (ev_str (t := [])) (av_cons ev_int (av_cons (ev_cmp (or_eq u64) calm_eq (ev_var (i := 5)) ev_int (nomark _)) av_nil)))))) av_nil)))) bv_nil)
    (bv_cons (sv_set (i := 6) nd (ev_ix u64 (ev_var (i := 2)) (ev_callG c__law_draw (by omega) hr hgd tk (av_cons (ev_var (i := 1)) (av_cons ev_int av_nil)))))
    (bv_cons (sv_expr (ev_bm PySem.F.plainAttrs_list PySem.F.slot_list_append PySem.F.type_list_append mt_appendD calm_append ty_lst (ev_var (i := 4)) (av_cons (ev_callB cr_len calm_len bt_len z_len (av_cons (ev_var (i := 3)) av_nil)) av_nil)))
    (bv_one (sv_expr (ev_bm PySem.F.plainAttrs_list PySem.F.slot_list_append PySem.F.type_list_append mt_appendD calm_append ty_lst (ev_var (i := 3)) (av_cons (ev_callG c__law_shape (by omega) hr hgd tk (av_cons (ev_var (i := 1)) (av_cons (ev_var (i := 5)) (av_cons (ev_var (i := 6)) (av_cons (ev_ix u64 (ev_var (i := 2)) ev_int) av_nil))))) av_nil))))))))
    (bv_cons (sv_for (passes_of rfl) rfl (iv_seq (ev_var (i := 4))) (gt_nm (i := 7) nd) (bv_one (sv_for (passes_of rfl) rfl (iv_seq (ev_var (i := 4))) (gt_nm (i := 8) nd) (bv_cons (sv_set (i := 9) nd (ev_callG c__law_count (by omega) hr hgd tk (av_cons (ev_ix u64 (ev_ix u64 (ev_var (i := 3)) (ev_var (i := 7))) ev_int) (av_cons (ev_ix u64 (ev_ix u64 (ev_var (i := 3)) (ev_var (i := 8))) ev_int) av_nil))))
    (bv_cons (sv_if (tv_w (wv_or (tv_not (tv_of (ev_callG c__law_same (by omega) hr hgd tk (av_cons (ev_callG c_distance (by omega) hr hgd tk (av_cons (ev_callTy cr_tuple calm_tuple bt_tuple z_tuple (av_cons (ev_var (i := 3)) av_nil)) (av_cons (ev_var (i := 7)) (av_cons (ev_var (i := 8)) av_nil)))) (av_cons (ev_var (i := 9)) av_nil))))) (wv_or1 (tv_not (tv_of (ev_callG c__law_same (by omega) hr hgd tk (av_cons (ev_callG c_distance (by omega) hr hgd tk (av_cons (ev_callTy cr_tuple calm_tuple bt_tuple z_tuple (av_cons (ev_var (i := 3)) av_nil)) (av_cons (ev_var (i := 8)) (av_cons (ev_var (i := 7)) av_nil)))) (av_cons (ev_var (i := 9)) av_nil)))))))) (bv_one (sv_ret ev_bool)) bv_nil)
    (bv_one (sv_for (passes_of rfl) rfl (iv_seq (ev_var (i := 4))) (gt_nm (i := 10) nd) (bv_cons (sv_set (i := 11) nd (ev_callG c_distance (by omega) hr hgd tk (av_cons (ev_callTy cr_tuple calm_tuple bt_tuple z_tuple (av_cons (ev_var (i := 3)) av_nil)) (av_cons (ev_var (i := 7)) (av_cons (ev_var (i := 10)) av_nil)))))
    (bv_cons (sv_set (i := 12) nd (ev_callG c_distance (by omega) hr hgd tk (av_cons (ev_callTy cr_tuple calm_tuple bt_tuple z_tuple (av_cons (ev_var (i := 3)) av_nil)) (av_cons (ev_var (i := 10)) (av_cons (ev_var (i := 8)) av_nil)))))
    (bv_one (sv_if (tv_w (wv_and (tv_cmp or_isnot calm_isnot bool_isnot (ev_var (i := 9)) ev_none (nomark _)) (wv_and (tv_cmp or_isnot calm_isnot bool_isnot (ev_var (i := 11)) ev_none (nomark _)) (wv_and1 (tv_cmp or_gt calm_cmp bool_cmp (ev_var (i := 9)) (ev_op or_add calm_add (ev_var (i := 11)) (ev_var (i := 12))) (nomark _)))))) (bv_one (sv_ret ev_bool)) bv_nil)))))))))))
    (bv_one (sv_ret (ev_cmp (or_eq u64) calm_eq (ev_callG c_distance (by omega) hr hgd tk (av_cons (ev_callTy cr_tuple calm_tuple bt_tuple z_tuple (av_cons (ev_var (i := 3)) av_nil)) (av_cons (ev_ix u64 (ev_var (i := 4)) ev_int) (av_cons (ev_ix u64 (ev_var (i := 4)) ev_int) av_nil)))) ev_int (nomark _))))))))))
end
end LW

namespace LW
open PySem PL L2
local macro_rules | `(tactic| walk_at "w") => `(tactic| try simp (disch := first | assumption | omega) only [↓reduceIte, Bool.false_eq_true, ↓w_c, ↓w_var, ↓var_at, ↓w_nil, ↓w_cons, ↓w_bin, ↓w_call, ↓w_tup, ↓w_lst, ↓w_ife, ↓w_and, ↓and_at, ↓w_or, ↓or_at, ↓w_not, ↓not_at, ↓w_neg, ↓neg_at, ↓w_sl, ↓w_nopart, ↓w_part, ↓part_at, ↓w_chain, ↓w_meth, ↓w_of, ↓w_tand, ↓w_tor, ↓w_tnot, ↓w_true, ↓w_truth_b, ↓wp_seq, ↓w_skip, ↓w_brk, ↓w_cnt, ↓w_set, ↓w_expr, ↓w_ret, ↓w_retN, ↓w_if, ↓w_aug, ↓aug_at, ↓w_put, ↓some_at, ↓w_unp, ↓w_par, ↓par_at, ↓w_for, ↓w_rng1, ↓w_rng2, ↓rng1_at, ↓rng2_at, ↓w_seq, ↓seq_tup, ↓w_step_nm,
  ↓o_add, ↓o_iadd, ↓o_sub, ↓o_mul, ↓o_fdiv, ↓o_mod, ↓o_cmp, ↓o_isN, ↓o_notN, ↓o_eqI, ↓o_eqS, ↓o_lenT, ↓o_lenR, ↓o_int, ↓o_intB, ↓List.getElem?_cons_zero, ↓List.getElem?_cons_succ, ↓List.set_cons_zero, ↓List.set_cons_succ, decide_eq_true_eq, Bool.not_eq_true', decide_eq_false_iff_not, true_and, and_true, and_self,
  ↓List.map_cons, ↓List.map_nil, List.replicate, ↓List.cons_append, ↓List.nil_append, List.length_cons, List.length_nil, Nat.reduceAdd, Nat.reduceLeDiff, Int.reducePow, Int.reduceNeg, Int.reduceLE, Int.reduceLT])

/-! ### the script's cells -/
theorem cell_ok {ns : List Int} {k : Int} {s : Sto} {Q : D → Sto → Prop} (hk : 0 ≤ k) (h : ∀ i, Q (.int i) s) : (m__law_cell [.rol ns, .int k] s).ret Q := by
  refine run_wp rfl ?_
  unfold b__law_cell
  walk_at "w"
  split
  · rename_i hl
    obtain ⟨v, hv⟩ : ∃ v, ns[k.toNat]? = some v := ⟨_, List.getElem?_eq_getElem (by omega)⟩
    rw [o_ixR (by rw [atI_ix hk]; exact hv)]
    exact h v
  · exact h 0

/-! ### the digits -/
def Digs (s : Sto) (n : Nat) (m : Nat) : Prop := ∃ dl : List Int, s[n]? = some (.lst (dl.map D.int)) ∧ dl.length ≤ m
theorem Digs.push {s : Sto} {n m : Nat} {i : Int} {Q : D → Sto → Prop} (h : Digs s n m) (hm : m < 16777216) (q : ∀ s', Digs s' n (m + 1) → Fr [n] s s' → Q .none s') : (pAppend (.ref n) [.int i] s).ret Q := by
  obtain ⟨dl, e, hl⟩ := h
  rw [o_append e (by rw [List.length_map]; omega)]
  refine q _ ⟨dl ++ [i], by rw [set_at e, List.map_append]; rfl, by rw [List.length_append]; simp; omega⟩ (Fr.set (by simp))
theorem Digs.isLst {s : Sto} {n m : Nat} (h : Digs s n m) : isLst (.ref n) s = true := by
  obtain ⟨dl, e, hl⟩ := h
  exact o_isLst e
theorem digits_ok {ns : List Int} {a c : Int} {s : Sto} {Q : D → Sto → Prop} (ha : 0 ≤ a) (hac : a ≤ c) (hc : c ≤ 100) (h : ∀ s', Digs s' s.length 6000 → Fr [] s s' → Q (.ref s.length) s') : (m__law_digits [.rol ns, .int a, .int c] s).ret Q := by
  refine run_wp rfl ?_
  unfold b__law_digits
  walk_at "w"
  refine ⟨by omega, ?_⟩
  refine for_rng (fun i l s1 => ∃ x4 x5 x6 x7, l = [some (.rol ns), some (.int a), some (.int c), some (.ref s.length), x4, x5, x6, x7] ∧ Digs s1 s.length (60 * i) ∧ Fr [s.length] s s1) ⟨_, _, _, _, rfl, ⟨[], app_at, Nat.zero_le _⟩, Fr.app⟩ ?_ ?_
  · rintro i l s1 hi ⟨x4, x5, x6, x7, rfl, hd, hf⟩
    unfold l__law_digits_L3
    refine wp_cut (fun l s2 => ∃ v, l = [some (.rol ns), some (.int a), some (.int c), some (.ref s.length), some (.int (a + i)), some (.int v), x6, x7] ∧ s1 = s2) ?_ ?_
    · walk_at "w"
      exact cell_ok (by omega) fun v => ⟨v, rfl, rfl⟩
    rintro _ _ ⟨v, rfl, rfl⟩
    refine wp_cut (fun l s2 => ∃ v, 0 ≤ v ∧ l = [some (.rol ns), some (.int a), some (.int c), some (.ref s.length), some (.int (a + i)), some (.int v), x6, x7] ∧ s1 = s2) ?_ ?_
    · walk_at "w"
      split
      · exact ⟨_, by omega, rfl⟩
      · exact ⟨_, by omega, rfl⟩
    rintro _ _ ⟨v, hv, rfl, rfl⟩
    walk_at "w"
    rw [o_pow (by decide)]
    walk_at "w"
    split
    · refine for_rng (fun j l s2 => ∃ z x6, 0 ≤ z ∧ l = [some (.rol ns), some (.int a), some (.int c), some (.ref s.length), some (.int (a + i)), some (.int z), x6, x7] ∧ Digs s2 s.length (60 * i + j) ∧ Fr [s.length] s s2) ⟨_, _, hv, rfl, hd, hf⟩ ?_ ?_
      · rintro j l s2 hj ⟨z, y6, hz, rfl, hd2, hf2⟩
        unfold l__law_digits_L1
        walk_at "w"
        split
        · walk_at "w"
          refine ⟨hd2.isLst, ?_⟩
          refine hd2.push (by omega) fun s3 hd3 hf3 => ?_
          exact ⟨_, _, Int.ediv_nonneg hz (by decide), rfl, hd3, hf2.trans hf3⟩
        · obtain ⟨dl, e, hl⟩ := hd2
          exact ⟨z, _, hz, rfl, ⟨dl, e, by omega⟩, hf2⟩
      · rintro l s2 ⟨z, y6, hz, rfl, hd2, hf2⟩
        exact ⟨_, _, _, _, rfl, hd2, hf2⟩
    · refine for_rng (fun j l s2 => ∃ z x6, l = [some (.rol ns), some (.int a), some (.int c), some (.ref s.length), some (.int (a + i)), some (.int v), x6, some (.int z)] ∧ Digs s2 s.length (60 * i + j) ∧ Fr [s.length] s s2) ⟨_, _, rfl, hd, hf⟩ ?_ ?_
      · rintro j l s2 hj ⟨z, y6, rfl, hd2, hf2⟩
        unfold l__law_digits_L2
        walk_at "w"
        refine ⟨hd2.isLst, ?_⟩
        refine hd2.push (by omega) fun s3 hd3 hf3 => ?_
        exact ⟨_, _, rfl, hd3, hf2.trans hf3⟩
      · rintro l s2 ⟨z, y6, rfl, ⟨dl, e, hl⟩, hf2⟩
        exact ⟨_, _, _, _, rfl, ⟨dl, e, by omega⟩, hf2⟩
  · rintro l s1 ⟨x4, x5, x6, x7, rfl, ⟨dl, e, hl⟩, hf⟩
    walk_at "w"
    exact h _ ⟨dl, e, by omega⟩ (hf.fresh (Nat.le_refl _))

/-! ### the draws -/
structure Box (s : Sto) (b d : Nat) : Prop where
  ne : b ≠ d
  ex : ∃ (dl : List Int) (k : Int), s[b]? = some (.lst [.ref d, .int k]) ∧ s[d]? = some (.lst (dl.map D.int)) ∧ 0 ≤ k
theorem Box.fr {X : List Nat} {s s' : Sto} {b d : Nat} (h : Box s b d) (f : Fr X s s') (hb : b ∉ X) (hd : d ∉ X) : Box s' b d := by
  obtain ⟨dl, k, h1, h2, h3⟩ := h.ex
  exact ⟨h.ne, dl, k, f _ _ hb h1, f _ _ hd h2, h3⟩
theorem Box.lt {s : Sto} {b d : Nat} (h : Box s b d) : b < s.length ∧ d < s.length := by
  obtain ⟨dl, k, h1, h2, h3⟩ := h.ex
  exact ⟨lt_of_at h1, lt_of_at h2⟩
theorem draw_ok {s : Sto} {b d : Nat} {many : Int} {Q : D → Sto → Prop} (hb : Box s b d) (hm : 0 < many) (h : ∀ i s', 0 ≤ i → i < many → Box s' b d → Fr [b] s s' → Q (.int i) s') : (m__law_draw [.ref b, .int many] s).ret Q := by
  obtain ⟨dl, k, h1, h2, h3⟩ := hb.ex
  have hne := hb.ne
  refine run_wp rfl ?_
  unfold b__law_draw
  walk_at "w"
  rw [o_ixL h1 (show atI _ (1 : Int) = some (.int k) from rfl)]
  walk_at "w"
  rw [o_putL h1 (show ixN 2 1 = some 1 from rfl), some_at]
  have g1 : (s.set b (.lst [.ref d, .int (k + 1)]))[b]? = some (.lst [.ref d, .int (k + 1)]) := set_at h1
  have g2 : (s.set b (.lst [.ref d, .int (k + 1)]))[d]? = some (.lst (dl.map D.int)) := by rw [set_ne hne]; exact h2
  have bx : Box (s.set b (.lst [.ref d, .int (k + 1)])) b d := ⟨hne, dl, k + 1, g1, g2, by omega⟩
  have fr : Fr [b] s (s.set b (.lst [.ref d, .int (k + 1)])) := Fr.set (by simp)
  simp only [List.set_cons_zero, List.set_cons_succ]
  rw [o_ixL g1 (show atI _ (0 : Int) = some (.ref d) from rfl), o_lenL g2]
  walk_at "w"
  split
  · rename_i hl
    rw [List.length_map] at hl
    walk_at "w"
    rw [o_ixL g1 (show atI _ (0 : Int) = some (.ref d) from rfl)]
    obtain ⟨v, hv⟩ : ∃ v, dl[k.toNat]? = some v := ⟨_, List.getElem?_eq_getElem (by omega)⟩
    rw [o_ixL (d := .int v) g2 (by rw [atI_ix h3, List.getElem?_map, hv]; rfl)]
    walk_at "w"
    exact h _ _ (Int.emod_nonneg _ (by omega)) (Int.emod_lt_of_pos _ hm) bx fr
  · walk_at "w"
    exact h _ _ (Int.emod_nonneg _ (by omega)) (Int.emod_lt_of_pos _ hm) bx fr
end LW

namespace LW
open PySem PL L2
local macro_rules | `(tactic| walk_at "w") => `(tactic| try simp (disch := first | assumption | omega) only [↓reduceIte, Bool.false_eq_true, ↓w_c, ↓w_var, ↓var_at, ↓w_nil, ↓w_cons, ↓w_bin, ↓w_call, ↓w_tup, ↓w_lst, ↓w_ife, ↓w_and, ↓and_at, ↓w_or, ↓or_at, ↓w_not, ↓not_at, ↓w_neg, ↓neg_at, ↓w_sl, ↓w_nopart, ↓w_part, ↓part_at, ↓w_chain, ↓w_meth, ↓w_of, ↓w_tand, ↓w_tor, ↓w_tnot, ↓w_true, ↓w_truth_b, ↓wp_seq, ↓w_skip, ↓w_brk, ↓w_cnt, ↓w_set, ↓w_expr, ↓w_ret, ↓w_retN, ↓w_if, ↓w_aug, ↓aug_at, ↓w_put, ↓some_at, ↓w_unp, ↓w_par, ↓par_at, ↓w_for, ↓w_rng1, ↓w_rng2, ↓rng1_at, ↓rng2_at, ↓w_seq, ↓seq_tup, ↓w_step_nm,
  ↓o_add, ↓o_iadd, ↓o_sub, ↓o_mul, ↓o_fdiv, ↓o_mod, ↓o_cmp, ↓o_isN, ↓o_notN, ↓o_eqI, ↓o_eqS, ↓o_lenT, ↓o_lenR, ↓o_int, ↓o_intB, ↓List.getElem?_cons_zero, ↓List.getElem?_cons_succ, ↓List.set_cons_zero, ↓List.set_cons_succ, decide_eq_true_eq, Bool.not_eq_true', decide_eq_false_iff_not, true_and, and_true, and_self,
  ↓List.map_cons, ↓List.map_nil, List.replicate, ↓List.cons_append, ↓List.nil_append, List.length_cons, List.length_nil, Nat.reduceAdd, Nat.reduceLeDiff, Int.reducePow, Int.reduceNeg, Int.reduceLE, Int.reduceLT])

/-! ### pictures -/
abbrev Im := List (List Char)
def imD (a : Im) : D := .tup (a.map D.str)
structure Img (a : Im) (w h : Nat) : Prop where
  len : a.length = h
  row : ∀ (y : Nat) (r : List Char), a[y]? = some r → r.length = w
theorem Img.get {a : Im} {w h y : Nat} (A : Img a w h) (hy : y < h) : ∃ r, a[y]? = some r ∧ r.length = w := by
  have e := List.getElem?_eq_getElem (l := a) (i := y) (by rw [A.len]; exact hy)
  exact ⟨_, e, A.row y _ e⟩
theorem Img.at {a : Im} {w h y : Nat} {r : List Char} (A : Img a w h) (e : a[y]? = some r) {i : Int} (hi : i = y) : atI (a.map D.str) i = some (.str r) := by
  subst hi
  rw [atI_ix (by omega), List.getElem?_map]
  simp [e]
theorem chr_at {r : List Char} {x : Nat} {c : Char} (e : r[x]? = some c) {i : Int} (hi : i = x) : atI r i = some c := by
  subst hi
  rw [atI_ix (by omega)]
  simpa using e
/-- how many signs differ: in a row's first n, in the first n rows -/
def cntR (a b : List Char) : Nat → Int
  | 0 => 0
  | n + 1 => cntR a b n + if a[n]? = b[n]? then 0 else 1
def cntI (a b : Im) (w : Nat) : Nat → Int
  | 0 => 0
  | n + 1 => cntI a b w n + cntR (a.getD n []) (b.getD n []) w
theorem cntR_self (a : List Char) : ∀ n, cntR a a n = 0
  | 0 => rfl
  | n + 1 => by simp [cntR, cntR_self a n]
theorem cntI_self (a : Im) (w : Nat) : ∀ n, cntI a a w n = 0
  | 0 => rfl
  | n + 1 => by simp [cntI, cntI_self a w n, cntR_self]
theorem cntR_comm (a b : List Char) : ∀ n, cntR a b n = cntR b a n
  | 0 => rfl
  | n + 1 => by
    simp only [cntR, cntR_comm a b n]
    by_cases h : a[n]? = b[n]?
    · rw [if_pos h, if_pos h.symm]
    · rw [if_neg h, if_neg fun z => h z.symm]
theorem cntI_comm (a b : Im) (w : Nat) : ∀ n, cntI a b w n = cntI b a w n
  | 0 => rfl
  | n + 1 => by simp only [cntI, cntI_comm a b w n, cntR_comm]
theorem cntR_tri (a b c : List Char) : ∀ n, cntR a b n ≤ cntR a c n + cntR c b n
  | 0 => by simp [cntR]
  | n + 1 => by
    have h := cntR_tri a b c n
    simp only [cntR]
    by_cases h1 : a[n]? = c[n]?
    · by_cases h2 : c[n]? = b[n]?
      · rw [if_pos h1, if_pos h2, if_pos (h1.trans h2)]
        omega
      · rw [if_pos h1, if_neg h2]
        split <;> omega
    · rw [if_neg h1]
      split <;> split <;> omega
theorem cntI_tri (a b c : Im) (w : Nat) : ∀ n, cntI a b w n ≤ cntI a c w n + cntI c b w n
  | 0 => by simp [cntI]
  | n + 1 => by
    have h := cntI_tri a b c w n
    have h2 := cntR_tri (a.getD n []) (b.getD n []) (c.getD n []) w
    simp only [cntI]
    omega
theorem cntR_bound (a b : List Char) : ∀ n, 0 ≤ cntR a b n ∧ cntR a b n ≤ n
  | 0 => by simp [cntR]
  | n + 1 => by
    have h := cntR_bound a b n
    simp only [cntR]
    split <;> omega
theorem cntI_bound (a b : Im) (w : Nat) : ∀ n, 0 ≤ cntI a b w n ∧ cntI a b w n ≤ n * w
  | 0 => by simp [cntI]
  | n + 1 => by
    have h := cntI_bound a b w n
    have h2 := cntR_bound (a.getD n []) (b.getD n []) w
    simp only [cntI]
    have e : ((n + 1 : Nat) : Int) * (w : Int) = n * w + w := by
      rw [Int.natCast_add, Int.add_mul]
      simp
    rw [e]
    omega
def dist (a b : Im) (w w' h : Nat) : D := if w = w' then .int (cntI a b w h) else .none

theorem differing_ok {a b : Im} {w h : Nat} {s : Sto} {Q : D → Sto → Prop} (A : Img a w h) (B : Img b w h) (hw : w ≤ 1000) (hh : h ≤ 1000) (q : Q (.int (cntI a b w h)) s) : (m_differing [imD a, imD b] s).ret Q := by
  have la := A.len
  refine run_wp rfl ?_
  unfold b_differing imD
  walk_at "w"
  rw [List.length_map, la]
  refine ⟨by omega, ?_⟩
  refine for_rng (fun y l t => ∃ x3 x4, l = [some (.tup (a.map D.str)), some (.tup (b.map D.str)), some (.int (cntI a b w y)), x3, x4] ∧ s = t) ⟨_, _, rfl, rfl⟩ ?_ ?_
  · rintro y l t hy ⟨x3, x4, rfl, rfl⟩
    obtain ⟨r, er, lr⟩ := A.get (y := y) (by omega)
    obtain ⟨r2, er2, lr2⟩ := B.get (y := y) (by omega)
    unfold l_differing_L2
    walk_at "w"
    rw [o_ixT (A.at er (by omega)), o_lenS (by omega), rng1_at]
    refine ⟨by omega, ?_⟩
    refine for_rng (fun x l t => ∃ x4, l = [some (.tup (a.map D.str)), some (.tup (b.map D.str)), some (.int (cntI a b w y + cntR r r2 x)), some (.int (0 + y)), x4] ∧ s = t) ⟨x4, by simp [cntR], rfl⟩ ?_ ?_
    · rintro x l t hx ⟨x4, rfl, rfl⟩
      obtain ⟨c, ec⟩ : ∃ c, r[x]? = some c := ⟨_, List.getElem?_eq_getElem (by omega)⟩
      obtain ⟨c2, ec2⟩ : ∃ c, r2[x]? = some c := ⟨_, List.getElem?_eq_getElem (by omega)⟩
      unfold l_differing_L1
      walk_at "w"
      rw [o_ixT (A.at er (by omega)), o_ixS (by omega) (chr_at ec (by omega))]
      walk_at "w"
      rw [o_ixT (B.at er2 (by omega)), o_ixS (by omega) (chr_at ec2 (by omega))]
      walk_at "w"
      have e : cntR r r2 (x + 1) = cntR r r2 x + if c = c2 then 0 else 1 := by simp [cntR, ec, ec2]
      rw [e]
      by_cases hc : c = c2
      · subst hc
        simp
      · simp [hc, Int.add_assoc]
    · rintro l t ⟨x4, rfl, rfl⟩
      refine ⟨some (.int (0 + y)), x4, ?_, rfl⟩
      have e : cntI a b w (y + 1) = cntI a b w y + cntR r r2 w := by simp [cntI, List.getD, er, er2]
      rw [e, show (w : Nat) = r.length from lr.symm]
      simp
  · rintro l t ⟨x3, x4, rfl, rfl⟩
    walk_at "w"
    simp only [Int.toNat_natCast]
    exact q
theorem count_ok {a b : Im} {w w' h : Nat} {s : Sto} {Q : D → Sto → Prop} (A : Img a w h) (B : Img b w' h) (h1 : 1 ≤ h) (hw : w ≤ 1000) (hw' : w' ≤ 1000) (hh : h ≤ 1000) (q : Q (dist a b w w' h) s) : (m__law_count [imD a, imD b] s).ret Q := by
  have la := A.len
  have lb := B.len
  obtain ⟨r, er, lr⟩ := A.get (y := 0) (by omega)
  obtain ⟨r2, er2, lr2⟩ := B.get (y := 0) (by omega)
  refine run_wp rfl ?_
  unfold b__law_count imD
  refine wp_cut (fun l t => w = w' ∧ l = [some (.tup (a.map D.str)), some (.tup (b.map D.str)), none, none, none] ∧ s = t) ?_ ?_
  · walk_at "w"
    rw [o_ixT (A.at er (by omega)), o_lenS (by omega), o_ixT (B.at er2 (by omega)), o_lenS (by omega)]
    walk_at "w"
    rw [List.length_map, List.length_map, la, lb, lr, lr2, if_neg (by omega)]
    split
    · rename_i hne
      unfold dist at q
      rw [if_neg (by omega)] at q
      exact q
    · exact by omega
  rintro _ _ ⟨rfl, rfl, rfl⟩
  walk_at "w"
  rw [List.length_map, la]
  refine ⟨by omega, ?_⟩
  refine for_rng (fun y l t => ∃ x3 x4, l = [some (.tup (a.map D.str)), some (.tup (b.map D.str)), some (.int (cntI a b w y)), x3, x4] ∧ s = t) ⟨_, _, rfl, rfl⟩ ?_ ?_
  · rintro y l t hy ⟨x3, x4, rfl, rfl⟩
    obtain ⟨u, eu, lu⟩ := A.get (y := y) (by omega)
    obtain ⟨v, ev, lv⟩ := B.get (y := y) (by omega)
    unfold l__law_count_L2
    walk_at "w"
    rw [o_ixT (A.at er (by omega)), o_lenS (by omega), rng1_at]
    refine ⟨by omega, ?_⟩
    refine for_rng (fun x l t => ∃ x4, l = [some (.tup (a.map D.str)), some (.tup (b.map D.str)), some (.int (cntI a b w y + cntR u v x)), some (.int (0 + y)), x4] ∧ s = t) ⟨x4, by simp [cntR], rfl⟩ ?_ ?_
    · rintro x l t hx ⟨x4, rfl, rfl⟩
      obtain ⟨c, ec⟩ : ∃ c, u[x]? = some c := ⟨_, List.getElem?_eq_getElem (by omega)⟩
      obtain ⟨c2, ec2⟩ : ∃ c, v[x]? = some c := ⟨_, List.getElem?_eq_getElem (by omega)⟩
      unfold l__law_count_L1
      walk_at "w"
      rw [o_ixT (A.at eu (by omega)), o_ixS (by omega) (chr_at ec (by omega))]
      walk_at "w"
      rw [o_ixT (B.at ev (by omega)), o_ixS (by omega) (chr_at ec2 (by omega))]
      walk_at "w"
      have e : cntR u v (x + 1) = cntR u v x + if c = c2 then 0 else 1 := by simp [cntR, ec, ec2]
      rw [e]
      by_cases hc : c = c2
      · subst hc
        simp
      · simp [hc, Int.add_assoc]
    · rintro l t ⟨x4, rfl, rfl⟩
      refine ⟨some (.int (0 + y)), x4, ?_, rfl⟩
      have e : cntI a b w (y + 1) = cntI a b w y + cntR u v w := by simp [cntI, List.getD, eu, ev]
      rw [e, show (w : Nat) = r.length from lr.symm]
      simp
  · rintro l t ⟨x3, x4, rfl, rfl⟩
    walk_at "w"
    simp only [Int.toNat_natCast]
    unfold dist at q
    rw [if_pos rfl] at q
    exact q
/-- a part that is a shape with the picture a -/
def shapeD (x y z u : D) (a : Im) : D := .tup [x, y, z, u, imD a]
theorem distance_ok {pd : List D} {x y z u x' y' z' u' : D} {a b : Im} {w w' h : Nat} {i j : Int} {s : Sto} {Q : D → Sto → Prop} (ei : atI pd i = some (shapeD x y z u a)) (ej : atI pd j = some (shapeD x' y' z' u' b))
    (A : Img a w h) (B : Img b w' h) (h1 : 1 ≤ h) (hw : w ≤ 1000) (hw' : w' ≤ 1000) (hh : h ≤ 1000) (q : Q (dist a b w w' h) s) : (m_distance [.tup pd, .int i, .int j] s).ret Q := by
  have la := A.len
  have lb := B.len
  obtain ⟨r, er, lr⟩ := A.get (y := 0) (by omega)
  obtain ⟨r2, er2, lr2⟩ := B.get (y := 0) (by omega)
  refine run_wp rfl ?_
  unfold b_distance
  refine wp_cut (fun l t => l = [some (.tup pd), some (.int i), some (.int j), some (imD a), none] ∧ s = t) ?_ ?_
  · walk_at "w"
    rw [o_ixT ei]
    unfold shapeD
    rw [o_ixT (show atI [x, y, z, u, imD a] (4 : Int) = some (imD a) from rfl)]
    exact ⟨rfl, rfl⟩
  rintro _ _ ⟨rfl, rfl⟩
  refine wp_cut (fun l t => l = [some (.tup pd), some (.int i), some (.int j), some (imD a), some (imD b)] ∧ s = t) ?_ ?_
  · walk_at "w"
    rw [o_ixT ej]
    unfold shapeD
    rw [o_ixT (show atI [x', y', z', u', imD b] (4 : Int) = some (imD b) from rfl)]
    exact ⟨rfl, rfl⟩
  rintro _ _ ⟨rfl, rfl⟩
  refine wp_cut (fun l t => w = w' ∧ l = [some (.tup pd), some (.int i), some (.int j), some (imD a), some (imD b)] ∧ s = t) ?_ ?_
  · unfold imD
    walk_at "w"
    rw [o_ixT (A.at er (by omega)), o_lenS (by omega), o_ixT (B.at er2 (by omega)), o_lenS (by omega)]
    walk_at "w"
    rw [List.length_map, List.length_map, la, lb, lr, lr2, if_neg (by omega)]
    split
    · rename_i hne
      unfold dist at q
      rw [if_neg (by omega)] at q
      exact q
    · exact by omega
  rintro _ _ ⟨rfl, rfl, rfl⟩
  walk_at "w"
  refine differing_ok A B (by omega) (by omega) ?_
  unfold dist at q
  rw [if_pos rfl] at q
  exact q
theorem dist_lay {a b : Im} {w w' h : Nat} (hw : w ≤ 1000) (hh : h ≤ 1000) (s : Sto) : ∃ p, lay 12 s (dist a b w w' h) = some p ∧ okR p = true := by
  unfold dist
  split
  · refine ⟨_, rfl, okR_int ?_⟩
    have h1 := cntI_bound a b w h
    have h2 : h * w ≤ 1000 * 1000 := Nat.mul_le_mul hh hw
    have e : ((h * w : Nat) : Int) = h * w := Int.natCast_mul h w
    omega
  · exact ⟨_, rfl, okR_none⟩
theorem same_ok {d : D} {p : PyData} {s : Sto} {Q : D → Sto → Prop} (e : lay 12 s d = some p) (o : okR p = true) (q : Q (.bool true) s) : (m__law_same [d, d] s).ret Q := by
  refine run_wp rfl ?_
  unfold b__law_same
  walk_at "w"
  rw [w_rep]
  walk_at "w"
  rw [e, some_at]
  refine ⟨o, ?_⟩
  walk_at "w"
  try rw [e, some_at]
  refine ⟨o, ?_⟩
  simpa using q
theorem sign_at {v : Int} (h0 : 0 ≤ v) (h : v < 2) : ∃ c, atI ['.', '#'] v = some c := by
  rw [atI_ix h0]
  obtain ⟨n, rfl⟩ : ∃ n : Nat, v = n := ⟨v.toNat, by omega⟩
  simp only [Int.toNat_natCast]
  have : n = 0 ∨ n = 1 := by omega
  rcases this with rfl | rfl <;> exact ⟨_, rfl⟩
/-- what a call left of the store: the box, and all else but the box's own cell -/
structure Left (b d : Nat) (s t : Sto) : Prop where
  box : Box t b d
  fr : Fr [b] s t
theorem shape_ok {b d w h : Nat} {k : Int} {s : Sto} {Q : D → Sto → Prop} (bx : Box s b d) (hk : 0 ≤ k) (hk2 : k ≤ 1000) (hw : w ≤ 1000) (hh : h ≤ 1000)
    (q : ∀ (t : Sto) (x : List Char) (a : Im), Img a w h → Left b d s t → Q (shapeD (.str ['s', 'h', 'a', 'p', 'e']) (.str x) (.str []) (.int 0) a) t) : (m__law_shape [.ref b, .int k, .int w, .int h] s).ret Q := by
  have lt := bx.lt
  refine run_wp rfl ?_
  unfold b__law_shape
  walk_at "w"
  rw [w_lc]
  walk_at "w"
  refine ⟨by omega, ?_⟩
  refine lc_wp (fun i acc t => ∃ a : Im, acc = a.map D.str ∧ Img a w i ∧ Box t b d ∧ Fr [b, s.length] s t ∧ t[s.length]? = some (.lst acc))
    ⟨[], rfl, ⟨rfl, by simp⟩, bx.fr Fr.app (by simp : b ∉ []) (by simp), Fr.app, app_at⟩ ?_ ?_ ?_ ?_
  · rintro i acc t ⟨a, rfl, A, bt, ft, et⟩
    exact ⟨okChk_nil, et, by rw [List.length_map, A.len]; exact Nat.le_refl _⟩
  · rw [rngL_len]
    show _ ≤ 16777216
    omega
  · rintro i acc t dd hd ⟨a, rfl, A, bt, ft, et⟩
    have lt2 := lt_of_at et
    rw [w_lcStep_1]
    unfold e__law_shape_C2
    walk_at "w"
    refine ⟨rfl, ?_⟩
    rw [w_lc]
    walk_at "w"
    refine ⟨by omega, ?_⟩
    refine lc_wp (fun j acc2 t2 => ∃ cs : List Char, acc2 = cs.map (fun c => D.str [c]) ∧ cs.length = j ∧ Box t2 b d ∧ Fr [b, t.length] t t2 ∧ t2[t.length]? = some (.lst acc2))
      ⟨[], rfl, rfl, bt.fr Fr.app (by simp : b ∉ []) (by simp), Fr.app, app_at⟩ ?_ ?_ ?_ ?_
    · rintro j acc2 t2 ⟨cs, rfl, hl, bt2, ft2, et2⟩
      exact ⟨okChk_nil, et2, by rw [List.length_map, hl]; exact Nat.le_refl _⟩
    · rw [rngL_len]
      show _ ≤ 16777216
      omega
    · rintro j acc2 t2 dd2 hd2 ⟨cs, rfl, hl, bt2, ft2, et2⟩
      have lt3 := bt2.lt
      have lt4 := bt.lt
      rw [w_lcStep_1]
      unfold e__law_shape_C1
      simp only [wipeL]
      walk_at "w"
      refine draw_ok bt2 (by omega) fun v t3 hv hv2 bt3 ft3 => ?_
      walk_at "w"
      obtain ⟨c, ec⟩ := sign_at (v := v / 2 % 2) (by omega) (by omega)
      rw [o_ixS (by simp) ec]
      have et3 : t3[t.length]? = some (.lst (cs.map fun c => D.str [c])) := ft3 _ _ (by simp; omega) et2
      refine ⟨et3, cs ++ [c], by simp, by simp [hl], bt3.fr (X := [t.length]) (Fr.set (by simp)) (by simp; omega) (by simp; omega), ?_, set_at et3⟩
      exact (ft2.trans (ft3.more (by simp))).trans (Fr.set (by simp))
    · rintro acc2 t2 ⟨cs, rfl, hl, bt2, ft2, et2⟩
      rw [rngL_len] at hl
      rw [o_joinL et2 (by omega)]
      have lt4 := bt.lt
      have et3 : t2[s.length]? = some (.lst (a.map D.str)) := ft2 _ _ (by simp; omega) et
      refine ⟨et3, a ++ [cs], by simp, ⟨by simp [A.len], fun y r e => ?_⟩, bt2.fr (X := [s.length]) (Fr.set (by simp)) (by simp; omega) (by simp; omega), ?_, set_at et3⟩
      · by_cases hy : y < a.length
        · rw [List.getElem?_append_left hy] at e
          exact A.row y r e
        · rw [List.getElem?_append_right (by omega)] at e
          have := (List.getElem?_eq_some_iff.mp e).1
          simp at this
          have hy0 : y - a.length = 0 := by omega
          rw [hy0] at e
          simp at e
          rw [← e]
          omega
      · exact (ft.trans ((ft2.fresh_in (by omega)).more (by simp))).trans (Fr.set (by simp))
  · rintro acc t ⟨a, rfl, A, bt, ft, et⟩
    rw [rngL_len] at A
    rw [o_tupL et]
    walk_at "w"
    rw [o_str (log_small (by omega))]
    walk_at "w"
    have := decT_len (i := k) (by omega)
    rw [o_addS (by simp; omega)]
    refine q t _ a (by simpa using A) ⟨bt, fun i c hi e => ?_⟩
    refine ft i c ?_ e
    have := lt_of_at e
    simp at hi ⊢
    omega
end LW

namespace LW
open PySem PL L2
local macro_rules | `(tactic| walk_at "w") => `(tactic| try simp (disch := first | assumption | omega) only [↓reduceIte, Bool.false_eq_true, ↓w_c, ↓w_var, ↓var_at, ↓w_nil, ↓w_cons, ↓w_bin, ↓w_call, ↓w_tup, ↓w_lst, ↓w_ife, ↓w_and, ↓and_at, ↓w_or, ↓or_at, ↓w_not, ↓not_at, ↓w_neg, ↓neg_at, ↓w_sl, ↓w_nopart, ↓w_part, ↓part_at, ↓w_chain, ↓w_meth, ↓w_of, ↓w_tand, ↓w_tor, ↓w_tnot, ↓w_true, ↓w_truth_b, ↓wp_seq, ↓w_skip, ↓w_brk, ↓w_cnt, ↓w_set, ↓w_expr, ↓w_ret, ↓w_retN, ↓w_if, ↓w_aug, ↓aug_at, ↓w_put, ↓some_at, ↓w_unp, ↓w_par, ↓par_at, ↓w_for, ↓w_rng1, ↓w_rng2, ↓rng1_at, ↓rng2_at, ↓w_seq, ↓seq_tup, ↓w_step_nm,
  ↓o_add, ↓o_iadd, ↓o_sub, ↓o_mul, ↓o_fdiv, ↓o_mod, ↓o_cmp, ↓o_isN, ↓o_notN, ↓o_eqI, ↓o_eqS, ↓o_lenT, ↓o_lenR, ↓o_int, ↓o_intB, ↓List.getElem?_cons_zero, ↓List.getElem?_cons_succ, ↓List.set_cons_zero, ↓List.set_cons_succ, decide_eq_true_eq, Bool.not_eq_true', decide_eq_false_iff_not, true_and, and_true, and_self,
  ↓List.map_cons, ↓List.map_nil, List.replicate, ↓List.cons_append, ↓List.nil_append, List.length_cons, List.length_nil, Nat.reduceAdd, Nat.reduceLeDiff, Int.reducePow, Int.reduceNeg, Int.reduceLE, Int.reduceLT])

/-! ### the law -/
structure Sta (t : Sto) (b d z p q w h : Nat) (pd : List D) (si : List Nat) : Prop where
  box : Box t b d
  ez : t[z]? = some (.lst [.int w, .int h])
  ep : t[p]? = some (.lst pd)
  eq : t[q]? = some (.lst (si.map fun i : Nat => D.int i))
  ne : b ≠ z ∧ b ≠ p ∧ b ≠ q ∧ d ≠ z ∧ d ≠ p ∧ d ≠ q ∧ z ≠ p ∧ z ≠ q ∧ p ≠ q
  sz : 1 ≤ w ∧ w ≤ 16 ∧ 1 ≤ h ∧ h ≤ 16
  good : ∀ i ∈ si, ∃ x y u v a w', pd[i]? = some (shapeD x y u v a) ∧ Img a w' h ∧ w' ≤ 16
theorem Sta.fr {s t : Sto} {b d z p q w h : Nat} {pd : List D} {si : List Nat} (A : Sta s b d z p q w h pd si) (L : Left b d s t) : Sta t b d z p q w h pd si := by
  have n := A.ne
  exact ⟨L.box, L.fr _ _ (by simp; omega) A.ez, L.fr _ _ (by simp; omega) A.ep, L.fr _ _ (by simp; omega) A.eq, n, A.sz, A.good⟩
theorem Sta.part {s : Sto} {b d z p q w h : Nat} {pd : List D} {si : List Nat} (A : Sta s b d z p q w h pd si) (e : D) : Sta (s.set p (.lst (pd ++ [e]))) b d z p q w h (pd ++ [e]) si := by
  obtain ⟨n1, n2, n3, n4, n5, n6, n7, n8, n9⟩ := A.ne
  refine ⟨A.box.fr (X := [p]) (Fr.set (by simp)) (by simp; omega) (by simp; omega), by rw [set_ne (Ne.symm n7)]; exact A.ez, set_at A.ep, by rw [set_ne n9]; exact A.eq, A.ne, A.sz, fun i hi => ?_⟩
  obtain ⟨x, y, u, v, a, w', e1, h1⟩ := A.good i hi
  refine ⟨x, y, u, v, a, w', ?_, h1⟩
  rw [List.getElem?_append_left (List.getElem?_eq_some_iff.mp e1).1]
  exact e1
theorem law_true (ns : List Int) (hl : ns.length ≤ 63) : ∃ z, m_law [.rol ns] [] = .ok (.bool true) z := by
  suffices h : (m_law [.rol ns] []).ret fun d _ => d = .bool true by
    obtain ⟨d, s, e, rfl⟩ := ret_ex h
    exact ⟨s, e⟩
  refine run_wp rfl ?_
  unfold b_law
  refine wp_cut (fun l t => ∃ b d, l = [some (.rol ns), some (.ref b), none, none, none, none, none, none, none, none, none, none, none] ∧ Box t b d) ?_ ?_
  · walk_at "w"
    refine digits_ok (by omega) (by omega) (by omega) fun s' ⟨dl, e, _⟩ _ => ?_
    have := lt_of_at e
    refine ⟨_, 0, rfl, by simp only [List.length_nil] at this; omega, dl, 0, app_at, app_old e, by omega⟩
  rintro _ s0 ⟨b, d, rfl, bx⟩
  refine wp_cut (fun l t => ∃ z w h : Nat, l = [some (.rol ns), some (.ref b), some (.ref z), none, none, none, none, none, none, none, none, none, none] ∧ Box t b d ∧ t[z]? = some (.lst [.int w, .int h]) ∧ b ≠ z ∧ d ≠ z ∧ 1 ≤ w ∧ w ≤ 16 ∧ 1 ≤ h ∧ h ≤ 16) ?_ ?_
  · walk_at "w"
    refine draw_ok bx (by omega) fun v s1 hv hv2 bx1 f1 => ?_
    walk_at "w"
    refine draw_ok bx1 (by omega) fun u s2 hu hu2 bx2 f2 => ?_
    walk_at "w"
    have lt := bx2.lt
    refine ⟨_, (1 + v).toNat, (1 + u).toNat, rfl, bx2.fr Fr.app (by simp : b ∉ []) (by simp), ?_, by omega, by omega, by omega⟩
    rw [app_at, show (((1 + v).toNat : Nat) : Int) = 1 + v by omega, show (((1 + u).toNat : Nat) : Int) = 1 + u by omega]
  rintro _ s1 ⟨z, w, h, rfl, bx, ez, n1, n2, hw⟩
  have ltz := lt_of_at ez
  have ltb := bx.lt
  refine wp_cut (fun l t => ∃ p q : Nat, l = [some (.rol ns), some (.ref b), some (.ref z), some (.ref p), none, none, none, none, none, none, none, none, none] ∧ Fr [] s1 t ∧ t[p]? = some (.lst []) ∧ s1.length ≤ p) ?_ ?_
  · walk_at "w"
    exact ⟨_, 0, rfl, Fr.app, app_at, Nat.le_refl _⟩
  rintro _ s2 ⟨p, _, rfl, f2, ep, hp⟩
  have ltp := lt_of_at ep
  refine wp_cut (fun l t => ∃ q, l = [some (.rol ns), some (.ref b), some (.ref z), some (.ref p), some (.ref q), none, none, none, none, none, none, none, none] ∧ Sta t b d z p q w h [] []) ?_ ?_
  · walk_at "w"
    refine ⟨_, rfl, ?_⟩
    exact ⟨bx.fr (f2.trans Fr.app) (by simp) (by simp), app_old (f2 _ _ (by simp) ez), app_old ep, app_at, by omega, hw, by simp⟩
  rintro _ s3 ⟨q, rfl, S3⟩
  refine wp_cut (fun l t => ∃ x5 x6 pd si, l = [some (.rol ns), some (.ref b), some (.ref z), some (.ref p), some (.ref q), x5, x6, none, none, none, none, none, none] ∧ Sta t b d z p q w h pd si ∧ 1 ≤ si.length ∧ si.length ≤ 6) ?_ ?_
  · walk_at "w"
    refine draw_ok S3.box (by omega) fun m s4 hm hm2 bx4 f4 => ?_
    walk_at "w"
    refine ⟨by omega, ?_⟩
    refine for_rng (fun i l t => ∃ x5 x6 pd si, l = [some (.rol ns), some (.ref b), some (.ref z), some (.ref p), some (.ref q), x5, x6, none, none, none, none, none, none] ∧ Sta t b d z p q w h pd si ∧ pd.length ≤ 2 * i ∧ si.length = i) ⟨none, none, [], [], rfl, S3.fr ⟨bx4, f4⟩, by simp, rfl⟩ ?_ ?_
    · rintro i l t hi ⟨x5, x6, pd, si, rfl, S, hpd, hsi⟩
      unfold l_law_L1
      refine wp_cut (fun l t => ∃ pd', l = [some (.rol ns), some (.ref b), some (.ref z), some (.ref p), some (.ref q), some (.int (0 + i)), x6, none, none, none, none, none, none] ∧ Sta t b d z p q w h pd' si ∧ pd'.length ≤ 2 * i + 1) ?_ ?_
      · walk_at "w"
        refine draw_ok S.box (by omega) fun v s5 hv hv2 bx5 f5 => ?_
        walk_at "w"
        have S5 := S.fr ⟨bx5, f5⟩
        split
        · walk_at "w"
          refine ⟨o_isLst S5.ep, ?_⟩
          rw [o_str (log_small (by omega))]
          walk_at "w"
          have := decT_len (i := (0 + i : Int)) (by omega)
          rw [o_addS (by simp only [List.length_cons, List.length_nil]; omega)]
          walk_at "w"
          rw [o_append S5.ep (by omega)]
          exact ⟨_, S5.part _, by simp; omega⟩
        · exact ⟨pd, S5, by omega⟩
      rintro _ s5 ⟨pd', rfl, S5, hpd'⟩
      refine wp_cut (fun l t => ∃ w' : Nat, l = [some (.rol ns), some (.ref b), some (.ref z), some (.ref p), some (.ref q), some (.int (0 + i)), some (.int w'), none, none, none, none, none, none] ∧ Sta t b d z p q w h pd' si ∧ w' ≤ 16) ?_ ?_
      · walk_at "w"
        refine draw_ok S5.box (by omega) fun v s6 hv hv2 bx6 f6 => ?_
        have S6 := S5.fr ⟨bx6, f6⟩
        have sz := S6.sz
        obtain ⟨w', e, hw'⟩ : ∃ w' : Nat, atI [D.int w, D.int h] v = some (.int w') ∧ w' ≤ 16 := by
          have : v = 0 ∨ v = 1 := by omega
          rcases this with rfl | rfl
          · exact ⟨w, rfl, by omega⟩
          · exact ⟨h, rfl, by omega⟩
        rw [o_ixL S6.ez e]
        exact ⟨w', rfl, S6, hw'⟩
      rintro _ s6 ⟨w', rfl, S6, hw'⟩
      walk_at "w"
      refine ⟨o_isLst S6.eq, ?_⟩
      rw [o_lenL S6.ep, o_append S6.eq (by simp; omega)]
      obtain ⟨m1, m2, m3, m4, m5, m6, m7, m8, m9⟩ := S6.ne
      have e7 : (s6.set q (.lst (si.map (fun i : Nat => D.int i) ++ [.int pd'.length])))[p]? = some (.lst pd') := by rw [set_ne (Ne.symm m9)]; exact S6.ep
      have e8 : (s6.set q (.lst (si.map (fun i : Nat => D.int i) ++ [.int pd'.length])))[z]? = some (.lst [.int w, .int h]) := by rw [set_ne (Ne.symm m8)]; exact S6.ez
      have bx7 : Box (s6.set q (.lst (si.map (fun i : Nat => D.int i) ++ [.int pd'.length]))) b d := S6.box.fr (X := [q]) (Fr.set (by simp)) (by simp; omega) (by simp; omega)
      refine ⟨o_isLst e7, ?_⟩
      rw [o_ixL e8 (show atI _ (1 : Int) = some (.int h) from rfl)]
      have sz := S6.sz
      refine shape_ok bx7 (by omega) (by omega) (by omega) (by omega) fun t8 x a A L8 => ?_
      have e9 : t8[p]? = some (.lst pd') := L8.fr _ _ (by simp; omega) e7
      rw [o_append e9 (by omega)]
      refine ⟨_, _, pd' ++ [shapeD (.str ['s', 'h', 'a', 'p', 'e']) (.str x) (.str []) (.int 0) a], si ++ [pd'.length], rfl, ?_, by simp; omega, by simp; omega⟩
      refine ⟨L8.box.fr (X := [p]) (Fr.set (by simp)) (by simp; omega) (by simp; omega), by rw [set_ne (Ne.symm m7)]; exact L8.fr _ _ (by simp; omega) e8, set_at e9, ?_, S6.ne, S6.sz, fun j hj => ?_⟩
      · rw [set_ne m9, List.map_append]
        exact L8.fr _ _ (by simp; omega) (set_at S6.eq)
      · rcases List.mem_append.mp hj with hj | hj
        · obtain ⟨x, y, u, v, a, w'', e1, h1⟩ := S6.good j hj
          refine ⟨x, y, u, v, a, w'', ?_, h1⟩
          rw [List.getElem?_append_left (List.getElem?_eq_some_iff.mp e1).1]
          exact e1
        · rw [List.mem_singleton.mp hj]
          exact ⟨_, _, _, _, a, w', by rw [List.getElem?_append_right (Nat.le_refl _), Nat.sub_self]; rfl, A, hw'⟩
    · rintro l t ⟨x5, x6, pd, si, rfl, S, hpd, hsi⟩
      exact ⟨x5, x6, pd, si, rfl, S, by omega, by omega⟩
  rintro _ s4 ⟨x5, x6, pd, si, rfl, S, hs1, hs2⟩
  have sz := S.sz
  have good : ∀ (k : Nat) (e : D), (si.map fun i : Nat => D.int i)[k]? = some e → ∃ (i : Nat) (x y u v : D) (a : Im) (w' : Nat), e = .int i ∧ atI pd (i : Int) = some (shapeD x y u v a) ∧ Img a w' h ∧ w' ≤ 16 := by
    intro k e he
    rw [List.getElem?_map, Option.map_eq_some_iff] at he
    obtain ⟨i, hi, rfl⟩ := he
    obtain ⟨x, y, u, v, a, w', e1, h1, h2⟩ := S.good i (List.mem_of_getElem? hi)
    exact ⟨i, x, y, u, v, a, w', rfl, by rw [atI_ix (by omega)]; simpa using e1, h1, h2⟩
  refine wp_cut (fun l t => ∃ x7 x8 x9 x10 x11 x12, l = [some (.rol ns), some (.ref b), some (.ref z), some (.ref p), some (.ref q), x5, x6, x7, x8, x9, x10, x11, x12] ∧ s4 = t) ?_ ?_
  · walk_at "w"
    rw [seq_ref S.eq]
    refine for_wp (fun i l t => ∃ x7 x8 x9 x10 x11 x12, l = [some (.rol ns), some (.ref b), some (.ref z), some (.ref p), some (.ref q), x5, x6, x7, x8, x9, x10, x11, x12] ∧ s4 = t) ⟨_, _, _, _, _, _, rfl, rfl⟩ ?_ ?_
    · rintro i l t e he ⟨x7, x8, x9, x10, x11, x12, rfl, rfl⟩
      refine ⟨okChk_one S.eq, ?_⟩
      obtain ⟨ia, xa, ya, ua, va, a, wa, rfl, ea, A, hwa⟩ := good _ _ he
      unfold l_law_L4
      walk_at "w"
      rw [seq_ref S.eq]
      refine for_wp (fun i l t => ∃ x8 x9 x10 x11 x12, l = [some (.rol ns), some (.ref b), some (.ref z), some (.ref p), some (.ref q), x5, x6, some (.int ia), x8, x9, x10, x11, x12] ∧ s4 = t) ⟨_, _, _, _, _, rfl, rfl⟩ ?_ ?_
      · rintro j l t e he ⟨x8, x9, x10, x11, x12, rfl, rfl⟩
        refine ⟨okChk_one S.eq, ?_⟩
        obtain ⟨ib, xb, yb, ub, vb, b', wb, rfl, eb, B, hwb⟩ := good _ _ he
        unfold l_law_L3
        refine wp_cut (fun l t => l = [some (.rol ns), some (.ref b), some (.ref z), some (.ref p), some (.ref q), x5, x6, some (.int ia), some (.int ib), some (dist a b' wa wb h), x10, x11, x12] ∧ s4 = t) ?_ ?_
        · walk_at "w"
          rw [o_ixL S.ep ea]
          unfold shapeD
          rw [o_ixT (show atI [xa, ya, ua, va, imD a] (4 : Int) = some (imD a) from rfl), o_ixL S.ep eb]
          unfold shapeD
          rw [o_ixT (show atI [xb, yb, ub, vb, imD b'] (4 : Int) = some (imD b') from rfl)]
          exact count_ok A B (by omega) (by omega) (by omega) (by omega) ⟨rfl, rfl⟩
        rintro _ _ ⟨rfl, rfl⟩
        obtain ⟨pl, el, ol⟩ := dist_lay (a := a) (b := b') (w := wa) (w' := wb) (h := h) (by omega) (by omega) s4
        refine wp_cut (fun l t => l = [some (.rol ns), some (.ref b), some (.ref z), some (.ref p), some (.ref q), x5, x6, some (.int ia), some (.int ib), some (dist a b' wa wb h), x10, x11, x12] ∧ s4 = t) ?_ ?_
        · walk_at "w"
          rw [o_tupL S.ep]
          refine distance_ok ea eb A B (by omega) (by omega) (by omega) (by omega) ?_
          refine same_ok el ol ?_
          walk_at "w"
          rw [o_tupL S.ep]
          refine distance_ok eb ea B A (by omega) (by omega) (by omega) (by omega) ?_
          have comm : dist b' a wb wa h = dist a b' wa wb h := by
            unfold dist
            by_cases hw : wa = wb
            · subst hw
              rw [if_pos rfl, if_pos rfl, cntI_comm]
            · rw [if_neg hw, if_neg (Ne.symm hw)]
          rw [comm]
          refine same_ok el ol ?_
          walk_at "w"
          all_goals simp
        rintro _ _ ⟨rfl, rfl⟩
        walk_at "w"
        rw [seq_ref S.eq]
        refine for_wp (fun i l t => ∃ x10 x11 x12, l = [some (.rol ns), some (.ref b), some (.ref z), some (.ref p), some (.ref q), x5, x6, some (.int ia), some (.int ib), some (dist a b' wa wb h), x10, x11, x12] ∧ s4 = t) ⟨_, _, _, rfl, rfl⟩ ?_ ?_
        · rintro k l t e he ⟨x10, x11, x12, rfl, rfl⟩
          refine ⟨okChk_one S.eq, ?_⟩
          obtain ⟨ic, xc, yc, uc, vc, c, wc, rfl, ec, Cc, hwc⟩ := good _ _ he
          unfold l_law_L2
          walk_at "w"
          rw [o_tupL S.ep]
          refine distance_ok ea ec A Cc (by omega) (by omega) (by omega) (by omega) ?_
          walk_at "w"
          rw [o_tupL S.ep]
          refine distance_ok ec eb Cc B (by omega) (by omega) (by omega) (by omega) ?_
          walk_at "w"
          unfold dist
          by_cases h1 : wa = wb
          · by_cases h2 : wa = wc
            · subst h1
              subst h2
              have tri := cntI_tri a b' c wa h
              simp only [if_true]
              walk_at "w"
              simp
              omega
            · subst h1
              simp [h2]
          · simp [h1]
        · rintro l t ⟨x10, x11, x12, rfl, rfl⟩
          exact ⟨okChk_one S.eq, _, _, _, _, _, rfl, rfl⟩
      · rintro l t ⟨x8, x9, x10, x11, x12, rfl, rfl⟩
        exact ⟨okChk_one S.eq, _, _, _, _, _, _, rfl, rfl⟩
    · rintro l t ⟨x7, x8, x9, x10, x11, x12, rfl, rfl⟩
      exact ⟨okChk_one S.eq, _, _, _, _, _, _, rfl, rfl⟩
  rintro _ _ ⟨x7, x8, x9, x10, x11, x12, rfl, rfl⟩
  obtain ⟨i0, hi0⟩ : ∃ i0, si[0]? = some i0 := ⟨_, List.getElem?_eq_getElem (by omega)⟩
  have h0 : (si.map fun i : Nat => D.int i)[0]? = some (.int i0) := by rw [List.getElem?_map, hi0]; rfl
  obtain ⟨ia, xa, ya, ua, va, a, wa, e0, ea, A, hwa⟩ := good 0 _ h0
  cases e0
  walk_at "w"
  rw [o_tupL S.ep, o_ixL S.eq (by rw [atI_ix (by omega)]; exact h0), o_ixL S.eq (by rw [atI_ix (by omega)]; exact h0)]
  refine distance_ok ea ea A A (by omega) (by omega) (by omega) (by omega) ?_
  unfold dist
  rw [if_pos rfl, cntI_self]
  walk_at "w"
  simp
end LW

namespace LW
open PySem PySem.Spec PyProof.Rows L2 PL
theorem all_mk {P : Program} {w : World} {K : PySem.W.Frag} {h : Heap} {mg : Str → Option Value} {fa f0 f1 f2 f3 f4 f5 f6 f7 f8 : Addr} (X : K.In h) (G : h.Ns mainGlobals mg) (hfa : mg "law" = some (.ref fa))
    {od0 od1 od2 od3 od4 od5 od6 od7 od8 an0 an1 an2 an3 an4 an5 an6 an7 an8 : Option Addr} {sl0 sl1 sl2 sl3 sl4 sl5 sl6 sl7 sl8 : Array (Option Value)} {oc0 oc1 oc2 oc3 oc4 oc5 oc6 oc7 oc8 kV0 kV1 kV2 kV3 kV4 kV5 kV6 kV7 kV8 dc0 dc1 dc2 dc3 dc4 dc5 dc6 dc7 dc8 pm0 pm1 pm2 pm3 pm4 pm5 pm6 pm7 pm8 cd0 cd1 cd2 cd3 cd4 cd5 cd6 cd7 cd8 ct0 ct1 ct2 ct3 ct4 ct5 ct6 ct7 ct8 : Value}
    (a0 : PySem.W.nsIn K mainGlobals "differing" = some (some (.ref f0))) (l0 : K.lookup f0 = some ⟨oc0, od0, .func (PySem.W.fnOf "differing" "differing" (defArgs s_differing) (defBody s_differing) (defScope s_differing) .none kV0 dc0 pm0 an0 cd0 ct0), sl0⟩) (c0 : PySem.W.codeIn K cd0 "differing" = true) (k0 : PySem.W.keepIn K (.ref f0) = true)
    (a1 : PySem.W.nsIn K mainGlobals "distance" = some (some (.ref f1))) (l1 : K.lookup f1 = some ⟨oc1, od1, .func (PySem.W.fnOf "distance" "distance" (defArgs s_distance) (defBody s_distance) (defScope s_distance) .none kV1 dc1 pm1 an1 cd1 ct1), sl1⟩) (c1 : PySem.W.codeIn K cd1 "distance" = true) (k1 : PySem.W.keepIn K (.ref f1) = true)
    (a2 : PySem.W.nsIn K mainGlobals "_law_cell" = some (some (.ref f2))) (l2 : K.lookup f2 = some ⟨oc2, od2, .func (PySem.W.fnOf "_law_cell" "_law_cell" (defArgs s__law_cell) (defBody s__law_cell) (defScope s__law_cell) .none kV2 dc2 pm2 an2 cd2 ct2), sl2⟩) (c2 : PySem.W.codeIn K cd2 "_law_cell" = true) (k2 : PySem.W.keepIn K (.ref f2) = true)
    (a3 : PySem.W.nsIn K mainGlobals "_law_digits" = some (some (.ref f3))) (l3 : K.lookup f3 = some ⟨oc3, od3, .func (PySem.W.fnOf "_law_digits" "_law_digits" (defArgs s__law_digits) (defBody s__law_digits) (defScope s__law_digits) .none kV3 dc3 pm3 an3 cd3 ct3), sl3⟩) (c3 : PySem.W.codeIn K cd3 "_law_digits" = true) (k3 : PySem.W.keepIn K (.ref f3) = true)
    (a4 : PySem.W.nsIn K mainGlobals "_law_draw" = some (some (.ref f4))) (l4 : K.lookup f4 = some ⟨oc4, od4, .func (PySem.W.fnOf "_law_draw" "_law_draw" (defArgs s__law_draw) (defBody s__law_draw) (defScope s__law_draw) .none kV4 dc4 pm4 an4 cd4 ct4), sl4⟩) (c4 : PySem.W.codeIn K cd4 "_law_draw" = true) (k4 : PySem.W.keepIn K (.ref f4) = true)
    (a5 : PySem.W.nsIn K mainGlobals "_law_same" = some (some (.ref f5))) (l5 : K.lookup f5 = some ⟨oc5, od5, .func (PySem.W.fnOf "_law_same" "_law_same" (defArgs s__law_same) (defBody s__law_same) (defScope s__law_same) .none kV5 dc5 pm5 an5 cd5 ct5), sl5⟩) (c5 : PySem.W.codeIn K cd5 "_law_same" = true) (k5 : PySem.W.keepIn K (.ref f5) = true)
    (a6 : PySem.W.nsIn K mainGlobals "_law_shape" = some (some (.ref f6))) (l6 : K.lookup f6 = some ⟨oc6, od6, .func (PySem.W.fnOf "_law_shape" "_law_shape" (defArgs s__law_shape) (defBody s__law_shape) (defScope s__law_shape) .none kV6 dc6 pm6 an6 cd6 ct6), sl6⟩) (c6 : PySem.W.codeIn K cd6 "_law_shape" = true) (k6 : PySem.W.keepIn K (.ref f6) = true)
    (a7 : PySem.W.nsIn K mainGlobals "_law_count" = some (some (.ref f7))) (l7 : K.lookup f7 = some ⟨oc7, od7, .func (PySem.W.fnOf "_law_count" "_law_count" (defArgs s__law_count) (defBody s__law_count) (defScope s__law_count) .none kV7 dc7 pm7 an7 cd7 ct7), sl7⟩) (c7 : PySem.W.codeIn K cd7 "_law_count" = true) (k7 : PySem.W.keepIn K (.ref f7) = true)
    (a8 : PySem.W.nsIn K mainGlobals "law" = some (some (.ref f8))) (l8 : K.lookup f8 = some ⟨oc8, od8, .func (PySem.W.fnOf "law" "law" (defArgs s_law) (defBody s_law) (defScope s_law) .none kV8 dc8 pm8 an8 cd8 ct8), sl8⟩) (c8 : PySem.W.codeIn K cd8 "law" = true) (k8 : PySem.W.keepIn K (.ref f8) = true)
    (zrange : PySem.W.nsIn K mainGlobals "range" = some none)
    (zlen : PySem.W.nsIn K mainGlobals "len" = some none)
    (zint : PySem.W.nsIn K mainGlobals "int" = some none)
    (zrepr : PySem.W.nsIn K mainGlobals "repr" = some none)
    (ztuple : PySem.W.nsIn K mainGlobals "tuple" = some none)
    (zstr : PySem.W.nsIn K mainGlobals "str" = some none)
    : ∃ fd : FuncData, (∀ (s : Shared) (v : Value), BindsTo s fd ⟨[v], []⟩ [("_law_script", v)]) ∧ ∀ base : Heap, K.In base → base.Ns mainGlobals mg → FnP P w K mg base 3 fa fd ["_law_script"] m_law := by
  have e := hfa.symm.trans (PySem.W.mg_of X G a8)
  cases e
  have F0 := funIn_mk (st := s_differing) (ps := ["one", "other"]) X G a0 l0 c0 k0 fun _ _ _ _ _ _ us hl => match us, hl with | [_, _], _ => rfl
  have F1 := funIn_mk (st := s_distance) (ps := ["parts", "first", "second"]) X G a1 l1 c1 k1 fun _ _ _ _ _ _ us hl => match us, hl with | [_, _, _], _ => rfl
  have F2 := funIn_mk (st := s__law_cell) (ps := ["_law_script", "_law_k"]) X G a2 l2 c2 k2 fun _ _ _ _ _ _ us hl => match us, hl with | [_, _], _ => rfl
  have F3 := funIn_mk (st := s__law_digits) (ps := ["_law_script", "_law_first", "_law_last"]) X G a3 l3 c3 k3 fun _ _ _ _ _ _ us hl => match us, hl with | [_, _, _], _ => rfl
  have F4 := funIn_mk (st := s__law_draw) (ps := ["_law_box", "_law_many"]) X G a4 l4 c4 k4 fun _ _ _ _ _ _ us hl => match us, hl with | [_, _], _ => rfl
  have F5 := funIn_mk (st := s__law_same) (ps := ["_law_actual", "_law_due"]) X G a5 l5 c5 k5 fun _ _ _ _ _ _ us hl => match us, hl with | [_, _], _ => rfl
  have F6 := funIn_mk (st := s__law_shape) (ps := ["_law_box", "_law_k", "_law_width", "_law_height"]) X G a6 l6 c6 k6 fun _ _ _ _ _ _ us hl => match us, hl with | [_, _, _, _], _ => rfl
  have F7 := funIn_mk (st := s__law_count) (ps := ["_law_one", "_law_other"]) X G a7 l7 c7 k7 fun _ _ _ _ _ _ us hl => match us, hl with | [_, _], _ => rfl
  have F8 := funIn_mk (st := s_law) (ps := ["_law_script"]) X G a8 l8 c8 k8 fun _ _ _ _ _ _ us hl => match us, hl with | [_], _ => rfl
  have z_range := PySem.W.mg_none_of X G zrange
  have z_len := PySem.W.mg_none_of X G zlen
  have z_int := PySem.W.mg_none_of X G zint
  have z_repr := PySem.W.mg_none_of X G zrepr
  have z_tuple := PySem.W.mg_none_of X G ztuple
  have z_str := PySem.W.mg_none_of X G zstr
  refine ⟨PySem.W.fnOf "law" "law" (defArgs s_law) (defBody s_law) (defScope s_law) .none kV8 dc8 pm8 an8 cd8 ct8, fun s v => .of_eq rfl, fun base _ _ => ?_⟩
  have c_differing : Glb P w K mg base "differing" 1 ["one", "other"] m_differing := F0.glb (ok_differing F0 z_range z_len)
  have c_distance : Glb P w K mg base "distance" 2 ["parts", "first", "second"] m_distance := F1.glb (ok_distance F1 c_differing z_len)
  have c__law_cell : Glb P w K mg base "_law_cell" 1 ["_law_script", "_law_k"] m__law_cell := F2.glb (ok__law_cell F2 z_len)
  have c__law_digits : Glb P w K mg base "_law_digits" 2 ["_law_script", "_law_first", "_law_last"] m__law_digits := F3.glb (ok__law_digits F3 c__law_cell z_range z_int)
  have c__law_draw : Glb P w K mg base "_law_draw" 1 ["_law_box", "_law_many"] m__law_draw := F4.glb (ok__law_draw F4 z_len z_int)
  have c__law_same : Glb P w K mg base "_law_same" 1 ["_law_actual", "_law_due"] m__law_same := F5.glb (ok__law_same F5 z_repr)
  have c__law_shape : Glb P w K mg base "_law_shape" 2 ["_law_box", "_law_k", "_law_width", "_law_height"] m__law_shape := F6.glb (ok__law_shape F6 c__law_draw z_tuple z_range z_int z_str)
  have c__law_count : Glb P w K mg base "_law_count" 1 ["_law_one", "_law_other"] m__law_count := F7.glb (ok__law_count F7 z_len z_range z_int)
  exact ok_law F8 c__law_digits c__law_draw c__law_shape c__law_count c__law_same c_distance z_range z_str z_len z_tuple
end LW
open PySem PySem.W PyProof.Rows LW
set_option maxHeartbeats 0 in
theorem PySem.Challenge.cw_surelyread_k49_distance_counts_holds : PySem.Challenge.rw_surelyread_k49_distance_counts.Holds := by
  w_on; o_law; k_head; (case hw => w_witness2)
  k_fill
  refine PL.top_walk (l := PySem.Challenge.rw_surelyread_k49_distance_counts) (n := 63) (k := 3) (x := "_law_script") (m := m_law) rfl (by decide) rfl ⟨rfl, by decide, by decide⟩ (fun w h Y => PySem.W.kIn_of Y) ?hno ?F fun ns hl => law_true ns hl
  case hno => intro p; rfl
  case F =>
    intro w mg fa h KX G hmg
    refine' all_mk KX G hmg ?a0 ?l0 ?c0 ?k0 ?a1 ?l1 ?c1 ?k1 ?a2 ?l2 ?c2 ?k2 ?a3 ?l3 ?c3 ?k3 ?a4 ?l4 ?c4 ?k4 ?a5 ?l5 ?c5 ?k5 ?a6 ?l6 ?c6 ?k6 ?a7 ?l7 ?c7 ?k7 ?a8 ?l8 ?c8 ?k8 ?zrange ?zlen ?zint ?zrepr ?ztuple ?zstr
    (case a0 => k_is)
    (case l0 => k_is)
    (case c0 => k_is)
    (case k0 => k_is)
    (case a1 => k_is)
    (case l1 => k_is)
    (case c1 => k_is)
    (case k1 => k_is)
    (case a2 => k_is)
    (case l2 => k_is)
    (case c2 => k_is)
    (case k2 => k_is)
    (case a3 => k_is)
    (case l3 => k_is)
    (case c3 => k_is)
    (case k3 => k_is)
    (case a4 => k_is)
    (case l4 => k_is)
    (case c4 => k_is)
    (case k4 => k_is)
    (case a5 => k_is)
    (case l5 => k_is)
    (case c5 => k_is)
    (case k5 => k_is)
    (case a6 => k_is)
    (case l6 => k_is)
    (case c6 => k_is)
    (case k6 => k_is)
    (case a7 => k_is)
    (case l7 => k_is)
    (case c7 => k_is)
    (case k7 => k_is)
    (case a8 => k_is)
    (case l8 => k_is)
    (case c8 => k_is)
    (case k8 => k_is)
    (case zrange => k_is)
    (case zlen => k_is)
    (case zint => k_is)
    (case zrepr => k_is)
    (case ztuple => k_is)
    (case zstr => k_is)

import PyProof.Rows.All
import Wide.All
import OpenK.AllK
import Wide.FinOn
import HandS.ForMost
import HandS.Exc
import HandS.WordsExc
import HandS.Style
import HandS.IsInst
import HandS.TupAny
import HandS.TupMul
import HandS.Deep
import HandS.Walk
import PyProof.ReprRoads
import KE.GoesMore
import KE.GoesEnum
import HandS.ExcInit
import HandS.ExcField
import HandS.ExcIs
import HandS.Nested
import KE.KExcSuper
import HandS.TryOnly
import HandS.Ends
import HandS.Conv
import PyProof.ReprLen
import PySem.Challenge.RW_piledtables_k12_moves_of_three
set_option Elab.async false
set_option linter.all false
set_option autoImplicit false
set_option maxRecDepth 100000
/-! A layer of data over the hand layer: what a program's values are worth as plain data, the heap out of sight. -/
namespace G
open PySem PySem.Spec L2

/-! ### data at a heap that only grows -/
mutual
inductive Da (B : Hp) : V → PyData → Prop
  | non : Da B .non .none
  | bl (b : Bool) : Da B (.bl b) (.bool b)
  | int (i : Int) : Da B (.int i) (.int i)
  | str (x : Str) : Da B (.str x) (.str x)
  | lst {a : Addr} {xs : List V} {ds : List PyData} : B a = some (.lst xs) → DaA B xs ds → Da B (.ref a) (.list ds)
  | tup {a : Addr} {xs : List V} {ds : List PyData} : B a = some (.tup xs) → DaA B xs ds → Da B (.ref a) (.tuple ds)
  | dct {a : Addr} : B a = some (.dK []) → Da B (.ref a) (.dict [])
inductive DaA (B : Hp) : List V → List PyData → Prop
  | nil : DaA B [] []
  | cons {v : V} {vs : List V} {d : PyData} {ds : List PyData} : Da B v d → DaA B vs ds → DaA B (v :: vs) (d :: ds)
end

/-- a value as it is known: data that never changes, or a value of the heap (an object of one's own that may change) -/
inductive R where
  | d (x : PyData)
  | raw (v : V)
  | scr (K : PySem.W.Frag) (ns : List Int)

def RelR (B : Hp) : R → V → Prop
  | .d x, v => Da B v x
  | .raw w, v => v = w
  | .scr K ns, v => ∃ a, v = .ref a ∧ ∀ H, Same B H → SqL K H a (ns.map V.int)

abbrev RelRs (B : Hp) : List R → List V → Prop := Paired (RelR B)

mutual
theorem Da.mono {B B' : Hp} (e : Same B B') : ∀ (d : PyData) {v : V}, Da B v d → Da B' v d
  | .none, _, h => by cases h; exact .non
  | .bool b, _, h => by cases h; exact .bl b
  | .int i, _, h => by cases h; exact .int i
  | .str x, _, h => by cases h; exact .str x
  | .list ds, _, h => by
    cases h with
    | lst q a => exact .lst (e _ _ q) (DaA.mono e ds a)
  | .tuple ds, _, h => by
    cases h with
    | tup q a => exact .tup (e _ _ q) (DaA.mono e ds a)
  | .dict _, _, h => by
    cases h with
    | dct q => exact .dct (e _ _ q)
theorem DaA.mono {B B' : Hp} (e : Same B B') : ∀ (ds : List PyData) {vs : List V}, DaA B vs ds → DaA B' vs ds
  | [], _, h => by cases h; exact .nil
  | d :: ds, _, h => by
    cases h with
    | cons a b => exact .cons (Da.mono e d a) (DaA.mono e ds b)
end
theorem RelR.mono {B B' : Hp} (e : Same B B') : ∀ {r : R} {v : V}, RelR B r v → RelR B' r v
  | .d x, _, h => Da.mono e x h
  | .raw _, _, h => h
  | .scr _ _, _, h => let ⟨a, h1, h2⟩ := h; ⟨a, h1, fun H e' => h2 H (Same.trans e e')⟩
theorem RelRs.mono {B B' : Hp} (e : Same B B') {rs : List R} {vs : List V} (h : RelRs B rs vs) : RelRs B' rs vs := Paired.mapP h fun _ _ q => q.mono e
theorem DaA.length {B : Hp} : ∀ {vs : List V} {ds : List PyData}, DaA B vs ds → vs.length = ds.length
  | [], [], _ => rfl
  | _ :: _, _ :: _, .cons _ h => by rw [List.length_cons, List.length_cons, DaA.length h]
theorem DaA.get {B : Hp} : ∀ {vs : List V} {ds : List PyData} {i : Nat} {d : PyData}, DaA B vs ds → ds[i]? = some d → ∃ v, vs[i]? = some v ∧ Da B v d
  | _, _, _, _, .nil, e => by simp at e
  | _, _, 0, _, .cons a _, e => by simp at e; subst e; exact ⟨_, rfl, a⟩
  | _, _, i + 1, _, .cons _ t, e => by
    obtain ⟨v, h1, h2⟩ := DaA.get (i := i) t (by simpa using e)
    exact ⟨v, by simpa using h1, h2⟩
theorem DaA.getV {B : Hp} : ∀ {vs : List V} {ds : List PyData} {i : Nat} {v : V}, DaA B vs ds → vs[i]? = some v → ∃ d, ds[i]? = some d ∧ Da B v d
  | _, _, _, _, .nil, e => by simp at e
  | _, _, 0, _, .cons a _, e => by simp at e; subst e; exact ⟨_, rfl, a⟩
  | _, _, i + 1, _, .cons _ t, e => by
    obtain ⟨v, h1, h2⟩ := DaA.getV (i := i) t (by simpa using e)
    exact ⟨v, by simpa using h1, h2⟩
theorem DaA.append {B : Hp} : ∀ {vs ws : List V} {ds es : List PyData}, DaA B vs ds → DaA B ws es → DaA B (vs ++ ws) (ds ++ es)
  | _, _, _, _, .nil, h => h
  | _, _, _, _, .cons a t, h => .cons a (t.append h)
theorem DaA.take {B : Hp} : ∀ {vs : List V} {ds : List PyData} (n : Nat), DaA B vs ds → DaA B (vs.take n) (ds.take n)
  | _, _, 0, _ => .nil
  | _, _, _ + 1, .nil => .nil
  | _, _, n + 1, .cons a t => .cons a (DaA.take n t)
theorem DaA.drop {B : Hp} : ∀ {vs : List V} {ds : List PyData} (n : Nat), DaA B vs ds → DaA B (vs.drop n) (ds.drop n)
  | _, _, 0, h => h
  | _, _, _ + 1, .nil => .nil
  | _, _, n + 1, .cons _ t => DaA.drop n t
theorem DaA.reverse {B : Hp} : ∀ {vs : List V} {ds : List PyData}, DaA B vs ds → DaA B vs.reverse ds.reverse
  | _, _, .nil => .nil
  | _, _, .cons a t => by
    rw [List.reverse_cons, List.reverse_cons]
    exact t.reverse.append (.cons a .nil)
theorem DaA.ints {B : Hp} : ∀ (ns : List Int), DaA B (ns.map V.int) (ns.map PyData.int)
  | [] => .nil
  | n :: ns => .cons (.int n) (DaA.ints ns)
theorem DaA.ints_eq {B : Hp} : ∀ {ns : List Int} {vs : List V}, DaA B vs (ns.map PyData.int) → vs = ns.map V.int
  | [], _, h => by cases h; rfl
  | n :: ns, _, h => by
    cases h with
    | cons a t => cases a; rw [DaA.ints_eq t]; rfl
theorem DaA.bools_eq {B : Hp} : ∀ {bs : List Bool} {vs : List V}, DaA B vs (bs.map PyData.bool) → vs = bs.map V.bl
  | [], _, h => by cases h; rfl
  | n :: ns, _, h => by
    cases h with
    | cons a t => cases a; rw [DaA.bools_eq t]; rfl
theorem DaA.strs_eq {B : Hp} : ∀ {bs : List Str} {vs : List V}, DaA B vs (bs.map PyData.str) → vs = bs.map V.str
  | [], _, h => by cases h; rfl
  | n :: ns, _, h => by
    cases h with
    | cons a t => cases a; rw [DaA.strs_eq t]; rfl
theorem Da.int_inv {B : Hp} {v : V} {i : Int} (h : Da B v (.int i)) : v = .int i := by cases h; rfl
theorem Da.bool_inv {B : Hp} {v : V} {i : Bool} (h : Da B v (.bool i)) : v = .bl i := by cases h; rfl
theorem Da.str_inv {B : Hp} {v : V} {i : Str} (h : Da B v (.str i)) : v = .str i := by cases h; rfl
theorem Da.none_inv {B : Hp} {v : V} (h : Da B v .none) : v = .non := by cases h; rfl

/-! ### what one owns -/
inductive Cell where
  | lst (xs : List R)
  | dK (kvs : List (Key × R))
  | dT (kvs : List (List Key × R))
  | xo (fs : List (Str × R))
  | hd (o : HO)

def CellRel (B : Hp) : Cell → HO → Prop
  | .lst rs, o => ∃ vs, o = .lst vs ∧ RelRs B rs vs
  | .dK kvs, o => ∃ ws, o = .dK ws ∧ Paired (fun (p : Key × R) (q : Key × V) => p.1 = q.1 ∧ RelR B p.2 q.2) kvs ws
  | .dT kvs, o => ∃ ws, o = .dT ws ∧ Paired (fun (p : List Key × R) (q : List Key × V) => p.1 = q.1 ∧ RelR B p.2 q.2) kvs ws
  | .xo fs, o => ∃ ws, o = .xd ws ∧ Paired (fun (p : Str × R) (q : Str × V) => p.1 = q.1 ∧ RelR B p.2 q.2) fs ws
  | .hd u, o => o = u
theorem CellRel.mono {B B' : Hp} (e : Same B B') : ∀ {c : Cell} {o : HO}, CellRel B c o → CellRel B' c o
  | .lst _, _, ⟨vs, h, r⟩ => ⟨vs, h, RelRs.mono e r⟩
  | .dK _, _, ⟨vs, h, r⟩ => ⟨vs, h, Paired.mapP r fun _ _ q => ⟨q.1, q.2.mono e⟩⟩
  | .dT _, _, ⟨vs, h, r⟩ => ⟨vs, h, Paired.mapP r fun _ _ q => ⟨q.1, q.2.mono e⟩⟩
  | .xo _, _, ⟨vs, h, r⟩ => ⟨vs, h, Paired.mapP r fun _ _ q => ⟨q.1, q.2.mono e⟩⟩
  | .hd _, _, h => h

abbrev Mem := Addr → Option Cell
def mset (M : Mem) (a : Addr) (c : Cell) : Mem := fun b => if b = a then some c else M b
theorem mset_same {M : Mem} {a : Addr} {c : Cell} : mset M a c a = some c := by unfold mset; rw [if_pos rfl]
theorem mset_ne {M : Mem} {a b : Addr} {c : Cell} (h : b ≠ a) : mset M a c b = M b := by unfold mset; rw [if_neg h]
theorem mset_mset {M : Mem} {a : Addr} {c e : Cell} : mset (mset M a c) a e = mset M a e := by
  funext b; unfold mset; split <;> rfl
/-- what is known in M is known in M' -/
def Sub (M M' : Mem) : Prop := ∀ a c, M a = some c → M' a = some c
theorem Sub.refl (M : Mem) : Sub M M := fun _ _ h => h
theorem Sub.trans {M M1 M2 : Mem} (a : Sub M M1) (b : Sub M1 M2) : Sub M M2 := fun x c h => b x c (a x c h)
theorem Sub.new {M : Mem} {p : Addr} {c : Cell} (h : M p = none) : Sub M (mset M p c) := fun a o e => by
  rw [mset_ne (fun q => by subst q; rw [h] at e; cases e)]
  exact e
theorem Sub.set {M M' : Mem} {p : Addr} {c : Cell} (h : M p = none) (s : Sub M M') : Sub M (mset M' p c) := fun a o e => by
  rw [mset_ne (fun q => by subst q; rw [h] at e; cases e)]
  exact s a o e

structure Own (B H : Hp) (M : Mem) : Prop where
  ex : Same B H
  own : ∀ a c, M a = some c → B a = none ∧ ∃ o, H a = some o ∧ CellRel B c o
theorem Own.sub {B H : Hp} {M M' : Mem} (o : Own B H M') (s : Sub M M') : Own B H M := ⟨o.ex, fun a c h => o.own a c (s a c h)⟩
/-- a new object, frozen at once -/
theorem Own.frozen {B H : Hp} {M : Mem} {p : Addr} {o : HO} (w : Own B H M) (h : H p = none) : Own (upd B p o) (upd H p o) M := by
  have hb : B p = none := w.ex.free h
  have sb : Same B (upd B p o) := fun a u e => by rw [upd_ne (ne_of_none e hb)]; exact e
  refine ⟨fun a u e => ?_, fun a c e => ?_⟩
  · by_cases q : a = p
    · subst q; rw [upd_same] at e ⊢; exact e
    · rw [upd_ne q] at e ⊢; exact w.ex a u e
  · obtain ⟨h1, u, h2, h3⟩ := w.own a c e
    have q : a ≠ p := ne_of_none h2 h
    exact ⟨by rw [upd_ne q]; exact h1, u, by rw [upd_ne q]; exact h2, h3.mono sb⟩
theorem Same.frozen {B H : Hp} {p : Addr} {o : HO} (e : Same B H) (h : H p = none) : Same B (upd B p o) := fun a u q => by
  rw [upd_ne (ne_of_none q (e.free h))]; exact q
/-- a new object, owned -/
theorem Own.made {B H : Hp} {M : Mem} {p : Addr} {o : HO} {c : Cell} (w : Own B H M) (h : H p = none) (r : CellRel B c o) : Own B (upd H p o) (mset M p c) := by
  have hb : B p = none := w.ex.free h
  refine ⟨fun a u e => ?_, fun a k e => ?_⟩
  · rw [upd_ne (ne_of_none e hb)]; exact w.ex a u e
  · by_cases q : a = p
    · subst q
      rw [mset_same] at e; cases e
      exact ⟨hb, o, upd_same, r⟩
    · rw [mset_ne q] at e
      obtain ⟨h1, u, h2, h3⟩ := w.own a k e
      exact ⟨h1, u, by rw [upd_ne q]; exact h2, h3⟩
theorem Own.free {B H : Hp} {M : Mem} {p : Addr} (w : Own B H M) (h : H p = none) : M p = none := by
  cases e : M p with
  | none => rfl
  | some c =>
    obtain ⟨_, u, h2, _⟩ := w.own p c e
    rw [h] at h2; cases h2
/-- an owned object changes -/
theorem Own.write {B H : Hp} {M : Mem} {p : Addr} {o : HO} {c c' : Cell} (w : Own B H M) (h : M p = some c') (r : CellRel B c o) : Own B (upd H p o) (mset M p c) := by
  have hb : B p = none := (w.own p c' h).1
  refine ⟨fun a u e => ?_, fun a k e => ?_⟩
  · rw [upd_ne (ne_of_none e hb)]; exact w.ex a u e
  · by_cases q : a = p
    · subst q
      rw [mset_same] at e; cases e
      exact ⟨hb, o, upd_same, r⟩
    · rw [mset_ne q] at e
      obtain ⟨h1, u, h2, h3⟩ := w.own a k e
      exact ⟨h1, u, by rw [upd_ne q]; exact h2, h3⟩

/-! ### the slots -/
/-- what the slots hold, and the ground on which the def began -/
structure Rho where
  l : List (Option R)
  fl : Hp
def Rho.set (ρ : Rho) (i : Nat) (r : Option R) : Rho := ⟨ρ.l.set i r, ρ.fl⟩
structure Slots (B : Hp) (ρ : Rho) (σ : St) : Prop where
  fl : Same ρ.fl B
  len : σ.length = ρ.l.length
  at_ : ∀ (i : Nat) (r : R), ρ.l[i]? = some (some r) → ∃ v, σ[i]? = some (some v) ∧ RelR B r v
theorem Slots.mono {B B' : Hp} {ρ : Rho} {σ : St} (e : Same B B') (s : Slots B ρ σ) : Slots B' ρ σ :=
  ⟨Same.trans s.fl e, s.len, fun i r h => let ⟨v, h1, h2⟩ := s.at_ i r h; ⟨v, h1, h2.mono e⟩⟩
theorem Slots.set {B : Hp} {ρ : Rho} {σ : St} {i : Nat} {r : R} {v : V} (s : Slots B ρ σ) (h : RelR B r v) : Slots B (ρ.set i (some r)) (σ.set i (some v)) := by
  refine ⟨s.fl, by show _ = (ρ.l.set i (some r)).length; rw [List.length_set, List.length_set]; exact s.len, fun j q e => ?_⟩
  have e : (ρ.l.set i (some r))[j]? = some (some q) := e
  rw [List.getElem?_set] at e ⊢
  by_cases hij : i = j
  · rw [if_pos hij] at e ⊢
    by_cases hl : i < ρ.l.length
    · rw [if_pos hl] at e
      rw [if_pos (by rw [s.len]; exact hl)]
      cases e
      exact ⟨v, rfl, h⟩
    · rw [if_neg hl] at e; cases e
  · rw [if_neg hij] at e ⊢
    exact s.at_ j q e
/-- less is known -/
theorem Slots.less {B : Hp} {ρ ρ' : Rho} {σ : St} (s : Slots B ρ σ) (hf : ρ'.fl = ρ.fl) (hl : ρ.l.length = ρ'.l.length) (h : ∀ (i : Nat) r, ρ'.l[i]? = some (some r) → ρ.l[i]? = some (some r)) : Slots B ρ' σ :=
  ⟨by rw [hf]; exact s.fl, s.len.trans hl, fun i r e => s.at_ i r (h i r e)⟩

structure Sat (ρ : Rho) (M : Mem) (σ : St) (B H : Hp) : Prop where
  o : Own B H M
  s : Slots B ρ σ
theorem Sat.sub {ρ : Rho} {M M' : Mem} {σ : St} {B H : Hp} (w : Sat ρ M' σ B H) (h : Sub M M') : Sat ρ M σ B H := ⟨w.o.sub h, w.s⟩
theorem Sat.frozen {ρ : Rho} {M : Mem} {σ : St} {B H : Hp} {p : Addr} {o : HO} (w : Sat ρ M σ B H) (h : H p = none) : Sat ρ M σ (upd B p o) (upd H p o) :=
  ⟨w.o.frozen h, w.s.mono (Same.frozen w.o.ex h)⟩
theorem Sat.made {ρ : Rho} {M : Mem} {σ : St} {B H : Hp} {p : Addr} {o : HO} {c : Cell} (w : Sat ρ M σ B H) (h : H p = none) (r : CellRel B c o) : Sat ρ (mset M p c) σ B (upd H p o) :=
  ⟨w.o.made h r, w.s⟩
theorem Sat.write {ρ : Rho} {M : Mem} {σ : St} {B H : Hp} {p : Addr} {o : HO} {c c' : Cell} (w : Sat ρ M σ B H) (h : M p = some c') (r : CellRel B c o) : Sat ρ (mset M p c) σ B (upd H p o) :=
  ⟨w.o.write h r, w.s⟩

/-! ### what must hold so that .. -/
abbrev RK := R → Mem → Prop
def Post (ρ : Rho) (σ : St) (B : Hp) (Q : RK) : VK := fun v H' => ∃ B' r M', Same B B' ∧ Sat ρ M' σ B' H' ∧ RelR B' r v ∧ Q r M'
def PostB (ρ : Rho) (σ : St) (B : Hp) (Q : Bool → Mem → Prop) : Bool → Hp → Prop := fun b H' => ∃ B' M', Same B B' ∧ Sat ρ M' σ B' H' ∧ Q b M'
def PostA (ρ : Rho) (σ : St) (B : Hp) (Q : List R → Mem → Prop) : List V → Hp → Prop := fun vs H' => ∃ B' rs M', Same B B' ∧ Sat ρ M' σ B' H' ∧ RelRs B' rs vs ∧ Q rs M'
theorem Post.of {ρ : Rho} {σ : St} {B B1 : Hp} {Q Q' : RK} {v : V} {H : Hp} (e : Same B B1) (h : Post ρ σ B1 Q v H) (k : ∀ r M, Q r M → Q' r M) : Post ρ σ B Q' v H := by
  obtain ⟨B', r, M', e', s, q, z⟩ := h
  exact ⟨B', r, M', Same.trans e e', s, q, k r M' z⟩
theorem PostB.of {ρ : Rho} {σ : St} {B B1 : Hp} {Q Q' : Bool → Mem → Prop} {v : Bool} {H : Hp} (e : Same B B1) (h : PostB ρ σ B1 Q v H) (k : ∀ r M, Q r M → Q' r M) : PostB ρ σ B Q' v H := by
  obtain ⟨B', M', e', s, z⟩ := h
  exact ⟨B', M', Same.trans e e', s, k v M' z⟩
theorem PostA.of {ρ : Rho} {σ : St} {B B1 : Hp} {Q Q' : List R → Mem → Prop} {v : List V} {H : Hp} (e : Same B B1) (h : PostA ρ σ B1 Q v H) (k : ∀ r M, Q r M → Q' r M) : PostA ρ σ B Q' v H := by
  obtain ⟨B', r, M', e', s, q, z⟩ := h
  exact ⟨B', r, M', Same.trans e e', s, q, k r M' z⟩

def rE (X : Cx) (e : Expr) : TE := fun σ H Q => ∀ (pins : List (Addr × Obj)) (s : Shared), Inv X pins σ H s → wpAny (model X.prog X.w) X.A (eval e X.env) (EP X pins σ Q) X.xe s
def rT (X : Cx) (e : Expr) : TT := fun σ H Q => ∀ (pins : List (Addr × Obj)) (s : Shared), Inv X pins σ H s → wpAny (model X.prog X.w) X.A (isTrue e X.env (eval e X.env)) (TP X pins σ Q) X.xe s
def rW (X : Cx) (e : Expr) : TT := fun σ H Q => ∀ (wh : Sem Value) (pins : List (Addr × Obj)) (s : Shared), Inv X pins σ H s → wpAny (model X.prog X.w) X.A (isTrue e X.env wh) (TP X pins σ Q) X.xe s
def rA (X : Cx) (es : List Expr) : TA := fun σ H Q => ∀ (pos : Pos) (pins : List (Addr × Obj)) (s : Shared), Inv X pins σ H s → wpAny (model X.prog X.w) X.A (spliced (backTo pos (starEach es X.env))) (AP X pins σ Q) X.xe s
def rS (X : Cx) (st : Stmt) : TS := fun D σ H => ∀ (pins : List (Addr × Obj)) (s : Shared), Inv X pins σ H s → wpAny (model X.prog X.w) X.A (exec st X.env) (SP X pins D) X.xe s
def rSs (X : Cx) (st : List Stmt) : TS := fun D σ H => ∀ (pins : List (Addr × Obj)) (s : Shared), Inv X pins σ H s → wpAny (model X.prog X.w) X.A (execs st X.env) (SP X pins D) X.xe s
def rOp (X : Cx) (f : Value → Value → Sem Value) : R2 := fun x y H Q => ∀ (pins : List (Addr × Obj)) (s : Shared) (σ : St) (v u : Value), Inv X pins σ H s → RelV x v → RelV y u → wpAny (model X.prog X.w) X.A (f v u) (EP X pins σ Q) X.xe s
def rUn (X : Cx) (f : Value → Sem Value) : V → Hp → VK → Prop := fun x H Q => ∀ (pins : List (Addr × Obj)) (s : Shared) (σ : St) (v : Value), Inv X pins σ H s → RelV x v → wpAny (model X.prog X.w) X.A (f v) (EP X pins σ Q) X.xe s
def rCa (X : Cx) (f : Value) : List V → Hp → VK → Prop := fun xs H Q => ∀ (pins : List (Addr × Obj)) (s : Shared) (σ : St) (us : List Value), Inv X pins σ H s → Vals xs us → wpAny (model X.prog X.w) X.A (call f us) (EP X pins σ Q) X.xe s
theorem pe_rE {X : Cx} {e : Expr} : PE X e (rE X e) := ⟨fun pins s σ H Q I h => h pins s I⟩
theorem pt_rT {X : Cx} {e : Expr} : PT X e (rT X e) := ⟨fun pins s σ H Q I h => h pins s I⟩
theorem pw_rW {X : Cx} {e : Expr} : PW X e (rW X e) := ⟨fun wh pins s σ H Q I h => h wh pins s I⟩
theorem pa_rA {X : Cx} {es : List Expr} : PA X es (rA X es) := ⟨fun pos pins s σ H Q I h => h pos pins s I⟩
theorem ps_rS {X : Cx} {st : Stmt} : PS X st (rS X st) := ⟨fun pins s σ H D I h => h pins s I⟩
theorem pss_rSs {X : Cx} {st : List Stmt} : PSs X st (rSs X st) := ⟨fun pins s σ H D I h => h pins s I⟩
theorem opR_rOp {X : Cx} {f : Value → Value → Sem Value} : OpR X f (rOp X f) := fun pins s σ H x y v u Q I r1 r2 h => h pins s σ v u I r1 r2
theorem unR_rUn {X : Cx} {f : Value → Sem Value} : UnR X f (rUn X f) := fun pins s σ H x v Q I r1 h => h pins s σ v I r1
theorem callR_rCa {X : Cx} {f : Value} : CallR X f (rCa X f) := fun pins s σ H xs us Q I r h => h pins s σ us I r
theorem rE_of {X : Cx} {e : Expr} {t : TE} {σ : St} {H : Hp} {Q : VK} (h : PE X e t) (q : t σ H Q) : rE X e σ H Q := fun pins s I => h.run pins s σ H Q I q
theorem rT_of {X : Cx} {e : Expr} {t : TT} {σ : St} {H : Hp} {Q : Bool → Hp → Prop} (h : PT X e t) (q : t σ H Q) : rT X e σ H Q := fun pins s I => h.run pins s σ H Q I q
theorem rW_of {X : Cx} {e : Expr} {t : TT} {σ : St} {H : Hp} {Q : Bool → Hp → Prop} (h : PW X e t) (q : t σ H Q) : rW X e σ H Q := fun wh pins s I => h.run wh pins s σ H Q I q
theorem rA_of {X : Cx} {e : List Expr} {t : TA} {σ : St} {H : Hp} {Q : List V → Hp → Prop} (h : PA X e t) (q : t σ H Q) : rA X e σ H Q := fun pos pins s I => h.run pos pins s σ H Q I q
theorem rS_of {X : Cx} {e : Stmt} {t : TS} {σ : St} {H : Hp} {D : Ends} (h : PS X e t) (q : t D σ H) : rS X e D σ H := fun pins s I => h.run pins s σ H D I q
theorem rSs_of {X : Cx} {e : List Stmt} {t : TS} {σ : St} {H : Hp} {D : Ends} (h : PSs X e t) (q : t D σ H) : rSs X e D σ H := fun pins s I => h.run pins s σ H D I q
theorem rOp_of {X : Cx} {f : Value → Value → Sem Value} {r : R2} {x y : V} {H : Hp} {Q : VK} (h : OpR X f r) (q : r x y H Q) : rOp X f x y H Q := fun pins s σ v u I r1 r2 => h pins s σ H x y v u Q I r1 r2 q
theorem rUn_of {X : Cx} {f : Value → Sem Value} {r : V → Hp → VK → Prop} {x : V} {H : Hp} {Q : VK} (h : UnR X f r) (q : r x H Q) : rUn X f x H Q := fun pins s σ v I r1 => h pins s σ H x v Q I r1 q
theorem rCa_of {X : Cx} {f : Value} {r : List V → Hp → VK → Prop} {x : List V} {H : Hp} {Q : VK} (h : CallR X f r) (q : r x H Q) : rCa X f x H Q := fun pins s σ v I r1 => h pins s σ H x v Q I r1 q

/-- an expression -/
def WE (X : Cx) (e : Expr) (ρ : Rho) (M : Mem) (Q : RK) : Prop := ∀ σ H B, Sat ρ M σ B H → rE X e σ H (Post ρ σ B Q)
/-- a test -/
def WT (X : Cx) (e : Expr) (ρ : Rho) (M : Mem) (Q : Bool → Mem → Prop) : Prop := ∀ σ H B, Sat ρ M σ B H → rT X e σ H (PostB ρ σ B Q)
def WW (X : Cx) (e : Expr) (ρ : Rho) (M : Mem) (Q : Bool → Mem → Prop) : Prop := ∀ σ H B, Sat ρ M σ B H → rW X e σ H (PostB ρ σ B Q)
/-- arguments -/
def WA (X : Cx) (es : List Expr) (ρ : Rho) (M : Mem) (Q : List R → Mem → Prop) : Prop := ∀ σ H B, Sat ρ M σ B H → rA X es σ H (PostA ρ σ B Q)
/-- a two-place operation by values -/
def WO (X : Cx) (f : Value → Value → Sem Value) (x y : R) (M : Mem) (Q : RK) : Prop := ∀ ρ σ H B v u, Sat ρ M σ B H → RelR B x v → RelR B y u → rOp X f v u H (Post ρ σ B Q)
def WU (X : Cx) (f : Value → Sem Value) (x : R) (M : Mem) (Q : RK) : Prop := ∀ ρ σ H B v, Sat ρ M σ B H → RelR B x v → rUn X f v H (Post ρ σ B Q)
/-- a call of a known value -/
def WC (X : Cx) (f : Value) (xs : List R) (M : Mem) (Q : RK) : Prop := ∀ ρ σ H B vs, Sat ρ M σ B H → RelRs B xs vs → rCa X f vs H (Post ρ σ B Q)

/-- what is wanted behind a statement -/
structure DE where
  nx : Rho → Mem → Prop
  rt : RK
  bk : Rho → Mem → Prop := fun _ _ => False
  ct : Rho → Mem → Prop := fun _ _ => False
def PostS (B : Hp) (P : Rho → Mem → Prop) : St → Hp → Prop := fun σ H => ∃ B' ρ M, Same B B' ∧ Sat ρ M σ B' H ∧ P ρ M
def PostR (B : Hp) (P : RK) : VK := fun v H => ∃ B' r M, Same B B' ∧ Own B' H M ∧ RelR B' r v ∧ P r M
def ends (B : Hp) (D : DE) : Ends := { nx := PostS B D.nx, rt := PostR B D.rt, bk := PostS B D.bk, ct := PostS B D.ct }
def WS (X : Cx) (st : Stmt) (ρ : Rho) (M : Mem) (D : DE) : Prop := ∀ σ H B, Sat ρ M σ B H → rS X st (ends B D) σ H
def WSs (X : Cx) (st : List Stmt) (ρ : Rho) (M : Mem) (D : DE) : Prop := ∀ σ H B, Sat ρ M σ B H → rSs X st (ends B D) σ H
end G
namespace G
open PySem PySem.Spec L2
section
variable {X : Cx} {ρ : Rho} {M : Mem} {Q : RK} {e a b c : Expr} {es rest : List Expr} {pos : Pos} {r x y : R}

/-! ### weaker wishes -/
theorem WE.imp {Q' : RK} (h : WE X e ρ M Q) (k : ∀ r M, Q r M → Q' r M) : WE X e ρ M Q' := fun σ H B w pins s I =>
  thn (h σ H B w pins s I) fun _ _ ⟨v, H', I', rv, p⟩ => ⟨v, H', I', rv, p.of (Same.refl B) k⟩
theorem WO.imp {f : Value → Value → Sem Value} {Q' : RK} (h : WO X f x y M Q) (k : ∀ r M, Q r M → Q' r M) : WO X f x y M Q' := fun ρ σ H B v u w r1 r2 pins s σ' v' u' I q1 q2 =>
  thn (h ρ σ H B v u w r1 r2 pins s σ' v' u' I q1 q2) fun _ _ ⟨v, H', I', rv, p⟩ => ⟨v, H', I', rv, p.of (Same.refl B) k⟩

/-! ### names, constants -/
structure VarOk (X : Cx) (i : Nat) (x : Str) : Prop where
  at_ : X.N[i]? = some x
  vis : Vis X.env.scope x
  n1 : (x == ("__debug__" : Str)) = false
  n2 : (x == ("__classdict__" : Str)) = false
theorem we_var {i : Nat} {n : Str} (v : VarOk X i n) (h : ρ.l[i]? = some (some r)) (q : Q r M) : WE X (.Name n pos) ρ M Q := fun σ H B w => by
  obtain ⟨u, h1, h2⟩ := w.s.at_ i r h
  exact rE_of (pe_var v.at_ v.vis v.n1 v.n2) ⟨u, h1, B, r, M, Same.refl B, w, h2, q⟩
theorem we_const {t : V} {d : PyData} (h : PE X e (tC t)) (r : ∀ B, Da B t d) (q : Q (.d d) M) : WE X e ρ M Q := fun σ H B w =>
  rE_of h ⟨B, .d d, M, Same.refl B, w, r B, q⟩
theorem we_int {i : Int} {k : Nat} (q : Q (.d (.int i)) M) : WE X (.Constant (.int i) k pos) ρ M Q := we_const pe_int (fun _ => .int i) q
theorem we_bl {i : Bool} {k : Nat} (q : Q (.d (.bool i)) M) : WE X (.Constant (.bool i) k pos) ρ M Q := we_const pe_bl (fun _ => .bl i) q
theorem we_non {k : Nat} (q : Q (.d .none) M) : WE X (.Constant .none k pos) ρ M Q := we_const pe_non (fun _ => .non) q
theorem we_str {i : Str} {k : Nat} (q : Q (.d (.str i)) M) : WE X (.Constant (.str i) k pos) ρ M Q := we_const pe_str (fun _ => .str i) q
/-- a module's constant -/
theorem we_glob {n : Str} {u : Value} {t : V} {d : PyData} (hm : X.mg n = some u) (rv : RelV t u) (rd : ∀ B, Da B t d) (q : Q (.d d) M) (hg : Gl X n := by with_unfolding_all rfl) (hd : (n == ("__debug__" : Str)) = false := by decide) : WE X (.Name n pos) ρ M Q :=
  we_const (pe_glob hg hm rv hd) rd q
/-- a class of the module, a def, as a value -/
theorem we_globR {n : Str} {u : Value} {t : V} (hm : X.mg n = some u) (rv : RelV t u) (q : Q (.raw t) M) (hg : Gl X n := by with_unfolding_all rfl) (hd : (n == ("__debug__" : Str)) = false := by decide) : WE X (.Name n pos) ρ M Q := fun σ H B w =>
  rE_of (pe_glob hg hm rv hd) ⟨B, .raw t, M, Same.refl B, w, rfl, q⟩
/-- a built-in's name as a value -/
theorem we_bltn {n : Str} {u : Value} {t : V} (hm : X.mg n = none) (hv : bootBuiltins n = some u) (rv : RelV t u) (q : Q (.raw t) M) (hg : Gl X n := by with_unfolding_all rfl) (hn : n ≠ "__name__" := by decide) (hd : (n == ("__debug__" : Str)) = false := by decide) : WE X (.Name n pos) ρ M Q := fun σ H B w =>
  rE_of (pe_bltn hg hm hv rv hn hd) ⟨B, .raw t, M, Same.refl B, w, rfl, q⟩

/-! ### values, one after another -/
theorem Post.trans {σ : St} {B B1 : Hp} {v : V} {H : Hp} (e : Same B B1) (h : Post ρ σ B1 Q v H) : Post ρ σ B Q v H := h.of e fun _ _ z => z
theorem PostB.trans {Q : Bool → Mem → Prop} {σ : St} {B B1 : Hp} {v : Bool} {H : Hp} (e : Same B B1) (h : PostB ρ σ B1 Q v H) : PostB ρ σ B Q v H := h.of e fun _ _ z => z
theorem rE.imp {σ : St} {H : Hp} {Q Q' : VK} (h : rE X e σ H Q) (k : ∀ v H', Q v H' → Q' v H') : rE X e σ H Q' := fun pins s I =>
  thn (h pins s I) fun _ _ ⟨v, H', I', rv, q⟩ => ⟨v, H', I', rv, k v H' q⟩
theorem rT.imp {σ : St} {H : Hp} {Q Q' : Bool → Hp → Prop} (h : rT X e σ H Q) (k : ∀ v H', Q v H' → Q' v H') : rT X e σ H Q' := fun pins s I =>
  thn (h pins s I) fun _ _ ⟨H', I', q⟩ => ⟨H', I', k _ H' q⟩
theorem rOp.imp {f : Value → Value → Sem Value} {x y : V} {H : Hp} {Q Q' : VK} (h : rOp X f x y H Q) (k : ∀ v H', Q v H' → Q' v H') : rOp X f x y H Q' := fun pins s σ u v I r1 r2 =>
  thn (h pins s σ u v I r1 r2) fun _ _ ⟨v, H', I', rv, q⟩ => ⟨v, H', I', rv, k v H' q⟩
theorem seq2 {K2 : V → V → Hp → Prop} {σ : St} {H B : Hp} (w : Sat ρ M σ B H)
    (h : WE X a ρ M fun x M1 => WE X b ρ M1 fun y M2 => ∀ H B1 u v, Sat ρ M2 σ B1 H → RelR B1 x u → RelR B1 y v → Same B B1 → K2 u v H) :
    rE X a σ H (fun u H1 => rE X b σ H1 fun v H2 => K2 u v H2) :=
  (h σ H B w).imp fun u H1 ⟨B1, x, M1, e1, w1, r1, h1⟩ => (h1 σ H1 B1 w1).imp fun v H2 ⟨B2, y, M2, e2, w2, r2, h2⟩ => h2 H2 B2 u v w2 (r1.mono e2) r2 (Same.trans e1 e2)
theorem we_op {op : Operator} (h : WE X a ρ M fun x M1 => WE X b ρ M1 fun y M2 => WO X (binaryOp op) x y M2 Q) : WE X (.BinOp a op b pos) ρ M Q := fun σ H B w =>
  rE_of (pe_op opR_rOp pe_rE pe_rE) (seq2 (K2 := fun u v H2 => rOp X (binaryOp op) u v H2 (Post ρ σ B Q)) w
    (h.imp fun x M1 h1 => h1.imp fun y M2 h2 H2 B1 u v w2 r1 r2 e => (h2 ρ σ H2 B1 u v w2 r1 r2).imp fun _ _ z => z.trans e))
theorem we_cmp {op : CmpOp} (h : WE X a ρ M fun x M1 => WE X b ρ M1 fun y M2 => WO X (compareOp op) x y M2 Q) (hm : behindInMarks op b = false := by first | exact nomark _ | with_unfolding_all rfl) : WE X (.Compare a [op] [b] pos) ρ M Q := fun σ H B w =>
  rE_of (pe_cmpR opR_rOp pe_rE pe_rE hm) (seq2 (K2 := fun u v H2 => rOp X (compareOp op) u v H2 (Post ρ σ B Q)) w
    (h.imp fun x M1 h1 => h1.imp fun y M2 h2 H2 B1 u v w2 r1 r2 e => (h2 ρ σ H2 B1 u v w2 r1 r2).imp fun _ _ z => z.trans e))
/-- a wish about a truth value, of values -/
def isB (Q : Bool → Mem → Prop) : RK
  | .d (.bool b), M => Q b M
  | _, _ => False
theorem isB_inv {Q : Bool → Mem → Prop} {r : R} {M : Mem} (h : isB Q r M) : ∃ b, r = .d (.bool b) ∧ Q b M := by
  unfold isB at h
  split at h
  · exact ⟨_, rfl, h⟩
  · exact h.elim
theorem postB_of {Q : Bool → Mem → Prop} {σ : St} {B : Hp} {v : V} {H : Hp} (h : Post ρ σ B (isB Q) v H) : ∃ k, v = .bl k ∧ PostB ρ σ B Q k H := by
  obtain ⟨B', r, M', e, w, rr, q0⟩ := h
  obtain ⟨b, er, q⟩ := isB_inv q0
  subst er
  exact ⟨b, Da.bool_inv rr, B', M', e, w, q⟩
variable {T : Bool → Mem → Prop}
theorem wt_cmp {op : CmpOp} (h : WE X a ρ M fun x M1 => WE X b ρ M1 fun y M2 => WO X (compareOp op) x y M2 (isB T)) (hm : behindInMarks op b = false := by first | exact nomark _ | with_unfolding_all rfl) : WT X (.Compare a [op] [b] pos) ρ M T := fun σ H B w =>
  rT_of (pt_cmpR opR_rOp pe_rE pe_rE hm) (seq2 (K2 := fun u v H2 => rOp X (compareOp op) u v H2 (fun x H' => ∃ k, x = .bl k ∧ PostB ρ σ B T k H')) w
    (h.imp fun x M1 h1 => h1.imp fun y M2 h2 H2 B1 u v w2 r1 r2 e => (h2 ρ σ H2 B1 u v w2 r1 r2).imp fun _ _ z => postB_of (z.trans e)))
theorem we_chain {op op' : CmpOp} (h : WE X a ρ M fun x M1 => WE X b ρ M1 fun y M2 => WO X (compareOp op) x y M2 (isB fun k M3 => if k = true then WE X c ρ M3 fun z M4 => WO X (compareOp op') y z M4 Q else Q (.d (.bool false)) M3))
    (hm : lastMarks [op, op'] [b, c] = false := by with_unfolding_all rfl) : WE X (.Compare a [op, op'] [b, c] pos) ρ M Q := fun σ H B w => by
  refine rE_of (pe_chain opR_rOp opR_rOp pe_rE pe_rE pe_rE hm) ?_
  refine (h σ H B w).imp fun u H1 ⟨B1, x, M1, e1, w1, r1, h1⟩ => (h1 σ H1 B1 w1).imp fun v H2 ⟨B2, y, M2, e2, w2, r2, h2⟩ => ?_
  refine (h2 ρ σ H2 B2 u v w2 (r1.mono e2) r2).imp fun z H3 p => ?_
  obtain ⟨B3, r3, M3, e3, w3, rr, q0⟩ := p
  obtain ⟨k, er, q⟩ := isB_inv q0
  subst er
  refine ⟨k, Da.bool_inv rr, ?_⟩
  cases k with
  | true =>
    rw [if_pos rfl] at q ⊢
    exact (q σ H3 B3 w3).imp fun t H4 ⟨B4, z4, M4, e4, w4, r4, h4⟩ => (h4 ρ σ H4 B4 v t w4 ((r2.mono e3).mono e4) r4).imp fun _ _ z => z.trans (Same.trans e1 (Same.trans e2 (Same.trans e3 e4)))
  | false =>
    rw [if_neg Bool.false_ne_true] at q ⊢
    exact ⟨B3, .d (.bool false), M3, Same.trans e1 (Same.trans e2 e3), w3, Da.bl _, q⟩
theorem wt_chain {op op' : CmpOp} (h : WE X a ρ M fun x M1 => WE X b ρ M1 fun y M2 => WO X (compareOp op) x y M2 (isB fun k M3 => if k = true then WE X c ρ M3 fun z M4 => WO X (compareOp op') y z M4 (isB T) else T false M3))
    (hm : lastMarks [op, op'] [b, c] = false := by with_unfolding_all rfl) : WT X (.Compare a [op, op'] [b, c] pos) ρ M T := fun σ H B w => by
  refine rT_of (pt_chain opR_rOp opR_rOp pe_rE pe_rE pe_rE hm) ?_
  refine (h σ H B w).imp fun u H1 ⟨B1, x, M1, e1, w1, r1, h1⟩ => (h1 σ H1 B1 w1).imp fun v H2 ⟨B2, y, M2, e2, w2, r2, h2⟩ => ?_
  refine (h2 ρ σ H2 B2 u v w2 (r1.mono e2) r2).imp fun z H3 p => ?_
  obtain ⟨B3, r3, M3, e3, w3, rr, q0⟩ := p
  obtain ⟨k, er, q⟩ := isB_inv q0
  subst er
  refine ⟨k, Da.bool_inv rr, ?_⟩
  cases k with
  | true =>
    rw [if_pos rfl] at q ⊢
    exact (q σ H3 B3 w3).imp fun t H4 ⟨B4, z4, M4, e4, w4, r4, h4⟩ => (h4 ρ σ H4 B4 v t w4 ((r2.mono e3).mono e4) r4).imp fun _ _ z => postB_of (z.trans (Same.trans e1 (Same.trans e2 (Same.trans e3 e4))))
  | false =>
    rw [if_neg Bool.false_ne_true] at q ⊢
    exact ⟨false, rfl, B3, M3, Same.trans e1 (Same.trans e2 e3), w3, q⟩
theorem we_un {op : UnaryOp} (h : WE X a ρ M fun x M1 => WU X (unaryOp op) x M1 Q) : WE X (.UnaryOp op a pos) ρ M Q := fun σ H B w =>
  rE_of (pe_un unR_rUn pe_rE) ((h σ H B w).imp fun u H1 ⟨B1, x, M1, e1, w1, r1, h1⟩ pins s σ' v I rv => thn (h1 ρ σ H1 B1 u w1 r1 pins s σ' v I rv) fun _ _ ⟨v, H', I', rv, q⟩ => ⟨v, H', I', rv, q.trans e1⟩)

/-! ### tests -/
theorem wt_val (h : WE X e ρ M (isB T)) (he : ∀ whole, isTrue e X.env whole = (do let v ← whole; standAt e.pos; holding [v] (truthy v)) := by intro _; with_unfolding_all rfl) : WT X e ρ M T := fun σ H B w =>
  rT_of (pt_val pe_rE he) ((h σ H B w).imp fun _ _ z => postB_of z)
theorem wt_not (h : WT X a ρ M fun k M1 => T (!k) M1) : WT X (.UnaryOp .Not a pos) ρ M T := fun σ H B w =>
  rT_of (pt_not pt_rT) ((h σ H B w).imp fun _ _ z => z)
theorem wt_w {op : BoolOp} (h : WW X (.BoolOp op es pos) ρ M T) : WT X (.BoolOp op es pos) ρ M T := fun σ H B w => rT_of (PW.pt pw_rW) (h σ H B w)
theorem ww_and1 (h : WT X a ρ M T) : WW X (.BoolOp .And [a] pos) ρ M T := fun σ H B w => rW_of (pw_and1 pt_rT) (h σ H B w)
theorem ww_or1 (h : WT X a ρ M T) : WW X (.BoolOp .Or [a] pos) ρ M T := fun σ H B w => rW_of (pw_or1 pt_rT) (h σ H B w)
theorem ww_and (h : WT X a ρ M fun k M1 => if k = true then WW X (.BoolOp .And (b :: rest) pos) ρ M1 T else T false M1) : WW X (.BoolOp .And (a :: b :: rest) pos) ρ M T := fun σ H B w => by
  refine rW_of (pw_and pt_rT pw_rW) ((h σ H B w).imp fun k H1 ⟨B1, M1, e1, w1, h1⟩ => ?_)
  cases k with
  | true =>
    rw [if_pos rfl] at h1 ⊢
    exact fun wh pins s I => thn (h1 σ H1 B1 w1 wh pins s I) fun _ _ ⟨H', I', q⟩ => ⟨H', I', q.trans e1⟩
  | false =>
    rw [if_neg Bool.false_ne_true] at h1 ⊢
    exact ⟨B1, M1, e1, w1, h1⟩
theorem ww_or (h : WT X a ρ M fun k M1 => if k = true then T true M1 else WW X (.BoolOp .Or (b :: rest) pos) ρ M1 T) : WW X (.BoolOp .Or (a :: b :: rest) pos) ρ M T := fun σ H B w => by
  refine rW_of (pw_or pt_rT pw_rW) ((h σ H B w).imp fun k H1 ⟨B1, M1, e1, w1, h1⟩ => ?_)
  cases k with
  | false =>
    rw [if_neg Bool.false_ne_true] at h1 ⊢
    exact fun wh pins s I => thn (h1 σ H1 B1 w1 wh pins s I) fun _ _ ⟨H', I', q⟩ => ⟨H', I', q.trans e1⟩
  | true =>
    rw [if_pos rfl] at h1 ⊢
    exact ⟨B1, M1, e1, w1, h1⟩
theorem WT.imp {T' : Bool → Mem → Prop} (h : WT X e ρ M T) (k : ∀ b M, T b M → T' b M) : WT X e ρ M T' := fun σ H B w =>
  (h σ H B w).imp fun _ _ z => z.of (Same.refl B) k
/-- .. as values: all but the last truth values -/
theorem we_one {op : BoolOp} (h : WE X a ρ M Q) : WE X (.BoolOp op [a] pos) ρ M Q := fun σ H B w => rE_of (pe_one pe_rE) (h σ H B w)
theorem we_and (h : WE X a ρ M (isB fun k M1 => if k = true then WE X (.BoolOp .And (b :: rest) pos) ρ M1 Q else Q (.d (.bool false)) M1)) : WE X (.BoolOp .And (a :: b :: rest) pos) ρ M Q := fun σ H B w => by
  refine rE_of (pe_and pe_rE pe_rE) ((h σ H B w).imp fun u H1 p => ?_)
  obtain ⟨k, rfl, B1, M1, e1, w1, h1⟩ := postB_of p
  refine ⟨k, rfl, ?_⟩
  cases k with
  | true =>
    rw [if_pos rfl] at h1 ⊢
    exact (h1 σ H1 B1 w1).imp fun _ _ z => z.trans e1
  | false =>
    rw [if_neg Bool.false_ne_true] at h1 ⊢
    exact ⟨B1, .d (.bool false), M1, e1, w1, Da.bl _, h1⟩
theorem we_or (h : WE X a ρ M (isB fun k M1 => if k = true then Q (.d (.bool true)) M1 else WE X (.BoolOp .Or (b :: rest) pos) ρ M1 Q)) : WE X (.BoolOp .Or (a :: b :: rest) pos) ρ M Q := fun σ H B w => by
  refine rE_of (pe_or pe_rE pe_rE) ((h σ H B w).imp fun u H1 p => ?_)
  obtain ⟨k, rfl, B1, M1, e1, w1, h1⟩ := postB_of p
  refine ⟨k, rfl, ?_⟩
  cases k with
  | false =>
    rw [if_neg Bool.false_ne_true] at h1 ⊢
    exact (h1 σ H1 B1 w1).imp fun _ _ z => z.trans e1
  | true =>
    rw [if_pos rfl] at h1 ⊢
    exact ⟨B1, .d (.bool true), M1, e1, w1, Da.bl _, h1⟩
theorem we_not (h : WE X a ρ M (isB fun k M1 => Q (.d (.bool (!k))) M1)) : WE X (.UnaryOp .Not a pos) ρ M Q := fun σ H B w => by
  refine rE_of (pe_not pe_rE) ((h σ H B w).imp fun u H1 p => ?_)
  obtain ⟨k, rfl, B1, M1, e1, w1, h1⟩ := postB_of p
  exact ⟨k, rfl, B1, .d (.bool (!k)), M1, e1, w1, Da.bl _, h1⟩
theorem we_if (h : WT X c ρ M fun k M1 => if k = true then WE X a ρ M1 Q else WE X b ρ M1 Q) : WE X (.IfExp c a b pos) ρ M Q := fun σ H B w => by
  refine rE_of (pe_ifExp pt_rT pe_rE pe_rE) ((h σ H B w).imp fun k H1 ⟨B1, M1, e1, w1, h1⟩ => ?_)
  cases k with
  | true =>
    rw [if_pos rfl] at h1 ⊢
    exact (h1 σ H1 B1 w1).imp fun _ _ z => z.trans e1
  | false =>
    rw [if_neg Bool.false_ne_true] at h1 ⊢
    exact (h1 σ H1 B1 w1).imp fun _ _ z => z.trans e1

/-! ### arguments, displays -/
theorem rA.imp {σ : St} {H : Hp} {Q Q' : List V → Hp → Prop} (h : rA X es σ H Q) (k : ∀ v H', Q v H' → Q' v H') : rA X es σ H Q' := fun pos pins s I =>
  thn (h pos pins s I) fun _ _ ⟨v, H', I', rv, q⟩ => ⟨v, H', I', rv, k v H' q⟩
theorem WA.imp {P P' : List R → Mem → Prop} (h : WA X es ρ M P) (k : ∀ r M, P r M → P' r M) : WA X es ρ M P' := fun σ H B w =>
  (h σ H B w).imp fun _ _ z => z.of (Same.refl B) k
variable {P : List R → Mem → Prop}
theorem wa_nil (q : P [] M) : WA X [] ρ M P := fun σ H B w => rA_of pa_nil ⟨B, [], M, Same.refl B, w, .nil, q⟩
theorem wa_cons (h : WE X e ρ M fun r M1 => WA X es ρ M1 fun rs M2 => P (r :: rs) M2) (hs : starEach (e :: es) X.env = (false, eval e X.env) :: starEach es X.env := by with_unfolding_all rfl) : WA X (e :: es) ρ M P := fun σ H B w =>
  rA_of (pa_cons pe_rE pa_rA hs) ((h σ H B w).imp fun u H1 ⟨B1, r, M1, e1, w1, r1, h1⟩ => (h1 σ H1 B1 w1).imp fun vs H2 ⟨B2, rs, M2, e2, w2, r2, h2⟩ => ⟨B2, r :: rs, M2, Same.trans e1 e2, w2, .cons (r1.mono e2) r2, h2⟩)
/-- all are data -/
def wD : List R → (List PyData → Prop) → Prop
  | [], k => k []
  | .d x :: rs, k => wD rs fun ds => k (x :: ds)
  | .raw _ :: _, _ => False
  | .scr _ _ :: _, _ => False
theorem wD_inv {B : Hp} : ∀ {rs : List R} {k : List PyData → Prop} {vs : List V}, wD rs k → RelRs B rs vs → ∃ ds, DaA B vs ds ∧ k ds
  | [], _, _, h, .nil => ⟨[], .nil, h⟩
  | .d x :: rs, k, _, h, .cons r1 r2 => by
    obtain ⟨ds, h1, h2⟩ := wD_inv (rs := rs) h r2
    exact ⟨x :: ds, .cons r1 h1, h2⟩
  | .raw _ :: _, _, _, h, _ => h.elim
  | .scr _ _ :: _, _, _, h, _ => h.elim
theorem we_tup {k : Nat} (h : WA X es ρ M fun rs M1 => wD rs fun ds => ds.length ≤ sizeLine ∧ Q (.d (.tuple ds)) M1) : WE X (.Tuple es k pos) ρ M Q := fun σ H B w => by
  refine rE_of (pe_tup pa_rA) ((h σ H B w).imp fun vs H1 ⟨B1, rs, M1, e1, w1, r1, h1⟩ => ?_)
  obtain ⟨ds, hd, hl, q⟩ := wD_inv h1 r1
  exact ⟨by rw [hd.length]; exact hl, fun p hp => ⟨upd B1 p (.tup vs), .d (.tuple ds), M1, Same.trans e1 (Same.frozen w1.o.ex hp), w1.frozen hp, Da.tup upd_same (DaA.mono (Same.frozen w1.o.ex hp) _ hd), q⟩⟩
/-- a new list that is not changed later -/
theorem we_lst (h : WA X es ρ M fun rs M1 => wD rs fun ds => ds.length ≤ sizeLine ∧ Q (.d (.list ds)) M1) : WE X (.List es pos) ρ M Q := fun σ H B w => by
  refine rE_of (pe_lst pa_rA) ((h σ H B w).imp fun vs H1 ⟨B1, rs, M1, e1, w1, r1, h1⟩ => ?_)
  obtain ⟨ds, hd, hl, q⟩ := wD_inv h1 r1
  exact ⟨by rw [hd.length]; exact hl, fun p hp => ⟨upd B1 p (.lst vs), .d (.list ds), M1, Same.trans e1 (Same.frozen w1.o.ex hp), w1.frozen hp, Da.lst upd_same (DaA.mono (Same.frozen w1.o.ex hp) _ hd), q⟩⟩
/-- a new list of one's own -/
theorem we_lstR (h : WA X es ρ M fun rs M1 => rs.length ≤ sizeLine ∧ ∀ p, M1 p = none → Q (.raw (.ref p)) (mset M1 p (.lst rs))) : WE X (.List es pos) ρ M Q := fun σ H B w => by
  refine rE_of (pe_lst pa_rA) ((h σ H B w).imp fun vs H1 ⟨B1, rs, M1, e1, w1, r1, hl, q⟩ => ?_)
  exact ⟨by rw [← Paired.length r1]; exact hl, fun p hp => ⟨B1, .raw (.ref p), mset M1 p (.lst rs), e1, w1.made hp ⟨vs, rfl, r1⟩, rfl, q p (w1.o.free hp)⟩⟩
end
end G
namespace G
open PySem PySem.Spec L2
section
variable {X : Cx} {ρ : Rho} {M : Mem} {Q : RK} {e a b c : Expr} {es rest : List Expr} {pos : Pos} {r x y : R}

/-! ### operations on values -/
theorem wo_of {f : Value → Value → Sem Value} {rr : R2} (h : OpR X f rr) (q : ∀ (ρ : Rho) (σ : St) (H B : Hp) (u v : V), Sat ρ M σ B H → RelR B x u → RelR B y v → rr u v H (Post ρ σ B Q)) : WO X f x y M Q :=
  fun ρ σ H B u v w r1 r2 => rOp_of h (q ρ σ H B u v w r1 r2)
theorem wo_ints {f : Value → Value → Sem Value} {C : Int → Int → Prop} {g : Int → Int → Int} (h : OpR X f (rI C fun i j => .int (g i j))) {i j : Int} (hc : C i j) (q : Q (.d (.int (g i j))) M) : WO X f (.d (.int i)) (.d (.int j)) M Q :=
  wo_of h fun ρ σ H B u v w r1 r2 => ⟨i, j, Da.int_inv r1, Da.int_inv r2, hc, B, .d (.int (g i j)), M, Same.refl B, w, Da.int _, q⟩
theorem wo_ints0 {f : Value → Value → Sem Value} {g : Int → Int → Int} (h : OpR X f (rI0 fun i j => .int (g i j))) {i j : Int} (q : Q (.d (.int (g i j))) M) : WO X f (.d (.int i)) (.d (.int j)) M Q :=
  wo_of h fun ρ σ H B u v w r1 r2 => ⟨i, j, Da.int_inv r1, Da.int_inv r2, B, .d (.int (g i j)), M, Same.refl B, w, Da.int _, q⟩
theorem wo_intsB {f : Value → Value → Sem Value} {g : Int → Int → Bool} (h : OpR X f (rI0 fun i j => .bl (g i j))) {i j : Int} (q : Q (.d (.bool (g i j))) M) : WO X f (.d (.int i)) (.d (.int j)) M Q :=
  wo_of h fun ρ σ H B u v w r1 r2 => ⟨i, j, Da.int_inv r1, Da.int_inv r2, B, .d (.bool (g i j)), M, Same.refl B, w, Da.bl _, q⟩
theorem wo_add {i j : Int} (q : Q (.d (.int (i + j))) M) : WO X (binaryOp .Add) (.d (.int i)) (.d (.int j)) M Q := wo_ints0 op_add q
theorem wo_sub {i j : Int} (q : Q (.d (.int (i - j))) M) : WO X (binaryOp .Sub) (.d (.int i)) (.d (.int j)) M Q := wo_ints0 op_sub q
theorem wo_mul {i j : Int} (hc : (-(2 ^ 64) < i ∧ i < 2 ^ 64) ∨ (-(2 ^ 64) < j ∧ j < 2 ^ 64)) (q : Q (.d (.int (i * j))) M) : WO X (binaryOp .Mult) (.d (.int i)) (.d (.int j)) M Q := wo_ints op_mul hc q
theorem wo_fdiv {i j : Int} (h0 : 0 < j) (h1 : j < 1073741824) (q : Q (.d (.int (i / j))) M) : WO X (binaryOp .FloorDiv) (.d (.int i)) (.d (.int j)) M Q := wo_ints op_fdiv ⟨h0, h1⟩ q
theorem wo_mod {i j : Int} (h0 : 0 < j) (q : Q (.d (.int (i % j))) M) : WO X (binaryOp .Mod) (.d (.int i)) (.d (.int j)) M Q := wo_ints op_mod h0 q
theorem wo_pow {i j : Int} (h0 : 0 ≤ j) (h1 : j ≤ 1000000) (h2 : i.natAbs < 2 ^ 64) (q : Q (.d (.int (i ^ j.toNat))) M) : WO X (binaryOp .Pow) (.d (.int i)) (.d (.int j)) M Q := wo_ints op_pow ⟨h0, h1, h2⟩ q
theorem wo_lt {i j : Int} (q : Q (.d (.bool (decide (i < j)))) M) : WO X (compareOp .Lt) (.d (.int i)) (.d (.int j)) M Q := wo_intsB op_lt q
theorem wo_le {i j : Int} (q : Q (.d (.bool (decide (i ≤ j)))) M) : WO X (compareOp .LtE) (.d (.int i)) (.d (.int j)) M Q := wo_intsB op_le q
theorem wo_gt {i j : Int} (q : Q (.d (.bool (decide (j < i)))) M) : WO X (compareOp .Gt) (.d (.int i)) (.d (.int j)) M Q := wo_intsB op_gt q
theorem wo_ge {i j : Int} (q : Q (.d (.bool (decide (j ≤ i)))) M) : WO X (compareOp .GtE) (.d (.int i)) (.d (.int j)) M Q := wo_intsB op_ge q
theorem wo_eqI {i j : Int} (q : Q (.d (.bool (decide (i = j)))) M) : WO X (compareOp .Eq) (.d (.int i)) (.d (.int j)) M Q :=
  wo_of op_eq fun ρ σ H B u v w r1 r2 => by
    have e1 := Da.int_inv r1
    have e2 := Da.int_inv r2
    subst e1 e2
    refine ⟨rfl, B, .d (.bool (decide (i = j))), M, Same.refl B, w, ?_, q⟩
    rw [show decide (V.int i = V.int j) = decide (i = j) by simp]
    exact Da.bl _
theorem wo_neI {i j : Int} (q : Q (.d (.bool (!decide (i = j)))) M) : WO X (compareOp .NotEq) (.d (.int i)) (.d (.int j)) M Q :=
  wo_of op_ne fun ρ σ H B u v w r1 r2 => by
    have e1 := Da.int_inv r1
    have e2 := Da.int_inv r2
    subst e1 e2
    refine ⟨rfl, B, .d (.bool (!decide (i = j))), M, Same.refl B, w, ?_, q⟩
    rw [show decide (V.int i = V.int j) = decide (i = j) by simp]
    exact Da.bl _
theorem wo_neS {i j : Str} (q : Q (.d (.bool (!decide (i = j)))) M) : WO X (compareOp .NotEq) (.d (.str i)) (.d (.str j)) M Q :=
  wo_of op_ne fun ρ σ H B u v w r1 r2 => by
    have e1 := Da.str_inv r1
    have e2 := Da.str_inv r2
    subst e1 e2
    refine ⟨rfl, B, .d (.bool (!decide (i = j))), M, Same.refl B, w, ?_, q⟩
    rw [show decide (V.str i = V.str j) = decide (i = j) by simp]
    exact Da.bl _
theorem wo_eqS {i j : Str} (q : Q (.d (.bool (decide (i = j)))) M) : WO X (compareOp .Eq) (.d (.str i)) (.d (.str j)) M Q :=
  wo_of op_eq fun ρ σ H B u v w r1 r2 => by
    have e1 := Da.str_inv r1
    have e2 := Da.str_inv r2
    subst e1 e2
    refine ⟨rfl, B, .d (.bool (decide (i = j))), M, Same.refl B, w, ?_, q⟩
    rw [show decide (V.str i = V.str j) = decide (i = j) by simp]
    exact Da.bl _

/-! ### data without dicts, for the library's == -/
mutual
theorem Da.dp {K : PySem.W.Frag} {B H : Hp} (e : Same B H) : ∀ (d : PyData) {v : V}, d.canLay0 = true → Da B v d → Dp K H v d
  | .none, _, _, h => by cases h; exact .non
  | .bool b, _, _, h => by cases h; exact .bl b
  | .int i, _, _, h => by cases h; exact .int i
  | .str x, _, _, h => by cases h; exact .str x
  | .list ds, _, k, h => by
    cases h with
    | lst q a => exact .lst (SqL.of (e _ _ q)) (DaA.dp e ds (by simpa [PyData.canLay0] using k) a)
  | .tuple ds, _, k, h => by
    cases h with
    | tup q a => exact .tup (SqT.of (e _ _ q)) (DaA.dp e ds (by simpa [PyData.canLay0] using k) a)
  | .dict _, _, k, h => by simp [PyData.canLay0] at k
theorem DaA.dp {K : PySem.W.Frag} {B H : Hp} (e : Same B H) : ∀ (ds : List PyData) {vs : List V}, PyData.canLayAll0 ds = true → DaA B vs ds → DpAll K H vs ds
  | [], _, _, h => by cases h; exact .nil
  | d :: ds, _, k, h => by
    cases h with
    | cons a b =>
      have k' : d.canLay0 = true ∧ PyData.canLayAll0 ds = true := by simpa [PyData.canLayAll0] using k
      exact .cons (Da.dp e d k'.1 a) (DaA.dp e ds k'.2 b)
end
theorem wo_eqD (hu : X.A.units + 64 < cLine) {d f : PyData} (hd : SeqAt.shaped d = true) (hf : SeqAt.shaped f = true) (q : Q (.d (.bool (PyData.eqv d f))) M) : WO X (compareOp .Eq) (.d d) (.d f) M Q :=
  wo_of (op_eqD hu) fun ρ σ H B u v w r1 r2 => ⟨d, f, Da.dp w.o.ex d (SeqAt.canLay_of_shaped hd) r1, Da.dp w.o.ex f (SeqAt.canLay_of_shaped hf) r2, hd, hf, B, .d (.bool (PyData.eqv d f)), M, Same.refl B, w, Da.bl _, q⟩
theorem wo_neD (hu : X.A.units + 64 < cLine) {d f : PyData} (hd : SeqAt.shaped d = true) (hf : SeqAt.shaped f = true) (q : Q (.d (.bool (!PyData.eqv d f))) M) : WO X (compareOp .NotEq) (.d d) (.d f) M Q :=
  wo_of (op_neD hu) fun ρ σ H B u v w r1 r2 => ⟨d, f, Da.dp w.o.ex d (SeqAt.canLay_of_shaped hd) r1, Da.dp w.o.ex f (SeqAt.canLay_of_shaped hf) r2, hd, hf, B, .d (.bool (!PyData.eqv d f)), M, Same.refl B, w, Da.bl _, q⟩
/-- is None -/
def isNon : R → Bool
  | .d .none => true
  | .raw .non => true
  | _ => false
theorem isNon_rel {B : Hp} : ∀ {r : R} {v : V}, RelR B r v → decide (v = .non) = isNon r
  | .d d, _, h => by
    have h' : Da B _ d := h
    cases h' <;> rfl
  | .raw w, v, h => by
    have h' : v = w := h
    subst h'
    cases v <;> rfl
  | .scr K ns, v, h => by
    obtain ⟨a, rfl, _⟩ := h
    rfl
theorem wo_isN {x : R} (q : Q (.d (.bool (isNon x))) M) : WO X (compareOp .Is) x (.d .none) M Q :=
  wo_of op_isN fun ρ σ H B u v w r1 r2 => ⟨Da.none_inv r2, B, .d (.bool (isNon x)), M, Same.refl B, w, by rw [isNon_rel r1]; exact Da.bl _, q⟩
theorem wo_notN {x : R} (q : Q (.d (.bool (!isNon x))) M) : WO X (compareOp .IsNot) x (.d .none) M Q :=
  wo_of op_notN fun ρ σ H B u v w r1 r2 => ⟨Da.none_inv r2, B, .d (.bool (!isNon x)), M, Same.refl B, w, by rw [isNon_rel r1]; exact Da.bl _, q⟩
theorem wu_neg {i : Int} (q : Q (.d (.int (-i))) M) : WU X (unaryOp .USub) (.d (.int i)) M Q := fun ρ σ H B v w r => rUn_of un_neg ⟨i, Da.int_inv r, B, .d (.int (-i)), M, Same.refl B, w, Da.int _, q⟩

/-! ### built-ins called by their names -/
theorem we_callB {id : String} {n : Str} {p : Pos} (hm : X.mg n = none) (hv : bootBuiltins n = some (.builtin id)) (h : WA X (e :: es) ρ M fun rs M1 => WC X (.builtin id) rs M1 Q) (hg : Gl X n := by with_unfolding_all rfl) (hn : n ≠ "__name__" := by decide) (hd : (n == ("__debug__" : Str)) = false := by decide)
    (he : starEach (e :: es) X.env = (false, eval e X.env) :: starEach es X.env := by with_unfolding_all rfl) (hpl : (backTo pos (starEach es X.env)).any (·.1) = false := by with_unfolding_all rfl) : WE X (.Call (.Name n p) (e :: es) [] pos) ρ M Q := fun σ H B w =>
  rE_of (pe_callB callR_rCa hg hm hv pa_rA hn hd he hpl) ((h σ H B w).imp fun vs H1 ⟨B1, rs, M1, e1, w1, r1, h1⟩ pins s σ' us I rv => thn (h1 ρ σ H1 B1 vs w1 r1 pins s σ' us I rv) fun _ _ ⟨v, H', I', rv, q⟩ => ⟨v, H', I', rv, q.trans e1⟩)
theorem we_callTy {id : String} {n : Str} {p : Pos} (hm : X.mg n = none) (hv : bootBuiltins n = some (.type id)) (h : WA X (e :: es) ρ M fun rs M1 => WC X (.type id) rs M1 Q) (hg : Gl X n := by with_unfolding_all rfl) (hn : n ≠ "__name__" := by decide) (hd : (n == ("__debug__" : Str)) = false := by decide)
    (he : starEach (e :: es) X.env = (false, eval e X.env) :: starEach es X.env := by with_unfolding_all rfl) (hpl : (backTo pos (starEach es X.env)).any (·.1) = false := by with_unfolding_all rfl) : WE X (.Call (.Name n p) (e :: es) [] pos) ρ M Q := fun σ H B w =>
  rE_of (pe_callTy callR_rCa hg hm hv pa_rA hn hd he hpl) ((h σ H B w).imp fun vs H1 ⟨B1, rs, M1, e1, w1, r1, h1⟩ pins s σ' us I rv => thn (h1 ρ σ H1 B1 vs w1 r1 pins s σ' us I rv) fun _ _ ⟨v, H', I', rv, q⟩ => ⟨v, H', I', rv, q.trans e1⟩)
theorem wc_of {f : Value} {rr : List V → Hp → VK → Prop} {rs : List R} (h : CallR X f rr) (q : ∀ (ρ : Rho) (σ : St) (H B : Hp) (vs : List V), Sat ρ M σ B H → RelRs B rs vs → rr vs H (Post ρ σ B Q)) : WC X f rs M Q :=
  fun ρ σ H B vs w r1 => rCa_of h (q ρ σ H B vs w r1)
theorem rel1 {B : Hp} {x : R} {vs : List V} (h : RelRs B [x] vs) : ∃ v, vs = [v] ∧ RelR B x v := by
  cases h with
  | cons a t => cases t; exact ⟨_, rfl, a⟩
theorem rel2 {B : Hp} {x y : R} {vs : List V} (h : RelRs B [x, y] vs) : ∃ v u, vs = [v, u] ∧ RelR B x v ∧ RelR B y u := by
  cases h with
  | cons a t =>
    cases t with
    | cons b t => cases t; exact ⟨_, _, rfl, a, b⟩
theorem Da.tup_inv {B : Hp} {v : V} {ds : List PyData} (h : Da B v (.tuple ds)) : ∃ a xs, v = .ref a ∧ B a = some (.tup xs) ∧ DaA B xs ds := by
  cases h with
  | tup q r => exact ⟨_, _, rfl, q, r⟩
theorem Da.lst_inv {B : Hp} {v : V} {ds : List PyData} (h : Da B v (.list ds)) : ∃ a xs, v = .ref a ∧ B a = some (.lst xs) ∧ DaA B xs ds := by
  cases h with
  | lst q r => exact ⟨_, _, rfl, q, r⟩
theorem wc_lenT {ds : List PyData} (q : Q (.d (.int (ds.length : Int))) M) : WC X (.builtin "len") [.d (.tuple ds)] M Q :=
  wc_of call_len_seq fun ρ σ H B vs w r => by
    obtain ⟨v, rfl, r1⟩ := rel1 r
    obtain ⟨p, xs, rfl, hp, hx⟩ := Da.tup_inv r1
    exact ⟨p, xs, rfl, .inr (SqT.of (w.o.ex _ _ hp)), B, .d (.int (ds.length : Int)), M, Same.refl B, w, by rw [hx.length]; exact Da.int _, q⟩
theorem wc_lenL {ds : List PyData} (q : Q (.d (.int (ds.length : Int))) M) : WC X (.builtin "len") [.d (.list ds)] M Q :=
  wc_of call_len_seq fun ρ σ H B vs w r => by
    obtain ⟨v, rfl, r1⟩ := rel1 r
    obtain ⟨p, xs, rfl, hp, hx⟩ := Da.lst_inv r1
    exact ⟨p, xs, rfl, .inl (SqL.of (w.o.ex _ _ hp)), B, .d (.int (ds.length : Int)), M, Same.refl B, w, by rw [hx.length]; exact Da.int _, q⟩
theorem wc_lenR {p : Addr} {rs : List R} (hp : M p = some (.lst rs)) (q : Q (.d (.int (rs.length : Int))) M) : WC X (.builtin "len") [.raw (.ref p)] M Q :=
  wc_of call_len_seq fun ρ σ H B vs w r => by
    obtain ⟨v, rfl, r1⟩ := rel1 r
    have r1' : v = .ref p := r1
    subst r1'
    obtain ⟨_, o, ho, xs, rfl, hx⟩ := w.o.own p _ hp
    exact ⟨p, xs, rfl, .inl (SqL.of ho), B, .d (.int (rs.length : Int)), M, Same.refl B, w, by rw [Paired.length hx]; exact Da.int _, q⟩
theorem wc_abs {i : Int} (q : Q (.d (.int (if i < 0 then -i else i))) M) : WC X (.builtin "abs") [.d (.int i)] M Q :=
  wc_of call_abs fun ρ σ H B vs w r => by
    obtain ⟨v, rfl, r1⟩ := rel1 r
    have e := Da.int_inv r1
    subst e
    exact ⟨i, rfl, B, .d (.int (if i < 0 then -i else i)), M, Same.refl B, w, Da.int _, q⟩
theorem wc_max2 (hc : X.calm = true) {i j : Int} (q : Q (.d (.int (if j > i then j else i))) M) : WC X (.builtin "max") [.d (.int i), .d (.int j)] M Q :=
  wc_of (call_max2 hc) fun ρ σ H B vs w r => by
    obtain ⟨v, u, rfl, r1, r2⟩ := rel2 r
    have e := Da.int_inv r1
    have e2 := Da.int_inv r2
    subst e e2
    exact ⟨i, j, rfl, B, .d (.int (if j > i then j else i)), M, Same.refl B, w, Da.int _, q⟩
theorem wc_min2 (hc : X.calm = true) {i j : Int} (q : Q (.d (.int (if j < i then j else i))) M) : WC X (.builtin "min") [.d (.int i), .d (.int j)] M Q :=
  wc_of (call_min2 hc) fun ρ σ H B vs w r => by
    obtain ⟨v, u, rfl, r1, r2⟩ := rel2 r
    have e := Da.int_inv r1
    have e2 := Da.int_inv r2
    subst e e2
    exact ⟨i, j, rfl, B, .d (.int (if j < i then j else i)), M, Same.refl B, w, Da.int _, q⟩
theorem wc_int {i : Int} (q : Q (.d (.int i)) M) : WC X (.type "int") [.d (.int i)] M Q :=
  wc_of call_int1 fun ρ σ H B vs w r => by
    obtain ⟨v, rfl, r1⟩ := rel1 r
    have e := Da.int_inv r1
    subst e
    exact .inl ⟨i, rfl, B, .d (.int i), M, Same.refl B, w, Da.int _, q⟩
theorem wc_intB {k : Bool} (q : Q (.d (.int (if k then 1 else 0))) M) : WC X (.type "int") [.d (.bool k)] M Q :=
  wc_of call_int1 fun ρ σ H B vs w r => by
    obtain ⟨v, rfl, r1⟩ := rel1 r
    have e := Da.bool_inv r1
    subst e
    exact .inr ⟨k, rfl, B, .d (.int (if k then 1 else 0)), M, Same.refl B, w, Da.int _, q⟩
theorem wc_tupleL {ds : List PyData} (q : Q (.d (.tuple ds)) M) : WC X (.type "tuple") [.d (.list ds)] M Q :=
  wc_of call_tuple_of fun ρ σ H B vs w r => by
    obtain ⟨v, rfl, r1⟩ := rel1 r
    obtain ⟨p, xs, rfl, hp, hx⟩ := Da.lst_inv r1
    refine ⟨p, xs, rfl, .inl ⟨SqL.of (w.o.ex _ _ hp), fun l hl => ?_⟩⟩
    exact ⟨upd B l (.tup xs), .d (.tuple ds), M, Same.frozen w.o.ex hl, w.frozen hl, Da.tup upd_same (DaA.mono (Same.frozen w.o.ex hl) _ hx), q⟩
theorem wc_tupleT {ds : List PyData} (q : Q (.d (.tuple ds)) M) : WC X (.type "tuple") [.d (.tuple ds)] M Q :=
  wc_of call_tuple_of fun ρ σ H B vs w r => by
    obtain ⟨v, rfl, r1⟩ := rel1 r
    obtain ⟨p, xs, rfl, hp, hx⟩ := Da.tup_inv r1
    exact ⟨p, xs, rfl, .inr ⟨SqT.of (w.o.ex _ _ hp), B, .d (.tuple ds), M, Same.refl B, w, r1, q⟩⟩
/-- tuple(a list of one's own that holds data) -/
theorem relRs_d {B : Hp} : ∀ {ds : List PyData} {vs : List V}, RelRs B (ds.map R.d) vs → DaA B vs ds
  | [], _, .nil => .nil
  | _ :: _, _, .cons a t => .cons a (relRs_d t)
theorem relRs_of {B : Hp} : ∀ {ds : List PyData} {vs : List V}, DaA B vs ds → RelRs B (ds.map R.d) vs
  | [], _, .nil => .nil
  | _ :: _, _, .cons a t => .cons a (relRs_of t)
theorem wc_tupleR {p : Addr} {ds : List PyData} (hp : M p = some (.lst (ds.map R.d))) (q : Q (.d (.tuple ds)) M) : WC X (.type "tuple") [.raw (.ref p)] M Q :=
  wc_of call_tuple_of fun ρ σ H B vs w r => by
    obtain ⟨v, rfl, r1⟩ := rel1 r
    have r1' : v = .ref p := r1
    subst r1'
    obtain ⟨_, o, ho, xs, rfl, hx⟩ := w.o.own p _ hp
    refine ⟨p, xs, rfl, .inl ⟨SqL.of ho, fun l hl => ?_⟩⟩
    exact ⟨upd B l (.tup xs), .d (.tuple ds), M, Same.frozen w.o.ex hl, w.frozen hl, Da.tup upd_same (DaA.mono (Same.frozen w.o.ex hl) _ (relRs_d hx)), q⟩
/-- the items of a list or tuple of data -/
def seqD : PyData → Option (List PyData)
  | .list ds => some ds
  | .tuple ds => some ds
  | _ => none
theorem seqD_inv {B H : Hp} {K : PySem.W.Frag} (ex : Same B H) {d : PyData} {ds : List PyData} {v : V} (h : seqD d = some ds) (r : Da B v d) : ∃ a xs, v = .ref a ∧ (SqL K H a xs ∨ SqT K H a xs) ∧ DaA B xs ds := by
  cases d with
  | list es =>
    cases h
    obtain ⟨a, xs, e, hp, hx⟩ := Da.lst_inv r
    exact ⟨a, xs, e, .inl (SqL.of (ex _ _ hp)), hx⟩
  | tuple es =>
    cases h
    obtain ⟨a, xs, e, hp, hx⟩ := Da.tup_inv r
    exact ⟨a, xs, e, .inr (SqT.of (ex _ _ hp)), hx⟩
  | _ => cases h
/-- list(..), not changed later; of one's own -/
theorem wc_list {d : PyData} {ds : List PyData} (h : seqD d = some ds) (q : Q (.d (.list ds)) M) : WC X (.type "list") [.d d] M Q :=
  wc_of call_list_of fun ρ σ H B vs w r => by
    obtain ⟨v, rfl, r1⟩ := rel1 r
    obtain ⟨p, xs, rfl, hp, hx⟩ := seqD_inv (K := X.K) w.o.ex h r1
    exact ⟨p, xs, rfl, hp, fun l hl => ⟨upd B l (.lst xs), .d (.list ds), M, Same.frozen w.o.ex hl, w.frozen hl, Da.lst upd_same (DaA.mono (Same.frozen w.o.ex hl) _ hx), q⟩⟩
theorem wc_listR {d : PyData} {ds : List PyData} (h : seqD d = some ds) (q : ∀ p, M p = none → Q (.raw (.ref p)) (mset M p (.lst (ds.map R.d)))) : WC X (.type "list") [.d d] M Q :=
  wc_of call_list_of fun ρ σ H B vs w r => by
    obtain ⟨v, rfl, r1⟩ := rel1 r
    obtain ⟨p, xs, rfl, hp, hx⟩ := seqD_inv (K := X.K) w.o.ex h r1
    exact ⟨p, xs, rfl, hp, fun l hl => ⟨B, .raw (.ref l), _, Same.refl B, w.made (c := .lst (ds.map R.d)) hl ⟨xs, rfl, relRs_of hx⟩, rfl, q l (w.o.free hl)⟩⟩

/-! ### isinstance -/
def tyD : PyData → String
  | .none => "NoneType" | .bool _ => "bool" | .int _ => "int" | .str _ => "str" | .list _ => "list" | .tuple _ => "tuple" | .dict _ => "dict"
def isiD (d : PyData) (t : String) : Bool := (kitB (tyD d) t).getD false
theorem tyx_of {K : PySem.W.Frag} {B H : Hp} (ex : Same B H) : ∀ {d : PyData} {v : V}, Da B v d → TyX K H v (.type (tyD d)) := fun {d v} h => by
  cases h with
  | non => exact .base .non
  | bl b => exact .base (.bl b)
  | int i => exact .base (.int i)
  | str x => exact .base (.str x)
  | lst q r => exact .base (.lst (ex _ _ q))
  | tup q r => exact .base (.tup (ex _ _ q))
  | dct q => exact .base (.dK (ex _ _ q))
theorem wc_isi {d : PyData} {t : String} {k : Bool} (h : kitB (tyD d) t = some k) (q : Q (.d (.bool k)) M) : WC X (.builtin "isinstance") [.d d, .raw (.ty t)] M Q :=
  wc_of call_isi fun ρ σ H B vs w r => by
    obtain ⟨v, u, rfl, r1, r2⟩ := rel2 r
    have r2' : u = .ty t := r2
    subst r2'
    exact ⟨v, .ty t, .type (tyD d), .type t, k, rfl, .ty t, tyx_of w.o.ex r1, kit_ty h, B, .d (.bool k), M, Same.refl B, w, Da.bl _, q⟩
end
end G
namespace G
open PySem PySem.Spec L2
section
variable {X : Cx} {ρ : Rho} {M : Mem} {Q : RK} {e a b c : Expr} {es rest : List Expr} {pos : Pos} {r x y : R}

/-! ### subscripts -/
def rIxW (X : Cx) : R2 := fun x y H Q => ∀ (value slice : Expr) (pins : List (Addr × Obj)) (s : Shared) (σ : St) (v u : Value), Inv X pins σ H s → RelV x v → RelV y u →
  subscripted slice false v u = operate [v, u] (getItem v u) → wpAny (model X.prog X.w) X.A (PyProof.Rows.subscriptTail value slice v u) (EP X pins σ Q) X.xe s
theorem ixR_rIxW : IxR X (rIxW X) := fun value slice pins s σ H x y v u Q I r1 r2 h hs => h value slice pins s σ v u I r1 r2 hs
def WI (X : Cx) (x y : R) (M : Mem) (Q : RK) : Prop := ∀ ρ σ H B v u, Sat ρ M σ B H → RelR B x v → RelR B y u → rIxW X v u H (Post ρ σ B Q)
theorem we_ix (h : WE X a ρ M fun x M1 => WE X b ρ M1 fun y M2 => WI X x y M2 Q) (hs : PlainIx b := by with_unfolding_all (intro _ _; rfl)) : WE X (.Subscript a b pos) ρ M Q := fun σ H B w =>
  rE_of (pe_ix ixR_rIxW pe_rE pe_rE hs) (seq2 (K2 := fun u v H2 => rIxW X u v H2 (Post ρ σ B Q)) w
    (h.imp fun x M1 h1 => h1.imp fun y M2 h2 H2 B1 u v w2 r1 r2 e value slice pins s σ' v' u' I q1 q2 q3 =>
      thn (h2 ρ σ H2 B1 u v w2 r1 r2 value slice pins s σ' v' u' I q1 q2 q3) fun _ _ ⟨z, H', I', rv, q⟩ => ⟨z, H', I', rv, q.trans e⟩))
theorem wi_of {rr : R2} (h : IxR X rr) (q : ∀ (ρ : Rho) (σ : St) (H B : Hp) (u v : V), Sat ρ M σ B H → RelR B x u → RelR B y v → rr u v H (Post ρ σ B Q)) : WI X x y M Q :=
  fun ρ σ H B u v w r1 r2 value slice pins s σ' v' u' I q1 q2 q3 => h value slice pins s σ' H u v v' u' _ I q1 q2 (q ρ σ H B u v w r1 r2) q3
theorem atI_rel {B : Hp} {vs : List V} {ds : List PyData} {i : Int} {d : PyData} (h : DaA B vs ds) (e : atI ds i = some d) : ∃ v, atI vs i = some v ∧ Da B v d := by
  unfold atI at e ⊢
  rw [h.length]
  cases q : ixN ds.length i with
  | none => rw [q] at e; cases e
  | some j =>
    rw [q] at e
    obtain ⟨v, h1, h2⟩ := h.get e
    exact ⟨v, h1, h2⟩
theorem wi_tup {ds : List PyData} {i : Int} {d : PyData} (e : atI ds i = some d) (q : Q (.d d) M) : WI X (.d (.tuple ds)) (.d (.int i)) M Q :=
  wi_of ix_tup fun ρ σ H B u v w r1 r2 => by
    obtain ⟨p, xs, rfl, hp, hx⟩ := Da.tup_inv r1
    obtain ⟨z, h1, h2⟩ := atI_rel hx e
    exact ⟨p, xs, i, z, rfl, Da.int_inv r2, SqT.of (w.o.ex _ _ hp), h1, B, .d d, M, Same.refl B, w, h2, q⟩
theorem wi_lst {ds : List PyData} {i : Int} {d : PyData} (e : atI ds i = some d) (q : Q (.d d) M) : WI X (.d (.list ds)) (.d (.int i)) M Q :=
  wi_of ix_list fun ρ σ H B u v w r1 r2 => by
    obtain ⟨p, xs, rfl, hp, hx⟩ := Da.lst_inv r1
    obtain ⟨z, h1, h2⟩ := atI_rel hx e
    exact ⟨p, xs, i, z, rfl, Da.int_inv r2, SqL.of (w.o.ex _ _ hp), h1, B, .d d, M, Same.refl B, w, h2, q⟩
theorem atI_relR {B : Hp} {vs : List V} {ds : List R} {i : Int} {d : R} (h : RelRs B ds vs) (e : atI ds i = some d) : ∃ v, atI vs i = some v ∧ RelR B d v := by
  unfold atI at e ⊢
  rw [← Paired.length h]
  cases q : ixN ds.length i with
  | none => rw [q] at e; cases e
  | some j =>
    rw [q] at e
    obtain ⟨v, h1, h2⟩ := paired_get h e
    exact ⟨v, h1, h2⟩
theorem wi_raw {p : Addr} {rs : List R} {i : Int} {d : R} (hp : M p = some (.lst rs)) (e : atI rs i = some d) (q : Q d M) : WI X (.raw (.ref p)) (.d (.int i)) M Q :=
  wi_of ix_list fun ρ σ H B u v w r1 r2 => by
    have r1' : u = .ref p := r1
    subst r1'
    obtain ⟨_, o, ho, xs, rfl, hx⟩ := w.o.own p _ hp
    obtain ⟨z, h1, h2⟩ := atI_relR hx e
    exact ⟨p, xs, i, z, rfl, Da.int_inv r2, SqL.of ho, h1, B, d, M, Same.refl B, w, h2, q⟩

/-! ### slices -/
def WPo (X : Cx) (o : Option Expr) (ρ : Rho) (M : Mem) (P : Option Int → Mem → Prop) : Prop := ∀ σ H B, Sat ρ M σ B H → ∃ to, PO X o to ∧ to σ H fun i H1 => ∃ B' M', Same B B' ∧ Sat ρ M' σ B' H1 ∧ P i M'
def isI (P : Int → Mem → Prop) : RK
  | .d (.int i), M => P i M
  | _, _ => False
theorem isI_inv {P : Int → Mem → Prop} {r : R} {M : Mem} (h : isI P r M) : ∃ i, r = .d (.int i) ∧ P i M := by
  unfold isI at h
  split at h
  · exact ⟨_, rfl, h⟩
  · exact h.elim
/-- part of a slice: both are asked one after another, so each is told by its own reading -/
def rPo (X : Cx) (o : Option Expr) : TO := match o with
  | none => tNoPart
  | some e => tPart (rE X e)
theorem po_rPo {o : Option Expr} : PO X o (rPo X o) := by
  cases o with
  | none => exact po_none
  | some e => exact po_some pe_rE
/-- the part's number, none if it is left out -/
def WP (X : Cx) (o : Option Expr) (ρ : Rho) (M : Mem) (P : Option Int → Mem → Prop) : Prop := match o with
  | none => P none M
  | some e => WE X e ρ M (isI fun i M1 => P (some i) M1)
theorem wp_run {o : Option Expr} {P : Option Int → Mem → Prop} {σ : St} {H B : Hp} (h : WP X o ρ M P) (w : Sat ρ M σ B H) : rPo X o σ H fun i H1 => ∃ B' M', Same B B' ∧ Sat ρ M' σ B' H1 ∧ P i M' := by
  cases o with
  | none => exact ⟨B, M, Same.refl B, w, h⟩
  | some e =>
    have h' : WE X e ρ M (isI fun i M1 => P (some i) M1) := h
    refine (h' σ H B w).imp fun v H1 ⟨B1, r, M1, e1, w1, r1, q⟩ => ?_
    obtain ⟨i, er, q⟩ := isI_inv q
    subst er
    exact ⟨i, Da.int_inv r1, B1, M1, e1, w1, q⟩
theorem rPo.imp {o : Option Expr} {σ : St} {H : Hp} {P P' : Option Int → Hp → Prop} (h : rPo X o σ H P) (k : ∀ i H', P i H' → P' i H') : rPo X o σ H P' := by
  cases o with
  | none => exact k _ _ h
  | some e =>
    have h' : rE X e σ H (fun x H1 => ∃ i, x = .int i ∧ P (some i) H1) := h
    exact h'.imp fun v H1 ⟨i, e, q⟩ => ⟨i, e, k _ _ q⟩
def cutD (ds : List PyData) (lo hi : Option Int) : List PyData := (ds.drop (HT.sIx ds.length 0 lo)).take (HT.sIx ds.length ds.length hi - HT.sIx ds.length 0 lo)
theorem cutV_rel {B : Hp} {vs : List V} {ds : List PyData} (h : DaA B vs ds) (lo hi : Option Int) : DaA B (cutV vs lo hi) (cutD ds lo hi) := by
  unfold cutV cutD
  rw [h.length]
  exact (h.drop _).take _
theorem cutD_whole {ds : List PyData} {lo hi : Option Int} (h : HT.sIx ds.length 0 lo = 0 ∧ HT.sIx ds.length ds.length hi = ds.length) : cutD ds lo hi = ds := by
  unfold cutD
  rw [h.1, h.2]
  simp
def isT (P : List PyData → Mem → Prop) : RK
  | .d (.tuple ds), M => P ds M
  | _, _ => False
def isL (P : List PyData → Mem → Prop) : RK
  | .d (.list ds), M => P ds M
  | _, _ => False
theorem isT_inv {P : List PyData → Mem → Prop} {r : R} {M : Mem} (h : isT P r M) : ∃ ds, r = .d (.tuple ds) ∧ P ds M := by
  unfold isT at h
  split at h
  · exact ⟨_, rfl, h⟩
  · exact h.elim
theorem isL_inv {P : List PyData → Mem → Prop} {r : R} {M : Mem} (h : isL P r M) : ∃ ds, r = .d (.list ds) ∧ P ds M := by
  unfold isL at h
  split at h
  · exact ⟨_, rfl, h⟩
  · exact h.elim
/-- t[lo:hi] -/
theorem we_slT {lo hi : Option Expr} {p2 : Pos} (h : WE X e ρ M (isT fun ds M1 => WP X lo ρ M1 fun l M2 => WP X hi ρ M2 fun u M3 => Q (.d (.tuple (cutD ds l u))) M3)) : WE X (.Subscript e (.Slice lo hi none p2) pos) ρ M Q := fun σ H B w => by
  refine rE_of (pe_slice sl_tupA pe_rE po_rPo po_rPo) ((h σ H B w).imp fun v H1 ⟨B1, r, M1, e1, w1, r1, q0⟩ => ?_)
  obtain ⟨ds, er, q⟩ := isT_inv q0
  subst er
  refine (wp_run q w1).imp fun l H2 ⟨B2, M2, e2, w2, q⟩ => (wp_run q w2).imp fun u H3 ⟨B3, M3, e3, w3, q⟩ => ?_
  obtain ⟨p, xs, rfl, hp, hx⟩ := Da.tup_inv ((r1.mono e2).mono e3)
  refine ⟨p, xs, rfl, SqT.of (w3.o.ex _ _ hp), fun hw => ?_, fun _ pl hl => ?_⟩
  · rw [hx.length] at hw
    rw [cutD_whole hw] at q
    exact ⟨B3, .d (.tuple ds), M3, Same.trans e1 (Same.trans e2 e3), w3, Da.tup hp hx, q⟩
  · have fz := Same.frozen (o := .tup (cutV xs l u)) w3.o.ex hl
    exact ⟨_, .d (.tuple (cutD ds l u)), M3, Same.trans e1 (Same.trans e2 (Same.trans e3 fz)), w3.frozen hl, Da.tup upd_same (DaA.mono fz _ (cutV_rel hx _ _)), q⟩
/-- l[lo:hi], not changed later -/
theorem we_slL {lo hi : Option Expr} {p2 : Pos} (h : WE X e ρ M (isL fun ds M1 => WP X lo ρ M1 fun l M2 => WP X hi ρ M2 fun u M3 => Q (.d (.list (cutD ds l u))) M3)) : WE X (.Subscript e (.Slice lo hi none p2) pos) ρ M Q := fun σ H B w => by
  refine rE_of (pe_slice sl_list pe_rE po_rPo po_rPo) ((h σ H B w).imp fun v H1 ⟨B1, r, M1, e1, w1, r1, q0⟩ => ?_)
  obtain ⟨ds, er, q⟩ := isL_inv q0
  subst er
  refine (wp_run q w1).imp fun l H2 ⟨B2, M2, e2, w2, q⟩ => (wp_run q w2).imp fun u H3 ⟨B3, M3, e3, w3, q⟩ => ?_
  obtain ⟨p, xs, rfl, hp, hx⟩ := Da.lst_inv ((r1.mono e2).mono e3)
  refine ⟨p, xs, rfl, SqL.of (w3.o.ex _ _ hp), fun pl hl => ?_⟩
  have fz := Same.frozen (o := .lst (cutV xs l u)) w3.o.ex hl
  exact ⟨_, .d (.list (cutD ds l u)), M3, Same.trans e1 (Same.trans e2 (Same.trans e3 fz)), w3.frozen hl, Da.lst upd_same (DaA.mono fz _ (cutV_rel hx _ _)), q⟩

/-! ### + and * of tuples and lists -/
theorem DaA.nil_iff {B : Hp} {vs : List V} {ds : List PyData} (h : DaA B vs ds) : vs = [] ↔ ds = [] := by
  cases h <;> simp
theorem wo_catT {ds fs : List PyData} (hl : ds.length + fs.length ≤ sizeLine) (q : Q (.d (.tuple (ds ++ fs))) M) : WO X (binaryOp .Add) (.d (.tuple ds)) (.d (.tuple fs)) M Q :=
  wo_of op_catA fun ρ σ H B u v w r1 r2 => by
    obtain ⟨p, xs, rfl, hp, hx⟩ := Da.tup_inv r1
    obtain ⟨p2, ys, rfl, hp2, hy⟩ := Da.tup_inv r2
    refine ⟨p, p2, xs, ys, rfl, rfl, SqT.of (w.o.ex _ _ hp), SqT.of (w.o.ex _ _ hp2), by rw [hx.length, hy.length]; exact hl, fun z => ?_, fun _ z => ?_, fun _ _ l hl => ?_⟩
    · rw [hx.nil_iff.mp z] at q
      exact ⟨B, .d (.tuple fs), M, Same.refl B, w, r2, q⟩
    · rw [hy.nil_iff.mp z, List.append_nil] at q
      exact ⟨B, .d (.tuple ds), M, Same.refl B, w, r1, q⟩
    · have fz := Same.frozen (o := .tup (xs ++ ys)) w.o.ex hl
      exact ⟨_, .d (.tuple (ds ++ fs)), M, fz, w.frozen hl, Da.tup upd_same (DaA.mono fz _ (hx.append hy)), q⟩
theorem wo_catL {ds fs : List PyData} (hl : ds.length + fs.length ≤ sizeLine) (q : Q (.d (.list (ds ++ fs))) M) : WO X (binaryOp .Add) (.d (.list ds)) (.d (.list fs)) M Q :=
  wo_of op_cat fun ρ σ H B u v w r1 r2 => by
    obtain ⟨p, xs, rfl, hp, hx⟩ := Da.lst_inv r1
    obtain ⟨p2, ys, rfl, hp2, hy⟩ := Da.lst_inv r2
    refine ⟨p, p2, xs, ys, rfl, rfl, w.o.ex _ _ hp, w.o.ex _ _ hp2, by rw [hx.length, hy.length]; exact hl, fun l hl => ?_⟩
    have fz := Same.frozen (o := .lst (xs ++ ys)) w.o.ex hl
    exact ⟨_, .d (.list (ds ++ fs)), M, fz, w.frozen hl, Da.lst upd_same (DaA.mono fz _ (hx.append hy)), q⟩
/-- the sum is to be one's own -/
theorem wo_catLR {ds fs : List PyData} (hl : ds.length + fs.length ≤ sizeLine) (q : ∀ p, M p = none → Q (.raw (.ref p)) (mset M p (.lst ((ds ++ fs).map R.d)))) : WO X (binaryOp .Add) (.d (.list ds)) (.d (.list fs)) M Q :=
  wo_of op_cat fun ρ σ H B u v w r1 r2 => by
    obtain ⟨p, xs, rfl, hp, hx⟩ := Da.lst_inv r1
    obtain ⟨p2, ys, rfl, hp2, hy⟩ := Da.lst_inv r2
    refine ⟨p, p2, xs, ys, rfl, rfl, w.o.ex _ _ hp, w.o.ex _ _ hp2, by rw [hx.length, hy.length]; exact hl, fun l hl => ?_⟩
    exact ⟨B, .raw (.ref l), _, Same.refl B, w.made (c := .lst ((ds ++ fs).map R.d)) hl ⟨_, rfl, relRs_of (hx.append hy)⟩, rfl, q l (w.o.free hl)⟩

/-! ### statements -/
theorem Ends.mono {B B1 : Hp} {D : DE} (e : Same B B1) {pins : List (Addr × Obj)} {f : Flow} {s' : Shared} (h : SP X pins (ends B1 D) f s') : SP X pins (ends B D) f s' := by
  have up : ∀ {P : Rho → Mem → Prop} {σ : St} {H : Hp}, PostS B1 P σ H → PostS B P σ H := fun ⟨B', ρ, M, e', w, q⟩ => ⟨B', ρ, M, Same.trans e e', w, q⟩
  cases f with
  | next => obtain ⟨σ', H', I, q⟩ := h; exact ⟨σ', H', I, up q⟩
  | brk => obtain ⟨σ', H', I, q⟩ := h; exact ⟨σ', H', I, up q⟩
  | cont => obtain ⟨σ', H', I, q⟩ := h; exact ⟨σ', H', I, up q⟩
  | ret u => obtain ⟨v, σ', H', I, r, B', r', M, e', w, q⟩ := h; exact ⟨v, σ', H', I, r, B', r', M, Same.trans e e', w, q⟩
variable {D : DE} {st : Stmt} {sts : List Stmt}
theorem ws_ex {B B1 : Hp} {σ : St} {H : Hp} (e : Same B B1) (h : rS X st (ends B1 D) σ H) : rS X st (ends B D) σ H := fun pins s I => thn (h pins s I) fun _ _ z => Ends.mono e z
theorem wss_ex {B B1 : Hp} {σ : St} {H : Hp} (e : Same B B1) (h : rSs X sts (ends B1 D) σ H) : rSs X sts (ends B D) σ H := fun pins s I => thn (h pins s I) fun _ _ z => Ends.mono e z
theorem wss_nil (q : D.nx ρ M) : WSs X [] ρ M D := fun σ H B w => rSs_of pss_nil ⟨B, ρ, M, Same.refl B, w, q⟩
theorem wss_cons (h : WS X st ρ M { D with nx := fun ρ' M' => WSs X sts ρ' M' D }) : WSs X (st :: sts) ρ M D := fun σ H B w =>
  rSs_of (pss_cons ps_rS pss_rSs) fun pins s I => thn (h σ H B w pins s I) fun f s' q => by
    cases f with
    | next => obtain ⟨σ', H', I', B', ρ', M', e', w', q'⟩ := q; exact ⟨σ', H', I', wss_ex e' (q' σ' H' B' w')⟩
    | brk => exact q
    | cont => exact q
    | ret u => exact q
theorem wss_one (h : WS X st ρ M D) : WSs X [st] ρ M D := fun σ H B w => rSs_of (pss_one ps_rS) (h σ H B w)
/-- less is known -/
theorem WSs.sub {M' : Mem} (s : Sub M M') (h : WSs X sts ρ M D) : WSs X sts ρ M' D := fun σ H B w => h σ H B (w.sub s)
structure VarSet (X : Cx) (i : Nat) (x : Str) : Prop where
  nd : X.N.Nodup
  at_ : X.N[i]? = some x
  loc : Loc X.env.scope x
  fn : X.fn x = true ∨ X.env.scope.names.lookup x = some .local
theorem ws_set {i : Nat} {n : Str} {p : Pos} (v : VarSet X i n) (h : WE X e ρ M fun r M1 => D.nx (ρ.set i (some r)) M1) (hs : swapsWith e (some (.Name n p)) pos.line X.env = pure false := by with_unfolding_all rfl) : WS X (.Assign [.Name n p] e pos) ρ M D := fun σ H B w =>
  rS_of (ps_set v.nd v.at_ v.loc pe_rE hs v.fn) ((h σ H B w).imp fun u H1 ⟨B1, r, M1, e1, w1, r1, q⟩ => ⟨B1, _, M1, e1, ⟨w1.o, w1.s.set r1⟩, q⟩)
theorem ws_expr (h : WE X e ρ M fun _ M1 => D.nx ρ M1) (hs : swapsWith e none pos.line X.env = pure false := by with_unfolding_all rfl) : WS X (.Expr e pos) ρ M D := fun σ H B w =>
  rS_of (ps_expr pe_rE hs) ((h σ H B w).imp fun u H1 ⟨B1, r, M1, e1, w1, r1, q⟩ => ⟨B1, ρ, M1, e1, w1, q⟩)
theorem ws_ret (h : WE X e ρ M D.rt) : WS X (.Return (some e) pos) ρ M D := fun σ H B w =>
  rS_of (ps_ret pe_rE) ((h σ H B w).imp fun u H1 ⟨B1, r, M1, e1, w1, r1, q⟩ => ⟨B1, r, M1, e1, w1.o, r1, q⟩)
theorem ws_if {c : Expr} {p q : List Stmt} (h : WT X c ρ M fun k M1 => if k = true then WSs X p ρ M1 D else WSs X q ρ M1 D) : WS X (.If c p q pos) ρ M D := fun σ H B w => by
  refine rS_of (ps_if pt_rT pss_rSs pss_rSs) ((h σ H B w).imp fun k H1 ⟨B1, M1, e1, w1, h1⟩ => ?_)
  cases k with
  | true => rw [if_pos rfl] at h1 ⊢; exact wss_ex e1 (h1 σ H1 B1 w1)
  | false => rw [if_neg Bool.false_ne_true] at h1 ⊢; exact wss_ex e1 (h1 σ H1 B1 w1)
theorem ws_pass (q : D.nx ρ M) : WS X (.Pass pos) ρ M D := fun σ H B w => rS_of ps_pass ⟨B, ρ, M, Same.refl B, w, q⟩
theorem ws_break (q : D.bk ρ M) : WS X (.Break pos) ρ M D := fun σ H B w => rS_of ps_break ⟨B, ρ, M, Same.refl B, w, q⟩
theorem ws_continue (q : D.ct ρ M) : WS X (.Continue pos) ρ M D := fun σ H B w => rS_of ps_continue ⟨B, ρ, M, Same.refl B, w, q⟩
theorem ws_imp {D' : DE} (h : WS X st ρ M D) (h1 : ∀ ρ M, D.nx ρ M → D'.nx ρ M) (h2 : ∀ r M, D.rt r M → D'.rt r M) (h3 : ∀ ρ M, D.bk ρ M → D'.bk ρ M) (h4 : ∀ ρ M, D.ct ρ M → D'.ct ρ M) : WS X st ρ M D' := fun σ H B w pins s I =>
  thn (h σ H B w pins s I) fun f _ z => by
    cases f with
    | next => obtain ⟨σ', H', I, B', ρ, M, e', w, q⟩ := z; exact ⟨σ', H', I, B', ρ, M, e', w, h1 _ _ q⟩
    | brk => obtain ⟨σ', H', I, B', ρ, M, e', w, q⟩ := z; exact ⟨σ', H', I, B', ρ, M, e', w, h3 _ _ q⟩
    | cont => obtain ⟨σ', H', I, B', ρ, M, e', w, q⟩ := z; exact ⟨σ', H', I, B', ρ, M, e', w, h4 _ _ q⟩
    | ret u => obtain ⟨v, σ', H', I, r, B', r', M, e', w, rr, q⟩ := z; exact ⟨v, σ', H', I, r, B', r', M, e', w, rr, h2 _ _ q⟩

/-! ### targets -/
def rG (X : Cx) (tg : Expr) : TG := fun v σ H Q => ∀ (pins : List (Addr × Obj)) (s : Shared) (u : Value), Inv X pins σ H s → RelV v u → wpAny (model X.prog X.w) X.A (assign tg X.env u) (fun _ s' => ∃ σ' H', Inv X pins σ' H' s' ∧ Q σ' H') X.xe s
def rGs (X : Cx) (ts : List Expr) : TGs := fun vs σ H Q => ∀ (pins : List (Addr × Obj)) (s : Shared) (us : List Value), Inv X pins σ H s → Vals vs us → wpAny (model X.prog X.w) X.A (assignInOrder ((assignEach ts X.env).map (·.2)) us) (fun _ s' => ∃ σ' H', Inv X pins σ' H' s' ∧ Q σ' H') X.xe s
theorem pg_rG {tg : Expr} : PG X tg (rG X tg) := ⟨fun pins s σ H v u Q I r h => h pins s u I r⟩
theorem pgs_rGs {ts : List Expr} : PGs X ts (rGs X ts) := ⟨fun pins s σ H vs us Q I r h => h pins s us I r⟩
theorem rG_of {tg : Expr} {t : TG} {v : V} {σ : St} {H : Hp} {Q : St → Hp → Prop} (h : PG X tg t) (q : t v σ H Q) : rG X tg v σ H Q := fun pins s u I r => h.run pins s σ H v u Q I r q
theorem rGs_of {ts : List Expr} {t : TGs} {vs : List V} {σ : St} {H : Hp} {Q : St → Hp → Prop} (h : PGs X ts t) (q : t vs σ H Q) : rGs X ts vs σ H Q := fun pins s u I r => h.run pins s σ H vs u Q I r q
theorem rG.imp {tg : Expr} {v : V} {σ : St} {H : Hp} {Q Q' : St → Hp → Prop} (h : rG X tg v σ H Q) (k : ∀ σ H, Q σ H → Q' σ H) : rG X tg v σ H Q' := fun pins s u I r => thn (h pins s u I r) fun _ _ ⟨σ', H', I', q⟩ => ⟨σ', H', I', k _ _ q⟩
theorem rGs.imp {ts : List Expr} {v : List V} {σ : St} {H : Hp} {Q Q' : St → Hp → Prop} (h : rGs X ts v σ H Q) (k : ∀ σ H, Q σ H → Q' σ H) : rGs X ts v σ H Q' := fun pins s u I r => thn (h pins s u I r) fun _ _ ⟨σ', H', I', q⟩ => ⟨σ', H', I', k _ _ q⟩
/-- target = r -/
def WG (X : Cx) (tg : Expr) (r : R) (ρ : Rho) (M : Mem) (P : Rho → Mem → Prop) : Prop := ∀ σ H B v, Sat ρ M σ B H → RelR B r v → rG X tg v σ H (PostS B P)
def WGs (X : Cx) (ts : List Expr) (rs : List R) (ρ : Rho) (M : Mem) (P : Rho → Mem → Prop) : Prop := ∀ σ H B vs, Sat ρ M σ B H → RelRs B rs vs → rGs X ts vs σ H (PostS B P)
variable {P : Rho → Mem → Prop}
theorem wg_name {i : Nat} {n : Str} {p : Pos} (v : VarSet X i n) (q : P (ρ.set i (some r)) M) : WG X (.Name n p) r ρ M P := fun σ H B u w rr =>
  rG_of (pg_name v.nd v.at_ v.loc v.fn) ⟨B, _, M, Same.refl B, ⟨w.o, w.s.set rr⟩, q⟩
theorem wgs_nil (q : P ρ M) : WGs X [] [] ρ M P := fun σ H B vs w rr => by
  cases rr
  exact rGs_of pgs_nil ⟨rfl, B, ρ, M, Same.refl B, w, q⟩
theorem wgs_cons {t : Expr} {ts : List Expr} {rs : List R} (h : WG X t r ρ M fun ρ' M' => WGs X ts rs ρ' M' P) (hs : (assignEach (t :: ts) X.env).map (·.2) = assign t X.env :: (assignEach ts X.env).map (·.2) := by with_unfolding_all rfl) : WGs X (t :: ts) (r :: rs) ρ M P := fun σ H B vs w rr => by
  cases rr with
  | cons r1 r2 =>
    refine rGs_of (pgs_cons pg_rG pgs_rGs hs) ⟨_, _, rfl, (h σ H B _ w r1).imp fun σ' H' ⟨B', ρ', M', e', w', q⟩ => (q σ' H' B' _ w' (RelRs.mono e' r2)).imp fun σ'' H'' ⟨B2, ρ2, M2, e2, w2, q2⟩ => ⟨B2, ρ2, M2, Same.trans e' e2, w2, q2⟩⟩
theorem wg_tup {ts : List Expr} {k : Nat} {ds : List PyData} (hc : X.calm = true) (h : WGs X ts (ds.map R.d) ρ M P) (hn : (assignEach ts X.env).length = ds.length := by with_unfolding_all rfl) (hst : (assignEach ts X.env).findIdx? (·.1) = none := by with_unfolding_all rfl) : WG X (.Tuple ts k pos) (.d (.tuple ds)) ρ M P := fun σ H B v w rr => by
  obtain ⟨p, xs, rfl, hp, hx⟩ := Da.tup_inv rr
  exact rG_of (pg_tup hc pgs_rGs hn hst) ⟨p, xs, rfl, SqT.of (w.o.ex _ _ hp), hx.length, h σ H B xs w (relRs_of hx)⟩
theorem ws_asg {tg : Expr} (h : WE X e ρ M fun r M1 => WG X tg r ρ M1 D.nx) (hs : swapsWithSole [tg] e pos.line X.env = pure false := by with_unfolding_all rfl) (hw : swappedStores [tg] e X.env = pure none := by with_unfolding_all rfl)
    (h1 : (assignEach [tg] X.env).map (·.2) = [assign tg X.env] := by with_unfolding_all rfl) : WS X (.Assign [tg] e pos) ρ M D := fun σ H B w =>
  rS_of (ps_asg pe_rE pg_rG hs hw h1) ((h σ H B w).imp fun u H1 ⟨B1, r, M1, e1, w1, r1, q⟩ => (q σ H1 B1 u w1 r1).imp fun σ' H' ⟨B2, ρ2, M2, e2, w2, q2⟩ => ⟨B2, ρ2, M2, Same.trans e1 e2, w2, q2⟩)
end
end G
namespace G
open PySem PySem.Spec L2

/-! ### where one stands -/
structure Cf where
  P : Program
  w : World
  K : PySem.W.Frag
  mg : Str → Option Value
  base : Heap
structure CxOk (c : Cf) (lv : Nat) (N : List Str) (sc : Scope) (fb : Str → Bool) (X : Cx) : Prop where
  prog : X.prog = c.P
  w : X.w = c.w
  K : X.K = c.K
  mg : X.mg = c.mg
  base : X.base = c.base
  room : Room lv X.A
  gd : X.A.guards = some []
  hN : X.N = N
  nd : N.Nodup
  hsc : X.env.scope = sc
  hfb : X.fn = fb
  calm : X.calm = true
def idx (N : List Str) (x : Str) : Nat := N.findIdx fun y => y == x
def isVis : Option NameKind → Bool
  | some .local => true
  | some .cell => true
  | some .free => true
  | _ => false
/-- the name x stands in the list and may be read -/
def varC (N : List Str) (sc : Scope) (x : Str) : Bool := decide (N[idx N x]? = some x) && isVis (sc.names.lookup x) && !(x == ("__debug__" : Str)) && !(x == ("__classdict__" : Str))
/-- .. may be stored -/
def setC (N : List Str) (sc : Scope) (fb : Str → Bool) (x : Str) : Bool := decide (N[idx N x]? = some x) && (match sc.names.lookup x with | some .local => true | some .cell => fb x | _ => false)
def glC (sc : Scope) (x : Str) : Bool := decide (sc.names.lookup x = some .globalImplicit) && !(x == ("__debug__" : Str))
section
variable {c : Cf} {lv : Nat} {N : List Str} {sc : Scope} {fb : Str → Bool} {X : Cx} {ρ : Rho} {M : Mem} {Q : RK} {e : Expr} {es : List Expr} {pos p : Pos} {r : R} {n : Str}
theorem CxOk.varOk (h : CxOk c lv N sc fb X) (v : varC N sc n = true) : VarOk X (idx N n) n := by
  unfold varC at v
  simp only [Bool.and_eq_true, decide_eq_true_eq, Bool.not_eq_true'] at v
  obtain ⟨⟨⟨v1, v2⟩, v3⟩, v4⟩ := v
  refine ⟨by rw [h.hN]; exact v1, ?_, v3, v4⟩
  rw [h.hsc]
  unfold Vis
  cases q : sc.names.lookup n with
  | none => rw [q] at v2; cases v2
  | some k =>
    rw [q] at v2
    cases k <;> first | exact .inl rfl | exact .inr (.inl rfl) | exact .inr (.inr rfl) | cases v2
theorem CxOk.varSet (h : CxOk c lv N sc fb X) (v : setC N sc fb n = true) : VarSet X (idx N n) n := by
  unfold setC at v
  simp only [Bool.and_eq_true, decide_eq_true_eq] at v
  obtain ⟨v1, v2⟩ := v
  refine ⟨by rw [h.hN]; exact h.nd, by rw [h.hN]; exact v1, ?_, ?_⟩
  · rw [h.hsc]
    unfold L2.Loc
    split at v2
    · rename_i q; exact .inl q
    · rename_i q; exact .inr q
    · cases v2
  · rw [h.hsc, h.hfb]
    split at v2
    · rename_i q; exact .inr q
    · exact .inl v2
    · cases v2
theorem CxOk.gl (h : CxOk c lv N sc fb X) (v : glC sc n = true) : Gl X n ∧ (n == ("__debug__" : Str)) = false := by
  unfold glC at v
  simp only [Bool.and_eq_true, decide_eq_true_eq, Bool.not_eq_true'] at v
  refine ⟨?_, v.2⟩
  show X.env.scope.names.lookup n = some .globalImplicit
  rw [h.hsc]
  exact v.1
theorem CxOk.units (h : CxOk c lv N sc fb X) : X.A.units + 64 < cLine := h.room.units
theorem w_var (h : CxOk c lv N sc fb X) (v : varC N sc n = true) (hr : ρ.l[idx N n]? = some (some r)) (q : Q r M) : WE X (.Name n pos) ρ M Q := we_var (h.varOk v) hr q
theorem w_set {D : DE} (h : CxOk c lv N sc fb X) (v : setC N sc fb n = true) (q : WE X e ρ M fun r M1 => D.nx (ρ.set (idx N n) (some r)) M1) (hs : swapsWith e (some (.Name n p)) pos.line X.env = pure false := by with_unfolding_all rfl) : WS X (.Assign [.Name n p] e pos) ρ M D := ws_set (h.varSet v) q hs
theorem w_tname {P : Rho → Mem → Prop} (h : CxOk c lv N sc fb X) (v : setC N sc fb n = true) (q : P (ρ.set (idx N n) (some r)) M) : WG X (.Name n p) r ρ M P := wg_name (h.varSet v) q
theorem w_callB {id : String} (h : CxOk c lv N sc fb X) (hm : c.mg n = none) (hv : bootBuiltins n = some (.builtin id)) (v : glC sc n = true) (q : WA X (e :: es) ρ M fun rs M1 => WC X (.builtin id) rs M1 Q) (hn : n ≠ "__name__" := by decide)
    (he : starEach (e :: es) X.env = (false, eval e X.env) :: starEach es X.env := by with_unfolding_all rfl) (hpl : (backTo pos (starEach es X.env)).any (·.1) = false := by with_unfolding_all rfl) : WE X (.Call (.Name n p) (e :: es) [] pos) ρ M Q :=
  we_callB (by rw [h.mg]; exact hm) hv q (h.gl v).1 hn (h.gl v).2 he hpl
theorem w_callTy {id : String} (h : CxOk c lv N sc fb X) (hm : c.mg n = none) (hv : bootBuiltins n = some (.type id)) (v : glC sc n = true) (q : WA X (e :: es) ρ M fun rs M1 => WC X (.type id) rs M1 Q) (hn : n ≠ "__name__" := by decide)
    (he : starEach (e :: es) X.env = (false, eval e X.env) :: starEach es X.env := by with_unfolding_all rfl) (hpl : (backTo pos (starEach es X.env)).any (·.1) = false := by with_unfolding_all rfl) : WE X (.Call (.Name n p) (e :: es) [] pos) ρ M Q :=
  we_callTy (by rw [h.mg]; exact hm) hv q (h.gl v).1 hn (h.gl v).2 he hpl
theorem w_ty {t : String} (h : CxOk c lv N sc fb X) (hm : c.mg n = none) (hv : bootBuiltins n = some (.type t)) (v : glC sc n = true) (q : Q (.raw (.ty t)) M) (hn : n ≠ "__name__" := by decide) : WE X (.Name n pos) ρ M Q :=
  we_bltn (t := .ty t) (by rw [h.mg]; exact hm) hv (show RelV (.ty t) (.type t) from rfl) q (h.gl v).1 hn (h.gl v).2
end

/-! ### what is walked -/
/-- a walk over data: n turns, each gives the next of ds -/
def Walks (J : It) (B : Hp) (ds : List PyData) : Prop :=
  ∃ (G : Hp → Prop) (Y : Nat → Hp → V → Hp → Prop), Walk J ds.length G Y ∧ (∀ H, Same B H → G H) ∧
    ∀ i d, ds[i]? = some d → ∀ (B' H : Hp) (x : V) (H' : Hp) (ρ : Rho) (M : Mem) (σ : St), Same B B' → Sat ρ M σ B' H → Y i H x H' → ∃ B2, Same B' B2 ∧ Sat ρ M σ B2 H' ∧ Da B2 x d
theorem walks_tup {K : PySem.W.Frag} {a : Addr} {xs : List V} {B : Hp} {ds : List PyData} (h : B a = some (.tup xs)) (hd : DaA B xs ds) : Walks (Itt K a) B ds := by
  refine ⟨_, _, by rw [← hd.length]; exact walk_tup (xs := xs), fun H e => SqT.of (e _ _ h), fun i d hi B' H x H' ρ M σ e w y => ?_⟩
  obtain ⟨rfl, hx⟩ := y
  obtain ⟨v, h1, h2⟩ := hd.get hi
  rw [h1] at hx; cases hx
  exact ⟨B', Same.refl B', w, h2.mono e⟩
theorem walks_lst {K : PySem.W.Frag} {a : Addr} {xs : List V} {B : Hp} {ds : List PyData} (h : B a = some (.lst xs)) (hd : DaA B xs ds) : Walks (Itl K a) B ds := by
  refine ⟨_, _, by rw [← hd.length]; exact walk_list (xs := xs), fun H e => SqL.of (e _ _ h), fun i d hi B' H x H' ρ M σ e w y => ?_⟩
  obtain ⟨rfl, hx⟩ := y
  obtain ⟨v, h1, h2⟩ := hd.get hi
  rw [h1] at hx; cases hx
  exact ⟨B', Same.refl B', w, h2.mono e⟩
/-- lo, lo + 1, .. -/
def upFrom (lo : Int) (n : Nat) : List Int := (List.range n).map fun (i : Nat) => lo + (i : Int)
theorem upFrom_length (lo : Int) (n : Nat) : (upFrom lo n).length = n := by unfold upFrom; rw [List.length_map, List.length_range]
theorem upFrom_get {lo : Int} {n i : Nat} (h : i < n) : (upFrom lo n)[i]? = some (lo + (i : Int)) := by
  unfold upFrom
  rw [List.getElem?_map, List.getElem?_range h]
  rfl
theorem walks_range {B : Hp} {lo : Int} {n : Nat} : Walks (Itr lo n) B ((upFrom lo n).map PyData.int) := by
  refine ⟨_, _, by rw [List.length_map, upFrom_length]; exact walk_range, fun _ _ => True.intro, fun i d hi B' H x H' ρ M σ e w y => ?_⟩
  obtain ⟨rfl, rfl⟩ := y
  have hl : i < n := by
    have := (List.getElem?_eq_some_iff.mp hi).1
    rw [List.length_map, upFrom_length] at this
    exact this
  rw [List.getElem?_map, upFrom_get hl] at hi
  cases hi
  exact ⟨B', Same.refl B', w, Da.int _⟩
/-- what gives new pairs -/
theorem walks_pair {J : It} {B : Hp} {ds es : List PyData} {n : Nat} {G : Hp → Prop} {xs ys : Nat → Option V} (wk : Walk J n G (YPair xs ys)) (hn : n = (ds.zip es).length) (hG : ∀ H, Same B H → G H)
    (h1 : ∀ (i : Nat) (d : PyData), ds[i]? = some d → ∃ v, xs i = some v ∧ Da B v d) (h2 : ∀ (i : Nat) (d : PyData), es[i]? = some d → ∃ v, ys i = some v ∧ Da B v d) : Walks J B ((ds.zip es).map fun z => .tuple [z.1, z.2]) := by
  refine ⟨G, _, by rw [List.length_map, ← hn]; exact wk, hG, fun i d hi B' H x H' ρ M σ e w y => ?_⟩
  obtain ⟨T, u, v, rfl, hT, rfl, q1, q2⟩ := y
  rw [List.getElem?_map] at hi
  cases hz : (ds.zip es)[i]? with
  | none => rw [hz] at hi; cases hi
  | some z =>
    rw [hz] at hi
    cases hi
    obtain ⟨z1, z2⟩ := z
    have hz' := List.getElem?_zip_eq_some.mp hz
    obtain ⟨u', e1, d1⟩ := h1 i z1 hz'.1
    obtain ⟨v', e2, d2⟩ := h2 i z2 hz'.2
    rw [q1] at e1; cases e1
    rw [q2] at e2; cases e2
    have fz := Same.frozen (o := .tup [u, v]) w.o.ex hT
    exact ⟨upd B' T (.tup [u, v]), fz, w.frozen hT, Da.tup upd_same (.cons ((d1.mono e).mono fz) (.cons ((d2.mono e).mono fz) .nil))⟩
section
variable {c : Cf} {lv : Nat} {N : List Str} {sc : Scope} {fb : Str → Bool} {X : Cx} {ρ : Rho} {M : Mem} {Q : RK} {e : Expr} {es : List Expr} {pos p : Pos} {r : R} {n : Str} {tg it : Expr}
def rI (X : Cx) (tg it : Expr) : TI := fun σ H R => ∀ (pins : List (Addr × Obj)) (s : Shared), Inv X pins σ H s →
  wpAny (model X.prog X.w) X.A (eval it X.env) (fun v s1 => wpAny (model X.prog X.w) X.A (pyIter v) (PIE X pins σ tg R) X.xe s1) X.xe s
theorem pi_rI : PI X tg it (rI X tg it) := ⟨fun pins s σ H R I h => h pins s I⟩
theorem rI_of {t : TI} {σ : St} {H : Hp} {R : It → Hp → Prop} (h : PI X tg it t) (q : t σ H R) : rI X tg it σ H R := fun pins s I => h.run pins s σ H R I q
/-- the walk of it, for the target tg -/
def WIt (X : Cx) (tg it : Expr) (ρ : Rho) (M : Mem) (P : List PyData → Mem → Prop) : Prop := ∀ σ H B, Sat ρ M σ B H → rI X tg it σ H fun J H1 => ∃ B1 ds M1, Same B B1 ∧ Sat ρ M1 σ B1 H1 ∧ Walks J B1 ds ∧ P ds M1
theorem rI.imp {σ : St} {H : Hp} {R R' : It → Hp → Prop} (h : rI X tg it σ H R) (k : ∀ J H, R J H → R' J H) : rI X tg it σ H R' := fun pins s I =>
  thn (h pins s I) fun _ _ z => thn z fun _ _ ⟨it', fp, tn, J, H', e, I', T, t0, f, q⟩ => ⟨it', fp, tn, J, H', e, I', T, t0, f, k _ _ q⟩
variable {P : List PyData → Mem → Prop}
theorem wit_tup (h : WE X it ρ M (isT P)) : WIt X tg it ρ M P := fun σ H B w =>
  rI_of (pi_tup pe_rE) ((h σ H B w).imp fun v H1 ⟨B1, r, M1, e1, w1, r1, q0⟩ => by
    obtain ⟨ds, er, q⟩ := isT_inv q0
    subst er
    obtain ⟨a, xs, rfl, ha, hx⟩ := Da.tup_inv r1
    exact ⟨a, rfl, ⟨xs, SqT.of (w1.o.ex _ _ ha)⟩, B1, ds, M1, e1, w1, walks_tup ha hx, q⟩)
theorem wit_lst (h : WE X it ρ M (isL P)) : WIt X tg it ρ M P := fun σ H B w =>
  rI_of (pi_list pe_rE) ((h σ H B w).imp fun v H1 ⟨B1, r, M1, e1, w1, r1, q0⟩ => by
    obtain ⟨ds, er, q⟩ := isL_inv q0
    subst er
    obtain ⟨a, xs, rfl, ha, hx⟩ := Da.lst_inv r1
    exact ⟨a, rfl, ⟨xs, SqL.of (w1.o.ex _ _ ha)⟩, B1, ds, M1, e1, w1, walks_lst ha hx, q⟩)
def int1 (P : Int → Mem → Prop) : List R → Mem → Prop
  | [.d (.int i)], M => P i M
  | _, _ => False
def int2 (P : Int → Int → Mem → Prop) : List R → Mem → Prop
  | [.d (.int i), .d (.int j)], M => P i j M
  | _, _ => False
theorem int1_inv {P : Int → Mem → Prop} {rs : List R} {M : Mem} (h : int1 P rs M) : ∃ i, rs = [.d (.int i)] ∧ P i M := by
  unfold int1 at h
  split at h
  · exact ⟨_, rfl, h⟩
  · exact h.elim
theorem int2_inv {P : Int → Int → Mem → Prop} {rs : List R} {M : Mem} (h : int2 P rs M) : ∃ i j, rs = [.d (.int i), .d (.int j)] ∧ P i j M := by
  unfold int2 at h
  split at h
  · exact ⟨_, _, rfl, h⟩
  · exact h.elim
theorem wit_range1 {a : Expr} (h : CxOk c lv N sc fb X) (hm : c.mg "range" = none) (v : glC sc "range" = true) (q : WA X [a] ρ M (int1 fun i M1 => -(2 ^ 62) ≤ i ∧ i < 2 ^ 62 ∧ P ((upFrom 0 i.toNat).map PyData.int) M1))
    (hs : starEach [a] X.env = [(false, eval a X.env)] := by with_unfolding_all rfl) : WIt X tg (.Call (.Name "range" p) [a] [] pos) ρ M P := fun σ H B w =>
  rI_of (pi_range1 (h.gl v).1 (by rw [h.mg]; exact hm) pa_rA hs) ((q σ H B w).imp fun vs H1 ⟨B1, rs, M1, e1, w1, r1, q0⟩ => by
    obtain ⟨i, er, h1, h2, q⟩ := int1_inv q0
    subst er
    obtain ⟨v, rfl, rr1⟩ := rel1 r1
    exact ⟨i, by rw [Da.int_inv rr1], h1, h2, B1, _, M1, e1, w1, walks_range, q⟩)
theorem wit_range2 {a b : Expr} (h : CxOk c lv N sc fb X) (hm : c.mg "range" = none) (v : glC sc "range" = true) (q : WA X [a, b] ρ M (int2 fun i j M1 => (-(2 ^ 62) ≤ i ∧ i < 2 ^ 62 ∧ -(2 ^ 62) ≤ j ∧ j < 2 ^ 62) ∧ P ((upFrom i (j - i).toNat).map PyData.int) M1))
    (hs : starEach [a, b] X.env = [(false, eval a X.env), (false, eval b X.env)] := by with_unfolding_all rfl) (hs2 : starEach [b] X.env = [(false, eval b X.env)] := by with_unfolding_all rfl) : WIt X tg (.Call (.Name "range" p) [a, b] [] pos) ρ M P := fun σ H B w =>
  rI_of (pi_range2 (h.gl v).1 (by rw [h.mg]; exact hm) pa_rA hs hs2) ((q σ H B w).imp fun vs H1 ⟨B1, rs, M1, e1, w1, r1, q0⟩ => by
    obtain ⟨i, j, er, h1, q⟩ := int2_inv q0
    subst er
    obtain ⟨v, u, rfl, rr1, rr2⟩ := rel2 r1
    exact ⟨i, j, by rw [Da.int_inv rr1, Da.int_inv rr2], h1, B1, _, M1, e1, w1, walks_range, q⟩)
def list1 (P : List PyData → Mem → Prop) : List R → Mem → Prop
  | [.d (.list ds)], M => P ds M
  | _, _ => False
theorem list1_inv {P : List PyData → Mem → Prop} {rs : List R} {M : Mem} (h : list1 P rs M) : ∃ ds, rs = [.d (.list ds)] ∧ P ds M := by
  unfold list1 at h
  split at h
  · exact ⟨_, rfl, h⟩
  · exact h.elim
/-- the pairs of enumerate -/
def enumD (ds : List PyData) : List PyData := (((upFrom 0 ds.length).map PyData.int).zip ds).map fun z => .tuple [z.1, z.2]
theorem enum_ix {B : Hp} {n : Nat} (i : Nat) (d : PyData) (h : ((upFrom 0 n).map PyData.int)[i]? = some d) : ∃ v, (some (V.int (i : Nat))) = some v ∧ Da B v d := by
  have hl : i < n := by
    have := (List.getElem?_eq_some_iff.mp h).1
    rw [List.length_map, upFrom_length] at this
    exact this
  rw [List.getElem?_map, upFrom_get hl] at h
  cases h
  refine ⟨_, rfl, ?_⟩
  rw [Int.zero_add]
  exact Da.int _
theorem wit_enumL {elts : List Expr} {kk : Nat} {tpos : Pos} (h : CxOk c lv N sc fb X) (hm : c.mg "enumerate" = none) (v : glC sc "enumerate" = true) (q : WA X [e] ρ M (list1 fun ds M1 => P (enumD ds) M1))
    (hs : starEach [e] X.env = [(false, eval e X.env)] := by with_unfolding_all rfl) : WIt X (.Tuple elts kk tpos) (.Call (.Name "enumerate" p) [e] [] pos) ρ M P := fun σ H B w =>
  rI_of (pi_enum (h.gl v).1 (by rw [h.mg]; exact hm) pa_rA hs) ((q σ H B w).imp fun vs H1 ⟨B1, rs, M1, e1, w1, r1, q0⟩ => by
    obtain ⟨ds, er, q⟩ := list1_inv q0
    subst er
    obtain ⟨v, rfl, rr1⟩ := rel1 r1
    obtain ⟨a, xs, rfl, ha, hx⟩ := Da.lst_inv rr1
    refine ⟨a, xs, rfl, SqL.of (w1.o.ex _ _ ha), B1, _, M1, e1, w1, walks_pair (walk_enum (xs := xs)) ?_ (fun H e => SqL.of (e _ _ ha)) enum_ix fun i d hd => hx.get hd, q⟩
    rw [List.length_zip, List.length_map, upFrom_length, hx.length, Nat.min_self])

/-! ### for, while -/
variable {D : DE} {body : List Stmt}
theorem ws_for (hc : X.calm = true) (h : WIt X tg it ρ M fun ds M0 => ∃ inv : Nat → Rho → Mem → Prop, inv 0 ρ M0 ∧
      (∀ i d ρ' M', ds[i]? = some d → inv i ρ' M' → WG X tg (.d d) ρ' M' fun ρ2 M2 => WSs X body ρ2 M2 { D with nx := inv (i + 1), ct := inv (i + 1), bk := D.nx }) ∧ ∀ ρ' M', inv ds.length ρ' M' → D.nx ρ' M')
    (hp : PassesOwn (model X.prog X.w) X.A X.env X.xe) (hs : ∀ x, foldedSetIterable it X.env x = pure x := by intro _; with_unfolding_all rfl) : WS X (.For tg it body [] pos) ρ M D := fun σ H B w => by
  refine rS_of (ps_for hp hc pi_rI pg_rG pss_rSs hs) ((h σ H B w).imp fun J H1 ⟨B1, ds, M1, e1, w1, ⟨G, Y, wk, hG, hy⟩, inv, h0, hstep, hend⟩ => ?_)
  refine for_it wk (fun i σ' H' => ∃ B' ρ' M', Same B1 B' ∧ Sat ρ' M' σ' B' H' ∧ inv i ρ' M') ⟨B1, ρ, M1, Same.refl B1, w1, h0⟩ (fun i σ' H' _ ⟨B', ρ', M', e', w', _⟩ => hG H' (Same.trans e' w'.o.ex)) (fun i x σ' H' H2 hi ⟨B', ρ', M', e', w', hI⟩ y => ?_) fun σ' H' ⟨B', ρ', M', e', w', hI⟩ => ⟨B', ρ', M', Same.trans e1 e', w', hend ρ' M' hI⟩
  obtain ⟨B2, e2, w2, hd⟩ := hy i ds[i] (List.getElem?_eq_getElem hi) B' H' x H2 ρ' M' σ' e' w' y
  refine (hstep i ds[i] ρ' M' (List.getElem?_eq_getElem hi) hI σ' H2 B2 x w2 hd).imp fun σ3 H3 ⟨B3, ρ3, M3, e3, w3, hb⟩ pins s I => ?_
  have up : ∀ {P : Rho → Mem → Prop} {σ : St} {H : Hp}, PostS B3 P σ H → ∃ B' ρ' M', Same B1 B' ∧ Sat ρ' M' σ B' H ∧ P ρ' M' := fun ⟨B', ρ, M, e4, w, q⟩ => ⟨B', ρ, M, Same.trans e' (Same.trans e2 (Same.trans e3 e4)), w, q⟩
  refine thn (hb σ3 H3 B3 w3 pins s I) fun f s' z => ?_
  cases f with
  | next => obtain ⟨σ', H', I, q⟩ := z; exact ⟨σ', H', I, up q⟩
  | cont => obtain ⟨σ', H', I, q⟩ := z; exact ⟨σ', H', I, up q⟩
  | brk =>
    obtain ⟨σ', H', I, q⟩ := z
    obtain ⟨B', ρ', M', e5, w5, q5⟩ := up q
    exact ⟨σ', H', I, B', ρ', M', Same.trans e1 e5, w5, q5⟩
  | ret u =>
    obtain ⟨v, σ', H', I, r, B', r', M', e5, o5, rr5, q5⟩ := z
    exact ⟨v, σ', H', I, r, B', r', M', Same.trans e1 (Same.trans e' (Same.trans e2 (Same.trans e3 e5))), o5, rr5, q5⟩
theorem ws_while {t : Expr} (W : Nat → Rho → Mem → Prop) (m0 : Nat) (h0 : W m0 ρ M) (hstep : ∀ m ρ' M', W m ρ' M' → WT X t ρ' M' fun k M1 =>
      if k = true then WSs X body ρ' M1 { D with nx := fun ρ2 M2 => ∃ m', m' < m ∧ W m' ρ2 M2, ct := fun ρ2 M2 => ∃ m', m' < m ∧ W m' ρ2 M2, bk := D.nx } else D.nx ρ' M1)
    (hp : PassesOwn (model X.prog X.w) X.A X.env X.xe) : WS X (.While t body [] pos) ρ M D := fun σ H B w => by
  refine rS_of (ps_while hp pt_rT pss_rSs) ⟨fun m σ' H' => ∃ B' ρ' M', Same B B' ∧ Sat ρ' M' σ' B' H' ∧ W m ρ' M', ⟨m0, B, ρ, M, Same.refl B, w, h0⟩, fun m σ' H' ⟨B', ρ', M', e', w', hW⟩ => ?_⟩
  refine (hstep m ρ' M' hW σ' H' B' w').imp fun k H1 ⟨B1, M1, e1, w1, h1⟩ => ?_
  cases k with
  | false =>
    rw [if_neg Bool.false_ne_true] at h1 ⊢
    exact ⟨B1, ρ', M1, Same.trans e' e1, w1, h1⟩
  | true =>
    rw [if_pos rfl] at h1 ⊢
    refine ⟨fun σ2 H2 => ∃ m', m' < m ∧ ∃ B2 ρ2 M2, Same B B2 ∧ Sat ρ2 M2 σ2 B2 H2 ∧ W m' ρ2 M2, fun σ2 H2 z => z, fun pins s I => thn (h1 σ' H1 B1 w1 pins s I) fun f s' z => ?_⟩
    have up : ∀ {σ : St} {H : Hp}, PostS B1 (fun ρ2 M2 => ∃ m', m' < m ∧ W m' ρ2 M2) σ H → ∃ m', m' < m ∧ ∃ B2 ρ2 M2, Same B B2 ∧ Sat ρ2 M2 σ B2 H ∧ W m' ρ2 M2 := fun ⟨B2, ρ2, M2, e4, w, m', hm, q⟩ => ⟨m', hm, B2, ρ2, M2, Same.trans e' (Same.trans e1 e4), w, q⟩
    cases f with
    | next => obtain ⟨σ', H', I, q⟩ := z; exact ⟨σ', H', I, up q⟩
    | cont => obtain ⟨σ', H', I, q⟩ := z; exact ⟨σ', H', I, up q⟩
    | brk => obtain ⟨σ', H', I, B5, ρ5, M5, e5, w5, q5⟩ := z; exact ⟨σ', H', I, B5, ρ5, M5, Same.trans e' (Same.trans e1 e5), w5, q5⟩
    | ret u => obtain ⟨v, σ', H', I, r, B5, r5, M5, e5, o5, rr5, q5⟩ := z; exact ⟨v, σ', H', I, r, B5, r5, M5, Same.trans e' (Same.trans e1 e5), o5, rr5, q5⟩
end
end G
namespace G
open PySem PySem.Spec L2

/-! ### blocks of comprehensions -/
def blkF (scope : Scope) : Str → Bool := fun x => scope.names.lookup x == some .cell
def wipeR (ρ : Rho) : List Nat → Rho
  | [] => ρ
  | v :: vs => (wipeR ρ vs).set v none
theorem wipeR_fl (ρ : Rho) : ∀ vs : List Nat, (wipeR ρ vs).fl = ρ.fl
  | [] => rfl
  | v :: vs => wipeR_fl ρ vs
theorem wipeR_len (ρ : Rho) : ∀ vs : List Nat, (wipeR ρ vs).l.length = ρ.l.length
  | [] => rfl
  | v :: vs => by
    show ((wipeR ρ vs).l.set v none).length = _
    rw [List.length_set, wipeR_len ρ vs]
theorem wipeR_some {ρ : Rho} {i : Nat} {r : R} : ∀ {vs : List Nat}, (wipeR ρ vs).l[i]? = some (some r) → ρ.l[i]? = some (some r) ∧ i ∉ vs
  | [], h => ⟨h, by simp⟩
  | v :: vs, h => by
    have h : ((wipeR ρ vs).l.set v none)[i]? = some (some r) := h
    rw [List.getElem?_set] at h
    by_cases e : v = i
    · rw [if_pos e] at h
      split at h <;> cases h
    · rw [if_neg e] at h
      obtain ⟨h1, h2⟩ := wipeR_some h
      exact ⟨h1, fun m => (List.mem_cons.mp m).elim (fun z => e z.symm) h2⟩
theorem Slots.wipe {B : Hp} {ρ : Rho} {σ : St} (s : Slots B ρ σ) (vs : List Nat) : Slots B (wipeR ρ vs) (L2.wipe σ vs) := by
  refine ⟨by rw [wipeR_fl]; exact s.fl, by rw [wipe_length, wipeR_len]; exact s.len, fun i r h => ?_⟩
  obtain ⟨h1, h2⟩ := wipeR_some h
  obtain ⟨v, h3, h4⟩ := s.at_ i r h1
  exact ⟨v, by rw [wipe_out h2]; exact h3, h4⟩
/-- σ' is σ but at vs -/
def OnlyAt (vs : List Nat) (σ σ' : St) : Prop := σ'.length = σ.length ∧ ∀ i, i ∉ vs → σ'[i]? = σ[i]?
theorem wipe_in {σ : St} {i : Nat} : ∀ {vs : List Nat}, i ∈ vs → i < σ.length → (L2.wipe σ vs)[i]? = some none
  | v :: vs, h, hl => by
    unfold L2.wipe
    by_cases e : v = i
    · subst e
      rw [List.getElem?_set_self (by rw [wipe_length]; exact hl)]
    · rw [List.getElem?_set_ne e]
      exact wipe_in ((List.mem_cons.mp h).resolve_left fun z => e z.symm) hl
theorem OnlyAt.wipe {vs : List Nat} {σ σ' : St} (h : OnlyAt vs (L2.wipe σ vs) σ') : L2.wipe σ' vs = L2.wipe σ vs := by
  have hl : σ'.length = σ.length := by rw [h.1, wipe_length]
  refine List.ext_getElem? fun i => ?_
  by_cases m : i ∈ vs
  · by_cases hi : i < σ.length
    · rw [wipe_in m hi, wipe_in m (by rw [hl]; exact hi)]
    · rw [List.getElem?_eq_none (by rw [wipe_length, hl]; omega), List.getElem?_eq_none (by rw [wipe_length]; omega)]
  · rw [wipe_out m, h.2 i m]
theorem OnlyAt.refl (vs : List Nat) (σ : St) : OnlyAt vs σ σ := ⟨rfl, fun _ _ => rfl⟩
theorem OnlyAt.trans {vs : List Nat} {σ σ1 σ2 : St} (a : OnlyAt vs σ σ1) (b : OnlyAt vs σ1 σ2) : OnlyAt vs σ σ2 := ⟨b.1.trans a.1, fun i m => (b.2 i m).trans (a.2 i m)⟩
theorem OnlyAt.set {vs : List Nat} {σ : St} {i : Nat} {v : Option V} (h : i ∈ vs) : OnlyAt vs σ (σ.set i v) := ⟨List.length_set .., fun j m => by
  rw [List.getElem?_set_ne]
  exact fun e => m (e ▸ h)⟩
/-- a target whose names stand at vs -/
def WGv (X : Cx) (tg : Expr) (r : R) (vs : List Nat) (ρ : Rho) (P : Rho → Prop) : Prop := ∀ σ H B M v, Sat ρ M σ B H → RelR B r v → rG X tg v σ H fun σ' H' => H' = H ∧ OnlyAt vs σ σ' ∧ ∃ ρ', Slots B ρ' σ' ∧ P ρ'
def WGvs (X : Cx) (ts : List Expr) (rs : List R) (vs : List Nat) (ρ : Rho) (P : Rho → Prop) : Prop := ∀ σ H B M us, Sat ρ M σ B H → RelRs B rs us → rGs X ts us σ H fun σ' H' => H' = H ∧ OnlyAt vs σ σ' ∧ ∃ ρ', Slots B ρ' σ' ∧ P ρ'
section
variable {c : Cf} {lv : Nat} {N : List Str} {sc : Scope} {fb : Str → Bool} {X : Cx} {ρ : Rho} {M : Mem} {Q : RK} {e : Expr} {es : List Expr} {pos p : Pos} {r : R} {n : Str} {tg it : Expr} {vs : List Nat} {P : Rho → Prop}
theorem wgv_name (h : CxOk c lv N sc fb X) (v : setC N sc fb n = true) (hm : idx N n ∈ vs) (q : P (ρ.set (idx N n) (some r))) : WGv X (.Name n p) r vs ρ P := fun σ H B M u w rr =>
  rG_of (pg_name (h.varSet v).nd (h.varSet v).at_ (h.varSet v).loc (h.varSet v).fn) ⟨rfl, OnlyAt.set hm, _, w.s.set rr, q⟩
theorem wgvs_nil (q : P ρ) : WGvs X [] [] vs ρ P := fun σ H B M us w rr => by
  cases rr
  exact rGs_of pgs_nil ⟨rfl, rfl, OnlyAt.refl _ _, ρ, w.s, q⟩
theorem wgvs_cons {t : Expr} {ts : List Expr} {rs : List R} (h : WGv X t r vs ρ fun ρ' => WGvs X ts rs vs ρ' P) (hs : (assignEach (t :: ts) X.env).map (·.2) = assign t X.env :: (assignEach ts X.env).map (·.2) := by with_unfolding_all rfl) : WGvs X (t :: ts) (r :: rs) vs ρ P := fun σ H B M us w rr => by
  cases rr with
  | cons r1 r2 =>
    refine rGs_of (pgs_cons pg_rG pgs_rGs hs) ⟨_, _, rfl, (h σ H B M _ w r1).imp fun σ' H' ⟨eh, o1, ρ', s', q⟩ => ?_⟩
    subst eh
    exact (q σ' H' B M _ ⟨w.o, s'⟩ r2).imp fun σ2 H2 ⟨eh, o2, z⟩ => ⟨eh, o1.trans o2, z⟩
theorem wgv_tup {ts : List Expr} {k : Nat} {ds : List PyData} (hc : CxOk c lv N sc fb X) (h : WGvs X ts (ds.map R.d) vs ρ P) (hn : (assignEach ts X.env).length = ds.length := by with_unfolding_all rfl) (hst : (assignEach ts X.env).findIdx? (·.1) = none := by with_unfolding_all rfl) : WGv X (.Tuple ts k pos) (.d (.tuple ds)) vs ρ P := fun σ H B M v w rr => by
  obtain ⟨p, xs, rfl, hp, hx⟩ := Da.tup_inv rr
  exact rG_of (pg_tup hc.calm pgs_rGs hn hst) ⟨p, xs, rfl, SqT.of (w.o.ex _ _ hp), hx.length, h σ H B M xs w (relRs_of hx)⟩

/-- the tests of a comprehension -/
def rTs (X : Cx) (ifs : List Expr) : TT := fun σ H Q => ∀ t, PTs X ifs t → True
def WTs (X : Cx) (ifs : List Expr) (ρ : Rho) (M : Mem) (T : Bool → Mem → Prop) : Prop := match ifs with
  | [] => T true M
  | [e] => WT X e ρ M T
  | _ => False
/-- a comprehension's test, at every block alike -/
def tIfs (Ys : (Cx → Prop)) (ifs : List Expr) : TT := fun σ H Q => match ifs with
  | [] => Q true H
  | [e] => ∀ Y, Ys Y → rT Y e σ H Q
  | _ => False
def tElt (Ys : (Cx → Prop)) (e : Expr) : TE := fun σ H Q => ∀ Y, Ys Y → rE Y e σ H Q
def gTgt (Ys : (Cx → Prop)) (tg : Expr) : TG := fun v σ H Q => ∀ Y, Ys Y → rG Y tg v σ H Q
/-- the blocks of this comprehension -/
def Blks (X : Cx) (scope : Scope) (Y : Cx) : Prop := ∃ s H C cl fp, Y = X.blk s H scope (compEnvC scope cl C X.env) fp
theorem CxOk.blk {scope : Scope} (h : CxOk c lv N sc fb X) {Y : Cx} (hy : Blks X scope Y) : CxOk c lv N (relS scope sc) (blkF scope) Y := by
  obtain ⟨s, H, C, cl, fp, rfl⟩ := hy
  refine ⟨h.prog, h.w, h.K, h.mg, h.base, h.room, h.gd, h.hN, h.nd, ?_, rfl, h.calm⟩
  show relS scope X.env.scope = relS scope sc
  rw [h.hsc]
theorem pts_tIfs {Y : Cx} {Ys : Cx → Prop} {ifs : List Expr} (hy : Ys Y) (h2 : ifs.length ≤ 1) : PTs Y ifs (tIfs Ys ifs) := by
  match ifs, h2 with
  | [], _ => exact pts_nil
  | [e], _ => exact pts_one ⟨fun pins s σ H Q I h => h Y hy pins s I⟩
/-- memory but for p -/
def mdel (M : Mem) (p : Addr) : Mem := fun b => if b = p then none else M b
theorem mdel_ne {M : Mem} {p a : Addr} (h : a ≠ p) : mdel M p a = M a := by unfold mdel; rw [if_neg h]
theorem mdel_sub {M : Mem} {p : Addr} : Sub (mdel M p) M := fun a c h => by
  unfold mdel at h
  split at h
  · cases h
  · exact h
theorem sub_mdel {M M' : Mem} {p : Addr} (s : Sub M M') (h : M p = none) : Sub M (mdel M' p) := fun a c e => by
  rw [mdel_ne (fun z => by subst z; rw [h] at e; cases e)]
  exact s a c e
theorem relRs_app {B : Hp} : ∀ {rs ss : List R} {vs ws : List V}, RelRs B rs vs → RelRs B ss ws → RelRs B (rs ++ ss) (vs ++ ws)
  | _, _, _, _, .nil, h => h
  | _, _, _, _, .cons a t, h => .cons a (relRs_app t h)
/-- an owned list of data is frozen -/
theorem Own.freeze {B H : Hp} {M : Mem} {p : Addr} {ds : List PyData} (o : Own B H M) (h : M p = some (.lst (ds.map R.d))) : ∃ B', Same B B' ∧ Own B' H (mdel M p) ∧ Da B' (.ref p) (.list ds) := by
  obtain ⟨hb, u, hu, vs, rfl, hv⟩ := o.own p _ h
  have sb : Same B (upd B p (.lst vs)) := fun a u e => by rw [upd_ne (ne_of_none e hb)]; exact e
  refine ⟨upd B p (.lst vs), sb, ⟨fun a v e => ?_, fun a c e => ?_⟩, Da.lst upd_same (DaA.mono sb _ (relRs_d hv))⟩
  · by_cases q : a = p
    · subst q; rw [upd_same] at e; cases e; exact hu
    · rw [upd_ne q] at e; exact o.ex a v e
  · have q : a ≠ p := fun z => by subst z; unfold mdel at e; rw [if_pos rfl] at e; cases e
    rw [mdel_ne q] at e
    obtain ⟨h1, v, h2, h3⟩ := o.own a c e
    exact ⟨by rw [upd_ne q]; exact h1, v, h2, h3.mono sb⟩

/-- what a comprehension comes to -/
def LcR (X : Cx) (elt tg it : Expr) (ifs : List Expr) (scope : Scope) (own : List (Str × Nat)) (ρ : Rho) (M : Mem) (Q : RK) : Prop := ∀ σ H B, Sat ρ M σ B H → ∀ K : VK, (∀ v H', Post ρ σ B Q v H' → K v H') →
  tLc (rI X tg it) (gTgt (Blks X scope) tg) (tIfs (Blks X scope) ifs) (tElt (Blks X scope) elt) (own.map (·.2)) σ H K
theorem we_lc {elt : Expr} {ifs : List Expr} {scope : Scope} {own : List (Str × Nat)} (h : CxOk c lv N sc fb X) (hok : blkC N sc scope own = true) (h2 : ifs.length ≤ 1) (q : LcR X elt tg it ifs scope own ρ M Q)
    (hs : ∀ x, foldedSetIterable it X.env x = pure x := by intro _; with_unfolding_all rfl) : WE X (.ListComp elt [⟨tg, it, ifs, 0⟩] scope pos) ρ M Q := fun σ H B w => by
  have hok' : BlkOk X.N X.env.scope scope own := by rw [h.hN, h.hsc]; exact blkOk_by hok
  exact rE_of (pe_lc (wi := rI X tg it) (g := gTgt (Blks X scope) tg) (tt := tIfs (Blks X scope) ifs) (te := tElt (Blks X scope) elt) h.calm (by rw [h.hN]; exact h.nd) pi_rI hok'
    (fun s H C cl fp => ⟨fun pins s' σ H v u Q I r hq => hq _ ⟨s, _, C, cl, fp, rfl⟩ pins s' u I r⟩) (fun s H C cl fp => pts_tIfs ⟨s, H, C, cl, fp, rfl⟩ h2) (fun s H C cl fp => ⟨fun pins s' σ H Q I hq => hq _ ⟨s, _, C, cl, fp, rfl⟩ pins s' I⟩) hs) (q σ H B w _ fun _ _ z => z)
/-- n = [..], on one line -/
theorem s_setLc {elt : Expr} {ifs : List Expr} {scope : Scope} {own : List (Str × Nat)} {i : Nat} {py spos : Pos} {l : List (Option R)} {fl : Hp} {nx : Rho → Mem → Prop} {rt : RK} {bk ct : Rho → Mem → Prop} (h : CxOk c lv N sc fb X) (hi : N[i]? = some n) (hl : sc.names.lookup n = some .local)
    (hok : blkC N sc scope own = true) (h2 : ifs.length ≤ 1) (q : LcR X elt tg it ifs scope own ⟨l, fl⟩ M fun r M1 => nx ⟨l.set i (some r), fl⟩ M1) (hp : (py.line == pos.line) = true := by decide) (ho : (scope.names.any fun (m, k) => m == n && (k == .local || k == .cell)) = false := by decide +kernel)
    (hs : ∀ x, foldedSetIterable it X.env x = pure x := by intro _; with_unfolding_all rfl) : WS X (.Assign [.Name n py] (.ListComp elt [⟨tg, it, ifs, 0⟩] scope pos) spos) ⟨l, fl⟩ M ⟨nx, rt, bk, ct⟩ := fun σ H B w pins s I => by
  have hok' : BlkOk X.N X.env.scope scope own := by rw [h.hN, h.hsc]; exact blkOk_by hok
  have hl' : X.env.scope.names.lookup n = some .local := by rw [h.hsc]; exact hl
  refine rS_of (ps_setLc (wi := rI X tg it) (g := gTgt (Blks X scope) tg) (tt := tIfs (Blks X scope) ifs) (te := tElt (Blks X scope) elt) h.calm (by rw [h.hN]; exact h.nd) (by rw [h.hN]; exact hi) hl' (sw_true I.ok.kind hl' hp ho) pi_rI hok'
    (fun s H C cl fp => ⟨fun pins s' σ H v u Q I r hq => hq _ ⟨s, _, C, cl, fp, rfl⟩ pins s' u I r⟩) (fun s H C cl fp => pts_tIfs ⟨s, H, C, cl, fp, rfl⟩ h2) (fun s H C cl fp => ⟨fun pins s' σ H Q I hq => hq _ ⟨s, _, C, cl, fp, rfl⟩ pins s' I⟩) hs) ?_ pins s I
  exact q σ H B w _ fun v H' ⟨B', r, M', e, w', rr, z⟩ => ⟨B', _, M', e, ⟨w'.o, w'.s.set rr⟩, z⟩
/-- [elt for tg in it if ..] by an invariant: I by the turn, what is made so far (it stands at p), and the memory -/
theorem lc_I {elt : Expr} {ifs : List Expr} {scope : Scope} {own : List (Str × Nat)} (h : CxOk c lv N sc fb X) (hok : blkC N sc scope own = true) (h2 : ifs.length ≤ 1)
    (q : WIt X tg it ρ M fun ds M1 => ∀ p, M1 p = none → ∃ I : Nat → List PyData → Mem → Prop, I 0 [] (mset M1 p (.lst [])) ∧ (∀ acc M', I ds.length acc M' → M' p = some (.lst (acc.map R.d))) ∧ ds.length ≤ sizeLine ∧
      (∀ i d acc M', ds[i]? = some d → I i acc M' → ∀ Y, CxOk c lv N (relS scope sc) (blkF scope) Y → WGv Y tg (.d d) (own.map (·.2)) (wipeR ρ (own.map (·.2))) fun ρ2 => ∀ Y, CxOk c lv N (relS scope sc) (blkF scope) Y → WTs Y ifs ρ2 M' fun k M2 => if k = true then
        ∀ Y, CxOk c lv N (relS scope sc) (blkF scope) Y → WE Y elt ρ2 M2 fun r M3 => ∃ x acc', r = .d x ∧ M3 p = some (.lst (acc'.map R.d)) ∧ acc'.length ≤ i ∧ I (i + 1) (acc' ++ [x]) (mset M3 p (.lst ((acc' ++ [x]).map R.d))) else ∃ acc', I (i + 1) acc' M2) ∧
      ∀ acc M', I ds.length acc M' → Q (.d (.list acc)) (mdel M' p)) : LcR X elt tg it ifs scope own ρ M Q := fun σ H B w K hK => by
  refine (q σ H B w).imp fun J H1 ⟨B1, ds, M1, e1, w1, ⟨G, Y, wk, hG, hy⟩, hq⟩ p hp => ?_
  obtain ⟨I, h0, hacc, hsz, hstep, hend⟩ := hq p (w1.o.free hp)
  refine lc_it wk (fun i H' => ∃ B' M' acc, Same B1 B' ∧ Own B' H' M' ∧ I i acc M') ⟨B1, _, [], Same.refl B1, (w1.made (c := .lst []) hp ⟨[], rfl, .nil⟩).o, h0⟩ (fun i H' _ ⟨B', M', acc, e', o', _⟩ => hG H' (Same.trans e' o'.ex))
    (fun i x H' H2 hi ⟨B', M', acc, e', o', hI⟩ y Yc hYc => ?_) fun H' ⟨B', M', acc, e', o', hI⟩ => ?_
  · have wW : Sat (wipeR ρ (own.map (·.2))) M' (L2.wipe σ (own.map (·.2))) B' H' := ⟨o', (w1.s.mono e').wipe _⟩
    obtain ⟨B2, e2, w2, hd⟩ := hy i ds[i] (List.getElem?_eq_getElem hi) B' H' x H2 _ M' _ e' wW y
    have hc := hstep i ds[i] acc M' (List.getElem?_eq_getElem hi) hI Yc (h.blk hYc)
    refine (hc _ H2 B2 M' x w2 hd).imp fun σ3 H3 ⟨eh, oa, ρ3, s3, ht⟩ => ⟨oa.wipe, ?_⟩
    subst eh
    have w3 : Sat ρ3 M' σ3 B2 H3 := ⟨w2.o, s3⟩
    have key : ∀ (k : Bool) (H4 B4 : Hp) (M4 : Mem), Same B2 B4 → Sat ρ3 M4 σ3 B4 H4 → (if k = true then ∀ Y, CxOk c lv N (relS scope sc) (blkF scope) Y → WE Y elt ρ3 M4 (fun r M3 => ∃ x acc', r = .d x ∧ M3 p = some (.lst (acc'.map R.d)) ∧ acc'.length ≤ i ∧ I (i + 1) (acc' ++ [x]) (mset M3 p (.lst ((acc' ++ [x]).map R.d)))) else ∃ acc', I (i + 1) acc' M4) →
        (if k = true then tElt (Blks X scope) elt σ3 H4 (fun y H4 => ∃ acc, H4 p = some (.lst acc) ∧ acc.length < sizeLine ∧ ∃ B' M' acc', Same B1 B' ∧ Own B' (upd H4 p (.lst (acc ++ [y]))) M' ∧ I (i + 1) acc' M') else ∃ B' M' acc, Same B1 B' ∧ Own B' H4 M' ∧ I (i + 1) acc M') := by
      intro k H4 B4 M4 e4 w4 hk
      cases k with
      | false =>
        rw [if_neg Bool.false_ne_true] at hk ⊢
        obtain ⟨acc', hI'⟩ := hk
        exact ⟨B4, M4, acc', Same.trans e' (Same.trans e2 e4), w4.o, hI'⟩
      | true =>
        rw [if_pos rfl] at hk ⊢
        intro Y' hY'
        refine (hk Y' (h.blk hY') σ3 H4 B4 w4).imp fun v H5 ⟨B5, r5, M5, e5, w5, rr5, x5, acc5, er, hp5, hl5, hI5⟩ => ?_
        subst er
        obtain ⟨_, u, hu, vs, rfl, hv⟩ := w5.o.own p _ hp5
        have hlen : vs.length = acc5.length := by
          have := Paired.length hv
          rw [List.length_map] at this
          exact this.symm
        have hrel : CellRel B5 (.lst ((acc5 ++ [x5]).map R.d)) (.lst (vs ++ [v])) := ⟨vs ++ [v], rfl, by rw [List.map_append]; exact relRs_app (relRs_of (relRs_d hv)) (.cons rr5 .nil)⟩
        exact ⟨vs, hu, by omega, B5, _, _, Same.trans e' (Same.trans e2 (Same.trans e4 e5)), w5.o.write hp5 hrel, hI5⟩
    match ifs, h2, ht with
    | [], _, ht => exact key true H3 B2 M' (Same.refl B2) w3 (ht Yc (h.blk hYc))
    | [cnd], _, ht =>
      intro Y' hY'
      exact (ht Y' (h.blk hY') σ3 H3 B2 w3).imp fun k H4 ⟨B4, M4, e4, w4, hk⟩ => key k H4 B4 M4 e4 w4 hk
  · obtain ⟨B2, e2, o2, hd⟩ := o'.freeze (hacc acc M' hI)
    exact hK _ _ ⟨B2, .d (.list acc), mdel M' p, Same.trans e1 (Same.trans e' e2), ⟨o2, w1.s.mono (Same.trans e' e2)⟩, hd, hend acc M' hI⟩
end
end G
namespace G
open PySem PySem.Spec L2

theorem mdel_mset {M : Mem} {p : Addr} {c : Cell} (h : M p = none) : mdel (mset M p c) p = M := by
  funext b
  unfold mdel mset
  by_cases e : b = p
  · rw [if_pos e, e, h]
  · rw [if_neg e, if_neg e]
section
variable {c : Cf} {lv : Nat} {N : List Str} {sc : Scope} {fb : Str → Bool} {X : Cx} {ρ : Rho} {M : Mem} {Q : RK} {e : Expr} {es : List Expr} {pos p : Pos} {r : R} {n : Str} {tg it : Expr}
theorem take_filter_succ {α : Type} {xs : List α} {C : α → Bool} {F : α → PyData} {i : Nat} {x : α} (h : xs[i]? = some x) :
    ((xs.take (i + 1)).filter C).map F = ((xs.take i).filter C).map F ++ (if C x = true then [F x] else []) := by
  rw [List.take_add_one, h, List.filter_append, List.map_append]
  congr 1
  show ([x].filter C).map F = _
  rw [List.filter_cons]
  by_cases hc : C x = true
  · rw [if_pos hc, if_pos hc]; rfl
  · rw [if_neg hc, if_neg hc]; rfl
theorem lc_P {α : Type} {elt : Expr} {ifs : List Expr} {scope : Scope} {own : List (Str × Nat)} (h : CxOk c lv N sc fb X) (hok : blkC N sc scope own = true) (h2 : ifs.length ≤ 1)
    (q : WIt X tg it ρ M fun ds M1 => ∃ (xs : List α) (f : α → PyData) (C : α → Bool) (F : α → PyData), ds = xs.map f ∧ xs.length ≤ sizeLine ∧
      (∀ x, x ∈ xs → ∀ M', Sub M1 M' → ∀ Y, CxOk c lv N (relS scope sc) (blkF scope) Y → WGv Y tg (.d (f x)) (own.map (·.2)) (wipeR ρ (own.map (·.2))) fun ρ2 => ∀ Y, CxOk c lv N (relS scope sc) (blkF scope) Y → WTs Y ifs ρ2 M' fun k M2 => M2 = M' ∧ k = C x ∧
        (k = true → ∀ Y, CxOk c lv N (relS scope sc) (blkF scope) Y → WE Y elt ρ2 M' fun r M3 => M3 = M' ∧ r = .d (F x))) ∧ Q (.d (.list ((xs.filter C).map F))) M1) : LcR X elt tg it ifs scope own ρ M Q := by
  refine lc_I h hok h2 ?_
  refine fun σ H B w => (q σ H B w).imp fun J H1 ⟨B1, ds, M1, e1, w1, wk, xs, f, C, F, ed, hz, hstep, hQ⟩ => ⟨B1, ds, M1, e1, w1, wk, fun p hp => ?_⟩
  subst ed
  refine ⟨fun i acc M' => M' = mset M1 p (.lst (acc.map R.d)) ∧ acc = ((xs.take i).filter C).map F, ⟨rfl, by simp⟩, fun acc M' ⟨e, _⟩ => by rw [e, mset_same], by rw [List.length_map]; exact hz,
    fun i d acc M' hi ⟨eM, ea⟩ Y hY => ?_, fun acc M' ⟨eM, ea⟩ => ?_⟩
  · rw [List.getElem?_map] at hi
    cases hx : xs[i]? with
    | none => rw [hx] at hi; cases hi
    | some x =>
      rw [hx] at hi
      cases hi
      have hl : acc.length ≤ i := by
        rw [ea, List.length_map]
        refine Nat.le_trans (List.length_filter_le ..) ?_
        rw [List.length_take]
        exact Nat.min_le_left ..
      have hs := hstep x (List.mem_of_getElem? hx) M' (by rw [eM]; exact Sub.new hp) Y hY
      refine fun σ H B M2 v w2 rr => (hs σ H B M2 v w2 rr).imp fun σ3 H3 ⟨eh, oa, ρ3, s3, ht⟩ => ⟨eh, oa, ρ3, s3, fun Y2 hY2 => ?_⟩
      have fin : ∀ k M2, (M2 = M' ∧ k = C x ∧ (k = true → ∀ Y, CxOk c lv N (relS scope sc) (blkF scope) Y → WE Y elt ρ3 M' fun r M3 => M3 = M' ∧ r = .d (F x))) → (if k = true then
        ∀ Y, CxOk c lv N (relS scope sc) (blkF scope) Y → WE Y elt ρ3 M2 fun r M3 => ∃ x acc', r = .d x ∧ M3 p = some (.lst (acc'.map R.d)) ∧ acc'.length ≤ i ∧ (mset M3 p (.lst ((acc' ++ [x]).map R.d)) = mset M1 p (.lst ((acc' ++ [x]).map R.d)) ∧ acc' ++ [x] = ((xs.take (i + 1)).filter C).map F)
        else ∃ acc', M2 = mset M1 p (.lst (acc'.map R.d)) ∧ acc' = ((xs.take (i + 1)).filter C).map F) := by
        intro k M2 ⟨e2, ek, he⟩
        subst e2
        rw [take_filter_succ hx, ← ea]
        cases k with
        | true =>
          rw [if_pos rfl, if_pos ek.symm]
          intro Y3 hY3
          refine (he rfl Y3 hY3).imp fun r M3 ⟨e3, er⟩ => ⟨F x, acc, er, by rw [e3, eM, mset_same], hl, by rw [e3, eM, mset_mset], rfl⟩
        | false =>
          rw [if_neg Bool.false_ne_true, if_neg (by rw [← ek]; exact Bool.false_ne_true)]
          exact ⟨acc, eM, (List.append_nil _).symm⟩
      have ht2 := ht Y2 hY2
      match ifs, h2, ht2 with
      | [], _, ht2 => exact fin true M' ht2
      | [cnd], _, ht2 => exact WT.imp ht2 fin
  · subst eM
    rw [mdel_mset hp, ea, List.length_map, List.take_length]
    exact hQ
end

/-! ### what a def promises, over data -/
abbrev XKd := Value → Option Addr → Mem → Prop
abbrev SpD := List R → Mem → RK → XKd → Prop
def toSp (sp : SpD) : Sp := fun vs H Q E => ∃ rs M B QD ED, Own B H M ∧ RelRs B rs vs ∧ sp rs M QD ED ∧ (∀ v H', PostR B QD v H' → Q v H') ∧ ∀ cls d H', (∃ B' M', Same B B' ∧ Own B' H' M' ∧ ED cls d M') → E cls d H'
def E0d : XKd := fun _ _ _ => False
/-- a def at f keeps its promise, where nothing is being shown -/
structure FnG (c : Cf) (k : Nat) (f : Addr) (fd : FuncData) (ps : List Str) (sp : SpD) : Prop where
  len : ∀ rs M Q E, sp rs M Q E → rs.length = ps.length
  run : ∀ (A : Around) (outer : List Env) (s : Shared) (H : Hp) (args : Args) (us : List Value) (vs : List V) (Q : VK) (E : XK), Room k A → A.guards = some [] → Env0 c.P c.w c.K c.mg c.base A outer s H → BindsTo s fd args (ps.zip us) → Vals vs us →
    toSp sp vs H Q E → codeAny (model c.P c.w) A (.call (.ref f) args) (CR (L2.CX c.P c.w) outer c.P c.w H s Q E) s
/-- the def that the module's name x holds -/
structure FnH (c : Cf) (x : Str) (k : Nat) (sp : SpD) : Prop where
  ex : ∃ (f : Addr) (fd : FuncData) (ps : List Str), FnG c k f fd ps sp ∧ c.mg x = some (.ref f) ∧ PySem.W.keepIn c.K (.ref f) = true ∧ Binds c.K fd ps []

theorem guards_deeper {A : Around} {env : Env} (h : A.guards = some []) : (A.deeper env).guards = some [] := by
  obtain ⟨hd, d, fr, gs, u⟩ := A
  exact h
/-- what leaves X as an exception is taken, if W holds of it -/
def Thr (X : Cx) (fl : Hp) (W : XKd) : Prop := Takes X fun cls d _ H => ∃ B' M', Same fl B' ∧ Own B' H M' ∧ W cls d M'
/-- what a def's body knows of its frame -/
structure Frm (X : Cx) : Prop where
  own : PassesOwn (model X.prog X.w) X.A X.env X.xe
  stk : X.stack = X.env :: X.outer
  fr : X.env.frame = some X.env.locals
  ex : X.ex = []
def allF : Str → Bool := fun _ => true
theorem start_rel {B : Hp} {N : List Str} {rs : List R} {vs : List V} (h : RelRs B rs vs) (hl : rs.length ≤ N.length) : Slots B ⟨rs.map some ++ List.replicate (N.length - rs.length) none, B⟩ (start N vs) := by
  have e := Paired.length h
  refine ⟨Same.refl B, ?_, fun i r hi => ?_⟩
  · show (vs.map some ++ List.replicate (N.length - vs.length) none).length = (rs.map some ++ List.replicate (N.length - rs.length) none).length
    simp only [List.length_append, List.length_map, List.length_replicate]
    omega
  · have hi : (rs.map some ++ List.replicate (N.length - rs.length) none)[i]? = some (some r) := hi
    by_cases hx : i < rs.length
    · rw [List.getElem?_append_left (by rw [List.length_map]; exact hx), List.getElem?_map] at hi
      cases q : rs[i]? with
      | none => rw [q] at hi; cases hi
      | some y =>
        rw [q] at hi
        cases hi
        obtain ⟨v, h1, h2⟩ := paired_get h q
        refine ⟨v, ?_, h2⟩
        show (vs.map some ++ List.replicate (N.length - vs.length) none)[i]? = _
        rw [List.getElem?_append_left (by rw [List.length_map]; omega), List.getElem?_map, h1]
        rfl
    · rw [List.getElem?_append_right (by rw [List.length_map]; omega), List.getElem?_replicate] at hi
      split at hi <;> cases hi
/-- THE RULE for a def -/
theorem FnG.mk' {c : Cf} {x qual : Str} {st : Stmt} {f : Addr} {fd : FuncData} {N ps : List Str} {k : Nat} {sp : SpD} (F : Fun c.K x qual st f fd) (S : FnScope N ps (defScope st)) (len : ∀ rs M Q E, sp rs M Q E → rs.length = ps.length)
    (hbody : ∀ (X : Cx), CxOk c k N (defScope st) allF X → Frm X → ∀ (rs : List R) (M : Mem) (Q : RK) (E : XKd) (fl : Hp), sp rs M Q E → Thr X fl E →
      WSs X (defBody st) ⟨rs.map some ++ List.replicate (N.length - rs.length) none, fl⟩ M { nx := fun _ M' => Q (.d .none) M', rt := Q }) : FnG c (k + 1) f fd ps sp := by
  obtain ⟨oc, od, kV, doc, pm, an, cdv, ct, osl, rfl, lk, hcd⟩ := F.ex
  refine ⟨len, fun A outer s H args us vs Q E hr hg e0 hb r ⟨rs, M, B, QD, ED, ow, rel, hsp, hQ, hE⟩ => ?_⟩
  have hlr := len _ _ _ _ hsp
  have hl : vs.length = ps.length := (Paired.length rel).symm.trans hlr
  have KX : c.K.In s.heap := e0.mod.kin.keeps fun b o e => (e0.bs b o e).1
  refine codeAny_call_function hr.depth (KX _ _ lk) rfl S.co S.gen rfl (PySem.W.codeRec_of KX hcd) (hb _ _ _ _ ?_)
  have hkind : ∀ y, y ∈ ps.zip us → (defScope st).names.lookup y.1 = some .local ∨ ((defScope st).names.lookup y.1 = some .cell ∧ ((cellsFrom (s.heap.objs.size + 1) (defScope st).names []).lookup y.1).isSome = true) := by
    rintro ⟨n, v⟩ hy
    exact (S.par n (List.of_mem_zip hy).1).imp id fun q => ⟨q, PySem.W.cellsFrom_some _ _ _ (.inl q)⟩
  refine wpAny_newFunctionEnv_cells S.kind hkind fun env he s1 x => ?_
  subst he
  refine ⟨(e0.mod.nolimit.keeps fun b o e => (e0.bs b o e).1).keeps x.toInCall.keep, codeAny_func ?_⟩
  generalize hX : cxOf (L2.CX c.P c.w) c.P c.w c.K c.mg c.base N qual (defScope st) f cdv A outer s H E = X
  have I : Inv X [] (start N vs) H s1 := by rw [← hX]; exact inv_start S hr.hd e0 hl r x
  have hCx : CxOk c k N (defScope st) allF X := by
    rw [← hX]
    exact ⟨rfl, rfl, rfl, rfl, rfl, hr.deeper _, guards_deeper hg, rfl, S.nd, rfl, rfl, rfl⟩
  have hFr : Frm X := by
    rw [← hX]
    exact ⟨passes_of rfl, rfl, rfl, rfl⟩
  have hTh : Thr X B ED := by
    rw [← hX]
    exact (takes_of (E := E) rfl rfl rfl rfl).imp fun cls d σ H' z => hE cls d H' z
  have hpl : ps.length ≤ N.length := by have := congrArg List.length S.pre; rw [List.length_take] at this; omega
  have w0 : Sat ⟨rs.map some ++ List.replicate (N.length - rs.length) none, B⟩ M (start N vs) B H := ⟨ow, start_rel rel (by omega)⟩
  have run := hbody X hCx hFr rs M QD ED B hsp hTh (start N vs) H B w0 [] s1 I
  have hxe : X.xe = fun e s' => wpAny (model c.P c.w) X.A (leaving X.env e) (fun _ s'' => L2.CX c.P c.w outer H s E e s'') (fun e' s'' => L2.CX c.P c.w outer H s E e' s'') s' := by rw [← hX]; rfl
  have fin : ∀ {B' : Hp} {H' : Hp} {r' : R} {M' : Mem} {v : V} {u : Value} {σ' : St} {s' : Shared}, Inv X [] σ' H' s' → Same B B' → Own B' H' M' → RelR B' r' v → QD r' M' → RelV v u → CE outer c.P c.w H s Q u s' := by
    intro B' H' r' M' v u σ' s' J e o rr q rv
    rw [← hX] at J
    exact ⟨v, H', J.os, J.bare, J.base, J.hok, rv, hQ v H' ⟨B', r', M', e, o, rr, q⟩⟩
  have hA : X.A = A.deeper (PyProof.Rows.envOfC qual (defScope st) s.heap.objs.size f cdv) := by rw [← hX]; rfl
  have hEn : X.env = PyProof.Rows.envOfC qual (defScope st) s.heap.objs.size f cdv := by rw [← hX]; rfl
  have hP : X.prog = c.P := hCx.prog
  have hw : X.w = c.w := hCx.w
  rw [hP, hw, hA, hEn] at run
  refine wpAny_mono run (fun fl s' hs => ?_) fun e s' hs => ?_
  · cases fl with
    | ret u =>
      obtain ⟨v, σ', H', J, rv, B', r', M', e, o, rr, q⟩ := hs
      exact fin J e o rr q rv
    | next =>
      obtain ⟨σ', H', J, B', ρ', M', e, w, q⟩ := hs
      exact fin (r' := .d .none) (v := V.non) (u := Value.none) J e w.o Da.non q rfl
    | brk => obtain ⟨_, _, _, _, _, _, _, _, q⟩ := hs; exact q.elim
    | cont => obtain ⟨_, _, _, _, _, _, _, _, q⟩ := hs; exact q.elim
  · rw [hxe, hA, hEn] at hs
    exact hs
theorem FnG.mono {c : Cf} {j k : Nat} {f : Addr} {fd : FuncData} {ps : List Str} {sp : SpD} (F : FnG c j f fd ps sp) (h : j ≤ k) : FnG c k f fd ps sp :=
  ⟨F.len, fun A outer s H args us vs Q E hr => F.run A outer s H args us vs Q E (hr.mono h)⟩

section
variable {c : Cf} {lv : Nat} {N : List Str} {sc : Scope} {fb : Str → Bool} {X : Cx} {ρ : Rho} {M : Mem} {Q : RK} {e : Expr} {es : List Expr} {pos p : Pos} {r : R} {n : Str} {tg it : Expr} {k : Nat} {sp : SpD}
/-- the callee runs -/
theorem run_G {pins : List (Addr × Obj)} {σ : St} {H B : Hp} {s : Shared} {us : List Value} {vs : List V} {rs : List R} {f : Addr} {fd : FuncData} {ps : List Str} {ED : XKd} (h : CxOk c lv N sc fb X) (F : FnG c k f fd ps sp) (hk : k ≤ lv) (hb : Binds c.K fd ps [])
    (hx : ∀ s' e, Inv X pins σ H s → L2.CX X.prog X.w X.stack H s (fun cls d H' => ∃ B' M', Same B B' ∧ Own B' H' M' ∧ ED cls d M') e s' → X.xe e s') (I : Inv X pins σ H s) (rv : Vals vs us) (w : Sat ρ M σ B H) (rr : RelRs B rs vs) (hs : sp rs M Q ED) :
    wpAny (model X.prog X.w) X.A (call (.ref f) us) (EP X pins σ (Post ρ σ B Q)) X.xe s := by
  have hl : us.length = ps.length := rv.length.symm.trans ((Paired.length rr).symm.trans (F.len _ _ _ _ hs))
  have I0 := I.env0
  have hbd := hb s us (by rw [← h.K]; exact I.kIn) (by rw [List.append_nil]; exact hl)
  rw [List.append_nil] at hbd
  rw [h.prog, h.w, h.K, h.mg, h.base] at I0
  have main := F.run X.A X.stack s H ⟨us, []⟩ us vs (PostR B Q) (fun cls d H' => ∃ B' M', Same B B' ∧ Own B' H' M' ∧ ED cls d M') (h.room.mono hk) h.gd I0 hbd rv
    ⟨rs, M, B, Q, ED, w.o, rr, hs, fun v H' z => z, fun cls d H' z => z⟩
  rw [← h.prog, ← h.w] at main
  refine wpAny_call (codeAny_mono main fun r s' hq => ?_)
  cases r with
  | error e => exact hx s' e I hq
  | ok fl =>
    cases fl with
    | ret u =>
      refine (I.after hq).imp fun v ⟨H', I', rv', B', r', M', e', o', rr', q'⟩ => ⟨H', I', rv', B', r', M', e', ⟨o', w.s.mono e'⟩, rr', q'⟩
    | next => exact False.elim hq
    | brk => exact False.elim hq
    | cont => exact False.elim hq
theorem we_callG {f : Addr} {fd : FuncData} {ps : List Str} (h : CxOk c lv N sc fb X) (F : FnG c k f fd ps sp) (hm : c.mg n = some (.ref f)) (hkp : PySem.W.keepIn c.K (.ref f) = true) (hb : Binds c.K fd ps []) (hk : k ≤ lv) (v : glC sc n = true) {ED : XKd}
    (hx : ∀ (pins : List (Addr × Obj)) (σ : St) (H B : Hp) (s s' : Shared) (e : Value), Same ρ.fl B → Inv X pins σ H s → L2.CX X.prog X.w X.stack H s (fun cls d H' => ∃ B' M', Same B B' ∧ Own B' H' M' ∧ ED cls d M') e s' → X.xe e s')
    (q : WA X (e :: es) ρ M fun rs M1 => sp rs M1 Q ED) (he : starEach (e :: es) X.env = (false, eval e X.env) :: starEach es X.env := by with_unfolding_all rfl) (hpl : (backTo pos (starEach es X.env)).any (·.1) = false := by with_unfolding_all rfl) :
    WE X (.Call (.Name n p) (e :: es) [] pos) ρ M Q := fun σ H B w pins s I => by
  refine wpAny_Call_Name_kw (ld_glob I (h.gl v).1 (by rw [h.mg]; exact hm) ?_ (h.gl v).2)
  refine PySem.W.callWith_K (h₀ := X.base) I.ok.mod.kin (by rw [h.K]; exact hkp) (thn (q σ H B w pos pins s I) fun us s1 ⟨vs, H1, I1, rv, B1, rs, M1, e1, w1, r1, hs⟩ => ⟨I1.kIn, ?_⟩) he hpl
  exact thn (run_G h F hk hb (fun s' e I z => hx pins σ H1 B1 s1 s' e w1.s.fl I z) I1 rv w1 r1 hs) fun _ _ ⟨v, H', I', rv', z⟩ => ⟨v, H', I', rv', z.trans e1⟩
/-- a call of a def that lets nothing out -/
theorem w_call (h : CxOk c lv N sc fb X) (F : FnH c n k sp) (hk : k ≤ lv) (v : glC sc n = true) (q : WA X (e :: es) ρ M fun rs M1 => sp rs M1 Q E0d) (he : starEach (e :: es) X.env = (false, eval e X.env) :: starEach es X.env := by with_unfolding_all rfl)
    (hpl : (backTo pos (starEach es X.env)).any (·.1) = false := by with_unfolding_all rfl) : WE X (.Call (.Name n p) (e :: es) [] pos) ρ M Q := by
  obtain ⟨f, fd, ps, G, h1, h2, h3⟩ := F.ex
  refine we_callG h G h1 h2 h3 hk v (fun pins σ H B s s' e _ I z => passL pins σ H s e s' I ?_) q he hpl
  obtain ⟨a, B', H', cls, d, z1, z2, z3, z4, z5, z6, z7, _, _, _, _, z8⟩ := z
  exact z8.elim
end
end G
namespace G
open PySem PySem.Spec L2
/-- the names that stand for the built-ins still -/
structure Blt (c : Cf) : Prop where
  len : c.mg "len" = none
  tuple : c.mg "tuple" = none
  list : c.mg "list" = none
  int : c.mg "int" = none
  bool : c.mg "bool" = none
  dict : c.mg "dict" = none
  str : c.mg "str" = none
  range : c.mg "range" = none
  enumerate : c.mg "enumerate" = none
  zip : c.mg "zip" = none
  isinstance : c.mg "isinstance" = none
  repr : c.mg "repr" = none
  abs : c.mg "abs" = none
  max : c.mg "max" = none
  min : c.mg "min" = none
  sum : c.mg "sum" = none
  sorted : c.mg "sorted" = none
  any : c.mg "any" = none
  all : c.mg "all" = none

/-- no star stands ahead of it -/
def Plain (e : Expr) : Prop := ∀ (es : List Expr) (env : Env), starEach (e :: es) env = (false, eval e env) :: starEach es env
/-- the name n is the i-th -/
def VarI (N : List Str) (n : Str) (i : Nat) : Prop := N[i]? = some n
def visC (sc : Scope) (x : Str) : Bool := isVis (sc.names.lookup x) && !(x == ("__debug__" : Str)) && !(x == ("__classdict__" : Str))
def stoC (sc : Scope) (fb : Str → Bool) (x : Str) : Bool := match sc.names.lookup x with | some .local => true | some .cell => fb x | _ => false
section
variable {c : Cf} {lv : Nat} {N : List Str} {sc : Scope} {fb : Str → Bool} {X : Cx} {ρ : Rho} {M : Mem} {Q : RK} {e a b : Expr} {es : List Expr} {pos p : Pos} {r : R} {n : Str} {tg it : Expr} {i : Nat}
theorem CxOk.var (h : CxOk c lv N sc fb X) (a : VarI N n i) (v : visC sc n = true) : VarOk X i n := by
  unfold visC at v
  simp only [Bool.and_eq_true, Bool.not_eq_true'] at v
  obtain ⟨⟨v2, v3⟩, v4⟩ := v
  refine ⟨by rw [h.hN]; exact a, ?_, v3, v4⟩
  rw [h.hsc]
  unfold Vis
  cases q : sc.names.lookup n with
  | none => rw [q] at v2; cases v2
  | some k =>
    rw [q] at v2
    cases k <;> first | exact .inl rfl | exact .inr (.inl rfl) | exact .inr (.inr rfl) | cases v2
theorem CxOk.sto (h : CxOk c lv N sc fb X) (a : VarI N n i) (v : stoC sc fb n = true) : VarSet X i n := by
  unfold stoC at v
  refine ⟨by rw [h.hN]; exact h.nd, by rw [h.hN]; exact a, ?_, ?_⟩
  · rw [h.hsc]
    unfold L2.Loc
    split at v
    · rename_i q; exact .inl q
    · rename_i q; exact .inr q
    · cases v
  · rw [h.hsc, h.hfb]
    split at v
    · rename_i q; exact .inr q
    · exact .inl v
    · cases v
theorem x_var (h : CxOk c lv N sc fb X) (a : VarI N n i) (v : visC sc n = true) (hr : ρ.l[i]? = some (some r)) (q : Q r M) : WE X (.Name n pos) ρ M Q := we_var (h.var a v) hr q
theorem x_set {D : DE} (h : CxOk c lv N sc fb X) (a : VarI N n i) (v : stoC sc fb n = true) (q : WE X e ρ M fun r M1 => D.nx (ρ.set i (some r)) M1) (hs : swapsWith e (some (.Name n p)) pos.line X.env = pure false) : WS X (.Assign [.Name n p] e pos) ρ M D := ws_set (h.sto a v) q hs
theorem x_tname {P : Rho → Mem → Prop} (h : CxOk c lv N sc fb X) (a : VarI N n i) (v : stoC sc fb n = true) (q : P (ρ.set i (some r)) M) : WG X (.Name n p) r ρ M P := wg_name (h.sto a v) q
theorem x_tnamev {P : Rho → Prop} {vs : List Nat} (h : CxOk c lv N sc fb X) (a : VarI N n i) (v : stoC sc fb n = true) (hm : i ∈ vs) (q : P (ρ.set i (some r))) : WGv X (.Name n p) r vs ρ P := fun σ H B M u w rr =>
  rG_of (pg_name (h.sto a v).nd (h.sto a v).at_ (h.sto a v).loc (h.sto a v).fn) ⟨rfl, OnlyAt.set hm, _, w.s.set rr, q⟩
theorem any_plain {pos : Pos} : ∀ (es : List Expr), (∀ e ∈ es, Plain e) → ∀ (env : Env), (backTo pos (starEach es env)).any (·.1) = false
  | [], _, _ => rfl
  | e :: es, h, env => by
    rw [h e List.mem_cons_self es env]
    show (false || (backTo pos (starEach es env)).any (·.1)) = false
    rw [any_plain es (fun x hx => h x (List.mem_cons_of_mem _ hx)) env]
    rfl
theorem x_b1 {id : String} (h : CxOk c lv N sc fb X) (hm : c.mg n = none) (hv : bootBuiltins n = some (.builtin id)) (hn : n ≠ "__name__") (v : glC sc n = true) (q : WE X e ρ M fun r M1 => WC X (.builtin id) [r] M1 Q) (pl : Plain e) : WE X (.Call (.Name n p) [e] [] pos) ρ M Q :=
  w_callB h hm hv v (wa_cons (q.imp fun _ _ z => wa_nil z) (pl _ _)) hn (pl _ _) (by rfl)
theorem x_b2 {id : String} (h : CxOk c lv N sc fb X) (hm : c.mg n = none) (hv : bootBuiltins n = some (.builtin id)) (hn : n ≠ "__name__") (v : glC sc n = true) (q : WE X a ρ M fun r M1 => WE X b ρ M1 fun s M2 => WC X (.builtin id) [r, s] M2 Q) (pl : Plain a) (pl2 : Plain b) : WE X (.Call (.Name n p) [a, b] [] pos) ρ M Q :=
  w_callB h hm hv v (wa_cons (q.imp fun _ _ z => wa_cons (z.imp fun _ _ z => wa_nil z) (pl2 _ _)) (pl _ _)) hn (pl _ _) (any_plain [b] (fun _ hx => by rw [List.mem_singleton.mp hx]; exact pl2) _)
theorem x_t1 {id : String} (h : CxOk c lv N sc fb X) (hm : c.mg n = none) (hv : bootBuiltins n = some (.type id)) (hn : n ≠ "__name__") (v : glC sc n = true) (q : WE X e ρ M fun r M1 => WC X (.type id) [r] M1 Q) (pl : Plain e) : WE X (.Call (.Name n p) [e] [] pos) ρ M Q :=
  w_callTy h hm hv v (wa_cons (q.imp fun _ _ z => wa_nil z) (pl _ _)) hn (pl _ _) (by rfl)
theorem x_len (h : CxOk c lv N sc fb X) (B : Blt c) (v : glC sc "len" = true) (q : WE X e ρ M fun r M1 => WC X (.builtin "len") [r] M1 Q) (pl : Plain e := by with_unfolding_all (intro _ _; rfl)) : WE X (.Call (.Name "len" p) [e] [] pos) ρ M Q := x_b1 h B.len (by decide +kernel) (by decide) v q pl
theorem x_abs (h : CxOk c lv N sc fb X) (B : Blt c) (v : glC sc "abs" = true) (q : WE X e ρ M fun r M1 => WC X (.builtin "abs") [r] M1 Q) (pl : Plain e := by with_unfolding_all (intro _ _; rfl)) : WE X (.Call (.Name "abs" p) [e] [] pos) ρ M Q := x_b1 h B.abs (by decide +kernel) (by decide) v q pl
theorem x_repr (h : CxOk c lv N sc fb X) (B : Blt c) (v : glC sc "repr" = true) (q : WE X e ρ M fun r M1 => WC X (.builtin "repr") [r] M1 Q) (pl : Plain e := by with_unfolding_all (intro _ _; rfl)) : WE X (.Call (.Name "repr" p) [e] [] pos) ρ M Q := x_b1 h B.repr (by decide +kernel) (by decide) v q pl
theorem x_sum (h : CxOk c lv N sc fb X) (B : Blt c) (v : glC sc "sum" = true) (q : WE X e ρ M fun r M1 => WC X (.builtin "sum") [r] M1 Q) (pl : Plain e := by with_unfolding_all (intro _ _; rfl)) : WE X (.Call (.Name "sum" p) [e] [] pos) ρ M Q := x_b1 h B.sum (by decide +kernel) (by decide) v q pl
theorem x_any (h : CxOk c lv N sc fb X) (B : Blt c) (v : glC sc "any" = true) (q : WE X e ρ M fun r M1 => WC X (.builtin "any") [r] M1 Q) (pl : Plain e := by with_unfolding_all (intro _ _; rfl)) : WE X (.Call (.Name "any" p) [e] [] pos) ρ M Q := x_b1 h B.any (by decide +kernel) (by decide) v q pl
theorem x_all (h : CxOk c lv N sc fb X) (B : Blt c) (v : glC sc "all" = true) (q : WE X e ρ M fun r M1 => WC X (.builtin "all") [r] M1 Q) (pl : Plain e := by with_unfolding_all (intro _ _; rfl)) : WE X (.Call (.Name "all" p) [e] [] pos) ρ M Q := x_b1 h B.all (by decide +kernel) (by decide) v q pl
theorem x_sorted (h : CxOk c lv N sc fb X) (B : Blt c) (v : glC sc "sorted" = true) (q : WE X e ρ M fun r M1 => WC X (.builtin "sorted") [r] M1 Q) (pl : Plain e := by with_unfolding_all (intro _ _; rfl)) : WE X (.Call (.Name "sorted" p) [e] [] pos) ρ M Q := x_b1 h B.sorted (by decide +kernel) (by decide) v q pl
theorem x_min1 (h : CxOk c lv N sc fb X) (B : Blt c) (v : glC sc "min" = true) (q : WE X e ρ M fun r M1 => WC X (.builtin "min") [r] M1 Q) (pl : Plain e := by with_unfolding_all (intro _ _; rfl)) : WE X (.Call (.Name "min" p) [e] [] pos) ρ M Q := x_b1 h B.min (by decide +kernel) (by decide) v q pl
theorem x_max1 (h : CxOk c lv N sc fb X) (B : Blt c) (v : glC sc "max" = true) (q : WE X e ρ M fun r M1 => WC X (.builtin "max") [r] M1 Q) (pl : Plain e := by with_unfolding_all (intro _ _; rfl)) : WE X (.Call (.Name "max" p) [e] [] pos) ρ M Q := x_b1 h B.max (by decide +kernel) (by decide) v q pl
theorem x_min2 (h : CxOk c lv N sc fb X) (B : Blt c) (v : glC sc "min" = true) (q : WE X a ρ M fun r M1 => WE X b ρ M1 fun s M2 => WC X (.builtin "min") [r, s] M2 Q) (pl : Plain a := by with_unfolding_all (intro _ _; rfl)) (pl2 : Plain b := by with_unfolding_all (intro _ _; rfl)) : WE X (.Call (.Name "min" p) [a, b] [] pos) ρ M Q := x_b2 h B.min (by decide +kernel) (by decide) v q pl pl2
theorem x_max2 (h : CxOk c lv N sc fb X) (B : Blt c) (v : glC sc "max" = true) (q : WE X a ρ M fun r M1 => WE X b ρ M1 fun s M2 => WC X (.builtin "max") [r, s] M2 Q) (pl : Plain a := by with_unfolding_all (intro _ _; rfl)) (pl2 : Plain b := by with_unfolding_all (intro _ _; rfl)) : WE X (.Call (.Name "max" p) [a, b] [] pos) ρ M Q := x_b2 h B.max (by decide +kernel) (by decide) v q pl pl2
theorem x_isi (h : CxOk c lv N sc fb X) (B : Blt c) (v : glC sc "isinstance" = true) (q : WE X a ρ M fun r M1 => WE X b ρ M1 fun s M2 => WC X (.builtin "isinstance") [r, s] M2 Q) (pl : Plain a := by with_unfolding_all (intro _ _; rfl)) (pl2 : Plain b := by with_unfolding_all (intro _ _; rfl)) : WE X (.Call (.Name "isinstance" p) [a, b] [] pos) ρ M Q := x_b2 h B.isinstance (by decide +kernel) (by decide) v q pl pl2
theorem x_tuple (h : CxOk c lv N sc fb X) (B : Blt c) (v : glC sc "tuple" = true) (q : WE X e ρ M fun r M1 => WC X (.type "tuple") [r] M1 Q) (pl : Plain e := by with_unfolding_all (intro _ _; rfl)) : WE X (.Call (.Name "tuple" p) [e] [] pos) ρ M Q := x_t1 h B.tuple (by decide +kernel) (by decide) v q pl
theorem x_list (h : CxOk c lv N sc fb X) (B : Blt c) (v : glC sc "list" = true) (q : WE X e ρ M fun r M1 => WC X (.type "list") [r] M1 Q) (pl : Plain e := by with_unfolding_all (intro _ _; rfl)) : WE X (.Call (.Name "list" p) [e] [] pos) ρ M Q := x_t1 h B.list (by decide +kernel) (by decide) v q pl
theorem x_int (h : CxOk c lv N sc fb X) (B : Blt c) (v : glC sc "int" = true) (q : WE X e ρ M fun r M1 => WC X (.type "int") [r] M1 Q) (pl : Plain e := by with_unfolding_all (intro _ _; rfl)) : WE X (.Call (.Name "int" p) [e] [] pos) ρ M Q := x_t1 h B.int (by decide +kernel) (by decide) v q pl
theorem x_dict (h : CxOk c lv N sc fb X) (B : Blt c) (v : glC sc "dict" = true) (q : WE X e ρ M fun r M1 => WC X (.type "dict") [r] M1 Q) (pl : Plain e := by with_unfolding_all (intro _ _; rfl)) : WE X (.Call (.Name "dict" p) [e] [] pos) ρ M Q := x_t1 h B.dict (by decide +kernel) (by decide) v q pl
theorem x_tyInt (h : CxOk c lv N sc fb X) (B : Blt c) (v : glC sc "int" = true) (q : Q (.raw (.ty "int")) M) : WE X (.Name "int" pos) ρ M Q := w_ty h B.int (by decide +kernel) v q
theorem x_tyBool (h : CxOk c lv N sc fb X) (B : Blt c) (v : glC sc "bool" = true) (q : Q (.raw (.ty "bool")) M) : WE X (.Name "bool" pos) ρ M Q := w_ty h B.bool (by decide +kernel) v q
theorem x_tyTuple (h : CxOk c lv N sc fb X) (B : Blt c) (v : glC sc "tuple" = true) (q : Q (.raw (.ty "tuple")) M) : WE X (.Name "tuple" pos) ρ M Q := w_ty h B.tuple (by decide +kernel) v q
theorem x_tyList (h : CxOk c lv N sc fb X) (B : Blt c) (v : glC sc "list" = true) (q : Q (.raw (.ty "list")) M) : WE X (.Name "list" pos) ρ M Q := w_ty h B.list (by decide +kernel) v q
theorem x_tyDict (h : CxOk c lv N sc fb X) (B : Blt c) (v : glC sc "dict" = true) (q : Q (.raw (.ty "dict")) M) : WE X (.Name "dict" pos) ρ M Q := w_ty h B.dict (by decide +kernel) v q
theorem x_range1 {P : List PyData → Mem → Prop} (h : CxOk c lv N sc fb X) (B : Blt c) (v : glC sc "range" = true) (q : WE X a ρ M (isI fun i M1 => -(2 ^ 62) ≤ i ∧ i < 2 ^ 62 ∧ P ((upFrom 0 i.toNat).map PyData.int) M1)) (pl : Plain a := by with_unfolding_all (intro _ _; rfl)) : WIt X tg (.Call (.Name "range" p) [a] [] pos) ρ M P :=
  wit_range1 h B.range v (wa_cons (q.imp fun r _ z => wa_nil (by
    obtain ⟨i, e, z'⟩ := isI_inv z
    subst e
    exact z')) (pl _ _)) (pl _ _)
theorem x_range2 {P : List PyData → Mem → Prop} (h : CxOk c lv N sc fb X) (B : Blt c) (v : glC sc "range" = true) (q : WE X a ρ M (isI fun i M1 => WE X b ρ M1 (isI fun j M1 => (-(2 ^ 62) ≤ i ∧ i < 2 ^ 62 ∧ -(2 ^ 62) ≤ j ∧ j < 2 ^ 62) ∧ P ((upFrom i (j - i).toNat).map PyData.int) M1))) (pl : Plain a := by with_unfolding_all (intro _ _; rfl)) (pl2 : Plain b := by with_unfolding_all (intro _ _; rfl)) : WIt X tg (.Call (.Name "range" p) [a, b] [] pos) ρ M P :=
  wit_range2 h B.range v (wa_cons (q.imp fun r _ z => by
    obtain ⟨i, e, z'⟩ := isI_inv z
    subst e
    exact wa_cons (z'.imp fun r _ z => wa_nil (by
      obtain ⟨j, e, z'⟩ := isI_inv z
      subst e
      exact z')) (pl2 _ _)) (pl _ _)) (by rw [pl, pl2]; rfl) (by rw [pl2]; rfl)
/-! a call of a def of ones own, with one, two, three arguments -/
variable {k : Nat} {sp : SpD} {a1 a2 a3 a4 : Expr}
theorem x_call1 (h : CxOk c lv N sc fb X) (F : FnH c n k sp) (hk : k ≤ lv) (v : glC sc n = true) (q : WE X a1 ρ M fun r1 M1 => sp [r1] M1 Q E0d) (pl1 : Plain a1 := by with_unfolding_all (intro _ _; rfl)) : WE X (.Call (.Name n p) [a1] [] pos) ρ M Q :=
  w_call h F hk v (wa_cons (q.imp fun _ _ z => wa_nil z) (pl1 _ _)) (pl1 _ _) (any_plain [] (fun _ hx => by cases hx) _)
theorem x_call2 (h : CxOk c lv N sc fb X) (F : FnH c n k sp) (hk : k ≤ lv) (v : glC sc n = true) (q : WE X a1 ρ M fun r1 M1 => WE X a2 ρ M1 fun r2 M2 => sp [r1, r2] M2 Q E0d) (pl1 : Plain a1 := by with_unfolding_all (intro _ _; rfl)) (pl2 : Plain a2 := by with_unfolding_all (intro _ _; rfl)) : WE X (.Call (.Name n p) [a1, a2] [] pos) ρ M Q :=
  w_call h F hk v (wa_cons (q.imp fun _ _ z => wa_cons (z.imp fun _ _ z => wa_nil z) (pl2 _ _)) (pl1 _ _)) (pl1 _ _) (any_plain [a2] (fun _ hx => by rw [List.mem_singleton.mp hx]; exact pl2) _)
theorem x_call3 (h : CxOk c lv N sc fb X) (F : FnH c n k sp) (hk : k ≤ lv) (v : glC sc n = true) (q : WE X a1 ρ M fun r1 M1 => WE X a2 ρ M1 fun r2 M2 => WE X a3 ρ M2 fun r3 M3 => sp [r1, r2, r3] M3 Q E0d) (pl1 : Plain a1 := by with_unfolding_all (intro _ _; rfl)) (pl2 : Plain a2 := by with_unfolding_all (intro _ _; rfl)) (pl3 : Plain a3 := by with_unfolding_all (intro _ _; rfl)) : WE X (.Call (.Name n p) [a1, a2, a3] [] pos) ρ M Q :=
  w_call h F hk v (wa_cons (q.imp fun _ _ z => wa_cons (z.imp fun _ _ z => wa_cons (z.imp fun _ _ z => wa_nil z) (pl3 _ _)) (pl2 _ _)) (pl1 _ _)) (pl1 _ _) (any_plain [a2, a3] (fun _ hx => by
    rcases List.mem_cons.mp hx with e | hx
    · rw [e]; exact pl2
    · rw [List.mem_singleton.mp hx]; exact pl3) _)
end
end G
namespace G
open PySem PySem.Spec L2
section
variable {c : Cf} {lv : Nat} {N : List Str} {sc : Scope} {fb : Str → Bool} {X : Cx} {ρ : Rho} {M : Mem} {Q : RK} {e a b : Expr} {es : List Expr} {pos p : Pos} {r : R} {n : Str} {tg it : Expr} {i : Nat}
variable {nx bk ct : Rho → Mem → Prop} {rt : RK} {st : Stmt} {sts : List Stmt} {l : List (Option R)} {fl : Hp}
/-! ### the same rules, told by parts -/
theorem s_nil (q : nx ρ M) : WSs X [] ρ M ⟨nx, rt, bk, ct⟩ := wss_nil q
theorem s_cons (h : WS X st ρ M ⟨fun ρ' M' => WSs X sts ρ' M' ⟨nx, rt, bk, ct⟩, rt, bk, ct⟩) : WSs X (st :: sts) ρ M ⟨nx, rt, bk, ct⟩ := wss_cons h
theorem s_one (h : WS X st ρ M ⟨nx, rt, bk, ct⟩) : WSs X [st] ρ M ⟨nx, rt, bk, ct⟩ := wss_one h
theorem s_ret (h : WE X e ρ M rt) : WS X (.Return (some e) pos) ρ M ⟨nx, rt, bk, ct⟩ := ws_ret h
theorem s_expr (h : WE X e ρ M fun _ M1 => nx ρ M1) (hs : swapsWith e none pos.line X.env = pure false := by with_unfolding_all rfl) : WS X (.Expr e pos) ρ M ⟨nx, rt, bk, ct⟩ := ws_expr h hs
theorem s_pass (q : nx ρ M) : WS X (.Pass pos) ρ M ⟨nx, rt, bk, ct⟩ := ws_pass q
theorem s_break (q : bk ρ M) : WS X (.Break pos) ρ M ⟨nx, rt, bk, ct⟩ := ws_break q
theorem s_continue (q : ct ρ M) : WS X (.Continue pos) ρ M ⟨nx, rt, bk, ct⟩ := ws_continue q
theorem s_set (h : CxOk c lv N sc fb X) (a : VarI N n i) (v : stoC sc fb n = true) (q : WE X e ⟨l, fl⟩ M fun r M1 => nx ⟨l.set i (some r), fl⟩ M1) (hs : swapsWith e (some (.Name n p)) pos.line X.env = pure false := by with_unfolding_all rfl) : WS X (.Assign [.Name n p] e pos) ⟨l, fl⟩ M ⟨nx, rt, bk, ct⟩ := ws_set (h.sto a v) q hs
theorem s_asg {tg : Expr} (h : WE X e ρ M fun r M1 => WG X tg r ρ M1 nx) (hs : swapsWithSole [tg] e pos.line X.env = pure false := by with_unfolding_all rfl) (hw : swappedStores [tg] e X.env = pure none := by with_unfolding_all rfl)
    (h1 : (assignEach [tg] X.env).map (·.2) = [assign tg X.env] := by with_unfolding_all rfl) : WS X (.Assign [tg] e pos) ρ M ⟨nx, rt, bk, ct⟩ := ws_asg h hs hw h1
theorem s_tname {P : Rho → Mem → Prop} (h : CxOk c lv N sc fb X) (a : VarI N n i) (v : stoC sc fb n = true) (q : P ⟨l.set i (some r), fl⟩ M) : WG X (.Name n p) r ⟨l, fl⟩ M P := wg_name (h.sto a v) q
theorem s_tnamev {P : Rho → Prop} {vs : List Nat} (h : CxOk c lv N sc fb X) (a : VarI N n i) (v : stoC sc fb n = true) (hm : i ∈ vs) (q : P ⟨l.set i (some r), fl⟩) : WGv X (.Name n p) r vs ⟨l, fl⟩ P := x_tnamev h a v hm q
theorem s_var (h : CxOk c lv N sc fb X) (a : VarI N n i) (v : visC sc n = true) (hr : l[i]? = some (some r)) (q : Q r M) : WE X (.Name n pos) ⟨l, fl⟩ M Q := we_var (h.var a v) hr q
theorem s_while {t : Expr} {body : List Stmt} (hF : Frm X) (W : Nat → Rho → Mem → Prop) (m0 : Nat) (h0 : W m0 ρ M) (hstep : ∀ m ρ' M', W m ρ' M' → WT X t ρ' M' fun k M1 =>
      if k = true then WSs X body ρ' M1 ⟨fun ρ2 M2 => ∃ m', m' < m ∧ W m' ρ2 M2, rt, nx, fun ρ2 M2 => ∃ m', m' < m ∧ W m' ρ2 M2⟩ else nx ρ' M1) : WS X (.While t body [] pos) ρ M ⟨nx, rt, bk, ct⟩ := ws_while W m0 h0 hstep hF.own
theorem s_for {body : List Stmt} (hX : CxOk c lv N sc fb X) (hF : Frm X) (h : WIt X tg it ρ M fun ds M0 => ∃ inv : Nat → Rho → Mem → Prop, inv 0 ρ M0 ∧
      (∀ i d ρ' M', ds[i]? = some d → inv i ρ' M' → WG X tg (.d d) ρ' M' fun ρ2 M2 => WSs X body ρ2 M2 ⟨inv (i + 1), rt, nx, inv (i + 1)⟩) ∧ ∀ ρ' M', inv ds.length ρ' M' → nx ρ' M')
    (hs : ∀ x, foldedSetIterable it X.env x = pure x := by intro _; with_unfolding_all rfl) : WS X (.For tg it body [] pos) ρ M ⟨nx, rt, bk, ct⟩ := ws_for hX.calm h hF.own hs
/-! ### answers -/
theorem st_isB {T : Bool → Mem → Prop} {k : Bool} (h : T k M) : isB T (.d (.bool k)) M := h
theorem st_isI {T : Int → Mem → Prop} {k : Int} (h : T k M) : isI T (.d (.int k)) M := h
theorem st_isT {T : List PyData → Mem → Prop} {k : List PyData} (h : T k M) : isT T (.d (.tuple k)) M := h
theorem st_isL {T : List PyData → Mem → Prop} {k : List PyData} (h : T k M) : isL T (.d (.list k)) M := h
theorem st_if {q : Prop} [Decidable q] {A B : Prop} (h1 : q → A) (h2 : ¬ q → B) : if decide q = true then A else B := by
  by_cases h : q
  · rw [decide_eq_true h, if_pos rfl]; exact h1 h
  · rw [decide_eq_false h, if_neg Bool.false_ne_true]; exact h2 h
theorem st_ifn {q : Prop} [Decidable q] {A B : Prop} (h1 : ¬ q → A) (h2 : q → B) : if (!decide q) = true then A else B := by
  by_cases h : q
  · rw [decide_eq_true h]; exact h2 h
  · rw [decide_eq_false h]; exact h1 h
theorem st_ifb {k : Bool} {A B : Prop} (h1 : k = true → A) (h2 : k = false → B) : if k = true then A else B := by
  cases k
  · exact h2 rfl
  · exact h1 rfl
theorem st_ifnb {k : Bool} {A B : Prop} (h1 : k = false → A) (h2 : k = true → B) : if (!k) = true then A else B := by
  cases k
  · exact h1 rfl
  · exact h2 rfl
theorem st_nt {A B : Prop} (h : B) : if (!true) = true then A else B := h
theorem st_nf {A B : Prop} (h : A) : if (!false) = true then A else B := h
theorem st_wD0 {k : List PyData → Prop} (h : k []) : wD [] k := h
theorem st_wD {x : PyData} {rs : List R} {k : List PyData → Prop} (h : wD rs fun ds => k (x :: ds)) : wD (.d x :: rs) k := h
theorem small_line {n : Nat} (h : n ≤ 1000000) : n ≤ sizeLine := Nat.le_trans h (by rw [sizeLine_eq]; decide)
theorem st_wp0 {P : Option Int → Mem → Prop} (h : P none M) : WP X none ρ M P := h
theorem st_wp {P : Option Int → Mem → Prop} (h : WE X e ρ M (isI fun i M1 => P (some i) M1)) : WP X (some e) ρ M P := h
theorem st_ts0 {T : Bool → Mem → Prop} (h : T true M) : WTs X [] ρ M T := h
theorem st_ts1 {T : Bool → Mem → Prop} (h : WT X e ρ M T) : WTs X [e] ρ M T := h
end
end G
namespace G
open PySem PySem.Spec L2
section
variable {c : Cf} {lv : Nat} {N : List Str} {sc : Scope} {fb : Str → Bool} {X : Cx} {ρ : Rho} {M : Mem} {Q : RK} {e a b o : Expr} {es rest : List Expr} {pos p apos cpos : Pos} {r : R} {n : Str} {tg it : Expr} {i : Nat}
variable {nx bk ct : Rho → Mem → Prop} {rt : RK} {st : Stmt} {sts : List Stmt} {l : List (Option R)} {fl : Hp}

/-! ### tests that go together -/
def EvT (X : Cx) (e : Expr) (ρ : Rho) (M : Mem) (k : Bool) : Prop := ∀ T : Bool → Mem → Prop, T k M → WT X e ρ M T
def EvW (X : Cx) (e : Expr) (ρ : Rho) (M : Mem) (k : Bool) : Prop := ∀ T : Bool → Mem → Prop, T k M → WW X e ρ M T
theorem evw_and1 {k : Bool} (h : EvT X a ρ M k) : EvW X (.BoolOp .And [a] pos) ρ M k := fun T q => ww_and1 (h T q)
theorem evw_or1 {k : Bool} (h : EvT X a ρ M k) : EvW X (.BoolOp .Or [a] pos) ρ M k := fun T q => ww_or1 (h T q)
theorem evw_and {k j : Bool} (h : EvT X a ρ M k) (h2 : k = true → EvW X (.BoolOp .And (b :: rest) pos) ρ M j) : EvW X (.BoolOp .And (a :: b :: rest) pos) ρ M (k && j) := fun T q => ww_and (h _ (by
  cases k with
  | true => rw [if_pos rfl]; exact h2 rfl T q
  | false => rw [if_neg Bool.false_ne_true]; exact q))
theorem evw_or {k j : Bool} (h : EvT X a ρ M k) (h2 : k = false → EvW X (.BoolOp .Or (b :: rest) pos) ρ M j) : EvW X (.BoolOp .Or (a :: b :: rest) pos) ρ M (k || j) := fun T q => ww_or (h _ (by
  cases k with
  | false => rw [if_neg Bool.false_ne_true]; exact h2 rfl T q
  | true => rw [if_pos rfl]; exact q))
theorem evt_w {op : BoolOp} {k : Bool} (h : EvW X (.BoolOp op es pos) ρ M k) : EvT X (.BoolOp op es pos) ρ M k := fun T q => wt_w (h T q)
theorem evt_not {k : Bool} (h : EvT X a ρ M k) : EvT X (.UnaryOp .Not a pos) ρ M (!k) := fun T q => wt_not (h _ q)
theorem evt_is {k j : Bool} (h : EvT X e ρ M k) (q : k = j) : EvT X e ρ M j := q ▸ h
theorem wt_ev {T : Bool → Mem → Prop} {k : Bool} (h : EvT X e ρ M k) (q : T k M) : WT X e ρ M T := h T q
/-- a pure expression's value -/
def EvE (X : Cx) (e : Expr) (ρ : Rho) (M : Mem) (r : R) : Prop := ∀ Q : RK, Q r M → WE X e ρ M Q
theorem we_ev {r : R} (h : EvE X e ρ M r) (q : Q r M) : WE X e ρ M Q := h Q q
theorem evt_chain {op op' : CmpOp} {a b c : Expr} {k j : Bool} {x y z : R} (h1 : EvE X a ρ M x) (h2 : EvE X b ρ M y) (h3 : ∀ Q : RK, Q (.d (.bool k)) M → WO X (compareOp op) x y M Q) (h4 : k = true → EvE X c ρ M z) (h5 : k = true → ∀ Q : RK, Q (.d (.bool j)) M → WO X (compareOp op') y z M Q)
    (hm : lastMarks [op, op'] [b, c] = false := by with_unfolding_all rfl) : EvT X (.Compare a [op, op'] [b, c] pos) ρ M (k && j) := fun T q => wt_chain (h1 _ (h2 _ (h3 _ (st_isB (by
  cases k with
  | true => rw [if_pos rfl]; exact h4 rfl _ (h5 rfl _ q)
  | false => rw [if_neg Bool.false_ne_true]; exact q))))) hm
theorem eve_if {d1 d2 : PyData} {k : Bool} (h : EvT X e ρ M k) (h1 : k = true → EvE X a ρ M (.d d1)) (h2 : k = false → EvE X b ρ M (.d d2)) : EvE X (.IfExp e a b pos) ρ M (.d (if k = true then d1 else d2)) := fun Q q => we_if (h _ (by
  cases k with
  | true => rw [if_pos rfl] at q ⊢; exact h1 rfl Q q
  | false => rw [if_neg Bool.false_ne_true] at q ⊢; exact h2 rfl Q q))

/-! ### lists of one's own: append, pop, item = .. -/
theorem own_lst {B H : Hp} {p : Addr} {rs : List R} (w : Own B H M) (h : M p = some (.lst rs)) : ∃ vs, H p = some (.lst vs) ∧ RelRs B rs vs := by
  obtain ⟨_, o, ho, vs, rfl, hv⟩ := w.own p _ h
  exact ⟨vs, ho, hv⟩
def isP (P : Addr → Mem → Prop) : RK
  | .raw (.ref p), M => P p M
  | _, _ => False
theorem isP_inv {P : Addr → Mem → Prop} {r : R} {M : Mem} (h : isP P r M) : ∃ p, r = .raw (.ref p) ∧ P p M := by
  unfold isP at h
  split at h
  · exact ⟨_, rfl, h⟩
  · exact h.elim
theorem st_isP {P : Addr → Mem → Prop} {q : Addr} (h : P q M) : isP P (.raw (.ref q)) M := h
theorem relRs_snoc {B : Hp} {rs : List R} {vs : List V} {r : R} {v : V} (h : RelRs B rs vs) (g : RelR B r v) : RelRs B (rs ++ [r]) (vs ++ [v]) := relRs_app h (.cons g .nil)
theorem x_append (h : WE X o ρ M (isP fun p M1 => (∃ rs, M1 p = some (.lst rs)) ∧ WE X e ρ M1 fun y M2 => ∃ rs, M2 p = some (.lst rs) ∧ rs.length < sizeLine ∧ Q (.d .none) (mset M2 p (.lst (rs ++ [y])))))
    (hbase : attributeBase o "append" X.env (eval o X.env) = eval o X.env := by with_unfolding_all rfl)
    (hfew : ((backTo cpos (starEach [e] X.env)).all (fun x => !x.1) && (backToKw cpos (keywordEach [] X.env)).all (fun x => x.1.isSome)
      && decide (([e] : List Expr).length + ([] : List Keyword).length + (if ([] : List Keyword).isEmpty then 0 else 1) < 30)) = true := by with_unfolding_all rfl)
    (hline : (apos.endLine == cpos.line) = true := by with_unfolding_all rfl) (pl : Plain e := by with_unfolding_all (intro _ _; rfl)) : WE X (.Call (.Attribute o "append" apos) [e] [] cpos) ρ M Q := fun σ H B w => by
  refine rE_of (pe_bm PySem.F.plainAttrs_list PySem.F.slot_list_append PySem.F.type_list_append mt_append pe_rE (pa_cons pe_rE pa_nil (pl _ _)) hbase hfew hline (pl _ _) (by rfl)) ((h σ H B w).imp fun v H1 ⟨B1, r, M1, e1, w1, r1, q0⟩ => ?_)
  obtain ⟨q, er, ⟨rs, hr⟩, q1⟩ := isP_inv q0
  subst er
  have ev : v = .ref q := r1
  subst ev
  obtain ⟨vs, hv, _⟩ := own_lst w1.o hr
  refine ⟨.inl ⟨rfl, vs, SqL.of hv⟩, (q1 σ H1 B1 w1).imp fun u H2 ⟨B2, y, M2, e2, w2, r2, rs2, h2, hl, hq⟩ => ?_⟩
  obtain ⟨vs2, hv2, hr2⟩ := own_lst w2.o h2
  have hrel : CellRel B2 (.lst (rs2 ++ [y])) (.lst (vs2 ++ [u])) := ⟨_, rfl, relRs_snoc hr2 r2⟩
  exact ⟨q, vs2, u, rfl, rfl, hv2, by rw [← Paired.length hr2]; exact hl, B2, .d .none, _, Same.trans e1 e2, w2.write h2 hrel, Da.non, hq⟩
theorem paired_dropLast {B : Hp} : ∀ {rs : List R} {vs : List V}, RelRs B rs vs → RelRs B rs.dropLast vs.dropLast
  | _, _, .nil => .nil
  | _, _, .cons _ .nil => .nil
  | _, _, .cons a (.cons b t) => .cons a (paired_dropLast (.cons b t))
theorem paired_erase {B : Hp} : ∀ {rs : List R} {vs : List V} (i : Nat), RelRs B rs vs → RelRs B (rs.eraseIdx i) (vs.eraseIdx i)
  | _, _, _, .nil => .nil
  | _, _, 0, .cons _ t => t
  | _, _, i + 1, .cons a t => .cons a (paired_erase i t)
theorem paired_set {B : Hp} {r : R} {v : V} (g : RelR B r v) : ∀ {rs : List R} {vs : List V} (i : Nat), RelRs B rs vs → RelRs B (rs.set i r) (vs.set i v)
  | _, _, _, .nil => .nil
  | _, _, 0, .cons _ t => .cons g t
  | _, _, i + 1, .cons a t => .cons a (paired_set g i t)
/-- o.pop() -/
theorem x_pop (h : WE X o ρ M (isP fun p M1 => ∃ rs y, M1 p = some (.lst rs) ∧ rs[rs.length - 1]? = some y ∧ Q y (mset M1 p (.lst rs.dropLast))))
    (hbase : attributeBase o "pop" X.env (eval o X.env) = eval o X.env := by with_unfolding_all rfl) (hline : (apos.endLine == cpos.line) = true := by with_unfolding_all rfl) : WE X (.Call (.Attribute o "pop" apos) [] [] cpos) ρ M Q := fun σ H B w => by
  refine rE_of (pe_bm0 PySem.F.plainAttrs_list PySem.F.slot_list_pop PySem.F.type_list_pop mt_pop pe_rE hbase hline) ((h σ H B w).imp fun v H1 ⟨B1, r, M1, e1, w1, r1, q0⟩ => ?_)
  obtain ⟨q, er, rs, y, hr, hy, q1⟩ := isP_inv q0
  subst er
  have ev : v = .ref q := r1
  subst ev
  obtain ⟨vs, hv, hrel⟩ := own_lst w1.o hr
  obtain ⟨u, hu, hru⟩ := paired_get hrel hy
  have hc : CellRel B1 (.lst rs.dropLast) (.lst vs.dropLast) := ⟨_, rfl, paired_dropLast hrel⟩
  exact ⟨.inl ⟨rfl, vs, SqL.of hv⟩, q, vs, u, rfl, rfl, hv, by rw [← Paired.length hrel]; exact hu, B1, y, _, e1, w1.write hr hc, hru, q1⟩
/-- o.pop(i) -/
theorem x_popAt (h : WE X o ρ M (isP fun p M1 => (∃ rs, M1 p = some (.lst rs)) ∧ WE X e ρ M1 (isI fun i M2 => ∃ rs k y, M2 p = some (.lst rs) ∧ -(2 ^ 63) ≤ i ∧ i < 2 ^ 63 ∧ seqIndex? i rs.length = some k ∧ rs[k]? = some y ∧ Q y (mset M2 p (.lst (rs.eraseIdx k))))))
    (hbase : attributeBase o "pop" X.env (eval o X.env) = eval o X.env := by with_unfolding_all rfl)
    (hfew : ((backTo cpos (starEach [e] X.env)).all (fun x => !x.1) && (backToKw cpos (keywordEach [] X.env)).all (fun x => x.1.isSome)
      && decide (([e] : List Expr).length + ([] : List Keyword).length + (if ([] : List Keyword).isEmpty then 0 else 1) < 30)) = true := by with_unfolding_all rfl)
    (hline : (apos.endLine == cpos.line) = true := by with_unfolding_all rfl) (pl : Plain e := by with_unfolding_all (intro _ _; rfl)) : WE X (.Call (.Attribute o "pop" apos) [e] [] cpos) ρ M Q := fun σ H B w => by
  refine rE_of (pe_bm PySem.F.plainAttrs_list PySem.F.slot_list_pop PySem.F.type_list_pop mt_popAt pe_rE (pa_cons pe_rE pa_nil (pl _ _)) hbase hfew hline (pl _ _) (by rfl)) ((h σ H B w).imp fun v H1 ⟨B1, r, M1, e1, w1, r1, q0⟩ => ?_)
  obtain ⟨q, er, ⟨rs, hr⟩, q1⟩ := isP_inv q0
  subst er
  have ev : v = .ref q := r1
  subst ev
  obtain ⟨vs, hv, _⟩ := own_lst w1.o hr
  refine ⟨.inl ⟨rfl, vs, SqL.of hv⟩, (q1 σ H1 B1 w1).imp fun u H2 ⟨B2, y, M2, e2, w2, r2, q2⟩ => ?_⟩
  obtain ⟨i, er, rs2, k, z, h2, hi1, hi2, hk, hz, hq⟩ := isI_inv q2
  subst er
  obtain ⟨vs2, hv2, hr2⟩ := own_lst w2.o h2
  obtain ⟨t, ht, hrt⟩ := paired_get hr2 hz
  have hc : CellRel B2 (.lst (rs2.eraseIdx k)) (.lst (vs2.eraseIdx k)) := ⟨_, rfl, paired_erase k hr2⟩
  exact ⟨q, vs2, i, k, t, rfl, by rw [Da.int_inv r2], hv2, hi1, hi2, by rw [← Paired.length hr2]; exact hk, ht, B2, z, _, Same.trans e1 e2, w2.write h2 hc, hrt, hq⟩
/-- o[i] = r, o a list of one's own -/
theorem wg_item {P : Rho → Mem → Prop} (h : WE X o ρ M (isP fun p M1 => WE X a ρ M1 (isI fun i M2 => ∃ rs j, M2 p = some (.lst rs) ∧ ixN rs.length i = some j ∧ P ρ (mset M2 p (.lst (rs.set j r))))))
    (ha : ∀ v, assign (.Subscript o a pos) X.env v = (do
      let ov ← holding [v] (eval o X.env)
      let iv ← holding [v, ov] (eval a X.env)
      standAt pos
      holding [v, ov, iv] (setItem ov iv v)
      release [v, ov, iv] []) := by intro _; with_unfolding_all rfl) : WG X (.Subscript o a pos) r ρ M P := fun σ H B v w rr => by
  refine rG_of (pg_sub pe_rE pe_rE set_list ha) ((h σ H B w).imp fun u H1 ⟨B1, r1, M1, e1, w1, rr1, q0⟩ => ?_)
  obtain ⟨q, er, q1⟩ := isP_inv q0
  subst er
  have ev : u = .ref q := rr1
  subst ev
  refine (q1 σ H1 B1 w1).imp fun z H2 ⟨B2, y, M2, e2, w2, r2, q2⟩ => ?_
  obtain ⟨i, er, rs, j, h2, hj, hq⟩ := isI_inv q2
  subst er
  obtain ⟨vs, hv, hrel⟩ := own_lst w2.o h2
  have hc : CellRel B2 (.lst (rs.set j r)) (.lst (vs.set j v)) := ⟨_, rfl, paired_set ((rr.mono e1).mono e2) j hrel⟩
  exact ⟨q, vs, i, j, rfl, Da.int_inv r2, hv, by rw [← Paired.length hrel]; exact hj, B2, ρ, _, Same.trans e1 e2, w2.write h2 hc, hq⟩

/-! ### dicts of one's own, keys ints and texts -/
def keyD : PyData → Option Key
  | .int i => some (.inl i)
  | .str s => some (.inr s)
  | _ => none
theorem keyD_rel {B : Hp} {d : PyData} {k : Key} {v : V} (h : keyD d = some k) (r : Da B v d) : v = kV k := by
  cases d with
  | int i => cases h; exact Da.int_inv r
  | str s => cases h; exact Da.str_inv r
  | _ => cases h
def getK {κ : Type} [DecidableEq κ] : List (κ × R) → κ → Option R
  | [], _ => none
  | (k, r) :: rest, x => if k = x then some r else getK rest x
def putR {κ : Type} [DecidableEq κ] : List (κ × R) → κ → R → List (κ × R)
  | [], x, v => [(x, v)]
  | (k, r) :: rest, x, v => if k = x then (k, v) :: rest else (k, r) :: putR rest x v
theorem getK_rel {κ : Type} [DecidableEq κ] {B : Hp} {x : κ} : ∀ {kvs : List (κ × R)} {ws : List (κ × V)}, Paired (fun (p : κ × R) (q : κ × V) => p.1 = q.1 ∧ RelR B p.2 q.2) kvs ws → (∀ r, getK kvs x = some r → ∃ v, valV ws x = some v ∧ RelR B r v) ∧ (getK kvs x = none → valV ws x = none)
  | _, _, .nil => ⟨fun r h => (by cases h), fun _ => rfl⟩
  | (k, r) :: kvs, (k2, v) :: ws, .cons ⟨e, hr⟩ t => by
    have e : k = k2 := e
    subst e
    obtain ⟨h1, h2⟩ := getK_rel (x := x) t
    unfold getK
    by_cases q : k = x
    · rw [if_pos q, valV_pos (p := (k, v)) q]
      exact ⟨fun r' h => by cases h; exact ⟨v, rfl, hr⟩, fun h => by cases h⟩
    · rw [if_neg q, valV_neg (p := (k, v)) q]
      exact ⟨h1, h2⟩
theorem putK_cons {κ : Type} [DecidableEq κ] {k x : κ} {v u : V} {ws : List (κ × V)} (q : ¬ k = x) : putK ((k, v) :: ws) x u = (k, v) :: putK ws x u := by
  unfold putK
  rw [List.any_cons]
  have e : decide ((k, v).1 = x) = false := decide_eq_false q
  rw [e, Bool.false_or]
  split
  · rw [List.map_cons, if_neg q]
  · rw [List.cons_append]
theorem map_same {κ : Type} [DecidableEq κ] {x : κ} {u : V} : ∀ {ws : List (κ × V)}, x ∉ ws.map (·.1) → ws.map (fun kv => if kv.1 = x then (kv.1, u) else kv) = ws
  | [], _ => rfl
  | (k, v) :: ws, h => by
    rw [List.map_cons, if_neg (fun e => h (by rw [List.map_cons]; exact e ▸ List.mem_cons_self)), map_same fun m => h (by rw [List.map_cons]; exact List.mem_cons_of_mem _ m)]
theorem putR_rel {κ : Type} [DecidableEq κ] {B : Hp} {x : κ} {r : R} {u : V} (g : RelR B r u) : ∀ {kvs : List (κ × R)} {ws : List (κ × V)}, (kvs.map (·.1)).Nodup → Paired (fun (p : κ × R) (q : κ × V) => p.1 = q.1 ∧ RelR B p.2 q.2) kvs ws → Paired (fun (p : κ × R) (q : κ × V) => p.1 = q.1 ∧ RelR B p.2 q.2) (putR kvs x r) (putK ws x u)
  | _, _, _, .nil => .cons ⟨rfl, g⟩ .nil
  | (k, r0) :: kvs, (k2, v) :: ws, nd, .cons ⟨e, hr⟩ t => by
    have e : k = k2 := e
    subst e
    have nd2 : k ∉ kvs.map (·.1) ∧ (kvs.map (·.1)).Nodup := List.nodup_cons.mp (by rw [List.map_cons] at nd; exact nd)
    have keys : ∀ {kvs : List (κ × R)} {ws : List (κ × V)}, Paired (fun (p : κ × R) (q : κ × V) => p.1 = q.1 ∧ RelR B p.2 q.2) kvs ws → kvs.map (·.1) = ws.map (·.1) := by
      intro kvs ws h
      induction h with
      | nil => rfl
      | cons a _ ih => rw [List.map_cons, List.map_cons, ih, a.1]
    unfold putR
    by_cases q : k = x
    · rw [if_pos q]
      have hm : x ∉ ws.map (·.1) := by rw [← keys t, ← q]; exact nd2.1
      have e2 : putK ((k, v) :: ws) x u = (k, u) :: ws := by
        unfold putK
        rw [List.any_cons, show decide ((k, v).1 = x) = true from decide_eq_true q, Bool.true_or, if_pos rfl, List.map_cons, if_pos q, map_same hm]
      rw [e2]
      exact .cons ⟨rfl, g⟩ t
    · rw [if_neg q, putK_cons q]
      exact .cons ⟨rfl, hr⟩ (putR_rel g nd2.2 t)
theorem own_dK {B H : Hp} {p : Addr} {kvs : List (Key × R)} (w : Own B H M) (h : M p = some (.dK kvs)) : ∃ ws, H p = some (.dK ws) ∧ Paired (fun (p : Key × R) (q : Key × V) => p.1 = q.1 ∧ RelR B p.2 q.2) kvs ws := by
  obtain ⟨_, o, ho, vs, rfl, hv⟩ := w.own p _ h
  exact ⟨vs, ho, hv⟩
def isD (P : PyData → Mem → Prop) : RK
  | .d x, M => P x M
  | _, _ => False
theorem isD_inv {P : PyData → Mem → Prop} {r : R} {M : Mem} (h : isD P r M) : ∃ p, r = .d p ∧ P p M := by
  unfold isD at h
  split at h
  · exact ⟨_, rfl, h⟩
  · exact h.elim
theorem st_isD {P : PyData → Mem → Prop} {q : PyData} (h : P q M) : isD P (.d q) M := h
theorem CxOk.u1 (h : CxOk c lv N sc fb X) : X.A.units + 1 < cLine := hu_of h.room
/-- d[k], the key there -/
theorem x_dget (hX : CxOk c lv N sc fb X) (h : WE X o ρ M (isP fun p M1 => WE X a ρ M1 (isD fun d M2 => ∃ kvs k r, M2 p = some (.dK kvs) ∧ keyD d = some k ∧ getK kvs k = some r ∧ Q r M2))) (hs : NoSl a := by with_unfolding_all (intro _ _; rfl)) : WE X (.Subscript o a pos) ρ M Q := fun σ H B w => by
  refine rE_of (pe_dget hX.u1 pe_rE pe_rE hs) ((h σ H B w).imp fun v H1 ⟨B1, r, M1, e1, w1, r1, q0⟩ => ?_)
  obtain ⟨q, er, q1⟩ := isP_inv q0
  subst er
  have ev : v = .ref q := r1
  subst ev
  refine (q1 σ H1 B1 w1).imp fun u H2 ⟨B2, y, M2, e2, w2, r2, q2⟩ => ?_
  obtain ⟨d, er, kvs, k, z, h2, hk, hz, hq⟩ := isD_inv q2
  subst er
  obtain ⟨ws, hv, hrel⟩ := own_dK w2.o h2
  obtain ⟨t, ht, hrt⟩ := (getK_rel (x := k) hrel).1 z hz
  exact ⟨q, t, rfl, by rw [keyD_rel hk r2, ← ht]; exact DGet.k hv, B2, z, M2, Same.trans e1 e2, w2, hrt, hq⟩
/-- d[k] = e -/
theorem x_dput {value : Expr} {pos' : Pos} (hX : CxOk c lv N sc fb X) (h : WE X value ρ M fun r M0 => WE X o ρ M0 (isP fun p M1 => WE X a ρ M1 (isD fun d M2 => ∃ kvs k, M2 p = some (.dK kvs) ∧ keyD d = some k ∧ (kvs.map (·.1)).Nodup ∧ kvs.length < 1000 ∧ nx ρ (mset M2 p (.dK (putR kvs k r))))))
    (hs : swapsWith value (some (.Subscript o a pos')) pos.line X.env = pure false := by with_unfolding_all rfl) : WS X (.Assign [.Subscript o a pos'] value pos) ρ M ⟨nx, rt, bk, ct⟩ := fun σ H B w => by
  refine rS_of (ps_dput hX.u1 pe_rE pe_rE pe_rE hs) ((h σ H B w).imp fun v0 H0 ⟨B0, r0, M0, e0, w0, rr0, q00⟩ => (q00 σ H0 B0 w0).imp fun v H1 ⟨B1, r, M1, e1, w1, r1, q0⟩ => ?_)
  obtain ⟨q, er, q1⟩ := isP_inv q0
  subst er
  have ev : v = .ref q := r1
  subst ev
  refine (q1 σ H1 B1 w1).imp fun u H2 ⟨B2, y, M2, e2, w2, r2, q2⟩ => ?_
  obtain ⟨d, er, kvs, k, h2, hk, nd, hl, hq⟩ := isD_inv q2
  subst er
  obtain ⟨ws, hv, hrel⟩ := own_dK w2.o h2
  have hc : CellRel B2 (.dK (putR kvs k r0)) (.dK (putK ws k v0)) := ⟨_, rfl, putR_rel ((rr0.mono e1).mono e2) nd hrel⟩
  refine ⟨q, _, rfl, by rw [keyD_rel hk r2]; exact DPut.k hv (by rw [← Paired.length hrel]; exact small1000 (by omega)), B2, ρ, _, Same.trans e0 (Same.trans e1 e2), w2.write h2 hc, ?_⟩
  exact hq
end
end G
namespace G
open PySem PySem.Spec L2
/-! ### repr -/
section
variable {X : Cx} {pins : List (Addr × Obj)} {σ : St} {H B : Hp} {s : Shared}
mutual
theorem Da.reads (I : Inv X pins σ H s) (ex : Same B H) : ∀ (d : PyData) (v : V) (u : Value), Da B v d → RelV v u → ∃ as, Reads s.heap u d as
  | .none, _, _, h, r => by
    cases h
    cases r
    exact ⟨_, .none⟩
  | .bool k, _, _, h, r => by
    cases h
    cases r
    exact ⟨_, .bool k⟩
  | .int i, _, _, h, r => by
    cases h
    obtain ⟨t, rfl⟩ := r
    exact ⟨_, .int i t⟩
  | .str x, _, _, h, r => by
    cases h
    obtain ⟨t, rfl⟩ := r
    exact ⟨_, .str x t⟩
  | .list ds, _, _, h, r => by
    obtain ⟨a, xs, rfl, ha, hx⟩ := Da.lst_inv h
    cases r
    obtain ⟨its, rv, ⟨o, n, ho, hc, _, hd⟩, _⟩ := I.list (SqL.of (ex _ _ ha))
    obtain ⟨as, hr⟩ := DaA.reads I ex ds _ its hx rv
    exact ⟨_, .list ho hc hd hr⟩
  | .tuple ds, _, _, h, r => by
    obtain ⟨a, xs, rfl, ha, hx⟩ := Da.tup_inv h
    cases r
    obtain ⟨its, rv, ⟨o, ho, hc, n, hd⟩, _⟩ := I.tuple (SqT.of (ex _ _ ha))
    obtain ⟨as, hr⟩ := DaA.reads I ex ds _ its hx rv
    exact ⟨_, .tuple ho hc hd hr⟩
  | .dict kvs, _, _, h, r => by
    cases h with
    | dct ha =>
      cases r
      obtain ⟨_, _, vs, rel, o, es, ep, ho, hex, hdat, _, hes, _⟩ := (show ObjOk X.prog X.w H s.heap _ (.dK []) from I.hok _ _ (ex _ _ ha))
      cases rel
      have he : es.toList = [] := by
        generalize es.toList = l at hes
        cases hes
        rfl
      refine ⟨_, .dict (as := []) (bs := []) ho hex.1 hdat ?_ ?_⟩
      · rw [he]; exact .nil
      · rw [he]; exact .nil
theorem DaA.reads (I : Inv X pins σ H s) (ex : Same B H) : ∀ (ds : List PyData) (vs : List V) (us : List Value), DaA B vs ds → Vals vs us → ∃ as, ReadsAll s.heap us ds as
  | [], _, _, h, r => by
    cases h
    cases r
    exact ⟨_, .nil⟩
  | d :: ds, _, _, h, r => by
    cases h with
    | cons h1 h2 =>
      cases r with
      | cons r1 r2 =>
        obtain ⟨as, q1⟩ := Da.reads I ex d _ _ h1 r1
        obtain ⟨bs, q2⟩ := DaA.reads I ex ds _ _ h2 r2
        exact ⟨_, .cons q1 q2⟩
end
end
section
variable {c : Cf} {lv : Nat} {N : List Str} {sc : Scope} {fb : Str → Bool} {X : Cx} {ρ : Rho} {M : Mem} {Q : RK} {e a b o : Expr} {es rest : List Expr} {pos p apos cpos : Pos} {r : R} {n : Str} {tg it : Expr} {i : Nat}
/-- what can be shown: no dict in it, its numbers not too long, its depth, its text's length -/
structure Shows (d : PyData) : Prop where
  ok : d.showable = true
  nd : d.hasDict = false
  dp : d.depth ≤ 60
  ln : d.shown.length ≤ sizeLine
theorem wc_repr (h : CxOk c lv N sc fb X) {d : PyData} (hs : Shows d) (q : Q (.d (.str d.shown)) M) : WC X (.builtin "repr") [.d d] M Q := by
  intro ρ σ H B vs w rr pins s σ' us I rv
  obtain ⟨v, rfl, r1⟩ := rel1 rr
  obtain ⟨u, rfl, ru⟩ := vals1 rv
  have r1' : Da B v d := r1
  have fin : ∀ (J : Inv X pins σ' H s) (t : Nat), EP X pins σ' (Post ρ σ B Q) (.str d.shown t) s := fun J t => ⟨.str d.shown, H, J, ⟨t, rfl⟩, B, .d (.str d.shown), M, Same.refl B, w, Da.str _, q⟩
  have hu := h.units
  have hdp := hs.dp
  cases d with
  | none =>
    cases r1'
    cases ru
    exact PySem.P.repr_of_none ⟨.str (PyData.shown .none), H, I.tok _, ⟨_, rfl⟩, B, .d (.str (PyData.shown .none)), M, Same.refl B, w, Da.str _, q⟩
  | bool k =>
    cases r1'
    cases ru
    exact PySem.P.repr_of_bool ⟨.str (PyData.shown (.bool k)), H, I.tok _, ⟨_, rfl⟩, B, .d (.str (PyData.shown (.bool k))), M, Same.refl B, w, Da.str _, q⟩
  | int j =>
    cases r1'
    obtain ⟨t, rfl⟩ := ru
    exact PySem.P.repr_of_int (by simpa [PyData.showable] using hs.ok) ⟨.str (PyData.shown (.int j)), H, I.tok _, ⟨_, rfl⟩, B, .d (.str (PyData.shown (.int j))), M, Same.refl B, w, Da.str _, q⟩
  | str x =>
    cases r1'
    obtain ⟨t, rfl⟩ := ru
    exact PySem.P.repr_of_str ⟨.str (PyData.shown (.str x)), H, I.tok _, ⟨_, rfl⟩, B, .d (.str (PyData.shown (.str x))), M, Same.refl B, w, Da.str _, q⟩ (by simpa [PyData.shown] using hs.ln)
  | list ds =>
    obtain ⟨as, hr⟩ := Da.reads I w.o.ex (.list ds) v u r1' ru
    obtain ⟨a, xs, rfl, ha, hx⟩ := Da.lst_inv r1'
    cases ru
    exact repr_of_reads' hr hs.ok (fun z => by rw [hs.nd] at z; cases z) h.gd (by omega) (fun _ _ z => z) (fun h' u tk k => ⟨.str _, H, I.kept k, ⟨u, rfl⟩, B, .d (.str (PyData.shown (.list ds))), M, Same.refl B, w, Da.str _, q⟩) hs.ln
  | tuple ds =>
    obtain ⟨as, hr⟩ := Da.reads I w.o.ex (.tuple ds) v u r1' ru
    obtain ⟨a, xs, rfl, ha, hx⟩ := Da.tup_inv r1'
    cases ru
    exact repr_of_reads' hr hs.ok (fun z => by rw [hs.nd] at z; cases z) h.gd (by omega) (fun _ _ z => z) (fun h' u tk k => ⟨.str _, H, I.kept k, ⟨u, rfl⟩, B, .d (.str (PyData.shown (.tuple ds))), M, Same.refl B, w, Da.str _, q⟩) hs.ln
  | dict kvs => have := hs.nd; simp [PyData.hasDict] at this
end
end G
namespace PySem
open Builtin
/-! ### enumerate(v), one argument, v told by what its iterator is -/
set_option maxHeartbeats 1000000 in
theorem enum_new_one {v : Value} {o : Obj} {H : Heap → Prop} (B : Begins v o H) :
    Meets (Builtin.«enumerate.__new__» ⟨[.type "enumerate", v], []⟩) (fun _ R s => H s.heap ∧
      R (.ok (.ret (.ref (s.heap.push o).objs.size))) { s with heap := (s.heap.push o).push { cls := .type "enumerate", data := .fields #[.none, .bool false, .ref s.heap.objs.size, rawInt 0, .none, .none] } }) := by
  refine .of_wp fun prog w A R s h => ?_
  obtain ⟨hp, g, d, tk, os⟩ := s
  obtain ⟨h1, hR⟩ := h
  have hsub := sub_enumerate
  have it0 : ∀ {A' : Around} {E' : Value → Shared → Prop} {Q' : Value → Shared → Prop}, Q' (.ref hp.objs.size) ⟨hp.push o, g, d, tk, os⟩ → wpAny (model prog w) A' (pyIter v) Q' E' ⟨hp, g, d, tk, os⟩ := fun q => B.iter prog w _ _ ⟨hp, g, d, tk, os⟩ _ h1 q
  wp_walk using it0
  refine wpAny_stack_any fun st => wpAny_pure ?_
  split
  · rename_i c1 _ _ _ _ _
    cases (c1 == Value.type "enumerate") <;> (wp_walk using it0; exact ⟨_, rfl, hR⟩)
  · wp_walk using it0
    exact ⟨_, rfl, hR⟩
theorem enum_made {prog : Program} {w : World} {A : Around} {E : Value → Shared → Prop} {s : Shared} {v : Value} {o : Obj} {H : Heap → Prop} {Q : Value → Shared → Prop} (B : Begins v o H) (h1 : H s.heap)
    (h : ∀ h', IsEnum h' (s.heap.objs.size + 1) s.heap.objs.size 0 .none → h'.get? s.heap.objs.size = some o → (∀ b o, s.heap.get? b = some o → h'.get? b = some o) → Q (.ref (s.heap.objs.size + 1)) { s with heap := h' }) :
    wpAny (model prog w) A (call (.type "enumerate") [v]) Q E s := by
  refine callType_new F.called_enumerate (by decide) (F.typeCall_enumerate_1 _) (F.newCall_enumerate_1 _) (fun obj => F.args_object_init_2 obj _) F.entry_enumerate_new (enum_new_one B) ⟨h1, ?_⟩
  have hz : (s.heap.push o).objs.size = s.heap.objs.size + 1 := Heap.size_push ..
  show _ ∧ _
  rw [hz]
  have he : IsEnum ((s.heap.push o).push { cls := .type "enumerate", data := .fields #[.none, .bool false, .ref s.heap.objs.size, rawInt 0, .none, .none] }) (s.heap.objs.size + 1) s.heap.objs.size 0 .none := by
    have q := Heap.get?_push_size (s.heap.push o) (o := { cls := .type "enumerate", data := .fields #[.none, .bool false, .ref s.heap.objs.size, rawInt 0, .none, .none] }) rfl
    rw [hz] at q
    exact q
  exact ⟨⟨_, he, rfl⟩, h _ he (Heap.get?_push_of_some _ (Heap.get?_push_size _ B.free)) fun b o x => Heap.get?_push_of_some _ (Heap.get?_push_of_some _ x)⟩
end PySem
namespace G
open PySem PySem.Spec L2
/-- the tuple at a, each item in a new pair -/
def Itn (K : PySem.W.Frag) (a : Addr) : It where
  go i H := ∃ (xs : List V) (x : V), SqT K H a xs ∧ xs[i]? = some x
  yld i H v H' := ∃ T x, v = .ref T ∧ H T = none ∧ H' = upd H T (.tup [.int (i : Nat), x]) ∧ ∀ xs, SqT K H a xs → xs[i]? = some x
  stop i H := ∃ xs : List V, SqT K H a xs ∧ xs.length = i
theorem turn_enumT {P : Program} {w : World} {K : PySem.W.Frag} {elts : List Expr} {kk : Nat} {tpos : Pos} (a e it : Addr) (items : Array Value) (hai : a ≠ it) (hae : a ≠ e) :
    Turn P w K (.Tuple elts kk tpos) (Itn K a) [e, it] e (fun i h => ((∃ old, IsEnum h e it ((i : Nat) : Int) old) ∧ h.IsTupleIter it a i ∧ e ≠ it)) := by
  refine ⟨by simp, fun i h st b hb => ?_, fun i h h' st k => ?_, ?_, ?_, fun A i s Q E st h => ?_⟩
  · obtain ⟨⟨old, he⟩, ⟨o, ho, hc, hd⟩, _⟩ := st
    rcases (show b = e ∨ b = it by simpa using hb) with z | z
    · exact ⟨_, by rw [z]; exact he, fun v q => by cases q⟩
    · exact ⟨o, by rw [z]; exact ho, fun v q => by rw [hd] at q; cases q⟩
  · obtain ⟨⟨old, he⟩, hi, hne⟩ := st
    exact ⟨⟨old, k e (by simp) _ he⟩, hi.at fun o q => k it (by simp) o q, hne⟩
  · intro X hP hw hK hc i pins s σ H E I hf st hg
    subst hP hw hK
    obtain ⟨⟨old, he⟩, hit, hne⟩ := st
    obtain ⟨xs, x, hq, hx⟩ := hg
    obtain ⟨its, rv, p, hz⟩ := I.tuple hq
    obtain ⟨u, hu, ru⟩ := rv.get hx
    have hel : e < s.heap.objs.size := Heap.lt_size he
    have hil : it < s.heap.objs.size := by obtain ⟨_, q, _⟩ := hit; exact Heap.lt_size q
    have hi : i < its.toArray.size := by
      rw [List.size_toArray]
      exact (List.getElem?_eq_some_iff.mp hu).1
    refine wpAny_pyNext_enum_itemD (Draws.tuple (A := X.A.in1) (I.ok.hd hc) it a hai its.toArray) he ⟨hit, p⟩ hi hne (by simp [hne, hae.symm]) fun z h' tk hz ho hst hT hsz hk => ?_
    have ez : z = u := by
      have hz' : its[i]? = some z := by simpa using hz
      rw [hu] at hz'
      exact (Option.some.inj hz').symm
    subst ez
    refine ⟨_, rfl, wpAny_letOwnedTupleGo_enum (s := { s with heap := h', toks := tk + 1 }) ho fun h2 he2 sb => ?_⟩
    have hT2 : h2.get? s.heap.objs.size = some { cls := .type "tuple", data := .seq #[.int i tk, z] } := (sb.2 _ (Nat.ne_of_gt hel)).trans hT
    have new : ObjOk X.prog X.w (upd H s.heap.objs.size (.tup [.int (i : Nat), x])) h2 s.heap.objs.size (.tup [.int (i : Nat), x]) :=
      ⟨by rw [sizeLine_eq]; show 2 ≤ _; omega, [.int i tk, z], .cons ⟨_, rfl⟩ (.cons ru .nil), _, hT2, rfl, _, rfl⟩
    have I1 : Inv X pins σ (upd H s.heap.objs.size (.tup [.int (i : Nat), x])) { s with heap := h2, toks := tk + 1 } :=
      I.turnedNew (ch := [e, it]) (fun b ob hb q => (sb.2 b fun z => hb (by simp [z])).trans (hk b ob (fun z => hb (by simp [z])) (fun z => hb (by simp [z])) q)) hf (Nat.le_refl _) new
    refine ⟨.ref s.heap.objs.size, _, I1, rfl, ⟨_, x, rfl, I.hok.fresh (Nat.le_refl _), rfl, fun ys hy => by rw [I.tuple_inj hy hq]; exact hx⟩, ⟨⟨z, ?_⟩, hst.1.at fun o q => (sb.2 it (Ne.symm hne)).trans q, hne⟩, fun b hb => ?_⟩
    · rw [show ((i + 1 : Nat) : Int) = (i : Int) + 1 by omega]
      exact he2
    · have hb' : b < s.heap.objs.size := by
        rcases (show b = e ∨ b = it by simpa using hb) with z | z <;> (rw [z]; assumption)
      rw [upd_ne (Nat.ne_of_lt hb')]
      exact (hf b hb).1
  · intro X hP hw hK hc i pins s σ H E I hf st hg
    subst hP hw hK
    obtain ⟨⟨old, he⟩, hit, hne⟩ := st
    obtain ⟨xs, hq, hx⟩ := hg
    obtain ⟨its, rv, p, hz⟩ := I.tuple hq
    obtain ⟨f0, f1, f2, f3, f4, f5⟩ := hf it (by simp)
    have hl : its.toArray.size = i := by rw [List.size_toArray, ← rv.length, hx]
    subst hl
    exact wpAny_pyNext_enum_endD (Draws.tuple (A := X.A.in1) (I.ok.hd hc) it a hai its.toArray) he ⟨hit, p⟩ fun h' eb => ⟨rfl, I.turned (t' := s.toks) (fun b o hb q => eb b o hb q) f0 f1 f3 f4 f5⟩
  · obtain ⟨⟨_, he⟩, _⟩ := st
    exact wpAny_pyIter_enum he h
theorem walk_enumT {K : PySem.W.Frag} {a : Addr} {xs : List V} : Walk (Itn K a) xs.length (fun H => SqT K H a xs) (YPair (fun i => some (.int (i : Nat))) fun i => xs[i]?) := by
  refine ⟨fun i _ hi q => ⟨xs, xs[i], q, by simp [hi]⟩, fun _ q => ⟨xs, q, rfl⟩, fun i H v H' _ q y => ?_⟩
  obtain ⟨T, x, h1, h2, h3, h4⟩ := y
  exact ⟨T, .int (i : Nat), x, h1, h2, h3, rfl, h4 xs q⟩
def iEnumT (K : PySem.W.Frag) (ta : TA) : TI := fun σ H R => ta σ H fun vs H1 => ∃ a xs, vs = [.ref a] ∧ SqT K H1 a xs ∧ R (Itn K a) H1
theorem pi_enumT {X : Cx} {e : Expr} {ta : TA} {p pos tpos : Pos} {elts : List Expr} {kk : Nat} (hg : Gl X "enumerate") (hm : X.mg "enumerate" = none) (ha : PA X [e] ta) (hs : starEach [e] X.env = [(false, eval e X.env)]) :
    PI X (.Tuple elts kk tpos) (.Call (.Name "enumerate" p) [e] [] pos) (iEnumT X.K ta) := by
  refine ⟨fun pins s σ H R I h => ?_⟩
  refine PyProof.Rows.Call_ (ld_blt I hg hm PyProof.Rows.boot_enumerate (PyProof.Rows.callWith_type1 (thn (ha.run pos pins s σ H _ I h) fun us s1 ⟨vs, H1, I1, r1, q1⟩ => ?_) hs rfl))
  obtain ⟨a, xs, ex, hq, q⟩ := q1
  subst ex
  obtain ⟨u, rfl, ru⟩ := vals1 r1
  cases ru
  obtain ⟨its, rv, pt, hz⟩ := I1.tuple hq
  have hal : a < s1.heap.objs.size := by obtain ⟨o, ho, _⟩ := pt; exact Heap.lt_size ho
  refine enum_made (begins_tuple a its.toArray) pt fun h' he hit hk => wpAny_pyIter_enum he ?_
  have I2 : Inv X pins σ H1 { s1 with heap := h' } := I1.kept (t' := s1.toks) hk
  refine ⟨s1.heap.objs.size + 1, [s1.heap.objs.size + 1, s1.heap.objs.size], _, _, H1, rfl, I2, turn_enumT a (s1.heap.objs.size + 1) s1.heap.objs.size its.toArray (Nat.ne_of_lt hal) (Nat.ne_of_lt (Nat.lt_succ_of_lt hal)),
    ⟨⟨.none, he⟩, ⟨_, hit, rfl, rfl⟩, Nat.succ_ne_self _⟩, fun b hb => ?_, q⟩
  have hle : s1.heap.objs.size ≤ b := by
    rcases (show b = s1.heap.objs.size + 1 ∨ b = s1.heap.objs.size by simpa using hb) with z | z
    · rw [z]; exact Nat.le_succ _
    · rw [z]; exact Nat.le_refl _
  exact I1.fpOk hle (I1.hok.fresh hle)
section
variable {c : Cf} {lv : Nat} {N : List Str} {sc : Scope} {fb : Str → Bool} {X : Cx} {ρ : Rho} {M : Mem} {Q : RK} {e a b o : Expr} {es rest : List Expr} {pos p apos cpos : Pos} {r : R} {n : Str} {tg it : Expr} {i : Nat}
variable {nx bk ct : Rho → Mem → Prop} {rt : RK} {st : Stmt} {sts : List Stmt} {l : List (Option R)} {fl : Hp}
/-- enumerate of data: a list or a tuple -/
theorem x_enumT {P : List PyData → Mem → Prop} {elts : List Expr} {kk : Nat} {tpos : Pos} (h : CxOk c lv N sc fb X) (B : Blt c) (v : glC sc "enumerate" = true) (q : WE X e ρ M (isT fun ds M1 => P (enumD ds) M1)) (pl : Plain e := by with_unfolding_all (intro _ _; rfl)) :
    WIt X (.Tuple elts kk tpos) (.Call (.Name "enumerate" p) [e] [] pos) ρ M P := fun σ H B0 w =>
  rI_of (pi_enumT (h.gl v).1 (by rw [h.mg]; exact B.enumerate) (pa_cons pe_rE pa_nil (pl _ _)) (pl _ _)) ((q σ H B0 w).imp fun v H1 ⟨B1, r, M1, e1, w1, r1, q0⟩ => by
    obtain ⟨ds, er, q⟩ := isT_inv q0
    subst er
    obtain ⟨a, xs, rfl, ha, hx⟩ := Da.tup_inv r1
    refine ⟨a, xs, rfl, SqT.of (w1.o.ex _ _ ha), B1, _, M1, e1, w1, walks_pair (walk_enumT (xs := xs)) ?_ (fun H e => SqT.of (e _ _ ha)) enum_ix fun i d hd => hx.get hd, q⟩
    rw [List.length_zip, List.length_map, upFrom_length, hx.length, Nat.min_self])
theorem x_enumL {P : List PyData → Mem → Prop} {elts : List Expr} {kk : Nat} {tpos : Pos} (h : CxOk c lv N sc fb X) (B : Blt c) (v : glC sc "enumerate" = true) (q : WE X e ρ M (isL fun ds M1 => P (enumD ds) M1)) (pl : Plain e := by with_unfolding_all (intro _ _; rfl)) :
    WIt X (.Tuple elts kk tpos) (.Call (.Name "enumerate" p) [e] [] pos) ρ M P := wit_enumL h B.enumerate v (wa_cons (q.imp fun r M1 z => wa_nil (by
    obtain ⟨ds, e, z'⟩ := isL_inv z
    subst e
    exact z')) (pl _ _)) (pl _ _)

/-! ### [::-1] -/
/-- l[::-1], not changed later; of one's own -/
theorem we_revL {k : Nat} {p1 p2 p3 : Pos} (h : WE X e ρ M (isL fun ds M1 => Q (.d (.list ds.reverse)) M1)) : WE X (.Subscript e (.Slice none none (some (.UnaryOp .USub (.Constant (.int 1) k p1) p2)) p3) pos) ρ M Q := fun σ H B w =>
  rE_of (pe_revL pe_rE) ((h σ H B w).imp fun v H1 ⟨B1, r, M1, e1, w1, r1, q0⟩ => by
    obtain ⟨ds, er, q⟩ := isL_inv q0
    subst er
    obtain ⟨a, xs, rfl, ha, hx⟩ := Da.lst_inv r1
    refine ⟨a, xs, rfl, SqL.of (w1.o.ex _ _ ha), fun q hq => ?_⟩
    have fz := Same.frozen (o := .lst xs.reverse) w1.o.ex hq
    exact ⟨_, .d (.list ds.reverse), M1, Same.trans e1 fz, w1.frozen hq, Da.lst upd_same (DaA.mono fz _ hx.reverse), by assumption⟩)
theorem we_revLR {k : Nat} {p1 p2 p3 : Pos} (h : WE X e ρ M (isL fun ds M1 => ∀ q, M1 q = none → Q (.raw (.ref q)) (mset M1 q (.lst (ds.reverse.map R.d))))) : WE X (.Subscript e (.Slice none none (some (.UnaryOp .USub (.Constant (.int 1) k p1) p2)) p3) pos) ρ M Q := fun σ H B w =>
  rE_of (pe_revL pe_rE) ((h σ H B w).imp fun v H1 ⟨B1, r, M1, e1, w1, r1, q0⟩ => by
    obtain ⟨ds, er, hq0⟩ := isL_inv q0
    subst er
    obtain ⟨a, xs, rfl, ha, hx⟩ := Da.lst_inv r1
    refine ⟨a, xs, rfl, SqL.of (w1.o.ex _ _ ha), fun q hq => ?_⟩
    exact ⟨B1, .raw (.ref q), _, e1, w1.made (c := .lst (ds.reverse.map R.d)) hq ⟨_, rfl, relRs_of hx.reverse⟩, rfl, hq0 q (w1.o.free hq)⟩)

/-! ### a dict written with its pairs -/
def trsOf (X : Cx) : List (Option Expr) → List Expr → List (TE × TE)
  | some k :: ks, v :: vs => (rE X k, rE X v) :: trsOf X ks vs
  | _, _ => []
def WPairs (X : Cx) : List (Option Expr) → List Expr → Rho → Mem → (List (Key × R) → Mem → Prop) → Prop
  | [], [], _, M, P => P [] M
  | some k :: ks, v :: vs, ρ, M, P => WE X k ρ M (isD fun d M1 => WE X v ρ M1 fun r M2 => ∃ key, keyD d = some key ∧ WPairs X ks vs ρ M2 fun kvs M3 => P ((key, r) :: kvs) M3)
  | _, _, _, _, _ => False
def okPairs : List (Option Expr) → List Expr → Bool
  | [], [] => true
  | some _ :: ks, _ :: vs => okPairs ks vs
  | _, _ => false
theorem pps_trsOf : ∀ (ks : List (Option Expr)) (vs : List Expr), okPairs ks vs = true → PPs X pos ks vs (trsOf X ks vs)
  | [], [], _ => pps_nil
  | some k :: ks, v :: vs, h => pps_cons pe_rE pe_rE (pps_trsOf ks vs h)
  | [], _ :: _, h => by cases h
  | none :: _, _, h => by cases h
  | some _ :: _, [], h => by cases h
theorem pairs_imp {σ : St} : ∀ (ks : List (Option Expr)) (vs : List Expr) (H : Hp) (Q Q' : List (V × V) → Hp → Prop), tPairs (trsOf X ks vs) σ H Q → (∀ ps H', Q ps H' → Q' ps H') → tPairs (trsOf X ks vs) σ H Q'
  | some k :: ks, v :: vs, H, Q, Q', h, q => by
    have h' : rE X k σ H fun x H1 => rE X v σ H1 fun y H2 => tPairs (trsOf X ks vs) σ H2 fun ps H3 => Q ((x, y) :: ps) H3 := h
    exact h'.imp fun x H1 z => z.imp fun y H2 z => pairs_imp ks vs H2 _ _ z fun ps H' => q _ _
  | [], _, H, Q, Q', h, q => q _ _ (show Q [] H by cases ‹List Expr› <;> exact h)
  | none :: _, _, H, Q, Q', h, q => q _ _ (show Q [] H by cases ‹List Expr› <;> exact h)
  | some _ :: _, [], H, Q, Q', h, q => q _ _ (show Q [] H from h)
theorem pairs_run : ∀ (ks : List (Option Expr)) (vs : List Expr) (M : Mem) (P : List (Key × R) → Mem → Prop) (σ : St) (H B : Hp), WPairs X ks vs ρ M P → Sat ρ M σ B H →
    tPairs (trsOf X ks vs) σ H fun ps H' => ∃ B' kvs ws M', ps = ws.map (fun kv => (kV kv.1, kv.2)) ∧ Same B B' ∧ Sat ρ M' σ B' H' ∧ Paired (fun (p : Key × R) (q : Key × V) => p.1 = q.1 ∧ RelR B' p.2 q.2) kvs ws ∧ P kvs M'
  | [], [], M, P, σ, H, B, h, w => ⟨B, [], [], M, rfl, Same.refl B, w, .nil, h⟩
  | some k :: ks, v :: vs, M, P, σ, H, B, h, w => by
    have h' : WE X k ρ M (isD fun d M1 => WE X v ρ M1 fun r M2 => ∃ key, keyD d = some key ∧ WPairs X ks vs ρ M2 fun kvs M3 => P ((key, r) :: kvs) M3) := h
    refine (h' σ H B w).imp fun x H1 ⟨B1, r, M1, e1, w1, r1, q0⟩ => ?_
    obtain ⟨d, er, q⟩ := isD_inv q0
    subst er
    refine (q σ H1 B1 w1).imp fun y H2 ⟨B2, r2, M2, e2, w2, rr2, key, hk, q2⟩ => ?_
    have hx : x = kV key := keyD_rel hk r1
    subst hx
    refine pairs_imp ks vs H2 _ _ (pairs_run ks vs M2 _ σ H2 B2 q2 w2) fun ps H3 ⟨B3, kvs, ws, M3, e, e3, w3, hp, hP⟩ => ?_
    exact ⟨B3, (key, r2) :: kvs, (key, y) :: ws, M3, by rw [e]; rfl, Same.trans e1 (Same.trans e2 e3), w3, .cons ⟨rfl, rr2.mono e3⟩ hp, hP⟩
  | [], _ :: _, _, _, _, _, _, h, _ => h.elim
  | none :: _, [], _, _, _, _, _, h, _ => h.elim
  | none :: _, _ :: _, _, _, _, _, _, h, _ => h.elim
  | some _ :: _, [], _, _, _, _, _, h, _ => h.elim
theorem putK_new {κ : Type} [DecidableEq κ] {x : κ} {u : V} {ws : List (κ × V)} (h : x ∉ ws.map (·.1)) : putK ws x u = ws ++ [(x, u)] := by
  unfold putK
  rw [if_neg]
  intro z
  obtain ⟨q, hq, e⟩ := List.any_eq_true.mp z
  exact h (List.mem_map.mpr ⟨q, hq, of_decide_eq_true e⟩)
theorem mergeK_nd : ∀ (more acc : List (Key × V)), (acc.map (·.1) ++ more.map (·.1)).Nodup → mergeK acc more = acc ++ more
  | [], acc, _ => by show acc = _; rw [List.append_nil]
  | (k, v) :: more, acc, h => by
    show mergeK (putK acc k v) more = _
    have hk : k ∉ acc.map (·.1) := fun m => by
      have := (List.nodup_append.mp h).2.2 k m k (by simp)
      exact this rfl
    rw [putK_new hk, mergeK_nd more]
    · rw [List.append_assoc]; rfl
    · rw [List.map_append, List.append_assoc]
      exact h
theorem x_disp {keys : List (Option Expr)} {values : List Expr} (hok : okPairs keys values = true) (h0 : keys ≠ []) (h15 : keys.length ≤ 15)
    (h : ∀ q, M q = none → WPairs X keys values ρ (mset M q (.dK [])) fun kvs M2 => M2 q = some (.dK []) ∧ kvs.length ≤ 15 ∧ (kvs.map (·.1)).Nodup ∧ Q (.raw (.ref q)) (mset M2 q (.dK kvs))) : WE X (.Dict keys values pos) ρ M Q := fun σ H B w => by
  have hl : ∀ (ks : List (Option Expr)) (vs : List Expr), okPairs ks vs = true → ks.length = vs.length ∧ ks.all (·.isSome) = true := by
    intro ks
    induction ks with
    | nil => intro vs h; cases vs <;> first | exact ⟨rfl, rfl⟩ | cases h
    | cons k ks ih =>
      intro vs h
      cases k with
      | none => cases vs <;> cases h
      | some k =>
        cases vs with
        | nil => cases h
        | cons v vs =>
          obtain ⟨i1, i2⟩ := ih vs h
          exact ⟨by rw [List.length_cons, List.length_cons, i1], by rw [List.all_cons, i2]; rfl⟩
  obtain ⟨l1, l2⟩ := hl keys values hok
  refine rE_of (pe_disp (pps_trsOf keys values hok) l2 l1 h0 h15) fun q hq => ?_
  have w1 := w.made (c := .dK []) hq ⟨[], rfl, .nil⟩
  refine pairs_imp keys values _ _ _ (pairs_run keys values _ _ σ _ B (h q (w.o.free hq)) w1) fun ps H2 ⟨B2, kvs, ws, M2, e, e2, w2, hp, hm, h15', hnd, hQ⟩ => ?_
  obtain ⟨ws0, hv, hr0⟩ := own_dK w2.o hm
  cases hr0
  have hlen := Paired.length hp
  have keys2 : kvs.map (·.1) = ws.map (·.1) := by
    clear e hQ hnd h15' hlen
    induction hp with
    | nil => rfl
    | cons a _ ih => rw [List.map_cons, List.map_cons, ih, a.1]
  refine ⟨hv, ws, e, by omega, B2, .raw (.ref q), mset M2 q (.dK kvs), e2, w2.write hm ?_, rfl, hQ⟩
  rw [mergeK_nd ws [] (by rw [← keys2]; exact hnd), List.nil_append]
  exact ⟨ws, rfl, hp⟩
end
end G
namespace G
open PySem PySem.Spec L2 PySem.Calls

/-! ### an exception class with super().__init__(copied(v)); self.f = copied(v) -/
/-- the class at C, by what is written of it: its built-in base is B -/
structure ExK (K : PySem.W.Frag) (C : Addr) (B newId initId : String) (bmB : List Value) : Prop where
  facts : ExcBaseFacts B newId initId bmB
  kxs : PySem.W.KxsFacts B initId
  cls : ∃ nm q N bs bm sn sub ab col dd k0 k1 k2 k3 k5, K.lookup C = some (excClassObj nm q C N bs bm true sn sub ab col dd k0 k1 k2 k3 k5 newId) ∧ ∀ Y : String, bm.contains (.type Y) = bmB.contains (.type Y)
  exC : PySem.W.subIn K (.ref C) (.type "BaseException") = some true
  exB : PySem.W.subIn K (.ref C) (.type B) = some true
  tyC : PySem.W.typeIn K (.ref C) = some (.type "type")
  kC : PySem.W.keepIn K (.ref C) = true
/-- what its mro must bear so that a field is stored -/
structure ExM (K : PySem.W.Frag) (C : Addr) : Prop where
  cls : ∃ cd, PySem.W.clsIn K C = some cd ∧ cd.hasDict = true ∧ cd.mro.isEmpty = false ∧ cd.mro.contains (.type "object") = true ∧ ∀ self, refuseLoop self "__setattr__" cd.mro = pure ()
  sa : PySem.W.findIn K (.ref C) "__setattr__" = some (some (.builtin "object.__setattr__"))
theorem ExM.ve {K : PySem.W.Frag} {C : Addr} (T : OexC K C) : ExM K C := by
  obtain ⟨nm, q, N, bs, bm, sn, sub, ab, col, dd, k0, k1, k2, k3, k5, hC, hbm⟩ := T.cls
  have hcl : PySem.W.clsIn K C = some { name := nm, bases := bs, mro := .ref C :: bm, ns := N, qualname := q, hasDict := true, slotNames := sn, subclasses := sub, abstract := ab, collection := col, hasDel := false } := by unfold PySem.W.clsIn; rw [hC] <;> rfl
  have hm : PySem.HandSPX.refsVE (.ref C :: bm) = true := hbm
  exact ⟨⟨_, hcl, rfl, rfl, (PySem.HandSPX.refsVE_contains "object" _ hm).trans (by decide +kernel), fun self => PySem.HandSPX.refsVE_pass self _ hm⟩, T.sa⟩
section
open Builtin Builtin.ObjectAttr
variable {prog : Program} {w : World} {A : Around} {E : Value → Shared → Prop} {R : Result → Shared → Prop} {hp : Heap} {g : Array GenState} {d : Drawn} {t : Nat} {os : OsState}
theorem osaG {K : PySem.W.Frag} {f : Str} {tk : Tok} {v : Value} {x C : Addr} {fv : Array Value} (T : ExM K C) (hK : K.In hp) (ho : hp.get? x = some { cls := .ref C, data := .fields fv }) (ha : PySem.W.findIn K (.ref C) f = some none)
    (fin : ∀ h' tk' dx, (∀ b o, b ≠ x → hp.get? b = some o → h'.get? b = some o) → hp.objs.size ≤ dx → dx ≠ x → h'.get? x = some { cls := .ref C, dict := some dx, data := .fields fv } → h'.Ns1 dx (fun y => if y = f then some v else none) → R (.ok (.ret .none)) ⟨h', g, d, tk', os⟩) :
    codeAny (model prog w) A (.call (.builtin "object.__setattr__") ⟨[.ref x, .str f tk, v], []⟩) R ⟨hp, g, d, t, os⟩ := by
  obtain ⟨⟨cd, hcd, hdct, hne, hob, hpass⟩, _⟩ := T
  have inst : PySem.W.InstAt hp x { cls := .ref C, data := .fields fv } C none := ⟨ho, rfl, rfl, trivial⟩
  have St0 := F.store_object
  have apart : x ≠ hp.objs.size := Nat.ne_of_lt (Heap.lt_size ho)
  have isObj : PySem.W.Looks (model prog w) hp (isInstance (.ref x) (.type "object")) true := inst.type.andThen (PySem.W.looks_mroIn hK (by unfold PySem.W.mroIn; rw [hcd, Option.bind_some, if_neg (by rw [hne]; decide), hob]))
  refine codeAny_call_builtin St0.slot.plain St0.entry (@PySem.W.check_slot (model prog w) _ _ ⟨hp, g, d, t, os⟩ "object.__setattr__" "object" "__setattr__" (.ref x) [.str f tk, v] [] _ St0.kind St0.split isObj (St0.args (.ref x) (.str f tk) v) ?_)
  have lm : PySem.W.Looks (model prog w) hp (mroOf (.ref C)) cd.mro := (PySem.W.looks_clsIn hK hcd).andThen .now
  have ln : PySem.W.Looks (model prog w) hp (storeTaker? none) none := .now
  have lc : PySem.W.Looks (model prog w) hp (classData C) cd := PySem.W.looks_clsIn hK hcd
  rw [PySem.W.osa_eq, refuse_eq]
  refine wpAny_bind (wpAny_bind (inst.type.at (wpAny_bind (lm.at ?_))))
  rw [hpass]
  refine wpAny_pure (wpAny_bind (inst.type.at (wpAny_bind ((PySem.W.looks_findIn hK ha).at (wpAny_bind (ln.at ?_))))))
  show wpAny _ _ (storeInOwnDict (.ref x) (.ref C) (.str f tk) f v false) _ _ _
  obtain ⟨nm, bs, mro, ns, qn, hd, sn, sb, ab, col, del⟩ := cd
  dsimp only at hdct
  subst hdct
  unfold storeInOwnDict ownDictForStores
  repeat (first | with_reducible refine PySem.HandSPX.store_in_new ?_ ?_ | with_reducible refine wpAny_loadPart_at ho ?_ | with_reducible refine lc.at ?_ | wp_step)
  · exact ⟨_, #[], _, (Heap.get?_update_ne _ _ _ _ apart.symm).trans (Heap.get?_push_at rfl rfl), rfl, fun e he => absurd he (by simp), fun _ => rfl⟩
  · intro h' tk' hn' hs
    have o1 : (hp.push { cls := .type "dict", data := .dict #[] }).get? x = some { cls := .ref C, data := .fields fv } := Heap.get?_push_of_some _ ho
    exact fin h' tk' hp.objs.size (fun b o hb hbo => (hs.2 b (Nat.ne_of_lt (Heap.lt_size hbo))).trans ((Heap.get?_update_ne _ _ _ _ hb).trans (Heap.get?_push_of_some _ hbo))) (Nat.le_refl _) apart.symm ((hs.2 x apart).trans (Heap.get?_update_self _ o1 rfl)) hn'
end
section
variable {X : Cx} {pins : List (Addr × Obj)} {σ : L2.St} {H : Hp} {s : Shared} {a C dx : Addr} {f : Str} {y : V} {u : Value} {Q : Unit → Shared → Prop} {E : Value → Shared → Prop} {A : Around}
/-- self.f = y on a new exception; the new dict lies where nothing lay -/
theorem fst_set (T : ExM X.K C) (I : Inv X pins σ H s) (e : H a = some (exo a C none)) (hno : PySem.W.findIn X.K (.ref C) f = some none) (ry : RelV y u)
    (q : ∀ dx s', s.heap.get? dx = none → H dx = none → dx ≠ a → Inv X pins σ (upd (upd H dx (exd dx [(f, y)])) a (exo a C (some dx))) s' → Q () s') : wpAny (model X.prog X.w) A (setAttr (.ref a) f u) Q E s := by
  obtain ⟨t1, ho⟩ := exo_at I.hok e
  obtain ⟨hp, g, d, t, os⟩ := s
  refine PySem.W.set_plain I.kIn (ox := { cls := .ref C, dict := none, data := .fields #[.ref t1, .none, .none, .none, .bool false, .none] }) (od := none) ⟨ho, rfl, rfl, trivial⟩ T.sa ?_
  refine osaG T I.kIn ho hno fun h' tk' dx k dn dne hx hn => ?_
  have fresh : H dx = none := I.hok.fresh dn
  have below : ∀ {b : Addr} {o : Obj}, hp.get? b = some o → b ≠ dx := fun {b o} z => Nat.ne_of_lt (Nat.lt_of_lt_of_le (Heap.lt_size z) dn)
  have nota : ∀ {b : Addr}, H b = none → b ≠ a := fun {b} n z => by rw [z, e] at n; cases n
  have uu : Un X.fs [] H (upd (upd H dx (exd dx [(f, y)])) a (exo a C (some dx))) hp h' := {
    keep := fun b o z n _ _ => k b o (nota n) z
    slot := fun b o z n _ _ => ⟨o.slots, k b o (nota n) z⟩
    free := fun b o z n _ => by rw [upd_ne (nota n), upd_ne (below z)]; exact n
    there := fun b o z _ => by
      by_cases hb : b = a
      · exact ⟨_, by rw [hb]; exact hx⟩
      · exact ⟨o, k b o hb z⟩
    tups := fun b xs z => by rw [upd_ne (at_ne e z exo_tup), upd_ne (ne_of_none z fresh)]; exact z
    frzs := fun b o v z => by rw [upd_ne (at_ne e z exo_frz), upd_ne (ne_of_none z fresh)]; exact z
    tbls := fun b ps z => ⟨#[], by rw [upd_ne (at_ne e z exo_tbl), upd_ne (ne_of_none z fresh), z]; simp⟩ }
  refine q dx _ (by
    cases z : hp.get? dx with
    | none => rfl
    | some o => exact absurd rfl (below z)) fresh dne (I.un (t' := tk') uu fun b o z => ?_)
  by_cases hb : b = a
  · subst hb
    rw [upd_same] at z
    cases z
    exact exo_ok hx
  · rw [upd_ne hb] at z
    by_cases hd : b = dx
    · subst hd
      rw [upd_same] at z
      cases z
      exact exd_ok hn (relO_put (fs := []) ry fun g => True.intro)
    · rw [upd_ne hd] at z
      exact (I.hok b o z).stay (fun c v hc w => k c v (by
          rcases hc with hc | hc
          · rw [hc]; exact hb
          · exact at_ne e hc exo_own) w)
        (fun c hc => by rw [upd_ne (at_ne e hc exo_own), upd_ne (ne_of_none hc fresh)]; exact hc) fun c xs hc => by rw [upd_ne (at_ne e hc exo_tup), upd_ne (ne_of_none hc fresh)]; exact hc
end
section
open PySem.W
variable {prog : Program} {w : World} {A : Around} {E : Value → Shared → Prop} {h : Heap} {g : Array GenState} {d : Drawn} {t : Nat} {os : OsState} {B newId initId : String} {bmB : List Value}
/-- the bound built-in __init__ is called -/
theorem bound_init {nm q : Str} {C N x u t0 : Addr} {bs bm : List Value} {hdct : Bool} {sn : List Str} {sub : List Value} {ab : Bool} {col : Option Bool} {dd : Option Addr} {k0 k1 k2 k3 k5 : Option Value} {us : List Value} {Q : Value → Shared → Prop} (FB : ExcBaseFacts B newId initId bmB)
    (hC : h.get? C = some (excClassObj nm q C N bs bm hdct sn sub ab col dd k0 k1 k2 k3 k5 newId)) (hx : h.get? x = some (HandSPX.excO C t0)) (hu : h.get? u = some (kxs_mw initId x)) (hz : us.length ≤ sizeLine)
    (hq : ∀ h' t1, (∀ b o, b ≠ x → h.get? b = some o → h'.get? b = some o) → h'.get? x = some (HandSPX.excO C t1) → Q .none ⟨h', g, d, t, os⟩) : wpAny (model prog w) A (call (.ref u) us) Q E ⟨h, g, d, t, os⟩ := by
  refine wpAny_call (codeAny_of_tree ?_)
  show wpAny (model prog w) A.in1 (callAny (Value.ref u) ⟨us, []⟩) _ _ ⟨h, g, d, t, os⟩
  unfold callAny
  refine wpAny_bind (wpAny_load (o := kxs_mw initId x) hu ?_)
  have t1 : (Value.type "method-wrapper" == Value.type "method" || Value.type "method-wrapper" == Value.type "builtin_function_or_method" || Value.type "method-wrapper" == Value.type "method-wrapper") = true := by decide
  simp only [kxs_mw, t1, if_true]
  refine KFB.if_so (by decide) ?_
  refine wpAny_bind (check_bound_init (oe := HandSPX.excO C t0) FB.toExcCallFacts hC hx rfl ?_)
  refine wpAny_bind (wpAny_pure (wpAny_pure ⟨plainId_quiet FB.init.plain _, codeAny_builtin FB.initEntry ?_⟩))
  exact exc_init_tree (cls := Value.ref C) (t0 := t0) (dv := none) (c2 := Value.none) (c3 := Value.none) (b4 := Value.bool false) hx hz fun h' k e _ => hq h' _ k e
end

structure SupAt (K : PySem.W.Frag) (P : Program) (C fI cda cc : Addr) (B newId initId : String) (bmB : List Value) : Prop where
  ex : ExK K C B newId initId bmB
  fo : ∃ oc od fd osl ar, K.lookup fI = some ⟨oc, od, .func fd, osl⟩ ∧ (fd.params.posonlyargs ++ fd.params.args).head? = some ar ∧ ar.arg = "self"
  code : ∃ ccl cdd vs ccs file tf, K.lookup cda = some ⟨ccl, cdd, .fields vs, ccs⟩ ∧ vs[2]? = some (.str file tf) ∧ ((P.main.file : Str) == file) = true
  cell : ∃ cl cld csl, K.lookup cc = some ⟨cl, cld, .cell (some (.ref C)), csl⟩
  op : PySem.W.nsIn K cStatics "thirdparty.any" = some none
  sup : PySem.W.ks_superIn K C C "__init__" = some (some (.builtin initId))
  self : PySem.W.mroIn K C (.ref C) = some true
  top : (P.main.scope.names.lookup ("super" : Str)).isSome = false
section
variable {X : Cx} {pins : List (Addr × Obj)} {σ : L2.St} {H : Hp} {s : Shared} {B newId initId : String} {bmB : List Value} {C fI cda cc x : Addr}
theorem bootSuper : bootBuiltins ("super" : Str) = some (.type "super") := by first | boot_by_name | rfl | kernel_rfl
theorem sup_stmt {body : List Stmt} {e : Expr} {p0 p1 p2 p3 p4 : Pos} {Ph : Hp → Prop} {Q : Flow → Shared → Prop} {i : Nat} (S : SupAt X.K X.prog C fI cda cc B newId initId bmB) (hm : X.mg "super" = none) (hfu : X.env.func = some fI) (hco : X.env.code = .ref cda)
    (hcl : X.env.cells.lookup ("__class__" : Str) = some cc) (hks : X.env.kindOf "super" = some .globalImplicit) (hkc : X.env.kindOf "__class__" = some .free) (hka : X.env.kindOf "self" = some .local) (hN : X.N[i]? = some ("self" : Str)) (I : Inv X pins σ H s) (hs : σ[i]? = some (some (.ref x)))
    (hx : H x = some (exo x C none))
    (ha : ∀ (pos : Pos) (pins : List (Addr × Obj)) (s : Shared), Inv X pins σ H s → wpAny (model X.prog X.w) X.A (spliced (backTo pos (starEach [e] X.env))) (fun us s1 => us.length ≤ sizeLine ∧ ∃ H1, Inv X pins σ H1 s1 ∧ H1 x = some (exo x C none) ∧ Ph H1) X.xe s)
    (q : ∀ H1 s1, Inv X pins σ H1 s1 → Ph H1 → Q .next s1) (hsw : swapsWith (.Call (.Attribute (.Call (.Name "super" p0) [] [] p1) "__init__" p2) [e] [] p3) none p4.line X.env = pure false := by with_unfolding_all rfl)
    (hst : starEach [e] X.env = [(false, eval e X.env)] := by with_unfolding_all rfl) {pl : Sem Bool}
    (hev : eval (.Call (.Attribute (.Call (.Name "super" p0) [] [] p1) "__init__" p2) [e] [] p3) X.env = (do
      let ov ← attributeBase (.Call (.Name "super" p0) [] [] p1) "__init__" X.env (eval (.Call (.Name "super" p0) [] [] p1) X.env)
      standAt p2.atName
      let (f, first) ← holding [ov] (getMethod ov "__init__" pl)
      callWith p3 f first (backTo p3 (starEach [e] X.env)) []) := by with_unfolding_all rfl) :
    _root_.PySem.wpAt (model X.prog X.w) X.A (.func body X.env) (exec (.Expr (.Call (.Attribute (.Call (.Name "super" p0) [] [] p1) "__init__" p2) [e] [] p3) p4) X.env) Q X.xe s := by
  obtain ⟨⟨FB, KF, ⟨nm, qn, N, bs, bm, sn, sub, ab, col, dd, k0, k1, k2, k3, k5, hC, hbm⟩, exC, exB, tyC, kC⟩, ⟨oc, od, fd, osl, ar, hfo, hhead, harg⟩, ⟨ccl, cdd, vs, ccs, file, tf, hcode, hvs, hfile⟩, ⟨cl, cld, csl, hcell⟩, hop, hsup, hself, htop⟩ := S
  have hq : interactive X.env = false := I.quiet
  refine ks_wpAt_Expr_any (ks_wpAt_MethodCall (ks_wpAt_super_base hks hkc (by decide) hfu (I.kIn _ _ hfo) rfl hhead hco (I.kIn _ _ hcode) rfl hvs hfile htop ?_) hev) hq hsw
  obtain ⟨mb, b1, b2⟩ := I.mod.blt
  refine PySem.W.ks_loadName_global I.ok.kind hks (loadGlobal_builtin (by rw [I.ok.glob]; exact I.mod.glob.keeps I.bk) hm (by rw [I.ok.blt]; exact b1.keeps I.bk) ((b2 ("super" : Str) (by decide +kernel)).trans bootSuper) ⟨rfl, ?_⟩)
  refine wpAny_loadName_free I.ok.kind hkc hcl ⟨_, I.kIn _ _ hcell, rfl⟩ ?_
  obtain ⟨m, hn, hl⟩ := I.loc
  obtain ⟨u, ru, l⟩ := hl i "self" (.ref x) hN hs (.inl hka)
  obtain rfl : u = Value.ref x := ru
  rw [harg]
  have hmx : m "self" = some (.ref x) := by
    rcases l with ⟨_, hm⟩ | ⟨hk, _⟩
    · exact hm
    · rcases hk with hk | hk <;> (rw [hka] at hk; cases hk)
  refine wpAny_loadName_local I.ok.kind hka hn hmx ?_
  have hCh := I.kIn _ _ hC
  refine ks_wpAny_isType_cls hCh rfl ⟨rfl, ?_⟩
  obtain ⟨t1, hxo⟩ := exo_at I.hok hx
  obtain ⟨hp, g, d, t, os⟩ := s
  refine ks_wpAny_call_super hCh rfl hxo rfl (fun c e => by cases e) (PySem.W.looks_mroIn I.kIn hself) fun h1 e1 k1 => ?_
  have I1 : Inv X pins σ H ⟨h1, g, d, t, os⟩ := I.kept (t' := t) k1
  have hx1 := k1 _ _ hxo
  have J0 : PySem.W.InstAt h1 x _ C none := ⟨hx1, rfl, rfl, trivial⟩
  cases hc : PySem.W.clsIn X.K C with
  | none => unfold PySem.W.ks_superIn at hsup; rw [hc] at hsup; cases hsup
  | some cd =>
    unfold PySem.W.ks_superIn at hsup
    rw [hc] at hsup
    refine PySem.W.kxs_getMethod KF e1 (PySem.W.looks_opaque I1.kIn hop) (l₀ := cd.mro) (fun A Q E s k q => wpAny_bind ((PySem.W.looks_clsIn I1.kIn hc) A _ E s k (wpAny_pure q))) rfl I1.kIn hsup (J0.type.andThen (PySem.W.looks_subIn I1.kIn exB)) (PySem.W.ks_ne I1.kIn J0 hc) (by decide) ?_
    have k2 : ∀ b o, h1.get? b = some o → (h1.push (PySem.W.kxs_mw initId x)).get? b = some o := fun b o e => Heap.get?_push_of_some _ e
    have I2 : Inv X pins σ H ⟨h1.push (PySem.W.kxs_mw initId x), g, d, t + 1, os⟩ := I1.kept (t' := t + 1) k2
    have hu : (h1.push (PySem.W.kxs_mw initId x)).get? h1.objs.size = some (PySem.W.kxs_mw initId x) := Heap.get?_push_at rfl rfl
    have I3 : Inv X ((h1.objs.size, PySem.W.kxs_mw initId x) :: pins) σ H ⟨h1.push (PySem.W.kxs_mw initId x), g, d, t + 1, os⟩ := I2.pins_of fun p hp => by
      rcases List.mem_cons.mp hp with rfl | hp
      · exact ⟨hu, I1.hok.fresh (Nat.le_refl _), Nat.ne_of_gt I1.lt, I1.nofs (Nat.le_refl _), fun v e => by cases e⟩
      · exact I2.pin p (List.mem_append_right _ hp)
    show wpAny _ _ (callWith p3 (.ref h1.objs.size) [] (backTo p3 (starEach [e] X.env)) []) _ _ _
    have hA := ha p3 _ _ I3
    rw [hst] at hA ⊢
    refine PySem.W.kxs_callWith (i := initId) (x := x) rfl ?_
    refine evalArgs_plain (thn hA fun us s1 ⟨hz, H1, I4, hx4, hP⟩ => ?_)
    have hu4 := (I4.pin (h1.objs.size, PySem.W.kxs_mw initId x) (List.mem_append_right _ List.mem_cons_self)).1
    refine ⟨hu4, ?_⟩
    obtain ⟨t4, hxo4⟩ := exo_at I4.hok hx4
    obtain ⟨hp4, g4, d4, tk4, os4⟩ := s1
    refine bound_init FB (I4.kIn _ _ hC) hxo4 hu4 hz fun h5 t5 k5 hx5 => ?_
    have J := I4.write (t' := tk4) (x := x) (e := x) (o := exo x C none) (by rw [hx4]; exact True.intro) (.inl rfl) k5 ⟨_, hx5⟩ (exo_ok hx5)
    have eu : upd H1 x (exo x C none) = H1 := by
      funext b
      by_cases hb : b = x
      · rw [hb, upd_same, hx4]
      · rw [upd_ne hb]
    rw [eu] at J
    exact q H1 _ (J.pins_of fun p hp => J.pin p (List.mem_append_right _ (List.mem_cons_of_mem _ hp))) hP
end
end G
namespace G
open PySem PySem.Spec L2 PySem.Calls

/-! ### such an __init__ runs -/
structure Ps where
  p0 : Pos
  p1 : Pos
  p2 : Pos
  p3 : Pos
  p4 : Pos
  p5 : Pos
  p6 : Pos
  p7 : Pos
  r1 : Pos
  r2 : Pos
  r3 : Pos
  r4 : Pos
  r5 : Pos
  r6 : Pos
def callCopied (a : Str) (p5 p6 p7 : Pos) : Expr := .Call (.Name "copied" p5) [.Name a p6] [] p7
def initBody (a fld : Str) (p : Ps) : List Stmt :=
  [.Expr (.Call (.Attribute (.Call (.Name "super" p.p0) [] [] p.p1) "__init__" p.p2) [callCopied a p.p5 p.p6 p.p7] [] p.p3) p.p4, .Assign [.Attribute (.Name "self" p.r1) fld p.r2] (callCopied a p.r3 p.r4 p.r5) p.r6]
/-- copied(x) gives x again (a copy) -/
def spCop (P : PyData → Prop) : SpD := fun rs M Q _ => ∃ x, rs = [.d x] ∧ P x ∧ Q (.d x) M
abbrev initNF (qual : Str) (params : Arguments) (body : List Stmt) (scope : Scope) (cc cda : Addr) : NdefX.NF := ⟨"__init__", qual, params, body, scope, [("__class__", cc)], cda⟩
theorem we_cop {c : Cf} {lv k : Nat} {N : List Str} {sc : Scope} {fb : Str → Bool} {X : Cx} {ρ : Rho} {M : Mem} {a : Str} {p5 p6 p7 : Pos} {P : PyData → Prop} {d : PyData} {i : Nat} (h : CxOk c lv N sc fb X) (cop : FnH c "copied" k (spCop P)) (hk : k ≤ lv) (hg : glC sc "copied" = true)
    (hv : VarOk X i a) (hr : ρ.l[i]? = some (some (.d d))) (hP : P d) : WE X (callCopied a p5 p6 p7) ρ M fun r M' => r = .d d ∧ M' = M :=
  w_call h cop hk hg (wa_cons (we_var hv hr (wa_nil ⟨d, rfl, hP, rfl, rfl⟩)))
/-- the call in the first statement stands on one line -/
def HevOk (a : Str) (p : Ps) : Prop := ∀ env : Env, eval (.Call (.Attribute (.Call (.Name "super" p.p0) [] [] p.p1) "__init__" p.p2) [callCopied a p.p5 p.p6 p.p7] [] p.p3) env = (do
  let ov ← attributeBase (.Call (.Name "super" p.p0) [] [] p.p1) "__init__" env (eval (.Call (.Name "super" p.p0) [] [] p.p1) env)
  standAt p.p2.atName
  let (f, first) ← holding [ov] (getMethod ov "__init__" (do return (← importBound (.Call (.Name "super" p.p0) [] [] p.p1) env).getD true))
  callWith p.p3 f first (backTo p.p3 (starEach [callCopied a p.p5 p.p6 p.p7] env)) [])
theorem init_run {c : Cf} {k : Nat} {C fI cda cc x : Addr} {a fld qual : Str} {params : Arguments} {scope : Scope} {dV kV doc pm ct oc : Value} {an od : Option Addr} {osl : Array (Option Value)} {B0 newId initId : String} {bmB : List Value} {p : Ps} {P : PyData → Prop}
    (lk : c.K.lookup fI = some ⟨oc, od, .func (PySem.W.ksFn "__init__" qual params (initBody a fld p) scope dV kV doc pm an (.ref cda) ct cc), osl⟩) (hcd : PySem.W.codeIn c.K (.ref cda) qual = true) (S : SupAt c.K c.P C fI cda cc B0 newId initId bmB) (T : ExM c.K C)
    (ns : NdefX.NScope ["self", a, "__class__"] ["self", a] ["__class__"] scope) (ks : scope.names.lookup ("super" : Str) = some .globalImplicit) (kc : glC scope "copied" = true) (hm : c.mg "super" = none) (cop : FnH c "copied" k (spCop P)) (hno : PySem.W.findIn c.K (.ref C) fld = some none)
    (va : varC ["self", a, "__class__"] scope a = true) (ia : idx ["self", a, "__class__"] a = 1) (vs : varC ["self", a, "__class__"] scope "self" = true) (hev : HevOk a p)
    {A : Around} {outer : List Env} {s : Shared} {H B : Hp} {M : Mem} {args : Args} {us : List Value} {v : V} {d : PyData} {Q : VK} {E : XK} (hr : Room (k + 1) A) (hg : A.guards = some []) (e0 : Env0 c.P c.w c.K c.mg c.base A outer s H)
    (hb : BindsTo s (PySem.W.ksFn "__init__" qual params (initBody a fld p) scope dV kV doc pm an (.ref cda) ct cc) args ((["self", a] : List Str).zip us)) (r : Vals [V.ref x, v] us) (ow : Own B H M) (hx : M x = some (.hd (exo x C none))) (hv : Da B v d) (hP : P d)
    (q : ∀ dx v' B' H2, H dx = none → dx ≠ x → H2 dx = none → Same B B' → Own B' H2 M → Da B' v' d → Q .non (upd (upd H2 dx (exd dx [(fld, v')])) x (exo x C (some dx)))) :
    codeAny (model c.P c.w) A (.call (.ref fI) args) (CR (L2.CX c.P c.w) outer c.P c.w H s Q E) s := by
  have lim : s.heap.NoLimit := e0.mod.nolimit.keeps fun b o e => (e0.bs b o e).1
  have KX : c.K.In s.heap := e0.mod.kin.keeps fun b o e => (e0.bs b o e).1
  obtain ⟨cl, cld, csl, hcell⟩ := S.cell
  refine codeAny_call_function hr.depth (KX _ _ lk) rfl ns.co ns.gen rfl (PySem.W.codeRec_of KX hcd) (hb _ _ _ _ ?_)
  refine wpAny_newFunctionEnv ns.nocell (fun ⟨n, _⟩ hy => ns.par n (List.of_mem_zip hy).1) (fun h₁ hns hsb => ⟨lim.fresh _ hsb, ?_⟩) ns.kind
  have kp : ∀ b o, s.heap.get? b = some o → h₁.get? b = some o := fun b o e => hsb.extBut b o (Nat.ne_of_lt (Heap.lt_size e)) (Heap.get?_push_of_some _ e)
  have hcc : H cc = none := (e0.bs _ _ (e0.mod.kin _ _ hcell)).2
  have CA : NdefX.CellsAt [("__class__", cc)] ["__class__"] [none] s.heap H := by
    refine ⟨rfl, fun y c' e => ?_, fun y z c' e1 e2 => ?_, fun i y hi => ?_⟩
    · have : c' = cc := by
        simp only [List.lookup] at e
        split at e <;> first | exact (Option.some.inj e).symm | cases e
      subst this
      exact ⟨hcc, _, _, KX _ _ hcell, rfl⟩
    · simp only [List.lookup] at e1 e2
      split at e1 <;> split at e2 <;> first | cases e1; done | cases e2; done | (rename_i a1 _ a2; rw [beq_iff_eq.mp a1, beq_iff_eq.mp a2])
    · have hy : i = 0 ∧ y = ("__class__" : Str) := by
        cases i with
        | zero => exact ⟨rfl, by simpa using hi.symm⟩
        | succ i => simp at hi
      obtain ⟨rfl, rfl⟩ := hy
      exact ⟨cc, rfl, fun v' e => by cases e⟩
  generalize hX : NdefX.ncx (L2.CX c.P c.w) c.P c.w c.K c.mg c.base ["self", a, "__class__"] (initNF qual params (initBody a fld p) scope cc cda) fI A outer s H E = X
  have I : Inv X [] [some (.ref x), some v, none] H { s with heap := h₁, toks := s.toks + ((["self", a] : List Str).zip us).length } := by
    rw [← hX]
    exact NdefX.inv_startN (vs := [V.ref x, v]) (ws := [none]) ns hr.hd e0 rfl r CA hns kp
  have hCx : CxOk c k ["self", a, "__class__"] scope (fun _ => false) X := by
    rw [← hX]
    exact ⟨rfl, rfl, rfl, rfl, rfl, hr.deeper _, guards_deeper hg, rfl, ns.nd, rfl, rfl, rfl⟩
  have henv : X.env = NdefX.envF (initNF qual params (initBody a fld p) scope cc cda) fI s.heap.objs.size := by rw [← hX]; rfl
  have hA : X.A = A.deeper X.env := by rw [← hX]; rfl
  have hxe : X.xe = fun e s' => wpAny (model c.P c.w) (A.deeper X.env) (leaving X.env e) (fun _ s'' => L2.CX c.P c.w outer H s E e s'') (fun e' s'' => L2.CX c.P c.w outer H s E e' s'') s' := by rw [← hX]; rfl
  show codeAny _ _ (.func (initBody a fld p) (NdefX.envF (initNF qual params (initBody a fld p) scope cc cda) fI s.heap.objs.size)) _ _
  refine ks_codeAny_funcAt ?_
  have S' : SupAt X.K X.prog C fI cda cc B0 newId initId bmB := by rw [hCx.K, hCx.prog]; exact S
  have va' := hCx.varOk va
  rw [ia] at va'
  have vs' := hCx.varOk vs
  have kid : X.env.kindOf "super" = some .globalImplicit := by show X.env.scope.names.lookup _ = _; rw [hCx.hsc]; exact ks
  have kcl : X.env.kindOf "__class__" = some .free := by show X.env.scope.names.lookup _ = _; rw [hCx.hsc]; exact ns.frk _ (by simp)
  have ksf : X.env.kindOf "self" = some .local := by show X.env.scope.names.lookup _ = _; rw [hCx.hsc]; exact ns.par _ (by simp)
  have w0 : Sat ⟨[some (.raw (.ref x)), some (.d d), none], B⟩ M [some (.ref x), some v, none] B H := by
    refine ⟨ow, Same.refl B, rfl, fun i r hi => ?_⟩
    have hi : ([some (.raw (.ref x)), some (.d d), none] : List (Option R))[i]? = some (some r) := hi
    match i, hi with
    | 0, hi => simp at hi; subst hi; exact ⟨_, rfl, rfl⟩
    | 1, hi => simp at hi; subst hi; exact ⟨_, rfl, hv⟩
    | 2, hi => simp at hi
    | i + 3, hi => simp at hi
  have hHx : H x = some (exo x C none) := by
    obtain ⟨_, o, h1, h2⟩ := ow.own x _ hx
    rw [h1]; exact congrArg some h2
  have ev := fun (p5 p6 p7 : Pos) (B1 : Hp) => we_cop (M := M) (ρ := ⟨[some (.raw (.ref x)), some (.d d), none], B1⟩) (p5 := p5) (p6 := p6) (p7 := p7) hCx cop (Nat.le_refl k) kc va' rfl hP
  rw [← henv]
  have inner : ∀ {f : Flow} {s' : Shared}, f = .next → (∃ dx v' B' H2, H dx = none ∧ dx ≠ x ∧ H2 dx = none ∧ Same B B' ∧ Own B' H2 M ∧ Da B' v' d ∧ Inv X [] [some (.ref x), some v, none] (upd (upd H2 dx (exd dx [(fld, v')])) x (exo x C (some dx))) s') →
      CR (L2.CX c.P c.w) outer c.P c.w H s Q E (.ok (.ret (match f with | .ret v => v | _ => .none))) s' := by
    rintro f s' rfl ⟨dx, v', B', H2, h1, h2, h3, h4, h5, h6, J⟩
    have qq := q dx v' B' H2 h1 h2 h3 h4 h5 h6
    rw [← hX] at J
    exact ⟨.non, _, J.os, J.bare, J.base, J.hok, rfl, qq⟩
  have main : _root_.PySem.wpAt (model X.prog X.w) X.A (.func (initBody a fld p) X.env) (execs (initBody a fld p) X.env) (fun f s' => CR (L2.CX c.P c.w) outer c.P c.w H s Q E (.ok (.ret (match f with | .ret v => v | _ => .none))) s') X.xe { s with heap := h₁, toks := s.toks + ((["self", a] : List Str).zip us).length } := by
    refine ks_wpAt_execs_cons (sup_stmt (hev := hev X.env) (i := 0) (Ph := fun H1 => ∃ B1, Same B B1 ∧ Sat ⟨[some (.raw (.ref x)), some (.d d), none], B⟩ M [some (.ref x), some v, none] B1 H1) S' (by rw [hCx.mg]; exact hm) (by rw [henv]) (by rw [henv]) (by rw [henv]; rfl) kid kcl ksf (by rw [hCx.hN]; rfl) I rfl hHx
      (fun pos pins s2 I2 => ?_) fun H1 s1 I1 ⟨B1, e1, w1⟩ => ?_)
    · have wa : WA X [callCopied a p.p5 p.p6 p.p7] ⟨[some (.raw (.ref x)), some (.d d), none], B⟩ M fun rs M' => rs.length ≤ 1 ∧ M' = M :=
        wa_cons ((ev p.p5 p.p6 p.p7 B).imp fun r M' ⟨h1, h2⟩ => wa_nil ⟨Nat.le_refl 1, h2⟩)
      refine thn (wa _ _ _ w0 pos pins s2 I2) fun us1 s3 ⟨vs1, H3, I3, rv, B3, rs3, M3, e3, w3, rr, hrs, hM⟩ => ?_
      subst hM
      refine ⟨?_, H3, I3, ?_, B3, e3, w3⟩
      · rw [← Paired.length rv, ← Paired.length rr, sizeLine_eq]
        omega
      · obtain ⟨_, o, h1, h2⟩ := w3.o.own x _ hx
        rw [h1]; exact congrArg some h2
    · refine ks_wpAt_execs_cons (wpAt_of_wpAny (plainObj_wpAny_Assign_Attribute (thn (ev p.r3 p.r4 p.r5 B _ _ _ w1 [] s1 I1) fun u s2 ⟨v2, H2, I2, r2, B2, rr2, M2, e2, w2, rel2, hr2, hM2⟩ => ?_) ?_))
      · subst hM2
        subst hr2
        refine thn (we_var (pos := p.r1) (Q := fun r M' => r = .raw (.ref x) ∧ M' = M2) vs' rfl ⟨rfl, rfl⟩ _ _ _ w2 [] s2 I2) fun u3 s3 ⟨v3, H3, I3, r3, B3, rr3, M3, e3, w3, rel3, hr3, hM3⟩ => ?_
        subst hM3
        subst hr3
        have hv3 : v3 = .ref x := rel3
        subst hv3
        obtain rfl : u3 = Value.ref x := r3
        have hx3 : H3 x = some (exo x C none) := by
          obtain ⟨_, o, h1, h2⟩ := w3.o.own x _ hx
          rw [h1]; exact congrArg some h2
        refine fst_set (by rw [hCx.K]; exact T) I3 hx3 (by rw [hCx.K]; exact hno) r2 fun dx s4 f1 f2 f3 J => ?_
        have hd0 : H dx = none := by
          refine e0.hok.gone ?_
          cases z : s.heap.get? dx with
          | none => rfl
          | some o =>
            have := I3.base.there dx o (by rw [← hX]; exact z) (by rw [← hX]; exact fun y => absurd (show dx ∈ ([] : List Addr) from y) (by simp))
            obtain ⟨o', z'⟩ := this
            rw [f1] at z'; cases z'
        exact wpAt_of_wpAny (wpAny_execs_nil (inner rfl ⟨dx, v2, B3, H3, hd0, f3, f2, Same.trans e1 (Same.trans e2 e3), w3.o, Da.mono e3 _ rel2, J⟩))
      · with_unfolding_all rfl
  rw [hxe, hA, hCx.prog, hCx.w] at main
  exact main
end G

namespace G
open PySem PySem.Spec L2 PySem.Calls
example : HevOk "step" ⟨⟨1,1,1,1⟩,⟨1,1,1,1⟩,⟨1,1,1,1⟩,⟨1,1,1,1⟩,⟨1,1,1,1⟩,⟨1,1,1,1⟩,⟨1,1,1,1⟩,⟨1,1,1,1⟩,⟨1,1,1,1⟩,⟨1,1,1,1⟩,⟨1,1,1,1⟩,⟨1,1,1,1⟩,⟨1,1,1,1⟩,⟨1,1,1,1⟩⟩ := fun env => by with_unfolding_all rfl
end G
namespace G
open PySem PySem.Spec L2 PySem.Calls

/-- what is known of a class whose __init__ is as above -/
structure XCls (c : Cf) (x : Str) (k : Nat) (C : Addr) (fld : Str) (P : PyData → Prop) : Prop where
  exM : ExM c.K C
  no : PySem.W.findIn c.K (.ref C) fld = some none
  gl : c.mg x = some (.ref C)
  kC : PySem.W.keepIn c.K (.ref C) = true
  exC : PySem.W.subIn c.K (.ref C) (.type "BaseException") = some true
  tyC : PySem.W.typeIn c.K (.ref C) = some (.type "type")
  ini : ∃ (B newId initId : String) (bmB : List Value) (nm q : Str) (N fI : Addr) (bs bm : List Value) (sn : List Str) (sub : List Value) (ab : Bool) (col : Option Bool) (dd : Option Addr) (k0 k1 k2 k3 k5 : Option Value) (fd : FuncData) (a : Str),
    ExcBaseFacts B newId initId bmB ∧ c.K.lookup C = some (excClassObj nm q C N bs bm true sn sub ab col dd k0 k1 k2 k3 k5 newId) ∧ (∀ Y : String, bm.contains (.type Y) = bmB.contains (.type Y)) ∧ PySem.W.findIn c.K (.ref C) "__init__" = some (some (.ref fI)) ∧
    PySem.W.typeIn c.K (.ref fI) = some (.type "function") ∧ Binds c.K fd ["self", a] [] ∧
    ∀ {x : Addr} {A : Around} {outer : List Env} {s : Shared} {H B : Hp} {M : Mem} {args : Args} {us : List Value} {v : V} {d : PyData} {Q : VK} {E : XK}, Room (k + 1) A → A.guards = some [] → Env0 c.P c.w c.K c.mg c.base A outer s H →
      BindsTo s fd args ((["self", a] : List Str).zip us) → Vals [V.ref x, v] us → Own B H M → M x = some (.hd (exo x C none)) → Da B v d → P d →
      (∀ dx v' B' H2, H dx = none → dx ≠ x → H2 dx = none → Same B B' → Own B' H2 M → Da B' v' d → Q .non (upd (upd H2 dx (exd dx [(fld, v')])) x (exo x C (some dx)))) →
      codeAny (model c.P c.w) A (.call (.ref fI) args) (CR (L2.CX c.P c.w) outer c.P c.w H s Q E) s

def rMk (X : Cx) (e : Expr) : L2.St → Hp → XK → Prop := fun σ H Q => ∀ (pins : List (Addr × Obj)) (s : Shared), Inv X pins σ H s → wpAny (model X.prog X.w) X.A (eval e X.env) (MkP X pins σ Q) X.xe s
theorem pmk_rMk {X : Cx} {e : Expr} : PMk X e (rMk X e) := fun pins s σ H Q I h => h pins s I
def PostX (ρ : Rho) (σ : L2.St) (B : Hp) (W : XKd) : XK := fun cls d H' => ∃ B' M', Same B B' ∧ Sat ρ M' σ B' H' ∧ W cls d M'
/-- e makes an exception -/
def WMk (X : Cx) (e : Expr) (ρ : Rho) (M : Mem) (W : XKd) : Prop := ∀ σ H B, Sat ρ M σ B H → rMk X e σ H (PostX ρ σ B W)
section
variable {c : Cf} {lv : Nat} {N : List Str} {sc : Scope} {fb : Str → Bool} {X : Cx} {ρ : Rho} {M : Mem} {e : Expr} {pos p : Pos} {n : Str} {C : Addr} {fld : Str} {P : PyData → Prop} {W : XKd} {k : Nat}
theorem under_guards {A : Around} {C : Addr} {us : List Value} (h : A.guards = some []) : (A.under (.builtin "type.__call__" ⟨.ref C :: us, []⟩)).guards = some [] := by
  have e : (Code.builtin "type.__call__" ⟨.ref C :: us, []⟩).isGuard = false := by show guardIds.contains "type.__call__" = false; decide +kernel
  simp [Around.under, h, Code.guards, e, pushGuards]
theorem w_mk (h : CxOk c lv N sc fb X) (K : XCls c n k C fld P) (hk : k + 2 ≤ lv) (hg : glC sc n = true) (q : WE X e ρ M fun r M1 => ∃ d, r = .d d ∧ P d ∧ ∀ dx, M1 dx = none → W (.ref C) (some dx) (mset M1 dx (.xo [(fld, .d d)])))
    (he : starEach [e] X.env = (false, eval e X.env) :: starEach [] X.env := by with_unfolding_all rfl) (hpl : (backTo pos (starEach [] X.env)).any (·.1) = false := by with_unfolding_all rfl) : WMk X (.Call (.Name n p) [e] [] pos) ρ M W := by
  intro σ H B w pins s I
  obtain ⟨B0, newId, initId, bmB, nm, qn, N0, fI, bs, bm, sn, sub, ab, col, dd, k0, k1, k2, k3, k5, fd, a, FB, hC, hbm, hfi, hti, hbd, run⟩ := K.ini
  have wa : WA X [e] ρ M fun rs M1 => ∃ d, rs = [.d d] ∧ P d ∧ ∀ dx, M1 dx = none → W (.ref C) (some dx) (mset M1 dx (.xo [(fld, .d d)])) :=
    wa_cons (q.imp fun r M1 ⟨d, h1, h2⟩ => wa_nil ⟨d, by rw [h1], h2⟩) he
  refine wpAny_Call_Name_kw (ld_glob I (h.gl hg).1 (by rw [h.mg]; exact K.gl) ?_ (h.gl hg).2)
  refine PySem.W.callWith_K (h₀ := X.base) I.ok.mod.kin (by rw [h.K]; exact K.kC) (thn (wa σ H B w pos pins s I) fun us s1 ⟨vs, H1, I1, r1, B1, rs, M1, e1, w1, rr, d, hrs, hPd, hW⟩ => ⟨I1.kIn, ?_⟩) he hpl
  subst hrs
  show wpAny _ _ (call (.ref C) us) _ _ _
  obtain ⟨hp, g, dr, tk, os⟩ := s1
  cases rr with
  | @cons _ v _ vs0 rv rn =>
  cases rn with
  | nil =>
  have lup : hp.objs.size ≤ hp.objs.size + 1 := Nat.le_succ _
  have free1 : H1 (hp.objs.size + 1) = none := I1.hok.fresh lup
  have grows : ∀ b o, hp.get? b = some o → ((hp.push (PySem.W.kdv_tup us)).push (PySem.HandSPX.excO C hp.objs.size)).get? b = some o := fun b o e => Heap.get?_push_of_some _ (Heap.get?_push_of_some _ e)
  have lies : ((hp.push (PySem.W.kdv_tup us)).push (PySem.HandSPX.excO C hp.objs.size)).get? (hp.objs.size + 1) = some (PySem.HandSPX.excO C hp.objs.size) := by heap_get
  have I2 : Inv X pins σ (upd H1 (hp.objs.size + 1) (exo (hp.objs.size + 1) C none)) ⟨(hp.push (PySem.W.kdv_tup us)).push (PySem.HandSPX.excO C hp.objs.size), g, dr, tk, os⟩ :=
    I1.laid (t' := tk) (a := hp.objs.size + 1) (o := exo (hp.objs.size + 1) C none) grows lup (exo_ok lies)
  have w2 : Sat ρ (mset M1 (hp.objs.size + 1) (.hd (exo (hp.objs.size + 1) C none))) σ B1 (upd H1 (hp.objs.size + 1) (exo (hp.objs.size + 1) C none)) := w1.made free1 (c := .hd _) rfl
  have r2 : Vals [V.ref (hp.objs.size + 1), v] (Value.ref (hp.objs.size + 1) :: us) := .cons rfl r1
  have few : us.length ≤ sizeLine := by
    rw [← Paired.length r1, sizeLine_eq]
    simp
  have kin1 : c.K.In hp := by rw [← h.K]; exact I1.kIn
  have kin2 : c.K.In ((hp.push (PySem.W.kdv_tup us)).push (PySem.HandSPX.excO C hp.objs.size)) := by rw [← h.K]; exact I2.kIn
  have E2 := I2.env0
  rw [h.prog, h.w, h.K, h.mg, h.base] at E2
  have bd := hbd (⟨(hp.push (PySem.W.kdv_tup us)).push (PySem.HandSPX.excO C hp.objs.size), g, dr, tk, os⟩ : Shared) (Value.ref (hp.objs.size + 1) :: us) kin2 (by rw [List.append_nil, ← Paired.length r2]; rfl)
  rw [List.append_nil] at bd
  have two : ∀ {l : List Value}, l = us → l.length = 1 := fun {l} z => by rw [z, ← Paired.length r1]; rfl
  have main := run (x := hp.objs.size + 1) (outer := X.stack) (Q := fun v' H2 => v' = .non ∧ ∃ dx v2 B' H3, H1 dx = none ∧ dx ≠ hp.objs.size + 1 ∧ H3 dx = none ∧ Same B1 B' ∧ Own B' H3 (mset M1 (hp.objs.size + 1) (.hd (exo (hp.objs.size + 1) C none))) ∧ Da B' v2 d ∧
      H2 = upd (upd H3 dx (exd dx [(fld, v2)])) (hp.objs.size + 1) (exo (hp.objs.size + 1) C (some dx))) (E := fun _ _ _ => False)
    (A := X.A.under (.builtin "type.__call__" ⟨.ref C :: us, []⟩)) ((h.room.mono hk).make C us []) (under_guards h.gd) (E2.make C us []) bd r2 w2.o mset_same rv hPd fun dx v2 B' H3 h1 h2 h3 h4 h5 h6 => ⟨rfl, dx, v2, B', H3, by rw [upd_ne h2] at h1; exact h1, h2, h3, h4, h5, h6, rfl⟩
  have main2 : codeAny (model X.prog X.w) X.A (.call (.ref C) ⟨us, []⟩) (fun r s' => match r with | .ok (.ret u) => MkP X pins σ (PostX ρ σ B W) u s' | .ok _ => False | .error e => X.xe e s') ⟨hp, g, dr, tk, os⟩ := by
    refine PySem.HandSPX.call_own FB hbm (kin1 _ _ hC) (PySem.W.looks_findIn kin1 hfi) (fun self => PySem.W.bind_fn kin1 self hti) few ?_
    rw [← h.prog, ← h.w] at main
    refine codeAny_mono main fun r s' z => ?_
    cases r with
    | error er =>
      obtain ⟨a, B', H', cls, d, z1, z2, z3, z4, z5, z6, z7, z8⟩ := z
      exact z8.elim
    | ok fl =>
      cases fl with
      | ret u =>
        obtain ⟨v3, H2, os2, bare2, un2, hok2, rv3, rfl, dx, v2, B', H3, f1, f2, f3, f4, f5, f6, rfl⟩ := z
        obtain ⟨h2, g2, d2, t2, os'⟩ := s'
        have hx2 : H3 (hp.objs.size + 1) = some (exo (hp.objs.size + 1) C none) := by
          obtain ⟨_, o, a1, a2⟩ := f5.own _ _ mset_same
          rw [a1]; exact congrArg some a2
        have nB : B' (hp.objs.size + 1) = none := (f5.own _ _ mset_same).1
        have M1n : M1 (hp.objs.size + 1) = none := w1.o.free free1
        have M1d : M1 dx = none := w1.o.free f1
        refine ⟨rv3, mk_end (raises_own (by rw [h.K]; exact K.exC) (by rw [h.K]; exact K.tyC)) I1 lup grows un2 hok2 os2 bare2 upd_same (by rw [upd_ne f2, upd_same]) f1 ⟨B', mset M1 dx (.xo [(fld, .d d)]), Same.trans e1 f4, ⟨⟨fun b o z => ?_, fun b cl z => ?_⟩, w1.s.mono f4⟩, hW dx M1d⟩⟩
        · have b1 : b ≠ hp.objs.size + 1 := fun y => by rw [y, nB] at z; cases z
          have b2 : b ≠ dx := fun y => by rw [y, f5.ex.free f3] at z; cases z
          rw [upd_ne b2, del_ne b1, upd_ne b1, upd_ne b2]
          exact f5.ex _ _ z
        · by_cases b2 : b = dx
          · subst b2
            rw [mset_same] at z; cases z
            exact ⟨f5.ex.free f3, _, upd_same, _, rfl, .cons ⟨rfl, f6⟩ .nil⟩
          · rw [mset_ne b2] at z
            have b1 : b ≠ hp.objs.size + 1 := fun y => by rw [y, M1n] at z; cases z
            have y := f5.own b cl (by rw [mset_ne b1]; exact z)
            rw [upd_ne b2, del_ne b1, upd_ne b1, upd_ne b2]
            exact y
      | next => exact z.elim
      | brk => exact z.elim
      | cont => exact z.elim
  exact wpAny_call main2
theorem ws_raise {D : DE} (h : CxOk c lv N sc fb X) (hT : Thr X ρ.fl W) (q : WMk X e ρ M W) : WS X (.Raise (some e) none pos) ρ M D := by
  intro σ H B w
  refine rS_of (ps_raise h.calm hT pmk_rMk) fun pins s I => thn (q σ H B w pins s I) fun u s' z => ?_
  obtain ⟨a, oe, vs, sI, H', cls, d, h1, h2, h3, h4, h5, h6, h7, h8, h9, h10, h11, h12, B', M', e', w', z⟩ := z
  exact ⟨a, oe, vs, sI, H', cls, d, h1, h2, h3, h4, h5, h6, h7, h8, h9, h10, h11, h12, B', M', Same.trans w.s.fl e', w'.o, z⟩
end
end G
namespace G
open PySem PySem.Spec L2 PySem.Calls

/-! ### isinstance that holds -/
section
open PySem.W
theorem ans_true {K : Frag} {x t c : Value} {Hq : Heap → Prop} (ty : ∀ (M : Model) (h : Heap), K.In h → Hq h → Looks M h (typeOf x) t) (e : kitOne K t c = some true) : Answers (fun s => K.In s.heap ∧ Hq s.heap) x c true := by
  intro dep tk prog w A R s hs
  obtain ⟨hh, gg, dd, tt, oo⟩ := s
  obtain ⟨⟨kin, hold⟩, out⟩ := hs
  have lt := ty (model prog w) hh kin hold
  unfold kitOne at e
  unfold Builtin.«isinstance.nested»
  refine wpAny_bind (lt.at ?_)
  by_cases same : (t == c) = true
  · rw [if_pos same]
    first
      | ((repeat lk); exact out tt)
      | exact wpAny_bind (wpAny_rule (out tt))
      | exact wpAny_bind (wpAny_rule (wpAny_pure (out tt)))
  · rw [if_neg same] at e
    rw [if_neg same]
    obtain ⟨c1, c2, c3⟩ := kit_cls (M := model prog w) kin e
    have li : Looks (model prog w) hh (isInstance x c) true := lt.andThen c3
    refine wpAny_bind (c1.at ?_)
    rw [if_pos (by decide)]
    k_delta "plainIsInstance"
    refine wpAny_bind (wpAny_bind (c2.at ?_))
    simp only [Bool.not_true, Bool.false_eq_true, if_false]
    refine wpAny_bind (li.at ?_)
    first
      | exact wpAny_pure (wpAny_pure (out tt))
      | (simp only [if_true]; first | exact wpAny_pure (wpAny_pure (out tt)) | exact wpAny_pure (out tt) | exact wpAny_bind (wpAny_pure (wpAny_pure (out tt))))
theorem isa_true {prog : Program} {w : World} {A : Around} {E : Value → Shared → Prop} {s : Shared} {Q : Value → Shared → Prop} {K : Frag} {x t c : Value} {Hq : Heap → Prop} (ty : ∀ (M : Model) (h : Heap), K.In h → Hq h → Looks M h (typeOf x) t) (kin : K.In s.heap) (p : Hq s.heap)
    (e : kitOne K t c = some true) (hx : x ≠ .builtin "__main__.__loader__#opaque") (h : ∀ tk, Q (.bool true) { s with toks := tk }) : wpAny (model prog w) A (call (.builtin "isinstance") [x, c]) Q E s :=
  call_isinstance (S := fun _ R s => (K.In s.heap ∧ Hq s.heap) ∧ ∀ tk, R (.ok (.ret (.bool true))) { s with toks := tk }) (fun prog w A R s hs => isinstance_outer (ans_true ty e 0 _ prog w A R s hs) hx) ⟨⟨kin, p⟩, h⟩
end

/-! ### try: body, except C as n: suite -/
/-- within the suite -/
structure Suite (c : Cf) (N : List Str) (sc : Scope) (a : Addr) (cls : Value) (dd : Option Addr) (X : Cx) : Prop where
  ex : ∃ (X0 : Cx) (oe : Obj) (pn : List (Addr × Obj)) (lv : Nat) (fb : Str → Bool), X = X0.suite a ((a, oe) :: pn) ∧ Zc cls dd oe ∧ (∃ vs, oe.data = .fields vs) ∧ CxOk c lv N sc fb X0
def onlyR (n i : Nat) (r : R) : List (Option R) := (List.replicate n none).set i (some r)
section
variable {c : Cf} {lv : Nat} {N : List Str} {sc : Scope} {fb : Str → Bool} {X : Cx} {ρ : Rho} {M : Mem} {e : Expr} {es : List Expr} {pos pos' p np : Pos} {n x : Str} {c0 : Value} {W Wout : XKd} {body suite : List Stmt} {b₀ : Stmt}
theorem Thr.tr {pn : List (Addr × Obj)} {xe : Value → Shared → Prop} {W : XKd} {W' : WX} {fl : Hp} (h : Takes (X.tr pn xe) W') (k : ∀ cls d σ H, (∃ B' M', Same fl B' ∧ Own B' H M' ∧ W cls d M') → W' cls d σ H) : Thr (X.tr pn xe) fl W := Takes.imp h k
theorem CxOk.tr {pn : List (Addr × Obj)} {xe : Value → Shared → Prop} (h : CxOk c lv N sc fb X) : CxOk c lv N sc fb (X.tr pn xe) := ⟨h.prog, h.w, h.K, h.mg, h.base, h.room, h.gd, h.hN, h.nd, h.hsc, h.hfb, h.calm⟩
/-- the ends, told upon the ground fl again; slot i is let go -/
def DE.on (D : DE) (fl : Hp) : DE := { nx := fun ρ' M' => D.nx ⟨ρ'.l, fl⟩ M', rt := D.rt, bk := fun ρ' M' => D.bk ⟨ρ'.l, fl⟩ M', ct := fun ρ' M' => D.ct ⟨ρ'.l, fl⟩ M' }
def DE.off (D : DE) (i : Nat) : DE := { nx := fun ρ' M' => D.nx (ρ'.set i none) M', rt := D.rt, bk := fun ρ' M' => D.bk (ρ'.set i none) M', ct := fun ρ' M' => D.ct (ρ'.set i none) M' }
/-- what is wished of what the body lets out -/
def WAs (c : Cf) (N : List Str) (sc : Scope) (c0 : Value) (i : Nat) (fl' : Hp) (suite : List Stmt) (Wout : XKd) (D : DE) : XKd := fun cls d M => ∃ b, PySem.W.exmOne c.K cls c0 = some b ∧
  (b = true → ∀ a, M a = none → ∀ X, Suite c N sc a cls d X → WSs X suite ⟨onlyR N.length i (.raw (.ref a)), fl'⟩ M (D.off i)) ∧ (b = false → Wout cls d M)
theorem Slots.gone {B : Hp} {ρ : Rho} {σ : L2.St} {i : Nat} (s : Slots B ρ σ) : Slots B (ρ.set i none) (σ.set i none) := by
  refine ⟨s.fl, by show _ = (ρ.l.set i none).length; rw [List.length_set, List.length_set]; exact s.len, fun j r e => ?_⟩
  have e : (ρ.l.set i none)[j]? = some (some r) := e
  rw [List.getElem?_set] at e ⊢
  by_cases q : i = j
  · rw [if_pos q] at e
    split at e <;> cases e
  · rw [if_neg q] at e ⊢
    exact s.at_ j r e
theorem PostS.imp {B B0 : Hp} {P P' : Rho → Mem → Prop} {σ : L2.St} {H : Hp} {fl : Hp} (h : PostS B P σ H) (e0 : Same B0 B) (e1 : Same fl B) (k : ∀ ρ M, P ρ M → P' ⟨ρ.l, fl⟩ M) : PostS B0 P' σ H := by
  obtain ⟨B', ρ', M', e, w, z⟩ := h
  exact ⟨B', ⟨ρ'.l, fl⟩, M', Same.trans e0 e, ⟨w.o, Same.trans e1 e, w.s.len, w.s.at_⟩, k _ _ z⟩
theorem PostS.off {B : Hp} {P : Rho → Mem → Prop} {σ : L2.St} {H : Hp} {i : Nat} (h : PostS B (fun ρ' M' => P (ρ'.set i none) M') σ H) : PostS B P (σ.set i none) H := by
  obtain ⟨B', ρ', M', e, w, z⟩ := h
  exact ⟨B', _, M', e, ⟨w.o, w.s.gone⟩, z⟩
theorem Inv.lenOf {X : Cx} {pins : List (Addr × Obj)} {σ : L2.St} {H : Hp} {s : Shared} (I : Inv X pins σ H s) : σ.length = X.N.length := I.len
theorem ws_tryAs {D : DE} (h : CxOk c lv N sc fb X) (hF : Frm X) (hT : Thr X ρ.fl Wout) (v : setC N sc (fun _ => false) n = true) (hc : glC sc x = true) (hx : c.mg x = some c0 ∨ (c.mg x = none ∧ bootBuiltins x = some c0 ∧ x ≠ "__name__"))
    (q : ∀ X' fl', CxOk c lv N sc fb X' → Thr X' fl' (WAs c N sc c0 (idx N n) fl' (b₀ :: suite) Wout (D.on ρ.fl)) → WSs X' body ⟨ρ.l, fl'⟩ M (D.on ρ.fl)) : WS X (.Try body [.ExceptHandler (some (.Name x np)) (some n) (b₀ :: suite) pos'] [] [] pos) ρ M D := by
  intro σ H B w
  have vs : X.N[idx N n]? = some n ∧ X.env.kindOf n = some .local := by
    unfold setC at v
    simp only [Bool.and_eq_true, decide_eq_true_eq] at v
    obtain ⟨v1, v2⟩ := v
    refine ⟨by rw [h.hN]; exact v1, ?_⟩
    show X.env.scope.names.lookup n = _
    rw [h.hsc]
    split at v2 <;> first | assumption | cases v2
  have nm : Names X x c0 := ⟨(h.gl hc).1, (h.gl hc).2, by rw [h.mg]; exact hx⟩
  refine rS_of (ps_try_as (i := idx N n) (c := c0) (Wout := fun cls d _ H' => ∃ B' M', Same ρ.fl B' ∧ Own B' H' M' ∧ Wout cls d M') (tb := fun W D0 σ0 H0 => ∀ pn xe, Takes (X.tr pn xe) W → PassesOwn (model X.prog X.w) X.A X.env xe → rSs (X.tr pn xe) body D0 σ0 H0)
    (ts := fun a cls d D0 σ0 H0 => ∀ oe pn, Zc cls d oe → (∃ vs, oe.data = .fields vs) → rSs (X.suite a ((a, oe) :: pn)) (b₀ :: suite) D0 σ0 H0)
    hF.stk hF.fr (by rw [h.hN]; exact h.nd) vs.1 vs.2 nm hT (fun W pn xe tk ps => ⟨fun pins s σ0 H0 D0 I z => z pn xe tk ps pins s I⟩) fun a oe cls d pn hz hf => ⟨fun pins s σ0 H0 D0 I z => z oe pn hz hf pins s I⟩) ?_
  intro pn xe tk ps
  have w' : Sat ⟨ρ.l, B⟩ M σ B H := ⟨w.o, Same.refl B, w.s.len, w.s.at_⟩
  have main := q (X.tr pn xe) B h.tr (Takes.imp tk fun cls d σ1 H1 z => ?_) σ H B w'
  · refine fun pins s I => thn (main pins s I) fun f s' z => ?_
    have back : ∀ {P : Rho → Mem → Prop} {σ' : L2.St} {H' : Hp}, PostS B (fun ρ' M' => P ⟨ρ'.l, ρ.fl⟩ M') σ' H' → PostS B P σ' H' := fun z => PostS.imp z (Same.refl B) w.s.fl fun _ _ y => y
    cases f with
    | next => obtain ⟨σ', H', J, y⟩ := z; exact ⟨σ', H', J, back y⟩
    | brk => obtain ⟨σ', H', J, y⟩ := z; exact ⟨σ', H', J, back y⟩
    | cont => obtain ⟨σ', H', J, y⟩ := z; exact ⟨σ', H', J, back y⟩
    | ret u => exact z
  · obtain ⟨B1, M1, e1, o1, b, z1, z2, z3⟩ := z
    refine ⟨b, by rw [h.K]; exact z1, fun hb a ha oe pn2 hz hf pins s I => ?_, fun hb => ⟨B1, M1, Same.trans w.s.fl e1, o1, z3 hb⟩⟩
    have len : (σ1.set (idx N n) (some (V.ref a))).length = N.length := by
      have := Inv.lenOf I
      rw [this, ← h.hN]
    have hi : idx N n < N.length := by
      have := vs.1
      rw [h.hN] at this
      exact (List.getElem?_eq_some_iff.mp this).1
    have w1 : Sat ⟨onlyR N.length (idx N n) (.raw (.ref a)), B⟩ M1 (σ1.set (idx N n) (some (V.ref a))) B1 H1 := by
      refine ⟨o1, e1, ?_, fun j r hj => ?_⟩
      · rw [len]
        show _ = (onlyR N.length (idx N n) (.raw (.ref a))).length
        unfold onlyR
        rw [List.length_set, List.length_replicate]
      · have hj : ((List.replicate N.length none).set (idx N n) (some (R.raw (.ref a))))[j]? = some (some r) := hj
        rw [List.getElem?_set] at hj
        by_cases y : idx N n = j
        · rw [if_pos y, if_pos (by rw [List.length_replicate]; exact hi)] at hj
          cases hj
          refine ⟨_, ?_, rfl⟩
          subst y
          rw [List.length_set] at len
          rw [List.getElem?_set, if_pos rfl, if_pos (by rw [len]; exact hi)]
        · rw [if_neg y, List.getElem?_replicate] at hj
          split at hj <;> cases hj
    refine thn (z2 hb a (o1.free ha) _ ⟨X, oe, pn2, lv, fb, rfl, hz, hf, h⟩ _ _ _ w1 pins s I) fun f s' z => ?_
    have back : ∀ {P : Rho → Mem → Prop} {σ' : L2.St} {H' : Hp}, PostS B1 (fun ρ' M' => P ⟨(ρ'.set (idx N n) none).l, ρ.fl⟩ M') σ' H' → PostS B P (σ'.set (idx N n) none) H' := fun z =>
      PostS.off (PostS.imp z e1 (Same.trans w.s.fl e1) fun _ _ y => y)
    cases f with
    | next => obtain ⟨σ', H', J, y⟩ := z; exact ⟨σ', H', J, back y⟩
    | brk => obtain ⟨σ', H', J, y⟩ := z; exact ⟨σ', H', J, back y⟩
    | cont => obtain ⟨σ', H', J, y⟩ := z; exact ⟨σ', H', J, back y⟩
    | ret u =>
      obtain ⟨v', σ', H', J, rv, B', r, M', e', y⟩ := z
      exact ⟨v', σ', H', J, rv, B', r, M', Same.trans e1 e', y⟩
/-- a call that may let out what W tells -/
theorem w_callX {k : Nat} {sp : SpD} {Q : RK} (h : CxOk c lv N sc fb X) (F : FnH c n k sp) (hk : k ≤ lv) (v : glC sc n = true) (hT : Thr X ρ.fl W) (q : WA X (e :: es) ρ M fun rs M1 => sp rs M1 Q W) (he : starEach (e :: es) X.env = (false, eval e X.env) :: starEach es X.env := by with_unfolding_all rfl)
    (hpl : (backTo pos (starEach es X.env)).any (·.1) = false := by with_unfolding_all rfl) : WE X (.Call (.Name n p) (e :: es) [] pos) ρ M Q := by
  obtain ⟨f, fd, ps, G, h1, h2, h3⟩ := F.ex
  exact we_callG h G h1 h2 h3 hk v (fun pins σ H B s s' e f0 I z => passes_call hT (fun cls d σ' H' ⟨B', M', e', o', y⟩ => ⟨B', M', Same.trans f0 e', o', y⟩) pins σ H s e s' I z) q he hpl
end

/-! ### in the suite -/
section
variable {c : Cf} {N : List Str} {sc : Scope} {X : Cx} {ρ : Rho} {M : Mem} {Q : RK} {pos p p2 : Pos} {n x : Str} {a C : Addr} {f : Str} {cls : Value} {dd dx : Addr} {d : Option Addr} {fs : List (Str × R)} {r : R}
theorem Suite.var (S : Suite c N sc a cls d X) (v : varC N sc n = true) : VarOk X (idx N n) n := by
  obtain ⟨X0, oe, pn, lv, fb, rfl, _, _, h⟩ := S.ex
  have o := h.varOk v
  exact ⟨o.1, o.2, o.3, o.4⟩
theorem relO_get {B : Hp} : ∀ {fs : List (Str × R)} {ws : List (Str × V)} {f : Str} {r : R}, Paired (fun (p : Str × R) (q : Str × V) => p.1 = q.1 ∧ RelR B p.2 q.2) fs ws → fs.lookup f = some r → ∃ v, ws.lookup f = some v ∧ RelR B r v
  | _, _, _, _, .nil, h => by cases h
  | (g, x) :: fs, (g', y) :: ws, f, r, .cons q t, h => by
    obtain ⟨h1, h2⟩ := q
    have h1 : g = g' := h1
    subst h1
    simp only [List.lookup] at h ⊢
    split at h
    · cases h; exact ⟨y, rfl, h2⟩
    · exact relO_get t h
theorem su_fld (S : Suite c N sc a (.ref C) (some dx) X) (T : XfC c.K C) (hno : PySem.W.findIn c.K (.ref C) f = some none) (v : varC N sc n = true) (hr : ρ.l[idx N n]? = some (some (.raw (.ref a)))) (hM : M dx = some (.xo fs)) (hf : fs.lookup f = some r) (q : Q r M)
    (hb : attributeBase (.Name n p) f X.env (eval (.Name n p) X.env) = eval (.Name n p) X.env := by with_unfolding_all rfl) : WE X (.Attribute (.Name n p) f p2) ρ M Q := by
  have vo := S.var v
  obtain ⟨X0, oe, pn, lv, fb, rfl, hz, hfl, h⟩ := S.ex
  intro σ H B w
  refine rE_of (pe_xf (X := X0) (by rw [h.K]; exact T) (by rw [h.K]; exact hno) hz hfl pe_rE hb) ?_
  refine ((we_var (pos := p) (Q := fun r M' => r = .raw (.ref a) ∧ M' = M) vo hr ⟨rfl, rfl⟩) σ H B w).imp fun y H1 ⟨B1, r1, M1, e1, w1, rr, h1, h2⟩ => ?_
  subst h1 h2
  have hy : y = .ref a := rr
  obtain ⟨_, o, o1, ws, rfl, pr⟩ := w1.o.own dx _ hM
  obtain ⟨v', l1, l2⟩ := relO_get pr hf
  exact ⟨hy, rfl, dx, ws, v', rfl, o1, l1, B1, r, M1, e1, w1, l2, q⟩
/-- isinstance(n, x), x a class above -/
theorem su_isa {D0 : Value} {t : V} {args : List Expr} (S : Suite c N sc a (.ref C) d X) (v : varC N sc n = true) (hr : ρ.l[idx N n]? = some (some (.raw (.ref a)))) (hi : c.mg "isinstance" = none) (gi : glC sc "isinstance" = true) (gx : glC sc x = true)
    (hx : c.mg x = some D0 ∨ (c.mg x = none ∧ bootBuiltins x = some D0 ∧ x ≠ "__name__")) (hD : RelV t D0) (hU : ∀ u, RelV t u → u = D0) (hk : PySem.W.kitOne c.K (.ref C) D0 = some true) (q : Q (.d (.bool true)) M) {p0 p1 : Pos} :
    WE X (.Call (.Name "isinstance" p0) [.Name n p, .Name x p1] [] pos) ρ M Q := by
  have vo := S.var v
  obtain ⟨X0, oe, pn, lv, fb, rfl, hz, hfl, h⟩ := S.ex
  have gi' : Gl (X0.suite a ((a, oe) :: pn)) "isinstance" := (h.gl gi).1
  have gx' : Gl (X0.suite a ((a, oe) :: pn)) x := (h.gl gx).1
  have mi : (X0.suite a ((a, oe) :: pn)).mg "isinstance" = none := by show X0.mg _ = none; rw [h.mg]; exact hi
  have nx : WE (X0.suite a ((a, oe) :: pn)) (.Name x p1) ρ M fun r M' => r = .raw t ∧ M' = M := by
    rcases hx with hx | ⟨hx, hb, hne⟩
    · exact we_globR (by show X0.mg _ = _; rw [h.mg]; exact hx) hD ⟨rfl, rfl⟩ gx' (h.gl gx).2
    · exact we_bltn (by show X0.mg _ = _; rw [h.mg]; exact hx) hb hD ⟨rfl, rfl⟩ gx' hne (h.gl gx).2
  refine we_callB mi PyProof.Rows.Boot.isinstance (wa_cons (we_var vo hr (wa_cons (nx.imp fun r M' ⟨h1, h2⟩ => wa_nil ?_)))) gi' (by decide) (h.gl gi).2
  subst h1 h2
  intro ρ2 σ H B vs w rr pins s σ2 us I rv
  cases rr with
  | @cons _ v1 _ vs1 q1 rr =>
  cases rr with
  | @cons _ v2 _ vs2 q2 rr =>
  cases rr
  have q1 : v1 = .ref a := q1
  have q2 : v2 = t := q2
  subst q1 q2
  cases rv with
  | @cons _ u1 _ us1 y1 rv =>
  cases rv with
  | @cons _ u2 _ us2 y2 rv =>
  cases rv
  obtain rfl : u1 = Value.ref a := y1
  have := hU _ y2
  subst this
  have pinned := (I.pin (a, oe) (List.mem_append.mpr (.inl List.mem_cons_self))).1
  refine isa_true (K := c.K) (t := .ref C) (Hq := fun h => ∃ o, h.get? a = some o ∧ o.cls = .ref C) (fun M h _ ⟨o, o1, o2⟩ A Q E s k q => wpAny_typeOf_ref (k _ _ o1) (by rw [o2]; exact q)) ?_ ⟨oe, pinned, hz.1⟩ hk (fun z => nomatch z) fun tk => ?_
  · rw [← h.K]; exact I.kIn
  · exact ⟨.bl true, H, I.kept (t' := tk) fun _ _ z => z, rfl, B, .d (.bool true), _, Same.refl B, w, Da.bl true, q⟩
end
end G
namespace G
open PySem PySem.Spec L2 PySem.Calls

/-! ### the script is walked -/
def isScr (K : PySem.W.Frag) (P : List Int → Mem → Prop) : RK := fun r M => ∃ ns, r = .scr K ns ∧ P ns M
theorem st_isScr {K : PySem.W.Frag} {P : List Int → Mem → Prop} {ns : List Int} {M : Mem} (h : P ns M) : isScr K P (.scr K ns) M := ⟨ns, rfl, h⟩
section
variable {c : Cf} {lv : Nat} {N : List Str} {sc : Scope} {fb : Str → Bool} {X : Cx} {ρ : Rho} {M : Mem} {tg it : Expr}
theorem wit_scr {P : List PyData → Mem → Prop} (hX : CxOk c lv N sc fb X) (h : WE X it ρ M (isScr c.K fun ns M1 => P (ns.map PyData.int) M1)) : WIt X tg it ρ M P := fun σ H B w =>
  rI_of (pi_list pe_rE) ((h σ H B w).imp fun v H1 ⟨B1, r, M1, e1, w1, r1, ns, er, q⟩ => by
    subst er
    obtain ⟨a, rfl, hq⟩ := r1
    refine ⟨a, rfl, ⟨ns.map V.int, by rw [hX.K]; exact hq _ w1.o.ex⟩, B1, ns.map PyData.int, M1, e1, w1, ⟨_, _, by rw [hX.K, List.length_map, ← List.length_map (f := V.int)]; exact walk_list (xs := ns.map V.int), fun H e => hq H e, fun i d hi B' H x H' ρ M σ e w y => ?_⟩, q⟩
    obtain ⟨rfl, hx⟩ := y
    rw [List.getElem?_map] at hi hx
    cases z : ns[i]? with
    | none => rw [z] at hi; cases hi
    | some n =>
      rw [z] at hi hx
      cases hi; cases hx
      exact ⟨B', Same.refl B', w, Da.int n⟩)
end

/-! ### the law's promise, called -/
def spLawG (K : PySem.W.Frag) (n : Nat) : SpD := fun rs M Q _ => ∃ ns : List Int, ns.length ≤ n ∧ rs = [.scr K ns] ∧ ∀ M', Q (.d (.bool true)) M'
theorem callG {P : Program} {w : World} {K : PySem.W.Frag} {mg mb : Str → Option Value} {k m : Nat} {fa a : Addr} {fd : FuncData} {x : Str} {s₁ : Shared} {vs : List Value} {ns : List Int}
    (kin : K.In s₁.heap) (glob : s₁.heap.Ns mainGlobals mg) (blt : s₁.heap.Ns builtinsNs mb) (bltIs : ∀ x : Str, x ≠ "__name__" → mb x = bootBuiltins x) (lim : s₁.heap.NoLimit) (gens : s₁.gens = #[])
    (lies : s₁.heap.get? a = some { cls := .type "list", data := .seq vs.toArray }) (nums : PyProof.Rows.IntsAre vs ns) (short : ns.length ≤ sizeLine) (few : ns.length ≤ m) (room : Room k callerA)
    (F : ∀ base : Heap, K.In base → base.Ns mainGlobals mg → FnG ⟨P, w, K, mg, base⟩ k fa fd [x] (spLawG K m)) (binds : ∀ (s : Shared) (u : Value), BindsTo s fd ⟨[u], []⟩ [(x, u)]) :
    codeAny (model P w) callerA (.call (.ref fa) ⟨[.ref a], []⟩) (fun r s' => r = .ok (.ret (.bool true)) ∧ OldK s₁.heap s'.heap ∧ s'.os = s₁.os ∧ PyProof.Rows.AllBare s'.gens) s₁ := by
  have told := vals_ints nums
  -- H tracks at most the script
  have core : ∀ H : Hp, Only H → SqL K H a (ns.map V.int) → HOk P w H s₁.heap → (∀ b, H b ≠ none → b = a) → (H a ≠ none → K.lookup a = none) →
      codeAny (model P w) callerA (.call (.ref fa) ⟨[.ref a], []⟩) (fun r s' => r = .ok (.ret (.bool true)) ∧ OldK s₁.heap s'.heap ∧ s'.os = s₁.os ∧ PyProof.Rows.AllBare s'.gens) s₁ := by
    intro H only sq hok just notK
    have atA : ∀ {b : Addr} {u : HO}, H b = some u → b = a := fun {b u} z => just b fun y => by rw [y] at z; cases z
    have free : ∀ {b : Addr} {o : Obj} {es : Array DictEntry} {ep : Nat}, s₁.heap.get? b = some o → o.data = .dict es ep → H b = none := by
      intro b o es ep e d
      cases z : H b with
      | none => rfl
      | some u =>
        have := atA z
        subst this
        rw [lies] at e
        cases e
        have d2 : Data.seq vs.toArray _ = Data.dict es ep := d
        cases d2
    have nss : ∀ {b : Addr} {f : Str → Option Value}, s₁.heap.Ns b f → (hidT s₁.heap H).Ns b f := fun {b f} ⟨o, es, ep, e, d, r⟩ => ⟨o, es, ep, hidT_get e (free e d), d, r⟩
    have kb : K.In (hidT s₁.heap H) := by
      intro b o e
      refine hidT_get (kin b o e) ?_
      cases z : H b with
      | none => rfl
      | some u =>
        have := atA z
        subst this
        rw [notK (by rw [z]; exact fun y => by cases y)] at e
        cases e
    obtain ⟨mc, l1, l2⟩ := lim
    have e0 : Env0 P w K mg (hidT s₁.heap H) callerA [] s₁ H := ⟨rfl, ⟨kb, nss glob, ⟨mb, nss blt, bltIs⟩, ⟨mc, nss l1, l2⟩⟩, fun b o e => of_hidT e, Nat.le_of_eq (hidT_size _ _), trivial, fun b hb => absurd (show b ∈ ([] : List Addr) from hb) (by simp), hok, PyProof.Rows.AllBare.of_eq gens⟩
    have run := (F _ kb (nss glob)).run callerA [] s₁ H ⟨[.ref a], []⟩ [.ref a] [.ref a] (PostR H fun r _ => r = .d (.bool true)) (fun _ _ _ => False) room rfl e0 (binds s₁ (.ref a)) (.cons rfl .nil)
      ⟨[.scr K ns], fun _ => none, H, fun r _ => r = .d (.bool true), fun _ _ _ => False, ⟨Same.refl H, fun b cl z => by cases z⟩, .cons ⟨a, rfl, fun H' e => ?_⟩ .nil, ⟨ns, few, rfl, fun _ => rfl⟩, fun _ _ z => z, fun _ _ _ ⟨_, _, _, _, z⟩ => z⟩
    · refine codeAny_mono run fun r s' z => ?_
      match r, z with
      | .error e, z => obtain ⟨_, _, _, _, _, _, _, _, _, _, _, _, y⟩ := z; exact y.elim
      | .ok .next, z => exact z.elim
      | .ok .brk, z => exact z.elim
      | .ok .cont, z => exact z.elim
      | .ok (.ret u), z =>
        obtain ⟨v, H', os, bare, un, hok', rv, B', r', M', _, _, rr, er⟩ := z
        subst er
        have hv := Da.bool_inv rr
        subst hv
        obtain rfl : u = Value.bool true := rv
        refine ⟨rfl, OldK.of_keep fun b o e => ?_, os, bare⟩
        cases z : H b with
        | none => exact un.keep b o e z (fun y => by cases y) (by simp)
        | some u =>
          rcases only b with y | ⟨ob, xs, y⟩
          · rw [z] at y; cases y
          · obtain ⟨e1, _⟩ := hok b _ y
            obtain ⟨e2, _⟩ := hok' b _ (un.frzs b ob _ y)
            rw [e] at e1
            cases e1
            exact e2
    · cases z : H a with
      | some u =>
        rcases only a with y | ⟨ob, xs, y⟩
        · rw [z] at y; cases y
        · have yy := e a _ y
          rcases sq with (q | ⟨o, q⟩) | q
          · rw [y] at q; cases q
          · rw [y] at q
            cases q
            exact .inl (.inr ⟨_, yy⟩)
          · exact .inr q
      | none =>
        rcases sq with (q | ⟨o, q⟩) | q
        · rw [z] at q; cases q
        · rw [z] at q; cases q
        · exact .inr q
  cases known : K.lookup a with
  | some o =>
    have e := kin a o known
    rw [lies] at e
    cases e
    have len : vs.toArray.size ≤ sizeLine := by rw [List.size_toArray, nums.length]; exact short
    exact core (fun _ => none) (fun _ => .inl rfl) (.inr ⟨_, vs.toArray, _, known, rfl, rfl, rfl, len, by simpa using told⟩) (fun b u z => by cases (show (none : Option HO) = some u from z)) (fun b z => absurd rfl z) fun z => absurd rfl z
  | none =>
    refine core (fun b => if b = a then some (.frz { cls := .type "list", data := .seq vs.toArray } (.lst (ns.map V.int))) else none) (fun b => ?_) (.inl (.inr ⟨_, if_pos rfl⟩)) (fun b u z => ?_) (fun b z => ?_) fun _ => known
    · by_cases q : b = a
      · exact .inr ⟨_, _, if_pos q⟩
      · exact .inl (if_neg q)
    · by_cases q : b = a
      · have z2 := (if_pos q).symm.trans z
        cases z2
        rw [q]
        exact ⟨lies, by rw [List.length_map]; exact short, vs, _, told, lies⟩
      · cases (if_neg q).symm.trans z
    · by_cases q : b = a
      · exact q
      · exact absurd (if_neg q) z
/-- what k_head leaves -/
theorem walkG {l : PySem.W.OpenLaw} {n k : Nat} {q : Program} {loose : List Str} {XP : (Str → Option Value) → Heap → Prop} {YP : World → Heap → Prop} {d : DefRec} {K : Params → PySem.W.Frag} {x : Str} (hn : l.most = some n) (hn2 : n ≤ sizeLine) (hdf : d.params.defaults = []) (hr : Room k callerA)
    (hY : ∀ (w : World) (h : Heap), YP w h → (K w.params).In h)
    (F : ∀ (w : World) (mg : Str → Option Value) (fa : Addr) (h : Heap), (K w.params).In h → h.Ns mainGlobals mg → mg d.name = some (.ref fa) →
      ∃ fd : FuncData, (∀ (s : Shared) (u : Value), BindsTo s fd ⟨[u], []⟩ [(x, u)]) ∧ ∀ base : Heap, (K w.params).In base → base.Ns mainGlobals mg → FnG ⟨l.prog, w, K w.params, mg, base⟩ k fa fd [x] (spLawG (K w.params) n)) :
    PySem.W.WalkO q loose XP YP l.row.toRowW d [] (fun f vs => PySem.call f vs) := by
  refine Att.attach_call hn hdf ?_
  intro w s₀ s₁ mg mb fa o pm cd doc a vs ns top Y ho hd hcd hmg lies nums len gens
  have kin := hY w _ Y
  obtain ⟨fd, binds, run⟩ := F w mg fa _ kin top.T.g hmg
  exact callG kin top.T.g top.T.b top.T.builtins top.T.nolimit gens lies nums (Nat.le_trans len hn2) len hr run binds
end G
namespace G
open PySem PySem.Spec L2 PySem.Calls HT

/-! ### t[::-1] -/
section
variable {prog : Program} {w : World} {A : Around} {E : Value → Shared → Prop} {s : Shared}
theorem back_places (n : Nat) : Builtin.Slice.slicePlaces ((n : Int) - 1) (-1) (-1) = n := by
  unfold Builtin.Slice.slicePlaces
  have h1 : ¬ ((-1 : Int) > 0) := by omega
  simp only [h1, if_false, Int.neg_neg, Int.ediv_one]
  split <;> omega
theorem back_pick (xs : List Value) : ((List.range xs.length).filterMap fun (m : Nat) => xs.toArray[(((xs.length : Int) - 1) + (m : Int) * (-1)).toNat]?).toArray = xs.reverse.toArray := by
  congr 1
  have e : ∀ m ∈ List.range xs.length, xs.toArray[(((xs.length : Int) - 1) + (m : Int) * (-1)).toNat]? = some (xs.reverse[m]?.getD .none) := by
    intro m hm
    have hm := List.mem_range.mp hm
    have : (((xs.length : Int) - 1) + (m : Int) * (-1)).toNat = xs.length - 1 - m := by omega
    rw [this, List.getElem?_reverse hm]
    simp only [List.getElem?_toArray]
    rw [List.getElem?_eq_getElem (by omega)]
    rfl
  have fm : ∀ (l : List Nat), (∀ m ∈ l, xs.toArray[(((xs.length : Int) - 1) + (m : Int) * (-1)).toNat]? = some (xs.reverse[m]?.getD .none)) → (l.filterMap fun (m : Nat) => xs.toArray[(((xs.length : Int) - 1) + (m : Int) * (-1)).toNat]?) = l.map fun m => xs.reverse[m]?.getD Value.none := by
    intro l
    induction l with
    | nil => intro _; rfl
    | cons m l ih =>
      intro h
      rw [List.filterMap_cons, h m List.mem_cons_self, ih fun k hk => h k (List.mem_cons_of_mem _ hk)]
      rfl
  rw [fm _ e]
  refine List.ext_getElem (by simp) fun i h1 h2 => ?_
  simp at h1
  simp [List.getElem?_eq_getElem (show i < xs.reverse.length by simpa using h1)]
theorem back_applied {sl : Addr} {vl vu vs : Value} {n : Nat} {Q : Int × Int × Nat → Shared → Prop} (hs : s.heap.IsSliceOf sl vl vu vs) (pl : IsPart vl none) (pu : IsPart vu none) (ps : IsPart vs (some (-1))) (h : Q ((n : Int) - 1, -1, n) s) :
    wpAny (model prog w) A (Builtin.Slice.sliceApplied (.ref sl) (pure (n : Int))) Q E s := by
  obtain ⟨os, ho, hc, hd⟩ := id hs
  unfold Builtin.Slice.sliceApplied Builtin.Slice.sliceFields
  refine wpAny_bind (wpAny_bind (wpAny_field ho hd (x := vl) rfl (wpAny_bind (wpAny_field ho hd (x := vu) rfl (wpAny_bind (wpAny_field ho hd (x := vs) rfl (wpAny_pure ?_)))))))
  refine wpAny_bind (slicePart_ ps ?_)
  show wpAny _ _ (if ((-1 : Int) == 0) = true then _ else _) _ _ s
  rw [if_neg (by decide)]
  refine wpAny_bind (slicePart_ pl (wpAny_bind (slicePart_ pu (wpAny_bind (wpAny_pure ?_)))))
  show wpAny _ _ (pure ((n : Int) - 1, (-1 : Int), Builtin.Slice.slicePlaces ((n : Int) - 1) (-1) (-1))) _ _ s
  rw [back_places]
  exact wpAny_pure h
theorem getItem_tuple_back {t sl : Addr} {items : List Value} {vl vu vs : Value} {Q : Value → Shared → Prop} (ht : PyProof.Rows.IsTup s.heap t items.toArray) (hs : s.heap.IsSliceOf sl vl vu vs) (pl : IsPart vl none) (pu : IsPart vu none) (ps : IsPart vs (some (-1)))
    (h : Q (.ref s.heap.objs.size) { s with heap := s.heap.push { cls := .type "tuple", data := .seq items.reverse.toArray } }) (few : items.length ≤ sizeLine) : wpAny (model prog w) A (getItem (.ref t) (.ref sl)) Q E s := by
  have fits : sizeOk (.seq items.reverse.toArray) := by
    show items.reverse.toArray.size ≤ sizeLine
    rw [List.size_toArray, List.length_reverse]
    exact few
  obtain ⟨os, ho, hc, hd⟩ := id hs
  have isSl : s.TypeIs (.ref sl) "slice" := ⟨os, ho, hc⟩
  unfold getItem
  try with_reducible refine wpAny_holding ?_
  first | refine wpAny_bind (wpAny_pure ?_) | skip
  refine wpAny_bind (wpAny_sequenceKey ht.typeIs (by decide) ?_)
  refine wpAny_bind (wpAny_callSpecial?_slot (name := Str.ofString "__getitem__") ht.typeIs PyProof.Rows.slot_tuple_getitem (wpAny_call_entry PyProof.Rows.slot_tuple_getitem ht.typeIs PyProof.Rows.entry_tuple_getitem ?_ (PyProof.Rows.args_tuple_getitem _ _)))
  show wpAny _ _ (Builtin.Tuple.tupleItemsOf (.ref t) >>= _) _ _ s
  refine wpAny_bind (PyProof.Rows.tupleItemsOf_ ht ?_)
  refine wpAny_bind (wpAny_typeOf isSl ?_)
  rw [if_pos (by decide)]
  have e : items.toArray.size = items.length := List.size_toArray ..
  rw [e]
  refine wpAny_bind (back_applied hs pl pu ps ?_)
  have no : ¬ ((((items.length : Int) - 1) == 0 && (-1 : Int) == 1 && items.length == items.length) = true) := by
    intro q
    rw [Bool.and_eq_true, Bool.and_eq_true] at q
    exact absurd q.1.2 (by decide)
  show wpAny _ _ (if (((items.length : Int) - 1) == 0 && (-1 : Int) == 1 && items.length == items.toArray.size) = true then _ else _) _ _ s
  rw [e, if_neg no, back_pick]
  first
    | exact wpAny_bind (m := Builtin.Tuple.tupleExact _) (wpAny_newObj_type (wpAny_pure ⟨_, rfl, wpAny_pure h⟩) fits)
    | exact wpAny_bind (m := Builtin.Tuple.tupleExact _) (wpAny_newObj_type (wpAny_bind (wpAny_pure (wpAny_pure ⟨_, rfl, wpAny_pure h⟩))) fits)
    | exact wpAny_bind (wpAny_bind (m := Builtin.Tuple.tupleExact _) (wpAny_newObj_type (wpAny_pure (wpAny_pure ⟨_, rfl, wpAny_pure h⟩)) fits))
    | exact wpAny_bind (wpAny_bind (m := Builtin.Tuple.tupleExact _) (wpAny_newObj_type (wpAny_pure ⟨_, rfl, wpAny_pure h⟩) fits))
end
section
variable {c : Cf} {lv : Nat} {N : List Str} {sc : Scope} {fb : Str → Bool} {X : Cx} {ρ : Rho} {M : Mem} {Q : RK} {e a b : Expr} {pos p px py pz pt : Pos} {n x y z : Str}
theorem we_revT {k : Nat} {p1 p2 p3 : Pos} (h : WE X e ρ M (isT fun ds M1 => Q (.d (.tuple ds.reverse)) M1)) : WE X (.Subscript e (.Slice none none (some (.UnaryOp .USub (.Constant (.int 1) k p1) p2)) p3) pos) ρ M Q := fun σ H B w pins s I => by
  refine PyProof.Rows.Subscript_ (thn (h σ H B w pins s I) fun v s1 ⟨u, H1, I1, r1, B1, r, M1, e1, w1, rr, q0⟩ => ?_)
  obtain ⟨ds, er, q⟩ := isT_inv q0
  subst er
  obtain ⟨a, xs, rfl, ha, hx⟩ := Da.tup_inv rr
  cases r1
  have part : PO X (some (.UnaryOp .USub (.Constant (.int 1) k p1) p2)) (tPart (tUn (rU fun i => .int (-i)) (tC (.int 1)))) := po_some (pe_un un_neg pe_int)
  refine wpAny_Slice (thn (po_none.run pins s1 σ H1 (fun o H2 => o = none ∧ H2 = H1) I1 ⟨rfl, rfl⟩) fun vl s2 ⟨l, H2, I2, pl, el, e2⟩ => ?_)
  subst el e2
  refine thn (po_none.run pins s2 σ H2 (fun o H3 => o = none ∧ H3 = H2) I2 ⟨rfl, rfl⟩) fun vu s3 ⟨u, H3, I3, pu, eu, e3⟩ => ?_
  subst eu e3
  refine thn (part.run pins s3 σ H3 (fun o H4 => o = some (-1) ∧ H4 = H3) I3 ⟨1, rfl, -1, rfl, rfl, rfl⟩) fun vs s4 ⟨o, H4, I4, ps, eo, e4⟩ => ?_
  subst eo e4
  have I5 : Inv X pins σ H4 { s4 with heap := s4.heap.push { cls := .type "slice", data := .fields #[vl, vu, vs] } } := I4.kept (t' := s4.toks) fun b ob z => Heap.get?_push_of_some _ z
  obtain ⟨its, r, ht, hz⟩ := I5.tuple (SqT.of (K := X.K) (w1.o.ex _ _ ha))
  have hlen := r.length
  show wpAny (model X.prog X.w) X.A (PyProof.Rows.subscriptTail e (.Slice none none (some (.UnaryOp .USub (.Constant (.int 1) k p1) p2)) p3) (.ref a) (.ref s4.heap.objs.size)) (EP X pins σ (Post ρ σ B Q)) X.xe { s4 with heap := s4.heap.push { cls := .type "slice", data := .fields #[vl, vu, vs] } }
  refine PyProof.Rows.tail_any (ops := [.ref a, .ref s4.heap.objs.size]) ht.typeIs (PyProof.Rows.slot_tuple_getitem.lookup) ?_ (by with_unfolding_all rfl)
  refine getItem_tuple_back ht (Heap.IsSliceOf.new _ vl vu vs) pl pu ps ?_ (by omega)
  have new := I5.hok.fresh (a := s4.heap.objs.size + 1) (by show (s4.heap.push _).objs.size ≤ _; simp [Heap.push])
  refine ⟨.ref _, _, I5.laid (t' := s4.toks) (o := .tup xs.reverse) (fun b ob z => Heap.get?_push_of_some _ z) (Nat.le_refl _) ?_, rfl, ?_⟩
  · exact ⟨by rw [List.length_reverse]; exact hz, its.reverse, r.reverse, _, Heap.get?_push_size _ rfl, rfl, _, rfl⟩
  · have fr := I5.hok.fresh (Nat.le_refl _)
    have fz := Same.frozen (o := .tup xs.reverse) w1.o.ex fr
    exact ⟨_, .d (.tuple ds.reverse), M1, Same.trans e1 fz, w1.frozen fr, Da.tup upd_same (DaA.mono fz _ hx.reverse), q⟩

/-! ### x, y = a, b -/
theorem s_par {nx : Rho → Mem → Prop} {rt : RK} {bk ct : Rho → Mem → Prop} {i j : Nat} {kt k2 : Nat} {pt2 : Pos} {l : List (Option R)} {fl : Hp} (h : CxOk c lv N sc fb X) (hi : VarI N x i) (hj : VarI N y j) (hij : i ≠ j) (hx : sc.names.lookup x = some .local) (hy : sc.names.lookup y = some .local)
    (q : WE X a ⟨l, fl⟩ M fun r1 M1 => WE X b ⟨l, fl⟩ M1 fun r2 M2 => nx ⟨(l.set i (some r1)).set j (some r2), fl⟩ M2) (pa : Plain a := by with_unfolding_all (intro _ _; rfl)) (pb : Plain b := by with_unfolding_all (intro _ _; rfl))
    (hw : swappedStores [.Tuple [.Name x px, .Name y py] kt pt] (.Tuple [a, b] k2 pt2) X.env = pure (some [x, y]) := by with_unfolding_all rfl) (hs : swapsWithSole [.Tuple [.Name x px, .Name y py] kt pt] (.Tuple [a, b] k2 pt2) pos.line X.env = pure false := by with_unfolding_all rfl) :
    WS X (.Assign [.Tuple [.Name x px, .Name y py] kt pt] (.Tuple [a, b] k2 pt2) pos) ⟨l, fl⟩ M ⟨nx, rt, bk, ct⟩ := fun σ H B w => by
  refine rS_of (ps_par h.calm (by rw [h.hN]; exact h.nd) (by rw [h.hN]; exact hi) (by rw [h.hN]; exact hj) hij (by rw [h.hsc]; exact hx) (by rw [h.hsc]; exact hy) (pa_cons pe_rE (pa_cons pe_rE pa_nil (pb _ _)) (pa _ _)) hw hs) ?_
  refine (q σ H B w).imp fun v1 H1 ⟨B1, r1, M1, e1, w1, rr1, q1⟩ => (q1 σ H1 B1 w1).imp fun v2 H2 ⟨B2, r2, M2, e2, w2, rr2, q2⟩ => ?_
  refine ⟨v1, v2, rfl, B2, _, M2, Same.trans e1 e2, ⟨w2.o, ?_⟩, q2⟩
  exact (w2.s.set (i := i) (rr1.mono e2)).set (i := j) rr2

/-! ### x in a sequence of ints -/
theorem ints_flat : ∀ (ns : List Int), (ns.map V.int).all flatV = true
  | [] => rfl
  | n :: ns => by rw [List.map_cons, List.all_cons, ints_flat ns]; rfl
theorem inV_ints (i : Int) : ∀ (ns : List Int), inV (.int i) (ns.map V.int) = decide (i ∈ ns)
  | [] => rfl
  | n :: ns => by
    have := inV_ints i ns
    unfold inV at this ⊢
    rw [List.map_cons, List.any_cons, this]
    show (eqV (.int n) (.int i) || decide (i ∈ ns)) = _
    have e : eqV (.int n) (.int i) = decide (n = i) := by
      unfold eqV
      first | rfl | (show (n == i) = _; by_cases q : n = i <;> simp [q])
    rw [e]
    by_cases q : n = i
    · subst q; simp
    · have q2 : ¬ i = n := fun z => q z.symm
      simp [q, q2]
theorem wo_inT {i : Int} {ns : List Int} (q : Q (.d (.bool (decide (i ∈ ns)))) M) : WO X (compareOp .In) (.d (.int i)) (.d (.tuple (ns.map PyData.int))) M Q :=
  wo_of op_in_seq fun ρ σ H B u v w r1 r2 => by
    obtain ⟨a, xs, rfl, ha, hx⟩ := Da.tup_inv r2
    have := DaA.ints_eq hx
    subst this
    have := Da.int_inv r1
    subst this
    refine ⟨a, _, rfl, .inr (SqT.of (w.o.ex _ _ ha)), rfl, ints_flat ns, B, .d (.bool (decide (i ∈ ns))), M, Same.refl B, w, ?_, q⟩
    rw [if_neg Bool.false_ne_true, inV_ints]
    exact Da.bl _
theorem wo_inL {i : Int} {ns : List Int} (q : Q (.d (.bool (decide (i ∈ ns)))) M) : WO X (compareOp .In) (.d (.int i)) (.d (.list (ns.map PyData.int))) M Q :=
  wo_of op_in_seq fun ρ σ H B u v w r1 r2 => by
    obtain ⟨a, xs, rfl, ha, hx⟩ := Da.lst_inv r2
    have := DaA.ints_eq hx
    subst this
    have := Da.int_inv r1
    subst this
    refine ⟨a, _, rfl, .inl (SqL.of (w.o.ex _ _ ha)), rfl, ints_flat ns, B, .d (.bool (decide (i ∈ ns))), M, Same.refl B, w, ?_, q⟩
    rw [if_neg Bool.false_ne_true, inV_ints]
    exact Da.bl _
theorem wo_ninT {i : Int} {ns : List Int} (q : Q (.d (.bool (!decide (i ∈ ns)))) M) : WO X (compareOp .NotIn) (.d (.int i)) (.d (.tuple (ns.map PyData.int))) M Q :=
  wo_of op_notIn_seq fun ρ σ H B u v w r1 r2 => by
    obtain ⟨a, xs, rfl, ha, hx⟩ := Da.tup_inv r2
    have := DaA.ints_eq hx
    subst this
    have := Da.int_inv r1
    subst this
    refine ⟨a, _, rfl, .inr (SqT.of (w.o.ex _ _ ha)), rfl, ints_flat ns, B, .d (.bool (!decide (i ∈ ns))), M, Same.refl B, w, ?_, q⟩
    rw [if_pos rfl, inV_ints]
    exact Da.bl _
theorem wo_ninL {i : Int} {ns : List Int} (q : Q (.d (.bool (!decide (i ∈ ns)))) M) : WO X (compareOp .NotIn) (.d (.int i)) (.d (.list (ns.map PyData.int))) M Q :=
  wo_of op_notIn_seq fun ρ σ H B u v w r1 r2 => by
    obtain ⟨a, xs, rfl, ha, hx⟩ := Da.lst_inv r2
    have := DaA.ints_eq hx
    subst this
    have := Da.int_inv r1
    subst this
    refine ⟨a, _, rfl, .inl (SqL.of (w.o.ex _ _ ha)), rfl, ints_flat ns, B, .d (.bool (!decide (i ∈ ns))), M, Same.refl B, w, ?_, q⟩
    rw [if_pos rfl, inV_ints]
    exact Da.bl _
/-! ### list(range(..)) -/
theorem rg_da {B : Hp} (lo hi : Int) : DaA B (rgV lo hi) ((upFrom lo (hi - lo).toNat).map PyData.int) := by
  have : rgV lo hi = (upFrom lo (hi - lo).toNat).map V.int := by unfold rgV upFrom; rw [List.map_map]; rfl
  rw [this]
  exact DaA.ints _
theorem x_listRg2 {p1 p2 : Pos} (h : CxOk c lv N sc fb X) (B : Blt c) (v1 : glC sc "list" = true) (v2 : glC sc "range" = true) (q : WE X a ρ M (isI fun i M1 => WE X b ρ M1 (isI fun j M1 => RgOk i j ∧ Q (.d (.list ((upFrom i (j - i).toNat).map PyData.int))) M1)))
    (pa : Plain a := by with_unfolding_all (intro _ _; rfl)) (pb : Plain b := by with_unfolding_all (intro _ _; rfl)) (na : starEach [.Call (.Name "range" p2) [a, b] [] pos] X.env = (false, eval (.Call (.Name "range" p2) [a, b] [] pos) X.env) :: starEach [] X.env := by with_unfolding_all rfl) :
    WE X (.Call (.Name "list" p1) [.Call (.Name "range" p2) [a, b] [] pos] [] p) ρ M Q := fun σ H B0 w => by
  refine rE_of (pe_listRg h.calm (h.gl v1).1 (by rw [h.mg]; exact B.list) (prg_2 (h.gl v2).1 (by rw [h.mg]; exact B.range) pe_rE pe_rE (pa _ _) (pb _ _) (any_plain [b] (fun e he => by cases he with
    | head => exact pb
    | tail _ z => cases z) _)) na) ?_
  refine (q σ H B0 w).imp fun u1 H1 ⟨B1, r1, M1, e1, w1, rr1, q1⟩ => ?_
  obtain ⟨i, er, q1⟩ := isI_inv q1
  subst er
  refine (q1 σ H1 B1 w1).imp fun u2 H2 ⟨B2, r2, M2, e2, w2, rr2, q2⟩ => ?_
  obtain ⟨j, er, hr, q3⟩ := isI_inv q2
  subst er
  refine ⟨i, j, Da.int_inv rr1, Da.int_inv rr2, hr, fun q hq => ?_⟩
  have fz := Same.frozen (o := .lst (rgV i j)) w2.o.ex hq
  exact ⟨_, .d (.list ((upFrom i (j - i).toNat).map PyData.int)), M2, Same.trans e1 (Same.trans e2 fz), w2.frozen hq, Da.lst upd_same (rg_da i j), q3⟩
end
end G
namespace G
open PySem PySem.Spec L2

/-! ### tuples and lists of ints -/
abbrev tupI (w : List Int) : PyData := .tuple (w.map PyData.int)
abbrev lstI (w : List Int) : PyData := .list (w.map PyData.int)
def gi (w : List Int) (k : Int) : Int := (w[k.toNat]?).getD 0
theorem gi_at {w : List Int} {k : Int} (h0 : 0 ≤ k) (h1 : k < w.length) : atI (w.map PyData.int) k = some (.int (gi w k)) := by
  obtain ⟨n, rfl⟩ : ∃ n : Nat, k = n := ⟨k.toNat, by omega⟩
  have : n < w.length := by omega
  refine atI_nat ?_
  unfold gi
  rw [Int.toNat_natCast, List.getElem?_map, List.getElem?_eq_getElem this]
  rfl
theorem upFrom_mem {lo : Int} {n : Nat} {k : Int} (h : k ∈ upFrom lo n) : lo ≤ k ∧ k < lo + n := by
  unfold upFrom at h
  obtain ⟨i, hi, rfl⟩ := List.mem_map.mp h
  have := List.mem_range.mp hi
  omega
section
variable {c : Cf} {lv : Nat} {N : List Str} {sc : Scope} {fb : Str → Bool} {X : Cx} {ρ : Rho} {M : Mem} {Q : RK} {e a b : Expr} {pos p : Pos}
theorem wi_tupI {w : List Int} {k : Int} (h0 : 0 ≤ k) (h1 : k < w.length) (q : Q (.d (.int (gi w k))) M) : WI X (.d (.tuple (w.map PyData.int))) (.d (.int k)) M Q := wi_tup (gi_at h0 h1) q
theorem wi_lstI {w : List Int} {k : Int} (h0 : 0 ≤ k) (h1 : k < w.length) (q : Q (.d (.int (gi w k))) M) : WI X (.d (.list (w.map PyData.int))) (.d (.int k)) M Q := wi_lst (gi_at h0 h1) q
theorem wc_lenTI {w : List Int} (q : Q (.d (.int (w.length : Int))) M) : WC X (.builtin "len") [.d (.tuple (w.map PyData.int))] M Q := wc_lenT (by rw [List.length_map]; exact q)
theorem wc_lenLI {w : List Int} (q : Q (.d (.int (w.length : Int))) M) : WC X (.builtin "len") [.d (.list (w.map PyData.int))] M Q := wc_lenL (by rw [List.length_map]; exact q)
/-- [F k for k in xs if C k], over ints -/
theorem lc_Z {tg it elt : Expr} {ifs : List Expr} {scope : Scope} {own : List (Str × Nat)} (h : CxOk c lv N sc fb X) (hok : blkC N sc scope own = true) (h2 : ifs.length ≤ 1) (C : Int → Bool) (F : Int → PyData)
    (q : WIt X tg it ρ M fun ds M1 => ∃ xs : List Int, ds = xs.map PyData.int ∧ xs.length ≤ 1000 ∧
      (∀ x, x ∈ xs → ∀ M', Sub M1 M' → ∀ Y, CxOk c lv N (relS scope sc) (blkF scope) Y → WGv Y tg (.d (.int x)) (own.map (·.2)) (wipeR ρ (own.map (·.2))) fun ρ2 => ∀ Y, CxOk c lv N (relS scope sc) (blkF scope) Y → WTs Y ifs ρ2 M' fun k M2 => M2 = M' ∧ k = C x ∧
        (k = true → ∀ Y, CxOk c lv N (relS scope sc) (blkF scope) Y → WE Y elt ρ2 M' fun r M3 => M3 = M' ∧ r = .d (F x))) ∧ Q (.d (.list ((xs.filter C).map F))) M1) : LcR X elt tg it ifs scope own ρ M Q :=
  lc_P (α := Int) h hok h2 (fun σ H B w => (q σ H B w).imp fun J H1 ⟨B1, ds, M1, e1, w1, wk, xs, ed, hz, hs, hQ⟩ => ⟨B1, ds, M1, e1, w1, wk, xs, PyData.int, C, F, ed, small_line (by omega), hs, hQ⟩)
theorem filter_true {α : Type} (l : List α) : l.filter (fun _ => true) = l := by
  induction l with
  | nil => rfl
  | cons a l ih => rw [List.filter_cons, if_pos rfl, ih]
end

/-! ### dicts by written text keys -/
section
variable {c : Cf} {lv : Nat} {N : List Str} {sc : Scope} {fb : Str → Bool} {X : Cx} {ρ : Rho} {M : Mem} {Q : RK} {o value k v : Expr} {ks : List (Option Expr)} {vs : List Expr} {pos p p1 pos' : Pos} {s : Str} {n : Nat} {nx : Rho → Mem → Prop} {rt : RK} {bk ct : Rho → Mem → Prop}
theorem x_getF (hX : CxOk c lv N sc fb X) (h : WE X o ρ M (isP fun p M1 => ∃ kvs r, M1 p = some (.dK kvs) ∧ getK kvs (.inr s) = some r ∧ Q r M1)) : WE X (.Subscript o (.Constant (.str s) n p1) pos) ρ M Q :=
  x_dget hX (h.imp fun r M1 z => by
    obtain ⟨q, rfl, kvs, y, h1, h2, h3⟩ := isP_inv z
    exact we_str ⟨kvs, _, y, h1, rfl, h2, h3⟩) (by with_unfolding_all (intro _ _; rfl))
theorem x_putF (hX : CxOk c lv N sc fb X) (h : WE X value ρ M fun r M0 => WE X o ρ M0 (isP fun p M1 => ∃ kvs, M1 p = some (.dK kvs) ∧ (kvs.map (·.1)).Nodup ∧ kvs.length < 1000 ∧ nx ρ (mset M1 p (.dK (putR kvs (.inr s) r)))))
    (hs : swapsWith value (some (.Subscript o (.Constant (.str s) n p1) pos')) pos.line X.env = pure false := by with_unfolding_all rfl) : WS X (.Assign [.Subscript o (.Constant (.str s) n p1) pos'] value pos) ρ M ⟨nx, rt, bk, ct⟩ :=
  x_dput hX (h.imp fun r M0 z => z.imp fun r1 M1 y => by
    obtain ⟨q, rfl, kvs, h1, h2, h3, h4⟩ := isP_inv y
    exact we_str ⟨kvs, _, h1, rfl, h2, h3, h4⟩) hs
def isSlice : Expr → Bool
  | .Slice .. => true
  | _ => false
theorem x_ix {a b : Expr} (h : WE X a ρ M fun x M1 => WE X b ρ M1 fun y M2 => WI X x y M2 Q) (hn : isSlice b = false := by with_unfolding_all rfl) (hs : PlainIx b := by with_unfolding_all (intro _ _; rfl)) : WE X (.Subscript a b pos) ρ M Q := we_ix h hs
theorem st_pair {P : List (Key × R) → Mem → Prop} (h : WE X k ρ M (isD fun d M1 => WE X v ρ M1 fun r M2 => ∃ key, keyD d = some key ∧ WPairs X ks vs ρ M2 fun kvs M3 => P ((key, r) :: kvs) M3)) : WPairs X (some k :: ks) (v :: vs) ρ M P := h
theorem st_pair0 {P : List (Key × R) → Mem → Prop} (h : P [] M) : WPairs X [] [] ρ M P := h
end

/-! ### the source of draws -/
def kStr (s : Str) : Key := .inr s
theorem srcD_nd {q : Addr} {l m t : Int} : ((([(kStr "cells", .raw (.ref q)), (kStr "left", .d (.int l)), (kStr "mixed", .d (.int m)), (kStr "turn", .d (.int t))] : List (Key × R))).map (·.1)).Nodup := by
  show ([kStr "cells", kStr "left", kStr "mixed", kStr "turn"] : List Key).Nodup
  decide +kernel
def srcD (q : Addr) (l m t : Int) : List (Key × R) := [(kStr "cells", .raw (.ref q)), (kStr "left", .d (.int l)), (kStr "mixed", .d (.int m)), (kStr "turn", .d (.int t))]
def intsR (ns : List Int) : List R := ns.map fun n => .d (.int n)
structure Src (M : Mem) (p q : Addr) : Prop where
  ne : p ≠ q
  ex : ∃ (l m t : Int) (ns : List Int), M p = some (.dK (srcD q l m t)) ∧ M q = some (.lst (intsR ns))
/-- all else is as it was -/
def Rest (p q : Addr) (M M' : Mem) : Prop := ∀ b, b ≠ p → b ≠ q → M' b = M b
theorem Rest.refl {p q : Addr} (M : Mem) : Rest p q M M := fun _ _ _ => rfl
theorem Rest.trans {p q : Addr} {M M1 M2 : Mem} (a : Rest p q M M1) (b : Rest p q M1 M2) : Rest p q M M2 := fun x h1 h2 => (b x h1 h2).trans (a x h1 h2)
/-- source['left'] = .. -/
theorem Rest.setp {p q : Addr} {M M1 : Mem} {cl : Cell} (a : Rest p q M M1) : Rest p q M (mset M1 p cl) := fun x h1 h2 => by rw [mset_ne h1]; exact a x h1 h2
theorem Rest.setq {p q : Addr} {M M1 : Mem} {cl : Cell} (a : Rest p q M M1) : Rest p q M (mset M1 q cl) := fun x h1 h2 => by rw [mset_ne h2]; exact a x h1 h2
/-- _law_pick -/
def spPick : SpD := fun rs M Q _ => ∃ (p q : Addr) (most : Int), rs = [.raw (.ref p), .d (.int most)] ∧ most < 1073741824 ∧ Src M p q ∧ ∀ i M', Src M' p q → Rest p q M M' → 0 ≤ i → (i < most ∨ i = 0) → Q (.d (.int i)) M'
/-- _law_source -/
def spSource (K : PySem.W.Frag) : SpD := fun rs M Q _ => ∃ ns : List Int, ns.length ≤ 1000 ∧ rs = [.scr K ns] ∧ ∀ p q M', Src M' p q → Q (.raw (.ref p)) M'
/-- _law_of, of a list of data -/
def spOf : SpD := fun rs M Q _ => ∃ (p q : Addr) (ds : List PyData), rs = [.raw (.ref p), .d (.list ds)] ∧ 0 < ds.length ∧ ds.length < 1000000 ∧ Src M p q ∧ ∀ d M', d ∈ ds → Src M' p q → Rest p q M M' → Q (.d d) M'
theorem src_cells {q : Addr} {l m t : Int} : getK (srcD q l m t) (.inr "cells") = some (.raw (.ref q)) := rfl
theorem src_left {q : Addr} {l m t : Int} : getK (srcD q l m t) (.inr "left") = some (.d (.int l)) := rfl
theorem src_mixed {q : Addr} {l m t : Int} : getK (srcD q l m t) (.inr "mixed") = some (.d (.int m)) := rfl
theorem src_turn {q : Addr} {l m t : Int} : getK (srcD q l m t) (.inr "turn") = some (.d (.int t)) := rfl
theorem put_left {q : Addr} {l m t j : Int} : putR (srcD q l m t) (.inr "left") (.d (.int j)) = srcD q j m t := rfl
theorem put_turn {q : Addr} {l m t j : Int} : putR (srcD q l m t) (.inr "turn") (.d (.int j)) = srcD q l m j := rfl
theorem intsR_len (ns : List Int) : (intsR ns).length = ns.length := by unfold intsR; rw [List.length_map]
theorem intsR_last {ns : List Int} (h : 0 < ns.length) : ∃ j, (intsR ns)[(intsR ns).length - 1]? = some (.d (.int j)) := by
  unfold intsR
  rw [List.length_map, List.getElem?_map, List.getElem?_eq_getElem (by omega)]
  exact ⟨_, rfl⟩
theorem intsR_drop (ns : List Int) : (intsR ns).dropLast = intsR ns.dropLast := by
  unfold intsR
  rw [List.dropLast_eq_take, List.dropLast_eq_take, List.length_map, List.map_take]
end G
namespace G
open PySem PySem.Spec L2

/-! ### small data -/
mutual
def sm : PyData → Bool
  | .none => true
  | .bool _ => true
  | .int i => decide (i.natAbs < 10 ^ 24)
  | .str x => x.cps.all fun c => decide (c < 128)
  | .list xs => smAll xs
  | .tuple xs => smAll xs
  | .dict _ => false
def smAll : List PyData → Bool
  | [] => true
  | x :: xs => sm x && smAll xs
end
mutual
def nd : PyData → Nat
  | .none => 1
  | .bool _ => 1
  | .int _ => 1
  | .str x => 1 + x.cps.size
  | .list xs => 1 + ndAll xs
  | .tuple xs => 1 + ndAll xs
  | .dict _ => 1
def ndAll : List PyData → Nat
  | [] => 0
  | x :: xs => nd x + ndAll xs
end
theorem log_small {m : Nat} (h : m < 10 ^ 24) : m.log2 < 80 := by
  by_cases h0 : m = 0
  · subst h0; decide
  · exact (Nat.log2_lt h0).2 (Nat.lt_trans h (by decide))
mutual
theorem sm_show : ∀ d : PyData, sm d = true → d.showable = true ∧ d.hasDict = false ∧ d.leavesShort 25 = true ∧ d.weight + 1 ≤ 82 * nd d ∧ d.canLay0 = true
  | .none, _ => ⟨rfl, rfl, rfl, by simp only [PyData.weight, nd]; omega, by simp [PyData.canLay0]⟩
  | .bool _, _ => ⟨rfl, rfl, rfl, by simp only [PyData.weight, nd]; omega, by simp [PyData.canLay0]⟩
  | .int i, h => by
    have h : i.natAbs < 10 ^ 24 := of_decide_eq_true (by simpa only [sm] using h)
    have l := log_small h
    refine ⟨?_, rfl, ?_, ?_, by simp [PyData.canLay0]⟩
    · simp only [PyData.showable, decide_eq_true_eq]; omega
    · simp only [PyData.leavesShort, PyData.shown]
      refine decide_eq_true ?_
      rw [show (Str.ofString (toString i)).length = (toString i).length from ofString_length _]
      exact PySem.int_text_length_le10 (by decide) h
    · simp only [PyData.weight, nd]
      split <;> omega
  | .str x, h => by
    have h : x.cps.all (fun c => decide (c < 128)) = true := by simpa only [sm] using h
    have all : ∀ c ∈ x.cps.toList, c < 128 := by
      intro c hc
      have := (Array.all_eq_true_iff_forall_mem.mp h) c (Array.mem_toList_iff.mp hc)
      simpa using this
    refine ⟨rfl, rfl, ?_, ?_, ?_⟩
    · simp only [PyData.leavesShort, List.all_eq_true, decide_eq_true_eq]
      intro c hc
      exact Nat.lt_trans (all c hc) (by decide)
    · simp only [PyData.weight, nd]; omega
    · simp only [PyData.canLay0, PyData.strOk]
      refine Array.all_eq_true_iff_forall_mem.mpr fun c hc => ?_
      have := all c (Array.mem_toList_iff.mpr hc)
      simp only [decide_eq_true_eq]
      omega
  | .list xs, h => by
    obtain ⟨a, b, c, d, e⟩ := smAll_show xs (by simpa only [sm] using h)
    exact ⟨by simpa only [PyData.showable] using a, by simpa only [PyData.hasDict] using b, by simpa only [PyData.leavesShort] using c, by simp only [PyData.weight, nd]; omega, by simpa only [PyData.canLay0] using e⟩
  | .tuple xs, h => by
    obtain ⟨a, b, c, d, e⟩ := smAll_show xs (by simpa only [sm] using h)
    exact ⟨by simpa only [PyData.showable] using a, by simpa only [PyData.hasDict] using b, by simpa only [PyData.leavesShort] using c, by simp only [PyData.weight, nd]; omega, by simpa only [PyData.canLay0] using e⟩
  | .dict _, h => by simp [sm] at h
theorem smAll_show : ∀ xs : List PyData, smAll xs = true → PyData.showableAll xs = true ∧ PyData.hasDictAll xs = false ∧ PyData.leavesShortAll 25 xs = true ∧ PyData.weightAll xs ≤ 82 * ndAll xs ∧ PyData.canLayAll0 xs = true
  | [], _ => ⟨rfl, rfl, rfl, Nat.zero_le _, by simp [PyData.canLayAll0]⟩
  | x :: xs, h => by
    simp only [smAll, Bool.and_eq_true] at h
    obtain ⟨a, b, c, d, e⟩ := sm_show x h.1
    obtain ⟨a', b', c', d', e'⟩ := smAll_show xs h.2
    refine ⟨by simp only [PyData.showableAll, a, a', Bool.and_self], by simp only [PyData.hasDictAll, b, b', Bool.or_self], by simp only [PyData.leavesShortAll, c, c', Bool.and_self], by simp only [PyData.weightAll, ndAll]; omega, by simp only [PyData.canLayAll0, e, e', Bool.and_self]⟩
end
/-- small: at most n things in it, at most k deep -/
structure Sz (n k : Nat) (d : PyData) : Prop where
  s : sm d = true
  n : nd d ≤ n
  k : d.depth ≤ k
theorem Sz.shows {n k : Nat} {d : PyData} (h : Sz n k d) (hn : n ≤ 7000) (hk : k ≤ 60) : Shows d := by
  obtain ⟨a, b, c, w, _⟩ := sm_show d h.s
  have hs := h.n
  refine ⟨a, b, Nat.le_trans h.k hk, ?_⟩
  have := PyData.shown_le 25 (by decide) d c
  rw [sizeLine_eq]
  omega
theorem Sz.shaped {n k : Nat} {d : PyData} (h : Sz n k d) (hk : k ≤ 60) : SeqAt.shaped d = true := by
  obtain ⟨_, _, _, _, e⟩ := sm_show d h.s
  unfold SeqAt.shaped
  rw [e, decide_eq_true (Nat.le_trans h.k (Nat.le_trans hk (by decide)))]
  rfl
theorem Sz.mono {n k n' k' : Nat} {d : PyData} (h : Sz n k d) (hn : n ≤ n') (hk : k ≤ k') : Sz n' k' d := ⟨h.s, Nat.le_trans h.n hn, Nat.le_trans h.k hk⟩
theorem smAll_ints : ∀ {w : List Int}, (∀ i ∈ w, i.natAbs < 10 ^ 24) → smAll (w.map PyData.int) = true ∧ ndAll (w.map PyData.int) = w.length ∧ PyData.depthAll (w.map PyData.int) = 0
  | [], _ => ⟨rfl, rfl, rfl⟩
  | i :: w, h => by
    obtain ⟨a, b, c⟩ := smAll_ints (w := w) fun j hj => h j (List.mem_cons_of_mem _ hj)
    refine ⟨?_, ?_, ?_⟩
    · simp only [List.map_cons, smAll, sm, a, Bool.and_true, decide_eq_true_eq]; exact h i List.mem_cons_self
    · simp only [List.map_cons, ndAll, nd, b, List.length_cons]; omega
    · simp only [List.map_cons, PyData.depthAll, PyData.depth, c]; rfl
theorem Sz.tupI {w : List Int} (h : ∀ i ∈ w, i.natAbs < 10 ^ 24) : Sz (w.length + 1) 1 (tupI w) := by
  obtain ⟨a, b, c⟩ := smAll_ints h
  exact ⟨by simpa only [G.tupI, sm] using a, by simp only [G.tupI, nd, b]; omega, by simp only [G.tupI, PyData.depth, c]; omega⟩
theorem Sz.lstI {w : List Int} (h : ∀ i ∈ w, i.natAbs < 10 ^ 24) : Sz (w.length + 1) 1 (lstI w) := by
  obtain ⟨a, b, c⟩ := smAll_ints h
  exact ⟨by simpa only [G.lstI, sm] using a, by simp only [G.lstI, nd, b]; omega, by simp only [G.lstI, PyData.depth, c]; omega⟩
mutual
theorem eqv_sm : ∀ (d e : PyData), sm d = true → PyData.eqv d d = true
  | .none, _, _ => rfl
  | .bool b, _, _ => by simp [PyData.eqv]
  | .int i, _, _ => by simp [PyData.eqv]
  | .str x, _, _ => by simp [PyData.eqv]
  | .list xs, e, h => by
    have := eqvAll_sm xs [] (by simpa only [sm] using h)
    simpa only [PyData.eqv] using this
  | .tuple xs, e, h => by
    have := eqvAll_sm xs [] (by simpa only [sm] using h)
    simpa only [PyData.eqv] using this
  | .dict _, _, h => by simp [sm] at h
theorem eqvAll_sm : ∀ (xs ys : List PyData), smAll xs = true → PyData.eqvAll xs xs = true
  | [], _, _ => rfl
  | x :: xs, ys, h => by
    simp only [smAll, Bool.and_eq_true] at h
    rw [PyData.eqvAll, eqv_sm x .none h.1, eqvAll_sm xs ys h.2]; rfl
end
theorem eqvAll_ints : ∀ (v w : List Int), PyData.eqvAll (v.map PyData.int) (w.map PyData.int) = decide (v = w)
  | [], [] => rfl
  | [], _ :: _ => rfl
  | _ :: _, [] => rfl
  | a :: v, b :: w => by
    rw [List.map_cons, List.map_cons, PyData.eqvAll, eqvAll_ints v w, PyData.eqv]
    by_cases q : a = b
    · subst q; simp
    · simp [q]
section
variable {c : Cf} {lv : Nat} {N : List Str} {sc : Scope} {fb : Str → Bool} {X : Cx} {ρ : Rho} {M : Mem} {Q : RK}
theorem x_reprS {e : Expr} {p pos : Pos} (h : CxOk c lv N sc fb X) (B : Blt c) (v : glC sc "repr" = true) (q : WE X e ρ M (isD fun d M1 => (∃ n k, Sz n k d ∧ n ≤ 7000 ∧ k ≤ 60) ∧ Q (.d (.str d.shown)) M1)) (pl : Plain e := by with_unfolding_all (intro _ _; rfl)) : WE X (.Call (.Name "repr" p) [e] [] pos) ρ M Q :=
  x_repr h B v (q.imp fun r M1 z => by
    obtain ⟨d, rfl, ⟨n, k, hz, hn, hk⟩, q⟩ := isD_inv z
    exact wc_repr h (hz.shows hn hk) q) pl
theorem wo_eqTI (h : CxOk c lv N sc fb X) {v w : List Int} (hv : ∀ i ∈ v, i.natAbs < 10 ^ 24) (hw : ∀ i ∈ w, i.natAbs < 10 ^ 24) (q : Q (.d (.bool (decide (v = w)))) M) : WO X (compareOp .Eq) (.d (.tuple (v.map PyData.int))) (.d (.tuple (w.map PyData.int))) M Q :=
  wo_eqD h.units ((Sz.tupI hv).shaped (by decide)) ((Sz.tupI hw).shaped (by decide)) (by rw [PyData.eqv, eqvAll_ints]; exact q)
theorem wo_neTI (h : CxOk c lv N sc fb X) {v w : List Int} (hv : ∀ i ∈ v, i.natAbs < 10 ^ 24) (hw : ∀ i ∈ w, i.natAbs < 10 ^ 24) (q : Q (.d (.bool (!decide (v = w)))) M) : WO X (compareOp .NotEq) (.d (.tuple (v.map PyData.int))) (.d (.tuple (w.map PyData.int))) M Q :=
  wo_neD h.units ((Sz.tupI hv).shaped (by decide)) ((Sz.tupI hw).shaped (by decide)) (by rw [PyData.eqv, eqvAll_ints]; exact q)
theorem wo_neLI (h : CxOk c lv N sc fb X) {v w : List Int} (hv : ∀ i ∈ v, i.natAbs < 10 ^ 24) (hw : ∀ i ∈ w, i.natAbs < 10 ^ 24) (q : Q (.d (.bool (!decide (v = w)))) M) : WO X (compareOp .NotEq) (.d (.list (v.map PyData.int))) (.d (.list (w.map PyData.int))) M Q :=
  wo_neD h.units ((Sz.lstI hv).shaped (by decide)) ((Sz.lstI hw).shaped (by decide)) (by rw [PyData.eqv, eqvAll_ints]; exact q)
end
section
variable {X : Cx} {M : Mem} {Q : RK} {b : Bool} {i : Int} {x : Str} {ds : List PyData}
theorem wi_int_none (q : Q (.d (.bool false)) M) : WC X (.builtin "isinstance") [.d .none, .raw (.ty "int")] M Q := wc_isi (by with_unfolding_all rfl) q
theorem wi_int_bool (q : Q (.d (.bool true)) M) : WC X (.builtin "isinstance") [.d (.bool b), .raw (.ty "int")] M Q := wc_isi (by with_unfolding_all rfl) q
theorem wi_int_int (q : Q (.d (.bool true)) M) : WC X (.builtin "isinstance") [.d (.int i), .raw (.ty "int")] M Q := wc_isi (by with_unfolding_all rfl) q
theorem wi_int_str (q : Q (.d (.bool false)) M) : WC X (.builtin "isinstance") [.d (.str x), .raw (.ty "int")] M Q := wc_isi (by with_unfolding_all rfl) q
theorem wi_int_list (q : Q (.d (.bool false)) M) : WC X (.builtin "isinstance") [.d (.list ds), .raw (.ty "int")] M Q := wc_isi (by with_unfolding_all rfl) q
theorem wi_int_tuple (q : Q (.d (.bool false)) M) : WC X (.builtin "isinstance") [.d (.tuple ds), .raw (.ty "int")] M Q := wc_isi (by with_unfolding_all rfl) q
theorem wi_bool_none (q : Q (.d (.bool false)) M) : WC X (.builtin "isinstance") [.d .none, .raw (.ty "bool")] M Q := wc_isi (by with_unfolding_all rfl) q
theorem wi_bool_bool (q : Q (.d (.bool true)) M) : WC X (.builtin "isinstance") [.d (.bool b), .raw (.ty "bool")] M Q := wc_isi (by with_unfolding_all rfl) q
theorem wi_bool_int (q : Q (.d (.bool false)) M) : WC X (.builtin "isinstance") [.d (.int i), .raw (.ty "bool")] M Q := wc_isi (by with_unfolding_all rfl) q
theorem wi_bool_str (q : Q (.d (.bool false)) M) : WC X (.builtin "isinstance") [.d (.str x), .raw (.ty "bool")] M Q := wc_isi (by with_unfolding_all rfl) q
theorem wi_bool_list (q : Q (.d (.bool false)) M) : WC X (.builtin "isinstance") [.d (.list ds), .raw (.ty "bool")] M Q := wc_isi (by with_unfolding_all rfl) q
theorem wi_bool_tuple (q : Q (.d (.bool false)) M) : WC X (.builtin "isinstance") [.d (.tuple ds), .raw (.ty "bool")] M Q := wc_isi (by with_unfolding_all rfl) q
theorem wi_tuple_none (q : Q (.d (.bool false)) M) : WC X (.builtin "isinstance") [.d .none, .raw (.ty "tuple")] M Q := wc_isi (by with_unfolding_all rfl) q
theorem wi_tuple_bool (q : Q (.d (.bool false)) M) : WC X (.builtin "isinstance") [.d (.bool b), .raw (.ty "tuple")] M Q := wc_isi (by with_unfolding_all rfl) q
theorem wi_tuple_int (q : Q (.d (.bool false)) M) : WC X (.builtin "isinstance") [.d (.int i), .raw (.ty "tuple")] M Q := wc_isi (by with_unfolding_all rfl) q
theorem wi_tuple_str (q : Q (.d (.bool false)) M) : WC X (.builtin "isinstance") [.d (.str x), .raw (.ty "tuple")] M Q := wc_isi (by with_unfolding_all rfl) q
theorem wi_tuple_list (q : Q (.d (.bool false)) M) : WC X (.builtin "isinstance") [.d (.list ds), .raw (.ty "tuple")] M Q := wc_isi (by with_unfolding_all rfl) q
theorem wi_tuple_tuple (q : Q (.d (.bool true)) M) : WC X (.builtin "isinstance") [.d (.tuple ds), .raw (.ty "tuple")] M Q := wc_isi (by with_unfolding_all rfl) q
theorem wi_list_none (q : Q (.d (.bool false)) M) : WC X (.builtin "isinstance") [.d .none, .raw (.ty "list")] M Q := wc_isi (by with_unfolding_all rfl) q
theorem wi_list_bool (q : Q (.d (.bool false)) M) : WC X (.builtin "isinstance") [.d (.bool b), .raw (.ty "list")] M Q := wc_isi (by with_unfolding_all rfl) q
theorem wi_list_int (q : Q (.d (.bool false)) M) : WC X (.builtin "isinstance") [.d (.int i), .raw (.ty "list")] M Q := wc_isi (by with_unfolding_all rfl) q
theorem wi_list_str (q : Q (.d (.bool false)) M) : WC X (.builtin "isinstance") [.d (.str x), .raw (.ty "list")] M Q := wc_isi (by with_unfolding_all rfl) q
theorem wi_list_list (q : Q (.d (.bool true)) M) : WC X (.builtin "isinstance") [.d (.list ds), .raw (.ty "list")] M Q := wc_isi (by with_unfolding_all rfl) q
theorem wi_list_tuple (q : Q (.d (.bool false)) M) : WC X (.builtin "isinstance") [.d (.tuple ds), .raw (.ty "list")] M Q := wc_isi (by with_unfolding_all rfl) q
theorem wi_str_none (q : Q (.d (.bool false)) M) : WC X (.builtin "isinstance") [.d .none, .raw (.ty "str")] M Q := wc_isi (by with_unfolding_all rfl) q
theorem wi_str_bool (q : Q (.d (.bool false)) M) : WC X (.builtin "isinstance") [.d (.bool b), .raw (.ty "str")] M Q := wc_isi (by with_unfolding_all rfl) q
theorem wi_str_int (q : Q (.d (.bool false)) M) : WC X (.builtin "isinstance") [.d (.int i), .raw (.ty "str")] M Q := wc_isi (by with_unfolding_all rfl) q
theorem wi_str_str (q : Q (.d (.bool true)) M) : WC X (.builtin "isinstance") [.d (.str x), .raw (.ty "str")] M Q := wc_isi (by with_unfolding_all rfl) q
theorem wi_str_list (q : Q (.d (.bool false)) M) : WC X (.builtin "isinstance") [.d (.list ds), .raw (.ty "str")] M Q := wc_isi (by with_unfolding_all rfl) q
theorem wi_str_tuple (q : Q (.d (.bool false)) M) : WC X (.builtin "isinstance") [.d (.tuple ds), .raw (.ty "str")] M Q := wc_isi (by with_unfolding_all rfl) q
theorem wi_dict_none (q : Q (.d (.bool false)) M) : WC X (.builtin "isinstance") [.d .none, .raw (.ty "dict")] M Q := wc_isi (by with_unfolding_all rfl) q
theorem wi_dict_bool (q : Q (.d (.bool false)) M) : WC X (.builtin "isinstance") [.d (.bool b), .raw (.ty "dict")] M Q := wc_isi (by with_unfolding_all rfl) q
theorem wi_dict_int (q : Q (.d (.bool false)) M) : WC X (.builtin "isinstance") [.d (.int i), .raw (.ty "dict")] M Q := wc_isi (by with_unfolding_all rfl) q
theorem wi_dict_str (q : Q (.d (.bool false)) M) : WC X (.builtin "isinstance") [.d (.str x), .raw (.ty "dict")] M Q := wc_isi (by with_unfolding_all rfl) q
theorem wi_dict_list (q : Q (.d (.bool false)) M) : WC X (.builtin "isinstance") [.d (.list ds), .raw (.ty "dict")] M Q := wc_isi (by with_unfolding_all rfl) q
theorem wi_dict_tuple (q : Q (.d (.bool false)) M) : WC X (.builtin "isinstance") [.d (.tuple ds), .raw (.ty "dict")] M Q := wc_isi (by with_unfolding_all rfl) q
end
section
variable {c : Cf} {lv : Nat} {N : List Str} {sc : Scope} {fb : Str → Bool} {X : Cx} {ρ : Rho} {M : Mem} {Q : RK} {e a : Expr} {p pos : Pos}
theorem x_tyStr (h : CxOk c lv N sc fb X) (B : Blt c) (v : glC sc "str" = true) (q : Q (.raw (.ty "str")) M) : WE X (.Name "str" pos) ρ M Q := w_ty h B.str (by decide +kernel) v q
end
theorem Sz.lst2 {n1 n2 k : Nat} {d1 d2 : PyData} (h1 : Sz n1 k d1) (h2 : Sz n2 k d2) : Sz (n1 + n2 + 1) (k + 1) (.list [d1, d2]) := by
  obtain ⟨a1, b1, c1⟩ := h1
  obtain ⟨a2, b2, c2⟩ := h2
  refine ⟨by simp only [sm, smAll, a1, a2, Bool.and_self], by simp only [nd, ndAll]; omega, ?_⟩
  simp only [PyData.depth, PyData.depthAll]
  omega
theorem Sz.lst3 {n1 n2 n3 k : Nat} {d1 d2 d3 : PyData} (h1 : Sz n1 k d1) (h2 : Sz n2 k d2) (h3 : Sz n3 k d3) : Sz (n1 + n2 + n3 + 1) (k + 1) (.list [d1, d2, d3]) := by
  obtain ⟨a1, b1, c1⟩ := h1
  obtain ⟨a2, b2, c2⟩ := h2
  obtain ⟨a3, b3, c3⟩ := h3
  refine ⟨by simp only [sm, smAll, a1, a2, a3, Bool.and_self], by simp only [nd, ndAll]; omega, ?_⟩
  simp only [PyData.depth, PyData.depthAll]
  omega
theorem nd_mem : ∀ {xs : List PyData} {d : PyData}, d ∈ xs → nd d ≤ ndAll xs ∧ d.depth ≤ PyData.depthAll xs
  | x :: xs, d, h => by
    simp only [ndAll, PyData.depthAll]
    rcases List.mem_cons.mp h with rfl | h
    · omega
    · have := nd_mem h
      omega
theorem sm_mem : ∀ {xs : List PyData} {d : PyData}, smAll xs = true → d ∈ xs → sm d = true
  | x :: xs, d, s, h => by
    simp only [smAll, Bool.and_eq_true] at s
    rcases List.mem_cons.mp h with rfl | h
    · exact s.1
    · exact sm_mem s.2 h
theorem nd_len : ∀ (xs : List PyData), xs.length ≤ ndAll xs
  | [] => Nat.le_refl _
  | x :: xs => by
    have := nd_len xs
    have hn : 1 ≤ nd x := by cases x <;> simp only [nd] <;> omega
    simp only [ndAll, List.length_cons]
    omega
end G
namespace G
open PySem PySem.Spec L2

/-! ### lists of draws -/
theorem Src.mset {M : Mem} {p q b : Addr} {cl : Cell} (h : Src M p q) (hp : b ≠ p) (hq : b ≠ q) : Src (mset M b cl) p q := by
  obtain ⟨ne, l, m, t, ns, h1, h2⟩ := h
  exact ⟨ne, l, m, t, ns, by rw [mset_ne (Ne.symm hp)]; exact h1, by rw [mset_ne (Ne.symm hq)]; exact h2⟩
theorem Src.mdel {M : Mem} {p q b : Addr} (h : Src M p q) (hp : b ≠ p) (hq : b ≠ q) : Src (mdel M b) p q := by
  obtain ⟨ne, l, m, t, ns, h1, h2⟩ := h
  exact ⟨ne, l, m, t, ns, by rw [mdel_ne (Ne.symm hp)]; exact h1, by rw [mdel_ne (Ne.symm hq)]; exact h2⟩
theorem Src.apart {M : Mem} {p q b : Addr} (h : Src M p q) (hb : M b = none) : b ≠ p ∧ b ≠ q := by
  obtain ⟨ne, l, m, t, ns, h1, h2⟩ := h
  exact ⟨fun e => (by rw [e, h1] at hb; cases hb), fun e => (by rw [e, h2] at hb; cases hb)⟩
section
variable {c : Cf} {lv : Nat} {N : List Str} {sc : Scope} {fb : Str → Bool} {X : Cx} {ρ : Rho} {M : Mem} {Q : RK} {tg it elt : Expr} {scope : Scope} {own : List (Str × Nat)}
theorem lc_D {p q : Addr} (h : CxOk c lv N sc fb X) (hok : blkC N sc scope own = true) (P : PyData → Prop)
    (hq : WIt X tg it ρ M fun ds M1 => ds.length ≤ 1000 ∧ Src M1 p q ∧ Rest p q M M1 ∧
      (∀ d, d ∈ ds → ∀ M', Src M' p q → Rest p q M1 M' ∨ True → ∀ Y, CxOk c lv N (relS scope sc) (blkF scope) Y → WGv Y tg (.d d) (own.map (·.2)) (wipeR ρ (own.map (·.2))) fun ρ2 => ∀ Y, CxOk c lv N (relS scope sc) (blkF scope) Y →
        WE Y elt ρ2 M' fun r M3 => ∃ x, r = .d x ∧ P x ∧ Src M3 p q ∧ Rest p q M' M3) ∧
      ∀ xs M', xs.length = ds.length → (∀ x ∈ xs, P x) → Src M' p q → Rest p q M M' → Q (.d (.list xs)) M') : LcR X elt tg it [] scope own ρ M Q := by
  refine lc_I h hok (by decide) ?_
  refine fun σ H B w => (hq σ H B w).imp fun J H1 ⟨B1, ds, M1, e1, w1, wk, hz, hS, hR, hstep, hQ⟩ => ⟨B1, ds, M1, e1, w1, wk, fun b hb => ?_⟩
  obtain ⟨b1, b2⟩ := hS.apart hb
  refine ⟨fun i acc M' => Src M' p q ∧ M' b = some (.lst (acc.map R.d)) ∧ acc.length = i ∧ (∀ x ∈ acc, P x) ∧ ∀ a, a ≠ p → a ≠ q → a ≠ b → M' a = M1 a, ⟨hS.mset b1 b2, mset_same, rfl, fun x hx => (by cases hx), fun a _ _ z => mset_ne z⟩, fun acc M' z => z.2.1, small_line (by omega),
    fun i d acc M' hi ⟨i1, i2, i3, i4, i5⟩ Y hY => ?_, fun acc M' ⟨i1, i2, i3, i4, i5⟩ => ?_⟩
  · have st := hstep d (List.mem_of_getElem? hi) M' i1 (.inr trivial) Y hY
    refine fun σ H B M2 v w2 rr => (st σ H B M2 v w2 rr).imp fun σ3 H3 ⟨eh, oa, ρ3, s3, ht⟩ => ⟨eh, oa, ρ3, s3, fun Y2 hY2 => ?_⟩
    refine st_ts0 ?_
    rw [if_pos rfl]
    intro Y3 hY3
    refine (ht Y3 hY3).imp fun r M3 ⟨x, er, hx, s3, r3⟩ => ?_
    have hb3 : M3 b = some (.lst (acc.map R.d)) := (r3 b b1 b2).trans i2
    refine ⟨x, acc, er, hb3, by omega, s3.mset b1 b2, mset_same, by rw [List.length_append, i3]; rfl, fun y hy => ?_, fun a z1 z2 z3 => ?_⟩
    · rcases List.mem_append.mp hy with hy | hy
      · exact i4 y hy
      · rw [List.mem_singleton.mp hy]; exact hx
    · rw [mset_ne z3, r3 a z1 z2]; exact i5 a z1 z2 z3
  · refine hQ acc _ i3 i4 (i1.mdel b1 b2) fun a z1 z2 => ?_
    by_cases z3 : a = b
    · subst z3
      unfold mdel
      rw [if_pos rfl, ← hR a z1 z2, hb]
    · rw [mdel_ne z3, i5 a z1 z2 z3]; exact hR a z1 z2
end
end G
namespace G
open PySem PySem.Spec L2
theorem swapped2 {x y : Str} {px py pt pt2 : Pos} {kt k2 : Nat} {a b : Expr} {env : Env} (hk : env.scope.kind = .function) (hx : env.scope.names.lookup x = some .local) (hy : env.scope.names.lookup y = some .local) (hne : (x == y) = false) (hl : (py.line == px.line) = true)
    (hs : ([a, b].any fun | .Starred .. => true | _ => false) = false) (hf : [a, b].all (foldedForSure 8) = false) (hc : [a, b].all (constantsAlone 8) = false) : swappedStores [.Tuple [.Name x px, .Name y py] kt pt] (.Tuple [a, b] k2 pt2) env = pure (some [x, y]) := by
  have kx : env.kindOf x = some .local := hx
  have ky : env.kindOf y = some .local := hy
  have hb : env.blockKind = .function := by unfold Env.blockKind; rw [hk]; rfl
  unfold swappedStores
  have h1 : (!(([Expr.Name x px, Expr.Name y py].length == 2 || [Expr.Name x px, Expr.Name y py].length == 3)) || [a, b].length != [Expr.Name x px, Expr.Name y py].length || env.blockKind != .function) = false := by rw [hb]; rfl
  have h2 : ([Expr.Name x px, Expr.Name y py].filterMap fun
    | .Name id pos => if env.kindOf id == some .local && pos.line == (([Expr.Name x px, Expr.Name y py].head?.map (·.pos.line)).getD 0) then some id else none
    | _ => none) = [x, y] := by
    show List.filterMap _ [Expr.Name x px, Expr.Name y py] = [x, y]
    have l1 : (px.line == px.line) = true := by simp
    simp only [List.filterMap_cons, List.filterMap_nil, List.head?_cons, Option.map_some, Option.getD_some, Expr.pos, kx, ky, hl, l1, Bool.and_self, beq_self_eq_true, if_true]
  have h3 : ([x, y].length != [Expr.Name x px, Expr.Name y py].length || [x, y].eraseDups.length != [x, y].length) = false := by
    have : (y == x) = false := by
      rw [Bool.eq_false_iff] at hne ⊢
      exact fun z => hne (by rw [beq_iff_eq] at z ⊢; exact z.symm)
    simp [List.eraseDups_cons, this, hne]
  simp only [h1, Bool.false_eq_true, if_false]
  refine (if_neg (fun z => by
    have z' : ([a, b].any fun | .Starred .. => true | _ => false) = true := z
    rw [hs] at z'
    cases z')).trans ?_
  have l1 : (px.line == px.line) = true := by simp
  simp only [List.filterMap_cons, List.filterMap_nil, List.head?_cons, Option.map_some, Option.getD_some, Expr.pos, kx, ky, hl, l1, Bool.and_self, beq_self_eq_true, if_true, h3, hf, hc, Bool.false_eq_true, if_false]

theorem sw_false {elt : Expr} {gs : List Comprehension} {scope : Scope} {pos py : Pos} {y : Str} {l : Nat} {env : Env} (hy : env.scope.names.lookup y = some .cell) : swapsWith (.ListComp elt gs scope pos) (some (.Name y py)) l env = pure false := by
  have ky : env.kindOf y = some .cell := hy
  unfold swapsWith
  have : (some NameKind.cell == some NameKind.local) = false := by decide
  simp only [ky, this, Bool.and_false, Bool.false_and]
section
variable {c : Cf} {lv : Nat} {N : List Str} {sc : Scope} {fb : Str → Bool} {X : Cx} {ρ : Rho} {M : Mem} {Q : RK} {e a b : Expr} {pos p px py pz pt : Pos} {n x y z : Str} {tg it elt : Expr}
theorem s_par2 {nx : Rho → Mem → Prop} {rt : RK} {bk ct : Rho → Mem → Prop} {i j : Nat} {kt k2 : Nat} {pt2 : Pos} {l : List (Option R)} {fl : Hp} (h : CxOk c lv N sc fb X) (hi : VarI N x i) (hj : VarI N y j) (hij : i ≠ j) (hx : sc.names.lookup x = some .local) (hy : sc.names.lookup y = some .local)
    (q : WE X a ⟨l, fl⟩ M fun r1 M1 => WE X b ⟨l, fl⟩ M1 fun r2 M2 => nx ⟨(l.set i (some r1)).set j (some r2), fl⟩ M2) (hne : (x == y) = false := by decide +kernel) (hl : (py.line == px.line) = true := by decide)
    (hs : ([a, b].any fun | .Starred .. => true | _ => false) = false := by decide) (hf : [a, b].all (foldedForSure 8) = false := by decide) (hc : [a, b].all (constantsAlone 8) = false := by decide +kernel) (pa : Plain a := by with_unfolding_all (intro _ _; rfl)) (pb : Plain b := by with_unfolding_all (intro _ _; rfl))
    (hss : swapsWithSole [.Tuple [.Name x px, .Name y py] kt pt] (.Tuple [a, b] k2 pt2) pos.line X.env = pure false := by with_unfolding_all rfl) :
    WS X (.Assign [.Tuple [.Name x px, .Name y py] kt pt] (.Tuple [a, b] k2 pt2) pos) ⟨l, fl⟩ M ⟨nx, rt, bk, ct⟩ := fun σ H B w pins s I => by
  have hx' : X.env.scope.names.lookup x = some .local := by rw [h.hsc]; exact hx
  have hy' : X.env.scope.names.lookup y = some .local := by rw [h.hsc]; exact hy
  exact s_par h hi hj hij hx hy q pa pb (swapped2 I.ok.kind hx' hy' hne hl hs hf hc) hss σ H B w pins s I
theorem s_setLcC {ifs : List Expr} {scope : Scope} {own : List (Str × Nat)} {i : Nat} {spos : Pos} {l : List (Option R)} {fl : Hp} {nx : Rho → Mem → Prop} {rt : RK} {bk ct : Rho → Mem → Prop} (h : CxOk c lv N sc fb X) (hi : VarI N n i) (hl : sc.names.lookup n = some .cell) (v : stoC sc fb n = true)
    (hok : blkC N sc scope own = true) (h2 : ifs.length ≤ 1) (q : LcR X elt tg it ifs scope own ⟨l, fl⟩ M fun r M1 => nx ⟨l.set i (some r), fl⟩ M1) (hs : ∀ x, foldedSetIterable it X.env x = pure x := by intro _; with_unfolding_all rfl) :
    WS X (.Assign [.Name n py] (.ListComp elt [⟨tg, it, ifs, 0⟩] scope pos) spos) ⟨l, fl⟩ M ⟨nx, rt, bk, ct⟩ :=
  s_set h hi v (we_lc h hok h2 q hs) (sw_false (by rw [h.hsc]; exact hl))
end
end G
namespace T12
open PySem PySem.Spec L2 G
local macro_rules | `(tactic| walk_at "g0") => `(tactic| first
  | with_reducible refine s_var (by assumption) (by assumption) (by decide +kernel) rfl ?_
  | with_reducible refine we_int ?_
  | with_reducible refine we_non ?_
  | with_reducible refine we_str ?_
  | with_reducible refine we_bl ?_
  | with_reducible refine st_isB ?_
  | with_reducible refine st_isI ?_
  | with_reducible refine st_isT ?_
  | with_reducible refine st_isL ?_
  | with_reducible refine iteT ?_
  | with_reducible refine iteF ?_
  | with_reducible refine st_nt ?_
  | with_reducible refine st_nf ?_
  | with_reducible refine s_one ?_
  | with_reducible refine s_cons ?_
  | with_reducible refine s_nil ?_
  | with_reducible refine s_ret ?_
  | with_reducible refine s_expr ?_
  | with_reducible refine s_set (by assumption) (by assumption) (by decide +kernel) ?_
  | with_reducible refine ws_if ?_
  | with_reducible refine wt_w ?_
  | with_reducible refine ww_or ?_
  | with_reducible refine ww_or1 ?_
  | with_reducible refine ww_and ?_
  | with_reducible refine ww_and1 ?_
  | with_reducible refine wt_not ?_
  | with_reducible refine wt_chain ?_
  | with_reducible refine wt_cmp ?_
  | with_reducible refine wt_val ?_
  | with_reducible refine we_op ?_
  | with_reducible refine we_not ?_
  | with_reducible refine we_un ?_
  | with_reducible refine x_getF (by assumption) ?_
  | with_reducible refine x_putF (by assumption) ?_
  | with_reducible refine x_ix ?_
  | with_reducible refine we_chain ?_
  | with_reducible refine we_cmp ?_
  | with_reducible refine we_and ?_
  | with_reducible refine we_or ?_
  | with_reducible refine we_one ?_
  | with_reducible refine we_if ?_
  | with_reducible refine we_tup ?_
  | with_reducible refine wa_nil ?_
  | with_reducible refine wa_cons ?_
  | with_reducible refine st_wD ?_
  | with_reducible refine st_wD0 ?_
  | with_reducible refine st_wp0 ?_
  | with_reducible refine st_wp ?_
  | with_reducible refine st_pair0 ?_
  | with_reducible refine st_pair ?_
  | with_reducible refine st_isD ?_
  | with_reducible refine st_isP ?_
  | with_reducible refine st_ts0 ?_
  | with_reducible refine st_ts1 ?_)
local macro_rules | `(tactic| walk_at "gv") => `(tactic| first
  | with_reducible refine wo_add ?_
  | with_reducible refine wo_sub ?_
  | with_reducible refine wo_mul (.inr (by decide)) ?_
  | with_reducible refine wo_mul (.inl (by omega)) ?_
  | with_reducible refine wo_pow (by decide) (by decide) (by decide) ?_
  | with_reducible refine wo_mod (by omega) ?_
  | with_reducible refine wo_fdiv (by omega) (by omega) ?_
  | with_reducible refine wo_le ?_
  | with_reducible refine wo_lt ?_
  | with_reducible refine wo_ge ?_
  | with_reducible refine wo_gt ?_
  | with_reducible refine wo_eqI ?_
  | with_reducible refine wo_neI ?_
  | with_reducible refine wo_eqS ?_
  | with_reducible refine wo_neS ?_
  | with_reducible refine wo_isN ?_
  | with_reducible refine wo_notN ?_
  | with_reducible refine wu_neg ?_
  | with_reducible refine wi_tupI (by omega) (by omega) ?_
  | with_reducible refine wi_lstI (by omega) (by omega) ?_
  | with_reducible refine wc_lenTI ?_
  | with_reducible refine wc_lenLI ?_
  | with_reducible refine wc_lenT ?_
  | with_reducible refine wc_lenL ?_
  | with_reducible refine wc_int ?_
  | with_reducible refine wc_abs ?_
  | with_reducible refine wc_tupleL ?_
  | with_reducible refine wc_tupleT ?_)
local macro_rules | `(tactic| walk_at "gb") => `(tactic| first
  | with_reducible refine x_listRg2 (by assumption) (by assumption) (by decide +kernel) (by decide +kernel) ?_
  | with_reducible refine x_len (by assumption) (by assumption) (by decide +kernel) ?_
  | with_reducible refine x_tuple (by assumption) (by assumption) (by decide +kernel) ?_
  | with_reducible refine x_list (by assumption) (by assumption) (by decide +kernel) ?_
  | with_reducible refine x_int (by assumption) (by assumption) (by decide +kernel) ?_
  | with_reducible refine x_isi (by assumption) (by assumption) (by decide +kernel) ?_
  | with_reducible refine x_tyInt (by assumption) (by assumption) (by decide +kernel) ?_
  | with_reducible refine x_tyStr (by assumption) (by assumption) (by decide +kernel) ?_
  | with_reducible refine x_tyList (by assumption) (by assumption) (by decide +kernel) ?_
  | with_reducible refine x_tyDict (by assumption) (by assumption) (by decide +kernel) ?_
  | with_reducible refine x_tyBool (by assumption) (by assumption) (by decide +kernel) ?_
  | with_reducible refine x_tyTuple (by assumption) (by assumption) (by decide +kernel) ?_
  | with_reducible refine x_range1 (by assumption) (by assumption) (by decide +kernel) ?_
  | with_reducible refine x_range2 (by assumption) (by assumption) (by decide +kernel) ?_
  | with_reducible refine x_abs (by assumption) (by assumption) (by decide +kernel) ?_
  | with_reducible refine x_repr (by assumption) (by assumption) (by decide +kernel) ?_
  | with_reducible refine x_sum (by assumption) (by assumption) (by decide +kernel) ?_
  | with_reducible refine x_any (by assumption) (by assumption) (by decide +kernel) ?_
  | with_reducible refine x_all (by assumption) (by assumption) (by decide +kernel) ?_
  | with_reducible refine x_sorted (by assumption) (by assumption) (by decide +kernel) ?_
  | with_reducible refine x_min1 (by assumption) (by assumption) (by decide +kernel) ?_
  | with_reducible refine x_max1 (by assumption) (by assumption) (by decide +kernel) ?_
  | with_reducible refine x_min2 (by assumption) (by assumption) (by decide +kernel) ?_
  | with_reducible refine x_max2 (by assumption) (by assumption) (by decide +kernel) ?_
  | with_reducible refine x_dict (by assumption) (by assumption) (by decide +kernel) ?_)
local macro_rules | `(tactic| walk_at "gc") => `(tactic| first
  | with_reducible refine x_call1 (by assumption) (by assumption) (by decide) (by decide +kernel) ?_
  | with_reducible refine x_call2 (by assumption) (by assumption) (by decide) (by decide +kernel) ?_
  | with_reducible refine x_call3 (by assumption) (by assumption) (by decide) (by decide +kernel) ?_)
local macro_rules | `(tactic| walk_at "gi") => `(tactic| first
  | with_reducible refine wi_int_none ?_
  | with_reducible refine wi_int_bool ?_
  | with_reducible refine wi_int_int ?_
  | with_reducible refine wi_int_str ?_
  | with_reducible refine wi_int_list ?_
  | with_reducible refine wi_int_tuple ?_
  | with_reducible refine wi_bool_none ?_
  | with_reducible refine wi_bool_bool ?_
  | with_reducible refine wi_bool_int ?_
  | with_reducible refine wi_bool_str ?_
  | with_reducible refine wi_bool_list ?_
  | with_reducible refine wi_bool_tuple ?_
  | with_reducible refine wi_tuple_none ?_
  | with_reducible refine wi_tuple_bool ?_
  | with_reducible refine wi_tuple_int ?_
  | with_reducible refine wi_tuple_str ?_
  | with_reducible refine wi_tuple_list ?_
  | with_reducible refine wi_tuple_tuple ?_
  | with_reducible refine wi_list_none ?_
  | with_reducible refine wi_list_bool ?_
  | with_reducible refine wi_list_int ?_
  | with_reducible refine wi_list_str ?_
  | with_reducible refine wi_list_list ?_
  | with_reducible refine wi_list_tuple ?_
  | with_reducible refine wi_str_none ?_
  | with_reducible refine wi_str_bool ?_
  | with_reducible refine wi_str_int ?_
  | with_reducible refine wi_str_str ?_
  | with_reducible refine wi_str_list ?_
  | with_reducible refine wi_str_tuple ?_
  | with_reducible refine wi_dict_none ?_
  | with_reducible refine wi_dict_bool ?_
  | with_reducible refine wi_dict_int ?_
  | with_reducible refine wi_dict_str ?_
  | with_reducible refine wi_dict_list ?_
  | with_reducible refine wi_dict_tuple ?_)
local macro_rules | `(tactic| walk_at "g") => `(tactic| repeat' (first | walk_at "g0" | walk_at "gv" | walk_at "gb" | walk_at "gc" | walk_at "gi"))
local macro_rules | `(tactic| walk_at "gs") => `(tactic| repeat' (first | walk_at "g0" | walk_at "gv" | walk_at "gb" | walk_at "gc" | walk_at "gi" | with_reducible refine st_if (fun _ => ?_) (fun _ => ?_) | with_reducible refine st_ifn (fun _ => ?_) (fun _ => ?_) | with_reducible refine st_ifb (fun _ => ?_) (fun _ => ?_) | with_reducible refine st_ifnb (fun _ => ?_) (fun _ => ?_)))
def topS (i : Nat) : Stmt := PySem.Challenge.pw_piledtables_k12_moves_of_three.main.body.getD i (.Pass ⟨0, 0, 0, 0⟩)

/-! ### _law_source -/
abbrev sSource : Stmt := topS 12
theorem scSource : FnScope ["script", "stirred", "cell", "cells"] ["script"] (defScope sSource) := ⟨rfl, rfl, rfl, by decide +kernel, rfl, by decide +kernel, by decide +kernel⟩
set_option maxHeartbeats 0 in
theorem ok_source {c : Cf} {f : Addr} {fd : FuncData} (B : Blt c) (F : Fun c.K "_law_source" "_law_source" sSource f fd) : FnG c 1 f fd ["script"] (spSource c.K) := by
  refine FnG.mk' F scSource (fun rs M Q E h => by obtain ⟨_, _, rfl, _⟩ := h; rfl) fun X hX hF rs M Q E fl h hT' => ?_
  obtain ⟨ns, hl, rfl, q⟩ := h
  have e0 : VarI ["script", "stirred", "cell", "cells"] "script" 0 := rfl
  have e1 : VarI ["script", "stirred", "cell", "cells"] "stirred" 1 := rfl
  have e2 : VarI ["script", "stirred", "cell", "cells"] "cell" 2 := rfl
  have e3 : VarI ["script", "stirred", "cell", "cells"] "cells" 3 := rfl
  show WSs X (defBody sSource) ⟨[some (.scr c.K ns), none, none, none], fl⟩ M _
  refine s_cons ?_
  walk_at "g"
  refine s_for hX hF (wit_scr hX ?_)
  walk_at "g"
  refine st_isScr ?_
  refine ⟨fun _ ρ' M' => ∃ m y, ρ' = ⟨[some (.scr c.K ns), some (.d (.int m)), y, none], fl⟩ ∧ M' = M, ⟨11, none, rfl, rfl⟩, ?_, ?_⟩
  · rintro i d ρ' M' hd ⟨m, y, rfl, rfl⟩
    rw [List.getElem?_map] at hd
    obtain ⟨n, -, rfl⟩ := Option.map_eq_some_iff.mp hd
    refine s_tname hX e2 (by decide +kernel) ?_
    walk_at "g"
    exact ⟨_, _, rfl, rfl⟩
  · rintro ρ' M' ⟨m, y, rfl, rfl⟩
    refine s_cons (s_setLc hX (own := [("cell", 2)]) e3 (by decide +kernel) (by decide +kernel) (by decide) (lc_Z hX (by decide +kernel) (by decide) (fun _ => true) (fun n => .int (if n < 0 then -n else n)) (wit_scr hX ?_)))
    walk_at "g"
    refine st_isScr ⟨ns, rfl, hl, fun n _ M2 _ Y hY => ?_, ?_⟩
    · dsimp only [wipeR, Rho.set, List.map, List.set]
      refine s_tnamev hY e2 (by decide +kernel) (by decide) fun Y hY => ?_
      walk_at "g"
      refine ⟨rfl, rfl, fun _ Y hY => ?_⟩
      walk_at "g"
      exact ⟨rfl, rfl⟩
    · rw [filter_true]
      walk_at "g"
      refine x_disp (by decide) (by decide) (by decide) fun p hp => ?_
      walk_at "g"
      refine we_revLR ?_
      walk_at "g"
      intro p2 hp2
      refine ⟨_, rfl, ?_⟩
      walk_at "g"
      refine ⟨_, rfl, ?_⟩
      walk_at "g"
      refine ⟨_, rfl, ?_⟩
      walk_at "g"
      refine ⟨_, rfl, ?_⟩
      walk_at "g"
      have ne : p ≠ p2 := fun e => by rw [← e, mset_same] at hp2; cases hp2
      refine ⟨by rw [mset_ne ne, mset_same], by simp, srcD_nd (q := p2), q p p2 _ ⟨ne, 1, m, 0, (ns.map fun n => if n < 0 then -n else n).reverse, mset_same, ?_⟩⟩
      rw [mset_ne (Ne.symm ne), mset_same]
      unfold intsR
      rw [List.map_reverse, List.map_reverse, List.map_map, List.map_map]
      rfl

/-! ### _law_pick -/
abbrev sPick : Stmt := topS 13
theorem scPick : FnScope ["source", "most", "cells", "others", "lap", "stirred"] ["source", "most"] (defScope sPick) := ⟨rfl, rfl, rfl, by decide +kernel, rfl, by decide +kernel, by decide +kernel⟩
set_option maxHeartbeats 0 in
theorem ok_pick {c : Cf} {f : Addr} {fd : FuncData} (B : Blt c) (F : Fun c.K "_law_pick" "_law_pick" sPick f fd) : FnG c 1 f fd ["source", "most"] spPick := by
  refine FnG.mk' F scPick (fun rs M Q E h => by obtain ⟨_, _, _, rfl, _⟩ := h; rfl) fun X hX hF rs M Q E fl h hT' => ?_
  obtain ⟨p, q, most, rfl, hm, hS, hQ⟩ := h
  have e0 : VarI ["source", "most", "cells", "others", "lap", "stirred"] "source" 0 := rfl
  have e1 : VarI ["source", "most", "cells", "others", "lap", "stirred"] "most" 1 := rfl
  have e2 : VarI ["source", "most", "cells", "others", "lap", "stirred"] "cells" 2 := rfl
  have e3 : VarI ["source", "most", "cells", "others", "lap", "stirred"] "others" 3 := rfl
  have e4 : VarI ["source", "most", "cells", "others", "lap", "stirred"] "lap" 4 := rfl
  have e5 : VarI ["source", "most", "cells", "others", "lap", "stirred"] "stirred" 5 := rfl
  show WSs X (defBody sPick) ⟨[some (.raw (.ref p)), some (.d (.int most)), none, none, none, none], fl⟩ M _
  refine s_cons ?_
  have hS0 := hS
  obtain ⟨ne, l, m, t, ns, h1, h2⟩ := hS
  walk_at "gs"
  · exact hQ 0 M hS0 (Rest.refl M) (by omega) (.inr rfl)
  · refine ⟨_, _, h1, src_cells, ?_⟩
    refine s_cons (s_while hF (fun n ρ' M' => ρ' = ⟨[some (.raw (.ref p)), some (.d (.int most)), some (.raw (.ref q)), none, none, none], fl⟩ ∧ ∃ l m t ns, ns.length = n ∧ Rest p q M M' ∧ M' p = some (.dK (srcD q l m t)) ∧ M' q = some (.lst (intsR ns))) ns.length
      ⟨rfl, l, m, t, ns, rfl, Rest.refl M, h1, h2⟩ ?_)
    rintro n ρ' M' ⟨rfl, l, m, t, ns, rfl, hR, h1, h2⟩
    walk_at "g"
    refine ⟨_, _, h1, src_left, ?_⟩
    walk_at "gs"
    · refine wc_lenR h2 ?_
      walk_at "gs"
      · rename_i _ hpos
        rw [intsR_len] at hpos
        have hpos : 0 < ns.length := by omega
        obtain ⟨j, hj⟩ := intsR_last hpos
        refine x_pop ?_
        walk_at "g"
        refine ⟨_, _, h2, hj, ?_⟩
        walk_at "g"
        have h1' : mset M' q (.lst (intsR ns).dropLast) p = some (.dK (srcD q l m t)) := by rw [mset_ne ne]; exact h1
        refine ⟨_, h1', srcD_nd, by simp [srcD], ns.length - 1, by omega, rfl, j, m, t, ns.dropLast, by rw [List.length_dropLast], Rest.setp (Rest.setq hR), ?_, ?_⟩
        · rw [put_left, mset_same]
        · rw [mset_ne (Ne.symm ne), mset_same, intsR_drop]
      · refine ⟨_, _, h1, src_left, ?_⟩
        walk_at "gs"
        · refine ⟨_, h1, srcD_nd, by simp [srcD], ?_⟩
          walk_at "g"
          exact hQ _ _ ⟨ne, _, m, t, ns, by rw [mset_same, put_left], by rw [mset_ne (Ne.symm ne)]; exact h2⟩ (Rest.setp hR) (Int.emod_nonneg _ (by omega)) (.inl (Int.emod_lt_of_pos _ (by omega)))
        · refine ⟨_, _, h1, src_turn, ?_⟩
          walk_at "g"
          refine ⟨_, h1, srcD_nd, by simp [srcD], ?_⟩
          rw [put_turn]
          walk_at "g"
          refine ⟨_, _, mset_same, src_turn, ?_⟩
          walk_at "g"
          refine ⟨_, _, mset_same, src_mixed, ?_⟩
          walk_at "g"
          exact hQ _ _ ⟨ne, _, m, _, ns, mset_same, by rw [mset_ne (Ne.symm ne)]; exact h2⟩ (Rest.setp hR) (Int.emod_nonneg _ (by omega)) (.inl (Int.emod_lt_of_pos _ (by omega)))
    · refine ⟨_, _, h1, src_left, ?_⟩
      walk_at "gs"
      · refine ⟨_, h1, srcD_nd, by simp [srcD], ?_⟩
        walk_at "g"
        exact hQ _ _ ⟨ne, _, m, t, ns, by rw [mset_same, put_left], by rw [mset_ne (Ne.symm ne)]; exact h2⟩ (Rest.setp hR) (Int.emod_nonneg _ (by omega)) (.inl (Int.emod_lt_of_pos _ (by omega)))
      · refine ⟨_, _, h1, src_turn, ?_⟩
        walk_at "g"
        refine ⟨_, h1, srcD_nd, by simp [srcD], ?_⟩
        rw [put_turn]
        walk_at "g"
        refine ⟨_, _, mset_same, src_turn, ?_⟩
        walk_at "g"
        refine ⟨_, _, mset_same, src_mixed, ?_⟩
        walk_at "g"
        exact hQ _ _ ⟨ne, _, m, _, ns, mset_same, by rw [mset_ne (Ne.symm ne)]; exact h2⟩ (Rest.setp hR) (Int.emod_nonneg _ (by omega)) (.inl (Int.emod_lt_of_pos _ (by omega)))

/-! ### _law_of -/
abbrev sOf : Stmt := topS 14
theorem scOf : FnScope ["source", "some"] ["source", "some"] (defScope sOf) := ⟨rfl, rfl, rfl, by decide +kernel, rfl, by decide +kernel, by decide +kernel⟩
set_option maxHeartbeats 0 in
theorem ok_of {c : Cf} {f : Addr} {fd : FuncData} (B : Blt c) (hP : FnH c "_law_pick" 1 spPick) (F : Fun c.K "_law_of" "_law_of" sOf f fd) : FnG c 2 f fd ["source", "some"] spOf := by
  refine FnG.mk' F scOf (fun rs M Q E h => by obtain ⟨_, _, _, rfl, _⟩ := h; rfl) fun X hX hF rs M Q E fl h hT' => ?_
  obtain ⟨p, q, ds, rfl, h0, hm, hS, hQ⟩ := h
  have e0 : VarI ["source", "some"] "source" 0 := rfl
  have e1 : VarI ["source", "some"] "some" 1 := rfl
  show WSs X (defBody sOf) ⟨[some (.raw (.ref p)), some (.d (.list ds))], fl⟩ M _
  refine s_one ?_
  walk_at "g"
  refine ⟨p, q, _, rfl, by omega, hS, fun i M' hS' hR hi hlt => ?_⟩
  have hk : i.toNat < ds.length := by omega
  have e : i = ((i.toNat : Nat) : Int) := by omega
  rw [e]
  exact wi_lst (d := ds[i.toNat]) (atI_nat (List.getElem?_eq_getElem hk)) (hQ _ M' (List.getElem_mem hk) hS' hR)

/-! ### copied -/
abbrev sCopied : Stmt := topS 1
theorem scCopied : FnScope ["value", "one", "key"] ["value"] (defScope sCopied) := ⟨rfl, rfl, rfl, by decide +kernel, rfl, by decide +kernel, by decide +kernel⟩
def Cop (n : Nat) (d : PyData) : Prop := sm d = true ∧ nd d ≤ 7000 ∧ d.depth ≤ n
theorem map_id' {α : Type} (l : List α) : l.map (fun x => x) = l := by
  induction l with
  | nil => rfl
  | cons a l ih => rw [List.map_cons, ih]
set_option maxHeartbeats 0 in
theorem ok_copied {c : Cf} {f : Addr} {fd : FuncData} (B : Blt c) (hm : c.mg "copied" = some (.ref f)) (hk : PySem.W.keepIn c.K (.ref f) = true) (hb : Binds c.K fd ["value"] []) (F : Fun c.K "copied" "copied" sCopied f fd) :
    ∀ n, FnG c (n + 1) f fd ["value"] (spCop (Cop n)) := by
  intro n
  induction n with
  | zero =>
    refine FnG.mk' F scCopied (fun rs M Q E h => by obtain ⟨_, rfl, _⟩ := h; rfl) fun X hX hF rs M Q E fl h hT' => ?_
    obtain ⟨d, rfl, ⟨h1, h2, h3⟩, q⟩ := h
    have e0 : VarI ["value", "one", "key"] "value" 0 := rfl
    show WSs X (defBody sCopied) ⟨[some (.d d), none, none], fl⟩ M _
    refine s_cons ?_
    cases d with
    | none => walk_at "g"; exact q
    | bool b => walk_at "g"; exact q
    | int i => walk_at "g"; exact q
    | str x => walk_at "g"; exact q
    | list ds => simp only [PyData.depth] at h3; omega
    | tuple ds => simp only [PyData.depth] at h3; omega
    | dict ds => simp [sm] at h1
  | succ n ih =>
    have G : FnH c "copied" (n + 1) (spCop (Cop n)) := ⟨f, fd, _, ih, hm, hk, hb⟩
    refine FnG.mk' F scCopied (fun rs M Q E h => by obtain ⟨_, rfl, _⟩ := h; rfl) fun X hX hF rs M Q E fl h hT' => ?_
    obtain ⟨d, rfl, ⟨h1, h2, h3⟩, q⟩ := h
    have e0 : VarI ["value", "one", "key"] "value" 0 := rfl
    have e1 : VarI ["value", "one", "key"] "one" 1 := rfl
    show WSs X (defBody sCopied) ⟨[some (.d d), none, none], fl⟩ M _
    refine s_cons ?_
    cases d with
    | none => walk_at "g"; exact q
    | bool b => walk_at "g"; exact q
    | int i => walk_at "g"; exact q
    | str x => walk_at "g"; exact q
    | list ds =>
      simp only [PyData.depth] at h3
      simp only [sm] at h1
      simp only [nd] at h2
      walk_at "g"
      refine we_lc (own := [("one", 1)]) hX (by decide +kernel) (by decide) (lc_P (α := PyData) hX (by decide +kernel) (by decide) (wit_lst ?_))
      walk_at "g"
      refine ⟨ds, fun x => x, fun _ => true, fun x => x, (map_id' ds).symm, small_line (by have := nd_len ds; omega), fun x hx M2 _ Y hY => ?_, ?_⟩
      · dsimp only [wipeR, Rho.set, List.map, List.set]
        refine s_tnamev hY e1 (by decide +kernel) (by decide) fun Y hY => ?_
        walk_at "g"
        refine ⟨rfl, rfl, fun _ Y hY => x_call1 hY G (Nat.le_refl _) (by decide +kernel) ?_⟩
        walk_at "g"
        have := nd_mem hx
        exact ⟨x, rfl, ⟨sm_mem h1 hx, by omega, by omega⟩, rfl, rfl⟩
      · rw [filter_true, map_id']
        exact q
    | tuple ds =>
      simp only [PyData.depth] at h3
      simp only [sm] at h1
      simp only [nd] at h2
      walk_at "g"
      refine we_lc (own := [("one", 1)]) hX (by decide +kernel) (by decide) (lc_P (α := PyData) hX (by decide +kernel) (by decide) (wit_tup ?_))
      walk_at "g"
      refine ⟨ds, fun x => x, fun _ => true, fun x => x, (map_id' ds).symm, small_line (by have := nd_len ds; omega), fun x hx M2 _ Y hY => ?_, ?_⟩
      · dsimp only [wipeR, Rho.set, List.map, List.set]
        refine s_tnamev hY e1 (by decide +kernel) (by decide) fun Y hY => ?_
        walk_at "g"
        refine ⟨rfl, rfl, fun _ Y hY => x_call1 hY G (Nat.le_refl _) (by decide +kernel) ?_⟩
        walk_at "g"
        have := nd_mem hx
        exact ⟨x, rfl, ⟨sm_mem h1 hx, by omega, by omega⟩, rfl, rfl⟩
      · rw [filter_true, map_id']
        walk_at "g"
        exact q
    | dict ds => simp [sm] at h1

/-! ### the mathematics -/
def isMv (a b c : Int) : Prop := ((a ≤ c ∧ c < b) ∨ (b ≤ c ∧ c < a)) ∨ ((b < a ∧ a ≤ c) ∨ (c < a ∧ a ≤ b))
instance (a b c : Int) : Decidable (isMv a b c) := by unfold isMv; infer_instance
def thr (a b c : Int) : List Int := if (a ≤ c ∧ c < b) ∨ (b ≤ c ∧ c < a) then [b, a, c] else [a, c, b]
def three (a b c : Int) : PyData := if isMv a b c then tupI (thr a b c) else .none
theorem three1 {a b c : Int} (h : (a ≤ c ∧ c < b) ∨ (b ≤ c ∧ c < a)) : three a b c = .tuple [.int b, .int a, .int c] := by
  unfold three thr
  rw [if_pos (.inl h), if_pos h]
  rfl
theorem three2 {a b c : Int} (h : ¬ ((a ≤ c ∧ c < b) ∨ (b ≤ c ∧ c < a))) (h2 : (b < a ∧ a ≤ c) ∨ (c < a ∧ a ≤ b)) : three a b c = .tuple [.int a, .int c, .int b] := by
  unfold three thr
  rw [if_pos (.inr h2), if_neg h]
  rfl
theorem three3 {a b c : Int} (h : ¬ ((a ≤ c ∧ c < b) ∨ (b ≤ c ∧ c < a))) (h2 : ¬ ((b < a ∧ a ≤ c) ∨ (c < a ∧ a ≤ b))) : three a b c = .none := by
  unfold three
  rw [if_neg (fun z => z.elim h h2)]
def mvAt (w : List Int) (k : Int) : Prop := isMv (gi w k) (gi w (k + 1)) (gi w (k + 2))
instance (w : List Int) (k : Int) : Decidable (mvAt w k) := by unfold mvAt; infer_instance
def plc (w : List Int) : List Int := (upFrom 0 ((w.length : Int) - 2).toNat).filter fun k => decide (mvAt w k)
def movI (w : List Int) (k : Int) : List Int := w.take k.toNat ++ thr (gi w k) (gi w (k + 1)) (gi w (k + 2)) ++ w.drop (k.toNat + 3)
theorem plc_mem {w : List Int} {k : Int} (h : k ∈ plc w) : 0 ≤ k ∧ k + 2 < w.length ∧ mvAt w k := by
  unfold plc at h
  obtain ⟨h1, h2⟩ := List.mem_filter.mp h
  have := upFrom_mem h1
  have := of_decide_eq_true h2
  refine ⟨by omega, by omega, this⟩
def isPl (w : List Int) : PyData → Bool
  | .int i => decide (i ∈ plc w)
  | _ => false

/-! ### three_behind -/
abbrev sThree : Stmt := topS 5
theorem scThree : FnScope ["a", "b", "c"] ["a", "b", "c"] (defScope sThree) := ⟨rfl, rfl, rfl, by decide +kernel, rfl, by decide +kernel, by decide +kernel⟩
def spThree : SpD := fun rs M Q _ => ∃ a b c : Int, rs = [.d (.int a), .d (.int b), .d (.int c)] ∧ Q (.d (three a b c)) M
set_option maxHeartbeats 0 in
theorem ok_three {c : Cf} {f : Addr} {fd : FuncData} {st : Stmt} {x : Str} (B : Blt c) (F : Fun c.K x x st f fd) (hst : st = topS 5 ∨ st = topS 16) : FnG c 1 f fd ["a", "b", "c"] spThree := by
  have sc : FnScope ["a", "b", "c"] ["a", "b", "c"] (defScope st) := by
    rcases hst with rfl | rfl <;> exact ⟨rfl, rfl, rfl, by decide +kernel, rfl, by decide +kernel, by decide +kernel⟩
  refine FnG.mk' F sc (fun rs M Q E h => by obtain ⟨a, b, c, rfl, _⟩ := h; rfl) fun X hX hF rs M Q E fl h hT => ?_
  obtain ⟨a, b, c', rfl, q⟩ := h
  have e0 : VarI ["a", "b", "c"] "a" 0 := rfl
  have e1 : VarI ["a", "b", "c"] "b" 1 := rfl
  have e2 : VarI ["a", "b", "c"] "c" 2 := rfl
  have L : 3 ≤ sizeLine := by rw [sizeLine_eq]; decide
  rcases hst with rfl | rfl
  · show WSs X (defBody (topS 5)) ⟨[some (.d (.int a)), some (.d (.int b)), some (.d (.int c'))], fl⟩ M _
    refine s_cons ?_
    walk_at "gs"
    all_goals first
      | exact ⟨L, by rw [three1 (by omega)] at q; exact q⟩
      | exact ⟨L, by rw [three2 (by omega) (by omega)] at q; exact q⟩
      | (rw [three3 (by omega) (by omega)] at q; exact q)
      | (exfalso; omega)
  · show WSs X (defBody (topS 16)) ⟨[some (.d (.int a)), some (.d (.int b)), some (.d (.int c'))], fl⟩ M _
    refine s_cons ?_
    walk_at "gs"
    all_goals first
      | exact ⟨L, by rw [three1 (by omega)] at q; exact q⟩
      | exact ⟨L, by rw [three2 (by omega) (by omega)] at q; exact q⟩
      | (rw [three3 (by omega) (by omega)] at q; exact q)
      | (exfalso; omega)

/-! ### the places -/
def spPlaces : SpD := fun rs M Q _ => ∃ w : List Int, w.length ≤ 900 ∧ rs = [.d (tupI w)] ∧ Q (.d (tupI (plc w))) M
def spPlacesL : SpD := fun rs M Q _ => ∃ w : List Int, w.length ≤ 900 ∧ rs = [.d (tupI w)] ∧ Q (.d (lstI (plc w))) M
theorem thr_none (a b c : Int) : (!isNon (.d (three a b c))) = decide (isMv a b c) := by
  unfold three
  by_cases h : isMv a b c
  · rw [if_pos h, decide_eq_true h]; rfl
  · rw [if_neg h, decide_eq_false h]; rfl
theorem scPlaces : FnScope ["word", "k"] ["word"] (defScope (topS 6)) := ⟨rfl, rfl, rfl, by decide +kernel, rfl, by decide +kernel, by decide +kernel⟩
set_option maxHeartbeats 0 in
theorem ok_places {c : Cf} {f : Addr} {fd : FuncData} (B : Blt c) (hT : FnH c "three_behind" 1 spThree) (F : Fun c.K "move_places" "move_places" (topS 6) f fd) : FnG c 2 f fd ["word"] spPlaces := by
  refine FnG.mk' F scPlaces (fun rs M Q E h => by obtain ⟨w, _, rfl, _⟩ := h; rfl) fun X hX hF rs M Q E fl h hT' => ?_
  obtain ⟨w, hl, rfl, q⟩ := h
  have e0 : VarI ["word", "k"] "word" 0 := rfl
  have e1 : VarI ["word", "k"] "k" 1 := rfl
  show WSs X (defBody (topS 6)) ⟨[some (.d (.tuple (w.map PyData.int))), none], fl⟩ M _
  refine s_one (s_ret ?_)
  walk_at "gb"
  refine we_lc (own := [("k", 1)]) hX (by decide +kernel) (by decide) (lc_Z hX (by decide +kernel) (by decide) (fun k => decide (mvAt w k)) (fun k => .int k) ?_)
  walk_at "g"
  refine ⟨by omega, by omega, upFrom 0 ((w.length : Int) - 2).toNat, rfl, by rw [upFrom_length]; omega, fun k hk M' _ Y hY => ?_, ?_⟩
  · have := upFrom_mem hk
    dsimp only [wipeR, Rho.set, List.map, List.set]
    refine s_tnamev hY e1 (by decide +kernel) (by decide) fun Y hY => ?_
    walk_at "g"
    refine ⟨_, _, _, rfl, ?_⟩
    walk_at "g"
    refine ⟨rfl, thr_none _ _ _, fun _ Y hY => ?_⟩
    walk_at "g"
    exact ⟨rfl, rfl⟩
  · walk_at "g"
    exact q
theorem scPlacesL : FnScope ["word", "k"] ["word"] (defScope (topS 17)) := ⟨rfl, rfl, rfl, by decide +kernel, rfl, by decide +kernel, by decide +kernel⟩
set_option maxHeartbeats 0 in
theorem ok_placesL {c : Cf} {f : Addr} {fd : FuncData} (B : Blt c) (hT : FnH c "_law_three" 1 spThree) (F : Fun c.K "_law_places" "_law_places" (topS 17) f fd) : FnG c 2 f fd ["word"] spPlacesL := by
  refine FnG.mk' F scPlacesL (fun rs M Q E h => by obtain ⟨w, _, rfl, _⟩ := h; rfl) fun X hX hF rs M Q E fl h hT' => ?_
  obtain ⟨w, hl, rfl, q⟩ := h
  have e0 : VarI ["word", "k"] "word" 0 := rfl
  have e1 : VarI ["word", "k"] "k" 1 := rfl
  show WSs X (defBody (topS 17)) ⟨[some (.d (.tuple (w.map PyData.int))), none], fl⟩ M _
  refine s_one (s_ret ?_)
  refine we_lc (own := [("k", 1)]) hX (by decide +kernel) (by decide) (lc_Z hX (by decide +kernel) (by decide) (fun k => decide (mvAt w k)) (fun k => .int k) ?_)
  walk_at "g"
  refine ⟨by omega, by omega, upFrom 0 ((w.length : Int) - 2).toNat, rfl, by rw [upFrom_length]; omega, fun k hk M' _ Y hY => ?_, ?_⟩
  · have := upFrom_mem hk
    dsimp only [wipeR, Rho.set, List.map, List.set]
    refine s_tnamev hY e1 (by decide +kernel) (by decide) fun Y hY => ?_
    walk_at "g"
    refine ⟨_, _, _, rfl, ?_⟩
    walk_at "g"
    refine ⟨rfl, thr_none _ _ _, fun _ Y hY => ?_⟩
    walk_at "g"
    exact ⟨rfl, rfl⟩
  · exact q

/-! ### is_move_place -/
def spIsPl : SpD := fun rs M Q _ => ∃ (w : List Int) (v : PyData), w.length ≤ 900 ∧ sm v = true ∧ rs = [.d (tupI w), .d v] ∧ Q (.d (.bool (isPl w v))) M
theorem scIsPl : FnScope ["word", "value"] ["word", "value"] (defScope (topS 7)) := ⟨rfl, rfl, rfl, by decide +kernel, rfl, by decide +kernel, by decide +kernel⟩
set_option maxHeartbeats 0 in
theorem ok_isPl {c : Cf} {f : Addr} {fd : FuncData} (B : Blt c) (hT : FnH c "move_places" 2 spPlaces) (F : Fun c.K "is_move_place" "is_move_place" (topS 7) f fd) : FnG c 3 f fd ["word", "value"] spIsPl := by
  refine FnG.mk' F scIsPl (fun rs M Q E h => by obtain ⟨w, _, _, _, rfl, _⟩ := h; rfl) fun X hX hF rs M Q E fl h hT' => ?_
  obtain ⟨w, v, hl, hv, rfl, q⟩ := h
  have e0 : VarI ["word", "value"] "word" 0 := rfl
  have e1 : VarI ["word", "value"] "value" 1 := rfl
  show WSs X (defBody (topS 7)) ⟨[some (.d (tupI w)), some (.d v)], fl⟩ M _
  refine s_one ?_
  cases v with
  | none => walk_at "g"; exact q
  | bool b => walk_at "g"; exact q
  | str x => walk_at "g"; exact q
  | list ds => walk_at "g"; exact q
  | tuple ds => walk_at "g"; exact q
  | dict ds => simp [sm] at hv
  | int i =>
    walk_at "g"
    refine ⟨w, hl, rfl, ?_⟩
    refine wo_inT ?_
    exact q
/-! ### behind_move -/
theorem mv_thr {w : List Int} {k : Int} (h : mvAt w k) : three (gi w k) (gi w (k + 1)) (gi w (k + 2)) = .tuple ((thr (gi w k) (gi w (k + 1)) (gi w (k + 2))).map PyData.int) := if_pos h
def spMoved : SpD := fun rs M Q _ => ∃ (w : List Int) (k : Int), w.length ≤ 900 ∧ 0 ≤ k ∧ k + 2 < w.length ∧ mvAt w k ∧ rs = [.d (tupI w), .d (.int k)] ∧ Q (.d (tupI (movI w k))) M
theorem cut_to {w : List Int} {k : Int} (h0 : 0 ≤ k) (h1 : k ≤ w.length) : cutD (w.map PyData.int) none (some k) = (w.take k.toNat).map PyData.int := by
  obtain ⟨n, rfl⟩ : ∃ n : Nat, k = n := ⟨k.toNat, by omega⟩
  unfold cutD
  rw [List.length_map, show HT.sIx w.length 0 none = 0 from rfl, show HT.sIx w.length w.length (some (n : Int)) = min n w.length from HT.sIx_nat w.length w.length n]
  rw [List.drop_zero, Nat.sub_zero, Int.toNat_natCast, ← List.map_take, Nat.min_eq_left (by omega)]
theorem cut_from {w : List Int} {k : Int} (h0 : 0 ≤ k) (h1 : k ≤ w.length) : cutD (w.map PyData.int) (some k) none = (w.drop k.toNat).map PyData.int := by
  obtain ⟨n, rfl⟩ : ∃ n : Nat, k = n := ⟨k.toNat, by omega⟩
  unfold cutD
  rw [List.length_map, show HT.sIx w.length w.length none = w.length from rfl, show HT.sIx w.length 0 (some (n : Int)) = min n w.length from HT.sIx_nat w.length 0 n]
  rw [Nat.min_eq_left (by omega), ← List.map_drop, Int.toNat_natCast]
  exact List.take_of_length_le (by simp)
theorem thr_len (a b c : Int) : (thr a b c).length = 3 := by unfold thr; split <;> rfl
theorem three_mv {a b c : Int} (h : isMv a b c) : three a b c = tupI (thr a b c) := if_pos h
theorem scMoved : FnScope ["word", "place", "late"] ["word", "place"] (defScope (topS 8)) := ⟨rfl, rfl, rfl, by decide +kernel, rfl, by decide +kernel, by decide +kernel⟩
set_option maxHeartbeats 0 in
theorem ok_moved {c : Cf} {f : Addr} {fd : FuncData} (B : Blt c) (hT : FnH c "three_behind" 1 spThree) (F : Fun c.K "behind_move" "behind_move" (topS 8) f fd) : FnG c 2 f fd ["word", "place"] spMoved := by
  refine FnG.mk' F scMoved (fun rs M Q E h => by obtain ⟨w, _, _, _, _, _, rfl, _⟩ := h; rfl) fun X hX hF rs M Q E fl h hT' => ?_
  obtain ⟨w, k, hl, h0, h1, hm, rfl, q⟩ := h
  have e0 : VarI ["word", "place", "late"] "word" 0 := rfl
  have e1 : VarI ["word", "place", "late"] "place" 1 := rfl
  have e2 : VarI ["word", "place", "late"] "late" 2 := rfl
  show WSs X (defBody (topS 8)) ⟨[some (.d (.tuple (w.map PyData.int))), some (.d (.int k)), none], fl⟩ M _
  refine s_cons ?_
  walk_at "g"
  refine ⟨_, _, _, rfl, ?_⟩
  rw [mv_thr hm]
  walk_at "g"
  refine we_slT ?_
  walk_at "g"
  refine wo_catT ?_ ?_
  · rw [cut_to h0 (by omega), List.length_map, List.length_map, thr_len, sizeLine_eq, List.length_take]
    omega
  refine we_slT ?_
  walk_at "g"
  rw [cut_to h0 (by omega), cut_from (by omega) (by omega)]
  refine wo_catT ?_ ?_
  · rw [sizeLine_eq]
    simp [thr_len]
    omega
  have e : movI w k = w.take k.toNat ++ thr (gi w k) (gi w (k + 1)) (gi w (k + 2)) ++ w.drop (k + 3).toNat := by
    unfold movI
    rw [show (k + 3).toNat = k.toNat + 3 by omega]
  rw [← List.map_append, ← List.map_append, ← e]
  exact q
theorem scMovedL : FnScope ["word", "k"] ["word", "k"] (defScope (topS 18)) := ⟨rfl, rfl, rfl, by decide +kernel, rfl, by decide +kernel, by decide +kernel⟩
set_option maxHeartbeats 0 in
theorem ok_movedL {c : Cf} {f : Addr} {fd : FuncData} (B : Blt c) (hT : FnH c "_law_three" 1 spThree) (F : Fun c.K "_law_moved" "_law_moved" (topS 18) f fd) : FnG c 2 f fd ["word", "k"] spMoved := by
  refine FnG.mk' F scMovedL (fun rs M Q E h => by obtain ⟨w, _, _, _, _, _, rfl, _⟩ := h; rfl) fun X hX hF rs M Q E fl h hT' => ?_
  obtain ⟨w, k, hl, h0, h1, hm, rfl, q⟩ := h
  have e0 : VarI ["word", "k"] "word" 0 := rfl
  have e1 : VarI ["word", "k"] "k" 1 := rfl
  show WSs X (defBody (topS 18)) ⟨[some (.d (.tuple (w.map PyData.int))), some (.d (.int k))], fl⟩ M _
  refine s_one ?_
  walk_at "g"
  refine we_slT ?_
  walk_at "g"
  refine ⟨_, _, _, rfl, ?_⟩
  rw [mv_thr hm]
  refine wo_catT ?_ ?_
  · rw [cut_to h0 (by omega), List.length_map, List.length_map, thr_len, sizeLine_eq, List.length_take]
    omega
  refine we_slT ?_
  walk_at "g"
  rw [cut_to h0 (by omega), cut_from (by omega) (by omega)]
  refine wo_catT ?_ ?_
  · rw [sizeLine_eq]
    simp [thr_len]
    omega
  have e : movI w k = w.take k.toNat ++ thr (gi w k) (gi w (k + 1)) (gi w (k + 2)) ++ w.drop (k + 3).toNat := by
    unfold movI
    rw [show (k + 3).toNat = k.toNat + 3 by omega]
  rw [← List.map_append, ← List.map_append, ← e]
  exact q

theorem we_drop {X : Cx} {e : Expr} {ρ : Rho} {M : Mem} {P Q : RK} (h : WE X e ρ M P) (k : ∀ r M2, P r M2 → ∃ M3, Sub M3 M2 ∧ Q r M3) : WE X e ρ M Q := fun σ H B w => (h σ H B w).imp fun v H' ⟨B', r, M', e', w', rr, z⟩ => by
  obtain ⟨M3, s3, z3⟩ := k r M' z
  exact ⟨B', r, M3, e', w'.sub s3, rr, z3⟩
theorem thr0 {X : Cx} {fl : Hp} : Thr X fl (fun _ _ _ => False) := Takes.imp takes0 fun _ _ _ _ ⟨_, _, _, _, z⟩ => z
def movD (w : List Int) : PyData → PyData
  | .int k => tupI (movI w k)
  | _ => .none
def told (w : List Int) (v : PyData) : PyData := if isPl w v = true then .list [.str "told", movD w v] else .list [.str "not", v, .bool true]
/-! ### made_at -/
def spMade (C : Addr) : SpD := fun rs M Q E => ∃ (w : List Int) (v : PyData), w.length ≤ 900 ∧ Cop 1 v ∧ rs = [.d (tupI w), .d v] ∧ (isPl w v = true → Q (.d (movD w v)) M) ∧ (isPl w v = false → ∀ dx, M dx = none → E (.ref C) (some dx) (mset M dx (.xo [("step", .d v)])))
theorem scMade : FnScope ["word", "place"] ["word", "place"] (defScope (topS 9)) := ⟨rfl, rfl, rfl, by decide +kernel, rfl, by decide +kernel, by decide +kernel⟩
theorem isPl_int {w : List Int} {v : PyData} (h : isPl w v = true) : ∃ k, v = .int k ∧ k ∈ plc w := by
  cases v <;> simp only [isPl] at h <;> first | (cases h; done) | skip
  exact ⟨_, rfl, of_decide_eq_true h⟩
set_option maxHeartbeats 0 in
theorem ok_made {c : Cf} {C f : Addr} {fd : FuncData} (B : Blt c) (hP : FnH c "is_move_place" 3 spIsPl) (hM : FnH c "behind_move" 2 spMoved) (K : XCls c "NotLet" 2 C "step" (Cop 1)) (F : Fun c.K "made_at" "made_at" (topS 9) f fd) : FnG c 5 f fd ["word", "place"] (spMade C) := by
  refine FnG.mk' F scMade (fun rs M Q E h => by obtain ⟨w, v, _, _, rfl, _⟩ := h; rfl) fun X hX hF rs M Q E fl h hT' => ?_
  obtain ⟨w, v, hl, hv, rfl, q1, q2⟩ := h
  have e0 : VarI ["word", "place"] "word" 0 := rfl
  have e1 : VarI ["word", "place"] "place" 1 := rfl
  show WSs X (defBody (topS 9)) ⟨[some (.d (tupI w)), some (.d v)], fl⟩ M _
  refine s_cons ?_
  walk_at "g"
  refine ⟨w, v, hl, hv.1, rfl, ?_⟩
  refine st_isB (st_ifnb (fun hp => ?_) fun hp => ?_)
  · refine s_one (ws_raise hX hT' (w_mk hX K (by decide) (by decide +kernel) ?_))
    walk_at "g"
    exact ⟨v, rfl, hv, fun dx hd => q2 hp dx hd⟩
  · obtain ⟨k, rfl, hk⟩ := isPl_int hp
    obtain ⟨h0, h1, h2⟩ := plc_mem hk
    walk_at "g"
    exact ⟨w, k, hl, h0, h1, h2, rfl, q1 hp⟩

/-! ### _law_told -/
def spTold : SpD := fun rs M Q _ => ∃ (w : List Int) (v : PyData), w.length ≤ 900 ∧ Cop 1 v ∧ rs = [.d (tupI w), .d v] ∧ Q (.d (told w v)) M
theorem scTold : FnScope ["word", "value", "e"] ["word", "value"] (defScope (topS 19)) := ⟨rfl, rfl, rfl, by decide +kernel, rfl, by decide +kernel, by decide +kernel⟩
set_option maxHeartbeats 0 in
theorem ok_told {c : Cf} {C T f : Addr} {fd : FuncData} (B : Blt c) (hM : FnH c "made_at" 5 (spMade C)) (gC : c.mg "NotLet" = some (.ref C)) (gT : c.mg "TableError" = some (.ref T)) (ex : PySem.W.exmOne c.K (.ref C) (.ref C) = some true) (kt : PySem.W.kitOne c.K (.ref C) (.ref T) = some true)
    (xf : XfC c.K C) (no : PySem.W.findIn c.K (.ref C) "step" = some none) (F : Fun c.K "_law_told" "_law_told" (topS 19) f fd) : FnG c 6 f fd ["word", "value"] spTold := by
  refine FnG.mk' F scTold (fun rs M Q E h => by obtain ⟨w, v, _, _, rfl, _⟩ := h; rfl) fun X hX hF rs M Q E fl h hT' => ?_
  obtain ⟨w, v, hl, hv, rfl, q⟩ := h
  have e0 : VarI ["word", "value", "e"] "word" 0 := rfl
  have e1 : VarI ["word", "value", "e"] "value" 1 := rfl
  have L : 3 ≤ sizeLine := by rw [sizeLine_eq]; decide
  show WSs X (defBody (topS 19)) ⟨[some (.d (tupI w)), some (.d v), none], fl⟩ M _
  refine s_one (ws_tryAs (c0 := .ref C) hX hF thr0 (by decide +kernel) (by decide +kernel) (.inl gC) fun X' fl' hX' hT2 => ?_)
  refine wss_one (ws_ret (we_lst (wa_cons (we_str (wa_cons (w_callX hX' hM (by decide) (by decide +kernel) hT2 (wa_cons ?_)) )))))
  have hX := hX'
  walk_at "g"
  refine ⟨w, v, hl, hv, rfl, fun hp => ?_, fun hp dx hd => ?_⟩
  · walk_at "g"
    refine ⟨small_line (by show 2 ≤ 1000000; decide), ?_⟩
    have : told w v = .list [.str "told", movD w v] := by unfold told; rw [if_pos hp]
    rw [this] at q
    exact q
  · refine ⟨true, ex, fun _ a ha Y S => ?_, fun z => by cases z⟩
    refine wss_one (ws_ret (we_drop (P := fun r M2 => r = .d (told w v) ∧ M2 = mset M dx (.xo [("step", .d v)])) ?_ fun r M2 z => ?_))
    · refine we_lst (wa_cons (we_str (wa_cons (su_fld S xf no (by decide +kernel) rfl mset_same rfl (wa_cons (su_isa (args := []) (t := .ref T) S (by decide +kernel) rfl B.isinstance (by decide +kernel) (by decide +kernel) (.inl gT) rfl (fun _ z => z) kt (wa_nil ?_)))))))
      walk_at "g"
      refine ⟨small_line (by show 3 ≤ 1000000; decide), ?_, rfl⟩
      unfold told
      rw [if_neg (by rw [hp]; exact Bool.false_ne_true)]
    · obtain ⟨rfl, rfl⟩ := z
      exact ⟨M, Sub.new hd, q⟩

/-! ### ways -/
def movW (w : List Int) : PyData → List Int
  | .int k => movI w k
  | _ => w
def led (w : List Int) : List PyData → Option (List Int)
  | [] => some w
  | v :: vs => if isPl w v = true then led (movW w v) vs else none
def ledD (w : List Int) : PyData → PyData
  | .tuple vs => (match led w vs with
    | some u => tupI u
    | none => .none)
  | _ => .none
theorem movI_len {w : List Int} {k : Int} (h0 : 0 ≤ k) (h1 : k + 2 < w.length) : (movI w k).length = w.length := by
  unfold movI
  rw [List.length_append, List.length_append, List.length_take, List.length_drop, thr_len]
  omega
theorem movW_len {w : List Int} {v : PyData} (h : isPl w v = true) : (movW w v).length = w.length := by
  obtain ⟨k, rfl, hk⟩ := isPl_int h
  obtain ⟨h0, h1, _⟩ := plc_mem hk
  exact movI_len h0 h1
def spLed : SpD := fun rs M Q _ => ∃ (w : List Int) (v : PyData), w.length ≤ 900 ∧ sm v = true ∧ rs = [.d (tupI w), .d v] ∧ Q (.d (ledD w v)) M
theorem scLed : FnScope ["word", "way", "place"] ["word", "way"] (defScope (topS 10)) := ⟨rfl, rfl, rfl, by decide +kernel, rfl, by decide +kernel, by decide +kernel⟩
theorem led_step {w : List Int} {v : PyData} {vs : List PyData} : led w (v :: vs) = if isPl w v = true then led (movW w v) vs else none := rfl
set_option maxHeartbeats 0 in
theorem ok_led {c : Cf} {f : Addr} {fd : FuncData} (B : Blt c) (hP : FnH c "is_move_place" 3 spIsPl) (hM : FnH c "behind_move" 2 spMoved) (F : Fun c.K "led_by" "led_by" (topS 10) f fd) : FnG c 4 f fd ["word", "way"] spLed := by
  refine FnG.mk' F scLed (fun rs M Q E h => by obtain ⟨w, v, _, _, rfl, _⟩ := h; rfl) fun X hX hF rs M Q E fl h hT' => ?_
  obtain ⟨w, v, hl, hv, rfl, q⟩ := h
  have e0 : VarI ["word", "way", "place"] "word" 0 := rfl
  have e1 : VarI ["word", "way", "place"] "way" 1 := rfl
  have e2 : VarI ["word", "way", "place"] "place" 2 := rfl
  show WSs X (defBody (topS 10)) ⟨[some (.d (.tuple (w.map PyData.int))), some (.d v), none], fl⟩ M _
  refine s_cons ?_
  cases v with
  | none => walk_at "g"; exact q
  | bool b => walk_at "g"; exact q
  | int i => walk_at "g"; exact q
  | str x => walk_at "g"; exact q
  | list ds => walk_at "g"; exact q
  | dict ds => simp [sm] at hv
  | tuple vs =>
    simp only [sm] at hv
    walk_at "g"
    refine s_for hX hF (wit_tup ?_)
    walk_at "g"
    refine ⟨fun i ρ' M' => ∃ u y, u.length ≤ 900 ∧ ρ' = ⟨[some (.d (.tuple (u.map PyData.int))), some (.d (.tuple vs)), y], fl⟩ ∧ led w vs = led u (vs.drop i) ∧ M' = M, ⟨w, none, hl, rfl, rfl, rfl⟩, ?_, ?_⟩
    · rintro i d ρ' M' hd ⟨u, y, hu, rfl, he, rfl⟩
      have hi := (List.getElem?_eq_some_iff.mp hd).1
      have hd2 : vs.drop i = d :: vs.drop (i + 1) := by
        rw [List.drop_eq_getElem_cons hi, (List.getElem?_eq_some_iff.mp hd).2]
      refine s_tname hX e2 (by decide +kernel) ?_
      dsimp only [List.set]
      walk_at "g"
      refine ⟨u, d, hu, sm_mem hv (List.mem_of_getElem? hd), rfl, st_isB (st_ifnb (fun hp => ?_) fun hp => ?_)⟩
      · walk_at "g"
        have : led w vs = none := by rw [he, hd2, led_step, if_neg (by rw [hp]; exact Bool.false_ne_true)]
        have e : ledD w (.tuple vs) = .none := by show (match led w vs with | some u => tupI u | none => PyData.none) = _; rw [this]
        rw [e] at q
        exact q
      · obtain ⟨k, rfl, hk⟩ := isPl_int hp
        obtain ⟨h0, h1, h2⟩ := plc_mem hk
        walk_at "g"
        refine ⟨u, k, hu, h0, h1, h2, rfl, ?_⟩
        walk_at "g"
        exact ⟨movI u k, _, by rw [movI_len h0 h1]; exact hu, rfl, by rw [he, hd2, led_step, if_pos hp]; rfl, rfl⟩
    · rintro ρ' M' ⟨u, y, hu, rfl, he, rfl⟩
      rw [List.drop_length] at he
      walk_at "g"
      have e : ledD w (.tuple vs) = tupI u := by show (match led w vs with | some u => tupI u | none => PyData.none) = _; rw [he]; rfl
      rw [e] at q
      exact q
theorem scLedL : FnScope ["word", "way", "place"] ["word", "way"] (defScope (topS 20)) := ⟨rfl, rfl, rfl, by decide +kernel, rfl, by decide +kernel, by decide +kernel⟩
set_option maxHeartbeats 0 in
theorem ok_ledL {c : Cf} {f : Addr} {fd : FuncData} (B : Blt c) (hP : FnH c "_law_places" 2 spPlacesL) (hM : FnH c "_law_moved" 2 spMoved) (F : Fun c.K "_law_led" "_law_led" (topS 20) f fd) : FnG c 4 f fd ["word", "way"] spLed := by
  refine FnG.mk' F scLedL (fun rs M Q E h => by obtain ⟨w, v, _, _, rfl, _⟩ := h; rfl) fun X hX hF rs M Q E fl h hT' => ?_
  obtain ⟨w, v, hl, hv, rfl, q⟩ := h
  have e0 : VarI ["word", "way", "place"] "word" 0 := rfl
  have e1 : VarI ["word", "way", "place"] "way" 1 := rfl
  have e2 : VarI ["word", "way", "place"] "place" 2 := rfl
  show WSs X (defBody (topS 20)) ⟨[some (.d (.tuple (w.map PyData.int))), some (.d v), none], fl⟩ M _
  refine s_cons ?_
  cases v with
  | none => walk_at "g"; exact q
  | bool b => walk_at "g"; exact q
  | int i => walk_at "g"; exact q
  | str x => walk_at "g"; exact q
  | list ds => walk_at "g"; exact q
  | dict ds => simp [sm] at hv
  | tuple vs =>
    simp only [sm] at hv
    walk_at "g"
    refine s_for hX hF (wit_tup ?_)
    walk_at "g"
    refine ⟨fun i ρ' M' => ∃ u y, u.length ≤ 900 ∧ ρ' = ⟨[some (.d (.tuple (u.map PyData.int))), some (.d (.tuple vs)), y], fl⟩ ∧ led w vs = led u (vs.drop i) ∧ M' = M, ⟨w, none, hl, rfl, rfl, rfl⟩, ?_, ?_⟩
    · rintro i d ρ' M' hd ⟨u, y, hu, rfl, he, rfl⟩
      have hi := (List.getElem?_eq_some_iff.mp hd).1
      have hd2 : vs.drop i = d :: vs.drop (i + 1) := by
        rw [List.drop_eq_getElem_cons hi, (List.getElem?_eq_some_iff.mp hd).2]
      have hsm := sm_mem hv (List.mem_of_getElem? hd)
      refine s_tname hX e2 (by decide +kernel) ?_
      dsimp only [List.set]
      have no : isPl u d = false → Q (.d .none) M' := fun hp => by
        have : led w vs = none := by rw [he, hd2, led_step, if_neg (by rw [hp]; exact Bool.false_ne_true)]
        have e : ledD w (.tuple vs) = .none := by show (match led w vs with | some u => tupI u | none => PyData.none) = _; rw [this]
        rw [e] at q
        exact q
      cases d with
      | none => walk_at "g"; exact no rfl
      | bool b => walk_at "g"; exact no rfl
      | str x => walk_at "g"; exact no rfl
      | list ds => walk_at "g"; exact no rfl
      | tuple ds => walk_at "g"; exact no rfl
      | dict ds => simp [sm] at hsm
      | int k =>
        walk_at "g"
        refine ⟨u, hu, rfl, wo_ninL (st_isB (st_ifn (fun hk => ?_) fun hk => ?_))⟩
        · walk_at "g"
          exact no (decide_eq_false hk)
        · obtain ⟨h0, h1, h2⟩ := plc_mem hk
          walk_at "g"
          refine ⟨u, k, hu, h0, h1, h2, rfl, ?_⟩
          walk_at "g"
          exact ⟨movI u k, _, by rw [movI_len h0 h1]; exact hu, rfl, by rw [he, hd2, led_step, if_pos (show isPl u (.int k) = true from decide_eq_true hk)]; rfl, rfl⟩
    · rintro ρ' M' ⟨u, y, hu, rfl, he, rfl⟩
      rw [List.drop_length] at he
      walk_at "g"
      have e : ledD w (.tuple vs) = tupI u := by show (match led w vs with | some u => tupI u | none => PyData.none) = _; rw [he]; rfl
      rw [e] at q
      exact q

/-! ### _law_word -/
def spWord : SpD := fun rs M Q _ => ∃ (p q : Addr) (most letters : Int), rs = [.raw (.ref p), .d (.int most), .d (.int letters)] ∧ 0 ≤ most ∧ most < 800 ∧ 1 ≤ letters ∧ letters < 1000 ∧ Src M p q ∧
  ∀ (w : List Int) M', (w.length : Int) ≤ most → (∀ i ∈ w, 1 ≤ i ∧ i ≤ letters) → Src M' p q → Rest p q M M' → Q (.d (tupI w)) M'
theorem ints_of {lo hi : Int} : ∀ {xs : List PyData}, (∀ x ∈ xs, ∃ i, x = .int i ∧ lo ≤ i ∧ i ≤ hi) → ∃ w : List Int, xs = w.map PyData.int ∧ ∀ i ∈ w, lo ≤ i ∧ i ≤ hi
  | [], _ => ⟨[], rfl, fun i h => by cases h⟩
  | x :: xs, h => by
    obtain ⟨i, rfl, hi⟩ := h x List.mem_cons_self
    obtain ⟨w, rfl, hw⟩ := ints_of fun y hy => h y (List.mem_cons_of_mem _ hy)
    exact ⟨i :: w, rfl, fun j hj => (List.mem_cons.mp hj).elim (fun e => e ▸ hi) (hw j)⟩
theorem scWord : FnScope ["source", "most", "letters", "letter"] ["source", "most", "letters"] (defScope (topS 15)) := ⟨rfl, rfl, rfl, by decide +kernel, rfl, by decide +kernel, by decide +kernel⟩
set_option maxHeartbeats 0 in
theorem ok_word {c : Cf} {f : Addr} {fd : FuncData} (B : Blt c) (hP : FnH c "_law_pick" 1 spPick) (F : Fun c.K "_law_word" "_law_word" (topS 15) f fd) : FnG c 2 f fd ["source", "most", "letters"] spWord := by
  refine FnG.mk' F scWord (fun rs M Q E h => by obtain ⟨_, _, _, _, rfl, _⟩ := h; rfl) fun X hX hF rs M Q E fl h hT' => ?_
  obtain ⟨p, q, most, letters, rfl, m0, m1, l0, l1, hS, hQ⟩ := h
  have e0 : VarI ["source", "most", "letters", "letter"] "source" 0 := rfl
  have e1 : VarI ["source", "most", "letters", "letter"] "most" 1 := rfl
  have e2 : VarI ["source", "most", "letters", "letter"] "letters" 2 := rfl
  have e3 : VarI ["source", "most", "letters", "letter"] "letter" 3 := rfl
  show WSs X (defBody (topS 15)) ⟨[some (.raw (.ref p)), some (.d (.int most)), some (.d (.int letters)), none], fl⟩ M _
  refine s_one (s_ret ?_)
  walk_at "gb"
  refine we_lc (own := [("letter", 3)]) hX (by decide +kernel) (by decide) (lc_D (p := p) (q := q) hX (by decide +kernel) (fun d => ∃ i, d = .int i ∧ 1 ≤ i ∧ i ≤ letters) ?_)
  walk_at "g"
  refine ⟨p, q, most + 1, rfl, by omega, hS, fun n M1 hS1 hR1 n0 n1 => st_isI ?_⟩
  refine ⟨by omega, by omega, by rw [List.length_map, upFrom_length]; omega, hS1, hR1, fun d hd M' hS' _ Y hY => ?_, fun xs M' hlen hxs hS' hR' => ?_⟩
  · obtain ⟨i, hi, rfl⟩ := List.mem_map.mp hd
    dsimp only [wipeR, Rho.set, List.map, List.set]
    refine s_tnamev hY e3 (by decide +kernel) (by decide) fun Y hY => ?_
    walk_at "g"
    refine ⟨p, q, letters, rfl, by omega, hS', fun i M2 hS2 hR2 i0 i1 => ?_⟩
    walk_at "g"
    exact ⟨_, rfl, ⟨_, rfl, by omega, by omega⟩, hS2, hR2⟩
  · obtain ⟨w, rfl, hw⟩ := ints_of hxs
    rw [List.length_map, List.length_map, upFrom_length] at hlen
    walk_at "g"
    exact hQ w M' (by omega) hw hS' hR'

/-! ### _law_way -/
theorem movI_mem {w : List Int} {k i : Int} (h0 : 0 ≤ k) (h1 : k + 2 < w.length) (h : i ∈ movI w k) : i ∈ w := by
  have g : ∀ j : Int, 0 ≤ j → j < w.length → gi w j ∈ w := fun j j0 j1 => by
    unfold gi
    rw [List.getElem?_eq_getElem (show j.toNat < w.length by omega)]
    exact List.getElem_mem _
  unfold movI at h
  rcases List.mem_append.mp h with h | h
  · rcases List.mem_append.mp h with h | h
    · exact List.mem_of_mem_take h
    · have a1 := g k h0 (by omega)
      have a2 := g (k + 1) (by omega) (by omega)
      have a3 := g (k + 2) (by omega) h1
      unfold thr at h
      split at h <;> simp only [List.mem_cons, List.not_mem_nil, or_false] at h <;> rcases h with h | h | h <;> (rw [h]; assumption)
  · exact List.mem_of_mem_drop h
theorem led_app : ∀ (vs us : List PyData) (w u : List Int), led w vs = some u → led w (vs ++ us) = led u us
  | [], us, w, u, h => by cases h; rfl
  | v :: vs, us, w, u, h => by
    rw [led_step] at h
    rw [List.cons_append, led_step]
    split at h
    · rename_i hp
      rw [if_pos hp]
      exact led_app vs us _ _ h
    · cases h
def spWay : SpD := fun rs M Q _ => ∃ (p q : Addr) (w : List Int) (most : Int), rs = [.raw (.ref p), .d (tupI w), .d (.int most)] ∧ w.length ≤ 900 ∧ 0 ≤ most ∧ most < 800 ∧ Src M p q ∧
  ∀ (ks u : List Int) M', (ks.length : Int) ≤ most → led w (ks.map PyData.int) = some u → (∀ k ∈ ks, 0 ≤ k ∧ k < 900) → Src M' p q → Rest p q M M' → Q (.d (tupI ks)) M'
theorem scWay : FnScope ["source", "word", "most", "way", "lap", "some"] ["source", "word", "most"] (defScope (topS 21)) := ⟨rfl, rfl, rfl, by decide +kernel, rfl, by decide +kernel, by decide +kernel⟩
set_option maxHeartbeats 0 in
theorem ok_way {c : Cf} {f : Addr} {fd : FuncData} (B : Blt c) (hP : FnH c "_law_pick" 1 spPick) (hO : FnH c "_law_of" 2 spOf) (hL : FnH c "_law_places" 2 spPlacesL) (hM : FnH c "_law_moved" 2 spMoved) (F : Fun c.K "_law_way" "_law_way" (topS 21) f fd) :
    FnG c 3 f fd ["source", "word", "most"] spWay := by
  refine FnG.mk' F scWay (fun rs M Q E h => by obtain ⟨_, _, _, _, rfl, _⟩ := h; rfl) fun X hX hF rs M Q E fl h hT' => ?_
  obtain ⟨p, q, w, most, rfl, hl, m0, m1, hS, hQ⟩ := h
  have e0 : VarI ["source", "word", "most", "way", "lap", "some"] "source" 0 := rfl
  have e1 : VarI ["source", "word", "most", "way", "lap", "some"] "word" 1 := rfl
  have e2 : VarI ["source", "word", "most", "way", "lap", "some"] "most" 2 := rfl
  have e3 : VarI ["source", "word", "most", "way", "lap", "some"] "way" 3 := rfl
  have e4 : VarI ["source", "word", "most", "way", "lap", "some"] "lap" 4 := rfl
  have e5 : VarI ["source", "word", "most", "way", "lap", "some"] "some" 5 := rfl
  show WSs X (defBody (topS 21)) ⟨[some (.raw (.ref p)), some (.d (.tuple (w.map PyData.int))), some (.d (.int most)), none, none, none], fl⟩ M _
  refine s_cons ?_
  walk_at "g"
  refine ⟨Nat.zero_le _, ?_⟩
  walk_at "g"
  refine s_for hX hF ?_
  walk_at "g"
  refine ⟨p, q, most + 1, rfl, by omega, hS, fun n M1 hS1 hR1 n0 n1 => st_isI ⟨by omega, by omega, ?_⟩⟩
  refine ⟨fun i ρ' M' => ∃ (u ks : List Int) (y z : Option R), ρ' = ⟨[some (.raw (.ref p)), some (.d (.tuple (u.map PyData.int))), some (.d (.int most)), some (.d (.tuple (ks.map PyData.int))), y, z], fl⟩ ∧ u.length = w.length ∧ ks.length ≤ i ∧ led w (ks.map PyData.int) = some u ∧ (∀ k ∈ ks, 0 ≤ k ∧ k < 900) ∧ Src M' p q ∧ Rest p q M M',
    ⟨w, [], none, none, rfl, rfl, Nat.zero_le _, rfl, fun k hk => (by cases hk), hS1, hR1⟩, ?_, ?_⟩
  · rintro i d ρ' M' hd ⟨u, ks, y, z, rfl, hu, hk, he, hb, hS', hR'⟩
    have hi := (List.getElem?_eq_some_iff.mp hd).1
    rw [List.length_map, upFrom_length] at hi
    refine s_tname hX e4 (by decide +kernel) ?_
    dsimp only [List.set]
    walk_at "g"
    refine ⟨u, by omega, rfl, ?_⟩
    walk_at "g"
    refine we_lst ?_
    walk_at "g"
    refine ⟨Nat.zero_le _, ?_⟩
    have bd : ∀ k ∈ plc u, 0 ≤ k ∧ k < 900 := fun k hk => by
      obtain ⟨h0, h1, _⟩ := plc_mem hk
      omega
    refine wo_neLI hX (w := []) (fun k hk => by have := bd k hk; omega) (fun k hk => by cases hk) ?_
    walk_at "gs"
    · rename_i hne
      refine ⟨p, q, (plc u).map PyData.int, rfl, ?_, ?_, hS', fun d2 M2 hd2 hS2 hR2 => ?_⟩
      · rw [List.length_map]
        exact List.length_pos_iff.mpr (by simpa using hne)
      · rw [List.length_map]
        unfold plc
        refine Nat.lt_of_le_of_lt (List.length_filter_le ..) ?_
        rw [upFrom_length]
        omega
      obtain ⟨k, hk2, rfl⟩ := List.mem_map.mp hd2
      obtain ⟨h0, h1, h2⟩ := plc_mem hk2
      walk_at "g"
      refine ⟨small_line (by show 1 ≤ 1000000; decide), wo_catT (small_line (by rw [List.length_map]; show ks.length + 1 ≤ 1000000; omega)) ?_⟩
      walk_at "g"
      refine wi_tup (atI_last _ _) ?_
      refine ⟨u, k, (by omega), h0, h1, h2, rfl, ?_⟩
      walk_at "g"
      refine ⟨movI u k, ks ++ [k], some (.d d), some (.d (lstI (plc u))), ?_, (by rw [movI_len h0 h1]; exact hu), (by rw [List.length_append]; show ks.length + 1 ≤ i + 1; omega), ?_, fun j hj => ?_, hS2, hR'.trans hR2⟩
      · rw [List.map_append]
        rfl
      · rw [List.map_append, led_app _ _ _ _ he]
        show led u [PyData.int k] = _
        rw [led_step, if_pos (show isPl u (.int k) = true from decide_eq_true hk2)]
        rfl
      · rcases List.mem_append.mp hj with hj | hj
        · exact hb j hj
        · rw [List.mem_singleton.mp hj]; exact bd k hk2
    · exact ⟨u, ks, _, _, rfl, hu, by omega, he, hb, hS', hR'⟩
  · rintro ρ' M' ⟨u, ks, y, z, rfl, hu, hk, he, hb, hS', hR'⟩
    rw [List.length_map, upFrom_length] at hk
    walk_at "g"
    exact hQ ks u M' (by omega) he hb hS' hR'
/-! ### the law's mathematics -/
theorem gi_nat {w : List Int} {n : Nat} : gi w (n : Int) = (w[n]?).getD 0 := by unfold gi; rw [Int.toNat_natCast]
theorem split3 {w : List Int} {n : Nat} (h : n + 2 < w.length) : w = w.take n ++ [gi w n, gi w (n + 1), gi w (n + 2)] ++ w.drop (n + 3) := by
  have a0 : gi w (n : Int) = w[n] := by rw [gi_nat, List.getElem?_eq_getElem (by omega)]; rfl
  have a1 : gi w ((n : Int) + 1) = w[n + 1] := by
    have := gi_nat (w := w) (n := n + 1)
    rw [List.getElem?_eq_getElem (by omega)] at this
    exact this
  have a2 : gi w ((n : Int) + 2) = w[n + 2] := by
    have := gi_nat (w := w) (n := n + 2)
    rw [List.getElem?_eq_getElem (by omega)] at this
    exact this
  rw [a0, a1, a2, List.append_assoc]
  have d : w.drop n = w[n] :: w[n + 1] :: w[n + 2] :: w.drop (n + 3) := by
    rw [List.drop_eq_getElem_cons (by omega), List.drop_eq_getElem_cons (by omega), List.drop_eq_getElem_cons (by omega)]
  show w = w.take n ++ (w[n] :: w[n + 1] :: w[n + 2] :: w.drop (n + 3))
  rw [← d, List.take_append_drop]
theorem gi_mid {a : List Int} {x y z : Int} {b : List Int} {n : Nat} (h : a.length = n) : gi (a ++ [x, y, z] ++ b) n = x ∧ gi (a ++ [x, y, z] ++ b) (n + 1) = y ∧ gi (a ++ [x, y, z] ++ b) (n + 2) = z := by
  subst h
  refine ⟨?_, ?_, ?_⟩
  · rw [gi_nat, List.append_assoc, List.getElem?_append_right (Nat.le_refl _), Nat.sub_self]; rfl
  · have := gi_nat (w := a ++ [x, y, z] ++ b) (n := a.length + 1)
    rw [List.append_assoc, List.getElem?_append_right (by omega), show a.length + 1 - a.length = 1 by omega] at this
    rw [List.append_assoc]
    exact this
  · have := gi_nat (w := a ++ [x, y, z] ++ b) (n := a.length + 2)
    rw [List.append_assoc, List.getElem?_append_right (by omega), show a.length + 2 - a.length = 2 by omega] at this
    rw [List.append_assoc]
    exact this
theorem thr_is {a b c : Int} : ∃ x y z, thr a b c = [x, y, z] ∧ (isMv a b c → isMv x y z ∧ thr x y z = [a, b, c]) := by
  by_cases h : (a ≤ c ∧ c < b) ∨ (b ≤ c ∧ c < a)
  · refine ⟨b, a, c, if_pos h, fun _ => ?_⟩
    have h2 : (b ≤ c ∧ c < a) ∨ (a ≤ c ∧ c < b) := h.symm
    exact ⟨.inl h2, if_pos h2⟩
  · refine ⟨a, c, b, if_neg h, fun hm => ?_⟩
    have h2 : (b < a ∧ a ≤ c) ∨ (c < a ∧ a ≤ b) := hm.elim (fun z => absurd z h) id
    have h3 : ¬ ((a ≤ b ∧ b < c) ∨ (c ≤ b ∧ b < a)) := by omega
    exact ⟨.inr (by omega), if_neg h3⟩
theorem mov_mov {w : List Int} {k : Int} (hk : k ∈ plc w) : k ∈ plc (movI w k) ∧ movI (movI w k) k = w := by
  obtain ⟨h0, h1, hm⟩ := plc_mem hk
  obtain ⟨n, rfl⟩ : ∃ n : Nat, k = n := ⟨k.toNat, by omega⟩
  obtain ⟨x, y, z, et, hb⟩ := thr_is (a := gi w n) (b := gi w (n + 1)) (c := gi w (n + 2))
  obtain ⟨m1, m2⟩ := hb hm
  have em : movI w n = w.take n ++ [x, y, z] ++ w.drop (n + 3) := by
    unfold movI
    rw [Int.toNat_natCast, et]
  have tl : (w.take n).length = n := by rw [List.length_take]; omega
  obtain ⟨g0, g1, g2⟩ := gi_mid (x := x) (y := y) (z := z) (b := w.drop (n + 3)) tl
  rw [← em] at g0 g1 g2
  have len := movI_len h0 h1
  constructor
  · unfold plc
    refine List.mem_filter.mpr ⟨?_, ?_⟩
    · unfold upFrom
      refine List.mem_map.mpr ⟨n, List.mem_range.mpr ?_, by omega⟩
      rw [len]
      omega
    · refine decide_eq_true ?_
      unfold mvAt
      rw [g0, g1, g2]
      exact m1
  · have e2 : movI (movI w n) n = (movI w n).take n ++ thr x y z ++ (movI w n).drop (n + 3) := by
      show (movI w n).take (Int.toNat n) ++ thr (gi (movI w n) n) (gi (movI w n) (n + 1)) (gi (movI w n) (n + 2)) ++ (movI w n).drop (Int.toNat n + 3) = _
      rw [g0, g1, g2, Int.toNat_natCast]
    rw [e2, m2, em]
    have t1 : (w.take n ++ [x, y, z] ++ w.drop (n + 3)).take n = w.take n := by
      rw [List.append_assoc, List.take_append_of_le_length (by omega), List.take_of_length_le (by omega)]
    have t2 : (w.take n ++ [x, y, z] ++ w.drop (n + 3)).drop (n + 3) = w.drop (n + 3) := by
      have : (w.take n ++ [x, y, z]).length = n + 3 := by rw [List.length_append, tl]; rfl
      rw [← this, List.drop_left]
    rw [t1, t2]
    exact (split3 (by omega)).symm
theorem led_back : ∀ (ks : List Int) (w u : List Int), led w (ks.map PyData.int) = some u → led u (ks.reverse.map PyData.int) = some w
  | [], w, u, h => by cases h; rfl
  | k :: ks, w, u, h => by
    rw [List.map_cons, led_step] at h
    split at h
    · rename_i hp
      have hk : k ∈ plc w := of_decide_eq_true hp
      have ih := led_back ks _ _ h
      rw [List.reverse_cons, List.map_append, led_app _ _ _ _ ih]
      obtain ⟨b1, b2⟩ := mov_mov hk
      show led (movI w k) [PyData.int k] = some w
      rw [led_step, if_pos (show isPl (movI w k) (.int k) = true from decide_eq_true b1)]
      show some (movI (movI w k) k) = some w
      rw [b2]
    · cases h
theorem fall3 (a b c : Int) : (!(decide (b < a) == decide (c < b))) = decide (isMv a b c) := by
  by_cases h1 : b < a <;> by_cases h2 : c < b
  · rw [decide_eq_true h1, decide_eq_true h2, decide_eq_false (by unfold isMv; omega)]; rfl
  · rw [decide_eq_true h1, decide_eq_false h2, decide_eq_true (by unfold isMv; omega)]; rfl
  · rw [decide_eq_false h1, decide_eq_true h2, decide_eq_true (by unfold isMv; omega)]; rfl
  · rw [decide_eq_false h1, decide_eq_false h2, decide_eq_false (by unfold isMv; omega)]; rfl
theorem fall_mv (w : List Int) (k : Int) : (!(decide (gi w (k + 1) < gi w k) == decide (gi w (k + 1 + 1) < gi w (k + 1)))) = decide (mvAt w k) := by
  have e : k + 1 + 1 = k + 2 := by omega
  rw [e]
  exact fall3 _ _ _
theorem plc_small {w : List Int} (h : w.length ≤ 900) : ∀ k ∈ plc w, k.natAbs < 10 ^ 24 := fun k hk => by
  obtain ⟨h0, h1, _⟩ := plc_mem hk
  have : k.natAbs < 900 := by omega
  exact Nat.lt_trans this (by decide)
def Small (w : List Int) : Prop := ∀ i ∈ w, i.natAbs < 10 ^ 24
theorem told_sz {w : List Int} {v : PyData} (hl : w.length ≤ 900) (hw : Small w) (hv : Cop 1 v) (hn : nd v ≤ 100) : Sz 1000 2 (told w v) := by
  unfold told
  by_cases hp : isPl w v = true
  · rw [if_pos hp]
    obtain ⟨k, rfl, hk⟩ := isPl_int hp
    obtain ⟨h0, h1, _⟩ := plc_mem hk
    have s1 : Sz 5 1 (.str "told") := ⟨by decide +kernel, by decide +kernel, by decide⟩
    have s2 : Sz 901 1 (movD w (.int k)) := (Sz.tupI fun i hi => hw i (movI_mem h0 h1 hi)).mono (by rw [movI_len h0 h1]; omega) (Nat.le_refl _)
    exact (Sz.lst2 s1 s2).mono (by decide) (by decide)
  · rw [if_neg hp]
    have s1 : Sz 4 1 (.str "not") := ⟨by decide +kernel, by decide +kernel, by decide⟩
    have s2 : Sz 100 1 v := ⟨hv.1, hn, hv.2.2⟩
    have s3 : Sz 1 1 (.bool true) := ⟨rfl, by decide +kernel, by decide⟩
    exact (Sz.lst3 s1 s2 s3).mono (by decide) (by decide)
theorem led_small : ∀ {vs : List PyData} {w u : List Int}, Small w → led w vs = some u → Small u ∧ u.length = w.length
  | [], w, u, hw, h => by cases h; exact ⟨hw, rfl⟩
  | v :: vs, w, u, hw, h => by
    rw [led_step] at h
    split at h
    · rename_i hp
      obtain ⟨k, rfl, hk⟩ := isPl_int hp
      obtain ⟨h0, h1, _⟩ := plc_mem hk
      obtain ⟨a, b⟩ := led_small (w := movI w k) (fun i hi => hw i (movI_mem h0 h1 hi)) h
      exact ⟨a, b.trans (movI_len h0 h1)⟩
    · cases h
theorem ledD_sz {w : List Int} {v : PyData} (hl : w.length ≤ 900) (hw : Small w) : Sz 1000 2 (ledD w v) := by
  have s0 : Sz 1000 2 .none := ⟨rfl, by decide +kernel, by decide⟩
  cases v with
  | tuple vs =>
    show Sz 1000 2 (match led w vs with | some u => tupI u | none => PyData.none)
    cases h : led w vs with
    | none => exact s0
    | some u =>
      obtain ⟨a, b⟩ := led_small hw h
      exact (Sz.tupI a).mono (by omega) (by decide)
  | _ => exact s0

abbrev NL : List Str := ["script", "source", "lap", "word", "kept", "due", "falls", "k", "value", "is_one", "late", "way", "odd", "shown"]
theorem scLaw : FnScope NL ["script"] (defScope (topS 22)) := ⟨rfl, rfl, rfl, by decide +kernel, rfl, by decide +kernel, by decide +kernel⟩
theorem at_up {F : Int → PyData} {n : Nat} {k : Int} (h0 : 0 ≤ k) (h1 : k < n) : atI ((upFrom 0 n).map F) k = some (F k) := by
  obtain ⟨m, rfl⟩ : ∃ m : Nat, k = m := ⟨k.toNat, by omega⟩
  refine atI_nat ?_
  rw [List.getElem?_map, upFrom_get (by omega)]
  show some (F (0 + (m : Int))) = _
  rw [Int.zero_add]
theorem plc_len (w : List Int) : (plc w).length ≤ w.length := by
  unfold plc
  refine Nat.le_trans (List.length_filter_le ..) ?_
  rw [upFrom_length]
  omega
theorem shaped_bool (b : Bool) : SeqAt.shaped (.bool b) = true := by cases b <;> decide +kernel
def cutI (ks : List Int) (lo hi : Option Int) : List Int := (ks.drop (HT.sIx ks.length 0 lo)).take (HT.sIx ks.length ks.length hi - HT.sIx ks.length 0 lo)
theorem cutD_map (ks : List Int) (lo hi : Option Int) : cutD (ks.map PyData.int) lo hi = (cutI ks lo hi).map PyData.int := by
  unfold cutD cutI
  rw [List.length_map, List.map_take, List.map_drop]
theorem cutI_mem {ks : List Int} {lo hi : Option Int} {i : Int} (h : i ∈ cutI ks lo hi) : i ∈ ks := List.mem_of_mem_drop (List.mem_of_mem_take h)
theorem cutI_len (ks : List Int) (lo hi : Option Int) : (cutI ks lo hi).length ≤ ks.length := by
  unfold cutI
  rw [List.length_take, List.length_drop]
  omega
theorem smAll_app : ∀ {xs ys : List PyData}, smAll xs = true → smAll ys = true → smAll (xs ++ ys) = true
  | [], _, _, h => h
  | x :: xs, _, h, g => by
    simp only [smAll, Bool.and_eq_true] at h
    rw [List.cons_append]
    simp only [smAll, Bool.and_eq_true]
    exact ⟨h.1, smAll_app h.2 g⟩
theorem ndAll_app : ∀ (xs ys : List PyData), ndAll (xs ++ ys) = ndAll xs + ndAll ys
  | [], ys => by rw [List.nil_append]; show _ = 0 + _; omega
  | x :: xs, ys => by rw [List.cons_append]; simp only [ndAll]; rw [ndAll_app xs ys]; omega
theorem depthAll_app : ∀ (xs ys : List PyData), PyData.depthAll (xs ++ ys) = max (PyData.depthAll xs) (PyData.depthAll ys)
  | [], ys => by rw [List.nil_append]; show _ = max 0 _; omega
  | x :: xs, ys => by rw [List.cons_append]; simp only [PyData.depthAll]; rw [depthAll_app xs ys]; omega
theorem tupS {xs : List PyData} (h1 : smAll xs = true) (h2 : ndAll xs ≤ 300) (h3 : PyData.depthAll xs ≤ 1) : Sz 500 2 (.tuple xs) :=
  ⟨by simp only [sm]; exact h1, by simp only [nd]; omega, by simp only [PyData.depth]; omega⟩
theorem lstS {xs : List PyData} (h1 : smAll xs = true) (h2 : ndAll xs ≤ 300) (h3 : PyData.depthAll xs ≤ 1) : Sz 500 2 (.list xs) :=
  ⟨by simp only [sm]; exact h1, by simp only [nd]; omega, by simp only [PyData.depth]; omega⟩
def lawLoop : List Stmt := match (defBody (topS 22)).getD 1 (.Pass ⟨0, 0, 0, 0⟩) with
  | .For _ _ b _ _ => b
  | _ => []
set_option maxHeartbeats 0 in
theorem law_tail {c : Cf} {X : Cx} {p q : Addr} {M2 : Mem} {fl : Hp} {Q : RK} {w ns : List Int} {a2 a5 a6 a7 a8 a9 a10 a11 a12 a13 : Option R} (B : Blt c) (hX : CxOk c 6 NL (defScope (topS 22)) allF X) (hF : Frm X) (hP : FnH c "_law_pick" 1 spPick) (hO : FnH c "_law_of" 2 spOf) (hWy : FnH c "_law_way" 3 spWay)
    (hLd : FnH c "led_by" 4 spLed) (hLL : FnH c "_law_led" 4 spLed) (hw12 : w.length ≤ 12) (hws : Small w) (hS2 : Src M2 p q) {bk ct : Rho → Mem → Prop} :
    WSs X (lawLoop.drop 6) ⟨[some (.scr c.K ns), some (.raw (.ref p)), a2, some (.d (tupI w)), some (.d (.str (tupI w).shown)), a5, a6, a7, a8, a9, a10, a11, a12, a13], fl⟩ M2
      ⟨fun ρ' M' => ∃ (a2 a3 a4 a5 a6 a7 a8 a9 a10 a11 a12 a13 : Option R), ρ' = ⟨[some (.scr c.K ns), some (.raw (.ref p)), a2, a3, a4, a5, a6, a7, a8, a9, a10, a11, a12, a13], fl⟩ ∧ Src M' p q, Q, bk, ct⟩ := by
  have n1 : VarI NL "source" 1 := rfl
  have n3 : VarI NL "word" 3 := rfl
  have n4 : VarI NL "kept" 4 := rfl
  have n7 : VarI NL "k" 7 := rfl
  have n8 : VarI NL "value" 8 := rfl
  have n11 : VarI NL "way" 11 := rfl
  have n12 : VarI NL "odd" 12 := rfl
  have n13 : VarI NL "shown" 13 := rfl
  refine s_cons (s_par2 hX n11 n7 (by decide) (by decide +kernel) (by decide +kernel) ?_)
  walk_at "g"
  refine ⟨p, q, w, 9, rfl, by omega, by decide, by decide, hS2, fun ks u M3 hk he hb hS3 hR3 => ?_⟩
  walk_at "g"
  refine ⟨p, q, 9, rfl, by decide, hS3, fun k M4 hS4 hR4 k0 k1 => ?_⟩
  dsimp only [List.set]
  refine s_cons ?_
  walk_at "g"
  refine we_lst ?_
  walk_at "g"
  refine ⟨small_line (by show 1 ≤ 1000000; decide), ?_⟩
  walk_at "g"
  refine ⟨small_line (by show 9 ≤ 1000000; decide), ?_⟩
  refine ⟨p, q, _, rfl, by decide, by decide, hS4, fun d M5 hd hS5 hR5 => ?_⟩
  have hds : (sm d && decide (nd d ≤ 100) && decide (d.depth ≤ 1)) = true := by
    have all : ∀ d ∈ ([.none, .bool true, .int 0, .int 1, .int 2, .int 7, .int (-1), .str "0", .tuple [.int 0]] : List PyData), (sm d && decide (nd d ≤ 100) && decide (d.depth ≤ 1)) = true := by decide +kernel
    exact all d hd
  simp only [Bool.and_eq_true, decide_eq_true_eq] at hds
  obtain ⟨⟨hd1, hd2⟩, hd3⟩ := hds
  have hk9 : ks.length ≤ 9 := by omega
  have hks : Small ks := fun i hi => by
    have := hb i hi
    exact Nat.lt_trans (show i.natAbs < 1000 by omega) (by decide)
  refine s_cons (s_for hX hF (wit_tup ?_))
  walk_at "g"
  refine we_revT ?_
  walk_at "g"
  refine we_slT ?_
  walk_at "g"
  refine wc_list (ds := ks.map PyData.int) rfl ?_
  walk_at "g"
  refine we_slT ?_
  walk_at "g"
  refine ⟨small_line (by show 1 ≤ 1000000; decide), ?_⟩
  have c1 : ∀ lo hi, (cutD (ks.map PyData.int) lo hi).length ≤ 9 := fun lo hi => by rw [cutD_map, List.length_map]; exact Nat.le_trans (cutI_len ..) hk9
  refine wo_catT (small_line (by have := c1 none (some k); simp only [List.length_cons, List.length_nil]; omega)) ?_
  refine we_slT ?_
  walk_at "g"
  refine wo_catT (small_line (by have := c1 none (some k); have := c1 (some k) none; simp only [List.length_append, List.length_cons, List.length_nil]; omega)) ?_
  walk_at "g"
  refine ⟨small_line (by show 0 ≤ 1000000; decide), ?_⟩
  walk_at "g"
  refine we_revT ?_
  walk_at "g"
  refine wo_catT (small_line (by simp only [List.length_reverse, List.length_map]; omega)) ?_
  walk_at "g"
  refine ⟨small_line (by show 9 ≤ 1000000; decide), ?_⟩
  have I1 : ∀ ls : List Int, Small ls → ls.length ≤ 20 → smAll (ls.map PyData.int) = true ∧ ndAll (ls.map PyData.int) ≤ 20 ∧ PyData.depthAll (ls.map PyData.int) = 0 := fun ls h1 h2 => by
    obtain ⟨a, b, c⟩ := smAll_ints h1
    exact ⟨a, by omega, c⟩
  have Ik := I1 ks hks (by omega)
  have Ir := I1 ks.reverse (fun i hi => hks i (List.mem_reverse.mp hi)) (by rw [List.length_reverse]; omega)
  have Ic : ∀ lo hi, smAll ((cutI ks lo hi).map PyData.int) = true ∧ ndAll ((cutI ks lo hi).map PyData.int) ≤ 20 ∧ PyData.depthAll ((cutI ks lo hi).map PyData.int) = 0 := fun lo hi => I1 _ (fun i hi' => hks i (cutI_mem hi')) (Nat.le_trans (cutI_len ..) (by omega))
  have Id : smAll [d] = true ∧ ndAll [d] ≤ 100 ∧ PyData.depthAll [d] ≤ 1 := ⟨by simp only [smAll, hd1, Bool.and_self], by simp only [ndAll]; omega, by simp only [PyData.depthAll]; omega⟩
  have hvals : ∀ v, v ∈ [tupI ks, .tuple (ks.map PyData.int).reverse, .tuple (cutD (ks.map PyData.int) (some 1) none), .list (ks.map PyData.int), .tuple (cutD (ks.map PyData.int) none (some k) ++ [d] ++ cutD (ks.map PyData.int) (some k) none), .none, .tuple [], .int 0, .tuple (ks.map PyData.int ++ (ks.map PyData.int).reverse)] → Sz 500 2 v := by
    intro v hv
    simp only [cutD_map, ← List.map_reverse] at hv
    simp only [List.mem_cons, List.not_mem_nil, or_false] at hv
    rcases hv with rfl | rfl | rfl | rfl | rfl | rfl | rfl | rfl | rfl
    · exact tupS Ik.1 (by omega) (by omega)
    · exact tupS Ir.1 (by omega) (by omega)
    · have := Ic (some 1) none
      exact tupS this.1 (by omega) (by omega)
    · exact lstS Ik.1 (by omega) (by omega)
    · have h1 := Ic none (some k)
      have h2 := Ic (some k) none
      refine tupS (smAll_app (smAll_app h1.1 Id.1) h2.1) ?_ ?_
      · rw [ndAll_app, ndAll_app]; omega
      · rw [depthAll_app, depthAll_app]; omega
    · exact ⟨rfl, by decide +kernel, by decide⟩
    · exact ⟨rfl, by decide +kernel, by decide +kernel⟩
    · exact ⟨by decide +kernel, by decide +kernel, by decide +kernel⟩
    · refine tupS (smAll_app Ik.1 Ir.1) ?_ ?_
      · rw [ndAll_app]; omega
      · rw [depthAll_app]; omega
  refine st_isT ⟨fun i ρ' M' => ∃ (b8 b13 : Option R), ρ' = ⟨[some (.scr c.K ns), some (.raw (.ref p)), a2, some (.d (tupI w)), some (.d (.str (tupI w).shown)), a5, a6, some (.d (.int k)), b8, a9, a10, some (.d (tupI ks)), some (.d d), b13], fl⟩ ∧ M' = M5,
    ⟨a8, a13, rfl, rfl⟩, ?_, ?_⟩
  · rintro i v ρ' M' hv ⟨b8, b13, rfl, rfl⟩
    have hz := hvals v (List.mem_of_getElem? hv)
    refine s_tname hX n8 (by decide +kernel) ?_
    dsimp only [List.set]
    refine s_cons (s_set hX n13 (by decide +kernel) (x_reprS hX B (by decide +kernel) ?_))
    walk_at "g"
    refine ⟨⟨_, _, hz, by decide, by decide⟩, ?_⟩
    dsimp only [List.set]
    refine s_one ?_
    walk_at "g"
    refine ⟨w, v, by omega, hz.s, rfl, ?_⟩
    refine wc_repr hX ((ledD_sz (by omega) hws).shows (by decide) (by decide)) ?_
    walk_at "g"
    refine ⟨w, v, by omega, hz.s, rfl, ?_⟩
    refine wc_repr hX ((ledD_sz (by omega) hws).shows (by decide) (by decide)) ?_
    refine wo_neS (st_isB (st_ifn (fun z => absurd rfl z) fun _ => ?_))
    walk_at "g"
    refine wc_repr hX (hz.shows (by decide) (by decide)) ?_
    walk_at "g"
    refine st_ifn (fun z => absurd rfl z) fun _ => ?_
    walk_at "g"
    exact ⟨_, _, rfl, rfl⟩
  · rintro ρ' M' ⟨b8, b13, rfl, rfl⟩
    have e1 : ledD w (tupI ks) = tupI u := by show (match led w (ks.map PyData.int) with | some u => tupI u | none => PyData.none) = _; rw [he]
    have e2 : ledD u (.tuple (ks.map PyData.int).reverse) = tupI w := by
      show (match led u (ks.map PyData.int).reverse with | some u => tupI u | none => PyData.none) = _
      rw [← List.map_reverse, led_back ks w u he]
    refine s_one ?_
    walk_at "g"
    refine ⟨w, .tuple (ks.map PyData.int), by omega, (hvals (tupI ks) List.mem_cons_self).s, rfl, ?_⟩
    rw [e1]
    walk_at "g"
    refine we_revT ?_
    walk_at "g"
    refine ⟨u, .tuple (ks.map PyData.int).reverse, by rw [(led_small hws he).2]; omega, (hvals _ (List.mem_cons_of_mem _ List.mem_cons_self)).s, rfl, ?_⟩
    rw [e2]
    walk_at "g"
    refine wo_neTI hX hws hws ?_
    rw [show decide (w = w) = true from decide_eq_true rfl]
    refine st_isB ?_
    walk_at "g"
    refine wc_repr hX ((Sz.tupI hws).shows (by omega) (by decide)) ?_
    walk_at "g"
    refine st_ifn (fun z => absurd rfl z) fun _ => ?_
    walk_at "g"
    exact ⟨_, _, _, _, _, _, _, _, _, _, _, _, rfl, hS5⟩

set_option maxHeartbeats 0 in
theorem ok_law {c : Cf} {C f : Addr} {fd : FuncData} (B : Blt c) (hS : FnH c "_law_source" 1 (spSource c.K)) (hW : FnH c "_law_word" 2 spWord) (hP : FnH c "_law_pick" 1 spPick) (hO : FnH c "_law_of" 2 spOf) (hpl : FnH c "move_places" 2 spPlaces)
    (hL : FnH c "_law_places" 2 spPlacesL) (hMv : FnH c "_law_moved" 2 spMoved) (hT : FnH c "_law_told" 6 spTold) (hMd : FnH c "made_at" 5 (spMade C)) (hWy : FnH c "_law_way" 3 spWay) (hLd : FnH c "led_by" 4 spLed) (hLL : FnH c "_law_led" 4 spLed)
    (F : Fun c.K "law" "law" (topS 22) f fd) : FnG c 7 f fd ["script"] (spLawG c.K 63) := by
  refine FnG.mk' F scLaw (fun rs M Q E h => by obtain ⟨_, _, rfl, _⟩ := h; rfl) fun X hX hF rs M Q E fl h hT' => ?_
  obtain ⟨ns, hl, rfl, hQ⟩ := h
  have n0 : VarI NL "script" 0 := rfl
  have n1 : VarI NL "source" 1 := rfl
  have n2 : VarI NL "lap" 2 := rfl
  have n3 : VarI NL "word" 3 := rfl
  have n4 : VarI NL "kept" 4 := rfl
  have n5 : VarI NL "due" 5 := rfl
  have n6 : VarI NL "falls" 6 := rfl
  have n7 : VarI NL "k" 7 := rfl
  have n8 : VarI NL "value" 8 := rfl
  have n9 : VarI NL "is_one" 9 := rfl
  have n10 : VarI NL "late" 10 := rfl
  have n11 : VarI NL "way" 11 := rfl
  have n12 : VarI NL "odd" 12 := rfl
  have n13 : VarI NL "shown" 13 := rfl
  show WSs X (defBody (topS 22)) ⟨[some (.scr c.K ns), none, none, none, none, none, none, none, none, none, none, none, none, none], fl⟩ M _
  refine s_cons ?_
  walk_at "g"
  refine ⟨ns, by omega, rfl, fun p q M1 hS1 => ?_⟩
  refine s_cons (s_for hX hF ?_)
  walk_at "g"
  refine ⟨by decide, by decide, ?_⟩
  refine ⟨fun i ρ' M' => ∃ (a2 a3 a4 a5 a6 a7 a8 a9 a10 a11 a12 a13 : Option R), ρ' = ⟨[some (.scr c.K ns), some (.raw (.ref p)), a2, a3, a4, a5, a6, a7, a8, a9, a10, a11, a12, a13], fl⟩ ∧ Src M' p q,
    ⟨none, none, none, none, none, none, none, none, none, none, none, none, rfl, hS1⟩, ?_, ?_⟩
  · rintro i d ρ' M' hd ⟨a2, a3, a4, a5, a6, a7, a8, a9, a10, a11, a12, a13, rfl, hS'⟩
    obtain ⟨lap, hlap, rfl⟩ := List.mem_map.mp (List.mem_of_getElem? hd)
    have hb := upFrom_mem hlap
    have hb1 : 0 ≤ lap := hb.1
    have hb2 : lap < 5 := hb.2
    refine s_tname hX n2 (by decide +kernel) ?_
    dsimp only [List.set]
    refine s_cons ?_
    walk_at "g"
    refine we_lst ?_
    walk_at "g"
    refine ⟨small_line (by decide), ?_⟩
    walk_at "g"
    refine wi_lstI (w := [4, 6, 8, 12, 12]) hb1 hb2 ?_
    walk_at "g"
    refine we_lst ?_
    walk_at "g"
    refine ⟨small_line (by decide), ?_⟩
    walk_at "g"
    refine wi_lstI (w := [3, 2, 4, 9, 5]) hb1 hb2 ?_
    have lit : ∀ l : Int, 0 ≤ l → l < 5 → (0 ≤ gi [4, 6, 8, 12, 12] l ∧ gi [4, 6, 8, 12, 12] l ≤ 12) ∧ 1 ≤ gi [3, 2, 4, 9, 5] l ∧ gi [3, 2, 4, 9, 5] l ≤ 9 := by
      intro l l0 l1
      have : l = 0 ∨ l = 1 ∨ l = 2 ∨ l = 3 ∨ l = 4 := by omega
      rcases this with rfl | rfl | rfl | rfl | rfl <;> decide
    obtain ⟨⟨l1, l2⟩, l3, l4⟩ := lit lap hb1 hb2
    refine ⟨p, q, _, _, rfl, l1, by omega, l3, by omega, hS', fun w M2 hw hi hS2 hR2 => ?_⟩
    have hw12 : w.length ≤ 12 := by omega
    have hws : Small w := fun i hi' => by
      have := hi i hi'
      have : i.natAbs < 10 := by omega
      exact Nat.lt_trans this (by decide)
    refine s_cons (s_par2 hX n4 n5 (by decide) (by decide +kernel) (by decide +kernel) (x_reprS hX B (by decide +kernel) ?_))
    walk_at "g"
    refine ⟨⟨_, _, Sz.tupI hws, by omega, by decide⟩, ?_⟩
    walk_at "g"
    refine ⟨w, by omega, rfl, ?_⟩
    dsimp only [List.set]
    refine s_cons (s_setLcC hX (own := [("k", 7)]) n6 (by decide +kernel) (by decide +kernel) (by decide +kernel) (by decide) (lc_Z hX (by decide +kernel) (by decide) (fun _ => true) (fun k => .bool (decide (gi w (k + 1) < gi w k))) ?_))
    walk_at "g"
    refine ⟨by omega, by omega, upFrom 0 ((w.length : Int) - 1).toNat, rfl, by rw [upFrom_length]; omega, fun k hk M3 _ Y hY => ?_, ?_⟩
    · have := upFrom_mem hk
      dsimp only [wipeR, Rho.set, List.map, List.set]
      refine s_tnamev hY n7 (by decide +kernel) (by decide) fun Y hY => ?_
      walk_at "g"
      refine ⟨rfl, rfl, fun _ Y hY => ?_⟩
      walk_at "g"
      exact ⟨rfl, rfl⟩
    rw [filter_true]
    dsimp only [List.set]
    refine s_cons ?_
    walk_at "g"
    refine ⟨w, by omega, rfl, ?_⟩
    refine wc_repr hX ((Sz.tupI (plc_small (by omega))).shows (by have := plc_len w; omega) (by decide)) ?_
    walk_at "g"
    refine wc_repr hX ((Sz.tupI (plc_small (by omega))).shows (by have := plc_len w; omega) (by decide)) ?_
    refine wo_neS (st_isB (st_ifn (fun z => absurd rfl z) fun _ => ?_))
    refine s_nil ?_
    refine s_cons ?_
    walk_at "g"
    refine we_lc (own := [("k", 7)]) hX (by decide +kernel) (by decide) (lc_Z hX (by decide +kernel) (by decide) (fun k => decide (mvAt w k)) (fun k => .int k) ?_)
    walk_at "g"
    simp only [List.length_map, upFrom_length]
    refine ⟨by omega, by omega, upFrom 0 ((((w.length : Int) - 1).toNat : Int) - 1).toNat, rfl, by rw [upFrom_length]; omega, fun k hk M3 _ Y hY => ?_, ?_⟩
    · have := upFrom_mem hk
      dsimp only [wipeR, Rho.set, List.map, List.set]
      refine s_tnamev hY n7 (by decide +kernel) (by decide) fun Y hY => ?_
      walk_at "g"
      refine wi_lst (at_up (by omega) (by omega)) ?_
      walk_at "g"
      refine wi_lst (at_up (by omega) (by omega)) ?_
      refine wo_neD hY.units (shaped_bool _) (shaped_bool _) ?_
      refine st_isB ⟨rfl, by rw [PyData.eqv]; exact fall_mv w k, fun _ Y hY => ?_⟩
      walk_at "g"
      exact ⟨rfl, rfl⟩
    rw [show ((((w.length : Int) - 1).toNat : Int) - 1).toNat = ((w.length : Int) - 2).toNat by omega]
    refine wo_neLI hX (v := plc w) (w := plc w) (plc_small (by omega)) (plc_small (by omega)) ?_
    rw [show decide (plc w = plc w) = true from decide_eq_true rfl]
    refine st_isB (st_nt (s_nil ?_))
    refine s_cons (s_for hX hF (wit_lst ?_))
    walk_at "g"
    refine ⟨⟨by omega, by omega, by omega, by omega, by omega⟩, ?_⟩
    have pl := plc_len w
    refine wo_catL (small_line (by simp only [List.length_map, upFrom_length]; omega)) ?_
    refine we_lst ?_
    walk_at "g"
    refine ⟨small_line (by show 1 ≤ 1000000; decide), ?_⟩
    walk_at "g"
    refine ⟨small_line (by show 6 ≤ 1000000; decide), ?_⟩
    refine wo_catL (small_line (by simp only [List.length_map, upFrom_length, List.length_append, List.length_cons, List.length_nil]; omega)) ?_
    refine st_isL ?_
    have hvals : ∀ d, d ∈ (plc w).map PyData.int ++ (upFrom (-2) ((w.length : Int) + 1 - -2).toNat).map PyData.int ++ [.none, .bool true, .bool false, .str "0", .tuple [.int 0], .int (10 ^ (20 : Int).toNat)] → Cop 1 d ∧ nd d ≤ 100 := by
      intro d hd
      have ci : ∀ i : Int, i.natAbs < 10 ^ 24 → Cop 1 (.int i) ∧ nd (.int i) ≤ 100 := fun i hi => ⟨⟨by simp only [sm]; exact decide_eq_true hi, by simp only [nd]; decide, by simp only [PyData.depth]; decide⟩, by simp only [nd]; decide⟩
      rcases List.mem_append.mp hd with hd | hd
      · rcases List.mem_append.mp hd with hd | hd
        · obtain ⟨i, hi, rfl⟩ := List.mem_map.mp hd
          exact ci i (plc_small (by omega) i hi)
        · obtain ⟨i, hi, rfl⟩ := List.mem_map.mp hd
          have := upFrom_mem hi
          exact ci i (Nat.lt_trans (show i.natAbs < 1000 by omega) (by decide))
      · have all : ∀ d ∈ ([.none, .bool true, .bool false, .str "0", .tuple [.int 0], .int (10 ^ (20 : Int).toNat)] : List PyData), (sm d && decide (nd d ≤ 100) && decide (d.depth ≤ 1)) = true := by decide +kernel
        have := all d hd
        simp only [Bool.and_eq_true, decide_eq_true_eq] at this
        exact ⟨⟨this.1.1, by omega, this.2⟩, this.1.2⟩
    refine ⟨fun i ρ' M' => ∃ (a8 a9 a10 : Option R), ρ' = ⟨[some (.scr c.K ns), some (.raw (.ref p)), some (.d (.int lap)), some (.d (tupI w)), some (.d (.str (tupI w).shown)), some (.d (lstI (plc w))), some (.d (.list ((upFrom 0 ((w.length : Int) - 1).toNat).map fun k => .bool (decide (gi w (k + 1) < gi w k))))), a7, a8, a9, a10, a11, a12, a13], fl⟩ ∧ M' = M2,
      ⟨a8, a9, a10, rfl, rfl⟩, ?_, ?_⟩
    · rintro i d ρ' M' hd ⟨b8, b9, b10, rfl, rfl⟩
      obtain ⟨hcop, hnd⟩ := hvals d (List.mem_of_getElem? hd)
      refine s_tname hX n8 (by decide +kernel) ?_
      dsimp only [List.set]
      refine s_cons (s_set hX n9 (by decide +kernel) (WE.imp (Q := fun r M3 => r = .d (.bool (isPl w d)) ∧ M3 = M') ?_ fun r M3 hr => ?_))
      · cases d with
        | none => walk_at "g"; exact ⟨rfl, rfl⟩
        | bool b => walk_at "g"; exact ⟨rfl, rfl⟩
        | str x => walk_at "g"; exact ⟨rfl, rfl⟩
        | list ds => walk_at "g"; exact ⟨rfl, rfl⟩
        | tuple ds => walk_at "g"; exact ⟨rfl, rfl⟩
        | dict ds => exact absurd hcop.1 (by simp [sm])
        | int k =>
          walk_at "g"
          refine wo_inL ?_
          exact ⟨rfl, rfl⟩
      obtain ⟨rfl, rfl⟩ := hr
      dsimp only [List.set]
      refine s_cons (s_set hX n10 (by decide +kernel) (WE.imp (Q := fun r M4 => r = .d (told w d) ∧ M4 = M3) ?_ fun r M4 hr => ?_))
      · walk_at "g"
        refine st_ifb (fun hp => ?_) fun hp => ?_
        · obtain ⟨k, rfl, hk⟩ := isPl_int hp
          obtain ⟨h0, h1, h2⟩ := plc_mem hk
          refine we_lst ?_
          walk_at "g"
          refine ⟨w, k, by omega, h0, h1, h2, rfl, ?_⟩
          walk_at "g"
          refine ⟨small_line (by show 2 ≤ 1000000; decide), ?_, rfl⟩
          unfold told
          rw [if_pos hp]
          rfl
        · refine we_lst ?_
          walk_at "g"
          refine ⟨small_line (by show 3 ≤ 1000000; decide), ?_, rfl⟩
          unfold told
          rw [if_neg (by rw [hp]; exact Bool.false_ne_true)]
      obtain ⟨rfl, rfl⟩ := hr
      dsimp only [List.set]
      refine s_cons ?_
      walk_at "g"
      refine ⟨w, d, by omega, hcop, rfl, ?_⟩
      refine wc_repr hX ((told_sz (by omega) hws hcop hnd).shows (by decide) (by decide)) ?_
      walk_at "g"
      refine wc_repr hX ((told_sz (by omega) hws hcop hnd).shows (by decide) (by decide)) ?_
      refine wo_neS (st_isB (st_ifn (fun z => absurd rfl z) fun _ => ?_))
      refine s_nil ?_
      walk_at "g"
      refine st_ifb (fun hp => ?_) fun hp => ?_
      · obtain ⟨k, rfl, hk⟩ := isPl_int hp
        obtain ⟨h0, h1, h2⟩ := plc_mem hk
        obtain ⟨m1, m2⟩ := mov_mov hk
        walk_at "g"
        refine ⟨w, .int k, by omega, hcop, rfl, fun _ => ?_, fun z => by rw [hp] at z; cases z⟩
        walk_at "g"
        refine ⟨movI w k, .int k, by rw [movI_len h0 h1]; omega, hcop, rfl, fun _ => ?_, fun z => by rw [show isPl (movI w k) (.int k) = true from decide_eq_true m1] at z; cases z⟩
        have e : movD (movI w k) (.int k) = tupI w := by show tupI (movI (movI w k) k) = _; rw [m2]
        rw [e]
        walk_at "g"
        refine wo_neTI hX hws hws ?_
        rw [show decide (w = w) = true from decide_eq_true rfl]
        refine st_isB (st_nt (s_nil ?_))
        exact ⟨_, _, _, rfl, rfl⟩
      · walk_at "g"
        exact ⟨_, _, _, rfl, rfl⟩
    · rintro ρ' M' ⟨b8, b9, b10, rfl, rfl⟩
      exact law_tail (ns := ns) B hX hF hP hO hWy hLd hLL hw12 hws hS2
  · rintro ρ' M' ⟨a2, a3, a4, a5, a6, a7, a8, a9, a10, a11, a12, a13, rfl, hS'⟩
    refine s_one ?_
    walk_at "g"
    refine ⟨small_line (by show 4 ≤ 1000000; decide), ?_⟩
    refine ⟨[2, 1, 3, 2], by decide, rfl, ?_⟩
    rw [show plc [2, 1, 3, 2] = [0, 1] by decide +kernel]
    walk_at "g"
    refine ⟨small_line (by show 2 ≤ 1000000; decide), ?_⟩
    refine wo_eqTI hX (v := [0, 1]) (w := [0, 1]) (by decide) (by decide) ?_
    rw [show decide (([0, 1] : List Int) = [0, 1]) = true by decide]
    walk_at "g"
    refine ⟨small_line (by show 3 ≤ 1000000; decide), ?_⟩
    walk_at "g"
    refine ⟨[1, 2, 1], .int 0, by decide, ⟨by decide +kernel, by decide +kernel, by decide⟩, rfl, fun _ => ?_, fun z => absurd z (by decide +kernel)⟩
    rw [show movD [1, 2, 1] (.int 0) = tupI [2, 1, 1] by show tupI (movI [1, 2, 1] 0) = _; rw [show movI [1, 2, 1] 0 = [2, 1, 1] by decide +kernel]]
    walk_at "g"
    refine ⟨small_line (by show 3 ≤ 1000000; decide), ?_⟩
    refine wo_eqTI hX (v := [2, 1, 1]) (w := [2, 1, 1]) (by decide) (by decide) ?_
    rw [show decide (([2, 1, 1] : List Int) = [2, 1, 1]) = true by decide]
    exact hQ _
/-! ### what the top has written -/
structure DefAt (K : PySem.W.Frag) (x : Str) (st : Stmt) : Prop where
  ex : ∃ (f : Addr) (fd : FuncData), PySem.W.nsIn K PySem.mainGlobals x = some (some (.ref f)) ∧ Fun K x x st f fd
theorem defAt {K : PySem.W.Frag} {x : Str} {st : Stmt} {f : Addr} {od an : Option Addr} {sl : Array (Option Value)} {oc kV dc pm cd ct : Value} (a : PySem.W.nsIn K PySem.mainGlobals x = some (some (.ref f)))
    (l : K.lookup f = some ⟨oc, od, .func (PySem.W.fnOf x x (defArgs st) (defBody st) (defScope st) .none kV dc pm an cd ct), sl⟩) (c : PySem.W.codeIn K cd x = true) (k : PySem.W.keepIn K (.ref f) = true) : DefAt K x st := ⟨f, _, a, fun_mk l c k⟩
def sInit : Stmt := match topS 3 with
  | .ClassDef _ _ _ b _ _ _ _ _ _ _ => b.getD 0 (.Pass ⟨0, 0, 0, 0⟩)
  | _ => .Pass ⟨0, 0, 0, 0⟩
theorem init_is : ∃ p, defBody sInit = initBody "step" "step" p ∧ HevOk "step" p := ⟨⟨_, _, _, _, _, _, _, _, _, _, _, _, _, _⟩, rfl, fun env => by with_unfolding_all rfl⟩
/-- NotLet, as it is written -/
structure NotLetAt (K : PySem.W.Frag) (P : Program) (C T : Addr) : Prop where
  gC : PySem.W.nsIn K PySem.mainGlobals "NotLet" = some (some (.ref C))
  gT : PySem.W.nsIn K PySem.mainGlobals "TableError" = some (some (.ref T))
  zS : PySem.W.nsIn K PySem.mainGlobals "super" = some none
  oex : OexC K C
  bm : ∃ nm q N bs bm sn sub ab col dd k0 k1 k2 k3 k5, K.lookup C = some (excClassObj nm q C N bs bm true sn sub ab col dd k0 k1 k2 k3 k5 "ValueError.__new__") ∧ PySem.HandSPX.refsVE bm = true
  exB : PySem.W.subIn K (.ref C) (.type "ValueError") = some true
  no : PySem.W.findIn K (.ref C) "step" = some none
  xf : XfC K C
  exm : PySem.W.exmOne K (.ref C) (.ref C) = some true
  kt : PySem.W.kitOne K (.ref C) (.ref T) = some true
  ini : ∃ (fI cda cc : Addr) (oc : Value) (od an : Option Addr) (kV dc pm ct : Value) (sl : Array (Option Value)), PySem.W.findIn K (.ref C) "__init__" = some (some (.ref fI)) ∧ PySem.W.typeIn K (.ref fI) = some (.type "function") ∧
    K.lookup fI = some ⟨oc, od, .func (PySem.W.ksFn "__init__" "NotLet.__init__" (defArgs sInit) (defBody sInit) (defScope sInit) .none kV dc pm an (.ref cda) ct cc), sl⟩ ∧ PySem.W.codeIn K (.ref cda) "NotLet.__init__" = true ∧
    (∃ ccl cdd vs ccs file tf, K.lookup cda = some ⟨ccl, cdd, .fields vs, ccs⟩ ∧ vs[2]? = some (.str file tf) ∧ ((P.main.file : Str) == file) = true) ∧ ∃ cl cld csl, K.lookup cc = some ⟨cl, cld, .cell (some (.ref C)), csl⟩
  op : PySem.W.nsIn K cStatics "thirdparty.any" = some none
  sup : PySem.W.ks_superIn K C C "__init__" = some (some (.builtin "ValueError.__init__"))
  self : PySem.W.mroIn K C (.ref C) = some true
  top : (P.main.scope.names.lookup ("super" : Str)).isSome = false
theorem scInit : NdefX.NScope ["self", "step", "__class__"] ["self", "step"] ["__class__"] (defScope sInit) := NdefX.nscope_by (by decide +kernel)
theorem xcls {c : Cf} {C T : Addr} (K : NotLetAt c.K c.P C T) (gC : c.mg "NotLet" = some (.ref C)) (hm : c.mg "super" = none) (cop : FnH c "copied" 2 (spCop (Cop 1))) : XCls c "NotLet" 2 C "step" (Cop 1) := by
  obtain ⟨fI, cda, cc, oc, od, an, kV, dc, pm, ct, sl, i1, i2, i3, i4, i5, i6⟩ := K.ini
  obtain ⟨nm, q, N, bs, bm, sn, sub, ab, col, dd, k0, k1, k2, k3, k5, b1, b2⟩ := K.bm
  have hbm : ∀ Y : String, bm.contains (.type Y) = PySem.HandSPX.veTail.contains (.type Y) := fun Y => PySem.HandSPX.refsVE_contains Y bm b2
  have hex : ExK c.K C "ValueError" "ValueError.__new__" "ValueError.__init__" PySem.HandSPX.veTail := ⟨PySem.F.excBase_ValueError, PySem.W.kxs_ValueError, ⟨nm, q, N, bs, bm, sn, sub, ab, col, dd, k0, k1, k2, k3, k5, b1, hbm⟩, K.oex.exC, K.exB, K.oex.tyC, K.oex.kC⟩
  obtain ⟨p, hp, hev⟩ := init_is
  have S : SupAt c.K c.P C fI cda cc "ValueError" "ValueError.__new__" "ValueError.__init__" PySem.HandSPX.veTail := ⟨hex, ⟨oc, od, _, sl, _, i3, rfl, rfl⟩, i5, i6, K.op, K.sup, K.self, K.top⟩
  rw [hp] at i3
  refine ⟨ExM.ve K.oex, K.no, gC, K.oex.kC, K.oex.exC, K.oex.tyC, "ValueError", "ValueError.__new__", "ValueError.__init__", PySem.HandSPX.veTail, nm, q, N, fI, bs, bm, sn, sub, ab, col, dd, k0, k1, k2, k3, k5, PySem.W.ksFn "__init__" "NotLet.__init__" (defArgs sInit) (initBody "step" "step" p) (defScope sInit) .none kV dc pm an (.ref cda) ct cc, "step", PySem.F.excBase_ValueError, b1, hbm, i1, i2, ?_, ?_⟩
  · exact .all fun us hl => match us, hl with | [_, _], _ => rfl
  · exact fun {x A outer s H B M args us v d Q E} hr hg e0 hb r ow hx hv hP q => init_run i3 i4 S (ExM.ve K.oex) scInit (by decide +kernel) (by decide +kernel) hm cop K.no (by decide +kernel) (by decide +kernel) (by decide +kernel) hev hr hg e0 hb r ow hx hv hP q
/-- the built-ins' names, not taken by the module -/
structure NoNames (K : PySem.W.Frag) : Prop where
  len : PySem.W.nsIn K PySem.mainGlobals "len" = some none
  tuple : PySem.W.nsIn K PySem.mainGlobals "tuple" = some none
  list : PySem.W.nsIn K PySem.mainGlobals "list" = some none
  int : PySem.W.nsIn K PySem.mainGlobals "int" = some none
  bool : PySem.W.nsIn K PySem.mainGlobals "bool" = some none
  dict : PySem.W.nsIn K PySem.mainGlobals "dict" = some none
  str : PySem.W.nsIn K PySem.mainGlobals "str" = some none
  range : PySem.W.nsIn K PySem.mainGlobals "range" = some none
  enumerate : PySem.W.nsIn K PySem.mainGlobals "enumerate" = some none
  zip : PySem.W.nsIn K PySem.mainGlobals "zip" = some none
  isinstance : PySem.W.nsIn K PySem.mainGlobals "isinstance" = some none
  repr : PySem.W.nsIn K PySem.mainGlobals "repr" = some none
  abs : PySem.W.nsIn K PySem.mainGlobals "abs" = some none
  max : PySem.W.nsIn K PySem.mainGlobals "max" = some none
  min : PySem.W.nsIn K PySem.mainGlobals "min" = some none
  sum : PySem.W.nsIn K PySem.mainGlobals "sum" = some none
  sorted : PySem.W.nsIn K PySem.mainGlobals "sorted" = some none
  any : PySem.W.nsIn K PySem.mainGlobals "any" = some none
  all : PySem.W.nsIn K PySem.mainGlobals "all" = some none
theorem NoNames.blt {K : PySem.W.Frag} (z : NoNames K) {P : Program} {w : World} {h base : Heap} {mg : Str → Option Value} (X : K.In h) (G : h.Ns PySem.mainGlobals mg) : Blt ⟨P, w, K, mg, base⟩ :=
  ⟨PySem.W.mg_none_of X G z.len, PySem.W.mg_none_of X G z.tuple, PySem.W.mg_none_of X G z.list, PySem.W.mg_none_of X G z.int, PySem.W.mg_none_of X G z.bool, PySem.W.mg_none_of X G z.dict, PySem.W.mg_none_of X G z.str, PySem.W.mg_none_of X G z.range, PySem.W.mg_none_of X G z.enumerate, PySem.W.mg_none_of X G z.zip,
    PySem.W.mg_none_of X G z.isinstance, PySem.W.mg_none_of X G z.repr, PySem.W.mg_none_of X G z.abs, PySem.W.mg_none_of X G z.max, PySem.W.mg_none_of X G z.min, PySem.W.mg_none_of X G z.sum, PySem.W.mg_none_of X G z.sorted, PySem.W.mg_none_of X G z.any, PySem.W.mg_none_of X G z.all⟩
theorem b1 {c : Cf} {x qual : Str} {st : Stmt} {f : Addr} {fd : FuncData} {a : Str} (F : Fun c.K x qual st f fd) (h : ∀ (kV doc pm : Value) (an : Option Addr) (cdv ct u : Value), bindArgs (PySem.W.fnOf x qual (defArgs st) (defBody st) (defScope st) .none kV doc pm an cdv ct) ⟨[u], []⟩ = pure [(a, u)]) : Binds c.K fd [a] [] :=
  F.binds (ps := [a]) fun kV doc pm an cdv ct us hl => match us, hl with | [u], _ => h kV doc pm an cdv ct u
theorem b2 {c : Cf} {x qual : Str} {st : Stmt} {f : Addr} {fd : FuncData} {a b : Str} (F : Fun c.K x qual st f fd) (h : ∀ (kV doc pm : Value) (an : Option Addr) (cdv ct u v : Value), bindArgs (PySem.W.fnOf x qual (defArgs st) (defBody st) (defScope st) .none kV doc pm an cdv ct) ⟨[u, v], []⟩ = pure [(a, u), (b, v)]) : Binds c.K fd [a, b] [] :=
  F.binds (ps := [a, b]) fun kV doc pm an cdv ct us hl => match us, hl with | [u, v], _ => h kV doc pm an cdv ct u v
theorem b3 {c : Cf} {x qual : Str} {st : Stmt} {f : Addr} {fd : FuncData} {a b d : Str} (F : Fun c.K x qual st f fd) (h : ∀ (kV doc pm : Value) (an : Option Addr) (cdv ct u v w : Value), bindArgs (PySem.W.fnOf x qual (defArgs st) (defBody st) (defScope st) .none kV doc pm an cdv ct) ⟨[u, v, w], []⟩ = pure [(a, u), (b, v), (d, w)]) : Binds c.K fd [a, b, d] [] :=
  F.binds (ps := [a, b, d]) fun kV doc pm an cdv ct us hl => match us, hl with | [u, v, w], _ => h kV doc pm an cdv ct u v w
theorem kit_of {K : PySem.W.Frag} {C T : Addr} (hd : PySem.W.hasDictIn K T = true) (ty : PySem.W.typeIn K (.ref T) = some (.type "type")) (sub : PySem.W.subIn K (.ref C) (.ref T) = some true) : PySem.W.kitOne K (.ref C) (.ref T) = some true := by
  obtain ⟨cd, hc, _⟩ := PySem.W.any_some hd
  have told : ((PySem.W.clsIn K T).isSome && PySem.W.typeIn K (.ref T) == some (.type "type")) = true := by rw [hc, ty] <;> rfl
  unfold PySem.W.kitOne PySem.W.kitCls
  split
  · rfl
  · exact (if_pos told).trans sub
theorem notLetAt {K : PySem.W.Frag} {P : Program} {C T fI cda cc : Addr} {nm q : Str} {N : Addr} {bs bm : List Value} {sn : List Str} {sub : List Value} {ab : Bool} {col : Option Bool} {dd : Option Addr} {k0 k1 k2 k3 k5 : Option Value} {oc kV dc pm ct ccl cl : Value} {od an cdd cld : Option Addr} {sl ccs csl : Array (Option Value)} {vs : Array Value} {file : Str} {tf : Tok}
    (gC : PySem.W.nsIn K PySem.mainGlobals "NotLet" = some (some (.ref C))) (gT : PySem.W.nsIn K PySem.mainGlobals "TableError" = some (some (.ref T))) (zS : PySem.W.nsIn K PySem.mainGlobals "super" = some none)
    (lC : K.lookup C = some (excClassObj nm q C N bs bm true sn sub ab col dd k0 k1 k2 k3 k5 "ValueError.__new__")) (hbm : PySem.HandSPX.refsVE bm = true) (sa : PySem.W.findIn K (.ref C) "__setattr__" = some (some (.builtin "object.__setattr__"))) (exC : PySem.W.subIn K (.ref C) (.type "BaseException") = some true)
    (tyC : PySem.W.typeIn K (.ref C) = some (.type "type")) (kC : PySem.W.keepIn K (.ref C) = true) (exB : PySem.W.subIn K (.ref C) (.type "ValueError") = some true) (no : PySem.W.findIn K (.ref C) "step" = some none) (xf : xfB K C = true) (hdC : PySem.W.hasDictIn K C = true) (ssC : PySem.W.subIn K (.ref C) (.ref C) = some true)
    (hdT : PySem.W.hasDictIn K T = true) (tyT : PySem.W.typeIn K (.ref T) = some (.type "type")) (ssT : PySem.W.subIn K (.ref C) (.ref T) = some true) (iC : PySem.W.findIn K (.ref C) "__init__" = some (some (.ref fI))) (tI : PySem.W.typeIn K (.ref fI) = some (.type "function"))
    (lI : K.lookup fI = some ⟨oc, od, .func (PySem.W.ksFn "__init__" "NotLet.__init__" (defArgs sInit) (defBody sInit) (defScope sInit) .none kV dc pm an (.ref cda) ct cc), sl⟩) (cI : PySem.W.codeIn K (.ref cda) "NotLet.__init__" = true) (lcd : K.lookup cda = some ⟨ccl, cdd, .fields vs, ccs⟩) (hvs : vs[2]? = some (.str file tf))
    (hfile : ((P.main.file : Str) == file) = true) (lcc : K.lookup cc = some ⟨cl, cld, .cell (some (.ref C)), csl⟩) (op : PySem.W.nsIn K cStatics "thirdparty.any" = some none) (sup : PySem.W.ks_superIn K C C "__init__" = some (some (.builtin "ValueError.__init__"))) (self : PySem.W.mroIn K C (.ref C) = some true)
    (top : (P.main.scope.names.lookup ("super" : Str)).isSome = false) : NotLetAt K P C T :=
  ⟨gC, gT, zS, ⟨⟨nm, q, N, bs, bm, sn, sub, ab, col, dd, k0, k1, k2, k3, k5, lC, hbm⟩, sa, exC, tyC, kC⟩, ⟨nm, q, N, bs, bm, sn, sub, ab, col, dd, k0, k1, k2, k3, k5, lC, hbm⟩, exB, no, xfB_ok xf, PySem.W.exm_ref exC hdC tyC ssC, kit_of hdT tyT ssT,
    ⟨fI, cda, cc, oc, od, an, kV, dc, pm, ct, sl, iC, tI, lI, cI, ⟨ccl, cdd, vs, ccs, file, tf, lcd, hvs, hfile⟩, cl, cld, csl, lcc⟩, op, sup, self, top⟩
theorem all_mk {l : PySem.W.OpenLaw} {w : World} {K : PySem.W.Frag} {h : Heap} {mg : Str → Option Value} {fa C T : Addr} (X : K.In h) (G : h.Ns PySem.mainGlobals mg) (hfa : mg "law" = some (.ref fa)) (z : NoNames K) (nl : NotLetAt K l.prog C T)
    (d1 : DefAt K "copied" (topS 1)) (d5 : DefAt K "three_behind" (topS 5)) (d6 : DefAt K "move_places" (topS 6)) (d7 : DefAt K "is_move_place" (topS 7)) (d8 : DefAt K "behind_move" (topS 8)) (d9 : DefAt K "made_at" (topS 9)) (d10 : DefAt K "led_by" (topS 10)) (d12 : DefAt K "_law_source" (topS 12)) (d13 : DefAt K "_law_pick" (topS 13))
    (d14 : DefAt K "_law_of" (topS 14)) (d15 : DefAt K "_law_word" (topS 15)) (d16 : DefAt K "_law_three" (topS 16)) (d17 : DefAt K "_law_places" (topS 17)) (d18 : DefAt K "_law_moved" (topS 18)) (d19 : DefAt K "_law_told" (topS 19)) (d20 : DefAt K "_law_led" (topS 20)) (d21 : DefAt K "_law_way" (topS 21)) (d22 : DefAt K "law" (topS 22)) :
    ∃ fd : FuncData, (∀ (s : Shared) (u : Value), BindsTo s fd ⟨[u], []⟩ [("script", u)]) ∧ ∀ base : Heap, K.In base → base.Ns PySem.mainGlobals mg → FnG ⟨l.prog, w, K, mg, base⟩ 7 fa fd ["script"] (spLawG K 63) := by
  obtain ⟨f22, fd22, g22, F22⟩ := d22
  have e := hfa.symm.trans (PySem.W.mg_of X G g22)
  cases e
  refine ⟨fd22, ?_, fun base _ _ => ?_⟩
  · obtain ⟨oc, od, kV, doc, pm, an, cdv, ct, osl, rfl, _⟩ := F22.ex
    exact fun s u => .of_eq rfl
  have B : Blt ⟨l.prog, w, K, mg, base⟩ := z.blt X G
  obtain ⟨f1, fd1, g1, F1⟩ := d1
  obtain ⟨f5, fd5, g5, F5⟩ := d5
  obtain ⟨f6, fd6, g6, F6⟩ := d6
  obtain ⟨f7, fd7, g7, F7⟩ := d7
  obtain ⟨f8, fd8, g8, F8⟩ := d8
  obtain ⟨f9, fd9, g9, F9⟩ := d9
  obtain ⟨f10, fd10, g10, F10⟩ := d10
  obtain ⟨f12, fd12, g12, F12⟩ := d12
  obtain ⟨f13, fd13, g13, F13⟩ := d13
  obtain ⟨f14, fd14, g14, F14⟩ := d14
  obtain ⟨f15, fd15, g15, F15⟩ := d15
  obtain ⟨f16, fd16, g16, F16⟩ := d16
  obtain ⟨f17, fd17, g17, F17⟩ := d17
  obtain ⟨f18, fd18, g18, F18⟩ := d18
  obtain ⟨f19, fd19, g19, F19⟩ := d19
  obtain ⟨f20, fd20, g20, F20⟩ := d20
  obtain ⟨f21, fd21, g21, F21⟩ := d21
  have c1 := b1 (c := ⟨l.prog, w, K, mg, base⟩) (a := "value") F1 fun _ _ _ _ _ _ _ => rfl
  have h1 : FnH ⟨l.prog, w, K, mg, base⟩ "copied" 2 (spCop (Cop 1)) := ⟨f1, fd1, _, ok_copied B (PySem.W.mg_of X G g1) F1.kp c1 F1 1, PySem.W.mg_of X G g1, F1.kp, c1⟩
  have gC : mg "NotLet" = some (.ref C) := PySem.W.mg_of X G nl.gC
  have gT : mg "TableError" = some (.ref T) := PySem.W.mg_of X G nl.gT
  have KN : XCls ⟨l.prog, w, K, mg, base⟩ "NotLet" 2 C "step" (Cop 1) := xcls nl gC (PySem.W.mg_none_of X G nl.zS) h1
  have h5 : FnH ⟨l.prog, w, K, mg, base⟩ "three_behind" 1 spThree := ⟨f5, fd5, _, ok_three B F5 (.inl rfl), PySem.W.mg_of X G g5, F5.kp, b3 (c := ⟨l.prog, w, K, mg, base⟩) F5 fun _ _ _ _ _ _ _ _ _ => rfl⟩
  have h16 : FnH ⟨l.prog, w, K, mg, base⟩ "_law_three" 1 spThree := ⟨f16, fd16, _, ok_three B F16 (.inr rfl), PySem.W.mg_of X G g16, F16.kp, b3 (c := ⟨l.prog, w, K, mg, base⟩) F16 fun _ _ _ _ _ _ _ _ _ => rfl⟩
  have h6 : FnH ⟨l.prog, w, K, mg, base⟩ "move_places" 2 spPlaces := ⟨f6, fd6, _, ok_places B h5 F6, PySem.W.mg_of X G g6, F6.kp, b1 (c := ⟨l.prog, w, K, mg, base⟩) F6 fun _ _ _ _ _ _ _ => rfl⟩
  have h17 : FnH ⟨l.prog, w, K, mg, base⟩ "_law_places" 2 spPlacesL := ⟨f17, fd17, _, ok_placesL B h16 F17, PySem.W.mg_of X G g17, F17.kp, b1 (c := ⟨l.prog, w, K, mg, base⟩) F17 fun _ _ _ _ _ _ _ => rfl⟩
  have h7 : FnH ⟨l.prog, w, K, mg, base⟩ "is_move_place" 3 spIsPl := ⟨f7, fd7, _, ok_isPl B h6 F7, PySem.W.mg_of X G g7, F7.kp, b2 (c := ⟨l.prog, w, K, mg, base⟩) F7 fun _ _ _ _ _ _ _ _ => rfl⟩
  have h8 : FnH ⟨l.prog, w, K, mg, base⟩ "behind_move" 2 spMoved := ⟨f8, fd8, _, ok_moved B h5 F8, PySem.W.mg_of X G g8, F8.kp, b2 (c := ⟨l.prog, w, K, mg, base⟩) F8 fun _ _ _ _ _ _ _ _ => rfl⟩
  have h18 : FnH ⟨l.prog, w, K, mg, base⟩ "_law_moved" 2 spMoved := ⟨f18, fd18, _, ok_movedL B h16 F18, PySem.W.mg_of X G g18, F18.kp, b2 (c := ⟨l.prog, w, K, mg, base⟩) F18 fun _ _ _ _ _ _ _ _ => rfl⟩
  have h9 : FnH ⟨l.prog, w, K, mg, base⟩ "made_at" 5 (spMade C) := ⟨f9, fd9, _, ok_made B h7 h8 KN F9, PySem.W.mg_of X G g9, F9.kp, b2 (c := ⟨l.prog, w, K, mg, base⟩) F9 fun _ _ _ _ _ _ _ _ => rfl⟩
  have h10 : FnH ⟨l.prog, w, K, mg, base⟩ "led_by" 4 spLed := ⟨f10, fd10, _, ok_led B h7 h8 F10, PySem.W.mg_of X G g10, F10.kp, b2 (c := ⟨l.prog, w, K, mg, base⟩) F10 fun _ _ _ _ _ _ _ _ => rfl⟩
  have h20 : FnH ⟨l.prog, w, K, mg, base⟩ "_law_led" 4 spLed := ⟨f20, fd20, _, ok_ledL B h17 h18 F20, PySem.W.mg_of X G g20, F20.kp, b2 (c := ⟨l.prog, w, K, mg, base⟩) F20 fun _ _ _ _ _ _ _ _ => rfl⟩
  have h12 : FnH ⟨l.prog, w, K, mg, base⟩ "_law_source" 1 (spSource K) := ⟨f12, fd12, _, ok_source B F12, PySem.W.mg_of X G g12, F12.kp, b1 (c := ⟨l.prog, w, K, mg, base⟩) F12 fun _ _ _ _ _ _ _ => rfl⟩
  have h13 : FnH ⟨l.prog, w, K, mg, base⟩ "_law_pick" 1 spPick := ⟨f13, fd13, _, ok_pick B F13, PySem.W.mg_of X G g13, F13.kp, b2 (c := ⟨l.prog, w, K, mg, base⟩) F13 fun _ _ _ _ _ _ _ _ => rfl⟩
  have h14 : FnH ⟨l.prog, w, K, mg, base⟩ "_law_of" 2 spOf := ⟨f14, fd14, _, ok_of B h13 F14, PySem.W.mg_of X G g14, F14.kp, b2 (c := ⟨l.prog, w, K, mg, base⟩) F14 fun _ _ _ _ _ _ _ _ => rfl⟩
  have h15 : FnH ⟨l.prog, w, K, mg, base⟩ "_law_word" 2 spWord := ⟨f15, fd15, _, ok_word B h13 F15, PySem.W.mg_of X G g15, F15.kp, b3 (c := ⟨l.prog, w, K, mg, base⟩) F15 fun _ _ _ _ _ _ _ _ _ => rfl⟩
  have h21 : FnH ⟨l.prog, w, K, mg, base⟩ "_law_way" 3 spWay := ⟨f21, fd21, _, ok_way B h13 h14 h17 h18 F21, PySem.W.mg_of X G g21, F21.kp, b3 (c := ⟨l.prog, w, K, mg, base⟩) F21 fun _ _ _ _ _ _ _ _ _ => rfl⟩
  have h19 : FnH ⟨l.prog, w, K, mg, base⟩ "_law_told" 6 spTold := ⟨f19, fd19, _, ok_told B h9 gC gT nl.exm nl.kt nl.xf nl.no F19, PySem.W.mg_of X G g19, F19.kp, b2 (c := ⟨l.prog, w, K, mg, base⟩) F19 fun _ _ _ _ _ _ _ _ => rfl⟩
  exact ok_law B h12 h15 h13 h14 h6 h17 h18 h19 h9 h21 h10 h20 F22
end T12
open PySem PySem.W PyProof.Rows
set_option maxHeartbeats 0 in
theorem PySem.Challenge.cw_piledtables_k12_moves_of_three_holds : PySem.Challenge.rw_piledtables_k12_moves_of_three.Holds := by
  w_on; o_law; k_head; (case hw => w_witness2)
  k_fill
  refine G.walkG (l := PySem.Challenge.rw_piledtables_k12_moves_of_three) (n := 63) (k := 7) (x := "script") rfl (by decide) rfl ⟨rfl, by decide, by decide⟩ (fun w h Y => PySem.W.kIn_of Y) ?F
  case F =>
    intro w mg fa h KX G hmg
    refine' T12.all_mk KX G hmg ?z ?nl ?d1 ?d5 ?d6 ?d7 ?d8 ?d9 ?d10 ?d12 ?d13 ?d14 ?d15 ?d16 ?d17 ?d18 ?d19 ?d20 ?d21 ?d22
    case z => constructor <;> k_is
    case d1 => exact T12.defAt (by k_is) (by k_is) (by k_is) (by k_is)
    case d5 => exact T12.defAt (by k_is) (by k_is) (by k_is) (by k_is)
    case d6 => exact T12.defAt (by k_is) (by k_is) (by k_is) (by k_is)
    case d7 => exact T12.defAt (by k_is) (by k_is) (by k_is) (by k_is)
    case d8 => exact T12.defAt (by k_is) (by k_is) (by k_is) (by k_is)
    case d9 => exact T12.defAt (by k_is) (by k_is) (by k_is) (by k_is)
    case d10 => exact T12.defAt (by k_is) (by k_is) (by k_is) (by k_is)
    case d12 => exact T12.defAt (by k_is) (by k_is) (by k_is) (by k_is)
    case d13 => exact T12.defAt (by k_is) (by k_is) (by k_is) (by k_is)
    case d14 => exact T12.defAt (by k_is) (by k_is) (by k_is) (by k_is)
    case d15 => exact T12.defAt (by k_is) (by k_is) (by k_is) (by k_is)
    case d16 => exact T12.defAt (by k_is) (by k_is) (by k_is) (by k_is)
    case d17 => exact T12.defAt (by k_is) (by k_is) (by k_is) (by k_is)
    case d18 => exact T12.defAt (by k_is) (by k_is) (by k_is) (by k_is)
    case d19 => exact T12.defAt (by k_is) (by k_is) (by k_is) (by k_is)
    case d20 => exact T12.defAt (by k_is) (by k_is) (by k_is) (by k_is)
    case d21 => exact T12.defAt (by k_is) (by k_is) (by k_is) (by k_is)
    case d22 => exact T12.defAt (by k_is) (by k_is) (by k_is) (by k_is)
    case nl =>
      refine' T12.notLetAt ?gC ?gT ?zS ?lC ?hbm ?sa ?exC ?tyC ?kC ?exB ?no ?xf ?hdC ?ssC ?hdT ?tyT ?ssT ?iC ?tI ?lI ?cI ?lcd ?hvs ?hfile ?lcc ?op ?sup ?self ?top
      case gC => k_is
      case gT => k_is
      case zS => k_is
      case lC => k_is
      case hbm => first | rfl | k_is | decide +kernel
      case sa => k_is
      case exC => k_is
      case tyC => k_is
      case kC => k_is
      case exB => k_is
      case no => k_is
      case xf => first | rfl | k_is | decide +kernel
      case hdC => k_is
      case ssC => k_is
      case hdT => k_is
      case tyT => k_is
      case ssT => k_is
      case iC => k_is
      case tI => k_is
      case lI => k_is
      case cI => k_is
      case lcd => k_is
      case hvs => first | rfl | k_is | decide +kernel
      case hfile => first | rfl | k_is | decide +kernel
      case lcc => k_is
      case op => k_is
      case sup => first | ks_is | k_is | rfl | decide +kernel
      case self => k_is
      case top => first | rfl | k_is | decide +kernel

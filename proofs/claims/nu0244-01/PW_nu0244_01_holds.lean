import PyProof.Rows.All
import Wide.All
import OpenK.AllK
import Wide.FinOn
import PyProof.ExcBaseAll.Exception
import PyProof.ExcInit
import PyProof.InstStoreFacts
import PyProof.ExcAttrAll.Exception
import PyProof.StationsW
import KE.KTryMore
import PySem.Challenge.RW_nu0244_01
set_option Elab.async false
set_option compiler.extract_closed false
set_option linter.all false
namespace Rup
open PySem PySem.W PySem.Calls PyProof.Rows PySem.SeqAt
-- RA
noncomputable section
open PySem PySem.W PyProof.Rows
inductive V where
  | none | bool (b : Bool) | int (i : Int) | str (s : Str) | tup (vs : List V) | ref (a : Addr) | ty (n : String) | bi (id : String)
mutual
def VR (h : Heap) : V → Value → Prop
  | .none, x => x = .none
  | .bool b, x => x = .bool b
  | .int i, x => ∃ t, x = .int i t
  | .str s, x => ∃ t, x = .str s t
  | .ref a, x => x = .ref a
  | .ty n, x => x = .type n
  | .bi n, x => x = .builtin n
  | .tup vs, x => ∃ a items, x = .ref a ∧ h.IsTuple a items ∧ LR h vs items.toList
def LR (h : Heap) : List V → List Value → Prop
  | [], ys => ys = []
  | v :: vs, ys => ∃ y r, ys = y :: r ∧ VR h v y ∧ LR h vs r
end
def TK (h h' : Heap) : Prop := ∀ a items, h.IsTuple a items → h'.IsTuple a items
theorem TK.refl {h : Heap} : TK h h := fun zz zz x => x
theorem TK.trans {h h' h'' : Heap} (x : TK h h') (y : TK h' h'') : TK h h'' := fun a i z => y a i (x a i z)
mutual
theorem VR.mono {h h' : Heap} (k : TK h h') : ∀ {v : V} {x : Value}, VR h v x → VR h' v x
  | .none, _, y => by simp only [VR] at y ⊢; exact y
  | .bool _, _, y => by simp only [VR] at y ⊢; exact y
  | .int _, _, y => by simp only [VR] at y ⊢; exact y
  | .str _, _, y => by simp only [VR] at y ⊢; exact y
  | .ref _, _, y => by simp only [VR] at y ⊢; exact y
  | .ty _, _, y => by simp only [VR] at y ⊢; exact y
  | .bi _, _, y => by simp only [VR] at y ⊢; exact y
  | .tup vs, _, y => by
    simp only [VR] at y ⊢
    obtain ⟨a, items, e, t, l⟩ := y
    exact ⟨a, items, e, k _ _ t, LR.mono k l⟩
theorem LR.mono {h h' : Heap} (k : TK h h') : ∀ {vs : List V} {xs : List Value}, LR h vs xs → LR h' vs xs
  | [], _, y => by simp only [LR] at y ⊢; exact y
  | v :: vs, _, y => by
    simp only [LR] at y ⊢
    obtain ⟨z, r, e, a, b⟩ := y
    exact ⟨z, r, e, VR.mono k a, LR.mono k b⟩
end
theorem LR.length {h : Heap} : ∀ {vs : List V} {xs : List Value}, LR h vs xs → xs.length = vs.length
  | [], _, y => by simp only [LR] at y; subst y; rfl
  | v :: vs, _, y => by
    simp only [LR] at y
    obtain ⟨z, r, e, zz, b⟩ := y
    subst e; simp [LR.length b]
theorem LR.cons {h : Heap} {v : V} {vs : List V} {x : Value} {xs : List Value} (a : VR h v x) (b : LR h vs xs) : LR h (v :: vs) (x :: xs) := by
  simp only [LR]; exact ⟨x, xs, rfl, a, b⟩
theorem LR.nil {h : Heap} : LR h [] [] := by simp only [LR]
theorem LR.append {h : Heap} : ∀ {vs ws : List V} {xs ys : List Value}, LR h vs xs → LR h ws ys → LR h (vs ++ ws) (xs ++ ys)
  | [], _, _, _, a, b => by simp only [LR] at a; subst a; exact b
  | v :: vs, _, _, _, a, b => by
    simp only [LR] at a
    obtain ⟨z, r, e, a1, a2⟩ := a
    subst e; exact LR.cons a1 (LR.append a2 b)
theorem LR.get {h : Heap} : ∀ {vs : List V} {xs : List Value} {i : Nat} {v : V}, LR h vs xs → vs[i]? = some v → ∃ x, xs[i]? = some x ∧ VR h v x
  | [], _, _, _, _, e => by simp at e
  | w :: vs, _, 0, v, a, e => by
    simp only [LR] at a
    obtain ⟨z, r, rfl, a1, a2⟩ := a
    simp at e; subst e; exact ⟨z, rfl, a1⟩
  | w :: vs, _, i + 1, v, a, e => by
    simp only [LR] at a
    obtain ⟨z, r, rfl, a1, a2⟩ := a
    simp at e; simpa using LR.get a2 e
theorem LR.getNone {h : Heap} {vs : List V} {xs : List Value} {i : Nat} (l : LR h vs xs) (e : vs[i]? = none) : xs[i]? = none := by
  rw [List.getElem?_eq_none_iff] at e ⊢; rw [l.length]; exact e
theorem LR.take {h : Heap} : ∀ {vs : List V} {xs : List Value} (n : Nat), LR h vs xs → LR h (vs.take n) (xs.take n)
  | [], _, n, a => by simp only [LR] at a; subst a; simp [LR]
  | v :: vs, _, 0, a => by simp [LR]
  | v :: vs, _, n + 1, a => by
    simp only [LR] at a
    obtain ⟨z, r, rfl, a1, a2⟩ := a
    exact LR.cons a1 (LR.take n a2)
theorem LR.drop {h : Heap} : ∀ {vs : List V} {xs : List Value} (n : Nat), LR h vs xs → LR h (vs.drop n) (xs.drop n)
  | [], _, n, a => by simp only [LR] at a; subst a; simp [LR]
  | v :: vs, _, 0, a => a
  | v :: vs, _, n + 1, a => by
    simp only [LR] at a
    obtain ⟨z, r, rfl, a1, a2⟩ := a
    exact LR.drop n a2
theorem LR.set {h : Heap} : ∀ {vs : List V} {xs : List Value} (i : Nat) {v : V} {x : Value}, LR h vs xs → VR h v x → LR h (vs.set i v) (xs.set i x)
  | [], _, n, _, _, a, _ => by simp only [LR] at a; subst a; simp [LR]
  | w :: vs, _, 0, _, _, a, b => by
    simp only [LR] at a
    obtain ⟨z, r, rfl, a1, a2⟩ := a
    exact LR.cons b a2
  | w :: vs, _, i + 1, _, _, a, b => by
    simp only [LR] at a
    obtain ⟨z, r, rfl, a1, a2⟩ := a
    exact LR.cons a1 (LR.set i a2 b)
theorem LR.ints {h : Heap} : ∀ {ns : List Int} {xs : List Value}, LR h (ns.map .int) xs → IntsAre xs ns
  | [], _, a => by simp only [List.map_nil, LR] at a; subst a; exact .nil
  | n :: ns, _, a => by
    simp only [List.map_cons, LR, VR] at a
    obtain ⟨z, r, rfl, ⟨t, rfl⟩, a2⟩ := a
    exact .cons _ _ (LR.ints a2)
theorem LR.ofInts {h : Heap} {ns : List Int} {xs : List Value} (a : IntsAre xs ns) : LR h (ns.map .int) xs := by
  induction a with
  | nil => exact .nil
  | cons n t _ ih => exact LR.cons (by simp only [VR]; exact ⟨_, rfl⟩) ih
inductive D where
  | di (kvs : List (Int × V)) | ds (kvs : List (Str × V)) | at (fs : List (Str × V))
structure HS where
  li : Addr → Option (List V)
  dm : Addr → Option D
  ob : Addr → Option (Addr × Addr)
  st : Addr → Option (List Int)
def upd {α : Type} (f : Addr → Option α) (a : Addr) (x : α) : Addr → Option α := fun b => if b = a then some x else f b
theorem upd_same {α : Type} {f : Addr → Option α} {a : Addr} {x : α} : upd f a x a = some x := if_pos rfl
theorem upd_ne {α : Type} {f : Addr → Option α} {a b : Addr} {x : α} (h : b ≠ a) : upd f a x b = f b := if_neg h
def HS.setLi (σ : HS) (a : Addr) (x : List V) : HS := { σ with li := upd σ.li a x }
def HS.setDm (σ : HS) (a : Addr) (x : D) : HS := { σ with dm := upd σ.dm a x }
def HS.setOb (σ : HS) (a : Addr) (x : Addr × Addr) : HS := { σ with ob := upd σ.ob a x }
def HS.setSt (σ : HS) (a : Addr) (x : List Int) : HS := { σ with st := upd σ.st a x }
structure HS.Fresh (σ : HS) (a : Addr) : Prop where
  li : σ.li a = none
  dm : σ.dm a = none
  ob : σ.ob a = none
  st : σ.st a = none
def LI (h : Heap) (a : Addr) (items : Array Value) : Prop := ∃ o, h.get? a = some o ∧ ∃ n, o = { cls := .type "list", data := .seq items n }
theorem LI.isList {h : Heap} {a : Addr} {items : Array Value} (x : LI h a items) : h.IsList a items := by obtain ⟨o, ho, n, rfl⟩ := x; exact ⟨_, ho, rfl, n, rfl⟩
theorem LI.of {h : Heap} {a : Addr} {items : Array Value} (x : h.PlainList a items) : LI h a items := by obtain ⟨n, ho⟩ := x; exact ⟨_, ho, n, rfl⟩
theorem of0 {p : List Value → Prop} (h : p []) : ∀ xs : List Value, xs.length = 0 → p xs := fun xs e => by
  rw [List.eq_nil_of_length_eq_zero e]; exact h
theorem ofS {n : Nat} {p : List Value → Prop} (h : ∀ a xs, xs.length = n → p (a :: xs)) : ∀ xs : List Value, xs.length = n + 1 → p xs := fun xs e => by
  cases xs with
  | nil => cases e
  | cons a r => exact h a r (Nat.succ.inj e)
theorem of1 {p : List Value → Prop} (h : ∀ a, p [a]) : ∀ xs : List Value, xs.length = 1 → p xs := ofS fun a => of0 (h a)
theorem of2 {p : List Value → Prop} (h : ∀ a b, p [a, b]) : ∀ xs : List Value, xs.length = 2 → p xs := ofS fun a => of1 (h a)
theorem of3 {p : List Value → Prop} (h : ∀ a b c, p [a, b, c]) : ∀ xs : List Value, xs.length = 3 → p xs := ofS fun a => of2 (h a)
theorem of4 {p : List Value → Prop} (h : ∀ a b c d, p [a, b, c, d]) : ∀ xs : List Value, xs.length = 4 → p xs := ofS fun a => of3 (h a)
theorem of5 {p : List Value → Prop} (h : ∀ a b c d e, p [a, b, c, d, e]) : ∀ xs : List Value, xs.length = 5 → p xs := ofS fun a => of4 (h a)
end
-- RB
noncomputable section
open PySem PySem.W PyProof.Rows
structure Wd where
  prog : Program
  w : World
  base : Heap
  os : OsState
def DR (W : Wd) (h : Heap) (a : Addr) : D → Prop
  | .di kvs => (a == sysModules) = false ∧ ∃ ys, h.DictOf (intKind W.prog W.w) a ys ∧ ys.map (·.1) = kvs.map (·.1) ∧ LR h (kvs.map (·.2)) (ys.map (·.2))
  | .ds kvs => (a == sysModules) = false ∧ ∃ ys, h.DictOf (strKind W.prog W.w) a ys ∧ ys.map (·.1) = kvs.map (·.1) ∧ LR h (kvs.map (·.2)) (ys.map (·.2))
  | .at fs => ∃ mv, h.Ns1 a mv ∧ ∀ x, match fs.lookup x with
      | some v => ∃ u, mv x = some u ∧ VR h v u
      | none => mv x = none
structure HR (W : Wd) (R : Addr → Option Obj) (σ : HS) (h : Heap) : Prop where
  keep : ∀ b o, R b = some o → h.get? b = some o
  li : ∀ a vs, σ.li a = some vs → R a = none ∧ ∃ items, LI h a items ∧ LR h vs items.toList
  dm : ∀ a d, σ.dm a = some d → R a = none ∧ DR W h a d
  ob : ∀ a C d, σ.ob a = some (C, d) → R a = none ∧ h.get? a = some (instObj C d)
  st : ∀ a ns, σ.st a = some ns → R a = none ∧ ns.Nodup ∧ h.SetOf (intKind W.prog W.w) a (fun i => decide (i ∈ ns)) ns.length
theorem DR.mono {W : Wd} {h h' : Heap} {a : Addr} {d : D} (x : DR W h a d) (e : ∀ o, h.get? a = some o → h'.get? a = some o) (k : TK h h') : DR W h' a d := by
  cases d with
  | di kvs =>
    obtain ⟨sm, ys, ⟨o, es, ep, ho, r⟩, h1, h2⟩ := x
    exact ⟨sm, ys, ⟨o, es, ep, e _ ho, r⟩, h1, h2.mono k⟩
  | ds kvs =>
    obtain ⟨sm, ys, ⟨o, es, ep, ho, r⟩, h1, h2⟩ := x
    exact ⟨sm, ys, ⟨o, es, ep, e _ ho, r⟩, h1, h2.mono k⟩
  | «at» fs =>
    obtain ⟨mv, ⟨o, es, ep, ho, r⟩, h3⟩ := x
    refine ⟨mv, ⟨o, es, ep, e _ ho, r⟩, fun y => ?_⟩
    have := h3 y
    split at this
    · rename_i v q
      obtain ⟨u, a1, a2⟩ := this
      exact ⟨u, a1, a2.mono k⟩
    · exact this
theorem DR.obj {W : Wd} {h : Heap} {a : Addr} {d : D} (x : DR W h a d) : ∃ o es ep, h.get? a = some o ∧ o.data = .dict es ep := by
  cases d with
  | di kvs => obtain ⟨_, ys, ⟨o, es, ep, ho, c, d, _⟩, _⟩ := x; exact ⟨o, es, ep, ho, d⟩
  | ds kvs => obtain ⟨_, ys, ⟨o, es, ep, ho, c, d, _⟩, _⟩ := x; exact ⟨o, es, ep, ho, d⟩
  | «at» fs =>
    obtain ⟨mv, ⟨o, es, ep, ho, d, zz⟩, zz⟩ := x
    exact ⟨o, es, ep, ho, d⟩
def KeepBut (L : Addr) (h h' : Heap) : Prop := ∀ b o, b ≠ L → h.get? b = some o → h'.get? b = some o
def NoTup (h : Heap) (a : Addr) : Prop := ∀ items, ¬ h.IsTuple a items
theorem KeepBut.tk {L : Addr} {h h' : Heap} (k : KeepBut L h h') (n : NoTup h L) : TK h h' := fun a items x => by
  obtain ⟨o, ho, r⟩ := id x
  by_cases e : a = L
  · subst e; exact absurd x (n _)
  · exact ⟨o, k a o e ho, r⟩
theorem noTup_cls {h : Heap} {a : Addr} {o : Obj} (ho : h.get? a = some o) (hc : o.cls ≠ .type "tuple") : NoTup h a := fun items x => by
  obtain ⟨o', ho', c, zz⟩ := x
  rw [ho] at ho'; cases ho'; exact hc c
theorem noTup_dict {h : Heap} {a : Addr} {o : Obj} {es ep} (ho : h.get? a = some o) (hc : o.data = .dict es ep) : NoTup h a := fun items x => by
  obtain ⟨o', ho', c, n, d⟩ := x
  rw [ho] at ho'; cases ho'; rw [hc] at d; cases d
theorem noTup_cell {h : Heap} {a : Addr} {v} (x : h.IsCell a v) : NoTup h a := fun items y => by
  obtain ⟨o', ho', c, n, d⟩ := y
  obtain ⟨o, ho, hd⟩ := x
  rw [ho] at ho'; cases ho'; rw [hd] at d; cases d
theorem sb_keepBut {a : Addr} {h h' : Heap} (x : Heap.SameBut a h h') : KeepBut a h h' := fun b o e ho => (x.2 b e).trans ho
theorem HR.but {W : Wd} {R R' : Addr → Option Obj} {σ : HS} {h h' : Heap} {L : Addr} (x : HR W R σ h) (k : KeepBut L h h') (hL : R L ≠ none) (n : NoTup h L)
    (hR : ∀ b, b ≠ L → R' b = R b) (hRL : ∀ o, R' L = some o → h'.get? L = some o) : HR W R' σ h' := by
  have tk := k.tk n
  have ne : ∀ a, R a = none → a ≠ L := fun a e q => hL (q ▸ e)
  refine ⟨fun b o e => ?_, fun a vs e => ?_, fun a d e => ?_, fun a C d e => ?_, fun a ns e => ?_⟩
  · by_cases q : b = L
    · subst q; exact hRL o e
    · exact k b o q (x.keep b o (hR b q ▸ e))
  · obtain ⟨r, items, ⟨o, ho, c⟩, l⟩ := x.li a vs e
    exact ⟨(hR a (ne a r)).trans r, items, ⟨o, k a o (ne a r) ho, c⟩, l.mono tk⟩
  · obtain ⟨r, d'⟩ := x.dm a d e
    exact ⟨(hR a (ne a r)).trans r, d'.mono (fun o ho => k a o (ne a r) ho) tk⟩
  · obtain ⟨r, d'⟩ := x.ob a C d e
    exact ⟨(hR a (ne a r)).trans r, k a _ (ne a r) d'⟩
  · obtain ⟨r, d', o, es, ep, tb, ho, q⟩ := x.st a ns e
    exact ⟨(hR a (ne a r)).trans r, d', o, es, ep, tb, k a o (ne a r) ho, q⟩
theorem HR.fresh {W : Wd} {R : Addr → Option Obj} {σ : HS} {h : Heap} {a : Addr} (x : HR W R σ h) (e : h.get? a = none) : R a = none ∧ σ.Fresh a := by
  refine ⟨?_, ?_, ?_, ?_, ?_⟩
  · cases q : R a with
    | none => rfl
    | some o => rw [x.keep a o q] at e; cases e
  · cases q : σ.li a with
    | none => rfl
    | some o => obtain ⟨zz, zz, ⟨o, ho, zz⟩, zz⟩ := x.li a _ q; rw [ho] at e; cases e
  · cases q : σ.dm a with
    | none => rfl
    | some o => obtain ⟨o, zz, zz, ho, zz⟩ := (x.dm a _ q).2.obj; rw [ho] at e; cases e
  · cases q : σ.ob a with
    | none => rfl
    | some o => have := (x.ob a o.1 o.2 q).2; rw [this] at e; cases e
  · cases q : σ.st a with
    | none => rfl
    | some o => obtain ⟨zz, zz, o, zz, zz, zz, ho, zz⟩ := x.st a _ q; rw [ho] at e; cases e
theorem get_size (h : Heap) : h.get? h.objs.size = none := by
  cases q : h.get? h.objs.size with
  | none => rfl
  | some o => exact absurd (Heap.lt_size q) (Nat.lt_irrefl _)
def KeepAll (h h' : Heap) : Prop := ∀ b o, h.get? b = some o → h'.get? b = some o
theorem KeepAll.tk {h h' : Heap} (k : KeepAll h h') : TK h h' := fun a items ⟨o, ho, r⟩ => ⟨o, k a o ho, r⟩
theorem KeepAll.trans {h h' h'' : Heap} (a : KeepAll h h') (b : KeepAll h' h'') : KeepAll h h'' := fun x o e => b x o (a x o e)
theorem KeepAll.push (h : Heap) (o : Obj) : KeepAll h (h.push o) := fun zz zz e => Heap.get?_push_of_some o e
theorem HR.keeps {W : Wd} {R : Addr → Option Obj} {σ : HS} {h h' : Heap} (x : HR W R σ h) (k : KeepAll h h') : HR W R σ h' := by
  have tk := k.tk
  refine ⟨fun b o e => k b o (x.keep b o e), fun a vs e => ?_, fun a d e => ?_, fun a C d e => ?_, fun a ns e => ?_⟩
  · obtain ⟨r, items, ⟨o, ho, c⟩, l⟩ := x.li a vs e
    exact ⟨r, items, ⟨o, k a o ho, c⟩, l.mono tk⟩
  · obtain ⟨r, d'⟩ := x.dm a d e
    exact ⟨r, d'.mono (fun o ho => k a o ho) tk⟩
  · obtain ⟨r, d'⟩ := x.ob a C d e
    exact ⟨r, k a _ d'⟩
  · obtain ⟨r, d', o, es, ep, tb, ho, q⟩ := x.st a ns e
    exact ⟨r, d', o, es, ep, tb, k a o ho, q⟩
theorem HR.addLi {W : Wd} {R : Addr → Option Obj} {σ : HS} {h : Heap} {a : Addr} {items : Array Value} {vs : List V} (x : HR W R σ h) (r : R a = Option.none) (l : LI h a items) (e : LR h vs items.toList) : HR W R (σ.setLi a vs) h := by
  refine ⟨x.keep, fun b ws q => ?_, x.dm, x.ob, x.st⟩
  by_cases hb : b = a
  · subst hb; simp only [HS.setLi, upd_same] at q; cases q; exact ⟨r, items, l, e⟩
  · simp only [HS.setLi, upd_ne hb] at q; exact x.li b ws q
theorem HR.addDm {W : Wd} {R : Addr → Option Obj} {σ : HS} {h : Heap} {a : Addr} {d : D} (x : HR W R σ h) (r : R a = Option.none) (l : DR W h a d) : HR W R (σ.setDm a d) h := by
  refine ⟨x.keep, x.li, fun b ws q => ?_, x.ob, x.st⟩
  by_cases hb : b = a
  · subst hb; simp only [HS.setDm, upd_same] at q; cases q; exact ⟨r, l⟩
  · simp only [HS.setDm, upd_ne hb] at q; exact x.dm b ws q
theorem HR.addOb {W : Wd} {R : Addr → Option Obj} {σ : HS} {h : Heap} {a C d : Addr} (x : HR W R σ h) (r : R a = Option.none) (l : h.get? a = some (instObj C d)) : HR W R (σ.setOb a (C, d)) h := by
  refine ⟨x.keep, x.li, x.dm, fun b C' d' q => ?_, x.st⟩
  by_cases hb : b = a
  · subst hb; simp only [HS.setOb, upd_same] at q; cases q; exact ⟨r, l⟩
  · simp only [HS.setOb, upd_ne hb] at q; exact x.ob b C' d' q
def HS.del (σ : HS) (a : Addr) : HS := ⟨fun b => if b = a then none else σ.li b, fun b => if b = a then none else σ.dm b, fun b => if b = a then none else σ.ob b, fun b => if b = a then none else σ.st b⟩
theorem HR.del {W : Wd} {R : Addr → Option Obj} {σ : HS} {h h' : Heap} {a : Addr} (x : HR W R σ h) (k : KeepBut a h h') (r : R a = Option.none) (n : NoTup h a) : HR W R (σ.del a) h' := by
  have tk := k.tk n
  refine ⟨fun b o e => k b o (fun q => by subst q; rw [r] at e; cases e) (x.keep b o e), fun b vs e => ?_, fun b d e => ?_, fun b C d e => ?_, fun b ns e => ?_⟩
  all_goals by_cases q : b = a
  all_goals simp only [HS.del, q, if_true, if_false, reduceCtorEq] at e
  · obtain ⟨r, items, ⟨o, ho, c⟩, l⟩ := x.li b vs e
    exact ⟨r, items, ⟨o, k b o q ho, c⟩, l.mono tk⟩
  · obtain ⟨r, d'⟩ := x.dm b d e
    exact ⟨r, d'.mono (fun o ho => k b o q ho) tk⟩
  · obtain ⟨r, d'⟩ := x.ob b C d e
    exact ⟨r, k b _ q d'⟩
  · obtain ⟨r, d', o, es, ep, tb, ho, z⟩ := x.st b ns e
    exact ⟨r, d', o, es, ep, tb, k b o q ho, z⟩
structure HS.Le (σ τ : HS) : Prop where
  li : ∀ a x, σ.li a = some x → τ.li a = some x
  dm : ∀ a x, σ.dm a = some x → τ.dm a = some x
  ob : ∀ a x, σ.ob a = some x → τ.ob a = some x
  st : ∀ a x, σ.st a = some x → τ.st a = some x
theorem HR.le {W : Wd} {R : Addr → Option Obj} {σ τ : HS} {h : Heap} (x : HR W R τ h) (k : σ.Le τ) : HR W R σ h :=
  ⟨x.keep, fun a vs e => x.li a vs (k.li a vs e), fun a d e => x.dm a d (k.dm a d e), fun a C d e => x.ob a C d (k.ob a _ e), fun a n e => x.st a n (k.st a n e)⟩
theorem HS.Le.refl {σ : HS} : σ.Le σ := ⟨fun zz zz e => e, fun zz zz e => e, fun zz zz e => e, fun zz zz e => e⟩
theorem HR.li_other {W : Wd} {R : Addr → Option Obj} {σ : HS} {h : Heap} (x : HR W R σ h) {a : Addr} {vs : List V} (e : σ.li a = some vs) : σ.dm a = none ∧ σ.ob a = none ∧ σ.st a = none := by
  obtain ⟨zz, zz, ⟨o, ho, n, hc₀⟩, zz⟩ := x.li a vs e
  have hc : ∃ y z, o.data = .seq y z := ⟨_, _, by rw [hc₀]⟩
  obtain ⟨y, z, hc⟩ := hc
  refine ⟨?_, ?_, ?_⟩
  · cases q : σ.dm a with
    | none => rfl
    | some d =>
      obtain ⟨o', zz, zz, ho', hc'⟩ := (x.dm a _ q).2.obj
      rw [ho] at ho'; cases ho'; rw [hc] at hc'; cases hc'
  · cases q : σ.ob a with
    | none => rfl
    | some d => have := (x.ob a d.1 d.2 q).2; rw [ho] at this; rw [Option.some.inj this] at hc; cases hc
  · cases q : σ.st a with
    | none => rfl
    | some d =>
      obtain ⟨zz, zz, o', zz, zz, zz, ho', zz, hd', zz⟩ := x.st a _ q
      rw [ho] at ho'; cases ho'; rw [hc] at hd'; cases hd'
theorem HR.dm_other {W : Wd} {R : Addr → Option Obj} {σ : HS} {h : Heap} (x : HR W R σ h) {a : Addr} {d : D} (e : σ.dm a = some d) : σ.li a = none ∧ σ.ob a = none ∧ σ.st a = none := by
  obtain ⟨o, zz, zz, ho, hd⟩ := (x.dm a d e).2.obj
  refine ⟨?_, ?_, ?_⟩
  · cases q : σ.li a with
    | none => rfl
    | some d => rw [(x.li_other q).1] at e; cases e
  · cases q : σ.ob a with
    | none => rfl
    | some d => have := (x.ob a d.1 d.2 q).2; rw [ho] at this; rw [Option.some.inj this] at hd; cases hd
  · cases q : σ.st a with
    | none => rfl
    | some d =>
      obtain ⟨zz, zz, o', zz, zz, zz, ho', zz, hd', zz⟩ := x.st a _ q
      rw [ho] at ho'; cases ho'; rw [hd] at hd'; cases hd'
theorem le_setLi {W : Wd} {R : Addr → Option Obj} {σ : HS} {h : Heap} (x : HR W R σ h) {a : Addr} {vs ws : List V} (e : σ.li a = some vs) : (σ.setLi a ws).Le ((σ.del a).setLi a ws) := by
  obtain ⟨h1, h2, h3⟩ := x.li_other e
  refine ⟨fun b y q => ?_, fun b y q => ?_, fun b y q => ?_, fun b y q => ?_⟩ <;> by_cases hb : b = a <;> simp only [HS.setLi, HS.del, upd, hb, if_true, if_false] at q ⊢ <;> first | exact q | (rw [h1] at q; cases q) | (rw [h2] at q; cases q) | (rw [h3] at q; cases q)
theorem le_setDm {W : Wd} {R : Addr → Option Obj} {σ : HS} {h : Heap} (x : HR W R σ h) {a : Addr} {d d' : D} (e : σ.dm a = some d) : (σ.setDm a d').Le ((σ.del a).setDm a d') := by
  obtain ⟨h1, h2, h3⟩ := x.dm_other e
  refine ⟨fun b y q => ?_, fun b y q => ?_, fun b y q => ?_, fun b y q => ?_⟩ <;> by_cases hb : b = a <;> simp only [HS.setDm, HS.del, upd, hb, if_true, if_false] at q ⊢ <;> first | exact q | (rw [h1] at q; cases q) | (rw [h2] at q; cases q) | (rw [h3] at q; cases q)
end
-- RC
noncomputable section
open PySem PySem.W PySem.Calls PyProof.Rows
structure Wo extends Wd where
  K : Frag
  mg : Str → Option Value
  mb : Str → Option Value
  kin : K.In base
  hg : base.Ns mainGlobals mg
  hb : base.Ns builtinsNs mb
  nolimit : base.NoLimit
  blt : ∀ x : Str, x ≠ "__name__" → mb x = bootBuiltins x
structure Cx where
  W : Wo
  A : Around
  env : Env
  fn : Bool := true
structure FS where
  m : List (Str × V)
  k : List (Str × V)
  σ : HS
def Rp (R : Addr → Option Obj) (env : Env) (h : Heap) : Addr → Option Obj := fun a => if a = env.locals ∨ a ∈ env.cells.map (·.2) then h.get? a else R a
structure FR (C : Cx) (R : Addr → Option Obj) (fs : FS) (s : Shared) : Prop where
  gens : s.gens = #[]
  os : s.os = C.W.os
  base : ∀ b o, C.W.base.get? b = some o → R b = some o
  rk : ∀ b o, R b = some o → s.heap.get? b = some o
  hr : HR C.W.toWd (Rp R C.env s.heap) fs.σ s.heap
  rl : R C.env.locals = none
  loc : ∃ mv, s.heap.Ns C.env.locals mv ∧ ∀ x v, fs.m.lookup x = some v → ∃ u, mv x = some u ∧ VR s.heap v u
  cells : ∀ x c, (x, c) ∈ C.env.cells → ∃ v₀, s.heap.IsCell c v₀ ∧ ∀ v, fs.k.lookup x = some v → ∃ u, v₀ = some u ∧ VR s.heap v u
  apart : C.env.cells.Pairwise fun x y => x.2 ≠ y.2
  names : (C.env.cells.map (·.1)).Nodup
  co : ∀ x c, (x, c) ∈ C.env.cells → C.fn = true → C.env.kindOf x = some .cell → R c = none
inductive PO {α β : Type} (C : Cx) (R : Addr → Option Obj) (s₀ : Shared) (rel : Heap → β → α → Prop) (Q : β → FS → Prop) (a : α) (s' : Shared) : Prop
  | mk (b : β) (fs' : FS) (F : FR C R fs' s') (t : TK s₀.heap s'.heap) (r : rel s'.heap b a) (q : Q b fs')
abbrev Mo (C : Cx) : Model := model C.W.prog C.W.w
def WP {α β : Type} (C : Cx) (rel : Heap → β → α → Prop) (t : Sem α) (Q : β → FS → Prop) (fs : FS) : Prop :=
  ∀ R s, FR C R fs s → wpAny (Mo C) C.A t (PO C R s rel Q) (fun zz zz => False) s
def OP1 {α β : Type} (C : Cx) (rel : Heap → β → α → Prop) (t : Value → Sem α) (x : V) (Q : β → FS → Prop) (fs : FS) : Prop :=
  ∀ R s a, FR C R fs s → VR s.heap x a → wpAny (Mo C) C.A (t a) (PO C R s rel Q) (fun zz zz => False) s
def OP2 {α β : Type} (C : Cx) (rel : Heap → β → α → Prop) (t : Value → Value → Sem α) (x y : V) (Q : β → FS → Prop) (fs : FS) : Prop :=
  ∀ R s a b, FR C R fs s → VR s.heap x a → VR s.heap y b → wpAny (Mo C) C.A (t a b) (PO C R s rel Q) (fun zz zz => False) s
def OP3 {α β : Type} (C : Cx) (rel : Heap → β → α → Prop) (t : Value → Value → Value → Sem α) (x y z : V) (Q : β → FS → Prop) (fs : FS) : Prop :=
  ∀ R s a b c, FR C R fs s → VR s.heap x a → VR s.heap y b → VR s.heap z c → wpAny (Mo C) C.A (t a b c) (PO C R s rel Q) (fun zz zz => False) s
def OPL {α β : Type} (C : Cx) (rel : Heap → β → α → Prop) (t : List Value → Sem α) (xs : List V) (Q : β → FS → Prop) (fs : FS) : Prop :=
  ∀ R s vs, FR C R fs s → LR s.heap xs vs → wpAny (Mo C) C.A (t vs) (PO C R s rel Q) (fun zz zz => False) s
abbrev EV (C : Cx) (e : PySem.Expr) (Q : V → FS → Prop) (fs : FS) : Prop := WP C VR (eval e C.env) Q fs
def BR (_ : Heap) (b a : Bool) : Prop := a = b
def UR (_ : Heap) (_ _ : Unit) : Prop := True
abbrev TV (C : Cx) (e : PySem.Expr) (Q : Bool → FS → Prop) (fs : FS) : Prop := WP C BR (isTrue e C.env (eval e C.env)) Q fs
inductive Fw where | next | brk | cont | ret (v : V)
def FwR (h : Heap) : Fw → Flow → Prop
  | .next, f => f = .next
  | .brk, f => f = .brk
  | .cont, f => f = .cont
  | .ret v, f => ∃ x, f = .ret x ∧ VR h v x
abbrev XV (C : Cx) (st : PySem.Stmt) (Q : Fw → FS → Prop) (fs : FS) : Prop := WP C FwR (exec st C.env) Q fs
abbrev XS (C : Cx) (l : List PySem.Stmt) (Q : Fw → FS → Prop) (fs : FS) : Prop := WP C FwR (execs l C.env) Q fs
-- what stands behind a step, by name
abbrev XQ (C : Cx) (rest : List PySem.Stmt) (Q : Fw → FS → Prop) : Fw → FS → Prop := fun f fs' => match f with | .next => XS C rest Q fs' | f => Q f fs'
abbrev IQ (C : Cx) (body orelse : List PySem.Stmt) (Q : Fw → FS → Prop) : Bool → FS → Prop := fun b fs' => (b = true → XS C body Q fs') ∧ (b = false → XS C orelse Q fs')
abbrev RtQ (Q : Fw → FS → Prop) : V → FS → Prop := fun v => Q (.ret v)
abbrev NxQ (Q : Fw → FS → Prop) : Unit → FS → Prop := fun zz => Q .next
abbrev K2 (C : Cx) (t : Value → Value → Sem Value) (Q : V → FS → Prop) (a : V) : V → FS → Prop := fun b f2 => OP2 C VR t a b Q f2
abbrev K1 (C : Cx) (r : PySem.Expr) (t : Value → Value → Sem Value) (Q : V → FS → Prop) : V → FS → Prop := fun a f1 => EV C r (K2 C t Q a) f1
abbrev TbQ (Q : Bool → FS → Prop) : V → FS → Prop := fun c f3 => match c with | .bool q => Q q f3 | _ => False
abbrev U1 (C : Cx) (t : Value → Sem Value) (Q : V → FS → Prop) : V → FS → Prop := fun a f1 => OP1 C VR t a Q f1
abbrev FS.am (fs : FS) (x : Str) (v : V) : FS := { fs with m := (x, v) :: fs.m }
abbrev FS.ak (fs : FS) (x : Str) (v : V) : FS := { fs with k := (x, v) :: fs.k }
def LQ (I : FS → Prop) (Q : Fw → FS → Prop) : Fw → FS → Prop
  | .next, f => I f
  | .cont, f => I f
  | .brk, f => Q .next f
  | .ret v, f => Q (.ret v) f
structure OutTo (P G : Fw → FS → Prop) : Prop where
  out : ∀ fl f, P fl f → G fl f
section
variable {C : Cx} {fs : FS} {α β : Type} {rel : Heap → β → α → Prop}
theorem po_mono {R s₀ s₁} {Q Q' : β → FS → Prop} {a : α} {s : Shared} (x : PO C R s₁ rel Q a s) (k : TK s₀.heap s₁.heap) (h : ∀ b fs, Q b fs → Q' b fs) : PO C R s₀ rel Q' a s := by
  obtain ⟨b, f, F, t, r, q⟩ := x; exact ⟨b, f, F, k.trans t, r, h b f q⟩
theorem wp_next {t : Sem α} {Q : β → FS → Prop} {γ : Type} {f : α → Shared → Prop} {R : Addr → Option Obj} {s : Shared} (F : FR C R fs s) (h : WP C rel t Q fs)
    (k : ∀ a b fs' s', FR C R fs' s' → TK s.heap s'.heap → rel s'.heap b a → Q b fs' → f a s') : wpAny (Mo C) C.A t f (fun zz zz => False) s :=
  wpAny_mono (h R s F) (fun a s' ⟨b, fs', F', t, r, q⟩ => k a b fs' s' F' t r q) fun zz zz z => z
theorem WP.mono {t : Sem α} {Q Q' : β → FS → Prop} (h : WP C rel t Q fs) (k : ∀ b fs', Q b fs' → Q' b fs') : WP C rel t Q' fs :=
  fun R s F => wpAny_mono (h R s F) (fun zz zz x => po_mono x TK.refl k) fun zz zz z => z
theorem FR.keepBase {R s} (F : FR C R fs s) : KeepAll C.W.base s.heap := fun b o e => F.rk b o (F.base b o e)
theorem FR.toks {R s} (F : FR C R fs s) (t : Nat) : FR C R fs { s with toks := t } := ⟨F.gens, F.os, F.base, F.rk, F.hr, F.rl, F.loc, F.cells, F.apart, F.names, F.co⟩
theorem FR.k {R s} (F : FR C R fs s) : C.W.K.In s.heap := C.W.kin.keeps F.keepBase
-- statements
theorem xs_nil {Q : Fw → FS → Prop} (h : Q .next fs) : XS C [] Q fs := fun R s F => wpAny_execs_nil ⟨.next, fs, F, TK.refl, rfl, h⟩
theorem xs_cons {st rest} {Q : Fw → FS → Prop} (h : XV C st (XQ C rest Q) fs) : XS C (st :: rest) Q fs := fun R s F => by
  refine wpAny_execs_cons (wpAny_mono (h R s F) (fun f s' x => ?_) fun zz zz z => z)
  obtain ⟨b, fs', F', t, r, q⟩ := x
  cases b with
  | next => cases r; exact wpAny_mono (q R s' F') (fun _ _ x => po_mono x t fun _ _ z => z) fun _ _ z => z
  | brk => cases r; exact ⟨.brk, fs', F', t, rfl, q⟩
  | cont => cases r; exact ⟨.cont, fs', F', t, rfl, q⟩
  | ret v => obtain ⟨x, rfl, r⟩ := r; exact ⟨.ret v, fs', F', t, ⟨x, rfl, r⟩, q⟩
theorem xv_if {test body orelse pos} {Q : Fw → FS → Prop} (h : TV C test (IQ C body orelse Q) fs) : XV C (.If test body orelse pos) Q fs := fun R s F => by
  refine wpAny_If (wpAny_mono (h R s F) (fun a s' x => ?_) fun zz zz z => z)
  obtain ⟨b, fs', F', t, r, q1, q2⟩ := x
  cases r
  cases a
  · exact wpAny_mono (q2 rfl R s' F') (fun zz zz x => po_mono x t fun zz zz z => z) fun zz zz z => z
  · exact wpAny_mono (q1 rfl R s' F') (fun zz zz x => po_mono x t fun zz zz z => z) fun zz zz z => z
theorem xv_ret {e pos} {Q : Fw → FS → Prop} (h : EV C e (RtQ Q) fs) : XV C (.Return (some e) pos) Q fs := fun R s F =>
  wpAny_Return_some (wpAny_mono (h R s F) (fun _ _ ⟨b, fs', F', t, r, q⟩ => ⟨.ret b, fs', F', t, ⟨_, rfl, r⟩, q⟩) fun zz zz z => z)
-- names
theorem ev_loc {x pos v} {Q : V → FS → Prop} (hv : fs.m.lookup x = some v) (h : Q v fs) (hk : C.env.scope.kind = .function := by rfl) (hl : C.env.kindOf x = some .local := by rfl) (hd : (x == ("__debug__" : Str)) = false := by decide) : EV C (.Name x pos) Q fs := fun R s F => by
  obtain ⟨mv, n, e⟩ := F.loc
  obtain ⟨u, e1, e2⟩ := e x v hv
  exact wpAny_Name (wpAny_loadName_local hk hl n e1 ⟨v, fs, F, TK.refl, e2, h⟩) hd
theorem FR.cellAt {R s} (F : FR C R fs s) {x c v} (hc : C.env.cells.lookup x = some c) (hv : fs.k.lookup x = some v) : ∃ u, s.heap.IsCell c (some u) ∧ VR s.heap v u := by
  obtain ⟨v₀, i, e⟩ := F.cells x c (mem_of_lookup hc)
  obtain ⟨u, rfl, r⟩ := e v hv
  exact ⟨u, i, r⟩
theorem ev_cell {x pos v c} {Q : V → FS → Prop} (hc : C.env.cells.lookup x = some c) (hv : fs.k.lookup x = some v) (h : Q v fs) (hk : C.env.scope.kind = .function := by rfl) (hl : C.env.kindOf x = some .cell := by rfl) (hd : (x == ("__debug__" : Str)) = false := by decide) : EV C (.Name x pos) Q fs := fun R s F => by
  obtain ⟨u, i, r⟩ := F.cellAt hc hv
  exact wpAny_Name (wpAny_loadName_cell hk hl hc i ⟨v, fs, F, TK.refl, r, h⟩) hd
theorem ev_glob {x pos v a} {Q : V → FS → Prop} (e : nsIn C.W.K mainGlobals x = some (some a)) (r : ∀ h, VR h v a) (h : Q v fs) (hk : C.env.scope.kind = .function := by rfl) (hx : C.env.kindOf x = some .globalImplicit := by rfl) (hG : C.env.globals = mainGlobals := by rfl) (hd : (x == ("__debug__" : Str)) = false := by decide) : EV C (.Name x pos) Q fs := fun R s F =>
  Name_function_global hk hx (loadGlobal_global (hG ▸ C.W.hg.keeps F.keepBase) (mg_of C.W.kin C.W.hg e) ⟨v, fs, F, TK.refl, r _, h⟩) hd
theorem ev_blt {x pos v a} {Q : V → FS → Prop} (e : nsIn C.W.K mainGlobals x = some none) (hv : bootBuiltins x = some a) (r : ∀ h, VR h v a) (h : Q v fs) (hn : x ≠ "__name__" := by decide) (hk : C.env.scope.kind = .function := by rfl) (hx : C.env.kindOf x = some .globalImplicit := by rfl) (hG : C.env.globals = mainGlobals := by rfl) (hB : C.env.builtins = builtinsNs := by rfl) (hd : (x == ("__debug__" : Str)) = false := by decide) : EV C (.Name x pos) Q fs := fun R s F =>
  Name_function_global hk hx (loadGlobal_builtin (hG ▸ C.W.hg.keeps F.keepBase) (mg_none_of C.W.kin C.W.hg e) (hB ▸ C.W.hb.keeps F.keepBase) ((C.W.blt x hn).trans hv) ⟨v, fs, F, TK.refl, r _, h⟩) hd
-- constants
theorem ev_int {i k pos} {Q : V → FS → Prop} (h : Q (.int i) fs) : EV C (.Constant (.int i) k pos) Q fs := fun R s F => wpAny_Constant_int ⟨.int i, fs, F.toks _, TK.refl, by simp only [VR]; exact ⟨_, rfl⟩, h⟩
theorem ev_str {x k pos} {Q : V → FS → Prop} (h : Q (.str x) fs) : EV C (.Constant (.str x) k pos) Q fs := fun R s F => Constant_str ⟨.str x, fs, F.toks _, TK.refl, by simp only [VR]; exact ⟨_, rfl⟩, h⟩
theorem ev_bool {b k pos} {Q : V → FS → Prop} (h : Q (.bool b) fs) : EV C (.Constant (.bool b) k pos) Q fs := fun R s F => wpAny_Constant_bool ⟨.bool b, fs, F, TK.refl, by simp only [VR], h⟩
theorem ev_none {k pos} {Q : V → FS → Prop} (h : Q .none fs) : EV C (.Constant .none k pos) Q fs := fun R s F => wpAny_Constant_none ⟨.none, fs, F, TK.refl, by simp only [VR], h⟩
-- operators
theorem ev_bin {l op r pos} {Q : V → FS → Prop} (h : EV C l (K1 C r (binaryOp op) Q) fs) : EV C (.BinOp l op r pos) Q fs := fun R s F => by
  refine wpAny_BinOp (wp_next (γ := Unit) F h fun a va f1 s1 F1 t1 r1 q1 => ?_)
  refine wp_next (γ := Unit) F1 q1 fun b vb f2 s2 F2 t2 r2 q2 => ?_
  exact wpAny_mono (q2 R s2 a b F2 (r1.mono t2) r2) (fun zz zz x => po_mono x (t1.trans t2) fun zz zz z => z) fun zz zz z => z
theorem ev_cmp {l op r pos} {Q : V → FS → Prop} (h : EV C l (K1 C r (compareOp op) Q) fs) (hm : behindInMarks op r = false := by with_unfolding_all rfl) : EV C (.Compare l [op] [r] pos) Q fs := fun R s F => by
  refine wpAny_Compare1 (wp_next (γ := Unit) F h fun a va f1 s1 F1 t1 r1 q1 => ?_) hm
  refine wp_next (γ := Unit) F1 q1 fun b vb f2 s2 F2 t2 r2 q2 => ?_
  exact wpAny_mono (q2 R s2 a b F2 (r1.mono t2) r2) (fun zz zz x => po_mono x (t1.trans t2) fun zz zz z => z) fun zz zz z => z
theorem tv_cmp {l op r pos} {Q : Bool → FS → Prop} (h : EV C l (K1 C r (compareOp op) (TbQ Q)) fs) (hm : behindInMarks op r = false := by with_unfolding_all rfl) : TV C (.Compare l [op] [r] pos) Q fs := fun R s F => by
  refine wpAny_isTrue_Compare1 (wp_next (γ := Unit) F h fun a va f1 s1 F1 t1 r1 q1 => ?_) hm
  refine wp_next (γ := Unit) F1 q1 fun b vb f2 s2 F2 t2 r2 q2 => ?_
  refine wpAny_mono (q2 R s2 a b F2 (r1.mono t2) r2) (fun c s3 x => ?_) fun zz zz z => z
  obtain ⟨c', f3, F3, t3, r3, hq⟩ := x
  cases c' with
  | bool q => simp only [VR] at r3; subst r3; exact wpAny_truthy_bool ⟨q, f3, F3, (t1.trans t2).trans t3, rfl, hq⟩
  | _ => exact False.elim hq
theorem ev_un {op x pos} {Q : V → FS → Prop} (h : EV C x (U1 C (unaryOp op) Q) fs) : EV C (.UnaryOp op x pos) Q fs := fun R s F => by
  refine wpAny_UnaryOp (wp_next (γ := Unit) F h fun a va f1 s1 F1 t1 r1 q1 => ?_)
  exact wpAny_mono (q1 R s1 a F1 r1) (fun zz zz x => po_mono x t1 fun zz zz z => z) fun zz zz z => z
end
end
-- RD
noncomputable section
open PySem PySem.W PySem.Calls PyProof.Rows
section
variable {C : Cx} {fs : FS} {R : Addr → Option Obj} {s : Shared}
def own (env : Env) (a : Addr) : Prop := a = env.locals ∨ a ∈ env.cells.map (·.2)
theorem rp_own {env : Env} {h : Heap} {a : Addr} (x : own env a) : Rp R env h a = h.get? a := if_pos x
theorem rp_not {env : Env} {h : Heap} {a : Addr} (x : ¬ own env a) : Rp R env h a = R a := if_neg x
theorem FR.ownAt (F : FR C R fs s) {a : Addr} (x : own C.env a) : ∃ o, s.heap.get? a = some o ∧ o.cls = o.cls := by
  rcases x with rfl | x
  · obtain ⟨mv, ⟨o, zz, zz, ho, zz⟩, zz⟩ := F.loc; exact ⟨o, ho, rfl⟩
  · obtain ⟨⟨y, c⟩, h, rfl⟩ := List.mem_map.mp x
    obtain ⟨v, ⟨o, ho, zz⟩, zz⟩ := F.cells y c h
    exact ⟨o, ho, rfl⟩
theorem FR.ownNoTup (F : FR C R fs s) {a : Addr} (x : own C.env a) : NoTup s.heap a := by
  rcases x with rfl | x
  · obtain ⟨mv, ⟨o, zz, zz, ho, hd, zz⟩, zz⟩ := F.loc; exact noTup_dict ho hd
  · obtain ⟨⟨y, c⟩, h, rfl⟩ := List.mem_map.mp x
    obtain ⟨v, i, zz⟩ := F.cells y c h
    exact noTup_cell i
theorem rp_same {env : Env} {h h' : Heap} (e : ∀ a, own env a → h'.get? a = h.get? a) : Rp R env h' = Rp R env h := by
  funext a
  by_cases x : own env a
  · rw [rp_own x, rp_own x, e a x]
  · rw [rp_not x, rp_not x]
theorem FR.sig (F : FR C R fs s) {σ' : HS} (h : HR C.W.toWd (Rp R C.env s.heap) σ' s.heap) : FR C R { fs with σ := σ' } s := ⟨F.gens, F.os, F.base, F.rk, h, F.rl, F.loc, F.cells, F.apart, F.names, F.co⟩
theorem FR.notOwn (F : FR C R fs s) {a : Addr} (e : Rp R C.env s.heap a = Option.none) : ¬ own C.env a := fun x => by
  obtain ⟨o, ho, zz⟩ := F.ownAt x
  rw [rp_own x, ho] at e; cases e
theorem locs_mono {h h' : Heap} {m : List (Str × V)} {mv : Str → Option Value} (k : TK h h') (e : ∀ x v, m.lookup x = some v → ∃ u, mv x = some u ∧ VR h v u) : ∀ x v, m.lookup x = some v → ∃ u, mv x = some u ∧ VR h' v u := fun x v q => by
  obtain ⟨u, a, b⟩ := e x v q; exact ⟨u, a, b.mono k⟩
theorem opt_mono {h h' : Heap} {k : List (Str × V)} {x : Str} {v₀ : Option Value} (t : TK h h') (e : ∀ v, k.lookup x = some v → ∃ u, v₀ = some u ∧ VR h v u) : ∀ v, k.lookup x = some v → ∃ u, v₀ = some u ∧ VR h' v u := fun v q => by
  obtain ⟨u, a, b⟩ := e v q; exact ⟨u, a, b.mono t⟩
theorem FR.keeps (F : FR C R fs s) {h' : Heap} {t : Nat} (k : KeepAll s.heap h') : FR C R fs { s with heap := h', toks := t } := by
  have tk := k.tk
  have e : Rp R C.env h' = Rp R C.env s.heap := rp_same fun a x => by
    obtain ⟨o, ho, zz⟩ := F.ownAt x; rw [ho, k a o ho]
  refine ⟨F.gens, F.os, F.base, fun b o q => k b o (F.rk b o q), by show HR _ (Rp R C.env h') _ _; rw [e]; exact F.hr.keeps k, F.rl, ?_, fun x c h => ?_, F.apart, F.names, F.co⟩
  · obtain ⟨mv, n, q⟩ := F.loc
    exact ⟨mv, n.keeps k, locs_mono tk q⟩
  · obtain ⟨v₀, i, q⟩ := F.cells x c h
    exact ⟨v₀, i.keeps k, opt_mono tk q⟩
theorem FR.del (F : FR C R fs s) {h' : Heap} {a : Addr} {t : Nat} (ha : Rp R C.env s.heap a = Option.none) (k : KeepBut a s.heap h') (n : NoTup s.heap a) : FR C R { fs with σ := fs.σ.del a } { s with heap := h', toks := t } := by
  have tk := k.tk n
  have no := F.notOwn ha
  have ne : ∀ b, own C.env b → b ≠ a := fun b x q => no (q ▸ x)
  have e : Rp R C.env h' = Rp R C.env s.heap := rp_same fun b x => by
    obtain ⟨o, ho, zz⟩ := F.ownAt x; rw [ho, k b o (ne b x) ho]
  rw [rp_not no] at ha
  refine ⟨F.gens, F.os, F.base, fun b o q => k b o (fun z => by rw [z, ha] at q; cases q) (F.rk b o q), by show HR _ (Rp R C.env h') _ _; rw [e]; exact F.hr.del k (by rw [rp_not no]; exact ha) n, F.rl, ?_, fun x c h => ?_, F.apart, F.names, F.co⟩
  · obtain ⟨mv, ⟨o, es, ep, ho, r⟩, q⟩ := F.loc
    exact ⟨mv, ⟨o, es, ep, k _ _ (ne _ (.inl rfl)) ho, r⟩, locs_mono tk q⟩
  · obtain ⟨v₀, ⟨o, ho, d⟩, q⟩ := F.cells x c h
    exact ⟨v₀, ⟨o, k _ _ (ne _ (.inr (List.mem_map_of_mem h))) ho, d⟩, opt_mono tk q⟩
theorem FR.rpN (F : FR C R fs s) {a : Addr} (h : s.heap.get? a = Option.none) : Rp R C.env s.heap a = Option.none ∧ fs.σ.Fresh a := F.hr.fresh h
theorem FR.setLi (F : FR C R fs s) {h' : Heap} {a : Addr} {t : Nat} {vs ws : List V} {items : Array Value} (e : fs.σ.li a = some vs) (sb : Heap.SameBut a s.heap h') (l : LI h' a items) (r : LR s.heap ws items.toList) :
    FR C R { fs with σ := fs.σ.setLi a ws } { s with heap := h', toks := t } ∧ TK s.heap h' := by
  obtain ⟨ha, its, ⟨o, ho, n, rfl⟩, zz⟩ := F.hr.li a vs e
  have n : NoTup s.heap a := noTup_cls ho (by simp)
  have tk := (sb_keepBut sb).tk n
  have F' := F.del (t := t) ha (sb_keepBut sb) n
  have no := F.notOwn ha
  refine ⟨F'.sig ((F'.hr.addLi (a := a) (vs := ws) ?_ l (r.mono tk)).le (le_setLi F.hr e)), tk⟩
  show Rp R C.env h' a = Option.none
  rw [rp_not no]; rw [rp_not no] at ha; exact ha
theorem FR.setDm (F : FR C R fs s) {h' : Heap} {a : Addr} {t : Nat} {d d' : D} (e : fs.σ.dm a = some d) (sb : Heap.SameBut a s.heap h') (l : DR C.W.toWd h' a d') :
    FR C R { fs with σ := fs.σ.setDm a d' } { s with heap := h', toks := t } ∧ TK s.heap h' := by
  obtain ⟨ha, dr⟩ := F.hr.dm a d e
  obtain ⟨o, es, ep, ho, hc⟩ := dr.obj
  have n : NoTup s.heap a := noTup_dict ho hc
  have tk := (sb_keepBut sb).tk n
  have F' := F.del (t := t) ha (sb_keepBut sb) n
  have no := F.notOwn ha
  refine ⟨F'.sig ((F'.hr.addDm (a := a) (d := d') ?_ l).le (le_setDm F.hr e)), tk⟩
  show Rp R C.env h' a = Option.none
  rw [rp_not no]; rw [rp_not no] at ha; exact ha
theorem FR.tkDm (F : FR C R fs s) {h' : Heap} {a : Addr} {d : D} (e : fs.σ.dm a = some d) (sb : Heap.SameBut a s.heap h') : TK s.heap h' := by
  obtain ⟨ha, dr⟩ := F.hr.dm a d e
  obtain ⟨o, es, ep, ho, hc⟩ := dr.obj
  exact (sb_keepBut sb).tk (noTup_dict ho hc)
theorem FR.newLi (F : FR C R fs s) {h' : Heap} {a : Addr} {t : Nat} {ws : List V} {items : Array Value} (k : KeepAll s.heap h') (hn : s.heap.get? a = Option.none) (l : LI h' a items) (r : LR h' ws items.toList) :
    FR C R { fs with σ := fs.σ.setLi a ws } { s with heap := h', toks := t } ∧ fs.σ.Fresh a := by
  have F' := F.keeps (t := t) k
  obtain ⟨ra, fr⟩ := F.rpN hn
  have no := F.notOwn ra
  refine ⟨F'.sig (F'.hr.addLi ?_ l r), fr⟩
  show Rp R C.env h' a = Option.none
  rw [rp_not no]; rw [rp_not no] at ra; exact ra
theorem FR.newDm (F : FR C R fs s) {h' : Heap} {a : Addr} {t : Nat} {d : D} (k : KeepAll s.heap h') (hn : s.heap.get? a = Option.none) (l : DR C.W.toWd h' a d) :
    FR C R { fs with σ := fs.σ.setDm a d } { s with heap := h', toks := t } ∧ fs.σ.Fresh a := by
  have F' := F.keeps (t := t) k
  obtain ⟨ra, fr⟩ := F.rpN hn
  have no := F.notOwn ra
  refine ⟨F'.sig (F'.hr.addDm ?_ l), fr⟩
  show Rp R C.env h' a = Option.none
  rw [rp_not no]; rw [rp_not no] at ra; exact ra
theorem FR.setM (F : FR C R fs s) {h' : Heap} {t : Nat} {x : Str} {v : V} {u : Value} {mv : Str → Option Value} (e : ∀ y w, fs.m.lookup y = some w → ∃ u, mv y = some u ∧ VR s.heap w u) (hv : VR s.heap v u)
    (hn : s.heap.Ns C.env.locals mv) (hn' : h'.Ns C.env.locals (fun y => if y = x then some u else mv y)) (sb : Heap.SameBut C.env.locals s.heap h') :
    FR C R { fs with m := (x, v) :: fs.m } { s with heap := h', toks := t } ∧ TK s.heap h' := by
  have n : NoTup s.heap C.env.locals := F.ownNoTup (.inl rfl)
  have tk := (sb_keepBut sb).tk n
  obtain ⟨oL, zz, zz, hoL, hdL, zz⟩ := id hn
  refine ⟨⟨F.gens, F.os, F.base, fun b o q => (sb_keepBut sb) b o (fun z => by rw [z, F.rl] at q; cases q) (F.rk b o q), ?_, F.rl, ⟨_, hn', fun y w q => ?_⟩, fun y c h => ?_, F.apart, F.names, F.co⟩, tk⟩
  · refine F.hr.but (sb_keepBut sb) (by rw [rp_own (.inl rfl), hoL]; simp) n (fun b hb => ?_) (fun o q => by rw [rp_own (.inl rfl)] at q; exact q)
    by_cases x : own C.env b
    · rw [rp_own x, rp_own x]; exact sb.2 b hb
    · rw [rp_not x, rp_not x]
  · simp only [List.lookup_cons] at q
    by_cases hy : y = x
    · subst hy; simp only [beq_self_eq_true, Option.some.injEq] at q; subst q; exact ⟨u, if_pos rfl, hv.mono tk⟩
    · rw [beq_eq_false_iff_ne.mpr hy] at q
      obtain ⟨u', a, b⟩ := e y w q
      exact ⟨u', by rw [if_neg hy]; exact a, b.mono tk⟩
  · obtain ⟨v₀, ⟨o, ho, d⟩, q⟩ := F.cells y c h
    refine ⟨v₀, ⟨o, (sb_keepBut sb) _ _ (fun z => ?_) ho, d⟩, opt_mono tk q⟩
    rw [z, hoL] at ho; cases ho; rw [hdL] at d; cases d
theorem addr_of_name : ∀ {cs : List (Str × Addr)}, (cs.map (·.1)).Nodup → ∀ {n : Str} {c d : Addr}, (n, c) ∈ cs → (n, d) ∈ cs → c = d
  | x :: r, hp, n, c, d, h, h' => by
    rw [List.map_cons, List.nodup_cons] at hp
    rcases List.mem_cons.mp h with e | h <;> rcases List.mem_cons.mp h' with e' | h'
    · rw [← e'] at e; exact (Prod.mk.inj e).2
    · exact absurd (by rw [← e]; exact List.mem_map_of_mem (f := (·.1)) h') hp.1
    · exact absurd (by rw [← e']; exact List.mem_map_of_mem (f := (·.1)) h) hp.1
    · exact addr_of_name hp.2 h h'
theorem FR.setK (F : FR C R fs s) {h' : Heap} {t : Nat} {x : Str} {c : Addr} {v : V} {u : Value} (hv : VR s.heap v u) (hc : (x, c) ∈ C.env.cells) (hR : R c = Option.none)
    (hn' : h'.IsCell c (some u)) (sb : Heap.SameBut c s.heap h') : FR C R { fs with k := (x, v) :: fs.k } { s with heap := h', toks := t } ∧ TK s.heap h' := by
  have hown : own C.env c := .inr (List.mem_map_of_mem hc)
  have n : NoTup s.heap c := F.ownNoTup hown
  have tk := (sb_keepBut sb).tk n
  obtain ⟨v₀, ⟨oc, hoc, hdc⟩, zz⟩ := F.cells x c hc
  obtain ⟨o', ho', hd'⟩ := id hn'
  refine ⟨⟨F.gens, F.os, F.base, fun b o q => (sb_keepBut sb) b o (fun z => by rw [z, hR] at q; cases q) (F.rk b o q), ?_, F.rl, ?_, fun y d h => ?_, F.apart, F.names, F.co⟩, tk⟩
  · refine F.hr.but (sb_keepBut sb) (by rw [rp_own hown, hoc]; simp) n (fun b hb => ?_) (fun o q => by rw [rp_own hown] at q; exact q)
    by_cases x : own C.env b
    · rw [rp_own x, rp_own x]; exact sb.2 b hb
    · rw [rp_not x, rp_not x]
  · obtain ⟨mv, ⟨o, es, ep, ho, d, r⟩, q⟩ := F.loc
    refine ⟨mv, ⟨o, es, ep, (sb_keepBut sb) _ _ (fun z => ?_) ho, d, r⟩, locs_mono tk q⟩
    rw [z, hoc] at ho; cases ho; rw [hdc] at d; cases d
  · by_cases e : d = c
    · subst e
      have : y = x := name_of_addr F.apart h hc
      subst this
      refine ⟨_, hn', fun w q => ?_⟩
      simp only [List.lookup_cons, beq_self_eq_true, Option.some.injEq] at q
      subst q; exact ⟨u, rfl, hv.mono tk⟩
    · obtain ⟨v₁, ⟨o, ho, dd⟩, q⟩ := F.cells y d h
      refine ⟨v₁, ⟨o, (sb_keepBut sb) _ _ e ho, dd⟩, fun w z => ?_⟩
      have hy : y ≠ x := fun p => by
        subst p
        exact e (addr_of_name F.names h hc)
      simp only [List.lookup_cons, beq_eq_false_iff_ne.mpr hy] at z
      exact opt_mono tk q w z
end
end
-- RE
noncomputable section
open PySem PySem.W PySem.Calls PyProof.Rows
def cutAt (h : Heap) (L : Addr) : Heap := ⟨h.objs.extract 0 L, h.life⟩
def restAt (h : Heap) (L : Addr) : List (Addr × Obj) := (List.range h.objs.size).filterMap fun a => if L < a then (h.get? a).map (a, ·) else none
theorem cutAt_get {h : Heap} {L a : Addr} (hL : L ≤ h.objs.size) : (cutAt h L).get? a = if a < L then h.get? a else none := by
  unfold cutAt Heap.get?
  simp only [Array.getElem?_extract]
  by_cases q : a < L
  · by_cases h2 : a < min L h.objs.size
    · simp [q, h2]
    · have h3 : h.objs.size ≤ a := Nat.le_of_not_lt fun z => h2 (Nat.lt_min.mpr ⟨q, z⟩)
      simp [q, h2, Array.getElem?_eq_none h3]
  · have h2 : ¬ a < min L h.objs.size := fun z => q (Nat.lt_min.mp z).1
    simp [q, h2]
theorem restAt_mem {h : Heap} {L a : Addr} {o : Obj} : (a, o) ∈ restAt h L ↔ L < a ∧ h.get? a = some o := by
  simp only [restAt, List.mem_filterMap, List.mem_range]
  constructor
  · rintro ⟨b, hb, e⟩
    split at e
    · rename_i q
      obtain ⟨o', ho, e⟩ := Option.map_eq_some_iff.mp e
      cases e; exact ⟨q, ho⟩
    · cases e
  · rintro ⟨q, e⟩
    exact ⟨a, Heap.lt_size e, by rw [if_pos q, e]; rfl⟩
section
variable {C : Cx} {fs : FS} {R : Addr → Option Obj} {s : Shared}
theorem FR.keepL (F : FR C R fs s) {h' : Heap} {t : Nat} {mv : Str → Option Value} (e : ∀ y w, fs.m.lookup y = some w → ∃ u, mv y = some u ∧ VR s.heap w u)
    (hn : s.heap.Ns C.env.locals mv) (hn' : h'.Ns C.env.locals mv) (k : KeepBut C.env.locals s.heap h') : FR C R fs { s with heap := h', toks := t } ∧ TK s.heap h' := by
  have n : NoTup s.heap C.env.locals := F.ownNoTup (.inl rfl)
  have tk := k.tk n
  obtain ⟨oL, zz, zz, hoL, hdL, zz⟩ := id hn
  refine ⟨⟨F.gens, F.os, F.base, fun b o q => k b o (fun z => by rw [z, F.rl] at q; cases q) (F.rk b o q), ?_, F.rl, ⟨_, hn', locs_mono tk e⟩, fun y c h => ?_, F.apart, F.names, F.co⟩, tk⟩
  · refine F.hr.but k (by rw [rp_own (.inl rfl), hoL]; simp) n (fun b hb => ?_) (fun o q => by rw [rp_own (.inl rfl)] at q; exact q)
    by_cases x : own C.env b
    · obtain ⟨o, ho, zz⟩ := F.ownAt x
      rw [rp_own x, rp_own x, ho, k b o hb ho]
    · rw [rp_not x, rp_not x]
  · obtain ⟨v₀, ⟨o, ho, d⟩, q⟩ := F.cells y c h
    refine ⟨v₀, ⟨o, k _ _ (fun z => ?_) ho, d⟩, opt_mono tk q⟩
    rw [z, hoL] at ho; cases ho; rw [hdL] at d; cases d
theorem FR.byCut (F : FR C R fs s) : ∃ mv, Fr (cutAt s.heap C.env.locals) C.env.locals s.heap mv ∧ News (cutAt s.heap C.env.locals) C.env.locals s.heap (restAt s.heap C.env.locals) ∧
    ∀ h' t news, Fr (cutAt s.heap C.env.locals) C.env.locals h' mv → News (cutAt s.heap C.env.locals) C.env.locals h' news → (∀ p ∈ restAt s.heap C.env.locals, p ∈ news) →
      FR C R fs { s with heap := h', toks := t } ∧ TK s.heap h' ∧ KeepBut C.env.locals s.heap h' ∧ (∀ a o, (a, o) ∈ news → h'.get? a = some o) := by
  obtain ⟨mv, n, e⟩ := F.loc
  have hL : C.env.locals ≤ s.heap.objs.size := Nat.le_of_lt n.lt
  refine ⟨mv, ⟨n, fun b o q => ?_, ?_⟩, fun p hp => ?_, fun h' t news F' N' k => ?_⟩
  · rw [cutAt_get hL] at q; split at q; exact q; cases q
  · unfold cutAt; simp only [Array.size_extract, Nat.sub_zero]; exact Nat.min_le_left _ _
  · obtain ⟨a, o⟩ := p
    obtain ⟨q1, q2⟩ := restAt_mem.mp hp
    refine ⟨q2, Nat.ne_of_gt q1, ?_⟩
    rw [cutAt_get hL, if_neg (Nat.not_lt.mpr (Nat.le_of_lt q1))]
  · have kb : KeepBut C.env.locals s.heap h' := fun b o hb hbo => by
      rcases Nat.lt_trichotomy b C.env.locals with q | q | q
      · exact F'.keep b o (by rw [cutAt_get hL, if_pos q]; exact hbo)
      · exact absurd q hb
      · exact (N' _ (k _ (restAt_mem.mpr ⟨q, hbo⟩))).1
    obtain ⟨a1, a2⟩ := F.keepL (t := t) e n F'.ns kb
    exact ⟨a1, a2, kb, fun a o hm => (N' _ hm).1⟩
variable {α β : Type} {rel : Heap → β → α → Prop}
-- integers
theorem op_add {i j : Int} {Q : V → FS → Prop} (h : Q (.int (i + j)) fs) : OP2 C VR (binaryOp .Add) (.int i) (.int j) Q fs := fun R s a b F ra rb => by
  simp only [VR] at ra rb; obtain ⟨t, rfl⟩ := ra; obtain ⟨u, rfl⟩ := rb
  exact add_int ⟨_, fs, F.toks _, TK.refl, by simp only [VR]; exact ⟨_, rfl⟩, h⟩
theorem op_sub {i j : Int} {Q : V → FS → Prop} (h : Q (.int (i - j)) fs) : OP2 C VR (binaryOp .Sub) (.int i) (.int j) Q fs := fun R s a b F ra rb => by
  simp only [VR] at ra rb; obtain ⟨t, rfl⟩ := ra; obtain ⟨u, rfl⟩ := rb
  exact sub_int ⟨_, fs, F.toks _, TK.refl, by simp only [VR]; exact ⟨_, rfl⟩, h⟩
theorem op_mul {i j : Int} {Q : V → FS → Prop} (hm : IntMulOk i j) (h : Q (.int (i * j)) fs) : OP2 C VR (binaryOp .Mult) (.int i) (.int j) Q fs := fun R s a b F ra rb => by
  simp only [VR] at ra rb; obtain ⟨t, rfl⟩ := ra; obtain ⟨u, rfl⟩ := rb
  exact mul_int ⟨_, fs, F.toks _, TK.refl, by simp only [VR]; exact ⟨_, rfl⟩, h⟩ hm
theorem op_mod {i j : Int} {Q : V → FS → Prop} (hj : j ≠ 0) (h : Q (.int (i.fmod j)) fs) : OP2 C VR (binaryOp .Mod) (.int i) (.int j) Q fs := fun R s a b F ra rb => by
  simp only [VR] at ra rb; obtain ⟨t, rfl⟩ := ra; obtain ⟨u, rfl⟩ := rb
  exact mod_int' hj ⟨_, fs, F.toks _, TK.refl, by simp only [VR]; exact ⟨_, rfl⟩, h⟩
theorem op_div {i j : Int} {Q : V → FS → Prop} (hj : j ≠ 0) (hp : Builtin.divisionGoesByPylong i j = false) (h : Q (.int (i.fdiv j)) fs) : OP2 C VR (binaryOp .FloorDiv) (.int i) (.int j) Q fs := fun R s a b F ra rb => by
  simp only [VR] at ra rb; obtain ⟨t, rfl⟩ := ra; obtain ⟨u, rfl⟩ := rb
  exact floordiv_int hj ⟨_, fs, F.toks _, TK.refl, by simp only [VR]; exact ⟨_, rfl⟩, h⟩ (.inl hp)
theorem op_shr {i j : Int} {Q : V → FS → Prop} (hj : 0 ≤ j) (h : Q (.int (i.fdiv (2 ^ j.toNat))) fs) : OP2 C VR (binaryOp .RShift) (.int i) (.int j) Q fs := fun R s a b F ra rb => by
  simp only [VR] at ra rb; obtain ⟨t, rfl⟩ := ra; obtain ⟨u, rfl⟩ := rb
  exact rshift_int hj ⟨_, fs, F.toks _, TK.refl, by simp only [VR]; exact ⟨_, rfl⟩, h⟩
theorem op_and {i j : Int} {Q : V → FS → Prop} (h : Q (.int (Builtin.bitAnd i j)) fs) : OP2 C VR (binaryOp .BitAnd) (.int i) (.int j) Q fs := fun R s a b F ra rb => by
  simp only [VR] at ra rb; obtain ⟨t, rfl⟩ := ra; obtain ⟨u, rfl⟩ := rb
  exact and_int ⟨_, fs, F.toks _, TK.refl, by simp only [VR]; exact ⟨_, rfl⟩, h⟩
theorem op_neg {i : Int} {Q : V → FS → Prop} (h : Q (.int (-i)) fs) : OP1 C VR (unaryOp .USub) (.int i) Q fs := fun R s a F ra => by
  simp only [VR] at ra; obtain ⟨t, rfl⟩ := ra
  exact neg_int ⟨_, fs, F.toks _, TK.refl, by simp only [VR]; exact ⟨_, rfl⟩, h⟩
theorem cm_eq {i j : Int} {Q : V → FS → Prop} (h : Q (.bool (i == j)) fs) : OP2 C VR (compareOp .Eq) (.int i) (.int j) Q fs := fun R s a b F ra rb => by
  simp only [VR] at ra rb; obtain ⟨t, rfl⟩ := ra; obtain ⟨u, rfl⟩ := rb
  exact eq_int ⟨_, fs, F, TK.refl, by simp only [VR], h⟩
theorem cm_ne {i j : Int} {Q : V → FS → Prop} (h : Q (.bool (i != j)) fs) : OP2 C VR (compareOp .NotEq) (.int i) (.int j) Q fs := fun R s a b F ra rb => by
  simp only [VR] at ra rb; obtain ⟨t, rfl⟩ := ra; obtain ⟨u, rfl⟩ := rb
  exact ne_int ⟨_, fs, F, TK.refl, by simp only [VR], h⟩
theorem cm_lt {i j : Int} {Q : V → FS → Prop} (h : Q (.bool (decide (i < j))) fs) : OP2 C VR (compareOp .Lt) (.int i) (.int j) Q fs := fun R s a b F ra rb => by
  simp only [VR] at ra rb; obtain ⟨t, rfl⟩ := ra; obtain ⟨u, rfl⟩ := rb
  exact lt_int ⟨_, fs, F, TK.refl, by simp only [VR], h⟩
theorem cm_le {i j : Int} {Q : V → FS → Prop} (h : Q (.bool (decide (i ≤ j))) fs) : OP2 C VR (compareOp .LtE) (.int i) (.int j) Q fs := fun R s a b F ra rb => by
  simp only [VR] at ra rb; obtain ⟨t, rfl⟩ := ra; obtain ⟨u, rfl⟩ := rb
  exact le_int ⟨_, fs, F, TK.refl, by simp only [VR], h⟩
theorem cm_gt {i j : Int} {Q : V → FS → Prop} (h : Q (.bool (decide (i > j))) fs) : OP2 C VR (compareOp .Gt) (.int i) (.int j) Q fs := fun R s a b F ra rb => by
  simp only [VR] at ra rb; obtain ⟨t, rfl⟩ := ra; obtain ⟨u, rfl⟩ := rb
  exact gt_int ⟨_, fs, F, TK.refl, by simp only [VR], h⟩
theorem cm_ge {i j : Int} {Q : V → FS → Prop} (h : Q (.bool (decide (i ≥ j))) fs) : OP2 C VR (compareOp .GtE) (.int i) (.int j) Q fs := fun R s a b F ra rb => by
  simp only [VR] at ra rb; obtain ⟨t, rfl⟩ := ra; obtain ⟨u, rfl⟩ := rb
  exact ge_int ⟨_, fs, F, TK.refl, by simp only [VR], h⟩
-- truth
def TR (C : Cx) (v : V) (Q : Bool → FS → Prop) (fs : FS) : Prop := OP1 C BR truthy v Q fs
theorem tr_bool {b : Bool} {Q : Bool → FS → Prop} (h : Q b fs) : TR C (.bool b) Q fs := fun R s a F ra => by
  simp only [VR] at ra; subst ra; exact wpAny_truthy_bool ⟨_, fs, F, TK.refl, rfl, h⟩
theorem tv_plain {e : PySem.Expr} {Q : Bool → FS → Prop} (h : EV C e (fun v f => TR C v Q f) fs)
    (he : isTrue e C.env (eval e C.env) = (do let v ← eval e C.env; standAt e.pos; holding [v] (truthy v)) := by rfl) : TV C e Q fs := fun R s F =>
  isTrue_plain (wp_next (γ := Unit) F h fun a v f1 s1 F1 t1 r1 q1 => wpAny_mono (q1 R s1 a F1 r1) (fun zz zz x => po_mono x t1 fun zz zz z => z) fun zz zz z => z) he
theorem tv_not {x : PySem.Expr} {pos : Pos} {Q : Bool → FS → Prop} (h : TV C x (fun b f => Q (!b) f) fs) : TV C (.UnaryOp .Not x pos) Q fs := fun R s F =>
  wpAny_isTrue_Not (wpAny_mono (h R s F) (fun a s' ⟨b, f, F', t, r, q⟩ => ⟨!b, f, F', t, by cases r; rfl, q⟩) fun zz zz z => z)
abbrev AT (C : Cx) (op : BoolOp) (l : List PySem.Expr) (Q : Bool → FS → Prop) (fs : FS) : Prop := WP C BR (allTrue op l C.env) Q fs
theorem tv_bool {op : BoolOp} {l : List PySem.Expr} {pos : Pos} {Q : Bool → FS → Prop} (h : AT C op l Q fs) : TV C (.BoolOp op l pos) Q fs := fun R s F => wpAny_isTrue_BoolOp (h R s F)
theorem at_and0 {Q : Bool → FS → Prop} (h : Q true fs) : AT C .And [] Q fs := fun R s F => wpAny_allTrue_And_nil ⟨_, fs, F, TK.refl, rfl, h⟩
theorem at_or0 {Q : Bool → FS → Prop} (h : Q false fs) : AT C .Or [] Q fs := fun R s F => wpAny_allTrue_Or_nil ⟨_, fs, F, TK.refl, rfl, h⟩
theorem at_and {x : PySem.Expr} {l : List PySem.Expr} {Q : Bool → FS → Prop} (h : TV C x (fun b f => (b = true → AT C .And l Q f) ∧ (b = false → Q false f)) fs) : AT C .And (x :: l) Q fs := fun R s F =>
  wpAny_allTrue_And_cons (wp_next (γ := Unit) F h fun a b f1 s1 F1 t1 r1 q1 => by
    cases r1
    cases a
    · exact ⟨_, f1, F1, t1, rfl, q1.2 rfl⟩
    · exact wpAny_mono (q1.1 rfl R s1 F1) (fun zz zz x => po_mono x t1 fun zz zz z => z) fun zz zz z => z)
theorem at_or {x : PySem.Expr} {l : List PySem.Expr} {Q : Bool → FS → Prop} (h : TV C x (fun b f => (b = false → AT C .Or l Q f) ∧ (b = true → Q true f)) fs) : AT C .Or (x :: l) Q fs := fun R s F =>
  wpAny_allTrue_Or_cons (wp_next (γ := Unit) F h fun a b f1 s1 F1 t1 r1 q1 => by
    cases r1
    cases a
    · exact wpAny_mono (q1.1 rfl R s1 F1) (fun zz zz x => po_mono x t1 fun zz zz z => z) fun zz zz z => z
    · exact ⟨_, f1, F1, t1, rfl, q1.2 rfl⟩)
theorem ev_and {x y : PySem.Expr} {pos : Pos} {Q : V → FS → Prop} (h : EV C x (fun v f => TR C v (fun b f => (b = true → EV C y Q f) ∧ (b = false → Q v f)) f) fs) : EV C (.BoolOp .And [x, y] pos) Q fs := fun R s F =>
  wpAny_And2 (wp_next (γ := Unit) F h fun a v f1 s1 F1 t1 r1 q1 => wpAny_mono (q1 R s1 a F1 r1) (fun c s2 x => by
    obtain ⟨b, f2, F2, t2, r2, q2⟩ := x
    cases r2
    cases c
    · exact ⟨_, f2, F2, t1.trans t2, r1.mono t2, q2.2 rfl⟩
    · exact wpAny_mono (q2.1 rfl R s2 F2) (fun zz zz x => po_mono x (t1.trans t2) fun zz zz z => z) fun zz zz z => z) fun zz zz z => z)
theorem ev_ifexp {x y z : PySem.Expr} {pos : Pos} {Q : V → FS → Prop} (h : TV C x (fun b f => (b = true → EV C y Q f) ∧ (b = false → EV C z Q f)) fs) : EV C (.IfExp x y z pos) Q fs := fun R s F =>
  wpAny_IfExp (wp_next (γ := Unit) F h fun a b f1 s1 F1 t1 r1 q1 => by
    cases r1
    cases a
    · exact wpAny_mono (q1.2 rfl R s1 F1) (fun zz zz x => po_mono x t1 fun zz zz z => z) fun zz zz z => z
    · exact wpAny_mono (q1.1 rfl R s1 F1) (fun zz zz x => po_mono x t1 fun zz zz z => z) fun zz zz z => z)
theorem op_not {v : V} {Q : V → FS → Prop} (h : TR C v (fun b f => Q (.bool (!b)) f) fs) : OP1 C VR (unaryOp .Not) v Q fs := fun R s a F ra =>
  not_of (wpAny_mono (h R s a F ra) (fun c s2 x => by obtain ⟨b, f2, F2, t2, r2, q2⟩ := x; cases r2; exact ⟨_, f2, F2, t2, by simp only [VR], q2⟩) fun zz zz z => z)
-- displays
abbrev SPL (C : Cx) (pos : Pos) (es : List PySem.Expr) (Q : List V → FS → Prop) (fs : FS) : Prop := WP C LR (spliced (backTo pos (starEach es C.env))) Q fs
theorem spl_nil {pos : Pos} {Q : List V → FS → Prop} (h : Q [] fs) : SPL C pos [] Q fs := fun R s F => spliced_none ⟨[], fs, F, TK.refl, LR.nil, h⟩
abbrev CoQ (Q : List V → FS → Prop) (v : V) : List V → FS → Prop := fun vs f2 => Q (v :: vs) f2
abbrev LcQ (C : Cx) (pos : Pos) (es : List PySem.Expr) (Q : List V → FS → Prop) : V → FS → Prop := fun v f => SPL C pos es (CoQ Q v) f
abbrev TuQ (Q : V → FS → Prop) : List V → FS → Prop := fun vs f => vs.length ≤ 1000 ∧ Q (.tup vs) f
theorem spl_cons {pos : Pos} {e : PySem.Expr} {es : List PySem.Expr} {Q : List V → FS → Prop} (h : EV C e (LcQ C pos es Q) fs)
    (he : starEach (e :: es) C.env = (false, eval e C.env) :: starEach es C.env := by rfl) : SPL C pos (e :: es) Q fs := fun R s F =>
  spliced_more (wp_next (γ := Unit) F h fun a v f1 s1 F1 t1 r1 q1 => wpAny_mono (q1 R s1 F1) (fun xs s2 x => by
    obtain ⟨vs, f2, F2, t2, r2, q2⟩ := x
    exact ⟨_, f2, F2, t1.trans t2, LR.cons (r1.mono t2) r2, q2⟩) fun zz zz z => z) he
theorem ev_tuple {es : List PySem.Expr} {k : Nat} {pos : Pos} {Q : V → FS → Prop} (h : SPL C pos es (TuQ Q) fs) : EV C (.Tuple es k pos) Q fs := fun R s F =>
  wpAny_Tuple_spliced (wp_next (γ := Unit) F h fun xs vs f1 s1 F1 t1 r1 q1 => by
    have hk := KeepAll.push s1.heap { cls := .type "tuple", data := .seq xs.toArray }
    refine ⟨?_, ⟨_, f1, F1.keeps (t := s1.toks) hk, t1.trans hk.tk, ?_, q1.2⟩⟩
    · rw [r1.length]; have := q1.1; have e : sizeLine = 16777216 := rfl; lia
    · simp only [VR]
      exact ⟨_, xs.toArray, rfl, ⟨_, Heap.get?_push_size _ rfl, rfl, _, rfl⟩, by simpa using r1.mono hk.tk⟩)
theorem ev_list {es : List PySem.Expr} {pos : Pos} {Q : V → FS → Prop} (h : SPL C pos es (fun vs f => vs.length ≤ 1000 ∧ ∀ a, f.σ.Fresh a → Q (.ref a) { f with σ := f.σ.setLi a vs }) fs) : EV C (.List es pos) Q fs := fun R s F =>
  wpAny_List_spliced (wp_next (γ := Unit) F h fun xs vs f1 s1 F1 t1 r1 q1 => by
    have hk := KeepAll.push s1.heap { cls := .type "list", data := .seq xs.toArray }
    obtain ⟨F2, fr⟩ := F1.newLi (t := s1.toks) hk (get_size _) (items := xs.toArray) (ws := vs) ⟨_, Heap.get?_push_size _ rfl, _, rfl⟩ (by simpa using r1.mono hk.tk)
    refine ⟨?_, ⟨_, _, F2, t1.trans hk.tk, by simp only [VR], q1.2 _ fr⟩⟩
    rw [r1.length]; have := q1.1; have e : sizeLine = 16777216 := rfl; lia)
end
end
-- RF
noncomputable section
open PySem PySem.W PySem.Calls PyProof.Rows
inductive HS.Live (σ : HS) (a : Addr) : Prop where
  | li {x} (e : σ.li a = some x) | dm {x} (e : σ.dm a = some x) | ob {x} (e : σ.ob a = some x) | st {x} (e : σ.st a = some x)
theorem HS.Fresh.not {σ : HS} {a : Addr} (f : σ.Fresh a) : ¬ σ.Live a := fun l => by
  cases l with
  | li e => rw [f.li] at e; cases e
  | dm e => rw [f.dm] at e; cases e
  | ob e => rw [f.ob] at e; cases e
  | st e => rw [f.st] at e; cases e
theorem HR.live {W : Wd} {R : Addr → Option Obj} {σ : HS} {h : Heap} (x : HR W R σ h) {a} (l : σ.Live a) : ∃ o, h.get? a = some o := by
  cases l with
  | li e => obtain ⟨_, _, ⟨o, ho, _⟩, _⟩ := x.li a _ e; exact ⟨o, ho⟩
  | dm e => obtain ⟨o, _, _, ho, _⟩ := (x.dm a _ e).2.obj; exact ⟨o, ho⟩
  | ob e => rename_i y; exact ⟨_, (x.ob a y.1 y.2 e).2⟩
  | st e => obtain ⟨_, _, o, _, _, _, ho, _⟩ := x.st a _ e; exact ⟨o, ho⟩
theorem HR.out {W : Wd} {R : Addr → Option Obj} {σ : HS} {h : Heap} (x : HR W R σ h) {a} (l : σ.Live a) : R a = none := by
  cases l with
  | li e => exact (x.li a _ e).1
  | dm e => exact (x.dm a _ e).1
  | ob e => rename_i y; exact (x.ob a y.1 y.2 e).1
  | st e => exact (x.st a _ e).1
theorem HR.swap {W : Wd} {R R' : Addr → Option Obj} {σ : HS} {h : Heap} (x : HR W R σ h) (keep : ∀ b o, R' b = some o → h.get? b = some o)
    (n : ∀ a, σ.Live a → R' a = none) : HR W R' σ h :=
  ⟨keep, fun a vs e => ⟨n a (.li e), (x.li a vs e).2⟩, fun a d e => ⟨n a (.dm e), (x.dm a d e).2⟩, fun a C d e => ⟨n a (.ob e), (x.ob a C d e).2⟩, fun a ns e => ⟨n a (.st e), (x.st a ns e).2⟩⟩
section
variable {C : Cx} {fs : FS} {R : Addr → Option Obj} {s : Shared}
theorem FR.live (F : FR C R fs s) {a} (l : fs.σ.Live a) : ¬ own C.env a ∧ R a = none := by
  have := F.hr.out l
  have n := F.notOwn this
  rw [rp_not n] at this
  exact ⟨n, this⟩
theorem FR.enter (F : FR C R fs s) {A' : Around} {env' : Env} {fn : Bool} {h₁ : Heap} {t : Nat} {m' k' : List (Str × V)} {mv : Str → Option Value}
    (ka : KeepAll s.heap h₁) (hL : s.heap.get? env'.locals = none) (hn : h₁.Ns env'.locals mv)
    (hm : ∀ x v, m'.lookup x = some v → ∃ u, mv x = some u ∧ VR h₁ v u)
    (hc : ∀ x c, (x, c) ∈ env'.cells → ∃ v₀, h₁.IsCell c v₀ ∧ ∀ v, k'.lookup x = some v → ∃ u, v₀ = some u ∧ VR h₁ v u)
    (hd : ∀ x c, (x, c) ∈ env'.cells → s.heap.get? c = none ∨ Rp R C.env s.heap c ≠ none)
    (ho : ∀ x c, (x, c) ∈ env'.cells → fn = true → env'.kindOf x = some .cell → s.heap.get? c = none)
    (ap : env'.cells.Pairwise fun x y => x.2 ≠ y.2) (nm : (env'.cells.map (·.1)).Nodup) :
    FR ⟨C.W, A', env', fn⟩ (Rp R C.env s.heap) ⟨m', k', fs.σ⟩ { s with heap := h₁, toks := t } := by
  have none_of : ∀ a, s.heap.get? a = none → Rp R C.env s.heap a = none := fun a e => by
    cases q : Rp R C.env s.heap a with
    | none => rfl
    | some o => rw [F.hr.keep a o q] at e; cases e
  refine ⟨F.gens, F.os, fun b o e => ?_, fun b o e => ka b o (F.hr.keep b o e), ?_, none_of _ hL, ⟨mv, hn, hm⟩, hc, ap, nm, fun x c h1 h2 h3 => none_of _ (ho x c h1 h2 h3)⟩
  · by_cases x : own C.env b
    · rw [rp_own x]; exact F.rk b o (F.base b o e)
    · rw [rp_not x]; exact F.base b o e
  · refine HR.swap (F.hr.keeps ka) (fun b o e => ?_) fun a l => ?_
    · by_cases x : own env' b
      · rw [rp_own x] at e; exact e
      · rw [rp_not x] at e; exact ka b o (F.hr.keep b o e)
    · obtain ⟨o, hlo⟩ := F.hr.live l
      have q := F.hr.out l
      have no : ¬ own env' a := fun x => by
        rcases x with x | x
        · rw [x, hL] at hlo; cases hlo
        · obtain ⟨⟨y, c⟩, hy, rfl⟩ := List.mem_map.mp x
          rcases hd y c hy with z | z
          · dsimp only at hlo; rw [z] at hlo; cases hlo
          · exact z q
      rw [rp_not no]; exact q
theorem FR.leave (F : FR C R fs s) {A' : Around} {env' : Env} {fn : Bool} {f' : FS} {s' : Shared}
    (F' : FR ⟨C.W, A', env', fn⟩ (Rp R C.env s.heap) f' s') (tk : TK s.heap s'.heap) : FR C R { fs with σ := f'.σ } s' := by
  have up : ∀ b o, Rp R C.env s.heap b = some o → s'.heap.get? b = some o := F'.rk
  have rk : ∀ b o, R b = some o → s'.heap.get? b = some o := fun b o e => by
    refine up b o ?_
    by_cases x : own C.env b
    · rw [rp_own x]; exact F.rk b o e
    · rw [rp_not x]; exact e
  refine ⟨F'.gens, F'.os, F.base, rk, ?_, F.rl, ?_, fun x c h => ?_, F.apart, F.names, F.co⟩
  · refine HR.swap F'.hr (fun b o e => ?_) fun a l => ?_
    · by_cases x : own C.env b
      · rw [rp_own x] at e; exact e
      · rw [rp_not x] at e; exact rk b o e
    · have q := (F'.live l).2
      by_cases x : own C.env a
      · obtain ⟨o, ho, zz⟩ := F.ownAt x
        rw [rp_own x, ho] at q; cases q
      · rw [rp_not x] at q ⊢; exact q
  · obtain ⟨mv, ⟨o, es, ep, ho, r⟩, e⟩ := F.loc
    exact ⟨mv, ⟨o, es, ep, up _ o (by rw [rp_own (.inl rfl)]; exact ho), r⟩, locs_mono tk e⟩
  · obtain ⟨v₀, ⟨o, ho, d⟩, q⟩ := F.cells x c h
    exact ⟨v₀, ⟨o, up _ o (by rw [rp_own (.inr (List.mem_map_of_mem (f := (·.2)) h))]; exact ho), d⟩, opt_mono tk q⟩
-- stores
abbrev ST (C : Cx) (x : Str) (v : V) (Q : Unit → FS → Prop) (fs : FS) : Prop := OP1 C UR (storeName C.env x) v Q fs
theorem st_loc {x : Str} {v : V} {Q : Unit → FS → Prop} (h : Q () (fs.am x v)) (hk : C.env.scope.kind = .function := by rfl) (hl : C.env.kindOf x = some .local := by rfl) : ST C x v Q fs := fun R s u F r => by
  obtain ⟨mv, n, e⟩ := F.loc
  refine wpAny_storeName_local hl n (fun h' hn' sb => ?_) (by rw [hk]; rfl)
  obtain ⟨F', tk⟩ := F.setM (t := s.toks + 1) e r n hn' sb
  exact ⟨(), _, F', tk, trivial, h⟩
theorem st_cell {x : Str} {c : Addr} {v : V} {Q : Unit → FS → Prop} (h : Q () (fs.ak x v)) (hc : C.env.cells.lookup x = some c) (hf : C.fn = true := by rfl) (hk : C.env.scope.kind = .function := by rfl) (hl : C.env.kindOf x = some .cell := by rfl) : ST C x v Q fs := fun R s u F r => by
  obtain ⟨v₀, i, e⟩ := F.cells x c (mem_of_lookup hc)
  refine wpAny_storeName_cell hk hl hc i fun h' hn' sb => ?_
  obtain ⟨F', tk⟩ := F.setK (t := s.toks) r (mem_of_lookup hc) (F.co x c (mem_of_lookup hc) hf hl) hn' sb
  exact ⟨(), _, F', tk, trivial, h⟩
variable {α β γ δ : Type} {rel : Heap → β → α → Prop}
theorem po_at {R s₀ s₁} {Q : β → FS → Prop} {a : α} {s : Shared} (x : PO C R s₁ rel Q a s) (k : TK s₀.heap s₁.heap) : PO C R s₀ rel Q a s := po_mono x k fun zz zz z => z
theorem wp_at {R s₀ s₁} {t : Sem α} {Q : β → FS → Prop} (h : wpAny (Mo C) C.A t (PO C R s₁ rel Q) (fun zz zz => False) s₁) (k : TK s₀.heap s₁.heap) : wpAny (Mo C) C.A t (PO C R s₀ rel Q) (fun zz zz => False) s₁ :=
  wpAny_mono h (fun zz zz x => po_at x k) fun zz zz z => z
theorem wp_to {R s₁} {t : Sem α} {Q : β → FS → Prop} {f : α → Shared → Prop} (h : wpAny (Mo C) C.A t (PO C R s₁ rel Q) (fun zz zz => False) s₁)
    (k : ∀ a b fs' s', FR C R fs' s' → TK s₁.heap s'.heap → rel s'.heap b a → Q b fs' → f a s') : wpAny (Mo C) C.A t f (fun zz zz => False) s₁ :=
  wpAny_mono h (fun a s' ⟨b, fs', F', t, r, q⟩ => k a b fs' s' F' t r q) fun zz zz z => z
theorem OP1.mono {t : Value → Sem α} {x : V} {Q Q' : β → FS → Prop} (h : OP1 C rel t x Q fs) (k : ∀ b f, Q b f → Q' b f) : OP1 C rel t x Q' fs := fun R s a F r => wpAny_mono (h R s a F r) (fun zz zz x => po_mono x TK.refl k) fun zz zz z => z
-- assignment
abbrev StQ (C : Cx) (x : Str) (Q : Fw → FS → Prop) : V → FS → Prop := fun v f => ST C x v (NxQ Q) f
theorem xv_name {x p e pos} {Q : Fw → FS → Prop} (h : EV C e (StQ C x Q) fs)
    (hs : swapsWith e (some (.Name x p)) pos.line C.env = pure false := by rfl) : XV C (.Assign [.Name x p] e pos) Q fs := fun R s F => by
  refine wpAny_Assign_Name (wp_to (h R s F) fun a v f1 s1 F1 t1 r1 q1 => ?_) hs
  exact wp_to (q1 R s1 a F1 r1) fun zz zz f2 s2 F2 t2 zz q2 => ⟨.next, f2, F2, t1.trans t2, rfl, q2⟩
theorem xv_expr {e pos} {Q : Fw → FS → Prop} (h : EV C e (fun zz f => Q .next f) fs) (hi : interactive C.env = false := by rfl) (hs : swapsWith e none pos.line C.env = pure false := by rfl) : XV C (.Expr e pos) Q fs := fun R s F =>
  wpAny_Expr_any (wp_to (h R s F) fun zz zz f2 s2 F2 t2 zz q2 => ⟨.next, f2, F2, t2, rfl, q2⟩) hi hs
theorem xv_attr {o attr p e pos} {Q : Fw → FS → Prop} (h : EV C e (fun v f => EV C o (fun ov f2 => OP2 C UR (fun a b => setAttr a attr b) ov v (fun zz => Q .next) f2) f) fs)
    (hs : swapsWith e (some (.Attribute o attr p)) pos.line C.env = pure false := by rfl) : XV C (.Assign [.Attribute o attr p] e pos) Q fs := fun R s F => by
  refine plainObj_wpAny_Assign_Attribute (wp_to (h R s F) fun a v f1 s1 F1 t1 r1 q1 => ?_) hs
  refine wp_to (q1 R s1 F1) fun b w f2 s2 F2 t2 r2 q2 => ?_
  exact wp_to (q2 R s2 b a F2 r2 (r1.mono t2)) fun zz zz f3 s3 F3 t3 zz q3 => ⟨.next, f3, F3, (t1.trans t2).trans t3, rfl, q3⟩
theorem xv_sub {o i p e pos} {Q : Fw → FS → Prop} (h : EV C e (fun v f => EV C o (fun ov f2 => EV C i (fun iv f3 => OP3 C UR setItem ov iv v (fun zz => Q .next) f3) f2) f) fs)
    (hs : swapsWith e (some (.Subscript o i p)) pos.line C.env = pure false := by rfl) : XV C (.Assign [.Subscript o i p] e pos) Q fs := fun R s F => by
  refine wpAny_Assign_Subscript (wp_to (h R s F) fun a v f1 s1 F1 t1 r1 q1 => ?_) hs
  refine wp_to (q1 R s1 F1) fun b w f2 s2 F2 t2 r2 q2 => ?_
  refine wp_to (q2 R s2 F2) fun c z f3 s3 F3 t3 r3 q3 => ?_
  exact wp_to (q3 R s3 b c a F3 (r2.mono t3) r3 ((r1.mono t2).mono t3)) fun zz zz f4 s4 F4 t4 zz q4 => ⟨.next, f4, F4, ((t1.trans t2).trans t3).trans t4, rfl, q4⟩
abbrev AS (C : Cx) (t : PySem.Expr) (v : V) (Q : Unit → FS → Prop) (fs : FS) : Prop := OP1 C UR (assign t C.env) v Q fs
theorem as_name {x p} {v : V} {Q : Unit → FS → Prop} (h : ST C x v Q fs) : AS C (.Name x p) v Q fs := fun R s a F r => wpAny_assign_Name (h R s a F r)
theorem FR.ext (F : FR C R fs s) {h' : Heap} (e : Heap.ExtBut s.heap.objs.size s.heap h') : FR C R fs { s with heap := h' } ∧ TK s.heap h' := by
  have k : KeepAll s.heap h' := fun b o q => e b o (Nat.ne_of_lt (Heap.lt_size q)) q
  exact ⟨F.keeps (t := s.toks) k, k.tk⟩
theorem as_tup2 {e1 e2 k p} {v w : V} {Q : Unit → FS → Prop} (hh : C.A.handled = none) (h : AS C e1 v (fun zz f => AS C e2 w Q f) fs)
    (hn : (assignEach [e1, e2] C.env).length = 2 := by rfl) (hstar : (assignEach [e1, e2] C.env).findIdx? (·.1) = none := by rfl)
    (he : (assignEach [e1, e2] C.env).map (·.2) = [assign e1 C.env, assign e2 C.env] := by rfl) : AS C (.Tuple [e1, e2] k p) (.tup [v, w]) Q fs := fun R s a F r => by
  simp only [VR] at r
  obtain ⟨t, items, rfl, ht, l⟩ := r
  simp only [LR] at l
  obtain ⟨y, r1, e1', ry, z, r2, rfl, rz, rfl⟩ := l
  refine wpAny_assign_Tuple hh ht (by rw [hn]; have := congrArg List.length e1'; simpa using this.symm) hstar fun h' ex => ?_
  obtain ⟨F1, t1⟩ := F.ext ex
  rw [he, e1']
  refine wpAny_assignInOrder_more ?_
  refine wp_to (h R _ y F1 (ry.mono t1)) fun zz zz f2 s2 F2 t2 zz q2 => ?_
  refine wpAny_assignInOrder_more ?_
  refine wp_to (q2 R _ z F2 (rz.mono (t1.trans t2))) fun zz zz f3 s3 F3 t3 zz q3 => ?_
  exact wpAny_assignInOrder_none ⟨(), f3, F3, (t1.trans t2).trans t3, trivial, q3⟩
theorem xv_tup {elts k tp e pos} {Q : Fw → FS → Prop} (h : EV C e (fun v f => AS C (.Tuple elts k tp) v (fun zz => Q .next) f) fs)
    (hs : swapsWithSole [.Tuple elts k tp] e pos.line C.env = pure false := by rfl) (hw : swappedStores [.Tuple elts k tp] e C.env = pure none := by rfl) : XV C (.Assign [.Tuple elts k tp] e pos) Q fs := fun R s F => by
  refine Assign_Tuple (wp_to (h R s F) fun a v f1 s1 F1 t1 r1 q1 => ?_) hs hw
  exact wp_to (q1 R s1 a F1 r1) fun zz zz f2 s2 F2 t2 zz q2 => ⟨.next, f2, F2, t1.trans t2, rfl, q2⟩
end
end
-- RG
noncomputable section
open PySem PySem.W PySem.Calls PyProof.Rows
theorem lookIn_ns {h : Heap} {d : Addr} {mv : Str → Option Value} {o : Obj} (n : h.Ns d mv) (ho : h.get? d = some o) (name : Str) : lookIn name o = some (mv name) := by
  obtain ⟨o', es, ep, ho', hd, hk, hf⟩ := n
  rw [ho] at ho'; cases ho'
  have hr : es.toList.any (·.refKey) = false := by
    rw [List.any_eq_false]
    intro e he
    obtain ⟨x, t, q⟩ := hk e (Array.mem_toList_iff.mp he)
    simp [DictEntry.refKey, q]
  unfold lookIn
  rw [hd]
  dsimp only
  rw [← hf name]
  unfold nsFind findBy
  rw [← Array.find?_toList]
  cases q : es.toList.find? (fun e => e.key.isStr name) with
  | none => simp [hr]
  | some e => rfl
structure KC (K : Frag) (C : Addr) : Prop where
  pg : ∀ n, plainGet K C n = true
  hd : hasDictIn K C = true
  sa : findIn K (.ref C) "__setattr__" = some (some (.builtin "object.__setattr__"))
  po : plainOver K C = true
def V.hand : V → Bool | .bi _ => false | _ => true
theorem hand_of {h : Heap} {v : V} {u : Value} (r : VR h v u) (e : v.hand = true) : handedIn u = true := by
  cases v with
  | bi _ => cases e
  | none => simp only [VR] at r; subst r; rfl
  | bool _ => simp only [VR] at r; subst r; rfl
  | ref _ => simp only [VR] at r; subst r; rfl
  | ty _ => simp only [VR] at r; subst r; rfl
  | int _ => simp only [VR] at r; obtain ⟨_, rfl⟩ := r; rfl
  | str _ => simp only [VR] at r; obtain ⟨_, rfl⟩ := r; rfl
  | tup _ => simp only [VR] at r; obtain ⟨_, _, rfl, _⟩ := r; rfl
section
variable {C : Cx} {fs : FS} {R : Addr → Option Obj} {s : Shared} {α β : Type} {rel : Heap → β → α → Prop}
theorem FR.inst (F : FR C R fs s) {x Cl d : Addr} {al : List (Str × V)} (ho : fs.σ.ob x = some (Cl, d)) (hd : fs.σ.dm d = some (.at al)) :
    ∃ mv od, s.heap.Ns1 d mv ∧ s.heap.get? d = some od ∧ W.InstAt s.heap x (instObj Cl d) Cl (some od) ∧ ∀ n, match al.lookup n with
      | some v => ∃ u, mv n = some u ∧ VR s.heap v u
      | none => mv n = none := by
  obtain ⟨zz, hx⟩ := F.hr.ob x Cl d ho
  obtain ⟨zz, mv, n, e⟩ := F.hr.dm d _ hd
  obtain ⟨od, zz, zz, hod, zz⟩ := id n
  exact ⟨mv, od, n, hod, ⟨hx, rfl, rfl, hod⟩, e⟩
theorem at_get {x Cl d : Addr} {al : List (Str × V)} {name : Str} {v : V} {ex : Bool} {Q : V → FS → Prop} (k : KC C.W.K Cl) (ho : fs.σ.ob x = some (Cl, d)) (hd : fs.σ.dm d = some (.at al))
    (hl : al.lookup name = some v) (ha : findIn C.W.K (.ref Cl) name = some none) (h : Q v fs) (hv : v.hand = true := by rfl) : OP1 C VR (fun a => getAttr a name ex) (.ref x) Q fs := fun R s a F r => by
  simp only [VR] at r; subst r
  obtain ⟨mv, od, n, hod, I, e⟩ := F.inst ho hd
  have e' := e name
  rw [hl] at e'
  obtain ⟨u, e1, e2⟩ := e'
  exact get_value F.k I (plainGet_of (k.pg name)).1 (findObj_own k.hd ha rfl (by rw [lookIn_ns n.ns hod, e1])) (hand_of e2 hv) ⟨v, fs, F.toks _, TK.refl, e2, h⟩
theorem ev_attr {o name pos} {Q : V → FS → Prop} (h : EV C o (U1 C (fun a => getAttr a name true) Q) fs)
    (he : eval (.Attribute o name pos) C.env = (do
      let o' ← eval o C.env
      standAt pos.atName
      let r ← holding [o'] (getAttr o' name true)
      letTemporaryGo o o' r
      pure r) := by with_unfolding_all rfl) : EV C (.Attribute o name pos) Q fs := fun R s F =>
  Attribute_any_ (wp_to (h R s F) fun a v f1 s1 F1 t1 r1 q1 => wp_at (q1 R s1 a F1 r1) t1) he
def GM (C : Cx) (name : Str) (v : V) (fv : Value) (first : List V) (fs : FS) : Prop :=
  ∀ pl R s a (Q' : Value × List Value → Shared → Prop), FR C R fs s → VR s.heap v a → (∀ s' r, FR C R fs s' → TK s.heap s'.heap → LR s'.heap first r → Q' (fv, r) s') →
    wpAny (Mo C) C.A (getMethod a name pl) Q' (fun zz zz => False) s
theorem gm_own {x Cl d f : Addr} {al : List (Str × V)} {name : Str} (k : KC C.W.K Cl) (ho : fs.σ.ob x = some (Cl, d)) (hd : fs.σ.dm d = some (.at al))
    (hl : al.lookup name = none) (hf : findIn C.W.K (.ref Cl) name = some (some (.ref f))) (ht : typeIn C.W.K (.ref f) = some (.type "function")) : GM C name (.ref x) (.ref f) [.ref x] fs := fun pl R s a Q' F r h => by
  simp only [VR] at r; subst r
  obtain ⟨mv, od, n, hod, I, e⟩ := F.inst ho hd
  have e' := e name
  rw [hl] at e'
  refine method_fn F.k I (plainGet_of (k.pg name)).1 (plainGet_of (k.pg name)).2 hf ht ?_ (h s _ F TK.refl (.cons (by simp only [VR]) .nil))
  show (lookIn name od).map _ = _
  rw [lookIn_ns n.ns hod, e']; rfl
def KP (C : Cx) (fv : Value) : Prop := (∃ id, fv = .builtin id) ∨ (∃ T, fv = .type T) ∨ keepIn C.W.K fv = true
def PArgs (pos : Pos) (env : Env) : List PySem.Expr → Prop
  | [] => True
  | e :: rest => starEach (e :: rest) env = (false, eval e env) :: starEach rest env ∧ (backTo pos (starEach rest env)).any (·.1) = false
theorem evalArgs_any {M : Model} {A : Around} {f : Value} {l : List (Bool × Sem Value)} {Q : Args → Shared → Prop} {E : Value → Shared → Prop} (hl : l.any (·.1) = false)
    (h : wpAny M A (spliced l) (fun vs s' => Q ⟨vs, []⟩ s') E s) : wpAny M A (evalArgs f true l []) Q E s := by
  cases l with
  | nil =>
    unfold evalArgs
    show wpAny M A (spliced [] >>= _) Q E s
    refine wpAny_bind (wpAny_mono h (fun vs s' h' => ?_) fun zz zz x => x)
    refine wpAny_bind (wpAny_pure ?_)
    refine wpAny_holding ?_
    exact wpAny_bind (wpAny_pure (wpAny_bind (wpAny_pure (wpAny_pure h'))))
  | cons x r =>
    obtain ⟨b, t⟩ := x
    simp only [List.any_cons, Bool.or_eq_false_iff] at hl
    obtain ⟨rfl, zz⟩ := hl
    exact Calls.evalArgs_plain h
theorem keeps_KP {fv : Value} (hk : KP C fv) (h : Heap) (X : C.W.K.In h) : ∃ k, (k = Keeper.frame ∨ k = Keeper.machine ∨ k = Keeper.boundFrame) ∧ Looks (Mo C) h (keeperOf fv) k := by
  rcases hk with ⟨id, rfl⟩ | ⟨T, rfl⟩ | hk
  · exact ⟨_, .inr (.inl rfl), Looks.of_pure rfl⟩
  · exact ⟨_, .inr (.inl rfl), Looks.of_pure rfl⟩
  · exact keeps_K hk h X
theorem callWith_V {pos : Pos} {fv : Value} {first : List Value} {args : List PySem.Expr} {Q : Value → Shared → Prop} {E : Value → Shared → Prop} (hk : KP C fv) (hp : (backTo pos (starEach args C.env)).any (·.1) = false)
    (h : wpAny (Mo C) C.A (spliced (backTo pos (starEach args C.env))) (fun vs s₁ => C.W.K.In s₁.heap ∧ wpAny (Mo C) C.A (call fv (first ++ vs)) Q E s₁) E s) :
    wpAny (Mo C) C.A (callWith pos fv first (backTo pos (starEach args C.env)) []) Q E s :=
  callWith_of (by rw [hp]; rfl) (keeps_KP hk) (evalArgs_any hp h)
def V.cal : V → Value | .ref a => .ref a | .ty n => .type n | .bi n => .builtin n | _ => .none
def V.isCal : V → Bool | .ref a => true | .ty n => true | .bi n => true | _ => false
theorem cal_of {h : Heap} {v : V} {u : Value} (r : VR h v u) (e : v.isCal = true) : u = v.cal := by
  cases v with
  | ref a => simp only [VR] at r; exact r
  | ty a => simp only [VR] at r; exact r
  | bi a => simp only [VR] at r; exact r
  | _ => cases e
abbrev CL (C : Cx) (fv : Value) (vs : List V) (Q : V → FS → Prop) (fs : FS) : Prop := OPL C VR (fun xs => call fv xs) vs Q fs
theorem ev_call {x np args pos} {Q : V → FS → Prop} (h : EV C (.Name x np) (fun v f1 => v.isCal = true ∧ KP C v.cal ∧ SPL C pos args (fun vs f2 => CL C v.cal vs Q f2) f1) fs)
    (hp : (backTo pos (starEach args C.env)).any (·.1) = false := by rfl) : EV C (.Call (.Name x np) args [] pos) Q fs := fun R s F => by
  refine wpAny_Call_NameR (wp_to (h R s F) fun a v f1 s1 F1 t1 r1 q1 => ?_)
  obtain ⟨e1, e2, q1⟩ := q1
  obtain rfl := cal_of r1 e1
  refine callWith_V e2 hp (wp_to (q1 R s1 F1) fun vs ws f2 s2 F2 t2 r2 q2 => ⟨F2.k, ?_⟩)
  exact wp_at (q2 R s2 vs F2 r2) (t1.trans t2)
inductive MeQ (C : Cx) (name : Str) (fv : Value) (pos : Pos) (args : List PySem.Expr) (Q : V → FS → Prop) (v : V) (f1 : FS) : Prop
  | mk (first : List V) (g : GM C name v fv first f1) (k : KP C fv) (h : SPL C pos args (fun vs f2 => CL C fv (first ++ vs) Q f2) f1)
theorem ev_meth {o name apos args pos} {fv : Value} {Q : V → FS → Prop}
    (h : EV C o (MeQ C name fv pos args Q) fs)
    (hp : (backTo pos (starEach args C.env)).any (·.1) = false := by rfl)
    (hpl : ∃ pl : Sem Bool, eval (.Call (.Attribute o name apos) args [] pos) C.env = (do
      let ov ← eval o C.env
      standAt apos.atName
      let (f, first) ← holding [ov] (getMethod ov name pl)
      callWith pos f first (backTo pos (starEach args C.env)) (backToKw pos (keywordEach [] C.env))) := by exact ⟨_, rfl⟩) :
    EV C (.Call (.Attribute o name apos) args [] pos) Q fs := fun R s F => by
  obtain ⟨pl, he⟩ := hpl
  refine methodCall_KW (pl := pl) (wp_to (h R s F) fun a v f1 s1 F1 t1 r1 q1 => ?_) he
  obtain ⟨first, g, kp, q1⟩ := q1
  refine g pl R s1 a _ F1 r1 fun s2 r F2 t2 l2 => ?_
  refine callWith_V kp hp (wp_to (q1 R s2 F2) fun vs ws f3 s3 F3 t3 r3 q3 => ⟨F3.k, ?_⟩)
  exact wp_at (q3 R s3 _ F3 ((l2.mono t3).append r3)) ((t1.trans t2).trans t3)
end
-- calls of the text's own defs
def bm (kindOf : Str → Option NameKind) : List (Str × V) → List (Str × V) → List (Str × V)
  | [], m => m
  | (n, v) :: r, m => bm kindOf r (if kindOf n = some .local then (n, v) :: m else m)
def bk (kindOf : Str → Option NameKind) : List (Str × V) → List (Str × V) → List (Str × V)
  | [], m => m
  | (n, v) :: r, m => bk kindOf r (if kindOf n = some .local then m else (n, v) :: m)
section
variable {fs : FS} {R : Addr → Option Obj} {s : Shared}
theorem FR.reA {W : Wo} {A A' : Around} {env : Env} {fn : Bool} (F : FR ⟨W, A, env, fn⟩ R fs s) : FR ⟨W, A', env, fn⟩ R fs s := ⟨F.gens, F.os, F.base, F.rk, F.hr, F.rl, F.loc, F.cells, F.apart, F.names, F.co⟩
theorem bind_ok {W : Wo} {A : Around} {env : Env} {E : Value → Shared → Prop} (f : Str × Value → PUnit → Sem (ForInStep PUnit)) (hf : ∀ n v u, f (n, v) u = (do storeName env n v; pure (.yield ⟨⟩))) (hk : env.scope.kind = .function) :
    ∀ (ns : List Str) (vs : List V) (xs : List Value) (m k : List (Str × V)) (σ : HS) (s : Shared) (Q : PUnit → Shared → Prop), FR ⟨W, A, env, true⟩ R ⟨m, k, σ⟩ s → LR s.heap vs xs →
      (∀ x ∈ ns, env.kindOf x = some .local ∨ (env.kindOf x = some .cell ∧ (env.cells.lookup x).isSome = true)) →
      (∀ s', FR ⟨W, A, env, true⟩ R ⟨bm env.kindOf (ns.zip vs) m, bk env.kindOf (ns.zip vs) k, σ⟩ s' → TK s.heap s'.heap → Q ⟨⟩ s') → wpAny (model W.prog W.w) A (forIn (ns.zip xs) ⟨⟩ f) Q E s
  | [], vs, xs, m, k, σ, s, Q, F, l, hkind, h => by simp only [List.zip_nil_left, List.forIn_nil]; exact wpAny_pure (h s F TK.refl)
  | n :: ns, [], xs, m, k, σ, s, Q, F, l, hkind, h => by simp only [LR] at l; subst l; simp only [List.zip_nil_right, List.forIn_nil]; exact wpAny_pure (h s F TK.refl)
  | n :: ns, v :: vs, xs, m, k, σ, s, Q, F, l, hkind, h => by
    simp only [LR] at l
    obtain ⟨y, r, rfl, ry, l⟩ := l
    rw [List.zip_cons_cons, List.forIn_cons, hf]
    have hr : ∀ y ∈ ns, env.kindOf y = some .local ∨ (env.kindOf y = some .cell ∧ (env.cells.lookup y).isSome = true) := fun y hy => hkind y (List.mem_cons_of_mem _ hy)
    rcases hkind n List.mem_cons_self with hl | ⟨hl, hc⟩
    · refine wpAny_bind (wpAny_bind (wpAny_mono (st_loc (C := ⟨W, A, env, true⟩) (Q := fun zz f => f = ⟨(n, v) :: m, k, σ⟩) rfl hk hl R s y F ry) (fun zz s' x => ?_) fun zz zz z => z.elim))
      obtain ⟨zz, f', F', t', zz, rfl⟩ := x
      refine wpAny_pure (bind_ok f hf hk ns vs r _ _ σ s' Q F' (l.mono t') hr fun s'' F'' t'' => h s'' ?_ (t'.trans t''))
      show FR _ R ⟨bm _ ((n, v) :: ns.zip vs) m, bk _ ((n, v) :: ns.zip vs) k, σ⟩ s''
      unfold bm bk; rw [if_pos hl, if_pos hl]; exact F''
    · obtain ⟨c, hc⟩ := Option.isSome_iff_exists.mp hc
      have hnl : ¬ env.kindOf n = some .local := by rw [hl]; decide
      refine wpAny_bind (wpAny_bind (wpAny_mono (st_cell (C := ⟨W, A, env, true⟩) (Q := fun zz f => f = ⟨m, (n, v) :: k, σ⟩) rfl hc rfl hk hl R s y F ry) (fun zz s' x => ?_) fun zz zz z => z.elim))
      obtain ⟨zz, f', F', t', zz, rfl⟩ := x
      refine wpAny_pure (bind_ok f hf hk ns vs r _ _ σ s' Q F' (l.mono t') hr fun s'' F'' t'' => h s'' ?_ (t'.trans t''))
      show FR _ R ⟨bm _ ((n, v) :: ns.zip vs) m, bk _ ((n, v) :: ns.zip vs) k, σ⟩ s''
      unfold bm bk; rw [if_neg hnl, if_neg hnl]; exact F''
theorem cellsFrom_at : ∀ (names : List (Str × NameKind)) (h : Heap) (acc : List (Str × Addr)) (lo : Nat), lo ≤ h.objs.size →
    (∀ x c, (x, c) ∈ acc → (h.IsCell c Option.none ∧ lo ≤ c ∧ names.lookup x = names.lookup x) ∨ c < lo) → (acc.Pairwise fun x y => x.2 ≠ y.2) → (∀ x c, (x, c) ∈ acc → c < h.objs.size) →
    (∀ x c, (x, c) ∈ cellsFrom h.objs.size names acc → (c < lo ∧ (x, c) ∈ acc) ∨ ((pushCells h names).IsCell c Option.none ∧ lo ≤ c)) ∧ ((cellsFrom h.objs.size names acc).Pairwise fun x y => x.2 ≠ y.2)
  | [], h, acc, lo, hlo, ha, hp, hz => ⟨fun x c m => by
      rcases ha x c m with q | q
      · exact .inr ⟨q.1, q.2.1⟩
      · exact .inl ⟨q, m⟩, hp⟩
  | (name, kind) :: r, h, acc, lo, hlo, ha, hp, hz => by
    unfold cellsFrom pushCells
    split
    · have ih := cellsFrom_at r (h.push { cls := .type "cell", data := .cell Option.none }) ((name, h.objs.size) :: acc) lo (by rw [Heap.size_push]; lia)
        (fun x c m => by
          rcases List.mem_cons.mp m with e | m
          · cases e; exact .inl ⟨⟨_, Heap.get?_push_size _ rfl, rfl⟩, hlo, rfl⟩
          · rcases ha x c m with q | q
            · exact .inl ⟨q.1.keeps fun b o e => Heap.get?_push_of_some _ e, q.2.1, rfl⟩
            · exact .inr q)
        (List.pairwise_cons.mpr ⟨fun y hy e => by have q := hz y.1 y.2 hy; have e' : h.objs.size = y.2 := e; rw [← e'] at q; exact Nat.lt_irrefl _ q, hp⟩)
        (fun x c m => by
          rw [Heap.size_push]
          rcases List.mem_cons.mp m with e | m
          · cases e; exact Nat.lt_succ_self _
          · exact Nat.lt_succ_of_lt (hz x c m))
      rw [Heap.size_push] at ih
      refine ⟨fun x c m => ?_, ih.2⟩
      rcases ih.1 x c m with q | q
      · rcases List.mem_cons.mp q.2 with e | m'
        · cases e; exact absurd q.1 (Nat.not_lt.mpr hlo)
        · exact .inl ⟨q.1, m'⟩
      · exact .inr q
    · exact cellsFrom_at r h acc lo hlo (fun x c m => by
        rcases ha x c m with q | q
        · exact .inl ⟨q.1, q.2.1, rfl⟩
        · exact .inr q) hp hz
end
end
-- RH
noncomputable section
open PySem PySem.W PySem.Calls PyProof.Rows
def Fw.val : Fw → V | .ret v => v | _ => .none
theorem fw_val {h : Heap} {b : Fw} {f : Flow} (r : FwR h b f) (g : Flow → Value) (hg : ∀ v, g (.ret v) = v) (hg' : ∀ f, (∀ v, f ≠ .ret v) → g f = .none) : VR h b.val (g f) := by
  cases b with
  | ret v => obtain ⟨x, rfl, r⟩ := r; rw [hg]; exact r
  | next => cases r; rw [hg' _ (by intro v; simp)]; simp only [Fw.val, VR]
  | brk => cases r; rw [hg' _ (by intro v; simp)]; simp only [Fw.val, VR]
  | cont => cases r; rw [hg' _ (by intro v; simp)]; simp only [Fw.val, VR]
theorem cellsFrom_sub : ∀ (names : List (Str × NameKind)) (n : Nat) (acc : List (Str × Addr)) (p : Str × Addr), p ∈ acc → p ∈ cellsFrom n names acc
  | [], n, acc, p, h => h
  | (name, kind) :: r, n, acc, p, h => by
    unfold cellsFrom
    split
    · exact cellsFrom_sub r _ _ p (List.mem_cons_of_mem _ h)
    · exact cellsFrom_sub r _ _ p h
theorem lookup_isSome_of_mem {α : Type} : ∀ {l : List (Str × α)} {n : Str}, n ∈ l.map (·.1) → (l.lookup n).isSome = true
  | (k, v) :: r, n, h => by
    rw [List.lookup_cons]
    cases hb : n == k with
    | true => rfl
    | false =>
      refine lookup_isSome_of_mem ?_
      rcases List.mem_cons.mp h with e | h
      · rw [show n = k from e, beq_self_eq_true] at hb; cases hb
      · exact h
abbrev fnEnv (qual : Str) (scope : Scope) (cl : List (Str × Addr)) (f : Addr) (cdv : Value) (L : Addr) : Env :=
  newEnv scope L mainGlobals (cellsFrom (L + 1) scope.names cl) (qual ++ ".<locals>.") (some f) cdv none builtinsNs
abbrev XSA (C : Cx) (body l : List PySem.Stmt) (Q : Fw → FS → Prop) (fs : FS) : Prop :=
  ∀ R s, FR C R fs s → _root_.PySem.wpAt (Mo C) C.A (.func body C.env) (execs l C.env) (PO C R s FwR Q) (fun zz zz => False) s
def CD (C : Cx) (fv : Value) (vals : List V) (Q : V → FS → Prop) (fs : FS) : Prop :=
  ∀ R s xs, FR C R fs s → LR s.heap vals xs → codeAny (Mo C) C.A (.call fv ⟨xs, []⟩) (fun r s' => match r with | .ok (.ret v) => PO C R s VR Q v s' | .ok _ => False | .error _ => False) s
section
variable {C : Cx} {fs : FS} {R : Addr → Option Obj} {s : Shared}
theorem XS.at {C : Cx} {body l : List PySem.Stmt} {Q : Fw → FS → Prop} {fs : FS} (h : XS C l Q fs) : XSA C body l Q fs := fun R s F => _root_.PySem.wpAt_of_wpAny (h R s F)
theorem CD.cl {C : Cx} {fv : Value} {vals : List V} {Q : V → FS → Prop} {fs : FS} (h : CD C fv vals Q fs) : CL C fv vals Q fs := fun R s xs F l => wpAny_call (h R s xs F l)
theorem call_fn {f : Addr} {name qual : Str} {params : Arguments} {body : List Stmt} {scope : Scope} {cl : List (Str × Addr)} {dV kV doc pm cdv ct oc : Value} {an od : Option Addr} {osl : Array (Option Value)}
    {ns clN : List Str} {vals : List V} {k0 : List (Str × V)} {Q : V → FS → Prop}
    (hK : C.W.K.lookup f = some ⟨oc, od, .func (fnX name qual params body scope cl dV kV doc pm an cdv ct), osl⟩)
    (hcd : codeIn C.W.K cdv qual = true) (hroom : C.A.depth < recursionLimit)
    (hbind : ∀ xs : List Value, xs.length = ns.length → bindArgs (fnX name qual params body scope cl dV kV doc pm an cdv ct) ⟨xs, []⟩ = pure (ns.zip xs)) (hlen : vals.length = ns.length)
    (hkind : ∀ x ∈ ns, scope.names.lookup x = some .local ∨ (scope.names.lookup x = some .cell ∧ x ∈ (cellsFrom 0 scope.names (clN.map fun x => (x, 0))).map (·.1)))
    (hcl : ∀ x c, (x, c) ∈ cl → scope.names.lookup x ≠ some .cell ∧ ∃ o v₀, C.W.K.lookup c = some o ∧ o.data = .cell v₀ ∧ ∀ v, k0.lookup x = some v → ∃ u, v₀ = some u ∧ ∀ h, VR h v u)
    (hclN : cl.map (·.1) = clN) (hap : cl.Pairwise fun x y => x.2 ≠ y.2) (hk0 : ∀ x v, k0.lookup x = some v → x ∈ clN)
    (hnd : ((cellsFrom 0 scope.names (clN.map fun x => (x, 0))).map (·.1)).Nodup)
    (h : ∀ L, XSA ⟨C.W, C.A.deeper (fnEnv qual scope cl f cdv L), fnEnv qual scope cl f cdv L, true⟩ body body (fun fl f' => Q fl.val { fs with σ := f'.σ })
      ⟨bm (fnEnv qual scope cl f cdv L).kindOf (ns.zip vals) [], bk (fnEnv qual scope cl f cdv L).kindOf (ns.zip vals) k0, fs.σ⟩)
    (hco : scope.isCoroutine = false := by rfl) (hgen : scope.isGenerator = false := by rfl) (hk : scope.kind = .function := by rfl) : CD C (.ref f) vals Q fs := fun R s xs F l => by
  have hl := l.length
  have hnlim : s.heap.NoLimit := C.W.nolimit.keeps F.keepBase
  refine codeAny_call_function hroom (F.k _ _ hK) rfl hco hgen rfl (codeRec_of F.k hcd) ?_
  rw [hbind xs (by rw [hl, hlen])]
  refine wpAny_pure ?_
  simp only [newFunctionEnv, Option.isSome_none, Bool.false_eq_true, if_false]
  refine wpAny_bind (wpAny_alloc ?_)
  refine wpAny_bind (wpAny_layCells _ (fun name kind cells => by cases hkc : kind == NameKind.cell <;> simp [hkc]) _ _ _ _ ?_)
  rw [show ({ s with heap := s.heap.push { cls := .type "frame", data := .dict #[] } } : Shared).heap.objs.size = s.heap.objs.size + 1 from Heap.size_push ..]
  have clAt : ∀ x c, (x, c) ∈ cl → ∃ o v₀, C.W.base.get? c = some o ∧ o.data = .cell v₀ ∧ ∀ v, k0.lookup x = some v → ∃ u, v₀ = some u ∧ ∀ h, VR h v u := fun x c m => by
    obtain ⟨zz, o, v₀, e1, e2, e3⟩ := hcl x c m
    exact ⟨o, v₀, C.W.kin _ _ e1, e2, e3⟩
  have clLt : ∀ x c, (x, c) ∈ cl → c < s.heap.objs.size + 1 := fun x c m => by
    obtain ⟨o, v₀, e1, zz⟩ := clAt x c m
    exact Nat.lt_succ_of_lt (Heap.lt_size (F.keepBase c o e1))
  have ok := cellsFrom_at scope.names (s.heap.push { cls := .type "frame", data := .dict #[] }) cl (s.heap.objs.size + 1) (by rw [Heap.size_push]; exact Nat.le_refl _)
    (fun x c m => .inr (clLt x c m)) hap (fun x c m => by rw [Heap.size_push]; exact clLt x c m)
  rw [Heap.size_push] at ok
  have ka : KeepAll s.heap (pushCells (s.heap.push { cls := .type "frame", data := .dict #[] }) scope.names) := fun b o e => pushCells_keeps _ _ b o (Heap.get?_push_of_some _ e)
  have nmE : (cellsFrom (s.heap.objs.size + 1) scope.names cl).map (·.1) = (cellsFrom 0 scope.names (clN.map fun x => (x, 0))).map (·.1) :=
    cellsFrom_names _ _ _ _ _ (by rw [← hclN]; simp [List.map_map, Function.comp_def])
  have nm : ((cellsFrom (s.heap.objs.size + 1) scope.names cl).map (·.1)).Nodup := by rw [nmE]; exact hnd
  have none_of : ∀ c, s.heap.objs.size + 1 ≤ c → s.heap.get? c = none := fun c hc => Heap.get?_none_of_le (Nat.le_of_succ_le hc)
  have F₀ := F.enter (A' := C.A.deeper (fnEnv qual scope cl f cdv s.heap.objs.size)) (env' := fnEnv qual scope cl f cdv s.heap.objs.size) (fn := true) (h₁ := pushCells (s.heap.push { cls := .type "frame", data := .dict #[] }) scope.names) (t := s.toks)
    (m' := []) (k' := k0) (mv := fun zz => none) ka (get_size _) ((Heap.Ns.new s.heap (.type "frame")).keeps (pushCells_keeps _ _)) (fun x v e => by cases e)
    (fun x c m => by
      rcases ok.1 x c m with q | q
      · obtain ⟨o, v₀, e1, e2, e3⟩ := clAt x c q.2
        exact ⟨v₀, ⟨o, ka c o (F.keepBase c o e1), e2⟩, fun v e => by obtain ⟨u, a, b⟩ := e3 v e; exact ⟨u, a, b _⟩⟩
      · refine ⟨Option.none, q.1, fun v e => ?_⟩
        have hx := hk0 x v e
        rw [← hclN] at hx
        obtain ⟨⟨y, c'⟩, m', rfl⟩ := List.mem_map.mp hx
        have := addr_of_name nm m (cellsFrom_sub _ _ _ _ m')
        have h2 := clLt _ _ m'
        rw [← this] at h2
        exact absurd q.2 (Nat.not_le.mpr h2))
    (fun x c m => by
      rcases ok.1 x c m with q | q
      · obtain ⟨o, v₀, e1, e2, e3⟩ := clAt x c q.2
        refine .inr fun z => ?_
        by_cases w : own C.env c
        · rw [rp_own w, F.keepBase c o e1] at z; cases z
        · rw [rp_not w, F.base c o e1] at z; cases z
      · exact .inl (none_of c q.2))
    (fun x c m zz hc => by
      rcases ok.1 x c m with q | q
      · exact absurd hc (hcl x c q.2).1
      · exact none_of c q.2)
    ok.2 nm
  refine wpAny_bind (bind_ok (W := C.W) (A := C.A.in1) (env := fnEnv qual scope cl f cdv s.heap.objs.size) _ (fun zz zz zz => rfl) hk ns vals xs [] k0 fs.σ _ _ F₀.reA (l.mono ka.tk) (fun x hx => ?_) fun s₁ F₁ t₁ => wpAny_pure ⟨?_, ?_⟩)
  · rcases hkind x hx with q | q
    · exact .inl q
    · exact .inr ⟨q.1, lookup_isSome_of_mem (by show x ∈ (cellsFrom (s.heap.objs.size + 1) scope.names cl).map (·.1); rw [nmE]; exact q.2)⟩
  · exact C.W.nolimit.keeps F₁.keepBase
  · refine ks_codeAny_funcAt (ks_wpAt_mono (h s.heap.objs.size _ s₁ F₁.reA) (fun fl s₂ x => ?_) fun zz zz z => z.elim)
    obtain ⟨b, f₂, F₂, t₂, r₂, q₂⟩ := x
    have tk : TK s.heap s₂.heap := (ka.tk.trans t₁).trans t₂
    exact ⟨b.val, _, F.leave F₂ tk, tk, fw_val r₂ (fun fl => match fl with | .ret v => v | _ => .none) (fun zz => rfl) (fun f hf => by cases f <;> first | rfl | exact absurd rfl (hf _)), q₂⟩
end
end
-- RI
noncomputable section
open PySem PySem.W PySem.Calls PyProof.Rows
def KeepOff (hid : List Addr) (h h' : Heap) : Prop := ∀ b o, b ∉ hid → h.get? b = some o → h'.get? b = some o
theorem KeepOff.tk {hid : List Addr} {h h' : Heap} (k : KeepOff hid h h') (n : ∀ a ∈ hid, NoTup h a) : TK h h' := fun a items x => by
  obtain ⟨o, ho, r⟩ := id x
  exact ⟨o, k a o (fun m => n a m items x) ho, r⟩
theorem sb_keepOff {a : Addr} {h h' : Heap} (x : Heap.SameBut a h h') : KeepOff [a] h h' := fun b o e ho => (x.2 b (fun q => e (by simp [q]))).trans ho
theorem eb_keepOff {a : Addr} {h h' : Heap} (x : Heap.ExtBut a h h') : KeepOff [a] h h' := fun b o e ho => x b o (fun q => e (by simp [q])) ho
def Rh (R : Addr → Option Obj) (hid : List Addr) (h : Heap) : Addr → Option Obj := fun a => if a ∈ hid then h.get? a else R a
theorem rh_in {R : Addr → Option Obj} {hid : List Addr} {h : Heap} {a : Addr} (x : a ∈ hid) : Rh R hid h a = h.get? a := if_pos x
theorem rh_out {R : Addr → Option Obj} {hid : List Addr} {h : Heap} {a : Addr} (x : a ∉ hid) : Rh R hid h a = R a := if_neg x
section
variable {C : Cx} {fs : FS} {R : Addr → Option Obj} {s : Shared} {hid : List Addr}
theorem FR.hide (F : FR C R fs s) (n : ∀ a ∈ hid, R a = none ∧ ¬ own C.env a ∧ ¬ fs.σ.Live a) : FR C (Rh R hid s.heap) fs s := by
  have rk : ∀ b o, Rh R hid s.heap b = some o → s.heap.get? b = some o := fun b o e => by
    by_cases x : b ∈ hid
    · rw [rh_in x] at e; exact e
    · rw [rh_out x] at e; exact F.rk b o e
  have lm : C.env.locals ∉ hid := fun x => (n _ x).2.1 (.inl rfl)
  refine ⟨F.gens, F.os, fun b o e => ?_, rk, ?_, by rw [rh_out lm]; exact F.rl, F.loc, F.cells, F.apart, F.names, fun x c h1 h2 h3 => ?_⟩
  · by_cases x : b ∈ hid
    · have := F.base b o e; rw [(n b x).1] at this; cases this
    · rw [rh_out x]; exact F.base b o e
  · refine HR.swap F.hr (fun b o e => ?_) fun a l => ?_
    · by_cases x : own C.env b
      · rw [rp_own x] at e; exact e
      · rw [rp_not x] at e; exact rk b o e
    · obtain ⟨h1, h2⟩ := F.live l
      rw [rp_not h1, rh_out fun x => (n a x).2.2 l]; exact h2
  · rw [rh_out fun x => (n c x).2.1 (.inr (List.mem_map_of_mem (f := (·.2)) h1))]; exact F.co x c h1 h2 h3
theorem FR.hidden (F : FR C (Rh R hid s.heap) fs s) (l : ∀ a ∈ hid, ∃ o, s.heap.get? a = some o) : ∀ a ∈ hid, ¬ fs.σ.Live a := fun a x z => by
  have := (F.live z).2
  rw [rh_in x] at this
  obtain ⟨o, ho⟩ := l a x
  rw [this] at ho; cases ho
theorem FR.unhide (F : FR C (Rh R hid s.heap) fs s) (hb : ∀ b o, C.W.base.get? b = some o → R b = some o) (n : ∀ a ∈ hid, R a = none) (l : ∀ a ∈ hid, ∃ o, s.heap.get? a = some o) : FR C R fs s := by
  have up : ∀ b o, R b = some o → Rh R hid s.heap b = some o := fun b o e => by
    rw [rh_out fun x => by rw [n b x] at e; cases e]; exact e
  have no : ∀ a, Rh R hid s.heap a = none → R a = none := fun a e => by
    cases q : R a with
    | none => rfl
    | some o => rw [up a o q] at e; cases e
  refine ⟨F.gens, F.os, hb, fun b o e => F.rk b o (up b o e), ?_, no _ F.rl, F.loc, F.cells, F.apart, F.names, fun x c h1 h2 h3 => no _ (F.co x c h1 h2 h3)⟩
  refine HR.swap F.hr (fun b o e => ?_) fun a z => ?_
  · by_cases x : own C.env b
    · rw [rp_own x] at e; exact e
    · rw [rp_not x] at e; exact F.rk b o (up b o e)
  · obtain ⟨h1, h2⟩ := F.live z
    rw [rp_not h1]; exact no _ h2
theorem FR.off (F : FR C R fs s) {h' : Heap} {t : Nat} (n : ∀ a ∈ hid, R a = none ∧ ¬ own C.env a ∧ ¬ fs.σ.Live a) (nt : ∀ a ∈ hid, NoTup s.heap a) (k : KeepOff hid s.heap h') :
    FR C R fs { s with heap := h', toks := t } ∧ TK s.heap h' := by
  have tk := k.tk nt
  have e : Rp R C.env h' = Rp R C.env s.heap := rp_same fun b x => by
    obtain ⟨o, ho, zz⟩ := F.ownAt x; rw [ho, k b o (fun m => (n b m).2.1 x) ho]
  have nl : ∀ a, fs.σ.Live a → a ∉ hid := fun a l m => (n a m).2.2 l
  have hr : HR C.W.toWd (Rp R C.env s.heap) fs.σ h' := by
    refine ⟨fun b o q => ?_, fun a vs q => ?_, fun a d q => ?_, fun a K d q => ?_, fun a ns q => ?_⟩
    · by_cases x : own C.env b
      · obtain ⟨o', ho, zz⟩ := F.ownAt x
        rw [rp_own x] at q
        exact k b o (fun m => (n b m).2.1 x) q
      · rw [rp_not x] at q
        exact k b o (fun m => by rw [(n b m).1] at q; cases q) (F.rk b o q)
    · obtain ⟨r, items, ⟨o, ho, c⟩, l⟩ := F.hr.li a vs q
      exact ⟨r, items, ⟨o, k a o (nl a (.li q)) ho, c⟩, l.mono tk⟩
    · obtain ⟨r, d'⟩ := F.hr.dm a d q
      exact ⟨r, d'.mono (fun o ho => k a o (nl a (.dm q)) ho) tk⟩
    · obtain ⟨r, d'⟩ := F.hr.ob a K d q
      exact ⟨r, k a _ (nl a (.ob q)) d'⟩
    · obtain ⟨r, d', o, es, ep, tb, ho, z⟩ := F.hr.st a ns q
      exact ⟨r, d', o, es, ep, tb, k a o (nl a (.st q)) ho, z⟩
  refine ⟨⟨F.gens, F.os, F.base, fun b o q => k b o (fun m => by rw [(n b m).1] at q; cases q) (F.rk b o q), by show HR _ (Rp R C.env h') _ _; rw [e]; exact hr, F.rl, ?_, fun x c h => ?_, F.apart, F.names, F.co⟩, tk⟩
  · obtain ⟨mv, ⟨o, es, ep, ho, r⟩, q⟩ := F.loc
    exact ⟨mv, ⟨o, es, ep, k _ o (fun m => (n _ m).2.1 (.inl rfl)) ho, r⟩, locs_mono tk q⟩
  · obtain ⟨v₀, ⟨o, ho, d⟩, q⟩ := F.cells x c h
    exact ⟨v₀, ⟨o, k _ o (fun m => (n _ m).2.1 (.inr (List.mem_map_of_mem (f := (·.2)) h))) ho, d⟩, opt_mono tk q⟩
structure ItOK (W : Wo) (it : Addr) (hid : List Addr) (vs : List V) (ok : HS → Prop) (P : Nat → Heap → Prop) : Prop where
  stable : ∀ i h h', P i h → (∀ a ∈ hid, ∀ o, h.get? a = some o → h'.get? a = some o) → TK h h' → P i h'
  live : ∀ i h, P i h → ∀ a ∈ hid, (∃ o, h.get? a = some o) ∧ NoTup h a
  next : ∀ i v R s σ (A : Around) (Q : Option Value → Shared → Prop) (E : Value → Shared → Prop), HR W.toWd R σ s.heap → ok σ → P i s.heap → (∀ a ∈ hid, ¬ σ.Live a) → vs[i]? = some v →
    (∀ x h' t, KeepOff hid s.heap h' → P (i + 1) h' → VR h' v x → Q (some x) { s with heap := h', toks := t }) → wpAny (model W.prog W.w) A (pyNext (.ref it)) Q E s
  done : ∀ R s σ (A : Around) (Q : Option Value → Shared → Prop) (E : Value → Shared → Prop), HR W.toWd R σ s.heap → ok σ → P vs.length s.heap → (∀ a ∈ hid, ¬ σ.Live a) → A.handled = none →
    (∀ h' t, KeepOff hid s.heap h' → Q none { s with heap := h', toks := t }) → wpAny (model W.prog W.w) A (pyNext (.ref it)) Q E s
  self : ∀ i (s : Shared) (A : Around) (Q : Value → Shared → Prop) (E : Value → Shared → Prop), P i s.heap → Q (.ref it) s → wpAny (model W.prog W.w) A (pyIter (.ref it)) Q E s
def SV (C : Cx) (v : V) (Q : List V → (HS → Prop) → FS → Prop) (fs : FS) : Prop :=
  ∀ R s a (Q' : Value → Shared → Prop), FR C R fs s → VR s.heap v a →
    (∀ it hid vs ok P h' t, ItOK C.W it hid vs ok P → P 0 h' → KeepAll s.heap h' → (∀ a ∈ hid, s.heap.get? a = none) → ok fs.σ → Q vs ok fs → Q' (.ref it) { s with heap := h', toks := t }) →
    wpAny (Mo C) C.A (pyIter a) Q' (fun zz zz => False) s
theorem noTup_at {h : Heap} {a : Addr} {o : Obj} {T : String} (ho : h.get? a = some o) (hc : o.cls = .type T) (hT : T ≠ "tuple") : NoTup h a := noTup_cls ho (by rw [hc]; simpa using hT)
theorem itOK_list {W : Wo} {it l : Addr} {vs : List V} : ItOK W it [it] vs (fun σ => σ.li l = some vs) (fun i h => h.IsListIter it l i) where
  stable := fun i h h' ⟨o, ho, r⟩ k _ => ⟨o, k it (by simp) o ho, r⟩
  live := fun i h ⟨o, ho, hc, _⟩ a m => by simp at m; subst m; exact ⟨⟨o, ho⟩, noTup_at ho hc (by decide)⟩
  next := fun i v R s fs A Q E F ok p n e k => by
    obtain ⟨zz, items, il, r⟩ := F.li l vs ok
    obtain ⟨x, ex, rx⟩ := r.get e
    refine wpAny_pyNext_list_item p il.isList (by simpa using ex) fun h' p' sb => k x h' s.toks (sb_keepOff sb) p' (rx.mono ((sb_keepOff sb).tk fun a m => ?_))
    simp at m; subst m
    obtain ⟨o, ho, hc, zz⟩ := p
    exact noTup_at ho hc (by decide)
  done := fun R s fs A Q E F ok p n hA k => by
    obtain ⟨zz, items, il, r⟩ := F.li l vs ok
    exact wpAny_pyNext_list_end hA p il.isList (by simpa using r.getNone (List.getElem?_eq_none (Nat.le_refl _))) fun h' sb => k h' s.toks (eb_keepOff sb)
  self := fun i s A Q E p q => wpAny_pyIter_listiter p q
theorem itOK_tup {W : Wo} {it : Addr} {vs : List V} : ItOK W it [it] vs (fun zz => True) (fun i h => ∃ t items, h.IsTuple t items ∧ LR h vs items.toList ∧ h.IsTupleIter it t i) where
  stable := fun i h h' ⟨t, items, a, b, o, ho, r⟩ k tk => ⟨t, items, tk _ _ a, b.mono tk, o, k it (by simp) o ho, r⟩
  live := fun i h ⟨_, _, _, _, o, ho, hc, _⟩ a m => by simp at m; subst m; exact ⟨⟨o, ho⟩, noTup_at ho hc (by decide)⟩
  next := fun i v R s fs A Q E F ok p n e k => by
    obtain ⟨t, items, a, b, p⟩ := p
    obtain ⟨x, ex, rx⟩ := b.get e
    refine wpAny_pyNext_tuple_item p a (by simpa using ex) fun h' p' sb => ?_
    have tk : TK s.heap h' := (sb_keepOff sb).tk fun a m => by
      simp at m; subst m
      obtain ⟨o, ho, hc, zz⟩ := p
      exact noTup_at ho hc (by decide)
    exact k x h' s.toks (sb_keepOff sb) ⟨t, items, tk _ _ a, b.mono tk, p'⟩ (rx.mono tk)
  done := fun R s fs A Q E F ok p n hA k => by
    obtain ⟨t, items, a, b, p⟩ := p
    exact wpAny_pyNext_tuple_end hA p a (by simpa using b.getNone (List.getElem?_eq_none (Nat.le_refl _))) fun h' sb => k h' s.toks (eb_keepOff sb)
  self := fun i s A Q E ⟨_, _, _, _, p⟩ q => wpAny_pyIter_tupleiter p q
theorem itOK_range {W : Wo} {it : Addr} {a c : Int} {n : Nat} : ItOK W it [it] ((List.range n).map fun (i : Nat) => V.int (a + i * c)) (fun zz => True) (fun i h => IsRangeIter h it (a + i * c) (n - i) c) where
  stable := fun i h h' p k tk => k it (by simp) _ p
  live := fun i h p b m => by simp at m; subst m; exact ⟨⟨_, p⟩, noTup_at p rfl (by decide)⟩
  next := fun i v R s fs A Q E F ok p nl e k => by
    rw [List.getElem?_map] at e
    obtain ⟨j, ej, rfl⟩ := Option.map_eq_some_iff.mp e
    obtain ⟨hj, rfl⟩ := List.getElem?_eq_some_iff.mp ej
    simp only [List.length_range] at hj
    simp only [List.getElem_range] at ej
    refine wpAny_pyNext_range_item p (by lia) fun h' p' sb => k _ h' _ (sb_keepOff sb) ?_ (by simp only [VR, List.getElem_range]; exact ⟨_, rfl⟩)
    have e1 : a + (i : Int) * c + c = a + ((i + 1 : Nat) : Int) * c := by rw [Int.natCast_add, Int.add_mul]; simp [Int.add_assoc]
    have e2 : (n : Int) - i - 1 = n - ((i + 1 : Nat) : Int) := by lia
    rw [e1, e2] at p'; exact p'
  done := fun R s fs A Q E F ok p nl hA k => by
    refine wpAny_pyNext_range_end hA p (by simp) fun h' sb => k h' s.toks (eb_keepOff sb)
  self := fun i s A Q E p q => wpAny_pyIter_rangeiter p q
theorem sv_list {l : Addr} {vs : List V} {Q : List V → (HS → Prop) → FS → Prop} (e : fs.σ.li l = some vs) (h : Q vs (fun σ => σ.li l = some vs) fs) : SV C (.ref l) Q fs := fun R s a Q' F r k => by
  simp only [VR] at r; subst r
  obtain ⟨zz, items, il, r⟩ := F.hr.li l vs e
  exact wpAny_pyIter_list il.isList (k s.heap.objs.size [s.heap.objs.size] vs _ _ _ s.toks itOK_list ⟨_, Heap.get?_push_size _ rfl, rfl, rfl⟩ (KeepAll.push _ _) (fun a m => by simp at m; subst m; exact get_size _) e h)
theorem sv_tup {vs : List V} {Q : List V → (HS → Prop) → FS → Prop} (h : Q vs (fun zz => True) fs) : SV C (.tup vs) Q fs := fun R s a Q' F r k => by
  simp only [VR] at r
  obtain ⟨t, items, rfl, it, r⟩ := r
  have ka := KeepAll.push s.heap { cls := .type "tuple_iterator", data := .fields #[.ref t, .int 0 0] }
  exact wpAny_pyIter_tuple it (k s.heap.objs.size [s.heap.objs.size] vs _ _ _ s.toks itOK_tup ⟨t, items, ka.tk _ _ it, r.mono ka.tk, _, Heap.get?_push_size _ rfl, rfl, rfl⟩ ka (fun a m => by simp at m; subst m; exact get_size _) trivial h)
def SR (C : Cx) (e : PySem.Expr) (Q : List V → (HS → Prop) → FS → Prop) (fs : FS) : Prop :=
  ∀ R s (Q' : Value → Shared → Prop), FR C R fs s →
    (∀ it hid vs ok P s' f, ItOK C.W it hid vs ok P → P 0 s'.heap → FR C R f s' → TK s.heap s'.heap → (∀ a ∈ hid, R a = none ∧ ¬ own C.env a ∧ ¬ f.σ.Live a) → ok f.σ → Q vs ok f → Q' (.ref it) s') →
    wpAny (Mo C) C.A (eval e C.env) (fun a s₁ => wpAny (Mo C) C.A (pyIter a) Q' (fun zz zz => False) s₁) (fun zz zz => False) s
theorem FR.newHid (F : FR C R fs s) {a : Addr} (h : s.heap.get? a = none) : R a = none ∧ ¬ own C.env a ∧ ¬ fs.σ.Live a := by
  obtain ⟨h1, h2⟩ := F.rpN h
  have no := F.notOwn h1
  exact ⟨by rw [rp_not no] at h1; exact h1, no, h2.not⟩
theorem sr_of {e : PySem.Expr} {Q : List V → (HS → Prop) → FS → Prop} (h : EV C e (fun v f => SV C v Q f) fs) : SR C e Q fs := fun R s Q' F k =>
  wp_to (h R s F) fun a v f s1 F1 t1 r1 q1 => q1 R s1 a Q' F1 r1 fun it hid vs ok P h' t I p ka hn ok0 q => k it hid vs ok P _ f I p (F1.keeps ka) (t1.trans ka.tk) (fun a m => F1.newHid (hn a m)) ok0 q
end
end
-- RJ
noncomputable section
open PySem PySem.W PySem.Calls PyProof.Rows
inductive LpI (C : Cx) (R : Addr → Option Obj) (hid : List Addr) (vs : List V) (P : Nat → Heap → Prop) (Inv : Nat → FS → Prop) (h0 : Heap) (k : Nat) (s' : Shared) : Prop
  | mk (i : Nat) (f : FS) (F : FR C (Rh R hid s'.heap) f s') (t : TK h0 s'.heap) (p : P i s'.heap) (v : Inv i f) (hi : i ≤ vs.length) (e : k = vs.length - i)
inductive LpE (C : Cx) (R : Addr → Option Obj) (e it l : Addr) (vs : List V) (Inv : Nat → FS → Prop) (h0 : Heap) (k : Nat) (s' : Shared) : Prop
  | mk (i : Nat) (f : FS) (x : Value) (F : FR C (Rh R [e, it] s'.heap) f s') (t : TK h0 s'.heap) (h1 : IsEnum s'.heap e it (i : Nat) x) (h2 : s'.heap.IsListIter it l i) (v : Inv i f) (hi : i ≤ vs.length) (e : k = vs.length - i)
section
variable {C : Cx} {fs : FS} {R : Addr → Option Obj} {s : Shared} {hid : List Addr}
theorem rh_same {h h' : Heap} (e : ∀ a ∈ hid, h'.get? a = h.get? a) : Rh R hid h' = Rh R hid h := by
  funext a
  by_cases x : a ∈ hid
  · rw [rh_in x, rh_in x, e a x]
  · rw [rh_out x, rh_out x]
theorem FR.rh (F : FR C (Rh R hid s.heap) fs s) {f' : FS} {s' : Shared} (F' : FR C (Rh R hid s.heap) f' s') (l : ∀ a ∈ hid, ∃ o, s.heap.get? a = some o) :
    FR C (Rh R hid s'.heap) f' s' ∧ ∀ a ∈ hid, s'.heap.get? a = s.heap.get? a := by
  have e : ∀ a ∈ hid, s'.heap.get? a = s.heap.get? a := fun a x => by
    obtain ⟨o, ho⟩ := l a x
    rw [ho]; exact F'.rk a o (by rw [rh_in x]; exact ho)
  exact ⟨by rw [rh_same e]; exact F', e⟩
theorem FR.turn (F : FR C (Rh R hid s.heap) fs s) (hb : ∀ b o, C.W.base.get? b = some o → R b = some o) (n : ∀ a ∈ hid, R a = none ∧ ¬ own C.env a) (l : ∀ a ∈ hid, (∃ o, s.heap.get? a = some o) ∧ NoTup s.heap a)
    {h' : Heap} {t : Nat} (k : KeepOff hid s.heap h') : FR C R fs { s with heap := h', toks := t } ∧ FR C (Rh R hid h') fs { s with heap := h', toks := t } ∧ TK s.heap h' := by
  have nl := F.hidden fun a m => (l a m).1
  have n3 : ∀ a ∈ hid, R a = none ∧ ¬ own C.env a ∧ ¬ fs.σ.Live a := fun a m => ⟨(n a m).1, (n a m).2, nl a m⟩
  have F0 := F.unhide hb (fun a m => (n a m).1) fun a m => (l a m).1
  obtain ⟨F1, tk⟩ := F0.off (t := t) n3 (fun a m => (l a m).2) k
  exact ⟨F1, F1.hide n3, tk⟩
theorem xv_for {t iter : PySem.Expr} {body : List PySem.Stmt} {pos : Pos} {Q : Fw → FS → Prop} (hh : C.A.handled = none)
    (h : SR C iter (fun vs ok f => ∃ Inv : Nat → FS → Prop, Inv 0 f ∧ (∀ i f, Inv i f → ok f.σ) ∧
      (∀ i v f, vs[i]? = some v → Inv i f → AS C t v (fun zz f => XS C body (fun fl f' => match fl with | .next => Inv (i + 1) f' | .cont => Inv (i + 1) f' | .brk => Q .next f' | .ret v => Q (.ret v) f') f) f) ∧
      (∀ f, Inv vs.length f → Q .next f)) fs)
    (hs : ∀ x, foldedSetIterable iter C.env x = pure x := by intro _; rfl) (ht : ∀ it v, letOwnedTupleGo t it v = pure () := by intro _ _; rfl) : XV C (.For t iter body [] pos) Q fs := fun R s F => by
  refine wpAny_For (h R s _ F fun it hid vs ok P s1 f I p F1 t1 n ok0 q => ?_) hs
  obtain ⟨Inv, i0, iok, step, fin⟩ := q
  have n2 : ∀ a ∈ hid, R a = none ∧ ¬ own C.env a := fun a m => ⟨(n a m).1, (n a m).2.1⟩
  refine codeAny_forLoop (LpI C R hid vs P Inv s.heap) ?_ vs.length
    ⟨0, f, F1.hide n, t1, p, i0, Nat.zero_le _, rfl⟩ (ht _)
  rintro k s2 ⟨i, f2, F2, t2, p2, i2, hi, rfl⟩
  have lv := I.live i s2.heap p2
  have nl := F2.hidden fun a m => (lv a m).1
  cases hv : vs[i]? with
  | none =>
    have : i = vs.length := Nat.le_antisymm hi (by simpa using hv)
    subst this
    refine I.done _ s2 f2.σ _ _ _ F2.hr (iok _ _ i2) p2 nl hh fun h' t' ko => ?_
    obtain ⟨G1, zz, tk⟩ := F2.turn F.base n2 lv (t := t') ko
    exact wpAny_execs_nil ⟨.next, f2, G1, t2.trans tk, rfl, fin f2 i2⟩
  | some v =>
    have hlt : i < vs.length := (List.getElem?_eq_some_iff.mp hv).1
    refine I.next i v _ s2 f2.σ _ _ _ F2.hr (iok _ _ i2) p2 nl hv fun x h' t' ko p3 rx => ?_
    obtain ⟨zz, G1, tk⟩ := F2.turn F.base n2 lv (t := t') ko
    have lv3 := I.live (i + 1) h' p3
    refine wpAny_mono (step i v f2 hv i2 _ _ x G1 rx) (fun zz s3 z => ?_) fun zz zz z => z.elim
    obtain ⟨zz, f3, F3, t3, zz, q3⟩ := z
    refine wpAny_mono (q3 _ s3 F3) (fun fl s4 z => ?_) fun zz zz z => z.elim
    obtain ⟨b, f4, F4, t4, r4, q4⟩ := z
    obtain ⟨F5, e5⟩ := FR.rh (s := { s2 with heap := h', toks := t' }) G1 F4 fun a m => (lv3 a m).1
    have t5 : TK s.heap s4.heap := ((t2.trans tk).trans t3).trans t4
    have p5 : P (i + 1) s4.heap := I.stable _ _ _ p3 (fun a m o ho => (e5 a m).trans ho) (t3.trans t4)
    have F6 := F5.unhide F.base (fun a m => (n2 a m).1) fun a m => (I.live _ _ p5 a m).1
    cases b with
    | next => cases r4; exact ⟨_, by omega, i + 1, f4, F5, t5, p5, q4, hlt, rfl⟩
    | cont => cases r4; exact ⟨_, by omega, i + 1, f4, F5, t5, p5, q4, hlt, rfl⟩
    | brk => cases r4; exact ⟨.next, f4, F6, t5, rfl, q4⟩
    | ret w => obtain ⟨y, rfl, r4⟩ := r4; exact ⟨.ret w, f4, F6, t5, ⟨y, rfl, r4⟩, q4⟩
theorem sr_range1 {e : PySem.Expr} {np pos : Pos} {Q : List V → (HS → Prop) → FS → Prop}
    (hn : ∀ Q : V → FS → Prop, ∀ f, Q (.ty "range") f → EV C (.Name "range" np) Q f)
    (h : EV C e (fun v f => ∃ n : Int, v = .int n ∧ -(2 ^ 62) ≤ n ∧ n < 2 ^ 62 ∧ Q ((List.range n.toNat).map fun (i : Nat) => V.int i) (fun zz => True) f) fs)
    (hse : backTo pos (starEach [e] C.env) = [(false, eval e C.env)] := by rfl) : SR C (.Call (.Name "range" np) [e] [] pos) Q fs := fun R s Q' F k => by
  refine wpAny_Call_NameR (wp_to (hn (fun v f => v = .ty "range" ∧ f = fs) fs ⟨rfl, rfl⟩ R s F) fun a v f1 s1 F1 t1 r1 q1 => ?_)
  obtain ⟨rfl, rfl⟩ := q1
  simp only [VR] at r1; subst r1
  refine callWith_V (fv := .type "range") (.inr (.inl ⟨_, rfl⟩)) (by rw [hse]; rfl) ?_
  rw [hse]
  refine Calls.spliced_cons (wp_to (h R s1 F1) fun a v f2 s2 F2 t2 r2 q2 => ?_)
  obtain ⟨n, rfl, hlo, hhi, q⟩ := q2
  simp only [VR] at r2
  obtain ⟨u, rfl⟩ := r2
  refine Calls.spliced_nil ⟨F2.k, call_range_1 ?_⟩
  refine wpAny_pyIter_range (IsRange.new ..) (small_one (by decide) (by decide) hlo hhi) ?_
  have hsz : Builtin.Range.rangeSize 0 n 1 = (n.toNat : Int) := by rw [rangeSize_one]; split <;> omega
  have k1 := KeepAll.push s2.heap { cls := .type "range", data := .fields #[.int 0 s2.toks, .int n u, .int 1 (s2.toks + 1)] }
  have k2 := k1.trans (KeepAll.push _ { cls := .type "range_iterator", data := .fields #[rawInt 0, rawInt (Builtin.Range.rangeSize 0 n 1), rawInt 1] })
  have I := itOK_range (W := C.W) (it := (s2.heap.push { cls := .type "range", data := .fields #[.int 0 s2.toks, .int n u, .int 1 (s2.toks + 1)] }).objs.size) (a := 0) (c := 1) (n := n.toNat)
  have e0 : ((List.range n.toNat).map fun (i : Nat) => V.int (0 + i * 1)) = (List.range n.toNat).map fun (i : Nat) => V.int i := by simp
  rw [e0] at I
  refine k _ _ _ _ _ _ f2 I ?_ (F2.keeps k2) ((t1.trans t2).trans k2.tk) (fun a m => ?_) trivial q
  · simp only [hsz]
    exact Heap.get?_push_size _ rfl
  · simp at m; subst m
    exact F2.newHid (Heap.get?_none_of_le (by simp [Heap.size_push]))
end
end
-- RK
noncomputable section
open PySem PySem.W PySem.Calls PyProof.Rows
def WPE {α β : Type} (C : Cx) (rel : Heap → β → α → Prop) (t : Sem α) (Q : β → FS → Prop) (X : (Addr → Option Obj) → Value → Shared → Prop) (fs : FS) : Prop :=
  ∀ R s, FR C R fs s → wpAny (Mo C) C.A t (PO C R s rel Q) (X R) s
abbrev NoX : (Addr → Option Obj) → Value → Shared → Prop := fun zz zz zz => False
section
variable {C : Cx} {fs : FS} {R : Addr → Option Obj} {s : Shared} {α β : Type} {rel : Heap → β → α → Prop}
theorem WPE.no {t : Sem α} {Q : β → FS → Prop} (h : WPE C rel t Q NoX fs) : WP C rel t Q fs := h
theorem WP.toE {t : Sem α} {Q : β → FS → Prop} {X} (h : WP C rel t Q fs) : WPE C rel t Q X fs := fun R s F => wpAny_mono (h R s F) (fun zz zz x => x) fun zz zz z => z.elim
theorem wp_toX {R s₁} {t : Sem α} {Q : β → FS → Prop} {f : α → Shared → Prop} {E : Value → Shared → Prop} (h : wpAny (Mo C) C.A t (PO C R s₁ rel Q) (fun zz zz => False) s₁)
    (k : ∀ a b fs' s', FR C R fs' s' → TK s₁.heap s'.heap → rel s'.heap b a → Q b fs' → f a s') : wpAny (Mo C) C.A t f E s₁ :=
  wpAny_mono h (fun a s' ⟨b, fs', F', t, r, q⟩ => k a b fs' s' F' t r q) fun zz zz z => z.elim
theorem itEnumTk {h h' : Heap} {e it : Addr} {i : Int} {x : Value} (he : IsEnum h e it i x) {l : Addr} {j : Nat} (hi : h.IsListIter it l j) (k : ∀ b o, b ≠ e → b ≠ it → h.get? b = some o → h'.get? b = some o) : KeepOff [e, it] h h' ∧ TK h h' := by
  have ko : KeepOff [e, it] h h' := fun b o m => k b o (fun q => m (by simp [q])) (fun q => m (by simp [q]))
  refine ⟨ko, ko.tk fun a m => ?_⟩
  rcases List.mem_cons.mp m with rfl | m
  · exact noTup_at he rfl (by decide)
  · simp at m; subst m
    obtain ⟨o, ho, hc, zz⟩ := hi
    exact noTup_at ho hc (by decide)
inductive EnB (C : Cx) (e1 e2 : PySem.Expr) (k : Nat) (p : Pos) (body : List PySem.Stmt) (Q : Fw → FS → Prop) (X : (Addr → Option Obj) → Value → Shared → Prop) (v : V) (f : FS) : Prop
  | mk (l : Addr) (vs : List V) (Inv : Nat → FS → Prop) (e : v = .ref l) (el : f.σ.li l = some vs) (h0 : Inv 0 f) (h1 : ∀ i f, Inv i f → f.σ.li l = some vs)
      (h2 : ∀ i v f, vs[i]? = some v → Inv i f → ∀ G : Fw → FS → Prop, OutTo (LQ (Inv (i + 1)) Q) G → AS C (.Tuple [e1, e2] k p) (.tup [.int i, v]) (fun zz f => WPE C FwR (execs body C.env) G X f) f) (h3 : ∀ f, Inv vs.length f → Q .next f)
theorem we_enumR {e1 e2 iter : PySem.Expr} {k : Nat} {p np epos pos : Pos} {body : List PySem.Stmt} {Q : Fw → FS → Prop} {X Xi : (Addr → Option Obj) → Value → Shared → Prop} (hh : C.A.handled = none)
    (hn : ∀ Q : V → FS → Prop, ∀ f, Q (.ty "enumerate") f → EV C (.Name "enumerate" np) Q f)
    (F : FR C R fs s) (hX : ∀ hid h e s', (∀ a ∈ hid, R a = none ∧ ¬ own C.env a) → Xi (Rh R hid h) e s' → notedBy (Mo C) C.A C.env (fun e s' => cameBackBy (Mo C) C.A C.env (X R) e s') e s')
    (h : EV C iter (EnB C e1 e2 k p body Q Xi) fs)
    (hse : backTo epos (starEach [iter] C.env) = [(false, eval iter C.env)] := by rfl)
    (hs : ∀ x, foldedSetIterable (.Call (.Name "enumerate" np) [iter] [] epos) C.env x = pure x := by intro _; rfl) :
    wpAny (Mo C) C.A (exec (.For (.Tuple [e1, e2] k p) (.Call (.Name "enumerate" np) [iter] [] epos) body [] pos) C.env) (PO C R s FwR Q) (X R) s := by
  refine wpAny_For (wpAny_Call_NameR (wp_toX (hn (fun v f => v = .ty "enumerate" ∧ f = fs) fs ⟨rfl, rfl⟩ R s F) fun a v f1 s1 F1 t1 r1 q1 => ?_)) hs
  obtain ⟨rfl, rfl⟩ := q1
  simp only [VR] at r1; subst r1
  refine callWith_V (fv := .type "enumerate") (.inr (.inl ⟨_, rfl⟩)) (by rw [hse]; rfl) ?_
  rw [hse]
  refine Calls.spliced_cons (wp_toX (h R s1 F1) fun a v f2 s2 F2 t2 r2 q2 => ?_)
  obtain ⟨l, vs, Inv, rfl, el, i0, iok, step, fin⟩ := q2
  simp only [VR] at r2; subst r2
  obtain ⟨zz, items, il, ll⟩ := F2.hr.li l vs el
  refine Calls.spliced_nil ⟨F2.k, call_enumerate_list il.isList fun h3 he hit hz hk => wpAny_pyIter_enum he ?_⟩
  have ka : KeepAll s2.heap h3 := hk
  have F3 := F2.keeps (t := s2.toks) ka
  have n3 : ∀ a ∈ [s2.heap.objs.size + 1, s2.heap.objs.size], R a = none ∧ ¬ own C.env a ∧ ¬ f2.σ.Live a := fun a m => by
    refine F2.newHid (Heap.get?_none_of_le ?_)
    rcases List.mem_cons.mp m with rfl | m
    · exact Nat.le_succ _
    · simp at m; subst m; exact Nat.le_refl _
  generalize hE : s2.heap.objs.size + 1 = e at *
  generalize hI : s2.heap.objs.size = it at *
  have hne : e ≠ it := by lia
  have n2 : ∀ a ∈ [e, it], R a = none ∧ ¬ own C.env a := fun a m => ⟨(n3 a m).1, (n3 a m).2.1⟩
  refine codeAny_forLoop_any (LpE C R e it l vs Inv s.heap) ?_ vs.length
    ⟨0, f2, .none, F3.hide n3, (t1.trans t2).trans ka.tk, he, hit, i0, Nat.zero_le _, rfl⟩
  rintro k s4 ⟨i, f4, x4, F4, t4, he4, hi4, i4, hi, rfl⟩
  have lv : ∀ a ∈ [e, it], (∃ o, s4.heap.get? a = some o) ∧ NoTup s4.heap a := fun a m => by
    rcases List.mem_cons.mp m with rfl | m
    · exact ⟨⟨_, he4⟩, noTup_at he4 rfl (by decide)⟩
    · simp at m; subst m
      obtain ⟨o, ho, hc, zz⟩ := hi4
      exact ⟨⟨o, ho⟩, noTup_at ho hc (by decide)⟩
  obtain ⟨zz, items4, il4, ll4⟩ := F4.hr.li l vs (iok _ _ i4)
  cases hv : vs[i]? with
  | none =>
    have : i = vs.length := Nat.le_antisymm hi (by simpa using hv)
    subst this
    refine wpAny_pyNext_enum_end hh he4 hi4 il4.isList (by simpa using ll4.getNone hv) fun h' ex => ?_
    have ko : KeepOff [e, it] s4.heap h' := fun b o m q => ex b o (fun z => m (by simp [z])) q
    obtain ⟨G1, zz, tk⟩ := F4.turn F.base n2 lv (t := s4.toks) ko
    exact wpAny_execs_nil ⟨.next, f4, G1, t4.trans tk, rfl, fin f4 i4⟩
  | some v =>
    have hlt : i < vs.length := (List.getElem?_eq_some_iff.mp hv).1
    obtain ⟨x, ex, rx⟩ := ll4.get hv
    refine wpAny_pyNext_enum_item he4 hi4 il4.isList (by simpa using ex) hne fun h5 heo hi5 ht5 hz5 k5 => ?_
    refine wpAny_letOwnedTupleGo_enum heo fun h6 he6 sb6 => ?_
    replace sb6 : Heap.SameBut e h5 h6 := sb6
    have k6 : ∀ b o, b ≠ e → b ≠ it → s4.heap.get? b = some o → h6.get? b = some o := fun b o h1 h2 q => (sb6.2 b h1).trans (k5 b o h1 h2 q)
    obtain ⟨ko, tk6⟩ := itEnumTk he4 hi4 k6
    obtain ⟨zz, G6, zz⟩ := F4.turn F.base n2 lv (h' := h6) (t := s4.toks + 1) ko
    have hs4 : s4.heap.objs.size ≠ e := fun z => by rw [← z] at he4; exact absurd (Heap.lt_size he4) (Nat.lt_irrefl _)
    have tup6 : h6.IsTuple s4.heap.objs.size #[.int i s4.toks, x] := ⟨_, (sb6.2 _ hs4).trans ht5, rfl, _, rfl⟩
    have hi6 : h6.IsListIter it l (i + 1) := by
      obtain ⟨o, ho, r⟩ := hi5; exact ⟨o, (sb6.2 it (Ne.symm hne)).trans ho, r⟩
    have rv : VR h6 (.tup [.int i, v]) (.ref s4.heap.objs.size) := by
      simp only [VR]
      refine ⟨_, _, rfl, tup6, .cons (by simp only [VR]; exact ⟨_, rfl⟩) (.cons (rx.mono tk6) .nil)⟩
    have lv6 : ∀ a ∈ [e, it], ∃ o, h6.get? a = some o := fun a m => by
      rcases List.mem_cons.mp m with rfl | m
      · exact ⟨_, he6⟩
      · simp at m; subst m
        obtain ⟨o, ho, zz⟩ := hi6
        exact ⟨o, ho⟩
    refine wpAny_mono (step i v f4 hv i4 _ ⟨fun zz zz z => z⟩ _ _ _ G6 rv) (fun zz s7 z => ?_) fun zz zz z => z.elim
    obtain ⟨zz, f7, F7, t7, zz, q7⟩ := z
    refine wpAny_mono (q7 _ s7 F7) (fun fl s8 z => ?_) fun e' s' z => ?_
    · obtain ⟨b, f8, F8, t8, r8, q8⟩ := z
      obtain ⟨F9, e9⟩ := FR.rh (s := { s4 with heap := h6, toks := s4.toks + 1 }) G6 F8 lv6
      have t9 : TK s.heap s8.heap := ((t4.trans tk6).trans t7).trans t8
      have en9 : IsEnum s8.heap e it ((i + 1 : Nat) : Int) x := by
        have : ((i + 1 : Nat) : Int) = (i : Int) + 1 := by push_cast; rfl
        rw [this]; exact (e9 e (by simp)).trans he6
      have hi9 : s8.heap.IsListIter it l (i + 1) := by
        obtain ⟨o, ho, r⟩ := hi6; exact ⟨o, (e9 it (by simp)).trans ho, r⟩
      have F10 := F9.unhide F.base (fun a m => (n2 a m).1) fun a m => by
        obtain ⟨o, ho⟩ := lv6 a m; exact ⟨o, (e9 a m).trans ho⟩
      cases b with
      | next => cases r8; exact ⟨_, by lia, i + 1, f8, x, F9, t9, en9, hi9, q8, hlt, rfl⟩
      | cont => cases r8; exact ⟨_, by lia, i + 1, f8, x, F9, t9, en9, hi9, q8, hlt, rfl⟩
      | brk => cases r8; exact ⟨.next, f8, F10, t9, rfl, q8⟩
      | ret w => obtain ⟨y, rfl, r8⟩ := r8; exact ⟨.ret w, f8, F10, t9, ⟨y, rfl, r8⟩, q8⟩
    · exact hX _ _ e' s' n2 z
theorem we_enum {e1 e2 iter : PySem.Expr} {k : Nat} {p np epos pos : Pos} {body : List PySem.Stmt} {Q : Fw → FS → Prop} {X Xi : (Addr → Option Obj) → Value → Shared → Prop} (hh : C.A.handled = none)
    (hn : ∀ Q : V → FS → Prop, ∀ f, Q (.ty "enumerate") f → EV C (.Name "enumerate" np) Q f)
    (hX : ∀ R hid h e s', (∀ b o, C.W.base.get? b = some o → R b = some o) → (∀ a ∈ hid, R a = none ∧ ¬ own C.env a) → Xi (Rh R hid h) e s' → notedBy (Mo C) C.A C.env (fun e s' => cameBackBy (Mo C) C.A C.env (X R) e s') e s')
    (h : EV C iter (EnB C e1 e2 k p body Q Xi) fs)
    (hse : backTo epos (starEach [iter] C.env) = [(false, eval iter C.env)] := by rfl)
    (hs : ∀ x, foldedSetIterable (.Call (.Name "enumerate" np) [iter] [] epos) C.env x = pure x := by intro _; rfl) :
    WPE C FwR (exec (.For (.Tuple [e1, e2] k p) (.Call (.Name "enumerate" np) [iter] [] epos) body [] pos) C.env) Q X fs := fun R s F =>
  we_enumR hh hn F (fun hid h e s' n x => hX R hid h e s' F.base n x) h hse hs
end
end
-- RL
noncomputable section
open PySem PySem.W PySem.Calls PyProof.Rows
section
variable {C : Cx} {fs : FS} {R : Addr → Option Obj} {s : Shared} {l : Addr} {vs : List V} {α β : Type} {rel : Heap → β → α → Prop}
theorem sz {n : Nat} (h : n ≤ 1000) : n ≤ sizeLine := Nat.le_trans h (by decide)
theorem LI.of_seq {h : Heap} {a : Addr} {items : Array Value} {n : Nat} (e : h.get? a = some { cls := .type "list", data := .seq items n }) : LI h a items := ⟨_, e, n, rfl⟩
theorem FR.list (F : FR C R fs s) (e : fs.σ.li l = some vs) : ∃ items n, s.heap.get? l = some { cls := .type "list", data := .seq items n } ∧ LR s.heap vs items.toList ∧ items.size = vs.length := by
  obtain ⟨zz, items, ⟨o, ho, n, rfl⟩, r⟩ := F.hr.li l vs e
  exact ⟨items, n, ho, r, by have := r.length; simpa using this⟩
theorem isL {h : Heap} {a : Addr} {items : Array Value} {n : Nat} (e : h.get? a = some { cls := .type "list", data := .seq items n }) : h.IsList a items := ⟨_, e, rfl, n, rfl⟩
theorem gm_list {name : Str} {id : String} (e : fs.σ.li l = some vs) (slot : Slot "list" name id) (hty : typeOf (.builtin id) = pure (.type "method_descriptor")) : GM C name (.ref l) (.builtin id) [.ref l] fs := fun pl R s a Q' F r h => by
  simp only [VR] at r; subst r
  obtain ⟨items, n, ho, zz, zz⟩ := F.list e
  exact getMethod_builtin ⟨_, ho, rfl⟩ PySem.F.plainAttrs_list slot hty (fun a e => by cases e; exact ⟨_, ho, rfl⟩) (h s _ F TK.refl (.cons (by simp only [VR]) .nil))
theorem gm_append (e : fs.σ.li l = some vs) : GM C "append" (.ref l) (.builtin "list.append") [.ref l] fs := gm_list e PySem.F.slot_list_append PySem.F.type_list_append
theorem gm_pop (e : fs.σ.li l = some vs) : GM C "pop" (.ref l) (.builtin "list.pop") [.ref l] fs := gm_list e PySem.F.slot_list_pop PySem.F.type_list_pop
theorem gm_extend (e : fs.σ.li l = some vs) : GM C "extend" (.ref l) (.builtin "list.extend") [.ref l] fs := gm_list e PySem.F.slot_list_extend PySem.F.type_list_extend
theorem kp_builtin {id : String} : KP C (.builtin id) := .inl ⟨_, rfl⟩
theorem kp_type {T : String} : KP C (.type T) := .inr (.inl ⟨_, rfl⟩)
theorem cl_append {v : V} {Q : V → FS → Prop} (e : fs.σ.li l = some vs) (hz : vs.length ≤ 1000) (h : Q .none { fs with σ := fs.σ.setLi l (vs ++ [v]) }) : CL C (.builtin "list.append") [.ref l, v] Q fs := fun R s xs F r => by
  simp only [LR, VR] at r
  obtain ⟨zz, zz, rfl, rfl, y, zz, rfl, ry, rfl⟩ := r
  obtain ⟨items, n, ho, lr, hs⟩ := F.list e
  refine wpAny_list_append_plain ⟨n, ho⟩ (fun h' pl sb => ?_) (by rw [hs]; exact sz hz)
  obtain ⟨F', tk⟩ := F.setLi (t := s.toks) (ws := vs ++ [v]) e sb (LI.of pl) (by simpa using lr.append (.cons ry .nil))
  exact ⟨.none, _, F', tk, by simp only [VR], h⟩
theorem cl_pop {v : V} {Q : V → FS → Prop} (e : fs.σ.li l = some (vs ++ [v])) (hz : vs.length ≤ 999) (h : Q v { fs with σ := fs.σ.setLi l vs }) : CL C (.builtin "list.pop") [.ref l] Q fs := fun R s xs F r => by
  simp only [LR, VR] at r
  obtain ⟨zz, zz, rfl, rfl, rfl⟩ := r
  obtain ⟨items, n, ho, lr, hs⟩ := F.list e
  simp only [List.length_append, List.length_cons, List.length_nil] at hs
  obtain ⟨y, ey, ry⟩ := lr.get (i := vs.length) (v := v) (by simp)
  have hy : items[items.size - 1]? = some y := by rw [hs]; simpa using ey
  refine call_meets PySem.F.slot_list_pop ⟨_, ho, rfl⟩ PySem.F.entry_list_pop (PySem.F.args_list_pop_1 _) (PySem.MeetsSeq.list_pop_last l items n y hy (by rw [hs]; exact sz (by lia))) ⟨ho, ?_⟩
  have sb : Heap.SameBut l s.heap (s.heap.update l (Obj.mapSeq fun xs => xs.eraseIdxIfInBounds (items.size - 1))) := Heap.SameBut.update ..
  have hg : (s.heap.update l (Obj.mapSeq fun xs => xs.eraseIdxIfInBounds (items.size - 1))).get? l = some (Obj.mapSeq (fun xs => xs.eraseIdxIfInBounds (items.size - 1)) { cls := .type "list", data := .seq items n }) := Heap.get?_update_self _ ho rfl
  have lt : LR s.heap vs (items.eraseIdxIfInBounds (items.size - 1)).toList := by
    have e1 : (items.eraseIdxIfInBounds (items.size - 1)).toList = items.toList.take vs.length := by
      unfold Array.eraseIdxIfInBounds
      rw [dif_pos (by lia), Array.toList_eraseIdx, hs, List.eraseIdx_eq_take_drop_succ]
      simp only [Nat.add_sub_cancel, List.append_right_eq_self]
      exact List.drop_eq_nil_of_le (by simp; lia)
    rw [e1]; simpa using lr.take vs.length
  obtain ⟨F', tk⟩ := F.setLi (t := s.toks) (ws := vs) e sb (LI.of_seq hg) lt
  exact ⟨v, _, F', tk, ry.mono tk, h⟩
theorem cl_extend {b : Addr} {ws : List V} {Q : V → FS → Prop} (e : fs.σ.li l = some vs) (eb : fs.σ.li b = some ws) (hz : vs.length + ws.length ≤ 1000) (h : Q .none { fs with σ := fs.σ.setLi l (vs ++ ws) }) : CL C (.builtin "list.extend") [.ref l, .ref b] Q fs := fun R s xs F r => by
  simp only [LR, VR] at r
  obtain ⟨zz, zz, rfl, rfl, zz, zz, rfl, rfl, rfl⟩ := r
  obtain ⟨items, n, ho, lr, hs⟩ := F.list e
  obtain ⟨items2, n2, ho2, lr2, hs2⟩ := F.list eb
  have hz1 : items.size + items2.size ≤ sizeLine := by rw [hs, hs2]; exact sz hz
  refine call_meets PySem.F.slot_list_extend ⟨_, ho, rfl⟩ PySem.F.entry_list_extend (PySem.F.args_list_extend_2 _ _) (PySem.AutoSeq1.list_extend_list_list_0 l items n b items2 n2 (by
      rw [show Builtin.List.listTooLong (items.size + items2.size) = false from ?_]
      · simp
      · unfold Builtin.List.listTooLong; simpa using hz1) (by rw [hs]; exact sz (by lia)) (by lia)) ⟨ho, ho2, ?_⟩
  have sb : Heap.SameBut l s.heap (s.heap.update l (Obj.mapSeq fun x => x ++ items2)) := Heap.SameBut.update ..
  have hg : (s.heap.update l (Obj.mapSeq fun x => x ++ items2)).get? l = some (Obj.mapSeq (fun x => x ++ items2) { cls := .type "list", data := .seq items n }) := Heap.get?_update_self _ ho rfl
  obtain ⟨F', tk⟩ := F.setLi (t := s.toks) (ws := vs ++ ws) e sb (LI.of_seq hg) (by simpa using lr.append lr2)
  exact ⟨.none, _, F', tk, by simp only [VR], h⟩
theorem op_getL {i : Int} {v : V} {Q : V → FS → Prop} {value slice : PySem.Expr} (e : fs.σ.li l = some vs) (h0 : 0 ≤ i) (hi : i < 1000) (hv : vs[i.toNat]? = some v) (h : Q v fs)
    (hs : ∀ a t, subscripted slice false (.ref a) (.int i t) = operate [.ref a, .int i t] (getItem (.ref a) (.int i t)) := by intro _ _; with_unfolding_all rfl) : OP2 C VR (subscriptTail value slice) (.ref l) (.int i) Q fs := fun R s a b F r r' => by
  simp only [VR] at r r'; subst r; obtain ⟨t, rfl⟩ := r'
  obtain ⟨items, n, ho, lr, zz⟩ := F.list e
  obtain ⟨x, ex, rx⟩ := lr.get hv
  exact tail_any (isL ho).typeIs slot_list_getitem.lookup (wpAny_getItem_list (isL ho) h0 (by lia) (by simpa using ex) ⟨v, fs, F, TK.refl, rx, h⟩) (hs l t)
theorem ev_sub {a i : PySem.Expr} {pos : Pos} {Q : V → FS → Prop} (h : EV C a (K1 C i (subscriptTail a i) Q) fs) : EV C (.Subscript a i pos) Q fs := fun R s F => by
  refine Subscript_ (wp_to (h R s F) fun x v f1 s1 F1 t1 r1 q1 => ?_)
  refine wp_to (q1 R s1 F1) fun y w f2 s2 F2 t2 r2 q2 => ?_
  exact wp_at (q2 R s2 x y F2 (r1.mono t2) r2) (t1.trans t2)
theorem op_getT {i : Int} {ws : List V} {v : V} {Q : V → FS → Prop} {value slice : PySem.Expr} (h0 : 0 ≤ i) (hi : i < 1000) (hv : ws[i.toNat]? = some v) (h : Q v fs)
    (hs : ∀ a t, subscripted slice false (.ref a) (.int i t) = operate [.ref a, .int i t] (getItem (.ref a) (.int i t)) := by intro _ _; with_unfolding_all rfl) : OP2 C VR (subscriptTail value slice) (.tup ws) (.int i) Q fs := fun R s a b F r r' => by
  simp only [VR] at r r'; obtain ⟨t, items, rfl, it, lr⟩ := r; obtain ⟨u, rfl⟩ := r'
  obtain ⟨x, ex, rx⟩ := lr.get hv
  have hlt : i.toNat < items.size := by
    have := (List.getElem?_eq_some_iff.mp ex).1; simpa using this
  refine tail_any (T := "tuple") (by obtain ⟨o, ho, hc, zz⟩ := it; exact ⟨o, ho, hc⟩) PySem.F.slot_tuple_getitem.lookup (PyProof.Rows.getItem_tuple (j := i.toNat) it (by lia) (by lia) ?_ (by simpa using ex) ⟨v, fs, F, TK.refl, rx, h⟩) (hs t u)
  unfold seqIndex?
  simp only [show ¬ (i < 0) from by lia, if_false]
  have h2 : i < (items.size : Int) := by have := Int.toNat_of_nonneg h0; lia
  simp [h0, h2]
theorem op_setL {i : Int} {v : V} {Q : Unit → FS → Prop} (e : fs.σ.li l = some vs) (h0 : 0 ≤ i) (hi : i < vs.length) (hz : vs.length ≤ 1000) (h : Q () { fs with σ := fs.σ.setLi l (vs.set i.toNat v) }) : OP3 C UR setItem (.ref l) (.int i) v Q fs := fun R s a b c F r r' r'' => by
  simp only [VR] at r r'; subst r; obtain ⟨t, rfl⟩ := r'
  obtain ⟨items, n, ho, lr, hs⟩ := F.list e
  refine ki_setAt ho h0 (by lia) (by lia) ?_
  have sb : Heap.SameBut l s.heap (s.heap.update l (Obj.mapSeq (·.setIfInBounds i.toNat c))) := Heap.SameBut.update ..
  have hg : (s.heap.update l (Obj.mapSeq (·.setIfInBounds i.toNat c))).get? l = some (Obj.mapSeq (·.setIfInBounds i.toNat c) { cls := .type "list", data := .seq items n }) := Heap.get?_update_self _ ho rfl
  obtain ⟨F', tk⟩ := F.setLi (t := s.toks) (ws := vs.set i.toNat v) e sb (LI.of_seq hg) (by simpa using lr.set i.toNat r'')
  exact ⟨(), _, F', tk, trivial, h⟩
end
end
-- RM
noncomputable section
open PySem PySem.W PySem.Calls PyProof.Rows PySem.SeqAt
section
variable {C : Cx} {fs : FS} {R : Addr → Option Obj} {s : Shared} {l : Addr} {vs : List V} {α β : Type} {rel : Heap → β → α → Prop}
theorem cl_len {Q : V → FS → Prop} (e : fs.σ.li l = some vs) (hz : vs.length ≤ 1000) (h : Q (.int vs.length) fs) : CL C (.builtin "len") [.ref l] Q fs := fun R s xs F r => by
  simp only [LR, VR] at r
  obtain ⟨zz, zz, rfl, rfl, rfl⟩ := r
  obtain ⟨items, n, ho, lr, hs⟩ := F.list e
  exact call_len_list (isL ho) (by rw [hs]; lia) ⟨_, fs, F.toks _, TK.refl, by rw [hs]; simp only [VR]; exact ⟨_, rfl⟩, h⟩
theorem cl_lenT {Q : V → FS → Prop} (hz : vs.length ≤ 1000) (h : Q (.int vs.length) fs) : CL C (.builtin "len") [.tup vs] Q fs := fun R s xs F r => by
  simp only [LR, VR] at r
  obtain ⟨zz, zz, rfl, ⟨t, items, rfl, it, lr⟩, rfl⟩ := r
  have hs : items.size = vs.length := by simpa using lr.length
  exact PyProof.Rows.len_tuple it (by rw [hs]; lia) ⟨_, fs, F.toks _, TK.refl, by rw [hs]; simp only [VR]; exact ⟨_, rfl⟩, h⟩
theorem cl_listL {Q : V → FS → Prop} (e : fs.σ.li l = some vs) (hz : vs.length ≤ 1000) (h : ∀ a, fs.σ.Fresh a → Q (.ref a) { fs with σ := fs.σ.setLi a vs }) : CL C (.type "list") [.ref l] Q fs := fun R s xs F r => by
  simp only [LR, VR] at r
  obtain ⟨zz, zz, rfl, rfl, rfl⟩ := r
  obtain ⟨items, n, ho, lr, hs⟩ := F.list e
  refine call_list_seq l (.inl rfl) ho rfl rfl (fun h' c' hk hg => ?_) (by rw [hs]; exact sz hz)
  have ka : KeepAll s.heap h' := hk
  obtain ⟨F', fr⟩ := F.newLi (t := s.toks) ka (get_size _) (LI.of_seq hg) (lr.mono ka.tk)
  exact ⟨_, _, F', ka.tk, by simp only [VR], h _ fr⟩
theorem cl_listT {Q : V → FS → Prop} (hz : vs.length ≤ 1000) (h : ∀ a, fs.σ.Fresh a → Q (.ref a) { fs with σ := fs.σ.setLi a vs }) : CL C (.type "list") [.tup vs] Q fs := fun R s xs F r => by
  simp only [LR, VR] at r
  obtain ⟨zz, zz, rfl, ⟨t, items, rfl, ⟨o, ho, hc, n, hd⟩, lr⟩, rfl⟩ := r
  have hs : items.size = vs.length := by simpa using lr.length
  refine call_list_seq t (.inr rfl) ho hc hd (fun h' c' hk hg => ?_) (by rw [hs]; exact sz hz)
  have ka : KeepAll s.heap h' := hk
  obtain ⟨F', fr⟩ := F.newLi (t := s.toks) ka (get_size _) (LI.of_seq hg) (lr.mono ka.tk)
  exact ⟨_, _, F', ka.tk, by simp only [VR], h _ fr⟩
theorem cl_tupL {Q : V → FS → Prop} (e : fs.σ.li l = some vs) (hz : vs.length ≤ 1000) (h : Q (.tup vs) fs) : CL C (.type "tuple") [.ref l] Q fs := fun R s xs F r => by
  simp only [LR, VR] at r
  obtain ⟨zz, zz, rfl, rfl, rfl⟩ := r
  obtain ⟨items, n, ho, lr, hs⟩ := F.list e
  refine call_tuple_list (isL ho) (fun h' hk => ?_) (by rw [hs]; exact sz hz)
  have ka : KeepAll s.heap (h'.push { cls := .type "tuple", data := .seq items }) := KeepAll.trans hk (KeepAll.push _ _)
  exact ⟨.tup vs, _, F.keeps (t := s.toks) ka, ka.tk, by simp only [VR]; exact ⟨_, items, rfl, ⟨_, Heap.get?_push_size _ rfl, rfl, _, rfl⟩, lr.mono ka.tk⟩, h⟩
theorem FR.addNew (F : FR C R fs s) {s' : Shared} {a : Addr} {items : Array Value} {ws : List V} (F' : FR C R fs s') (hn : s.heap.get? a = none) (il : LI s'.heap a items) (r : LR s'.heap ws items.toList) :
    FR C R { fs with σ := fs.σ.setLi a ws } s' ∧ fs.σ.Fresh a := by
  obtain ⟨h1, h2, h3⟩ := F.newHid hn
  refine ⟨F'.sig (F'.hr.addLi ?_ il r), (F.rpN hn).2⟩
  rw [rp_not h2]; exact h1
theorem op_cat {b : Addr} {ws : List V} {Q : V → FS → Prop} (e : fs.σ.li l = some vs) (eb : fs.σ.li b = some ws) (hz : vs.length + ws.length ≤ 1000) (h : ∀ a, fs.σ.Fresh a → Q (.ref a) { fs with σ := fs.σ.setLi a (vs ++ ws) }) : OP2 C VR (binaryOp .Add) (.ref l) (.ref b) Q fs := fun R s x y F r r' => by
  simp only [VR] at r r'; subst r r'
  obtain ⟨items, n, ho, lr, hs⟩ := F.list e
  obtain ⟨items2, n2, ho2, lr2, hs2⟩ := F.list eb
  obtain ⟨mv, G, N, back⟩ := F.byCut
  refine add_arrays G N (isL ho) (isL ho2) (fun h' G' N' => ?_) (by rw [hs, hs2]; exact sz hz)
  obtain ⟨F', tk, zz, ob⟩ := back h' s.toks _ G' N' fun p hp => List.mem_cons_of_mem _ hp
  obtain ⟨F2, fr⟩ := F.addNew F' (get_size _) (LI.of_seq (ob _ _ (.head _))) (ws := vs ++ ws) (by simpa using (lr.append lr2).mono tk)
  exact ⟨_, _, F2, tk, by simp only [VR], h _ fr⟩
inductive UpQ (Q : V → FS → Prop) (v w : V) (f2 : FS) : Prop
  | mk (l : Addr) (vs : List V) (i : Int) (e : v = .ref l) (el : f2.σ.li l = some vs) (hz : vs.length ≤ 1000) (ew : w = .int i) (h0 : 0 ≤ i) (h : ∀ b, f2.σ.Fresh b → Q (.ref b) { f2 with σ := f2.σ.setLi b (vs.take i.toNat) })
inductive FrQ (Q : V → FS → Prop) (v w : V) (f2 : FS) : Prop
  | mk (l : Addr) (vs : List V) (i : Int) (e : v = .ref l) (el : f2.σ.li l = some vs) (hz : vs.length ≤ 1000) (ew : w = .int i) (h0 : 0 ≤ i) (h : ∀ b, f2.σ.Fresh b → Q (.ref b) { f2 with σ := f2.σ.setLi b (vs.drop i.toNat) })
inductive BlQ (Q : V → FS → Prop) (v w : V) (f2 : FS) : Prop
  | mk (l : Addr) (vs : List V) (e : v = .ref l) (el : f2.σ.li l = some vs) (hz : vs.length ≤ 1000) (ew : w = .int (-1)) (h : ∀ b, f2.σ.Fresh b → Q (.ref b) { f2 with σ := f2.σ.setLi b (vs.take (vs.length - 1)) })
theorem ev_upto {a hi : PySem.Expr} {p pos : Pos} {Q : V → FS → Prop}
    (h : EV C a (fun v f => EV C hi (UpQ Q v) f) fs)
    (hsub : ∀ l b, subscripted (.Slice Option.none (some hi) Option.none p) false (.ref l) (.ref b) = operate [.ref b, .ref l] (getItem (.ref l) (.ref b)) := by intro _ _; with_unfolding_all rfl)
    (ht : ∀ l r, letTemporaryGo a (.ref l) r = pure () := by intro _ _; with_unfolding_all rfl) : EV C (.Subscript a (.Slice Option.none (some hi) Option.none p) pos) Q fs := fun R s F => by
  refine Subscript_ (wp_to (h R s F) fun x v f1 s1 F1 t1 r1 q1 => ?_)
  refine wpAny_Slice ?_
  refine wpAny_pure ?_
  refine wp_to (q1 R s1 F1) fun y w f2 s2 F2 t2 r2 q2 => ?_
  obtain ⟨l, vs, i, rfl, e, hz, rfl, h0, q⟩ := q2
  have r1' := r1.mono t2
  simp only [VR] at r1' r2; subst r1'; obtain ⟨u, rfl⟩ := r2
  refine wpAny_pure ?_
  obtain ⟨items, n, ho, lr, hs⟩ := F2.list e
  obtain ⟨mv, G, N, back⟩ := F2.byCut
  refine slice_list G N (isL ho) .none (.int i u) (fun h' G' N' => ?_) (hsub _ _) (ht _) (by rw [hs]; exact sz hz)
  obtain ⟨F', tk, zz, ob⟩ := back h' s2.toks _ G' N' fun p hp => List.mem_cons_of_mem _ hp
  obtain ⟨k, rfl⟩ := Int.eq_ofNat_of_zero_le h0
  obtain ⟨F3, fr⟩ := F2.addNew F' (Heap.get?_none_of_le (Nat.le_succ _)) (LI.of_seq (ob _ _ (.head _))) (ws := vs.take k) (by
    rw [slicePick_upto']; simpa using (lr.take k).mono tk)
  exact ⟨_, _, F3, (t1.trans t2).trans tk, by simp only [VR], q _ fr⟩
theorem ev_from {a lo : PySem.Expr} {p pos : Pos} {Q : V → FS → Prop}
    (h : EV C a (fun v f => EV C lo (FrQ Q v) f) fs)
    (hsub : ∀ l b, subscripted (.Slice (some lo) Option.none Option.none p) false (.ref l) (.ref b) = operate [.ref b, .ref l] (getItem (.ref l) (.ref b)) := by intro _ _; with_unfolding_all rfl)
    (ht : ∀ l r, letTemporaryGo a (.ref l) r = pure () := by intro _ _; with_unfolding_all rfl) : EV C (.Subscript a (.Slice (some lo) Option.none Option.none p) pos) Q fs := fun R s F => by
  refine Subscript_ (wp_to (h R s F) fun x v f1 s1 F1 t1 r1 q1 => ?_)
  refine wpAny_Slice ?_
  refine wp_to (q1 R s1 F1) fun y w f2 s2 F2 t2 r2 q2 => ?_
  refine wpAny_pure (wpAny_pure ?_)
  obtain ⟨l, vs, i, rfl, e, hz, rfl, h0, q⟩ := q2
  have r1' := r1.mono t2
  simp only [VR] at r1' r2; subst r1'; obtain ⟨u, rfl⟩ := r2
  obtain ⟨items, n, ho, lr, hs⟩ := F2.list e
  obtain ⟨mv, G, N, back⟩ := F2.byCut
  refine slice_list G N (isL ho) (.int i u) .none (fun h' G' N' => ?_) (hsub _ _) (ht _) (by rw [hs]; exact sz hz)
  obtain ⟨F', tk, zz, ob⟩ := back h' s2.toks _ G' N' fun p hp => List.mem_cons_of_mem _ hp
  obtain ⟨k, rfl⟩ := Int.eq_ofNat_of_zero_le h0
  obtain ⟨F3, fr⟩ := F2.addNew F' (Heap.get?_none_of_le (Nat.le_succ _)) (LI.of_seq (ob _ _ (.head _))) (ws := vs.drop k) (by
    rw [slicePick_from']; simpa using (lr.drop k).mono tk)
  exact ⟨_, _, F3, (t1.trans t2).trans tk, by simp only [VR], q _ fr⟩
-- membership, equality
theorem lr_intAt {ns : List Int} {xs : List Value} {h : Heap} (r : LR h (ns.map .int) xs) (e : Int → Bool) : (xs.any fun y => match y with | .int n _ => e n | _ => false) = ns.any e := by
  induction ns generalizing xs with
  | nil => simp only [List.map_nil, LR] at r; subst r; rfl
  | cons n ns ih =>
    simp only [List.map_cons, LR, VR] at r
    obtain ⟨zz, zz, rfl, ⟨t, rfl⟩, r⟩ := r
    simp [ih r]
theorem lr_isInt {ns : List Int} {xs : List Value} {h : Heap} (r : LR h (ns.map .int) xs) : ∀ y ∈ xs, ∃ n t, y = .int n t := by
  induction ns generalizing xs with
  | nil => simp only [List.map_nil, LR] at r; subst r; simp
  | cons n ns ih =>
    simp only [List.map_cons, LR, VR] at r
    obtain ⟨zz, zz, rfl, ⟨t, rfl⟩, r⟩ := r
    intro y hy
    rcases List.mem_cons.mp hy with rfl | hy
    · exact ⟨n, t, rfl⟩
    · exact ih r y hy
theorem op_notInL {i : Int} {ns : List Int} {Q : V → FS → Prop} (e : fs.σ.li l = some (ns.map .int)) (h : Q (.bool (!(ns.any (· == i)))) fs) : OP2 C VR (compareOp .NotIn) (.int i) (.ref l) Q fs := fun R s x y F r r' => by
  simp only [VR] at r r'; subst r'; obtain ⟨t, rfl⟩ := r
  obtain ⟨items, n, ho, lr, hs⟩ := F.list e
  refine notIn_listAt (fun y => match y with | .int n _ => n == i | _ => false) (isL ho) (fun y hy => ?_) ⟨_, fs, F, TK.refl, ?_, h⟩
  · obtain ⟨n, u, rfl⟩ := lr_isInt lr y (Array.mem_toList_iff.mpr hy)
    exact EqAt.int_int n u i t
  · rw [← Array.any_toList, lr_intAt lr (· == i)]; simp only [VR]
theorem op_eqNil {b : Addr} {Q : V → FS → Prop} (e : fs.σ.li l = some vs) (eb : fs.σ.li b = some []) (hu : C.A.units < cLine) (h : Q (.bool vs.isEmpty) fs) : OP2 C VR (compareOp .Eq) (.ref l) (.ref b) Q fs := fun R s x y F r r' => by
  simp only [VR] at r r'; subst r r'
  obtain ⟨items, n, ho, lr, hs⟩ := F.list e
  obtain ⟨items2, n2, ho2, lr2, hs2⟩ := F.list eb
  simp only [List.length_nil] at hs2
  cases vs with
  | nil =>
    simp only [List.length_nil] at hs
    exact eq_listAt (e := fun zz => true) (isL ho) (isL ho2) (by lia) hu (fun j h1 => by lia) ⟨_, fs, F, TK.refl, by simp [VR], h⟩
  | cons v r =>
    simp only [List.length_cons] at hs
    exact eq_list_lengthsAt (isL ho) (isL ho2) (by simp; lia) hu ⟨_, fs, F, TK.refl, by simp [VR], h⟩
theorem op_neNil {b : Addr} {Q : V → FS → Prop} (e : fs.σ.li l = some vs) (eb : fs.σ.li b = some []) (hu : C.A.units < cLine) (h : Q (.bool (!vs.isEmpty)) fs) : OP2 C VR (compareOp .NotEq) (.ref l) (.ref b) Q fs := fun R s x y F r r' => by
  simp only [VR] at r r'; subst r r'
  obtain ⟨items, n, ho, lr, hs⟩ := F.list e
  obtain ⟨items2, n2, ho2, lr2, hs2⟩ := F.list eb
  simp only [List.length_nil] at hs2
  cases vs with
  | nil =>
    simp only [List.length_nil] at hs
    exact RcNeAt.lists (e := fun zz => true) (isL ho) (isL ho2) (by lia) hu (fun j h1 => by lia) _ _ _ _ ⟨_, fs, F, TK.refl, by simp [VR], h⟩
  | cons v r =>
    simp only [List.length_cons] at hs
    exact RcNeAt.lists_lengths (isL ho) (isL ho2) (by simp; lia) hu _ _ _ _ ⟨_, fs, F, TK.refl, by simp [VR], h⟩
theorem lr_intGet {ns : List Int} {xs : List Value} {h : Heap} (r : LR h (ns.map .int) xs) {j : Nat} (hj : j < xs.length) : ∃ t, xs[j] = .int (ns.getD j 0) t := by
  have hl := r.length
  simp only [List.length_map] at hl
  obtain ⟨x, ex, rx⟩ := r.get (i := j) (v := .int (ns.getD j 0)) (by simp [List.getD, List.getElem?_eq_getElem (show j < ns.length by lia)])
  rw [List.getElem?_eq_getElem hj] at ex
  cases ex
  simp only [VR] at rx; exact rx
theorem op_eqInts {b : Addr} {ns ms : List Int} {Q : V → FS → Prop} (e : fs.σ.li l = some (ns.map .int)) (eb : fs.σ.li b = some (ms.map .int)) (hu : C.A.units < cLine) (h : Q (.bool (ns == ms)) fs) : OP2 C VR (compareOp .Eq) (.ref l) (.ref b) Q fs := fun R s x y F r r' => by
  simp only [VR] at r r'; subst r r'
  obtain ⟨items, n, ho, lr, hs⟩ := F.list e
  obtain ⟨items2, n2, ho2, lr2, hs2⟩ := F.list eb
  simp only [List.length_map] at hs hs2
  by_cases hz : ns.length = ms.length
  · refine eq_listAt (e := fun j => ns.getD j 0 == ms.getD j 0) (isL ho) (isL ho2) (by lia) hu (fun j h1 h2 => ?_) ⟨_, fs, F, TK.refl, ?_, h⟩
    · obtain ⟨t, e1⟩ := lr_intGet lr (j := j) (by simpa using h1)
      obtain ⟨u, e2⟩ := lr_intGet lr2 (j := j) (by simpa using h2)
      rw [Array.getElem_toList] at e1 e2
      rw [e1, e2]; exact EqAt.int_int _ _ _ _
    · simp only [VR, Value.bool.injEq]
      rw [Bool.eq_iff_iff, List.all_eq_true, beq_iff_eq]
      constructor
      · intro q
        refine List.ext_getElem hz fun j h1 h2 => ?_
        have := q j (List.mem_range.mpr (by lia))
        simpa [List.getD, h1, h2] using this
      · rintro rfl j zz; simp
  · refine eq_list_lengthsAt (isL ho) (isL ho2) (by simp; lia) hu ⟨_, fs, F, TK.refl, ?_, h⟩
    simp only [VR, Value.bool.injEq]
    symm
    rw [beq_eq_false_iff_ne]
    rintro rfl; exact hz rfl
end
end
-- RN
noncomputable section
open PySem PySem.W PySem.Calls PyProof.Rows PySem.SeqAt
section
variable {K : Type} [DecidableEq K]
def vat (kvs : List (K × V)) (k : K) : Option V := (kvs.find? fun kv => kv.1 = k).map (·.2)
def vst (kvs : List (K × V)) (k : K) (v : V) : List (K × V) := if kvs.any (fun kv => kv.1 = k) then kvs.map (fun kv => if kv.1 = k then (kv.1, v) else kv) else kvs ++ [(k, v)]
def vwo (kvs : List (K × V)) (k : K) : List (K × V) := kvs.filter fun kv => decide (kv.1 ≠ k)
def vmg (kvs : List (K × V)) : List (K × V) → List (K × V)
  | [] => kvs
  | (k, v) :: r => vmg (vst kvs k v) r
def KR (h : Heap) (kvs : List (K × V)) (ys : List (K × Value)) : Prop := ys.map (·.1) = kvs.map (·.1) ∧ LR h (kvs.map (·.2)) (ys.map (·.2))
theorem KR.cons {h : Heap} {kv : K × V} {kvs : List (K × V)} {ys : List (K × Value)} (r : KR h (kv :: kvs) ys) : ∃ y q, ys = (kv.1, y) :: q ∧ VR h kv.2 y ∧ KR h kvs q := by
  obtain ⟨a, b⟩ := r
  cases ys with
  | nil => cases a
  | cons p q =>
    simp only [List.map_cons, List.cons.injEq, LR] at a b
    obtain ⟨y, q', e, r1, r2⟩ := b
    obtain ⟨rfl, rfl⟩ := e
    obtain ⟨p1, p2⟩ := p
    dsimp only at a r1 ⊢
    obtain ⟨rfl, a2⟩ := a
    exact ⟨p2, q, rfl, r1, a2, r2⟩
theorem KR.nil {h : Heap} {ys : List (K × Value)} (r : KR h ([] : List (K × V)) ys) : ys = [] := by
  have := r.1; simpa using this
theorem KR.mk {h : Heap} {kv : K × V} {kvs : List (K × V)} {y : Value} {q : List (K × Value)} (a : VR h kv.2 y) (b : KR h kvs q) : KR h (kv :: kvs) ((kv.1, y) :: q) :=
  ⟨by simp [b.1], by simpa using LR.cons a b.2⟩
theorem KR.mono {h h' : Heap} (t : TK h h') {kvs : List (K × V)} {ys : List (K × Value)} (r : KR h kvs ys) : KR h' kvs ys := ⟨r.1, r.2.mono t⟩
theorem KR.length {h : Heap} {kvs : List (K × V)} {ys : List (K × Value)} (r : KR h kvs ys) : ys.length = kvs.length := by
  have := congrArg List.length r.1; simpa using this
theorem KR.at {h : Heap} {kvs : List (K × V)} {ys : List (K × Value)} (r : KR h kvs ys) (k : K) : match vat kvs k with
    | some v => ∃ y, valueAt ys k = some y ∧ VR h v y
    | none => valueAt ys k = none := by
  induction kvs generalizing ys with
  | nil => rw [r.nil]; rfl
  | cons kv kvs ih =>
    obtain ⟨y, q, rfl, a, b⟩ := r.cons
    by_cases e : kv.1 = k
    · simp only [vat, valueAt, List.find?_cons, e, decide_true, Option.map_some]; exact ⟨y, rfl, a⟩
    · have := ih b
      simp only [vat, valueAt, List.find?_cons, e, decide_false] at this ⊢; exact this
theorem KR.any {h : Heap} {kvs : List (K × V)} {ys : List (K × Value)} (r : KR h kvs ys) (k : K) : (ys.any fun kv => decide (kv.1 = k)) = kvs.any fun kv => decide (kv.1 = k) := by
  have e1 : (ys.any fun kv => decide (kv.1 = k)) = (ys.map (·.1)).any fun x => decide (x = k) := by rw [List.any_map]; rfl
  have e2 : (kvs.any fun kv => decide (kv.1 = k)) = (kvs.map (·.1)).any fun x => decide (x = k) := by rw [List.any_map]; rfl
  rw [e1, e2, r.1]
theorem KR.map {h : Heap} {kvs : List (K × V)} {ys : List (K × Value)} (r : KR h kvs ys) {k : K} {v : V} {y : Value} (a : VR h v y) :
    KR h (kvs.map fun kv => if kv.1 = k then (kv.1, v) else kv) (ys.map fun kv => if kv.1 = k then (kv.1, y) else kv) := by
  induction kvs generalizing ys with
  | nil => rw [r.nil]; exact ⟨rfl, .nil⟩
  | cons kv kvs ih =>
    obtain ⟨z, q, rfl, c, b⟩ := r.cons
    by_cases e : kv.1 = k
    · simp only [List.map_cons, e, if_true]; exact KR.mk (kv := (k, v)) a (ih b)
    · simp only [List.map_cons, e, if_false]; exact KR.mk c (ih b)
theorem KR.snoc {h : Heap} {kvs : List (K × V)} {ys : List (K × Value)} (r : KR h kvs ys) {k : K} {v : V} {y : Value} (a : VR h v y) : KR h (kvs ++ [(k, v)]) (ys ++ [(k, y)]) := by
  induction kvs generalizing ys with
  | nil => rw [r.nil]; exact KR.mk (kv := (k, v)) a ⟨rfl, .nil⟩
  | cons kv kvs ih =>
    obtain ⟨z, q, rfl, c, b⟩ := r.cons
    exact KR.mk c (ih b)
theorem KR.st {h : Heap} {kvs : List (K × V)} {ys : List (K × Value)} (r : KR h kvs ys) {k : K} {v : V} {y : Value} (a : VR h v y) : KR h (vst kvs k v) (stored ys k y) := by
  unfold vst stored
  rw [r.any k]
  split
  · exact r.map a
  · exact r.snoc a
theorem KR.wo {h : Heap} {kvs : List (K × V)} {ys : List (K × Value)} (r : KR h kvs ys) (k : K) : KR h (vwo kvs k) (without ys k) := by
  induction kvs generalizing ys with
  | nil => rw [r.nil]; exact ⟨rfl, .nil⟩
  | cons kv kvs ih =>
    obtain ⟨z, q, rfl, c, b⟩ := r.cons
    have := ih b
    by_cases e : kv.1 = k
    · simpa [vwo, without, e] using this
    · have := KR.mk c this
      simpa [vwo, without, e] using this
theorem KR.mg {h : Heap} {more : List (K × V)} : ∀ {kvs : List (K × V)} {ys zs : List (K × Value)}, KR h kvs ys → KR h more zs → KR h (vmg kvs more) (merged ys zs) := by
  induction more with
  | nil => intro kvs ys zs a b; rw [b.nil]; exact a
  | cons kv more ih =>
    intro kvs ys zs a b
    obtain ⟨z, q, rfl, c, b⟩ := b.cons
    show KR h (vmg (vst kvs kv.1 kv.2) more) (merged (stored ys kv.1 z) q)
    exact ih (a.st c) b
end
structure KX (C : Cx) (K : Type) [DecidableEq K] where
  knd : KeyKind C.W.prog C.W.w K
  mkd : List (K × V) → D
  kv : K → V
  dr : ∀ h a kvs, DR C.W.toWd h a (mkd kvs) ↔ (a == sysModules) = false ∧ ∃ ys, h.DictOf knd a ys ∧ KR h kvs ys
  is : ∀ h k x, VR h (kv k) x → knd.is k x = true
def kI (C : Cx) : KX C Int := ⟨intKind _ _, .di, .int, fun h a kvs => Iff.rfl, fun h k x r => by simp only [VR] at r; obtain ⟨t, rfl⟩ := r; exact intKind_is _ _ _ _⟩
def kS (C : Cx) : KX C Str := ⟨PySem.strKind _ _, .ds, .str, fun h a kvs => Iff.rfl, fun h k x r => by simp only [VR] at r; obtain ⟨t, rfl⟩ := r; exact strKind_is _ _ _ _⟩
section
variable {C : Cx} {fs : FS} {R : Addr → Option Obj} {s : Shared} {d : Addr} {K : Type} [DecidableEq K] {kvs : List (K × V)}
theorem FR.dict (F : FR C R fs s) (X : KX C K) (e : fs.σ.dm d = some (X.mkd kvs)) : (d == sysModules) = false ∧ ∃ ys, s.heap.DictOf X.knd d ys ∧ KR s.heap kvs ys := (X.dr _ _ _).mp (F.hr.dm d _ e).2
theorem kd_in (X : KX C K) {k : K} {Q : V → FS → Prop} (e : fs.σ.dm d = some (X.mkd kvs)) (h : Q (.bool (vat kvs k).isSome) fs) : OP2 C VR (compareOp .In) (X.kv k) (.ref d) Q fs := fun R s x y F r r' => by
  simp only [VR] at r'; subst r'
  obtain ⟨sm, ys, dk, kr⟩ := F.dict X e
  refine wpAny_in_of (X.is _ _ _ r) sm dk.mapOf ⟨_, fs, F.toks _, TK.refl, ?_, h⟩
  have := kr.at k
  split at this
  · rename_i v q; obtain ⟨y, e1, zz⟩ := this; rw [q, e1]; simp [VR]
  · rename_i q; rw [q, this]; simp [VR]
theorem kd_notIn (X : KX C K) {k : K} {Q : V → FS → Prop} (e : fs.σ.dm d = some (X.mkd kvs)) (h : Q (.bool (!(vat kvs k).isSome)) fs) : OP2 C VR (compareOp .NotIn) (X.kv k) (.ref d) Q fs := fun R s x y F r r' => by
  simp only [VR] at r'; subst r'
  obtain ⟨sm, ys, dk, kr⟩ := F.dict X e
  refine wpAny_notIn_of (X.is _ _ _ r) sm dk.mapOf ⟨_, fs, F.toks _, TK.refl, ?_, h⟩
  have := kr.at k
  split at this
  · rename_i v q; obtain ⟨y, e1, zz⟩ := this; rw [q, e1]; simp [VR]
  · rename_i q; rw [q, this]; simp [VR]
theorem kd_get (X : KX C K) {k : K} {v : V} {value slice : PySem.Expr} {Q : V → FS → Prop} (e : fs.σ.dm d = some (X.mkd kvs)) (hv : vat kvs k = some v) (h : Q v fs)
    (hs : ∀ x h, VR h (X.kv k) x → subscripted slice false (.ref d) x = operate [.ref d, x] (getItem (.ref d) x)) (ht : ∀ a r, letTemporaryGo value (.ref a) r = pure () := by intro _ _; with_unfolding_all rfl) : OP2 C VR (subscriptTail value slice) (.ref d) (X.kv k) Q fs := fun R s x y F r r' => by
  simp only [VR] at r; subst r
  obtain ⟨sm, ys, dk, kr⟩ := F.dict X e
  have := kr.at k
  rw [hv] at this
  obtain ⟨z, e1, rz⟩ := this
  exact subscriptTail_builtin dk.typeIs slot_dict_getitem.lookup (wpAny_getItem_of (X.is _ _ _ r') dk.mapOf e1 ⟨v, fs, F.toks _, TK.refl, rz, h⟩) (hs _ _ r') (ht d)
theorem kd_set (X : KX C K) {k : K} {v : V} {Q : Unit → FS → Prop} (e : fs.σ.dm d = some (X.mkd kvs)) (hz : kvs.length ≤ 1000) (h : Q () { fs with σ := fs.σ.setDm d (X.mkd (vst kvs k v)) }) : OP3 C UR setItem (.ref d) (X.kv k) v Q fs := fun R s x y z F r r' r'' => by
  simp only [VR] at r; subst r
  obtain ⟨sm, ys, dk, kr⟩ := F.dict X e
  refine wpAny_setItem_pairs (X.is _ _ _ r') dk (fun h' dk' sb => ?_) (by rw [kr.length]; exact sz hz)
  have tk := F.tkDm e sb
  obtain ⟨F', zz⟩ := F.setDm (t := s.toks + 1) e sb ((X.dr _ _ _).mpr ⟨sm, _, dk', (kr.st r'').mono tk⟩)
  exact ⟨(), _, F', tk, trivial, h⟩
theorem gm_dict (X : KX C K) {name : Str} {id : String} (e : fs.σ.dm d = some (X.mkd kvs)) (slot : Slot "dict" name id) (hty : typeOf (.builtin id) = pure (.type "method_descriptor")) : GM C name (.ref d) (.builtin id) [.ref d] fs := fun pl R s a Q' F r h => by
  simp only [VR] at r; subst r
  obtain ⟨sm, ys, dk, kr⟩ := F.dict X e
  exact getMethod_builtin dk.typeIs PySem.F.plainAttrs_dict slot hty dk.mapOf.noDict (h s _ F TK.refl (.cons (by simp only [VR]) .nil))
theorem gm_get (X : KX C K) (e : fs.σ.dm d = some (X.mkd kvs)) : GM C "get" (.ref d) (.builtin "dict.get") [.ref d] fs := gm_dict X e PySem.F.slot_dict_get PySem.F.type_dict_get
theorem gm_setdefault (X : KX C K) (e : fs.σ.dm d = some (X.mkd kvs)) : GM C "setdefault" (.ref d) (.builtin "dict.setdefault") [.ref d] fs := gm_dict X e PySem.F.slot_dict_setdefault PySem.F.type_dict_setdefault
theorem gm_update (X : KX C K) (e : fs.σ.dm d = some (X.mkd kvs)) : GM C "update" (.ref d) (.builtin "dict.update") [.ref d] fs := gm_dict X e PySem.F.slot_dict_update PySem.F.type_dict_update
theorem cl_get2 (X : KX C K) {k : K} {v : V} {Q : V → FS → Prop} (e : fs.σ.dm d = some (X.mkd kvs)) (h : Q ((vat kvs k).getD v) fs) : CL C (.builtin "dict.get") [.ref d, X.kv k, v] Q fs := fun R s xs F r => by
  simp only [LR] at r
  obtain ⟨x0, zz, rfl, r0, x1, zz, rfl, r1, x2, zz, rfl, r2, rfl⟩ := r
  simp only [VR] at r0; subst r0
  obtain ⟨sm, ys, dk, kr⟩ := F.dict X e
  refine call_meetsIn PySem.F.slot_dict_get dk.typeIs PySem.F.entry_dict_get (PySem.F.args_dict_get_3 _ _ _) (meets_dict_get_default X.knd d (X.is _ _ _ r1) sm x2) ⟨_, dk.mapOf, ⟨_, fs, F.toks _, TK.refl, ?_, h⟩⟩
  have := kr.at k
  split at this
  · rename_i v' q; obtain ⟨y, e1, ry⟩ := this; rw [q, e1]; exact ry
  · rename_i q; rw [q, this]; exact r2
theorem cl_setdefault (X : KX C K) {k : K} {v : V} {Q : V → FS → Prop} (e : fs.σ.dm d = some (X.mkd kvs)) (hz : kvs.length ≤ 1000)
    (h1 : ∀ w, vat kvs k = some w → Q w fs) (h2 : vat kvs k = none → Q v { fs with σ := fs.σ.setDm d (X.mkd (vst kvs k v)) }) : CL C (.builtin "dict.setdefault") [.ref d, X.kv k, v] Q fs := fun R s xs F r => by
  simp only [LR] at r
  obtain ⟨x0, zz, rfl, r0, x1, zz, rfl, r1, x2, zz, rfl, r2, rfl⟩ := r
  simp only [VR] at r0; subst r0
  obtain ⟨sm, ys, dk, kr⟩ := F.dict X e
  have ka := kr.at k
  refine call_meetsIn PySem.F.slot_dict_setdefault dk.typeIs PySem.F.entry_dict_setdefault (PySem.F.args_dict_setdefault_3 _ _ _) (kt_meets_setdefault X.knd d (X.is _ _ _ r1) sm x2) ⟨ys, dk, by rw [kr.length]; exact sz hz, fun w e1 => ?_, fun e1 h' dk' sb => ?_⟩
  · split at ka
    · rename_i v' q; obtain ⟨y, e2, ry⟩ := ka
      rw [e2] at e1; cases e1
      exact ⟨_, fs, F.toks _, TK.refl, ry, h1 _ q⟩
    · rename_i q; rw [ka] at e1; cases e1
  · split at ka
    · rename_i v' q; obtain ⟨y, e2, ry⟩ := ka
      rw [e2] at e1; cases e1
    · rename_i q
      have tk := F.tkDm e sb
      obtain ⟨F', zz⟩ := F.setDm (t := s.toks + 1) e sb ((X.dr _ _ _).mpr ⟨sm, _, dk', (kr.st r2).mono tk⟩)
      exact ⟨_, _, F', tk, r2.mono tk, h2 q⟩
theorem cl_update (X : KX C K) {b : Addr} {more : List (K × V)} {Q : V → FS → Prop} (e : fs.σ.dm d = some (X.mkd kvs)) (eb : fs.σ.dm b = some (X.mkd more)) (hne : d ≠ b) (hz : kvs.length + more.length ≤ 1000)
    (h : Q .none { fs with σ := fs.σ.setDm d (X.mkd (vmg kvs more)) }) : CL C (.builtin "dict.update") [.ref d, .ref b] Q fs := fun R s xs F r => by
  simp only [LR, VR] at r
  obtain ⟨x0, zz, rfl, rfl, x1, zz, rfl, rfl, rfl⟩ := r
  obtain ⟨sm, ys, dk, kr⟩ := F.dict X e
  obtain ⟨sm2, zs, dk2, kr2⟩ := F.dict X eb
  refine call_meetsIn PySem.F.slot_dict_update dk.typeIs PySem.F.entry_dict_update (PySem.F.args_dict_update_2 _ _) (meets_dict_update X.knd d b hne sm2) ⟨ys, zs, dk, dk2, by rw [kr.length, kr2.length]; exact sz hz, fun h' dk' zz sb => ?_⟩
  have tk := F.tkDm e sb
  obtain ⟨F', zz⟩ := F.setDm (t := s.toks) e sb ((X.dr _ _ _).mpr ⟨sm, _, dk', (kr.mg kr2).mono tk⟩)
  exact ⟨_, _, F', tk, by simp only [VR], h⟩
theorem xv_del {o i : PySem.Expr} {p pos : Pos} {Q : Fw → FS → Prop} (h : EV C o (fun v f => EV C i (fun w f2 => OP2 C UR delItem v w (fun zz => Q .next) f2) f) fs) : XV C (.Delete [.Subscript o i p] pos) Q fs := fun R s F => by
  refine wpAny_Delete (wpAny_deleteEach_cons (wpAny_delete_Subscript (wp_to (h R s F) fun x v f1 s1 F1 t1 r1 q1 => ?_)))
  refine wp_to (q1 R s1 F1) fun y w f2 s2 F2 t2 r2 q2 => ?_
  refine wp_to (q2 R s2 x y F2 (r1.mono t2) r2) fun zz zz f3 s3 F3 t3 zz q3 => ?_
  exact wpAny_deleteEach_nil ⟨.next, f3, F3, (t1.trans t2).trans t3, rfl, q3⟩
theorem kd_del (X : KX C K) {k : K} {Q : Unit → FS → Prop} (e : fs.σ.dm d = some (X.mkd kvs)) (hk : (vat kvs k).isSome = true) (hz : kvs.length ≤ 1000) (h : Q () { fs with σ := fs.σ.setDm d (X.mkd (vwo kvs k)) }) : OP2 C UR delItem (.ref d) (X.kv k) Q fs := fun R s x y F r r' => by
  simp only [VR] at r; subst r
  obtain ⟨sm, ys, dk, kr⟩ := F.dict X e
  have ka := kr.at k
  refine wpAny_delItem_slot dk.typeIs (by decide) PySem.F.slot_dict_delitem (call_meetsIn PySem.F.slot_dict_delitem dk.typeIs PySem.F.entry_dict_delitem (PySem.F.args_dict_delitem_2 _ _) (meets_dict_delitem_pairs X.knd d (X.is _ _ _ r')) ⟨ys, dk, by rw [kr.length]; exact sz hz, ?_, fun h' dk' sb => ?_⟩)
  · split at ka
    · obtain ⟨y, e2, zz⟩ := ka; rw [e2]; rfl
    · rename_i q; rw [q] at hk; cases hk
  · have tk := F.tkDm e sb
    obtain ⟨F', zz⟩ := F.setDm (t := s.toks + 1) e sb ((X.dr _ _ _).mpr ⟨sm, _, dk', (kr.wo k).mono tk⟩)
    exact ⟨(), _, F', tk, trivial, h⟩
theorem FR.notMods (F : FR C R fs s) : (s.heap.objs.size == sysModules) = false := by
  have := PyProof.Rows.modules_low (C.W.nolimit.keeps F.keepBase)
  rw [beq_eq_false_iff_ne]; exact Nat.ne_of_gt this
theorem ev_dict0 (X : KX C K) {pos : Pos} {Q : V → FS → Prop} (h : ∀ a, fs.σ.Fresh a → Q (.ref a) { fs with σ := fs.σ.setDm a (X.mkd []) }) : EV C (.Dict [] [] pos) Q fs := fun R s F => by
  refine wpAny_Dict_empty ?_
  have ka := KeepAll.push s.heap { cls := .type "dict", data := .dict #[] }
  obtain ⟨F', fr⟩ := F.newDm (t := s.toks) (d := X.mkd []) ka (get_size _) ((X.dr _ _ _).mpr ⟨F.notMods, [], Heap.DictOf.new _, rfl, .nil⟩)
  exact ⟨_, _, F', ka.tk, by simp only [VR], h _ fr⟩
end
end
-- RO
noncomputable section
open PySem PySem.W PySem.Calls PyProof.Rows PySem.SeqAt
section
variable {C : Cx} {fs : FS} {R : Addr → Option Obj} {s : Shared} {d : Addr} {K : Type} [DecidableEq K] {kvs : List (K × V)}
theorem ev_dict1 (X : KX C K) {k v : PySem.Expr} {pos : Pos} {Q : V → FS → Prop}
    (h : ∀ D, fs.σ.Fresh D → EV C k (fun kv f1 => ∃ key, kv = X.kv key ∧ EV C v (fun w f2 => f2.σ.dm D = some (X.mkd []) ∧ Q (.ref D) { f2 with σ := f2.σ.setDm D (X.mkd [(key, w)]) }) f1) { fs with σ := fs.σ.setDm D (X.mkd []) })
    (hshape : (evalEachOpt [some k] C.env).zip ((evalEach [v] C.env).map fun v => do let x ← v; standAt pos; pure x) = [(eval k C.env, (do let x ← eval v C.env; standAt pos; pure x))].map fun p => (some p.1, p.2) := by rfl) :
    EV C (.Dict [some k] [v] pos) Q fs := fun R s F => by
  have ka := KeepAll.push s.heap { cls := .type "dict", data := .dict #[] }
  obtain ⟨F', fr⟩ := F.newDm (t := s.toks) (d := X.mkd []) ka (get_size _) ((X.dr _ _ _).mpr ⟨F.notMods, [], Heap.DictOf.new _, rfl, .nil⟩)
  refine wpAny_Dict_pairs (knd := X.knd) hshape (by simp) (by simp) ?_
  refine evalPairs_cons (wp_to (h _ fr R _ F') fun x kv f1 s1 F1 t1 r1 q1 => ?_)
  obtain ⟨key, rfl, q1⟩ := q1
  refine wpAny_bind (wp_to (q1 R s1 F1) fun y w f2 s2 F2 t2 r2 q2 => ?_)
  refine wpAny_bind (wpAny_standAt (wpAny_pure (evalPairs_nil ?_)))
  obtain ⟨e2, q⟩ := q2
  obtain ⟨sm, ys, dk, kr⟩ := F2.dict X e2
  obtain rfl := kr.nil
  refine ⟨[(key, y)], ⟨X.is _ _ _ (r1.mono t2), rfl, trivial⟩, dk, fun h' dk' sb => ?_⟩
  have tk := F2.tkDm e2 sb
  obtain ⟨F3, zz⟩ := F2.setDm (t := s2.toks + 1) e2 sb ((X.dr _ _ _).mpr ⟨sm, _, dk', (KR.mg (kvs := []) (more := [(key, w)]) ⟨rfl, .nil⟩ ⟨rfl, .cons r2 .nil⟩).mono tk⟩)
  exact ⟨_, _, F3, ((ka.tk.trans t1).trans t2).trans tk, by simp only [VR], q⟩
theorem ev_dict2 (X : KX C K) {k v k' v' : PySem.Expr} {pos : Pos} {Q : V → FS → Prop}
    (h : ∀ D, fs.σ.Fresh D → EV C k (fun kv f1 => ∃ key, kv = X.kv key ∧ EV C v (fun w f2 => EV C k' (fun kv' f3 => ∃ key', kv' = X.kv key' ∧ key' ≠ key ∧ EV C v' (fun w' f4 => f4.σ.dm D = some (X.mkd []) ∧
      Q (.ref D) { f4 with σ := f4.σ.setDm D (X.mkd [(key, w), (key', w')]) }) f3) f2) f1) { fs with σ := fs.σ.setDm D (X.mkd []) })
    (hshape : (evalEachOpt [some k, some k'] C.env).zip ((evalEach [v, v'] C.env).map fun v => do let x ← v; standAt pos; pure x) =
      [(eval k C.env, (do let x ← eval v C.env; standAt pos; pure x)), (eval k' C.env, (do let x ← eval v' C.env; standAt pos; pure x))].map fun p => (some p.1, p.2) := by rfl) :
    EV C (.Dict [some k, some k'] [v, v'] pos) Q fs := fun R s F => by
  have ka := KeepAll.push s.heap { cls := .type "dict", data := .dict #[] }
  obtain ⟨F', fr⟩ := F.newDm (t := s.toks) (d := X.mkd []) ka (get_size _) ((X.dr _ _ _).mpr ⟨F.notMods, [], Heap.DictOf.new _, rfl, .nil⟩)
  refine wpAny_Dict_pairs (knd := X.knd) hshape (by simp) (by simp) ?_
  refine evalPairs_cons (wp_to (h _ fr R _ F') fun x kv f1 s1 F1 t1 r1 q1 => ?_)
  obtain ⟨key, rfl, q1⟩ := q1
  refine wpAny_bind (wp_to (q1 R s1 F1) fun y w f2 s2 F2 t2 r2 q2 => ?_)
  refine wpAny_bind (wpAny_standAt (wpAny_pure (evalPairs_cons ?_)))
  refine wp_to (q2 R s2 F2) fun x' kv' f3 s3 F3 t3 r3 q3 => ?_
  obtain ⟨key', rfl, ne, q3⟩ := q3
  refine wpAny_bind (wp_to (q3 R s3 F3) fun y' w' f4 s4 F4 t4 r4 q4 => ?_)
  refine wpAny_bind (wpAny_standAt (wpAny_pure (evalPairs_nil ?_)))
  obtain ⟨e4, q⟩ := q4
  obtain ⟨sm, ys, dk, kr⟩ := F4.dict X e4
  obtain rfl := kr.nil
  have t24 := (t2.trans t3).trans t4
  refine ⟨[(key, y), (key', y')], ⟨X.is _ _ _ (r1.mono t24), rfl, X.is _ _ _ (r3.mono t4), rfl, trivial⟩, dk, fun h' dk' sb => ?_⟩
  have tk := F4.tkDm e4 sb
  have e5 : vmg [] [(key, w), (key', w')] = [(key, w), (key', w')] := by simp [vmg, vst, Ne.symm ne]
  have kr2 := (KR.mg (kvs := []) (ys := []) (more := [(key, w), (key', w')]) (zs := [(key, y), (key', y')]) ⟨rfl, .nil⟩ ⟨rfl, .cons (r2.mono (t3.trans t4)) (.cons r4 .nil)⟩).mono tk
  rw [e5] at kr2
  obtain ⟨F5, zz⟩ := F4.setDm (t := s4.toks + 2) e4 sb ((X.dr _ _ _).mpr ⟨sm, _, dk', kr2⟩)
  exact ⟨_, _, F5, ((ka.tk.trans t1).trans t24).trans tk, by simp only [VR], q⟩
-- small things
theorem op_isNone {v : V} {Q : V → FS → Prop} (h : Q (.bool (match v with | .none => true | _ => false)) fs) : OP2 C VR (compareOp .Is) v .none Q fs := fun R s x y F r r' => by
  simp only [VR] at r'; subst r'
  cases v with
  | none => simp only [VR] at r; subst r; exact is_none_none ⟨_, fs, F, TK.refl, by simp only [VR], h⟩
  | bool _ => simp only [VR] at r; subst r; exact is_none_ne (by simp) ⟨_, fs, F, TK.refl, by simp only [VR], h⟩
  | ref _ => simp only [VR] at r; subst r; exact is_none_ne (by simp) ⟨_, fs, F, TK.refl, by simp only [VR], h⟩
  | ty _ => simp only [VR] at r; subst r; exact is_none_ne (by simp) ⟨_, fs, F, TK.refl, by simp only [VR], h⟩
  | bi _ => simp only [VR] at r; subst r; exact is_none_ne (by simp) ⟨_, fs, F, TK.refl, by simp only [VR], h⟩
  | int _ => simp only [VR] at r; obtain ⟨_, rfl⟩ := r; exact is_none_ne (by simp) ⟨_, fs, F, TK.refl, by simp only [VR], h⟩
  | str _ => simp only [VR] at r; obtain ⟨_, rfl⟩ := r; exact is_none_ne (by simp) ⟨_, fs, F, TK.refl, by simp only [VR], h⟩
  | tup _ => simp only [VR] at r; obtain ⟨_, _, rfl, _⟩ := r; exact is_none_ne (by simp) ⟨_, fs, F, TK.refl, by simp only [VR], h⟩
theorem cl_abs {i : Int} {Q : V → FS → Prop} (h : Q (.int (if i < 0 then -i else i)) fs) : CL C (.builtin "abs") [.int i] Q fs := fun R s xs F r => by
  simp only [LR, VR] at r
  obtain ⟨zz, zz, rfl, ⟨t, rfl⟩, rfl⟩ := r
  exact call_abs_int fun u tk => ⟨_, fs, F.toks _, TK.refl, by simp only [VR]; exact ⟨_, rfl⟩, h⟩
theorem isi_int {i : Int} {Q : V → FS → Prop} (h : Q (.bool true) fs) : CL C (.builtin "isinstance") [.int i, .ty "int"] Q fs := fun R s xs F r => by
  simp only [LR, VR] at r
  obtain ⟨zz, zz, rfl, ⟨t, rfl⟩, zz, zz, rfl, rfl, rfl⟩ := r
  exact PySem.IsiPair.int_int ⟨_, fs, F, TK.refl, by simp only [VR], h⟩
theorem isi_bool {i : Int} {Q : V → FS → Prop} (h : Q (.bool false) fs) : CL C (.builtin "isinstance") [.int i, .ty "bool"] Q fs := fun R s xs F r => by
  simp only [LR, VR] at r
  obtain ⟨zz, zz, rfl, ⟨t, rfl⟩, zz, zz, rfl, rfl, rfl⟩ := r
  exact PySem.IsiPair.int_bool ⟨_, fs, F.toks _, TK.refl, by simp only [VR], h⟩
theorem isi_tup {vs : List V} {Q : V → FS → Prop} (h : Q (.bool true) fs) : CL C (.builtin "isinstance") [.tup vs, .ty "tuple"] Q fs := fun R s xs F r => by
  simp only [LR, VR] at r
  obtain ⟨zz, zz, rfl, ⟨t, items, rfl, ⟨o, ho, hc, zz⟩, zz⟩, zz, zz, rfl, rfl, rfl⟩ := r
  exact PySem.IsiPair.tuple_tuple ho hc ⟨_, fs, F, TK.refl, by simp only [VR], h⟩
theorem isi_tupInt {vs : List V} {Q : V → FS → Prop} (h : Q (.bool false) fs) : CL C (.builtin "isinstance") [.tup vs, .ty "int"] Q fs := fun R s xs F r => by
  simp only [LR, VR] at r
  obtain ⟨zz, zz, rfl, ⟨t, items, rfl, ⟨o, ho, hc, zz⟩, zz⟩, zz, zz, rfl, rfl, rfl⟩ := r
  exact PySem.IsiPair.tuple_int ho hc ⟨_, fs, F.toks _, TK.refl, by simp only [VR], h⟩
theorem cl_reprInt {i : Int} {Q : V → FS → Prop} (hi : i.natAbs < 1000) (h : Q (.str (toString i)) fs) : CL C (.builtin "repr") [.int i] Q fs := fun R s xs F r => by
  simp only [LR, VR] at r
  obtain ⟨zz, zz, rfl, ⟨t, rfl⟩, rfl⟩ := r
  refine PySem.P.repr_of_int ?_ ⟨_, fs, F.toks _, TK.refl, by simp only [VR]; exact ⟨_, rfl⟩, h⟩
  exact Nat.lt_of_le_of_lt (Nat.log2_le_self _) (by lia)
theorem cl_reprTrue {Q : V → FS → Prop} (h : Q (.str "True") fs) : CL C (.builtin "repr") [.bool true] Q fs := fun R s xs F r => by
  simp only [LR, VR] at r
  obtain ⟨zz, zz, rfl, rfl, rfl⟩ := r
  exact PySem.P.repr_of_bool ⟨_, fs, F.toks _, TK.refl, by simp only [VR]; exact ⟨_, rfl⟩, h⟩
theorem op_eqStr {x y : Str} {Q : V → FS → Prop} (h : Q (.bool (x == y)) fs) : OP2 C VR (compareOp .Eq) (.str x) (.str y) Q fs := fun R s a b F r r' => by
  simp only [VR] at r r'
  obtain ⟨t, rfl⟩ := r; obtain ⟨u, rfl⟩ := r'
  exact PyProof.Rows.eq_str ⟨_, fs, F, TK.refl, by simp only [VR], h⟩
theorem tv_chain2 {l r1 r2 : PySem.Expr} {op1 op2 : CmpOp} {pos : Pos} {Q : Bool → FS → Prop}
    (h : EV C l (fun a f1 => EV C r1 (fun b f2 => OP2 C VR (compareOp op1) a b (fun c f3 => ∃ p, c = .bool p ∧ (p = true → EV C r2 (fun e f4 => OP2 C VR (compareOp op2) b e (fun c2 f5 => ∃ p2, c2 = .bool p2 ∧ Q p2 f5) f4) f3) ∧ (p = false → Q false f3)) f2) f1) fs)
    (hm : lastMarks [op1, op2] [r1, r2] = false := by with_unfolding_all rfl) : TV C (.Compare l [op1, op2] [r1, r2] pos) Q fs := fun R s F => by
  refine isTrue_chain (wp_to (h R s F) fun a v f1 s1 F1 t1 ra q1 => ?_) hm
  refine test_link (wp_to (q1 R s1 F1) fun b w f2 s2 F2 t2 rb q2 => ?_)
  refine wp_to (q2 R s2 a b F2 (ra.mono t2) rb) fun c w3 f3 s3 F3 t3 rc q3 => ?_
  obtain ⟨p, rfl, q31, q32⟩ := q3
  simp only [VR] at rc; subst rc
  refine wpAny_truthy_bool ?_
  cases p with
  | false => exact ⟨false, f3, F3, (t1.trans t2).trans t3, rfl, q32 rfl⟩
  | true =>
    refine test_last ?_
    refine wp_to (q31 rfl R s3 F3) fun e w4 f4 s4 F4 t4 re q4 => ?_
    refine wp_to (q4 R s4 b e F4 ((rb.mono t3).mono t4) re) fun c2 w5 f5 s5 F5 t5 rc2 q5 => ?_
    obtain ⟨p2, rfl, q5⟩ := q5
    simp only [VR] at rc2; subst rc2
    exact wpAny_truthy_bool ⟨p2, f5, F5, (((t1.trans t2).trans t3).trans t4).trans t5, rfl, q5⟩
end
end
-- RP
noncomputable section
open PySem PySem.W PySem.Calls PyProof.Rows PySem.SeqAt
section
variable {C : Cx} {fs : FS} {R : Addr → Option Obj} {s : Shared} {d : Addr}
theorem xv_while {test : PySem.Expr} {body : List PySem.Stmt} {pos : Pos} {Q : Fw → FS → Prop} (Inv : Nat → FS → Prop) (n : Nat) (h0 : Inv n fs)
    (step : ∀ n f, Inv n f → TV C test (fun b f1 => (b = true → XS C body (fun fl f2 => match fl with | .next => ∃ m, m < n ∧ Inv m f2 | .cont => ∃ m, m < n ∧ Inv m f2 | .brk => Q .next f2 | .ret v => Q (.ret v) f2) f1) ∧ (b = false → Q .next f1)) f) :
    XV C (.While test body [] pos) Q fs := fun R s F => by
  refine wpAny_While (codeAny_whileLoop (fun k s' => ∃ f, FR C R f s' ∧ TK s.heap s'.heap ∧ Inv k f) ?_ n ⟨fs, F, TK.refl, h0⟩)
  rintro k s1 ⟨f, F1, t1, i1⟩
  refine wpAny_mono (step k f i1 R s1 F1) (fun b s2 z => ?_) fun zz zz z => z.elim
  obtain ⟨b', f2, F2, t2, rfl, q1, q2⟩ := z
  cases b with
  | false => exact wpAny_execs_nil ⟨.next, f2, F2, t1.trans t2, rfl, q2 rfl⟩
  | true =>
    refine wpAny_mono (q1 rfl R s2 F2) (fun fl s3 z => ?_) fun zz zz z => z.elim
    obtain ⟨fw, f3, F3, t3, r3, q3⟩ := z
    have t := (t1.trans t2).trans t3
    cases fw with
    | next => cases r3; obtain ⟨m, hm, q⟩ := q3; exact ⟨m, hm, f3, F3, t, q⟩
    | cont => cases r3; obtain ⟨m, hm, q⟩ := q3; exact ⟨m, hm, f3, F3, t, q⟩
    | brk => cases r3; exact ⟨.next, f3, F3, t, rfl, q3⟩
    | ret v => obtain ⟨x, rfl, r3⟩ := r3; exact ⟨.ret v, f3, F3, t, ⟨x, rfl, r3⟩, q3⟩
-- comprehensions
abbrev CE (C : Cx) (scope : Scope) (cl : List (Str × Addr)) (L : Addr) : Cx := ⟨C.W, C.A, compEnvC scope cl L C.env, false⟩
theorem FR.comp (F : FR C R fs s) {scope : Scope} {cl : List (Str × Addr)} {h₁ : Heap} {t : Nat} (hcl : ∀ x c, (x, c) ∈ cl → (x, c) ∈ C.env.cells) (nm : (cl.map (·.1)).Nodup)
    (sb : Heap.SameBut s.heap.objs.size (s.heap.push { cls := .type "dict", data := .dict #[] }) h₁) (hn : h₁.Ns s.heap.objs.size fun zz => none) :
    FR (CE C scope cl s.heap.objs.size) (Rp R C.env s.heap) ⟨[], fs.k, fs.σ⟩ { s with heap := h₁, toks := t } ∧ KeepAll s.heap h₁ := by
  have ka : KeepAll s.heap h₁ := fun b o e => (sb.2 b (Nat.ne_of_lt (Heap.lt_size e))).trans (Heap.get?_push_of_some _ e)
  have ownC : ∀ x c, (x, c) ∈ cl → own C.env c := fun x c m => .inr (List.mem_map_of_mem (f := (·.2)) (hcl x c m))
  refine ⟨F.enter (fn := false) (mv := fun zz => none) ka (get_size _) hn (fun x v e => by cases e) (fun x c m => ?_) (fun x c m => ?_) (fun x c m q => by cases q) ?_ nm, ka⟩
  · obtain ⟨v₀, i, e⟩ := F.cells x c (hcl x c m)
    exact ⟨v₀, i.keeps ka, opt_mono ka.tk e⟩
  · refine .inr ?_
    obtain ⟨o, ho, zz⟩ := F.ownAt (ownC x c m)
    rw [rp_own (ownC x c m), ho]; simp
  · refine List.Pairwise.imp_of_mem (R := fun x y => x.1 ≠ y.1) ?_ (List.pairwise_map.mp nm)
    intro x y hx hy ne e
    exact ne (name_of_addr F.apart (hcl x.1 x.2 hx) (e ▸ hcl y.1 y.2 hy))
theorem FR.uncomp (F : FR C R fs s) {scope : Scope} {cl : List (Str × Addr)} {f' : FS} {s' : Shared} {h' : Heap} (F' : FR (CE C scope cl s.heap.objs.size) (Rp R C.env s.heap) f' s') (tk : TK s.heap s'.heap)
    (sb : Heap.SameBut s.heap.objs.size s'.heap h') : FR C R { fs with σ := f'.σ } { s' with heap := h' } ∧ TK s'.heap h' := by
  have F2 := F.leave F' tk
  obtain ⟨h1, h2, zz⟩ := F.newHid (get_size s.heap)
  have nl : ¬ f'.σ.Live s.heap.objs.size := fun l => (F'.live l).1 (.inl rfl)
  have nt : NoTup s'.heap s.heap.objs.size := F'.ownNoTup (.inl rfl)
  exact F2.off (hid := [s.heap.objs.size]) (t := s'.toks) (fun a m => by simp at m; subst m; exact ⟨h1, h2, nl⟩) (fun a m => by simp at m; subst m; exact nt) (sb_keepOff sb)
theorem FR.nsC (F : FR C R fs s) : ∃ m, s.heap.Ns C.env.locals m := by obtain ⟨m, n, zz⟩ := F.loc; exact ⟨m, n⟩
abbrev TS (C : Cx) (ifs : List PySem.Expr) (Q : Bool → FS → Prop) (fs : FS) : Prop :=
  WP C BR (forIn ifs true fun c r => if r = true then do let ok ← isTrue c C.env (eval c C.env); pure (ForInStep.yield ok) else pure (ForInStep.yield r)) Q fs
theorem ts_nil {Q : Bool → FS → Prop} (h : Q true fs) : TS C [] Q fs := fun R s F => wpAny_tests_nil ⟨_, fs, F, TK.refl, rfl, h⟩
theorem ts_one {c : PySem.Expr} {Q : Bool → FS → Prop} (h : TV C c Q fs) : TS C [c] Q fs := fun R s F => wpAny_tests_one (h R s F)
theorem live_setLi {σ : HS} {D a : Addr} {x : List V} (l : (σ.setLi D x).Live a) (ne : a ≠ D) : σ.Live a := by
  cases l with
  | li e => exact .li (by simpa [HS.setLi, upd, ne] using e)
  | dm e => exact .dm e
  | ob e => exact .ob e
  | st e => exact .st e
theorem lc_core {x : Str} {px : Pos} {elt iter : PySem.Expr} {ifs : List PySem.Expr} {scope : Scope} {pos p2 : Pos} {cl : List (Str × Addr)} {use : Option (Value → Sem Unit)} {Q : Value → Shared → Prop} (Qf : Addr → FS → FS → Prop) (hh : C.A.handled = none) (F : FR C R fs s)
    (h : SR C iter (fun vs ok f => ∀ D, f.σ.Fresh D → ∃ Inv : Nat → FS → Prop, Inv 0 ⟨[], f.k, f.σ.setLi D []⟩ ∧
      (∀ i f', Inv i f' → ok f'.σ) ∧
      (∀ L i v f', vs[i]? = some v → Inv i f' → TS (CE C scope cl L) ifs (fun b f1 => (b = true → EV (CE C scope cl L) elt (fun w f2 => ∃ acc, f2.σ.li D = some acc ∧ acc.length ≤ 1000 ∧ Inv (i + 1) { f2 with σ := f2.σ.setLi D (acc ++ [w]) }) f1) ∧ (b = false → Inv (i + 1) f1)) { f' with m := (x, v) :: f'.m }) ∧
      (∀ f', Inv vs.length f' → Qf D { f with σ := f.σ.setLi D [] } f')) fs)
    (fin : ∀ D f f' s₂ s', FR C R f s₂ → FR (CE C scope cl s₂.heap.objs.size) (Rp R C.env s₂.heap) f' s' → TK s.heap s'.heap → TK s₂.heap s'.heap → Qf D f f' → compPost (Mo C) C.A (fun zz zz => False) use Q (.ref D) s₂.heap.objs.size (.ok .next) s')
    (hclos : closureFor scope C.env = pure cl) (hcl : ∀ x c, (x, c) ∈ cl → (x, c) ∈ C.env.cells) (nm : (cl.map (·.1)).Nodup) (hkind : scope.kind = .function) (hcell : ∀ z ∈ scope.names, z.2 ≠ .cell)
    (hnames : ∀ z ∈ scope.names, z.2 = .local → scope.names.lookup z.1 = some .local) (hx : scope.names.lookup x = some .local)
    (hs : ∀ x, foldedSetIterable iter C.env x = pure x) : wpAny (Mo C) C.A (comprehension (.ListComp elt [⟨.Name x px, iter, ifs, 0⟩] scope pos) scope C.env p2 (newList []) false (eval iter C.env) use) Q (fun zz zz => False) s := by
  refine wpAny_comprehension_free rfl hs hclos hkind hnames (h R s _ F fun it hid vs ok P s1 f I p F1 t1 n ok0 q => ?_)
  refine wpAny_newObj_type ?_ (by size_fits)
  have k2 := KeepAll.push s1.heap { cls := .type "list", data := .seq (#[] : Array Value) }
  obtain ⟨F2, fr⟩ := F1.newLi (t := s1.toks) (ws := []) k2 (get_size _) (LI.of_seq (Heap.get?_push_size _ rfl)) .nil
  obtain ⟨Inv, i0, iok, step, qf⟩ := q _ fr
  generalize hD : s1.heap.objs.size = D at *
  have p2' : P 0 (s1.heap.push { cls := .type "list", data := .seq (#[] : Array Value) }) := I.stable _ _ _ p (fun a zz o e => k2 a o e) k2.tk
  have n2 : ∀ a ∈ hid, R a = none ∧ ¬ own C.env a ∧ ¬ (f.σ.setLi D []).Live a := fun a m => by
    obtain ⟨h1, h2, h3⟩ := n a m
    obtain ⟨⟨o, ho⟩, zz⟩ := I.live _ _ p a m
    exact ⟨h1, h2, fun l => h3 (live_setLi l (by rw [← hD]; exact Nat.ne_of_lt (Heap.lt_size ho)))⟩
  refine wpAny_newFunctionEnv hcell (fun zz hz => by cases hz) (fun h3 hn3 sb3 => ?_) hkind
  generalize hs2 : ({ s1 with heap := s1.heap.push { cls := .type "list", data := .seq (#[] : Array Value) } } : Shared) = s2 at *
  have hh2 : s2.heap = s1.heap.push { cls := .type "list", data := .seq (#[] : Array Value) } := by rw [← hs2]
  rw [← hh2] at p2'
  replace sb3 : Heap.SameBut s2.heap.objs.size (s2.heap.push { cls := .type "dict", data := .dict #[] }) h3 := sb3
  replace hn3 : h3.Ns s2.heap.objs.size fun zz => none := hn3
  obtain ⟨F3, ka3⟩ := F2.comp (scope := scope) (t := s2.toks + 0) hcl nm sb3 hn3
  have t2 : TK s.heap s2.heap := by rw [hh2]; exact t1.trans k2.tk
  have n3 : ∀ a ∈ hid, Rp R C.env s2.heap a = none ∧ ¬ own (compEnvC scope cl s2.heap.objs.size C.env) a := fun a m => by
    obtain ⟨h1, h2, zz⟩ := n2 a m
    obtain ⟨⟨o, ho⟩, zz⟩ := I.live _ _ p2' a m
    refine ⟨by rw [rp_not h2]; exact h1, fun w => ?_⟩
    rcases w with w | w
    · rw [w] at ho; exact absurd (Heap.lt_size ho) (Nat.lt_irrefl _)
    · obtain ⟨⟨y, c⟩, hy, rfl⟩ := List.mem_map.mp w
      exact h2 (.inr (List.mem_map_of_mem (f := (·.2)) (hcl y c hy)))
  have p3 : P 0 h3 := I.stable _ _ _ p2' (fun a m o e => ka3 a o e) ka3.tk
  have F3h := F3.hide (hid := hid) fun a m => ⟨(n3 a m).1, (n3 a m).2, (n2 a m).2.2⟩
  have loop : codeAny (Mo C) C.A (.compLoop (.ListComp elt [⟨.Name x px, iter, ifs, 0⟩] scope pos) 0 (.ref it) (.ref D) (compEnvC scope cl s2.heap.objs.size C.env))
      (compPost (Mo C) C.A (fun zz zz => False) use Q (.ref D) s2.heap.objs.size) { s2 with heap := h3, toks := s2.toks + 0 } := by
    refine codeAny_compLoop_tests (LpI (CE C scope cl s2.heap.objs.size) (Rp R C.env s2.heap) hid vs P Inv s2.heap) ?_ vs.length
      ⟨0, _, F3h, ka3.tk, p3, i0, Nat.zero_le _, rfl⟩
    rintro k s4 ⟨i, f4, F4, t4, p4, i4, hi, rfl⟩
    have lv := I.live i s4.heap p4
    have nl := F4.hidden fun a m => (lv a m).1
    cases hv : vs[i]? with
    | none =>
      have : i = vs.length := Nat.le_antisymm hi (by simpa using hv)
      subst this
      refine I.done _ s4 f4.σ _ _ _ F4.hr (iok _ _ i4) p4 nl hh fun h' t' ko => ?_
      obtain ⟨G1, zz, tk⟩ := F4.turn F3.base n3 lv (t := t') ko
      exact fin D _ f4 s2 _ F2 G1 (t2.trans (t4.trans tk)) (t4.trans tk) (qf f4 i4)
    | some v =>
      have hlt : i < vs.length := (List.getElem?_eq_some_iff.mp hv).1
      refine I.next i v _ s4 f4.σ _ _ _ F4.hr (iok _ _ i4) p4 nl hv fun y h' t' ko p5 rx => ?_
      obtain ⟨zz, G1, tk⟩ := F4.turn F3.base n3 lv (t := t') ko
      have lv5 := I.live (i + 1) h' p5
      refine wpAny_mono (as_name (st_loc (C := CE C scope cl s2.heap.objs.size) (Q := fun zz f => f = { f4 with m := (x, v) :: f4.m }) rfl hkind (lookup_relabel_local hx)) _ _ y G1 rx) (fun zz s6 z => ?_) fun zz zz z => z.elim
      obtain ⟨zz, f6, F6, t6, zz, rfl⟩ := z
      have back : ∀ f7 s7, FR (CE C scope cl s2.heap.objs.size) (Rh (Rp R C.env s2.heap) hid h') f7 s7 → TK h' s7.heap → Inv (i + 1) f7 →
          ∃ m, m < vs.length - i ∧ LpI (CE C scope cl s2.heap.objs.size) (Rp R C.env s2.heap) hid vs P Inv s2.heap m s7 := fun f7 s7 F7 t7 i7 => by
        obtain ⟨F8, e8⟩ := FR.rh (s := { s4 with heap := h', toks := t' }) G1 F7 fun a m => (lv5 a m).1
        exact ⟨_, by omega, i + 1, f7, F8, (t4.trans tk).trans t7, I.stable _ _ _ p5 (fun a m o ho => (e8 a m).trans ho) t7, i7, hlt, rfl⟩
      refine wpAny_mono (step _ i v f4 hv i4 _ s6 F6) (fun b s7 z => ?_) fun zz zz z => z.elim
      obtain ⟨b', f7, F7, t7, rfl, q1, q2⟩ := z
      cases b with
      | false => exact back f7 s7 F7 (t6.trans t7) (q2 rfl)
      | true =>
        refine wpAny_mono (q1 rfl _ s7 F7) (fun w s8 z => ?_) fun zz zz z => z.elim
        obtain ⟨w', f8, F8, t8, r8, acc, ea, hz, i8⟩ := z
        refine wpAny_mono (cl_append (C := CE C scope cl s2.heap.objs.size) (Q := fun v f => f = { f8 with σ := f8.σ.setLi D (acc ++ [w']) }) (v := w') ea hz rfl _ s8 [.ref D, w] F8 (.cons (by simp only [VR]) (.cons r8 .nil))) (fun zz s9 z => ?_) fun zz zz z => z.elim
        obtain ⟨zz, f9, F9, t9, zz, rfl⟩ := z
        exact back _ s9 F9 (((t6.trans t7).trans t8).trans t9) i8
  exact codeAny_compStart_list loop (I.self 0 _ _ _ _ p3 loop)
theorem ev_lc {x : Str} {px : Pos} {elt iter : PySem.Expr} {ifs : List PySem.Expr} {scope : Scope} {pos : Pos} {cl : List (Str × Addr)} {Q : V → FS → Prop} (hh : C.A.handled = none)
    (h : SR C iter (fun vs ok f => ∀ D, f.σ.Fresh D → ∃ Inv : Nat → FS → Prop, Inv 0 ⟨[], f.k, f.σ.setLi D []⟩ ∧
      (∀ i f', Inv i f' → ok f'.σ) ∧
      (∀ L i v f', vs[i]? = some v → Inv i f' → TS (CE C scope cl L) ifs (fun b f1 => (b = true → EV (CE C scope cl L) elt (fun w f2 => ∃ acc, f2.σ.li D = some acc ∧ acc.length ≤ 1000 ∧ Inv (i + 1) { f2 with σ := f2.σ.setLi D (acc ++ [w]) }) f1) ∧ (b = false → Inv (i + 1) f1)) { f' with m := (x, v) :: f'.m }) ∧
      (∀ f', Inv vs.length f' → Q (.ref D) { f with σ := f'.σ })) fs)
    (hclos : closureFor scope C.env = pure cl) (hcl : ∀ x c, (x, c) ∈ cl → (x, c) ∈ C.env.cells) (nm : (cl.map (·.1)).Nodup) (hkind : scope.kind = .function := by rfl) (hcell : ∀ z ∈ scope.names, z.2 ≠ .cell := by decide)
    (hnames : ∀ z ∈ scope.names, z.2 = .local → scope.names.lookup z.1 = some .local := by decide) (hx : scope.names.lookup x = some .local := by rfl)
    (hs : ∀ x, foldedSetIterable iter C.env x = pure x := by intro _; rfl) : EV C (.ListComp elt [⟨.Name x px, iter, ifs, 0⟩] scope pos) Q fs := fun R s F => by
  show wpAny (Mo C) C.A (comprehension (.ListComp elt [⟨.Name x px, iter, ifs, 0⟩] scope pos) scope C.env _ (newList []) false (eval iter C.env)) _ _ s
  refine lc_core (fun D f f' => Q (.ref D) { f with σ := f'.σ }) hh F h (fun D f f' s₂ s' F2 F' ts ts2 q => ?_) hclos hcl nm hkind hcell hnames hx hs
  obtain ⟨m, n⟩ := F'.nsC
  refine ⟨m, n, fun h' sb => ?_⟩
  obtain ⟨G, tk⟩ := F2.uncomp F' ts2 sb
  exact ⟨_, _, G, ts.trans tk, by simp only [VR], q⟩
theorem xv_lc {x y : Str} {px py : Pos} {elt iter : PySem.Expr} {ifs : List PySem.Expr} {scope : Scope} {pos spos : Pos} {cl : List (Str × Addr)} {Q : Fw → FS → Prop} (hh : C.A.handled = none)
    (h : SR C iter (fun vs ok f => ∀ D, f.σ.Fresh D → ∃ Inv : Nat → FS → Prop, Inv 0 ⟨[], f.k, f.σ.setLi D []⟩ ∧
      (∀ i f', Inv i f' → ok f'.σ) ∧
      (∀ L i v f', vs[i]? = some v → Inv i f' → TS (CE C scope cl L) ifs (fun b f1 => (b = true → EV (CE C scope cl L) elt (fun w f2 => ∃ acc, f2.σ.li D = some acc ∧ acc.length ≤ 1000 ∧ Inv (i + 1) { f2 with σ := f2.σ.setLi D (acc ++ [w]) }) f1) ∧ (b = false → Inv (i + 1) f1)) { f' with m := (x, v) :: f'.m }) ∧
      (∀ f', Inv vs.length f' → Q .next { m := (y, .ref D) :: f.m, k := f.k, σ := f'.σ })) fs)
    (hclos : closureFor scope C.env = pure cl) (hcl : ∀ x c, (x, c) ∈ cl → (x, c) ∈ C.env.cells) (nm : (cl.map (·.1)).Nodup)
    (hsw : swapsWith (.ListComp elt [⟨.Name x px, iter, ifs, 0⟩] scope pos) (some (.Name y py)) spos.line C.env = pure true := by with_unfolding_all rfl)
    (hkind : scope.kind = .function := by rfl) (hcell : ∀ z ∈ scope.names, z.2 ≠ .cell := by decide)
    (hnames : ∀ z ∈ scope.names, z.2 = .local → scope.names.lookup z.1 = some .local := by decide) (hx : scope.names.lookup x = some .local := by rfl)
    (hs : ∀ x, foldedSetIterable iter C.env x = pure x := by intro _; rfl) (hk : C.env.scope.kind = .function := by rfl) (hy : C.env.kindOf y = some .local := by rfl) :
    XV C (.Assign [.Name y py] (.ListComp elt [⟨.Name x px, iter, ifs, 0⟩] scope pos) spos) Q fs := fun R s F => by
  rw [exec_Assign_Name_used _ _ _ _ hsw]
  refine wpAny_bind (wpAny_standAt (wpAny_bind ?_))
  show wpAny _ C.A (do let _ ← comprehension (.ListComp elt [⟨.Name x px, iter, ifs, 0⟩] scope pos) scope C.env _ (newList []) false (eval iter C.env) (some (assign (.Name y py) C.env))) _ _ s
  refine wpAny_bind (wpAny_mono (lc_core (Q := fun zz s' => PO C R s FwR Q .next s') (fun D f f' => Q .next { m := (y, .ref D) :: f.m, k := f.k, σ := f'.σ }) hh F h (fun D f f' s₂ s' F2 F' ts ts2 q => ?_) hclos hcl nm hkind hcell hnames hx hs)
    (fun zz s' hq => wpAny_pure (wpAny_pure hq)) fun zz zz z => z)
  have G := F2.leave F' ts2
  obtain ⟨h1, h2, zz⟩ := F2.newHid (get_size s₂.heap)
  have nl : ¬ f'.σ.Live s₂.heap.objs.size := fun l => (F'.live l).1 (.inl rfl)
  obtain ⟨m, nsl⟩ := F'.nsC
  have nt : NoTup s'.heap s₂.heap.objs.size := F'.ownNoTup (.inl rfl)
  have Gh := G.hide (hid := [s₂.heap.objs.size]) fun a m => by simp at m; subst m; exact ⟨h1, h2, nl⟩
  obtain ⟨oL, esL, epL, hoL, rL⟩ := id nsl
  have lv : ∀ a ∈ [s₂.heap.objs.size], ∃ o, s'.heap.get? a = some o := fun a m => by simp at m; subst m; exact ⟨oL, hoL⟩
  refine wpAny_mono (as_name (st_loc (C := C) (Q := fun zz g => g = { m := (y, .ref D) :: f.m, k := f.k, σ := f'.σ }) rfl hk hy) _ s' _ Gh (v := .ref D) (by simp only [VR])) (fun zz s3 z => ?_) fun zz zz z => z.elim
  obtain ⟨zz, g, G3, t3, zz, rfl⟩ := z
  have keep3 : ∀ a ∈ [s₂.heap.objs.size], s3.heap.get? a = s'.heap.get? a := (FR.rh Gh G3 lv).2
  have nt3 : NoTup s3.heap s₂.heap.objs.size := noTup_dict ((keep3 _ (by simp)).trans hoL) rL.1
  have G4 := (FR.rh Gh G3 lv).1.unhide F2.base (fun a m => by simp at m; subst m; exact h1) fun a m => by
    obtain ⟨o, ho⟩ := lv a m; exact ⟨o, (keep3 a m).trans ho⟩
  refine ⟨m, ⟨oL, esL, epL, (keep3 _ (by simp)).trans hoL, rL⟩, fun h' sb => ?_⟩
  obtain ⟨G5, tk5⟩ := G4.off (hid := [s₂.heap.objs.size]) (t := s3.toks) (fun a m => by simp at m; subst m; exact ⟨h1, h2, nl⟩) (fun a m => by simp at m; subst m; exact nt3) (sb_keepOff sb)
  exact ⟨.next, _, G5, (ts.trans t3).trans tk5, rfl, q⟩
end
end
-- RQ
noncomputable section
open PySem PySem.W PySem.Calls PyProof.Rows PySem.SeqAt
theorem compTurn_two0 (elt t1 i1 t2 i2 : PySem.Expr) (ifs : List PySem.Expr) (scope : Scope) (pos : Pos) (it acc : Value) (env : Env) :
    compTurn (.ListComp elt [⟨t1, i1, [], 0⟩, ⟨t2, i2, ifs, 0⟩] scope pos) 0 it acc env = (do
      standAt i1.pos
      match ← pyNext it with
      | none => pure (.done .next)
      | some v =>
        letOwnedTupleGo t1 it v
        assign t1 env v
        let x ← eval i2 env
        standAt i2.pos
        let x ← foldedSetIterable i2 env x
        let _ ← runOwn (.compStart (.ListComp elt [⟨t1, i1, [], 0⟩, ⟨t2, i2, ifs, 0⟩] scope pos) 1 (← holding [x] (pyIter x)) acc env) env
        again (.compLoop (.ListComp elt [⟨t1, i1, [], 0⟩, ⟨t2, i2, ifs, 0⟩] scope pos) 0 it acc env)) := by rfl
theorem compTurn_two1 (elt t1 i1 t2 i2 : PySem.Expr) (ifs : List PySem.Expr) (scope : Scope) (pos : Pos) (it acc : Value) (env : Env) :
    compTurn (.ListComp elt [⟨t1, i1, [], 0⟩, ⟨t2, i2, ifs, 0⟩] scope pos) 1 it acc env = (do
      standAt i2.pos
      match ← pyNext it with
      | none => pure (.done .next)
      | some v =>
        letOwnedTupleGo t2 it v
        assign t2 env v
        let mut ok := true
        for c in ifs do
          if ok then ok ← isTrue c env (eval c env)
        if ok then
          (do let _ ← call (.builtin "list.append") [acc, ← eval elt env])
        again (.compLoop (.ListComp elt [⟨t1, i1, [], 0⟩, ⟨t2, i2, ifs, 0⟩] scope pos) 1 it acc env)) := by rfl
section
variable {C : Cx} {fs : FS} {R : Addr → Option Obj} {s : Shared} {d : Addr}
theorem lc_inner {x1 x : Str} {px1 px : Pos} {elt i1 i2 : PySem.Expr} {ifs : List PySem.Expr} {scope : Scope} {pos : Pos} {D : Addr} {it : Addr} {hid : List Addr} {vs : List V} {ok : HS → Prop} {P : Nat → Heap → Prop} {f : FS} {Fin : FS → Prop}
    (hh : C.A.handled = none) (hk : C.env.scope.kind = .function) (hl : C.env.kindOf x = some .local) (I : ItOK C.W it hid vs ok P) (F : FR C R f s) (n : ∀ a ∈ hid, R a = none ∧ ¬ own C.env a ∧ ¬ f.σ.Live a) (p : P 0 s.heap)
    (Inv : Nat → FS → Prop) (i0 : Inv 0 f) (iok : ∀ i f', Inv i f' → ok f'.σ)
    (step : ∀ i v f', vs[i]? = some v → Inv i f' → TS C ifs (fun b f1 => (b = true → EV C elt (fun w f2 => ∃ acc, f2.σ.li D = some acc ∧ acc.length ≤ 1000 ∧ Inv (i + 1) { f2 with σ := f2.σ.setLi D (acc ++ [w]) }) f1) ∧ (b = false → Inv (i + 1) f1)) { f' with m := (x, v) :: f'.m })
    (fin : ∀ f', Inv vs.length f' → Fin f') :
    codeAny (Mo C) C.A (.compLoop (.ListComp elt [⟨.Name x1 px1, i1, [], 0⟩, ⟨.Name x px, i2, ifs, 0⟩] scope pos) 1 (.ref it) (.ref D) C.env) (fun r s' => match r with | .ok _ => ∃ f', FR C R f' s' ∧ TK s.heap s'.heap ∧ Fin f' | .error _ => False) s := by
  have n2 : ∀ a ∈ hid, R a = none ∧ ¬ own C.env a := fun a m => ⟨(n a m).1, (n a m).2.1⟩
  refine codeAny_loop rfl (LpI C R hid vs P Inv s.heap) ?_ vs.length
    ⟨0, f, F.hide n, TK.refl, p, i0, Nat.zero_le _, rfl⟩
  rintro k s4 ⟨i, f4, F4, t4, p4, i4, hi, rfl⟩
  show wpAny _ C.A ((compTurn (.ListComp elt [⟨.Name x1 px1, i1, [], 0⟩, ⟨.Name x px, i2, ifs, 0⟩] scope pos) 1 (.ref it) (.ref D) C.env).onRaise (fun x => do noteFrame x C.env; theTreesLotGoes x)) _ _ s4
  refine wpAny_mono (E' := fun zz zz => False) (wpAny_noted (E := fun zz zz => False) ?_) (fun zz zz z => z) fun zz zz z => z.elim
  rw [compTurn_two1]
  have lv := I.live i s4.heap p4
  have nl := F4.hidden fun a m => (lv a m).1
  refine wpAny_mono (E := fun zz zz => False) ?_ (fun zz zz z => z) fun zz zz z => z.elim
  refine wpAny_bind (wpAny_standAt (wpAny_bind ?_))
  cases hv : vs[i]? with
  | none =>
    have : i = vs.length := Nat.le_antisymm hi (by simpa using hv)
    subst this
    refine I.done _ s4 f4.σ _ _ _ F4.hr (iok _ _ i4) p4 nl hh fun h' t' ko => ?_
    obtain ⟨G1, zz, tk⟩ := F4.turn F.base n2 lv (t := t') ko
    exact wpAny_pure ⟨f4, G1, t4.trans tk, fin f4 i4⟩
  | some v =>
    have hlt : i < vs.length := (List.getElem?_eq_some_iff.mp hv).1
    refine I.next i v _ s4 f4.σ _ _ _ F4.hr (iok _ _ i4) p4 nl hv fun y h' t' ko p5 rx => ?_
    obtain ⟨zz, G1, tk⟩ := F4.turn F.base n2 lv (t := t') ko
    have lv5 := I.live (i + 1) h' p5
    refine wpAny_bind (wpAny_of_eq (a := ()) rfl (wpAny_bind ?_))
    refine wpAny_mono (as_name (st_loc (C := C) (Q := fun zz f => f = { f4 with m := (x, v) :: f4.m }) rfl hk hl) _ _ y G1 rx) (fun zz s6 z => ?_) fun zz zz z => z.elim
    obtain ⟨zz, f6, F6, t6, zz, rfl⟩ := z
    have back : ∀ f7 s7, FR C (Rh R hid h') f7 s7 → TK h' s7.heap → Inv (i + 1) f7 →
        ∃ m, m < vs.length - i ∧ LpI C R hid vs P Inv s.heap m s7 := fun f7 s7 F7 t7 i7 => by
      obtain ⟨F8, e8⟩ := FR.rh (s := { s4 with heap := h', toks := t' }) G1 F7 fun a m => (lv5 a m).1
      exact ⟨_, by lia, i + 1, f7, F8, (t4.trans tk).trans t7, I.stable _ _ _ p5 (fun a m o ho => (e8 a m).trans ho) t7, i7, hlt, rfl⟩
    refine wpAny_bind (wpAny_mono (step i v f4 hv i4 _ s6 F6) (fun b s7 z => ?_) fun zz zz z => z.elim)
    obtain ⟨b', f7, F7, t7, rfl, q1, q2⟩ := z
    cases b with
    | false => exact wpAny_pure ⟨rfl, back f7 s7 F7 (t6.trans t7) (q2 rfl)⟩
    | true =>
      refine wpAny_bind (wpAny_bind (wpAny_mono (q1 rfl _ s7 F7) (fun w s8 z => ?_) fun zz zz z => z.elim))
      obtain ⟨w', f8, F8, t8, r8, acc, ea, hz, i8⟩ := z
      refine wpAny_bind (wpAny_mono (cl_append (C := C) (Q := fun v f => f = { f8 with σ := f8.σ.setLi D (acc ++ [w']) }) (v := w') ea hz rfl _ s8 [.ref D, w] F8 (.cons (by simp only [VR]) (.cons r8 .nil))) (fun zz s9 z => ?_) fun zz zz z => z.elim)
      obtain ⟨zz, f9, F9, t9, zz, rfl⟩ := z
      exact wpAny_pure (wpAny_pure ⟨rfl, back _ s9 F9 (((t6.trans t7).trans t8).trans t9) i8⟩)
theorem codeAny_compStart1 {prog : Program} {w : World} {A : Around} {elt : PySem.Expr} {g1 : Comprehension} {target iter : PySem.Expr} {ifs : List PySem.Expr} {scope : Scope} {pos : Pos} {it acc : Value} {env : Env} {R' : Result → Shared → Prop} {s : Shared}
    (h0 : codeAny (model prog w) A (.compLoop (.ListComp elt [g1, ⟨target, iter, ifs, 0⟩] scope pos) 1 it acc env) R' s)
    (h : wpAny (model prog w) A (pyIter it) (fun it' s' => codeAny (model prog w) A (.compLoop (.ListComp elt [g1, ⟨target, iter, ifs, 0⟩] scope pos) 1 it' acc env) R' s') (notedBy (model prog w) A env fun x s' => R' (.error x) s') s) :
    codeAny (model prog w) A (.compStart (.ListComp elt [g1, ⟨target, iter, ifs, 0⟩] scope pos) 1 it acc env) R' s := by
  refine codeAny_of_tree ?_
  show wpAny _ _ ((compStart (.ListComp elt [g1, ⟨target, iter, ifs, 0⟩] scope pos) 1 it acc env).onRaise (fun x => do noteFrame x env; standAt theWindowsPlace)) _ _ s
  refine wpAny_notedAt ?_
  unfold compStart
  show wpAny _ _ (ask >>= _) _ _ s
  refine wpAny_bind (wpAny_askSetting (wpAny_ite ?_))
  split
  · first
      | exact wpAny_bind (wpAny_pure (wpAny_pure (And.intro rfl h0)))
      | exact wpAny_pure (And.intro rfl h0)
  · first
      | exact wpAny_bind (wpAny_rule (wpAny_bind (wpAny_standAt (wpAny_bind (wpAny_mono h (fun it' s' h' => wpAny_pure (And.intro rfl h')) fun zz zz x => x)))))
      | (refine wpAny_bind (wpAny_rule ?_); show wpAny _ _ (standAt iter.pos >>= _) _ _ s; exact wpAny_bind (wpAny_standAt (wpAny_bind (wpAny_mono h (fun it' s' h' => wpAny_pure (And.intro rfl h')) fun zz zz x => x))))
end
section
variable {C : Cx} {fs : FS} {R : Addr → Option Obj} {s : Shared} {d : Addr}
theorem ev_lc2 {x x2 : Str} {px px2 : Pos} {elt iter iter2 : PySem.Expr} {ifs : List PySem.Expr} {scope : Scope} {pos : Pos} {cl : List (Str × Addr)} {Q : V → FS → Prop} (hh : C.A.handled = none)
    (h : SR C iter (fun vs ok f => ∀ D, f.σ.Fresh D → ∃ Inv : Nat → FS → Prop, Inv 0 ⟨[], f.k, f.σ.setLi D []⟩ ∧
      (∀ i f', Inv i f' → ok f'.σ) ∧
      (∀ L i v f', vs[i]? = some v → Inv i f' → EV (CE C scope cl L) iter2 (fun v2 f1 => SV (CE C scope cl L) v2 (fun ws ok2 f1 => ∃ J : Nat → FS → Prop, J 0 f1 ∧ (∀ j f2, J j f2 → ok2 f2.σ) ∧
        (∀ j w f2, ws[j]? = some w → J j f2 → TS (CE C scope cl L) ifs (fun b f3 => (b = true → EV (CE C scope cl L) elt (fun w f4 => ∃ acc, f4.σ.li D = some acc ∧ acc.length ≤ 1000 ∧ J (j + 1) { f4 with σ := f4.σ.setLi D (acc ++ [w]) }) f3) ∧ (b = false → J (j + 1) f3)) { f2 with m := (x2, w) :: f2.m }) ∧
        (∀ f2, J ws.length f2 → Inv (i + 1) f2)) f1) { f' with m := (x, v) :: f'.m }) ∧
      (∀ f', Inv vs.length f' → Q (.ref D) { f with σ := f'.σ })) fs)
    (hclos : closureFor scope C.env = pure cl) (hcl : ∀ x c, (x, c) ∈ cl → (x, c) ∈ C.env.cells) (nm : (cl.map (·.1)).Nodup) (hkind : scope.kind = .function := by rfl) (hcell : ∀ z ∈ scope.names, z.2 ≠ .cell := by decide)
    (hnames : ∀ z ∈ scope.names, z.2 = .local → scope.names.lookup z.1 = some .local := by decide) (hx : scope.names.lookup x = some .local := by rfl) (hx2 : scope.names.lookup x2 = some .local := by rfl)
    (hs : ∀ x, foldedSetIterable iter C.env x = pure x := by intro _; rfl) (hfo2 : ∀ env x, foldedSetIterable iter2 env x = pure x := by intro _ _; rfl) :
    EV C (.ListComp elt [⟨.Name x px, iter, [], 0⟩, ⟨.Name x2 px2, iter2, ifs, 0⟩] scope pos) Q fs := fun R s F => by
  show wpAny (Mo C) C.A (comprehension (.ListComp elt [⟨.Name x px, iter, [], 0⟩, ⟨.Name x2 px2, iter2, ifs, 0⟩] scope pos) scope C.env _ (newList []) false (eval iter C.env)) _ _ s
  refine wpAny_comprehension_free rfl hs hclos hkind hnames (h R s _ F fun it hid vs ok P s1 f I p F1 t1 n ok0 q => ?_)
  refine wpAny_newObj_type ?_ (by size_fits)
  have k2 := KeepAll.push s1.heap { cls := .type "list", data := .seq (#[] : Array Value) }
  obtain ⟨F2, fr⟩ := F1.newLi (t := s1.toks) (ws := []) k2 (get_size _) (LI.of_seq (Heap.get?_push_size _ rfl)) .nil
  obtain ⟨Inv, i0, iok, step, qf⟩ := q _ fr
  generalize hD : s1.heap.objs.size = D at *
  have p2' : P 0 (s1.heap.push { cls := .type "list", data := .seq (#[] : Array Value) }) := I.stable _ _ _ p (fun a zz o e => k2 a o e) k2.tk
  have n2 : ∀ a ∈ hid, R a = none ∧ ¬ own C.env a ∧ ¬ (f.σ.setLi D []).Live a := fun a m => by
    obtain ⟨h1, h2, h3⟩ := n a m
    obtain ⟨⟨o, ho⟩, zz⟩ := I.live _ _ p a m
    exact ⟨h1, h2, fun l => h3 (live_setLi l (by rw [← hD]; exact Nat.ne_of_lt (Heap.lt_size ho)))⟩
  refine wpAny_newFunctionEnv hcell (fun zz hz => by cases hz) (fun h3 hn3 sb3 => ?_) hkind
  generalize hs2 : ({ s1 with heap := s1.heap.push { cls := .type "list", data := .seq (#[] : Array Value) } } : Shared) = s2 at *
  have hh2 : s2.heap = s1.heap.push { cls := .type "list", data := .seq (#[] : Array Value) } := by rw [← hs2]
  rw [← hh2] at p2'
  replace sb3 : Heap.SameBut s2.heap.objs.size (s2.heap.push { cls := .type "dict", data := .dict #[] }) h3 := sb3
  replace hn3 : h3.Ns s2.heap.objs.size fun zz => none := hn3
  obtain ⟨F3, ka3⟩ := F2.comp (scope := scope) (t := s2.toks + 0) hcl nm sb3 hn3
  have t2 : TK s.heap s2.heap := by rw [hh2]; exact t1.trans k2.tk
  have n3 : ∀ a ∈ hid, Rp R C.env s2.heap a = none ∧ ¬ own (compEnvC scope cl s2.heap.objs.size C.env) a := fun a m => by
    obtain ⟨h1, h2, zz⟩ := n2 a m
    obtain ⟨⟨o, ho⟩, zz⟩ := I.live _ _ p2' a m
    refine ⟨by rw [rp_not h2]; exact h1, fun w => ?_⟩
    rcases w with w | w
    · rw [w] at ho; exact absurd (Heap.lt_size ho) (Nat.lt_irrefl _)
    · obtain ⟨⟨y, c⟩, hy, rfl⟩ := List.mem_map.mp w
      exact h2 (.inr (List.mem_map_of_mem (f := (·.2)) (hcl y c hy)))
  have p3 : P 0 h3 := I.stable _ _ _ p2' (fun a m o e => ka3 a o e) ka3.tk
  have F3h := F3.hide (hid := hid) fun a m => ⟨(n3 a m).1, (n3 a m).2, (n2 a m).2.2⟩
  have loop : codeAny (Mo C) C.A (.compLoop (.ListComp elt [⟨.Name x px, iter, [], 0⟩, ⟨.Name x2 px2, iter2, ifs, 0⟩] scope pos) 0 (.ref it) (.ref D) (compEnvC scope cl s2.heap.objs.size C.env))
      (compPost (Mo C) C.A (fun zz zz => False) none (PO C R s VR Q) (.ref D) s2.heap.objs.size) { s2 with heap := h3, toks := s2.toks + 0 } := by
    refine codeAny_loop rfl (LpI (CE C scope cl s2.heap.objs.size) (Rp R C.env s2.heap) hid vs P Inv s2.heap) ?_ vs.length
      ⟨0, _, F3h, ka3.tk, p3, i0, Nat.zero_le _, rfl⟩
    rintro k s4 ⟨i, f4, F4, t4, p4, i4, hi, rfl⟩
    show wpAny _ C.A ((compTurn (.ListComp elt [⟨.Name x px, iter, [], 0⟩, ⟨.Name x2 px2, iter2, ifs, 0⟩] scope pos) 0 (.ref it) (.ref D) (compEnvC scope cl s2.heap.objs.size C.env)).onRaise (fun x => do noteFrame x (compEnvC scope cl s2.heap.objs.size C.env); theTreesLotGoes x)) _ _ s4
    refine wpAny_mono (E := fun zz zz => False) (wpAny_noted (E := fun zz zz => False) ?_) (fun zz zz z => z) fun zz zz z => z.elim
    rw [compTurn_two0]
    refine wpAny_mono (E := fun zz zz => False) ?_ (fun zz zz z => z) fun zz zz z => z.elim
    refine wpAny_bind (wpAny_standAt (wpAny_bind ?_))
    have lv := I.live i s4.heap p4
    have nl := F4.hidden fun a m => (lv a m).1
    cases hv : vs[i]? with
    | none =>
      have : i = vs.length := Nat.le_antisymm hi (by simpa using hv)
      subst this
      refine I.done _ s4 f4.σ _ _ _ F4.hr (iok _ _ i4) p4 nl hh fun h' t' ko => ?_
      obtain ⟨G1, zz, tk⟩ := F4.turn F3.base n3 lv (t := t') ko
      refine wpAny_pure ?_
      obtain ⟨m, nsl⟩ := G1.nsC
      refine ⟨m, nsl, fun h'' sb => ?_⟩
      obtain ⟨G, tk'⟩ := F2.uncomp G1 (t4.trans tk) sb
      exact ⟨_, _, G, (t2.trans (t4.trans tk)).trans tk', by simp only [VR], qf f4 i4⟩
    | some v =>
      have hlt : i < vs.length := (List.getElem?_eq_some_iff.mp hv).1
      refine I.next i v _ s4 f4.σ _ _ _ F4.hr (iok _ _ i4) p4 nl hv fun y h' t' ko p5 rx => ?_
      obtain ⟨zz, G1, tk⟩ := F4.turn F3.base n3 lv (t := t') ko
      have lv5 := I.live (i + 1) h' p5
      refine wpAny_bind (wpAny_of_eq (a := ()) rfl (wpAny_bind ?_))
      refine wpAny_mono (as_name (st_loc (C := CE C scope cl s2.heap.objs.size) (Q := fun zz f => f = { f4 with m := (x, v) :: f4.m }) rfl hkind (lookup_relabel_local hx)) _ _ y G1 rx) (fun zz s6 z => ?_) fun zz zz z => z.elim
      obtain ⟨zz, f6, F6, t6, zz, rfl⟩ := z
      have back : ∀ f7 s7, FR (CE C scope cl s2.heap.objs.size) (Rh (Rp R C.env s2.heap) hid h') f7 s7 → TK h' s7.heap → Inv (i + 1) f7 →
          ∃ m, m < vs.length - i ∧ LpI (CE C scope cl s2.heap.objs.size) (Rp R C.env s2.heap) hid vs P Inv s2.heap m s7 := fun f7 s7 F7 t7 i7 => by
        obtain ⟨F8, e8⟩ := FR.rh (s := { s4 with heap := h', toks := t' }) G1 F7 fun a m => (lv5 a m).1
        exact ⟨_, by lia, i + 1, f7, F8, (t4.trans tk).trans t7, I.stable _ _ _ p5 (fun a m o ho => (e8 a m).trans ho) t7, i7, hlt, rfl⟩
      refine wpAny_bind (wpAny_mono (step _ i v f4 hv i4 _ s6 F6) (fun xv s7 z => ?_) fun zz zz z => z.elim)
      obtain ⟨v2, f7, F7, t7, r7, sv⟩ := z
      refine wpAny_bind (wpAny_standAt (wpAny_bind (wpAny_of_eq (hfo2 _ xv) (wpAny_bind (wpAny_holding ?_)))))
      refine sv _ s7 xv _ F7 r7 fun it2 hid2 ws ok2 P2 h8 t8 I2 p8 ka8 fr8 ok8 q8 => ?_
      obtain ⟨J, j0, jok, jstep, jfin⟩ := q8
      have F8 := F7.keeps (t := t8) ka8
      have n8 : ∀ a ∈ hid2, Rh (Rp R C.env s2.heap) hid h' a = none ∧ ¬ own (compEnvC scope cl s2.heap.objs.size C.env) a ∧ ¬ f7.σ.Live a := fun a m => F7.newHid (fr8 a m)
      have inner := lc_inner (C := CE C scope cl s2.heap.objs.size) (x1 := x) (px1 := px) (px := px2) (i1 := iter) (i2 := iter2) (elt := elt) (scope := scope) (pos := pos) (D := D) (ifs := ifs) (Fin := fun f2 => Inv (i + 1) f2) hh hkind (lookup_relabel_local hx2) I2 F8 n8 p8 J j0 jok jstep jfin
      have ro : wpAny (Mo C) C.A (runOwn (.compStart (.ListComp elt [⟨.Name x px, iter, [], 0⟩, ⟨.Name x2 px2, iter2, ifs, 0⟩] scope pos) 1 (.ref it2) (.ref D) (compEnvC scope cl s2.heap.objs.size C.env)) (compEnvC scope cl s2.heap.objs.size C.env))
          (fun zz s' => ∃ f', FR (CE C scope cl s2.heap.objs.size) (Rh (Rp R C.env s2.heap) hid h') f' s' ∧ TK h8 s'.heap ∧ Inv (i + 1) f') (fun zz zz => False) { s7 with heap := h8, toks := t8 } := by
        refine wpAny_runOwn (codeAny_mono (codeAny_compStart1 inner (I2.self 0 _ _ _ _ p8 inner)) fun r s' z => ?_)
        cases r with
        | ok f => exact z
        | error e => exact z.elim
      refine wpAny_bind (wpAny_mono ro (fun zz s9 z => ?_) fun zz zz z => z)
      obtain ⟨f9, F9, t9, i9⟩ := z
      exact wpAny_pure ⟨rfl, back f9 s9 F9 (((t6.trans t7).trans ka8.tk).trans t9) i9⟩
  exact codeAny_compStart_list loop (I.self 0 _ _ _ _ p3 loop)
end
end
-- RR
noncomputable section
open PySem PySem.W PySem.Calls PyProof.Rows PySem.SeqAt
def KX.re {C : Cx} {K : Type} [DecidableEq K] (X : KX C K) (scope : Scope) (cl : List (Str × Addr)) (L : Addr) : KX (CE C scope cl L) K := ⟨X.knd, X.mkd, X.kv, X.dr, X.is⟩
theorem live_setDm {σ : HS} {D' a : Addr} {x : D} (l : (σ.setDm D' x).Live a) (ne : a ≠ D') : σ.Live a := by
  cases l with
  | li e => exact .li e
  | dm e => exact .dm (by simpa [HS.setDm, upd, ne] using e)
  | ob e => exact .ob e
  | st e => exact .st e
section
variable {C : Cx} {fs : FS} {R : Addr → Option Obj} {s : Shared}
theorem ev_dc {K : Type} [DecidableEq K] (X : KX C K) {x : Str} {px : Pos} {kx vx iter : PySem.Expr} {ifs : List PySem.Expr} {scope : Scope} {pos : Pos} {cl : List (Str × Addr)} {Q : V → FS → Prop} (hh : C.A.handled = none)
    (h : SR C iter (fun vs ok f => ∀ D, f.σ.Fresh D → ∃ Inv : Nat → FS → Prop, Inv 0 ⟨[], f.k, f.σ.setDm D (X.mkd [])⟩ ∧
      (∀ i f', Inv i f' → ok f'.σ) ∧
      (∀ L i v f', vs[i]? = some v → Inv i f' → TS (CE C scope cl L) ifs (fun b f1 => (b = true → EV (CE C scope cl L) kx (fun w f2 => ∃ key, w = X.kv key ∧ EV (CE C scope cl L) vx (fun u f3 => ∃ acc, f3.σ.dm D = some (X.mkd acc) ∧ acc.length ≤ 1000 ∧
        Inv (i + 1) { f3 with σ := f3.σ.setDm D (X.mkd (vst acc key u)) }) f2) f1) ∧ (b = false → Inv (i + 1) f1)) { f' with m := (x, v) :: f'.m }) ∧
      (∀ f', Inv vs.length f' → Q (.ref D) { f with σ := f'.σ })) fs)
    (hclos : closureFor scope C.env = pure cl) (hcl : ∀ x c, (x, c) ∈ cl → (x, c) ∈ C.env.cells) (nm : (cl.map (·.1)).Nodup) (hkind : scope.kind = .function := by rfl) (hcell : ∀ z ∈ scope.names, z.2 ≠ .cell := by decide)
    (hnames : ∀ z ∈ scope.names, z.2 = .local → scope.names.lookup z.1 = some .local := by decide) (hx : scope.names.lookup x = some .local := by rfl)
    (hs : ∀ x, foldedSetIterable iter C.env x = pure x := by intro _; rfl) : EV C (.DictComp kx vx [⟨.Name x px, iter, ifs, 0⟩] scope pos) Q fs := fun R s F => by
  rw [arm_eval_DictComp]
  show wpAny (Mo C) C.A (comprehension (.DictComp kx vx [⟨.Name x px, iter, ifs, 0⟩] scope pos) scope C.env _ newDict false (eval iter C.env)) _ _ s
  refine wpAny_comprehension_free rfl hs hclos hkind hnames (h R s _ F fun it hid vs ok P s1 f I p F1 t1 n ok0 q => ?_)
  refine wpAny_newObj_type ?_ (by size_fits)
  have k2 := KeepAll.push s1.heap { cls := .type "dict", data := .dict #[] }
  obtain ⟨F2, fr⟩ := F1.newDm (t := s1.toks) (d := X.mkd []) k2 (get_size _) ((X.dr _ _ _).mpr ⟨F1.notMods, [], Heap.DictOf.new _, rfl, .nil⟩)
  obtain ⟨Inv, i0, iok, step, qf⟩ := q _ fr
  generalize hD : s1.heap.objs.size = D at *
  have p2' : P 0 (s1.heap.push { cls := .type "dict", data := .dict #[] }) := I.stable _ _ _ p (fun a zz o e => k2 a o e) k2.tk
  have n2 : ∀ a ∈ hid, R a = none ∧ ¬ own C.env a ∧ ¬ (f.σ.setDm D (X.mkd [])).Live a := fun a m => by
    obtain ⟨h1, h2, h3⟩ := n a m
    obtain ⟨⟨o, ho⟩, zz⟩ := I.live _ _ p a m
    exact ⟨h1, h2, fun l => h3 (live_setDm l (by rw [← hD]; exact Nat.ne_of_lt (Heap.lt_size ho)))⟩
  refine wpAny_newFunctionEnv hcell (fun zz hz => by cases hz) (fun h3 hn3 sb3 => ?_) hkind
  generalize hs2 : ({ s1 with heap := s1.heap.push { cls := .type "dict", data := .dict #[] } } : Shared) = s2 at *
  have hh2 : s2.heap = s1.heap.push { cls := .type "dict", data := .dict #[] } := by rw [← hs2]
  rw [← hh2] at p2'
  replace sb3 : Heap.SameBut s2.heap.objs.size (s2.heap.push { cls := .type "dict", data := .dict #[] }) h3 := sb3
  replace hn3 : h3.Ns s2.heap.objs.size fun zz => none := hn3
  obtain ⟨F3, ka3⟩ := F2.comp (scope := scope) (t := s2.toks + 0) hcl nm sb3 hn3
  have t2 : TK s.heap s2.heap := by rw [hh2]; exact t1.trans k2.tk
  have n3 : ∀ a ∈ hid, Rp R C.env s2.heap a = none ∧ ¬ own (compEnvC scope cl s2.heap.objs.size C.env) a := fun a m => by
    obtain ⟨h1, h2, zz⟩ := n2 a m
    obtain ⟨⟨o, ho⟩, zz⟩ := I.live _ _ p2' a m
    refine ⟨by rw [rp_not h2]; exact h1, fun w => ?_⟩
    rcases w with w | w
    · rw [w] at ho; exact absurd (Heap.lt_size ho) (Nat.lt_irrefl _)
    · obtain ⟨⟨y, c⟩, hy, rfl⟩ := List.mem_map.mp w
      exact h2 (.inr (List.mem_map_of_mem (f := (·.2)) (hcl y c hy)))
  have p3 : P 0 h3 := I.stable _ _ _ p2' (fun a m o e => ka3 a o e) ka3.tk
  have F3h := F3.hide (hid := hid) fun a m => ⟨(n3 a m).1, (n3 a m).2, (n2 a m).2.2⟩
  have loop : codeAny (Mo C) C.A (.compLoop (.DictComp kx vx [⟨.Name x px, iter, ifs, 0⟩] scope pos) 0 (.ref it) (.ref D) (compEnvC scope cl s2.heap.objs.size C.env))
      (compPost (Mo C) C.A (fun zz zz => False) none (PO C R s VR Q) (.ref D) s2.heap.objs.size) { s2 with heap := h3, toks := s2.toks + 0 } := by
    refine codeAny_compLoop_testsD (LpI (CE C scope cl s2.heap.objs.size) (Rp R C.env s2.heap) hid vs P Inv s2.heap) ?_ vs.length
      ⟨0, _, F3h, ka3.tk, p3, i0, Nat.zero_le _, rfl⟩
    rintro k s4 ⟨i, f4, F4, t4, p4, i4, hi, rfl⟩
    have lv := I.live i s4.heap p4
    have nl := F4.hidden fun a m => (lv a m).1
    cases hv : vs[i]? with
    | none =>
      have : i = vs.length := Nat.le_antisymm hi (by simpa using hv)
      subst this
      refine I.done _ s4 f4.σ _ _ _ F4.hr (iok _ _ i4) p4 nl hh fun h' t' ko => ?_
      obtain ⟨G1, zz, tk⟩ := F4.turn F3.base n3 lv (t := t') ko
      obtain ⟨m, nsl⟩ := G1.nsC
      refine ⟨m, nsl, fun h'' sb => ?_⟩
      obtain ⟨G, tk'⟩ := F2.uncomp G1 (t4.trans tk) sb
      exact ⟨_, _, G, (t2.trans (t4.trans tk)).trans tk', by simp only [VR], qf f4 i4⟩
    | some v =>
      have hlt : i < vs.length := (List.getElem?_eq_some_iff.mp hv).1
      refine I.next i v _ s4 f4.σ _ _ _ F4.hr (iok _ _ i4) p4 nl hv fun y h' t' ko p5 rx => ?_
      obtain ⟨zz, G1, tk⟩ := F4.turn F3.base n3 lv (t := t') ko
      have lv5 := I.live (i + 1) h' p5
      refine wpAny_mono (as_name (st_loc (C := CE C scope cl s2.heap.objs.size) (Q := fun zz f => f = { f4 with m := (x, v) :: f4.m }) rfl hkind (lookup_relabel_local hx)) _ _ y G1 rx) (fun zz s6 z => ?_) fun zz zz z => z.elim
      obtain ⟨zz, f6, F6, t6, zz, rfl⟩ := z
      have back : ∀ f7 s7, FR (CE C scope cl s2.heap.objs.size) (Rh (Rp R C.env s2.heap) hid h') f7 s7 → TK h' s7.heap → Inv (i + 1) f7 →
          ∃ m, m < vs.length - i ∧ LpI (CE C scope cl s2.heap.objs.size) (Rp R C.env s2.heap) hid vs P Inv s2.heap m s7 := fun f7 s7 F7 t7 i7 => by
        obtain ⟨F8, e8⟩ := FR.rh (s := { s4 with heap := h', toks := t' }) G1 F7 fun a m => (lv5 a m).1
        exact ⟨_, by omega, i + 1, f7, F8, (t4.trans tk).trans t7, I.stable _ _ _ p5 (fun a m o ho => (e8 a m).trans ho) t7, i7, hlt, rfl⟩
      refine wpAny_mono (step _ i v f4 hv i4 _ s6 F6) (fun b s7 z => ?_) fun zz zz z => z.elim
      obtain ⟨b', f7, F7, t7, rfl, q1, q2⟩ := z
      cases b with
      | false => exact back f7 s7 F7 (t6.trans t7) (q2 rfl)
      | true =>
        refine wpAny_mono (q1 rfl _ s7 F7) (fun w s8 z => ?_) fun zz zz z => z.elim
        obtain ⟨w', f8, F8, t8, r8, key, rfl, q8⟩ := z
        refine wpAny_mono (q8 _ s8 F8) (fun u s9 z => ?_) fun zz zz z => z.elim
        obtain ⟨u', f9, F9, t9, r9, acc, ea, hz, i9⟩ := z
        obtain ⟨sm, ys, dk, kr⟩ := F9.dict (KX.re X scope cl s2.heap.objs.size) ea
        refine wpAny_dictSet_pairs (knd := X.knd) (X.is _ _ _ (r8.mono t9)) dk (fun h10 dk10 sb10 => ?_) (by rw [kr.length]; exact sz hz)
        have tk10 := F9.tkDm ea sb10
        obtain ⟨F10, zz⟩ := F9.setDm (t := s9.toks + 1) ea sb10 ((X.dr _ _ _).mpr ⟨sm, _, dk10, (kr.st r9).mono tk10⟩)
        exact back _ _ F10 ((((t6.trans t7).trans t8).trans t9).trans tk10) i9
  exact codeAny_compStart_dict loop (I.self 0 _ _ _ _ p3 loop)
end
end
-- RS
noncomputable section
open PySem PySem.W PySem.Calls PyProof.Rows PySem.SeqAt
section
variable {C : Cx} {fs : FS} {R : Addr → Option Obj} {s : Shared}
theorem sort_at {M : Model} {prog : Program} {w : World} {A : Around} {E : Value → Shared → Prop} {B : Addr} {vs : List Value} {ns : List Int} {n : Nat} {Q : Value → Shared → Prop} (ho : s.heap.get? B = some (seqObj "list" vs.toArray n)) (hi : IntsAre vs ns) (h64 : vs.length < 64)
    (h : ∀ h' (out : Array Value) ns' e, h'.get? B = some (seqObj "list" out e) → (∀ b o, b ≠ B → s.heap.get? b = some o → h'.get? b = some o) → IntsAre out.toList ns' → ns'.Perm ns → ns'.Pairwise (· ≤ ·) → Q .none { s with heap := h' }) :
    wpAny (model prog w) A (call (.builtin "list.sort") [.ref B]) Q E s := by
  refine wpAny_call_entry PyProof.Rows.slot_list_sort ⟨_, ho, rfl⟩ PyProof.Rows.entry_list_sort (list_sort_tree (n := n) (vs := vs) ho hi h64 fun out ns' hI hp hP => ⟨.none, rfl, ?_⟩) (PyProof.Rows.args_list_sort _)
  obtain ⟨e, he⟩ := sortedHeap_at (out := out) ho
  exact h _ out ns' e he (fun b o hb q => (sortedHeap_old hb (Heap.lt_size q)).trans q) hI hp hP
theorem newB {B : Addr} {o : Obj} {h' : Heap} {mv : Str → Option Value} (G : Fr (cutAt s.heap C.env.locals) C.env.locals s.heap mv) (N' : News (cutAt s.heap C.env.locals) C.env.locals h' ((B, o) :: restAt s.heap C.env.locals))
    (l1 : ∀ q ∈ restAt s.heap C.env.locals, q.1 < B) : s.heap.get? B = none := by
  cases q : s.heap.get? B with
  | none => rfl
  | some o' =>
    by_cases hb : B = C.env.locals
    · exact absurd hb (N' _ (.head _)).2.1
    · rcases Nat.lt_or_gt_of_ne hb with x | x
      · have := (N' _ (.head _)).2.2
        dsimp only at this
        rw [cutAt_get (Nat.le_of_lt G.ns.lt), if_pos x, q] at this; cases this
      · exact absurd (l1 _ (restAt_mem.mpr ⟨x, q⟩)) (Nat.lt_irrefl _)
theorem cl_sortedD {d : Addr} {kvs : List (Int × V)} {Q : V → FS → Prop} (hh : C.A.handled = none) (e : fs.σ.dm d = some (.di kvs)) (hz : kvs.length < 64)
    (h : ∀ a (ms : List Int), fs.σ.Fresh a → ms.Perm (kvs.map (·.1)) → ms.Pairwise (· ≤ ·) → Q (.ref a) { fs with σ := fs.σ.setLi a (ms.map .int) }) : CL C (.builtin "sorted") [.ref d] Q fs := fun R s xs F r => by
  simp only [LR, VR] at r
  obtain ⟨zz, zz, rfl, rfl, rfl⟩ := r
  obtain ⟨sm, ys, dk, kr⟩ := F.dict (kI C) e
  obtain ⟨ep, hat⟩ := dk.dictAt
  obtain ⟨mv, G, N, back⟩ := F.byCut
  refine kdu_sorted (kdl_dict (knd := (kI C).knd) (kvs := ys) (ep := ep) sm) hh G N hat (by rw [kr.length]; exact sz (by lia)) fun B h' tk vs G' N' l1 hl hv => ?_
  have hB := newB G N' l1
  obtain ⟨F', tk', zz, ob⟩ := back h' tk _ G' N' fun p hp => List.mem_cons_of_mem _ hp
  have ho := ob _ _ (.head _)
  have hi : IntsAre vs (ys.map (·.1)) := by
    have : ∀ (vs : List Value) (ys : List (Int × Value)), vs.length = ys.length → (∀ (j : Nat) (v : Value), vs[j]? = some v → ∃ k x, ys[j]? = some (k, x) ∧ (kI C).knd.is k v = true) → IntsAre vs (ys.map (·.1)) := by
      intro vs
      induction vs with
      | nil => intro ys hl _; cases ys with | nil => exact .nil | cons _ _ => cases hl
      | cons v vs ih =>
        intro ys hl hv
        cases ys with
        | nil => cases hl
        | cons y ys =>
          obtain ⟨k, x, e1, e2⟩ := hv 0 v rfl
          cases e1
          obtain ⟨t, rfl⟩ := Value.isInt_shape e2
          exact .cons k t (ih ys (by simpa using hl) fun j v e => hv (j + 1) v e)
    exact this vs ys hl hv
  have hvl : vs.length < 64 := by rw [hl, kr.length]; exact hz
  refine sort_at (M := Mo C) ho hi hvl fun h2 out ns' e2 ho2 ko hI hp hP => ?_
  have n1 := F.newHid hB
  obtain ⟨F2, tk2⟩ := F'.off (hid := [B]) (t := tk) (h' := h2) (fun a m => by simp at m; subst m; exact n1) (fun a m => by simp at m; subst m; exact noTup_cls ho (by simp [seqObj])) (fun b o m q => ko b o (fun z => m (by simp [z])) q)
  obtain ⟨F3, fr⟩ := F.addNew F2 hB (LI.of_seq ho2) (ws := ns'.map .int) (LR.ofInts hI)
  exact ⟨_, _, F3, tk'.trans tk2, by simp only [VR], h _ _ fr (by rw [← kr.1]; exact hp) hP⟩
theorem ev_sortedAbs {e : PySem.Expr} {np kp pos p1 : Pos} {Q : V → FS → Prop}
    (h : EV C e (fun v f => ∃ l ns, v = .ref l ∧ f.σ.li l = some (ns.map .int) ∧ ns.length < 64 ∧ ∀ a (ms : List Int), f.σ.Fresh a → ms.Perm ns → Q (.ref a) { f with σ := f.σ.setLi a (ms.map .int) }) fs)
    (hn : ∀ Q : V → FS → Prop, ∀ f, Q (.bi "sorted") f → EV C (.Name "sorted" np) Q f) (ha : ∀ Q : V → FS → Prop, ∀ f, Q (.bi "abs") f → EV C (.Name "abs" kp) Q f)
    (hp : backTo pos (starEach [e] C.env) = (false, eval e C.env) :: backTo pos (starEach [] C.env) := by rfl) (hpl : (backTo pos (starEach [e] C.env)).any (·.1) = false := by rfl) : EV C (.Call (.Name "sorted" np) [e] [⟨some "key", .Name "abs" kp, p1⟩] pos) Q fs := fun R s F => by
  refine wpAny_Call_ofName (wp_to (hn (fun v f => v = .bi "sorted" ∧ f = fs) fs ⟨rfl, rfl⟩ R s F) fun a v f1 s1 F1 t1 r1 q1 => ?_)
  obtain ⟨rfl, rfl⟩ := q1
  simp only [VR] at r1; subst r1
  refine callWith_kw ?_ hp hpl
  rw [hp]
  refine Calls.spliced_cons (wp_to (h R s1 F1) fun a v f2 s2 F2 t2 r2 q2 => ?_)
  refine Calls.spliced_nil ?_
  show wpAny (Mo C) C.A (evalAll [do let v ← eval (.Name "abs" kp) C.env; standAt pos; pure v]) _ _ s2
  refine wpAny_evalAll_cons (wpAny_bind (wp_to (ha (fun v f => v = .bi "abs" ∧ f = f2) f2 ⟨rfl, rfl⟩ R s2 F2) fun a v f3 s3 F3 t3 r3 q3 => ?_))
  obtain ⟨rfl, rfl⟩ := q3
  simp only [VR] at r3; subst r3
  refine wpAny_bind (wpAny_standAt (wpAny_pure (wpAny_evalAll_nil ?_)))
  obtain ⟨l, ns, rfl, el, hz, q⟩ := q2
  have r2' := r2.mono t3
  simp only [VR] at r2'; subst r2'
  obtain ⟨items, n, ho, lr, hs⟩ := F3.list el
  obtain ⟨mv, G, N, back⟩ := F3.byCut
  show wpAny (Mo C) C.A (call (.builtin "sorted") [.ref l] [("key", .builtin "abs")]) _ _ s3
  refine ksk_letter (b := false) (vs := items.toList) (fun n => if n < 0 then -n else n) G N (isL (by simpa using ho)) (LR.ints lr) hz (ksk_s1 _ _) (fun x => ksk_l1 _ _) (fun x => ksk_t4 _ _)
    (fun n t h tk own zz F' N' => call_abs_int fun u tk' => ⟨h, tk', u, rfl, rfl, F', N'⟩) fun B vs' ns' c h' tk G' N' l1 hi hl hp' zz zz => ?_
  have hB := newB G N' l1
  obtain ⟨F', tk', zz, ob⟩ := back h' tk _ G' N' fun p hp => List.mem_cons_of_mem _ hp
  obtain ⟨F4, fr⟩ := F3.addNew F' hB (LI.of_seq (ob _ _ (.head _))) (ws := ns'.map .int) (by simpa using LR.ofInts (h := h') hi)
  exact ⟨_, _, F4, ((t1.trans t2).trans t3).trans tk', by simp only [VR], q _ _ fr hp'⟩
theorem sr_range3 {e1 e2 e3 : PySem.Expr} {np pos : Pos} {Q : List V → (HS → Prop) → FS → Prop}
    (hn : ∀ Q : V → FS → Prop, ∀ f, Q (.ty "range") f → EV C (.Name "range" np) Q f)
    (h : SPL C pos [e1, e2, e3] (fun ws f => ∃ n : Nat, ws = [.int n, .int (-1), .int (-1)] ∧ n ≤ 1000 ∧ Q ((List.range (n + 1)).map fun (i : Nat) => V.int (n + i * (-1))) (fun zz => True) f) fs)
    (hse : (backTo pos (starEach [e1, e2, e3] C.env)).any (·.1) = false := by rfl) : SR C (.Call (.Name "range" np) [e1, e2, e3] [] pos) Q fs := fun R s Q' F k => by
  refine wpAny_Call_NameR (wp_to (hn (fun v f => v = .ty "range" ∧ f = fs) fs ⟨rfl, rfl⟩ R s F) fun a v f1 s1 F1 t1 r1 q1 => ?_)
  obtain ⟨rfl, rfl⟩ := q1
  simp only [VR] at r1; subst r1
  refine callWith_V (fv := .type "range") (.inr (.inl ⟨_, rfl⟩)) hse (wp_to (h R s1 F1) fun xs ws f2 s2 F2 t2 r2 q2 => ⟨F2.k, ?_⟩)
  obtain ⟨n, rfl, hz, q⟩ := q2
  simp only [LR, VR] at r2
  obtain ⟨zz, zz, rfl, ⟨u1, rfl⟩, zz, zz, rfl, ⟨u2, rfl⟩, zz, zz, rfl, ⟨u3, rfl⟩, rfl⟩ := r2
  refine call_range_3 (by decide) ?_ (Or.inl (PyProof.noPylong_small (by lia)))
  have hsz : Builtin.Range.rangeSize (n : Int) (-1) (-1) = ((n + 1 : Nat) : Int) := by
    unfold Builtin.Range.rangeSize
    rw [if_neg (by decide), if_pos (by lia)]
    simp
  refine wpAny_pyIter_range (IsRange.new ..) ?_ ?_
  · unfold Builtin.Range.small
    rw [hsz]
    simp [Builtin.Range.rangeFitsLong]
    lia
  have k1 := KeepAll.push s2.heap { cls := .type "range", data := .fields #[.int n u1, .int (-1) u2, .int (-1) u3] }
  have k2 := k1.trans (KeepAll.push _ { cls := .type "range_iterator", data := .fields #[rawInt n, rawInt (Builtin.Range.rangeSize n (-1) (-1)), rawInt (-1)] })
  have I := itOK_range (W := C.W) (it := (s2.heap.push { cls := .type "range", data := .fields #[.int n u1, .int (-1) u2, .int (-1) u3] }).objs.size) (a := n) (c := -1) (n := n + 1)
  refine k _ _ _ _ _ _ f2 I ?_ (F2.keeps k2) ((t1.trans t2).trans k2.tk) (fun a m => ?_) trivial q
  · simp only [hsz]
    have := Heap.get?_push_size (s2.heap.push { cls := .type "range", data := .fields #[.int n u1, .int (-1) u2, .int (-1) u3] }) (o := { cls := .type "range_iterator", data := .fields #[rawInt n, rawInt ((n + 1 : Nat) : Int), rawInt (-1)] }) rfl
    simpa using this
  · simp at m; subst m
    exact F2.newHid (Heap.get?_none_of_le (by simp [Heap.size_push]))
end
end
-- RU
noncomputable section
open PySem PySem.W PySem.Calls PyProof.Rows PySem.SeqAt
section
variable {C : Cx} {fs : FS} {R : Addr → Option Obj} {s : Shared}
theorem FR.newOb (F : FR C R fs s) {h' : Heap} {x Cl dx : Addr} {t : Nat} (k : KeepAll s.heap h') (hx : s.heap.get? x = none) (hd : s.heap.get? dx = none) (ox : h'.get? x = some (instObj Cl dx)) (od : h'.get? dx = some emptyDict) :
    FR C R { fs with σ := (fs.σ.setDm dx (.at [])).setOb x (Cl, dx) } { s with heap := h', toks := t } := by
  have F' := F.keeps (t := t) k
  obtain ⟨a1, a2, zz⟩ := F.newHid hx
  obtain ⟨b1, b2, zz⟩ := F.newHid hd
  have ns : h'.Ns1 dx fun zz => none := Heap.Ns1.of_empty ⟨_, #[], 0, od, rfl, fun e he => by simp at he, fun zz => rfl⟩
  refine F'.sig ((F'.hr.addDm (a := dx) (d := .at []) ?_ ⟨_, ns, fun x => rfl⟩).addOb ?_ ox)
  · rw [rp_not b2]; exact b1
  · rw [rp_not a2]; exact a1
abbrev Cx.under (C : Cx) (c : Code) : Cx := { C with A := C.A.under c }
theorem cl_make {Cl fI : Addr} {vals : List V} {Q : V → FS → Prop} (hm : makesIn C.W.K Cl = true) (hi : findIn C.W.K (.ref Cl) "__init__" = some (some (.ref fI))) (hf : typeIn C.W.K (.ref fI) = some (.type "function"))
    (h : ∀ x dx xs, fs.σ.Fresh x → fs.σ.Fresh dx → x ≠ dx → CD (C.under (.builtin "type.__call__" ⟨.ref Cl :: xs, []⟩)) (.ref fI) (.ref x :: vals) (fun v f => v = .none ∧ Q (.ref x) f) { fs with σ := (fs.σ.setDm dx (.at [])).setOb x (Cl, dx) }) : CD C (.ref Cl) vals Q fs := fun R s xs F l => by
  obtain ⟨hh, g, d, t, os⟩ := s
  refine make_core (makes_of F.k hm) (looks_findIn F.k hi) (fun self => bind_fn F.k self hf) (.inl rfl) ?_
  have ka : KeepAll hh ((hh.push emptyDict).push (instObj Cl hh.objs.size)) := (KeepAll.push _ _).trans (KeepAll.push _ _)
  have ox : ((hh.push emptyDict).push (instObj Cl hh.objs.size)).get? (hh.objs.size + 1) = some (instObj Cl hh.objs.size) := by
    have := Heap.get?_push_size (hh.push emptyDict) (o := instObj Cl hh.objs.size) rfl
    rwa [Heap.size_push] at this
  have od : ((hh.push emptyDict).push (instObj Cl hh.objs.size)).get? hh.objs.size = some emptyDict := Heap.get?_push_of_some _ (Heap.get?_push_size _ rfl)
  have n1 : hh.get? (hh.objs.size + 1) = none := Heap.get?_none_of_le (Nat.le_succ _)
  have n0 : hh.get? hh.objs.size = none := get_size _
  have F' := F.newOb (t := t) ka n1 n0 ox od
  refine codeAny_mono (h _ _ xs (F.rpN n1).2 (F.rpN n0).2 (Nat.succ_ne_self _) R _ (.ref (hh.objs.size + 1) :: xs) F'.reA (.cons (by simp only [VR]) (l.mono ka.tk))) fun r s' z => ?_
  rcases r with e | (v | zz | zz | zz)
  · exact z
  · exact z
  · exact z
  · exact z
  · obtain ⟨b, f', F2, t2, r2, rfl, q⟩ := z
    simp only [VR] at r2
    exact ⟨r2, .ref _, f', F2.reA, ka.tk.trans t2, by simp only [VR], q⟩
def alSet (name : Str) (v : V) : List (Str × V) → List (Str × V)
  | [] => [(name, v)]
  | (n, w) :: r => if n == name then (n, v) :: r else (n, w) :: alSet name v r
theorem alSet_lookup (name : Str) (v : V) : ∀ al y, (alSet name v al).lookup y = if y = name then some v else al.lookup y
  | [], y => by
    simp only [alSet, List.lookup_cons, List.lookup_nil]
    by_cases hy : y = name
    · subst hy; simp
    · rw [beq_eq_false_iff_ne.mpr hy, if_neg hy]
  | (n, w) :: r, y => by
    have ih := alSet_lookup name v r y
    unfold alSet
    by_cases hn : n = name
    · subst hn; simp only [beq_self_eq_true, if_true, List.lookup_cons]
      by_cases hy : y = n
      · subst hy; simp
      · rw [beq_eq_false_iff_ne.mpr hy, if_neg hy]
    · rw [if_neg (by simpa using hn)]
      simp only [List.lookup_cons]
      by_cases hy : y = n
      · subst hy; simp only [beq_self_eq_true]; rw [if_neg hn]
      · rw [beq_eq_false_iff_ne.mpr hy]; exact ih
theorem mem_of_lookup {y : Str} : ∀ {al : List (Str × V)}, al.lookup y ≠ none → y ∈ al.map (·.1)
  | [], e => absurd rfl e
  | (n, w) :: r, e => by
    rw [List.lookup_cons] at e
    by_cases hy : y = n
    · subst hy; simp
    · rw [beq_eq_false_iff_ne.mpr hy] at e
      exact List.mem_cons_of_mem _ (mem_of_lookup e)
theorem at_set {x Cl dx : Addr} {al : List (Str × V)} {name : Str} {v : V} {Q : Unit → FS → Prop} (k : KC C.W.K Cl) (ho : fs.σ.ob x = some (Cl, dx)) (hd : fs.σ.dm dx = some (.at al)) (ht : takerIn C.W.K Cl name = some none) (hz : (alSet name v al).length ≤ 1000)
    (h : Q () { fs with σ := fs.σ.setDm dx (.at (alSet name v al)) }) : OP2 C UR (fun a b => setAttr a name b) (.ref x) v Q fs := fun R s a b F r r' => by
  simp only [VR] at r; subst r
  obtain ⟨mv, od, n, hod, I, e⟩ := F.inst ho hd
  obtain ⟨cd, hc, hd'⟩ := any_some k.hd
  refine set_plain F.k I k.sa ?_
  refine osa_open (s := { s with toks := s.toks + 1 }) F.k I k.po ht fun b' => ?_
  obtain ⟨hx, hcls, hn, zz⟩ := id I
  refine wpAny_bind (wpAny_pure (wpAny_bind (wpAny_bind (wpAny_loadPart (s := { s with toks := s.toks + 1 }) hx (wpAny_bind (Looks.here (s := { s with toks := s.toks + 1 }) (looks_clsIn F.k hc) ?_))))))
  rw [hd']
  refine wpAny_pure (a := some dx) (wpAny_bind (wpAny_pure (wpAny_bind ?_)))
  refine wpAny_nsSet1 (s := { s with toks := s.toks + 1 }) n fun h' n' sb => ?_
  replace sb : Heap.SameBut dx s.heap h' := sb
  have tk := F.tkDm hd sb
  have dr : ∀ y, match (alSet name v al).lookup y with
      | some w => ∃ u, (if y = name then some b else mv y) = some u ∧ VR h' w u
      | none => (if y = name then some b else mv y) = none := fun y => by
    rw [alSet_lookup]
    by_cases hy : y = name
    · subst hy; simp only [if_true]; exact ⟨b, rfl, r'.mono tk⟩
    · rw [if_neg hy, if_neg hy]
      have := e y
      revert this
      cases al.lookup y with
      | some w => intro this; obtain ⟨u, e1, e2⟩ := this; exact ⟨u, e1, e2.mono tk⟩
      | none => intro this; exact this
  obtain ⟨oD, esD, epD, hoD, hdD, hcD⟩ := n'.count (ns := (alSet name v al).map (·.1)) fun y hy => by
    refine mem_of_lookup fun q => hy ?_
    have := dr y
    rw [q] at this
    exact this
  refine wpAny_bind (wpAny_lookBehind hoD (by rw [hdD]; exact pastItsLine_dict (Nat.le_trans hcD (by rw [List.length_map, sizeLine_eq]; omega))) ?_)
  refine wpAny_pure ?_
  obtain ⟨F', zz⟩ := F.setDm (t := s.toks + 1 + 1) hd sb (d' := .at (alSet name v al)) ⟨_, n', dr⟩
  exact ⟨(), _, F', tk, trivial, h⟩
end
end
-- RV
noncomputable section
open PySem PySem.W PySem.Calls PyProof.Rows PySem.SeqAt
section
variable {σ : HS} {a b : Addr}
theorem sub_nil {l : List (Str × Addr)} : ∀ x c, (x, c) ∈ ([] : List (Str × Addr)) → (x, c) ∈ l := fun zz zz m => by cases m
theorem sub_cons {p : Str × Addr} {r l : List (Str × Addr)} (h : p ∈ l) (t : ∀ x c, (x, c) ∈ r → (x, c) ∈ l) : ∀ x c, (x, c) ∈ p :: r → (x, c) ∈ l := fun x c m => by
  rcases List.mem_cons.mp m with e | e
  · rw [e]; exact h
  · exact t x c e
theorem li_same {x : List V} : (σ.setLi a x).li a = some x := upd_same
theorem dm_same {x : D} : (σ.setDm a x).dm a = some x := upd_same
theorem ob_same {x : Addr × Addr} : (σ.setOb a x).ob a = some x := upd_same
theorem li_ne {x y : List V} (h : a ≠ b) (e : σ.li a = some x) : (σ.setLi b y).li a = some x := (upd_ne h).trans e
theorem dm_ne {x y : D} (h : a ≠ b) (e : σ.dm a = some x) : (σ.setDm b y).dm a = some x := (upd_ne h).trans e
theorem ob_ne {x y : Addr × Addr} (h : a ≠ b) (e : σ.ob a = some x) : (σ.setOb b y).ob a = some x := (upd_ne h).trans e
theorem li_dm {x : List V} {y : D} (e : σ.li a = some x) : (σ.setDm b y).li a = some x := e
theorem li_ob {x : List V} {y : Addr × Addr} (e : σ.li a = some x) : (σ.setOb b y).li a = some x := e
theorem dm_li {x : D} {y : List V} (e : σ.dm a = some x) : (σ.setLi b y).dm a = some x := e
theorem dm_ob {x : D} {y : Addr × Addr} (e : σ.dm a = some x) : (σ.setOb b y).dm a = some x := e
theorem ob_li {x : Addr × Addr} {y : List V} (e : σ.ob a = some x) : (σ.setLi b y).ob a = some x := e
theorem ob_dm {x : Addr × Addr} {y : D} (e : σ.ob a = some x) : (σ.setDm b y).ob a = some x := e
end
section
variable {C : Cx} {fs : FS} {d : Addr}
theorem ds_get {kvs : List (Str × V)} {k : Str} {v : V} {value slice : PySem.Expr} {Q : V → FS → Prop} (e : fs.σ.dm d = some (.ds kvs)) (hv : vat kvs k = some v) (h : Q v fs)
    (hs : ∀ t, subscripted slice false (.ref d) (.str k t) = operate [.ref d, .str k t] (getItem (.ref d) (.str k t)) := by intro _; with_unfolding_all rfl)
    (ht : ∀ a r, letTemporaryGo value (.ref a) r = pure () := by intro _ _; with_unfolding_all rfl) : OP2 C VR (subscriptTail value slice) (.ref d) (.str k) Q fs :=
  kd_get (kS C) e hv h (fun x h r => by
    have r' : VR h (.str k) x := r
    simp only [VR] at r'; obtain ⟨t, rfl⟩ := r'; exact hs t) ht
theorem ds_set {kvs : List (Str × V)} {k : Str} {v : V} {Q : Unit → FS → Prop} (e : fs.σ.dm d = some (.ds kvs)) (hz : kvs.length ≤ 1000) (h : Q () { fs with σ := fs.σ.setDm d (.ds (vst kvs k v)) }) : OP3 C UR setItem (.ref d) (.str k) v Q fs :=
  kd_set (kS C) e hz h
theorem di_set {kvs : List (Int × V)} {k : Int} {v : V} {Q : Unit → FS → Prop} (e : fs.σ.dm d = some (.di kvs)) (hz : kvs.length ≤ 1000) (h : Q () { fs with σ := fs.σ.setDm d (.di (vst kvs k v)) }) : OP3 C UR setItem (.ref d) (.int k) v Q fs :=
  kd_set (kI C) e hz h
theorem ds_get1 {k k' : Str} {a b : V} {value slice : PySem.Expr} {Q : V → FS → Prop} (e : fs.σ.dm d = some (.ds [(k, a), (k', b)])) (h : Q a fs)
    (hs : ∀ t, subscripted slice false (.ref d) (.str k t) = operate [.ref d, .str k t] (getItem (.ref d) (.str k t)) := by intro _; with_unfolding_all rfl)
    (ht : ∀ a r, letTemporaryGo value (.ref a) r = pure () := by intro _ _; with_unfolding_all rfl) : OP2 C VR (subscriptTail value slice) (.ref d) (.str k) Q fs :=
  ds_get e (by simp [vat]) h hs ht
theorem ds_get2 {k k' : Str} {a b : V} {value slice : PySem.Expr} {Q : V → FS → Prop} (e : fs.σ.dm d = some (.ds [(k', a), (k, b)])) (hn : k' ≠ k) (h : Q b fs)
    (hs : ∀ t, subscripted slice false (.ref d) (.str k t) = operate [.ref d, .str k t] (getItem (.ref d) (.str k t)) := by intro _; with_unfolding_all rfl)
    (ht : ∀ a r, letTemporaryGo value (.ref a) r = pure () := by intro _ _; with_unfolding_all rfl) : OP2 C VR (subscriptTail value slice) (.ref d) (.str k) Q fs :=
  ds_get e (by simp [vat, hn]) h hs ht
theorem ds_set2 {k k' : Str} {a b v : V} {Q : Unit → FS → Prop} (e : fs.σ.dm d = some (.ds [(k', a), (k, b)])) (hn : k' ≠ k) (h : Q () { fs with σ := fs.σ.setDm d (.ds [(k', a), (k, v)]) }) : OP3 C UR setItem (.ref d) (.str k) v Q fs :=
  ds_set e (by simp) (by rw [show vst [(k', a), (k, b)] k v = [(k', a), (k, v)] from by simp [vst, hn]]; exact h)
theorem di_in {kvs : List (Int × V)} {k : Int} {Q : V → FS → Prop} (e : fs.σ.dm d = some (.di kvs)) (h : Q (.bool (vat kvs k).isSome) fs) : OP2 C VR (compareOp .In) (.int k) (.ref d) Q fs := kd_in (kI C) e h
theorem di_notIn {kvs : List (Int × V)} {k : Int} {Q : V → FS → Prop} (e : fs.σ.dm d = some (.di kvs)) (h : Q (.bool (!(vat kvs k).isSome)) fs) : OP2 C VR (compareOp .NotIn) (.int k) (.ref d) Q fs := kd_notIn (kI C) e h
theorem ev_bcall {x : Str} {np args pos} {id : String} {Q : V → FS → Prop} (e : nsIn C.W.K mainGlobals x = some none) (hv : bootBuiltins x = some (.builtin id)) (h : SPL C pos args (fun vs f2 => CL C (.builtin id) vs Q f2) fs)
    (hn : x ≠ "__name__" := by decide) (hk : C.env.scope.kind = .function := by rfl) (hx : C.env.kindOf x = some .globalImplicit := by rfl) (hG : C.env.globals = mainGlobals := by rfl) (hB : C.env.builtins = builtinsNs := by rfl) (hd : (x == ("__debug__" : Str)) = false := by decide)
    (hp : (backTo pos (starEach args C.env)).any (·.1) = false := by rfl) : EV C (.Call (.Name x np) args [] pos) Q fs :=
  ev_call (ev_blt (v := .bi id) e hv (fun zz => by simp only [VR]) ⟨rfl, kp_builtin, h⟩ hn hk hx hG hB hd) hp
theorem ev_tcall {x : Str} {np args pos} {T : String} {Q : V → FS → Prop} (e : nsIn C.W.K mainGlobals x = some none) (hv : bootBuiltins x = some (.type T)) (h : SPL C pos args (fun vs f2 => CL C (.type T) vs Q f2) fs)
    (hn : x ≠ "__name__" := by decide) (hk : C.env.scope.kind = .function := by rfl) (hx : C.env.kindOf x = some .globalImplicit := by rfl) (hG : C.env.globals = mainGlobals := by rfl) (hB : C.env.builtins = builtinsNs := by rfl) (hd : (x == ("__debug__" : Str)) = false := by decide)
    (hp : (backTo pos (starEach args C.env)).any (·.1) = false := by rfl) : EV C (.Call (.Name x np) args [] pos) Q fs :=
  ev_call (ev_blt (v := .ty T) e hv (fun zz => by simp only [VR]) ⟨rfl, kp_type, h⟩ hn hk hx hG hB hd) hp
theorem ev_gcall {x : Str} {np args pos} {a : Addr} {Q : V → FS → Prop} (e : nsIn C.W.K mainGlobals x = some (some (.ref a))) (kp : keepIn C.W.K (.ref a) = true) (h : SPL C pos args (fun vs f2 => CD C (.ref a) vs Q f2) fs)
    (hk : C.env.scope.kind = .function := by rfl) (hx : C.env.kindOf x = some .globalImplicit := by rfl) (hG : C.env.globals = mainGlobals := by rfl) (hd : (x == ("__debug__" : Str)) = false := by decide)
    (hp : (backTo pos (starEach args C.env)).any (·.1) = false := by rfl) : EV C (.Call (.Name x np) args [] pos) Q fs :=
  ev_call (ev_glob (v := .ref a) e (fun zz => by simp only [VR]) ⟨rfl, .inr (.inr kp), h.mono fun zz zz q => q.cl⟩ hk hx hG hd) hp
theorem xv_swap2 {x y : Str} {elts k tp e pos} {Q : Fw → FS → Prop} (hh : C.A.handled = none) (h : EV C e (fun v f => ∃ a b, v = .tup [a, b] ∧ ST C y b (fun zz f2 => ST C x a (fun zz => Q .next) f2) f) fs)
    (hs : swapsWithSole [.Tuple elts k tp] e pos.line C.env = pure false := by rfl) (hw : swappedStores [.Tuple elts k tp] e C.env = pure (some [x, y]) := by with_unfolding_all rfl) : XV C (.Assign [.Tuple elts k tp] e pos) Q fs := fun R s F => by
  refine Assign_Tuple_swapped (wp_to (h R s F) fun u v f1 s1 F1 t1 r1 q1 => ?_) hs hw
  obtain ⟨a, b, rfl, q1⟩ := q1
  simp only [VR] at r1
  obtain ⟨t, items, rfl, ht, l⟩ := r1
  simp only [LR] at l
  obtain ⟨z1, r1, e1', rz1, z2, r2, rfl, rz2, rfl⟩ := l
  have sz : items.size = 2 := by have := congrArg List.length e1'; simpa using this
  rw [show ([x, y] : List Str).length = items.size from sz.symm]
  refine wpAny_unpackItems_tuple hh ht fun h' ex => ?_
  obtain ⟨F2, t2⟩ := F1.ext ex
  rw [e1']
  show wpAny _ _ (assignInOrder [fun v => bindName C.env y v, fun v => bindName C.env x v] [z2, z1]) _ _ _
  refine wpAny_assignInOrder_more (wpAny_bindName ?_)
  refine wp_to (q1 R _ z2 F2 (rz2.mono t2)) fun zz zz f3 s3 F3 t3 zz q3 => ?_
  refine wpAny_assignInOrder_more (wpAny_bindName ?_)
  refine wp_to (q3 R _ z1 F3 (rz1.mono (t2.trans t3))) fun zz zz f4 s4 F4 t4 zz q4 => ?_
  exact wpAny_assignInOrder_none ⟨.next, f4, F4, ((t1.trans t2).trans t3).trans t4, rfl, q4⟩
end
end
-- RT
noncomputable section
open PySem PySem.W PyProof.Rows
noncomputable def qv : Program := { PySem.Challenge.pw_nu0244_01 with main := { PySem.Challenge.pw_nu0244_01.main with body := [1,2,4,5,6,7,9,10,11,12,13,14,15,16,17,18].filterMap fun i => PySem.Challenge.pw_nu0244_01.main.body[i]? } }
theorem said : PySem.Challenge.rw_nu0244_01.wellSaid = true := by
  rw [PySem.W.Fast.te9446332074065402090]
  kernel_rfl
-- the head's two steps by the kernel alone: no twins are laid
end
local macro_rules | `(tactic| k_qdec) => `(tactic| decide +kernel)
local macro_rules | `(tactic| o_law) => `(tactic| refine holds_law said fun y => ?_)
local macro_rules | `(tactic| o_head $H) => `(tactic| (
    refine holds_open (q := qv) (loose := []) (Xt := fun s => xlAt qv [] s && recOk [] s) (XP := XL qv []) (Yf := Hook.obs $H) (Ya := Hook.val $H) (YP := Hook.says $H) (N := 3626) ?hl (Hook.of $H) (Hook.keeps $H) (fun s e => xl_of s (Bool.and_eq_true_iff.mp e).1) XL.keeps (by rfl) (by rfl) (by rfl) (fun s e => recFacts_of (Bool.and_eq_true_iff.mp e).2) (by rfl) (by first | assumption | decide +kernel) (by decide +kernel) ⟨rfl, rfl, rfl, rfl, rfl, by decide +kernel⟩ ?hw ?hc
    case hl => (intro w; unfold openEnds topFrom; rw [PySem.W.Fast.te14082659384304107361, PySem.W.Fast.te4187177175401517315]; kernel_rfl)))
noncomputable section
open PySem PySem.W PyProof.Rows
set_option maxRecDepth 100000 in
set_option maxHeartbeats 8000000 in
open_top hd for PySem.Challenge.rw_nu0244_01
end
-- RW
noncomputable section
open PySem PySem.W PySem.Calls PyProof.Rows PySem.SeqAt
-- names, looked up once
theorem gs_law_next (p) : nsIn (hd.heap_1 p) mainGlobals "_law_next" = some (some (.ref 193)) := by kernel_rfl
theorem kp_law_next (p) : keepIn (hd.heap_1 p) (.ref 193) = true := by kernel_rfl
theorem gs_law_clause (p) : nsIn (hd.heap_1 p) mainGlobals "_law_clause" = some (some (.ref 200)) := by kernel_rfl
theorem kp_law_clause (p) : keepIn (hd.heap_1 p) (.ref 200) = true := by kernel_rfl
theorem gs_law_comes_to_a_clash (p) : nsIn (hd.heap_1 p) mainGlobals "_law_comes_to_a_clash" = some (some (.ref 205)) := by kernel_rfl
theorem kp_law_comes_to_a_clash (p) : keepIn (hd.heap_1 p) (.ref 205) = true := by kernel_rfl
theorem gs_law_follows (p) : nsIn (hd.heap_1 p) mainGlobals "_law_follows" = some (some (.ref 210)) := by kernel_rfl
theorem kp_law_follows (p) : keepIn (hd.heap_1 p) (.ref 210) = true := by kernel_rfl
theorem gs_law_first_wrong (p) : nsIn (hd.heap_1 p) mainGlobals "_law_first_wrong" = some (some (.ref 217)) := by kernel_rfl
theorem kp_law_first_wrong (p) : keepIn (hd.heap_1 p) (.ref 217) = true := by kernel_rfl
theorem gs_law_log (p) : nsIn (hd.heap_1 p) mainGlobals "_law_log" = some (some (.ref 224)) := by kernel_rfl
theorem kp_law_log (p) : keepIn (hd.heap_1 p) (.ref 224) = true := by kernel_rfl
theorem gs_law_trimmed (p) : nsIn (hd.heap_1 p) mainGlobals "_law_trimmed" = some (some (.ref 231)) := by kernel_rfl
theorem kp_law_trimmed (p) : keepIn (hd.heap_1 p) (.ref 231) = true := by kernel_rfl
theorem gs_law_is_ascending (p) : nsIn (hd.heap_1 p) mainGlobals "_law_is_ascending" = some (some (.ref 236)) := by kernel_rfl
theorem kp_law_is_ascending (p) : keepIn (hd.heap_1 p) (.ref 236) = true := by kernel_rfl
theorem gs_law_kept_right (p) : nsIn (hd.heap_1 p) mainGlobals "_law_kept_right" = some (some (.ref 241)) := by kernel_rfl
theorem kp_law_kept_right (p) : keepIn (hd.heap_1 p) (.ref 241) = true := by kernel_rfl
theorem gs_is_clause (p) : nsIn (hd.heap_1 p) mainGlobals "is_clause" = some (some (.ref 78)) := by kernel_rfl
theorem kp_is_clause (p) : keepIn (hd.heap_1 p) (.ref 78) = true := by kernel_rfl
theorem gs_check_log (p) : nsIn (hd.heap_1 p) mainGlobals "check_log" = some (some (.ref 149)) := by kernel_rfl
theorem kp_check_log (p) : keepIn (hd.heap_1 p) (.ref 149) = true := by kernel_rfl
theorem gs_UnitSteps (p) : nsIn (hd.heap_1 p) mainGlobals "UnitSteps" = some (some (.ref 138)) := by kernel_rfl
theorem kp_UnitSteps (p) : keepIn (hd.heap_1 p) (.ref 138) = true := by kernel_rfl
theorem gs_Trimmer (p) : nsIn (hd.heap_1 p) mainGlobals "Trimmer" = some (some (.ref 184)) := by kernel_rfl
theorem kp_Trimmer (p) : keepIn (hd.heap_1 p) (.ref 184) = true := by kernel_rfl
theorem gs_ProofFault (p) : nsIn (hd.heap_1 p) mainGlobals "ProofFault" = some (some (.ref 69)) := by kernel_rfl
theorem kp_ProofFault (p) : keepIn (hd.heap_1 p) (.ref 69) = true := by kernel_rfl
theorem gs_len (p) : nsIn (hd.heap_1 p) mainGlobals "len" = some none := by kernel_rfl
theorem bb_len : bootBuiltins "len" = some (.builtin "len") := by kernel_rfl
theorem gs_range (p) : nsIn (hd.heap_1 p) mainGlobals "range" = some none := by kernel_rfl
theorem gs_list (p) : nsIn (hd.heap_1 p) mainGlobals "list" = some none := by kernel_rfl
theorem bb_list : bootBuiltins "list" = some (.type "list") := by kernel_rfl
theorem gs_tuple (p) : nsIn (hd.heap_1 p) mainGlobals "tuple" = some none := by kernel_rfl
theorem bb_tuple : bootBuiltins "tuple" = some (.type "tuple") := by kernel_rfl
theorem gs_isinstance (p) : nsIn (hd.heap_1 p) mainGlobals "isinstance" = some none := by kernel_rfl
theorem bb_isinstance : bootBuiltins "isinstance" = some (.builtin "isinstance") := by kernel_rfl
theorem gs_repr (p) : nsIn (hd.heap_1 p) mainGlobals "repr" = some none := by kernel_rfl
theorem bb_repr : bootBuiltins "repr" = some (.builtin "repr") := by kernel_rfl
theorem gs_sorted (p) : nsIn (hd.heap_1 p) mainGlobals "sorted" = some none := by kernel_rfl
theorem bb_sorted : bootBuiltins "sorted" = some (.builtin "sorted") := by kernel_rfl
theorem gs_enumerate (p) : nsIn (hd.heap_1 p) mainGlobals "enumerate" = some none := by kernel_rfl
theorem bb_enumerate : bootBuiltins "enumerate" = some (.type "enumerate") := by kernel_rfl
theorem gs_set (p) : nsIn (hd.heap_1 p) mainGlobals "set" = some none := by kernel_rfl
theorem bb_set : bootBuiltins "set" = some (.type "set") := by kernel_rfl
theorem gs_abs (p) : nsIn (hd.heap_1 p) mainGlobals "abs" = some none := by kernel_rfl
theorem bb_abs : bootBuiltins "abs" = some (.builtin "abs") := by kernel_rfl
theorem gs_int (p) : nsIn (hd.heap_1 p) mainGlobals "int" = some none := by kernel_rfl
theorem bb_int : bootBuiltins "int" = some (.type "int") := by kernel_rfl
theorem gs_bool (p) : nsIn (hd.heap_1 p) mainGlobals "bool" = some none := by kernel_rfl
theorem bb_bool : bootBuiltins "bool" = some (.type "bool") := by kernel_rfl
-- methods
theorem fa138_clauses (p) : findIn (hd.heap_1 p) (.ref 138) "clauses" = some none := by kernel_rfl
theorem tk138_clauses (p) : takerIn (hd.heap_1 p) 138 "clauses" = some none := by kernel_rfl
theorem fa184_clauses (p) : findIn (hd.heap_1 p) (.ref 184) "clauses" = some none := by kernel_rfl
theorem tk184_clauses (p) : takerIn (hd.heap_1 p) 184 "clauses" = some none := by kernel_rfl
theorem fa138_places (p) : findIn (hd.heap_1 p) (.ref 138) "places" = some none := by kernel_rfl
theorem tk138_places (p) : takerIn (hd.heap_1 p) 138 "places" = some none := by kernel_rfl
theorem fa184_places (p) : findIn (hd.heap_1 p) (.ref 184) "places" = some none := by kernel_rfl
theorem tk184_places (p) : takerIn (hd.heap_1 p) 184 "places" = some none := by kernel_rfl
theorem fa138_held (p) : findIn (hd.heap_1 p) (.ref 138) "held" = some none := by kernel_rfl
theorem tk138_held (p) : takerIn (hd.heap_1 p) 138 "held" = some none := by kernel_rfl
theorem fa184_held (p) : findIn (hd.heap_1 p) (.ref 184) "held" = some none := by kernel_rfl
theorem tk184_held (p) : takerIn (hd.heap_1 p) 184 "held" = some none := by kernel_rfl
theorem fa138_open (p) : findIn (hd.heap_1 p) (.ref 138) "open" = some none := by kernel_rfl
theorem tk138_open (p) : takerIn (hd.heap_1 p) 138 "open" = some none := by kernel_rfl
theorem fa184_open (p) : findIn (hd.heap_1 p) (.ref 184) "open" = some none := by kernel_rfl
theorem tk184_open (p) : takerIn (hd.heap_1 p) 184 "open" = some none := by kernel_rfl
theorem fa138_begun (p) : findIn (hd.heap_1 p) (.ref 138) "begun" = some none := by kernel_rfl
theorem tk138_begun (p) : takerIn (hd.heap_1 p) 138 "begun" = some none := by kernel_rfl
theorem fa184_begun (p) : findIn (hd.heap_1 p) (.ref 184) "begun" = some none := by kernel_rfl
theorem tk184_begun (p) : takerIn (hd.heap_1 p) 184 "begun" = some none := by kernel_rfl
theorem fa138_empty (p) : findIn (hd.heap_1 p) (.ref 138) "empty" = some none := by kernel_rfl
theorem tk138_empty (p) : takerIn (hd.heap_1 p) 138 "empty" = some none := by kernel_rfl
theorem fa184_empty (p) : findIn (hd.heap_1 p) (.ref 184) "empty" = some none := by kernel_rfl
theorem tk184_empty (p) : takerIn (hd.heap_1 p) 184 "empty" = some none := by kernel_rfl
theorem fa138_taken (p) : findIn (hd.heap_1 p) (.ref 138) "taken" = some none := by kernel_rfl
theorem tk138_taken (p) : takerIn (hd.heap_1 p) 138 "taken" = some none := by kernel_rfl
theorem fa184_taken (p) : findIn (hd.heap_1 p) (.ref 184) "taken" = some none := by kernel_rfl
theorem tk184_taken (p) : takerIn (hd.heap_1 p) 184 "taken" = some none := by kernel_rfl
theorem fa138_trail (p) : findIn (hd.heap_1 p) (.ref 138) "trail" = some none := by kernel_rfl
theorem tk138_trail (p) : takerIn (hd.heap_1 p) 138 "trail" = some none := by kernel_rfl
theorem fa184_trail (p) : findIn (hd.heap_1 p) (.ref 184) "trail" = some none := by kernel_rfl
theorem tk184_trail (p) : takerIn (hd.heap_1 p) 184 "trail" = some none := by kernel_rfl
theorem fa138_clash (p) : findIn (hd.heap_1 p) (.ref 138) "clash" = some none := by kernel_rfl
theorem tk138_clash (p) : takerIn (hd.heap_1 p) 138 "clash" = some none := by kernel_rfl
theorem fa184_clash (p) : findIn (hd.heap_1 p) (.ref 184) "clash" = some none := by kernel_rfl
theorem tk184_clash (p) : takerIn (hd.heap_1 p) 184 "clash" = some none := by kernel_rfl
theorem fm138_add (p) : findIn (hd.heap_1 p) (.ref 138) "add" = some (some (.ref 99)) := by kernel_rfl
theorem fm184_add (p) : findIn (hd.heap_1 p) (.ref 184) "add" = some (some (.ref 99)) := by kernel_rfl
theorem fm138_last_of (p) : findIn (hd.heap_1 p) (.ref 138) "last_of" = some (some (.ref 104)) := by kernel_rfl
theorem fm184_last_of (p) : findIn (hd.heap_1 p) (.ref 184) "last_of" = some (some (.ref 104)) := by kernel_rfl
theorem fm138_take (p) : findIn (hd.heap_1 p) (.ref 138) "take" = some (some (.ref 111)) := by kernel_rfl
theorem fm184_take (p) : findIn (hd.heap_1 p) (.ref 184) "take" = some (some (.ref 111)) := by kernel_rfl
theorem fm138_run (p) : findIn (hd.heap_1 p) (.ref 138) "run" = some (some (.ref 116)) := by kernel_rfl
theorem fm184_run (p) : findIn (hd.heap_1 p) (.ref 184) "run" = some (some (.ref 116)) := by kernel_rfl
theorem fm138_undo (p) : findIn (hd.heap_1 p) (.ref 138) "undo" = some (some (.ref 123)) := by kernel_rfl
theorem fm184_undo (p) : findIn (hd.heap_1 p) (.ref 184) "undo" = some (some (.ref 123)) := by kernel_rfl
theorem fm138_forced (p) : findIn (hd.heap_1 p) (.ref 138) "forced" = some (some (.ref 130)) := by kernel_rfl
theorem fm184_forced (p) : findIn (hd.heap_1 p) (.ref 184) "forced" = some (some (.ref 130)) := by kernel_rfl
theorem fm138_follows (p) : findIn (hd.heap_1 p) (.ref 138) "follows" = some (some (.ref 135)) := by kernel_rfl
theorem fm184_follows (p) : findIn (hd.heap_1 p) (.ref 184) "follows" = some (some (.ref 135)) := by kernel_rfl
theorem ty_add (p) : typeIn (hd.heap_1 p) (.ref 99) = some (.type "function") := by kernel_rfl
theorem kp_add (p) : keepIn (hd.heap_1 p) (.ref 99) = true := by kernel_rfl
theorem ty_last_of (p) : typeIn (hd.heap_1 p) (.ref 104) = some (.type "function") := by kernel_rfl
theorem kp_last_of (p) : keepIn (hd.heap_1 p) (.ref 104) = true := by kernel_rfl
theorem ty_take (p) : typeIn (hd.heap_1 p) (.ref 111) = some (.type "function") := by kernel_rfl
theorem kp_take (p) : keepIn (hd.heap_1 p) (.ref 111) = true := by kernel_rfl
theorem ty_run (p) : typeIn (hd.heap_1 p) (.ref 116) = some (.type "function") := by kernel_rfl
theorem kp_run (p) : keepIn (hd.heap_1 p) (.ref 116) = true := by kernel_rfl
theorem ty_undo (p) : typeIn (hd.heap_1 p) (.ref 123) = some (.type "function") := by kernel_rfl
theorem kp_undo (p) : keepIn (hd.heap_1 p) (.ref 123) = true := by kernel_rfl
theorem ty_forced (p) : typeIn (hd.heap_1 p) (.ref 130) = some (.type "function") := by kernel_rfl
theorem kp_forced (p) : keepIn (hd.heap_1 p) (.ref 130) = true := by kernel_rfl
theorem ty_follows (p) : typeIn (hd.heap_1 p) (.ref 135) = some (.type "function") := by kernel_rfl
theorem kp_follows (p) : keepIn (hd.heap_1 p) (.ref 135) = true := by kernel_rfl
theorem ty_behind_clash (p) : typeIn (hd.heap_1 p) (.ref 170) = some (.type "function") := by kernel_rfl
theorem kp_behind_clash (p) : keepIn (hd.heap_1 p) (.ref 170) = true := by kernel_rfl
theorem ty_used_for (p) : typeIn (hd.heap_1 p) (.ref 175) = some (.type "function") := by kernel_rfl
theorem kp_used_for (p) : keepIn (hd.heap_1 p) (.ref 175) = true := by kernel_rfl
theorem ty_trimmed (p) : typeIn (hd.heap_1 p) (.ref 181) = some (.type "function") := by kernel_rfl
theorem kp_trimmed (p) : keepIn (hd.heap_1 p) (.ref 181) = true := by kernel_rfl
structure Pk (C : Cx) (n : Nat) : Prop where
  K : C.W.K = hd.heap_1 C.W.w.params
  h : C.A.handled = none
  d : C.A.depth + n ≤ 900
  u : C.A.units + 10 * n ≤ 9000
section
variable {C : Cx} {n : Nat} {fs : FS}
theorem Pk.lk (P : Pk C n) {a : Addr} {o : Obj} (h : (hd.heap_1 C.W.w.params).lookup a = some o) : C.W.K.lookup a = some o := by rw [P.K]; exact h
theorem Pk.to (P : Pk C n) {p : Frag → Prop} (h : p (hd.heap_1 C.W.w.params)) : p C.W.K := by rw [P.K]; exact h
theorem Pk.le (P : Pk C n) {m : Nat} (h : m ≤ n) : Pk C m := ⟨P.K, P.h, by have := P.d; lia, by have := P.u; lia⟩
theorem Pk.cu (P : Pk C n) : C.A.units < cLine := by have := P.u; have : cLine = 9900 := rfl; lia
theorem Pk.ce (P : Pk C n) {scope : Scope} {cl : List (Str × Addr)} {L : Addr} : Pk (CE C scope cl L) n := ⟨P.K, P.h, P.d, P.u⟩
abbrev Cx.dn (C : Cx) (env : Env) : Cx := ⟨C.W, C.A.deeper env, env, true⟩
theorem Pk.dn (P : Pk C (n + 1)) (env : Env) : Pk (C.dn env) n := ⟨P.K, P.h, by have := P.d; simp only [Around.deeper]; lia, by have := P.u; simp only [Around.deeper]; lia⟩
theorem Pk.ns (P : Pk C n) {x : Str} {r : Option (Option Value)} (h : nsIn (hd.heap_1 C.W.w.params) mainGlobals x = r) : nsIn C.W.K mainGlobals x = r := by rw [P.K]; exact h
theorem Pk.kp (P : Pk C n) {v : Value} (h : keepIn (hd.heap_1 C.W.w.params) v = true) : keepIn C.W.K v = true := by rw [P.K]; exact h
theorem xq_ret {C : Cx} {rest : List PySem.Stmt} {Q : Fw → FS → Prop} {v : V} {f : FS} (h : Q (.ret v) f) : XQ C rest Q (.ret v) f := h
theorem call_d (P : Pk C (n + 1)) {f : Addr} {name qual : Str} {params : Arguments} {body : List Stmt} {scope : Scope} {dV kV doc pm cdv ct oc : Value} {an od : Option Addr} {osl : Array (Option Value)}
    {ns : List Str} {vals : List V} {Q : V → FS → Prop}
    (hK : (hd.heap_1 C.W.w.params).lookup f = some ⟨oc, od, .func (fnX name qual params body scope [] dV kV doc pm an cdv ct), osl⟩)
    (hcd : codeIn (hd.heap_1 C.W.w.params) cdv qual = true)
    (hbind : ∀ xs : List Value, xs.length = ns.length → bindArgs (fnX name qual params body scope [] dV kV doc pm an cdv ct) ⟨xs, []⟩ = pure (ns.zip xs)) (hlen : vals.length = ns.length)
    (hkind : ∀ x ∈ ns, scope.names.lookup x = some .local ∨ (scope.names.lookup x = some .cell ∧ x ∈ (cellsFrom 0 scope.names []).map (·.1)))
    (hnd : ((cellsFrom 0 scope.names []).map (·.1)).Nodup)
    (h : ∀ L, Pk (C.dn (fnEnv qual scope [] f cdv L)) n → XSA (C.dn (fnEnv qual scope [] f cdv L)) body body (fun fl f' => Q fl.val { fs with σ := f'.σ })
      ⟨bm (fnEnv qual scope [] f cdv L).kindOf (ns.zip vals) [], bk (fnEnv qual scope [] f cdv L).kindOf (ns.zip vals) [], fs.σ⟩)
    (hco : scope.isCoroutine = false := by rfl) (hgen : scope.isGenerator = false := by rfl) (hk : scope.kind = .function := by rfl) : CD C (.ref f) vals Q fs := by
  refine call_fn (clN := []) (k0 := []) (P.lk hK) (P.to (p := fun K => codeIn K cdv qual = true) hcd) ?_ hbind hlen hkind (fun x c m => by cases m) rfl (by simp) (fun x v e => by cases e) hnd (fun L => h L (P.dn _)) hco hgen hk
  have := P.d; have : recursionLimit = 1000 := rfl; lia
end
-- one step of a walk
end
local macro_rules | `(tactic| walk_at "ru ne") => `(tactic| first | assumption | exact Ne.symm (by assumption) | (simp [*]; done))
local macro_rules | `(tactic| walk_at "ru l0") => `(tactic| first
  | with_reducible assumption
  | with_reducible exact li_same
  | with_reducible exact dm_same
  | with_reducible exact ob_same
  | ((with_reducible apply li_dm); walk_at "ru l0")
  | ((with_reducible apply li_ob); walk_at "ru l0")
  | ((with_reducible apply dm_li); walk_at "ru l0")
  | ((with_reducible apply dm_ob); walk_at "ru l0")
  | ((with_reducible apply ob_li); walk_at "ru l0")
  | ((with_reducible apply ob_dm); walk_at "ru l0")
  | ((with_reducible apply li_ne); (focus (walk_at "ru ne")); walk_at "ru l0")
  | ((with_reducible apply dm_ne); (focus (walk_at "ru ne")); walk_at "ru l0")
  | ((with_reducible apply ob_ne); (focus (walk_at "ru ne")); walk_at "ru l0")
  | assumption)
local macro_rules | `(tactic| walk_at "ru lk") => `(tactic| first | walk_at "ru l0" | eq_refl)
local macro_rules | `(tactic| walk_at "ru len") => `(tactic| first | (simp; done) | (simp; lia) | lia)
local macro_rules | `(tactic| walk_at "ru all") => `(tactic| repeat (first | exact trivial | refine ⟨by rfl, ?_⟩))
local macro_rules | `(tactic| walk_at "ru cl") => `(tactic| repeat (first | exact sub_nil | refine sub_cons (by first | exact .head _ | exact .tail _ (.head _) | exact .tail _ (.tail _ (.head _)) | exact .tail _ (.tail _ (.tail _ (.head _)))) ?_))
noncomputable section
open PySem PySem.W PySem.Calls PyProof.Rows PySem.SeqAt
-- the walks
theorem next_d {C : Cx} {n : Nat} (P : Pk C (n + 1)) {fs : FS} {d l : Addr} {cells : List Int} {spot wide : Int} {Q : V → FS → Prop}
    (e : fs.σ.dm d = some (.ds [("cells", .ref l), ("spot", .int spot)])) (el : fs.σ.li l = some (cells.map .int)) (hl : cells.length ≤ 63) (h0 : 0 ≤ spot) (h1 : spot ≤ 1000) (hw : 0 < wide)
    (h : ∀ r : Int, 0 ≤ r → r < wide → Q (.int r) { fs with σ := fs.σ.setDm d (.ds [("cells", .ref l), ("spot", .int (spot + 1))]) }) : CD C (.ref 193) [.ref d, .int wide] Q fs := by
  refine call_d P (ns := ["feed", "wide"]) rfl (by rfl) (of2 fun zz zz => rfl) rfl (by decide) (by decide) (fun L P' => ?_)
  refine XS.at ?_
  (refine xs_cons ?_; refine xv_name ?_; refine ev_sub ?_; refine ev_loc (by eq_refl) ?_; refine ev_str ?_; refine ds_get2 (by walk_at "ru lk") (by decide) ?_; refine st_loc ?_; refine xs_cons ?_; refine xv_sub ?_; refine ev_bin ?_; refine ev_loc (by eq_refl) ?_; refine ev_int ?_; refine op_add ?_; refine ev_loc (by eq_refl) ?_; refine ev_str ?_; refine ds_set2 (by walk_at "ru lk") (by decide) ?_; refine xs_cons ?_; refine xv_if ?_; refine tv_cmp ?_; refine ev_loc (by eq_refl) ?_; refine ev_bcall (by exact Pk.ns (by assumption) (by exact gs_len _)) (by exact bb_len) ?_; refine spl_cons ?_; refine ev_sub ?_; refine ev_loc (by eq_refl) ?_; refine ev_str ?_; refine ds_get1 (by walk_at "ru lk") ?_; refine spl_nil ?_; refine cl_len (by walk_at "ru lk") (by walk_at "ru len") ?_; refine cm_lt ?_)
  refine ⟨fun hb => ?_, fun hb => ?_⟩
  · (refine xs_cons ?_; refine xv_ret ?_; refine ev_bin ?_; refine ev_sub ?_; refine ev_sub ?_; refine ev_loc (by eq_refl) ?_; refine ev_str ?_; refine ds_get1 (by walk_at "ru lk") ?_; refine ev_loc (by eq_refl) ?_)
    simp only [decide_eq_true_eq, List.length_map] at hb
    refine op_getL (vs := cells.map .int) (v := .int (cells[spot.toNat]'(by lia))) (by walk_at "ru lk") h0 (by lia) (by simp) ?_
    (refine ev_loc (by eq_refl) ?_; refine op_mod (by lia) ?_; with_reducible refine xq_ret ?_; with_reducible refine xq_ret ?_)
    exact h _ (Int.fmod_nonneg_of_pos _ hw) (Int.fmod_lt_of_pos _ hw)
  · (refine xs_nil ?_; refine xs_cons ?_; refine xv_ret ?_; refine ev_bin ?_; refine ev_bin ?_; refine ev_bin ?_; refine ev_bin ?_; refine ev_bin ?_; refine ev_bin ?_; refine ev_bin ?_; refine ev_int ?_; refine ev_loc (by eq_refl) ?_; refine op_mul (by first | exact .of_right (intBits_le_64 (by lia) (by lia)) | exact .of_left (intBits_le_64 (by lia) (by lia))) ?_; refine ev_loc (by eq_refl) ?_; refine op_mul (by first | exact .of_right (intBits_le_64 (by lia) (by lia)) | exact .of_left (intBits_le_64 (by lia) (by lia))) ?_; refine ev_bin ?_; refine ev_int ?_; refine ev_loc (by eq_refl) ?_; refine op_mul (by first | exact .of_right (intBits_le_64 (by lia) (by lia)) | exact .of_left (intBits_le_64 (by lia) (by lia))) ?_; refine op_add ?_; refine ev_int ?_; refine op_add ?_; refine ev_bcall (by exact Pk.ns (by assumption) (by exact gs_len _)) (by exact bb_len) ?_; refine spl_cons ?_; refine ev_sub ?_; refine ev_loc (by eq_refl) ?_; refine ev_str ?_; refine ds_get1 (by walk_at "ru lk") ?_; refine spl_nil ?_; refine cl_len (by walk_at "ru lk") (by walk_at "ru len") ?_; refine op_add ?_; refine ev_int ?_; refine op_mod (by lia) ?_; refine ev_loc (by eq_refl) ?_; refine op_mod (by lia) ?_; with_reducible refine xq_ret ?_)
    exact h _ (Int.fmod_nonneg_of_pos _ hw) (Int.fmod_lt_of_pos _ hw)
end
-- RX
noncomputable section
open PySem PySem.W PySem.Calls PyProof.Rows PySem.SeqAt
structure FS.Le (f g : FS) : Prop where
  m : ∀ x v, f.m.lookup x = some v → g.m.lookup x = some v
  k : ∀ x v, f.k.lookup x = some v → g.k.lookup x = some v
  σ : f.σ.Le g.σ
theorem FS.Le.refl {f : FS} : FS.Le f f := ⟨fun zz zz e => e, fun zz zz e => e, HS.Le.refl⟩
theorem FS.Le.of {m k : List (Str × V)} {σ τ : HS} (h : σ.Le τ) : FS.Le ⟨m, k, σ⟩ ⟨m, k, τ⟩ := ⟨fun zz zz e => e, fun zz zz e => e, h⟩
theorem FR.le {C : Cx} {R : Addr → Option Obj} {f g : FS} {s : Shared} (F : FR C R g s) (l : FS.Le f g) : FR C R f s := by
  obtain ⟨mv, n, e⟩ := F.loc
  exact ⟨F.gens, F.os, F.base, F.rk, F.hr.le l.σ, F.rl, ⟨mv, n, fun x v q => e x v (l.m x v q)⟩, fun x c m => by
    obtain ⟨v₀, i, e⟩ := F.cells x c m
    exact ⟨v₀, i, fun v q => e v (l.k x v q)⟩, F.apart, F.names, F.co⟩
section
variable {C : Cx} {fs : FS} {α β : Type} {rel : Heap → β → α → Prop}
inductive WkQ {β : Type} (Q : β → FS → Prop) (b : β) (f : FS) : Prop | mk (f' : FS) (l : FS.Le f' f) (q : Q b f')
theorem po_weak {R s₀} {Q : β → FS → Prop} {a : α} {s : Shared} (x : PO C R s₀ rel (WkQ Q) a s) : PO C R s₀ rel Q a s := by
  obtain ⟨b, f, F, t, r, f', l, q⟩ := x; exact ⟨b, f', F.le l, t, r, q⟩
theorem WP.weak {t : Sem α} {Q : β → FS → Prop} (h : WP C rel t (WkQ Q) fs) : WP C rel t Q fs :=
  fun R s F => wpAny_mono (h R s F) (fun zz zz x => po_weak x) fun zz zz z => z
theorem WP.pre {t : Sem α} {Q : β → FS → Prop} {f : FS} (h : WP C rel t Q f) (l : FS.Le f fs) : WP C rel t Q fs := fun R s F => h R s (F.le l)
end
section
variable {σ τ : HS} {a b : Addr} {x y : List V} {d d' : D}
theorem setLi_setLi : (σ.setLi a x).setLi a y = σ.setLi a y := by
  simp only [HS.setLi, HS.mk.injEq, and_true]; funext z; simp only [upd]; split <;> rfl
theorem setDm_setDm : (σ.setDm a d).setDm a d' = σ.setDm a d' := by
  simp only [HS.setDm, HS.mk.injEq, and_true, true_and]; funext z; simp only [upd]; split <;> rfl
theorem HS.Le.offLi (h : σ.Le τ) (e : σ.li a = none) : σ.Le (τ.setLi a x) := ⟨fun b y q => by
  by_cases hb : b = a
  · subst hb; rw [e] at q; cases q
  · simp only [HS.setLi, upd, if_neg hb]; exact h.li b y q, h.dm, h.ob, h.st⟩
theorem HS.Le.offDm (h : σ.Le τ) (e : σ.dm a = none) : σ.Le (τ.setDm a d) := ⟨h.li, fun b y q => by
  by_cases hb : b = a
  · subst hb; rw [e] at q; cases q
  · simp only [HS.setDm, upd, if_neg hb]; exact h.dm b y q, h.ob, h.st⟩
theorem HS.Le.offOb {o : Addr × Addr} (h : σ.Le τ) (e : σ.ob a = none) : σ.Le (τ.setOb a o) := ⟨h.li, h.dm, fun b y q => by
  by_cases hb : b = a
  · subst hb; rw [e] at q; cases q
  · simp only [HS.setOb, upd, if_neg hb]; exact h.ob b y q, h.st⟩
theorem HS.Le.onLi (h : σ.Le τ) : (σ.setLi a x).Le (τ.setLi a x) := ⟨fun b y q => by
  by_cases hb : b = a
  · subst hb; simpa [HS.setLi, upd] using q
  · simp only [HS.setLi, upd, if_neg hb] at q ⊢; exact h.li b y q, h.dm, h.ob, h.st⟩
theorem HS.Le.onDm (h : σ.Le τ) : (σ.setDm a d).Le (τ.setDm a d) := ⟨h.li, fun b y q => by
  by_cases hb : b = a
  · subst hb; simpa [HS.setDm, upd] using q
  · simp only [HS.setDm, upd, if_neg hb] at q ⊢; exact h.dm b y q, h.ob, h.st⟩
theorem HS.Le.fresh (h : σ.Le τ) (f : τ.Fresh a) : σ.Fresh a := by
  refine ⟨?_, ?_, ?_, ?_⟩
  · cases q : σ.li a with
    | none => rfl
    | some v => have := h.li a v q; rw [f.li] at this; cases this
  · cases q : σ.dm a with
    | none => rfl
    | some v => have := h.dm a v q; rw [f.dm] at this; cases this
  · cases q : σ.ob a with
    | none => rfl
    | some v => have := h.ob a v q; rw [f.ob] at this; cases this
  · cases q : σ.st a with
    | none => rfl
    | some v => have := h.st a v q; rw [f.st] at this; cases this
end
def AllIn (big : List (Str × V)) : List (Str × V) → Prop
  | [] => True
  | (k, v) :: r => big.lookup k = some v ∧ AllIn big r
theorem AllIn.le {big : List (Str × V)} : ∀ {small : List (Str × V)}, AllIn big small → ∀ x v, small.lookup x = some v → big.lookup x = some v
  | [], _, x, v, e => by cases e
  | (k, w) :: r, ⟨h, t⟩, x, v, e => by
    rw [List.lookup_cons] at e
    by_cases hx : x = k
    · subst hx; simp only [beq_self_eq_true] at e; cases e; exact h
    · rw [beq_eq_false_iff_ne.mpr hx] at e; exact t.le x v e
theorem FS.Le.mk' {m k m' k' : List (Str × V)} {σ τ : HS} (h1 : AllIn m' m) (h2 : AllIn k' k) (h3 : σ.Le τ) : FS.Le ⟨m, k, σ⟩ ⟨m', k', τ⟩ := ⟨h1.le, h2.le, h3⟩
theorem FS.Le.mk2 {m m' : List (Str × V)} {k : List (Str × V)} {σ τ : HS} (h1 : AllIn m' m) (h3 : σ.Le τ) : FS.Le ⟨m, k, σ⟩ ⟨m', k, τ⟩ := ⟨h1.le, fun zz zz e => e, h3⟩
section
variable {C : Cx} {fs : FS} {α β : Type} {rel : Heap → β → α → Prop}
inductive ForB (C : Cx) (t : PySem.Expr) (body : List PySem.Stmt) (Q : Fw → FS → Prop) (vs : List V) (ok : HS → Prop) (f : FS) : Prop
  | mk (Inv : Nat → FS → Prop) (h0 : Inv 0 f) (h1 : ∀ i f, Inv i f → ok f.σ)
      (h2 : ∀ i v f, vs[i]? = some v → Inv i f → ∀ G : Fw → FS → Prop, OutTo (WkQ (LQ (Inv (i + 1)) Q)) G → AS C t v (fun zz f => XS C body G f) f) (h3 : ∀ f, Inv vs.length f → Q .next f)
theorem xv_forW {t iter : PySem.Expr} {body : List PySem.Stmt} {pos : Pos} {Q : Fw → FS → Prop} (hh : C.A.handled = none)
    (h : SR C iter (ForB C t body Q) fs)
    (hs : ∀ x, foldedSetIterable iter C.env x = pure x := by intro _; rfl) (ht : ∀ it v, letOwnedTupleGo t it v = pure () := by intro _ _; rfl) : XV C (.For t iter body [] pos) Q fs := by
  refine xv_for hh (fun R s Q' F k => h R s Q' F fun it hid vs ok P s' f I p F1 t1 n ok0 q => k it hid vs ok P s' f I p F1 t1 n ok0 ?_) hs ht
  obtain ⟨Inv, h0, h1, h2, h3⟩ := q
  refine ⟨Inv, h0, h1, fun i v f hv hi => (h2 i v f hv hi _ ⟨fun zz zz z => z⟩).mono fun zz f x => WP.mono (WP.weak x) fun fl f' z => ?_, h3⟩
  cases fl <;> exact z
theorem xv_whileW {test : PySem.Expr} {body : List PySem.Stmt} {pos : Pos} {Q : Fw → FS → Prop} (Inv : Nat → FS → Prop) (n : Nat) (h0 : Inv n fs)
    (step : ∀ n f, Inv n f → ∀ G : Fw → FS → Prop, OutTo (WkQ (LQ (fun f => ∃ m, m < n ∧ Inv m f) Q)) G → ∀ G' : Fw → FS → Prop, OutTo (WkQ Q) G' → TV C test (fun b f1 => (b = true → XS C body G f1) ∧ (b = false → G' .next f1)) f) :
    XV C (.While test body [] pos) Q fs := by
  refine WP.weak (xv_while Inv n h0 fun n f hi => (step n f hi _ ⟨fun zz zz z => z⟩ _ ⟨fun zz zz z => z⟩).mono fun b f1 x => ⟨fun hb => WP.mono (WP.weak (x.1 hb)) fun fl f' z => ?_, fun hb => x.2 hb⟩)
  cases fl with
  | next => exact z
  | cont => exact z
  | brk => exact ⟨_, ⟨fun _ _ e => e, fun _ _ e => e, HS.Le.refl⟩, z⟩
  | ret v => exact ⟨_, ⟨fun _ _ e => e, fun _ _ e => e, HS.Le.refl⟩, z⟩
end
end
-- RY
noncomputable section
open PySem PySem.W PySem.Calls PyProof.Rows PySem.SeqAt
abbrev cv (c : List Int) : V := .tup (c.map .int)
def Asc (c : List Int) : Prop := (c.map Int.natAbs).Pairwise (· < ·) ∧ ∀ l ∈ c, l ≠ 0
def Sm (c : List Int) : Prop := ∀ l ∈ c, l.natAbs ≤ 3
abbrev feedD (l : Addr) (spot : Int) : D := .ds [("cells", .ref l), ("spot", .int spot)]
structure Fd (σ : HS) (d l : Addr) (spot : Int) : Prop where
  d : σ.dm d = some (feedD l spot)
  l : ∃ cells : List Int, σ.li l = some (cells.map .int) ∧ cells.length ≤ 63
  h0 : 0 ≤ spot
theorem Fd.step {σ : HS} {d l : Addr} {spot : Int} (F : Fd σ d l spot) : Fd (σ.setDm d (feedD l (spot + 1))) d l (spot + 1) :=
  ⟨by simp [HS.setDm, upd], F.l, by have := F.h0; lia⟩
theorem setInt {σ : HS} {D : Addr} {acc : List Int} {w : Int} : σ.setLi D (acc.map .int ++ [.int w]) = σ.setLi D ((acc ++ [w]).map .int) := by simp
theorem next_f {C : Cx} {n : Nat} (P : Pk C (n + 1)) {fs : FS} {d l : Addr} {spot wide : Int} {Q : V → FS → Prop} (F : Fd fs.σ d l spot) (h1 : spot ≤ 1000) (hw : 0 < wide)
    (h : ∀ r : Int, 0 ≤ r → r < wide → Q (.int r) { fs with σ := fs.σ.setDm d (feedD l (spot + 1)) }) : CD C (.ref 193) [.ref d, .int wide] Q fs := by
  obtain ⟨cells, e1, e2⟩ := F.l
  exact next_d P F.d e1 e2 F.h0 h1 hw h
inductive ClI (σ : HS) (d l D : Addr) (spot : Int) (i : Nat) : FS → Prop
  | mk (num : Int) (acc : List Int) (h0 : 0 ≤ num) (h1 : num < 27) (h2 : (acc.map Int.natAbs).Pairwise (· < ·)) (h3 : ∀ a ∈ acc, 1 ≤ a.natAbs ∧ a.natAbs ≤ i) (h4 : acc.length ≤ i) (h5 : i ≤ 3) :
    ClI σ d l D spot i ⟨[("number", .int num), ("found", .ref D), ("feed", .ref d)], [], (σ.setDm d (feedD l (spot + 1))).setLi D (acc.map .int)⟩
theorem clause_d {C : Cx} {n : Nat} (P : Pk C (n + 2)) {fs : FS} {d l : Addr} {spot : Int} {Q : V → FS → Prop} (F : Fd fs.σ d l spot) (h1 : spot ≤ 1000)
    (h : ∀ c, Asc c → Sm c → Q (cv c) { fs with σ := fs.σ.setDm d (feedD l (spot + 1)) }) : CD C (.ref 200) [.ref d] Q fs := by
  refine call_d P (ns := ["feed"]) rfl (by rfl) (of1 fun zz => rfl) rfl (by decide) (by decide) (fun L P' => ?_)
  refine XS.at (WP.weak ?_)
  (refine xs_cons ?_; refine xv_swap2 (Pk.h (by assumption)) ?_; refine ev_tuple ?_; refine spl_cons ?_; refine ev_gcall (by exact Pk.ns (by assumption) (by exact gs_law_next _)) (by exact Pk.kp (by assumption) (by exact kp_law_next _)) ?_; refine spl_cons ?_; refine ev_loc (by eq_refl) ?_; refine spl_cons ?_; refine ev_int ?_; refine spl_nil ?_)
  refine next_f (wide := 27) P' F h1 (by decide) (fun r hr0 hr1 => ?_)
  (refine spl_cons ?_; refine ev_list ?_; refine spl_nil ?_)
  refine ⟨by simp, fun D fr => ?_⟩
  (refine spl_nil ?_)
  refine ⟨by simp, ?_⟩
  (refine ⟨_, _, rfl, ?_⟩; refine st_loc ?_; refine st_loc ?_; refine xs_cons ?_)
  refine xv_forW P'.h (sr_of ?_)
  (refine ev_tuple ?_; refine spl_cons ?_; refine ev_int ?_; refine spl_cons ?_; refine ev_int ?_; refine spl_cons ?_; refine ev_int ?_; refine spl_nil ?_; refine ⟨by walk_at "ru len", ?_⟩; refine sv_tup ?_)
  refine ⟨ClI fs.σ d l D spot, ⟨r, [], hr0, hr1, .nil, by simp, by simp, by simp⟩, fun zz zz zz => trivial, ?_, ?_⟩
  · rintro i v f hv ⟨num, acc, h0, h1, h2, h3, h4, h5⟩ Gq hGq
    obtain ⟨hi, rfl⟩ : i < 3 ∧ v = .int ((i : Int) + 1) := by
      match i, hv with
      | 0, hv => cases hv; exact ⟨by decide, rfl⟩
      | 1, hv => cases hv; exact ⟨by decide, rfl⟩
      | 2, hv => cases hv; exact ⟨by decide, rfl⟩
    have q0 : 0 ≤ num.fdiv 3 := Int.fdiv_nonneg h0 (by decide)
    have q1 : num.fdiv 3 < 27 := by rw [Int.fdiv_eq_ediv_of_nonneg _ (by decide)]; lia
    have key : ∀ w : Int, w.natAbs = i + 1 → (((acc ++ [w]).map Int.natAbs).Pairwise (· < ·) ∧ (∀ a ∈ acc ++ [w], 1 ≤ a.natAbs ∧ a.natAbs ≤ i + 1) ∧ (acc ++ [w]).length ≤ i + 1) := fun w hw => by
      refine ⟨?_, ?_, by simp; lia⟩
      · rw [List.map_append, List.pairwise_append]
        refine ⟨h2, by simp, fun a ha b hb => ?_⟩
        obtain ⟨c, hc, rfl⟩ := List.mem_map.mp ha
        simp at hb; subst hb
        have := (h3 c hc).2; lia
      · intro a ha
        rcases List.mem_append.mp ha with ha | ha
        · have := h3 a ha; lia
        · simp at ha; subst ha; lia
    (refine as_name ?_; refine st_loc ?_; refine xs_cons ?_; refine xv_if ?_; refine tv_cmp ?_; refine ev_bin ?_; refine ev_loc (by eq_refl) ?_; refine ev_int ?_; refine op_mod (by lia) ?_; refine ev_int ?_; refine cm_gt ?_)
    refine ⟨fun hb => ?_, fun hb => ?_⟩
    · (refine xs_cons ?_; refine xv_expr ?_; refine ev_meth (fv := .builtin "list.append") ?_; refine ev_loc (by eq_refl) ?_; refine ⟨_, gm_append (by walk_at "ru lk"), kp_builtin, ?_⟩; refine spl_cons ?_; refine ev_ifexp ?_; refine tv_cmp ?_; refine ev_bin ?_; refine ev_loc (by eq_refl) ?_; refine ev_int ?_; refine op_mod (by lia) ?_; refine ev_int ?_; refine cm_eq ?_)
      refine ⟨fun hb2 => ?_, fun hb2 => ?_⟩
      · (refine ev_loc (by eq_refl) ?_; refine spl_nil ?_; refine cl_append (by walk_at "ru lk") (by walk_at "ru len") ?_; refine xs_nil ?_; refine xs_cons ?_; refine xv_name ?_; refine ev_bin ?_; refine ev_loc (by eq_refl) ?_; refine ev_int ?_; refine op_div (by lia) (by exact PyProof.noPylong_of_log2 (by decide)) ?_; refine st_loc ?_; refine xs_nil ?_; refine OutTo.out (by assumption) _ _ ?_)
        exact ⟨_, FS.Le.mk2 (by walk_at "ru all") (by rw [setLi_setLi, setInt]; exact HS.Le.refl), _, acc ++ [(i : Int) + 1], q0, q1, (key _ (by lia)).1, (key _ (by lia)).2.1, (key _ (by lia)).2.2, hi⟩
      · (refine ev_un ?_; refine ev_loc (by eq_refl) ?_; refine op_neg ?_; refine spl_nil ?_; refine cl_append (by walk_at "ru lk") (by walk_at "ru len") ?_; refine xs_nil ?_; refine xs_cons ?_; refine xv_name ?_; refine ev_bin ?_; refine ev_loc (by eq_refl) ?_; refine ev_int ?_; refine op_div (by lia) (by exact PyProof.noPylong_of_log2 (by decide)) ?_; refine st_loc ?_; refine xs_nil ?_; refine OutTo.out (by assumption) _ _ ?_)
        exact ⟨_, FS.Le.mk2 (by walk_at "ru all") (by rw [setLi_setLi, setInt]; exact HS.Le.refl), _, acc ++ [-((i : Int) + 1)], q0, q1, (key _ (by lia)).1, (key _ (by lia)).2.1, (key _ (by lia)).2.2, hi⟩
    · (refine xs_nil ?_; refine xs_cons ?_; refine xv_name ?_; refine ev_bin ?_; refine ev_loc (by eq_refl) ?_; refine ev_int ?_; refine op_div (by lia) (by exact PyProof.noPylong_of_log2 (by decide)) ?_; refine st_loc ?_; refine xs_nil ?_; refine OutTo.out (by assumption) _ _ ?_)
      exact ⟨_, FS.Le.mk2 (by walk_at "ru all") HS.Le.refl, _, acc, q0, q1, h2, fun a ha => ⟨(h3 a ha).1, by have := (h3 a ha).2; lia⟩, by lia, hi⟩
  · rintro f ⟨num, acc, h0, h1, h2, h3, h4, h5⟩
    (refine xs_cons ?_; refine xv_ret ?_; refine ev_tcall (by exact Pk.ns (by assumption) (by exact gs_tuple _)) (by exact bb_tuple) ?_; refine spl_cons ?_; refine ev_loc (by eq_refl) ?_; refine spl_nil ?_)
    refine cl_tupL (by walk_at "ru lk") (by walk_at "ru len") ?_
    exact ⟨_, FS.Le.mk2 (m := []) trivial (HS.Le.refl.offLi fr.li), h _ ⟨h2, fun a ha => by have := (h3 a ha).1; lia⟩ (fun a ha => (h3 a ha).2)⟩
end
-- RZ
noncomputable section
open PySem PySem.W PySem.Calls PyProof.Rows PySem.SeqAt
section
variable {C : Cx} {fs : FS}
inductive LcT (C : Cx) (elt : PySem.Expr) (g : V) (q : Bool) (f : FS) (b : Bool) (f1 : FS) : Prop
  | mk (e : b = q) (e1 : f1 = f) (h : q = true → EV C elt (fun w f2 => w = g ∧ f2 = f) f)
inductive LcB (C : Cx) (x : Str) (elt : PySem.Expr) (ifs : List PySem.Expr) (scope : Scope) (cl : List (Str × Addr)) (QD : Addr → List V → FS → Prop) (vs : List V) (ok : HS → Prop) (f : FS) (D : Addr) : Prop
  | mk (p : V → Bool) (g : V → V) (h1 : ∀ ws, ok (f.σ.setLi D ws)) (hz : vs.length ≤ 1000)
      (h2 : ∀ (L : Addr) (i : Nat) (v : V) (ws : List V), vs[i]? = some v → TS (CE C scope cl L) ifs (LcT (CE C scope cl L) elt (g v) (p v) ⟨[(x, v)], f.k, f.σ.setLi D ws⟩) ⟨[(x, v)], f.k, f.σ.setLi D ws⟩) (h3 : QD D ((vs.filter p).map g) f)
def LcP (C : Cx) (x : Str) (elt : PySem.Expr) (ifs : List PySem.Expr) (scope : Scope) (cl : List (Str × Addr)) (QD : Addr → List V → FS → Prop) (vs : List V) (ok : HS → Prop) (f : FS) : Prop :=
  ∀ D, f.σ.Fresh D → LcB C x elt ifs scope cl QD vs ok f D
theorem lcP_of {x : Str} {elt : PySem.Expr} {ifs : List PySem.Expr} {scope : Scope} {cl : List (Str × Addr)} {QD : Addr → List V → FS → Prop} {vs : List V} {ok : HS → Prop} {f : FS} {Q' : Addr → FS → Prop}
    (h : LcP C x elt ifs scope cl QD vs ok f) (hq : ∀ D ws σ', σ' = f.σ.setLi D ws → QD D ws f → Q' D { f with σ := σ' }) :
    ∀ D, f.σ.Fresh D → ∃ Inv : Nat → FS → Prop, Inv 0 ⟨[], f.k, f.σ.setLi D []⟩ ∧
      (∀ i f', Inv i f' → ok f'.σ) ∧
      (∀ L i v f', vs[i]? = some v → Inv i f' → TS (CE C scope cl L) ifs (fun b f1 => (b = true → EV (CE C scope cl L) elt (fun w f2 => ∃ acc, f2.σ.li D = some acc ∧ acc.length ≤ 1000 ∧ Inv (i + 1) { f2 with σ := f2.σ.setLi D (acc ++ [w]) }) f1) ∧ (b = false → Inv (i + 1) f1)) { f' with m := (x, v) :: f'.m }) ∧
      (∀ f', Inv vs.length f' → Q' D { f with σ := f'.σ }) := fun D fr => by
  obtain ⟨p, g, h1, hz, h2, h3⟩ := h D fr
  refine ⟨fun i f' => f'.k = f.k ∧ f'.σ = f.σ.setLi D (((vs.take i).filter p).map g), ⟨rfl, by simp⟩, fun i f' hi => hi.2 ▸ h1 _, fun L i v f' hv hi => ?_, fun f' hi => hq D _ _ (by rw [hi.2, List.take_length]) h3⟩
  obtain ⟨m', k', σ'⟩ := f'
  obtain ⟨e1, e2⟩ := hi
  dsimp only at e1 e2
  subst e1 e2
  have hlt := (List.getElem?_eq_some_iff.mp hv).1
  have ht : vs.take (i + 1) = vs.take i ++ [v] := by
    rw [List.take_add_one, hv]; rfl
  refine WP.pre (f := ⟨[(x, v)], f.k, f.σ.setLi D (((vs.take i).filter p).map g)⟩) ?_ (FS.Le.mk2 ⟨by simp, trivial⟩ HS.Le.refl)
  refine WP.mono (h2 L i v _ hv) fun b f1 q => ?_
  obtain ⟨rfl, rfl, q⟩ := q
  refine ⟨fun hb => WP.mono (q hb) fun w f2 q2 => ?_, fun hb => ⟨rfl, ?_⟩⟩
  · obtain ⟨rfl, rfl⟩ := q2
    refine ⟨((vs.take i).filter p).map g, by simp [HS.setLi, upd], ?_, rfl, ?_⟩
    · rw [List.length_map]
      have := List.length_filter_le p (vs.take i)
      have := List.length_take_le i vs
      lia
    · dsimp only
      rw [setLi_setLi, ht, List.filter_append, List.map_append]
      simp [hb]
  · dsimp only
    rw [ht, List.filter_append]
    simp [hb]
theorem ev_lcP {x : Str} {px : Pos} {elt iter : PySem.Expr} {ifs : List PySem.Expr} {scope : Scope} {pos : Pos} {cl : List (Str × Addr)} {Q : V → FS → Prop} (hh : C.A.handled = none)
    (hclos : closureFor scope C.env = pure cl) (h : SR C iter (LcP C x elt ifs scope cl (fun D ws f => Q (.ref D) { f with σ := f.σ.setLi D ws })) fs)
    (hcl : ∀ x c, (x, c) ∈ cl → (x, c) ∈ C.env.cells) (nm : (cl.map (·.1)).Nodup) (hkind : scope.kind = .function := by rfl) (hcell : ∀ z ∈ scope.names, z.2 ≠ .cell := by decide)
    (hnames : ∀ z ∈ scope.names, z.2 = .local → scope.names.lookup z.1 = some .local := by decide) (hx : scope.names.lookup x = some .local := by rfl)
    (hs : ∀ x, foldedSetIterable iter C.env x = pure x := by intro _; rfl) : EV C (.ListComp elt [⟨.Name x px, iter, ifs, 0⟩] scope pos) Q fs :=
  ev_lc hh (fun R s Q' F k => h R s Q' F fun it hid vs ok P s' f I p F1 t1 n ok0 q => k it hid vs ok P s' f I p F1 t1 n ok0
    (lcP_of (Q' := fun D f => Q (.ref D) f) q fun D ws σ' e q => by subst e; exact q)) hclos hcl nm hkind hcell hnames hx hs
theorem xv_lcP {x y : Str} {px py : Pos} {elt iter : PySem.Expr} {ifs : List PySem.Expr} {scope : Scope} {pos spos : Pos} {cl : List (Str × Addr)} {Q : Fw → FS → Prop} (hh : C.A.handled = none)
    (hclos : closureFor scope C.env = pure cl) (h : SR C iter (LcP C x elt ifs scope cl (fun D ws f => Q .next { m := (y, .ref D) :: f.m, k := f.k, σ := f.σ.setLi D ws })) fs)
    (hcl : ∀ x c, (x, c) ∈ cl → (x, c) ∈ C.env.cells) (nm : (cl.map (·.1)).Nodup)
    (hsw : swapsWith (.ListComp elt [⟨.Name x px, iter, ifs, 0⟩] scope pos) (some (.Name y py)) spos.line C.env = pure true := by with_unfolding_all rfl)
    (hkind : scope.kind = .function := by rfl) (hcell : ∀ z ∈ scope.names, z.2 ≠ .cell := by decide)
    (hnames : ∀ z ∈ scope.names, z.2 = .local → scope.names.lookup z.1 = some .local := by decide) (hx : scope.names.lookup x = some .local := by rfl)
    (hs : ∀ x, foldedSetIterable iter C.env x = pure x := by intro _; rfl) (hk : C.env.scope.kind = .function := by rfl) (hy : C.env.kindOf y = some .local := by rfl) :
    XV C (.Assign [.Name y py] (.ListComp elt [⟨.Name x px, iter, ifs, 0⟩] scope pos) spos) Q fs :=
  xv_lc hh (fun R s Q' F k => h R s Q' F fun it hid vs ok P s' f I p F1 t1 n ok0 q => k it hid vs ok P s' f I p F1 t1 n ok0
    (lcP_of (Q' := fun D f' => Q .next { m := (y, .ref D) :: f.m, k := f.k, σ := f'.σ }) q fun D ws σ' e q => by subst e; exact q)) hclos hcl nm hsw hkind hcell hnames hx hs hk hy
inductive RgQ (Q : List V → (HS → Prop) → FS → Prop) (v : V) (f : FS) : Prop
  | mk (n : Nat) (e : v = .int n) (hz : n ≤ 100000) (h : Q ((List.range n).map fun (i : Nat) => V.int i) (fun _ => True) f)
theorem sr_rng {e : PySem.Expr} {np pos : Pos} {Q : List V → (HS → Prop) → FS → Prop} (hn : nsIn C.W.K mainGlobals "range" = some none)
    (h : EV C e (RgQ Q) fs)
    (hk : C.env.scope.kind = .function := by rfl) (hx : C.env.kindOf "range" = some .globalImplicit := by rfl) (hG : C.env.globals = mainGlobals := by rfl) (hB : C.env.builtins = builtinsNs := by rfl)
    (hse : backTo pos (starEach [e] C.env) = [(false, eval e C.env)] := by rfl) : SR C (.Call (.Name "range" np) [e] [] pos) Q fs :=
  sr_range1 (fun Q f q => ev_blt (v := .ty "range") (a := .type "range") hn rfl (fun zz => by simp only [VR]) q (by decide) hk hx hG hB) (h.mono fun v f ⟨n, e1, hz, q⟩ => ⟨n, e1, by lia, by lia, by simpa using q⟩) hse
theorem op_getN {l : Addr} {vs : List V} {i : Nat} {v : V} {Q : V → FS → Prop} {value slice : PySem.Expr} (e : fs.σ.li l = some vs) (hi : i < 1000) (hv : vs[i]? = some v) (h : Q v fs)
    (hs : ∀ a t, subscripted slice false (.ref a) (.int i t) = operate [.ref a, .int i t] (getItem (.ref a) (.int i t)) := by intro _ _; with_unfolding_all rfl) : OP2 C VR (subscriptTail value slice) (.ref l) (.int i) Q fs :=
  op_getL e (by lia) (by lia) (by simpa using hv) h hs
end
end
-- RL1
noncomputable section
inductive Der (cls : List (List Int)) (A : List Int) : Int → Prop
  | asm {l : Int} : l ∈ A → Der cls A l
  | unit {c : List Int} {l : Int} : c ∈ cls → l ∈ c → (∀ l' ∈ c, l' ≠ l → Der cls A (-l')) → Der cls A l
def Clash (cls : List (List Int)) (A : List Int) : Prop := ∃ c ∈ cls, ∀ l ∈ c, Der cls A (-l)
theorem Der.mono {cls cls' : List (List Int)} {A A' : List Int} (h : ∀ c ∈ cls, c ∈ cls') (ha : ∀ a ∈ A, a ∈ A') {l : Int} (x : Der cls A l) : Der cls' A' l := by
  induction x with
  | asm m => exact .asm (ha _ m)
  | unit m1 m2 _ ih => exact .unit (h _ m1) m2 ih
theorem Clash.mono {cls cls' : List (List Int)} {A : List Int} (h : ∀ c ∈ cls, c ∈ cls') (x : Clash cls A) : Clash cls' A := by
  obtain ⟨c, m, f⟩ := x; exact ⟨c, h c m, fun l ml => (f l ml).mono h fun zz q => q⟩
def opn (tk c : List Int) : List Int := c.filter fun l => decide (-l ∉ tk)
def okc (tk c : List Int) : Prop := opn tk c ≠ [] ∧ ∀ x, opn tk c = [x] → x ∈ tk
theorem Der.in_closed {cls : List (List Int)} {A tk : List Int} (ha : ∀ a ∈ A, a ∈ tk) (hc : ∀ c ∈ cls, okc tk c) (nd : ∀ c ∈ cls, c.Nodup) {l : Int} (x : Der cls A l) : l ∈ tk := by
  induction x with
  | asm m => exact ha _ m
  | @unit c l m1 m2 _ ih =>
    obtain ⟨h1, h2⟩ := hc c m1
    refine h2 l ?_
    have sub : ∀ y ∈ opn tk c, y = l := fun y hy => by
      obtain ⟨y1, y2⟩ := List.mem_filter.mp hy
      by_cases q : y = l
      · exact q
      · exact absurd (ih y y1 q) (by simpa using y2)
    have nd' : (opn tk c).Nodup := (nd c m1).filter _
    match q : opn tk c with
    | [] => exact absurd q h1
    | [y] => rw [sub y (by rw [q]; simp)]
    | y :: z :: r =>
      rw [q] at sub nd'
      have e1 := sub y (by simp)
      have e2 := sub z (by simp)
      subst e1
      rw [e2] at nd'
      simp at nd'
theorem noClash {cls : List (List Int)} {A tk : List Int} (ha : ∀ a ∈ A, a ∈ tk) (hc : ∀ c ∈ cls, okc tk c) (nd : ∀ c ∈ cls, c.Nodup) : ¬ Clash cls A := fun ⟨c, m, f⟩ => by
  refine (hc c m).1 (List.filter_eq_nil_iff.mpr fun l hl => ?_)
  simpa using Der.in_closed ha hc nd (f l hl)
def rem (cls : List (List Int)) (tk : List Int) : Nat := (cls.flatten.filter fun l => decide (l ∉ tk)).length
theorem filter_sub {α : Type} {p q : α → Bool} (h : ∀ a, p a = true → q a = true) : ∀ l : List α, (l.filter p).length ≤ (l.filter q).length
  | [] => Nat.le_refl _
  | a :: r => by
    have ih := filter_sub h r
    rw [List.filter_cons, List.filter_cons]
    split
    · rename_i hp
      rw [if_pos (h a hp)]; simpa using ih
    · split
      · exact Nat.le_succ_of_le ih
      · exact ih
theorem filter_lt {α : Type} {p q : α → Bool} (h : ∀ a, p a = true → q a = true) {x : α} (hq : q x = true) (hp : p x = false) : ∀ {l : List α}, x ∈ l → (l.filter p).length < (l.filter q).length
  | a :: r, m => by
    rw [List.filter_cons, List.filter_cons]
    rcases List.mem_cons.mp m with e | e
    · subst e
      rw [hq, hp]
      have := filter_sub h r
      simp; lia
    · have ih := filter_lt h hq hp e
      split
      · rename_i hp'
        rw [if_pos (h a hp')]; simpa using ih
      · split
        · simp; lia
        · exact ih
theorem rem_lt {cls : List (List Int)} {tk c : List Int} {x : Int} (hc : c ∈ cls) (hx : x ∈ c) (hn : x ∉ tk) : rem cls (tk ++ [x]) < rem cls tk := by
  refine filter_lt (x := x) (fun a ha => ?_) (by simpa using hn) (by simp) (List.mem_flatten.mpr ⟨c, hc, hx⟩)
  have := of_decide_eq_true ha
  simp at this ⊢
  exact this.1
theorem rem_le_total {cls : List (List Int)} {tk : List Int} : rem cls tk ≤ cls.flatten.length := List.length_filter_le _ _
theorem len_le_flatten {cls : List (List Int)} {c : List Int} (h : c ∈ cls) : c.length ≤ cls.flatten.length := by
  induction cls with
  | nil => cases h
  | cons a r ih =>
    rw [List.flatten_cons, List.length_append]
    rcases List.mem_cons.mp h with e | e
    · subst e; lia
    · have := ih e; lia
end
-- R2
noncomputable section
open PySem PySem.W PySem.Calls PyProof.Rows PySem.SeqAt
def iv : V → Int | .int i => i | _ => 0
theorem filter_ints (c : List Int) (p : V → Bool) (q : Int → Bool) (h : ∀ i, p (.int i) = q i) : ((c.map V.int).filter p).map (fun v => v) = (c.filter q).map .int := by
  induction c with
  | nil => rfl
  | cons a r ih =>
    simp only [List.map_cons, List.filter_cons, h]
    split
    · simpa using ih
    · simpa using ih
theorem any_mem (tk : List Int) (x : Int) : tk.any (· == x) = decide (x ∈ tk) := by
  rw [Bool.eq_iff_iff]; simp
inductive CmO (cls : List (List Int)) (lits : List Int) (σ : HS) (a T : Addr) (n : Nat) : FS → Prop
  | mk (tk : List Int) (grown : Bool) (h1 : ∀ l ∈ tk, Der cls lits l) (h2 : ∀ l ∈ lits, l ∈ tk) (h3 : tk.length + rem cls tk ≤ 500) (e : n = rem cls tk + grown.toNat) (h4 : grown = false → ∀ c ∈ cls, okc tk c) :
    CmO cls lits σ a T n ⟨[("has_grown", .bool grown), ("clauses", .ref a)], [("taken", .ref T)], σ.setLi T (tk.map .int)⟩
inductive CmI (cls : List (List Int)) (lits : List Int) (σ : HS) (a T : Addr) (tk0 : List Int) (i : Nat) : FS → Prop
  | mk (tk : List Int) (grown' : Bool) (h1 : ∀ l ∈ tk, Der cls lits l) (h2 : ∀ l ∈ lits, l ∈ tk) (h3 : tk.length + rem cls tk ≤ 500) (h4 : grown' = false → tk = tk0 ∧ ∀ c ∈ cls.take i, okc tk c) (h5 : grown' = true → rem cls tk < rem cls tk0) :
    CmI cls lits σ a T tk0 i ⟨[("has_grown", .bool grown'), ("clauses", .ref a)], [("taken", .ref T)], σ.setLi T (tk.map .int)⟩
theorem comes_d {C : Cx} {n : Nat} (P : Pk C (n + 1)) {fs : FS} {a b : Addr} {cls : List (List Int)} {lits : List Int} {Q : V → FS → Prop}
    (ea : fs.σ.li a = some (cls.map cv)) (eb : fs.σ.li b = some (lits.map .int)) (nd : ∀ c ∈ cls, c.Nodup) (hz : cls.flatten.length + lits.length ≤ 500) (hl : cls.length ≤ 500)
    (h : ∀ r : Bool, (r = true ↔ Clash cls lits) → Q (.bool r) fs) : CD C (.ref 205) [.ref a, .ref b] Q fs := by
  refine call_d P (ns := ["clauses", "literals"]) rfl (by rfl) (of2 fun zz zz => rfl) rfl (by decide) (by decide) (fun L P' => ?_)
  refine XS.at (WP.weak ?_)
  (refine xs_cons ?_; refine xv_tup ?_; refine ev_tuple ?_; refine spl_cons ?_; refine ev_tcall (by exact Pk.ns (by assumption) (by exact gs_list _)) (by exact bb_list) ?_; refine spl_cons ?_; refine ev_loc (by eq_refl) ?_; refine spl_nil ?_)
  refine cl_listL (by walk_at "ru lk") (by walk_at "ru len") (fun T fr => ?_)
  have aT : a ≠ T := fun e => by subst e; rw [fr.li] at ea; cases ea
  (refine spl_cons ?_; refine ev_bool ?_; refine spl_nil ?_)
  refine ⟨by simp, ?_⟩
  (refine as_tup2 (Pk.h (by assumption)) ?_; refine as_name ?_; refine st_cell ?_ (by rfl); refine as_name ?_; refine st_loc ?_; refine xs_cons ?_)
  refine WP.pre (f := ⟨[("has_grown", .bool true), ("clauses", .ref a)], [("taken", .ref T)], fs.σ.setLi T (lits.map .int)⟩) ?_ (FS.Le.mk' (by walk_at "ru all") (by walk_at "ru all") HS.Le.refl)
  refine xv_whileW (CmO cls lits fs.σ a T) (rem cls lits + 1) ⟨lits, true, fun l hl => .asm hl, fun l hl => hl, by have := rem_le_total (cls := cls) (tk := lits); omega, rfl, by simp⟩ ?_
  rintro n f ⟨tk0, grown, h1, h2, h3, rfl, h4⟩ Gw hGw Gx hGx
  (refine tv_plain ?_; refine ev_loc (by eq_refl) ?_; refine tr_bool ?_)
  refine ⟨fun hg' => ?_, fun hg => ?_⟩
  · (refine xs_cons ?_; refine xv_name ?_; refine ev_bool ?_; refine st_loc ?_; refine xs_cons ?_)
    refine WP.pre (f := ⟨[("has_grown", .bool false), ("clauses", .ref a)], [("taken", .ref T)], fs.σ.setLi T (tk0.map .int)⟩) ?_ (FS.Le.mk' (by walk_at "ru all") (by walk_at "ru all") HS.Le.refl)
    refine xv_forW P'.h (sr_of ?_)
    (refine ev_loc (by eq_refl) ?_; refine sv_list (by walk_at "ru lk") ?_)
    refine ⟨CmI cls lits fs.σ a T tk0, ⟨tk0, false, h1, h2, h3, fun zz => ⟨rfl, by simp⟩, by simp⟩, ?_, ?_, ?_⟩
    · rintro i f ⟨tk, g, zz⟩
      walk_at "ru lk"
    · rintro i v f hv ⟨tk, g, k1, k2, k3, k4, k5⟩ Gq hGq
      rw [List.getElem?_map] at hv
      obtain ⟨c, hc, rfl⟩ := Option.map_eq_some_iff.mp hv
      have mc : c ∈ cls := List.mem_of_getElem? hc
      (refine as_name ?_; refine st_loc ?_; refine xs_cons ?_)
      refine xv_lcP P'.h (cl := [("taken", L + 1)]) (by rfl) (sr_of ?_) (by walk_at "ru cl") (by simp)
      (refine ev_loc (by eq_refl) ?_; refine sv_tup ?_)
      intro D frD
      have aD : a ≠ D := fun e => by subst e; have := frD.li; rw [show (fs.σ.setLi T (tk.map .int)).li a = some (cls.map cv) from by walk_at "ru lk"] at this; cases this
      have TD : T ≠ D := fun e => by subst e; have := frD.li; rw [li_same] at this; cases this
      refine ⟨fun v => match v with | .int i => decide (-i ∉ tk) | _ => false, fun v => v, fun zz => trivial, by have := len_le_flatten mc; simp; omega, fun L' j v ws hv => ?_, ?_⟩
      · rw [List.getElem?_map] at hv
        obtain ⟨l, hl, rfl⟩ := Option.map_eq_some_iff.mp hv
        (refine ts_one ?_; refine tv_cmp ?_; refine ev_un ?_; refine ev_loc (by eq_refl) ?_; refine op_neg ?_; refine ev_cell (by eq_refl) (by eq_refl) ?_; refine op_notInL (by walk_at "ru lk") ?_)
        refine ⟨by rw [any_mem]; simp, rfl, fun zz => ?_⟩
        (refine ev_loc (by eq_refl) ?_)
        exact ⟨rfl, rfl⟩
      · rw [filter_ints c _ (fun l => decide (-l ∉ tk)) (fun i => rfl)]
        change XS _ _ _ ⟨_, _, (fs.σ.setLi T (tk.map .int)).setLi D ((opn tk c).map .int)⟩
        (refine xs_cons ?_; refine xv_if ?_; refine tv_cmp ?_; refine ev_loc (by eq_refl) ?_; refine ev_list ?_; refine spl_nil ?_)
        refine ⟨by simp, fun E frE => ?_⟩
        have DE : D ≠ E := fun e => by subst e; have := frE.li; rw [li_same] at this; cases this
        have TE : T ≠ E := fun e => by subst e; have := frE.li; rw [show ((fs.σ.setLi T (tk.map .int)).setLi D ((opn tk c).map .int)).li T = some (tk.map .int) from by walk_at "ru lk"] at this; cases this
        (refine op_eqNil (by walk_at "ru lk") (by walk_at "ru lk") (Pk.cu (by assumption)) ?_)
        have fD : fs.σ.Fresh D := (HS.Le.refl.offLi fr.li).fresh frD
        have fE0 : (fs.σ.setLi T (tk.map .int)).Fresh E := (HS.Le.refl.offLi frD.li).fresh frE
        have fE : fs.σ.Fresh E := (HS.Le.refl.offLi fr.li).fresh fE0
        have hop : (opn tk c).length ≤ 500 := by
          have := List.length_filter_le (fun l => decide (-l ∉ tk)) c
          have := len_le_flatten mc
          unfold opn; omega
        refine ⟨fun he => ?_, fun he => ?_⟩
        · (refine xs_cons ?_; refine xv_ret ?_; refine ev_bool ?_; with_reducible refine xq_ret ?_; with_reducible refine xq_ret ?_; refine OutTo.out (by assumption) _ _ ?_)
          refine ⟨⟨[], [], fs.σ⟩, FS.Le.mk' trivial trivial (((HS.Le.refl.offLi fr.li).offLi fD.li).offLi fE.li), hGw.out _ _ ⟨_, FS.Le.refl, _, FS.Le.refl, h _ ⟨fun zz => ?_, fun zz => rfl⟩⟩⟩
          have he' : opn tk c = [] := by simpa using he
          refine ⟨c, mc, fun l hl => k1 _ ?_⟩
          simpa using List.filter_eq_nil_iff.mp he' l hl
        · have hne : opn tk c ≠ [] := by simpa using he
          have le1 : (fs.σ.setLi T (tk.map .int)).Le (((fs.σ.setLi T (tk.map .int)).setLi D ((opn tk c).map .int)).setLi E []) := (HS.Le.refl.offLi frD.li).offLi fE0.li
          have htk : cls.take (i + 1) = cls.take i ++ [c] := by rw [List.take_add_one, hc]; rfl
          have skip : okc tk c → (g = false → tk = tk0 ∧ ∀ c ∈ cls.take (i + 1), okc tk c) := fun ho hg => ⟨(k4 hg).1, fun d hd => by
            rw [htk] at hd
            rcases List.mem_append.mp hd with hd | hd
            · exact (k4 hg).2 d hd
            · rw [List.mem_singleton.mp hd]; exact ho⟩
          (refine xs_nil ?_; refine xs_cons ?_; refine xv_if ?_; refine tv_bool ?_; refine at_and ?_; refine tv_cmp ?_; refine ev_bcall (by exact Pk.ns (by assumption) (by exact gs_len _)) (by exact bb_len) ?_; refine spl_cons ?_; refine ev_loc (by eq_refl) ?_; refine spl_nil ?_; refine cl_len (by walk_at "ru lk") (by walk_at "ru len") ?_; refine ev_int ?_; refine cm_eq ?_)
          refine ⟨fun h1' => ?_, fun h1' => ?_⟩
          · obtain ⟨x, hx⟩ : ∃ x, opn tk c = [x] := List.length_eq_one_iff.mp (by have := of_decide_eq_true h1'; simp at this; omega)
            rw [hx] at le1 ⊢
            have xm : x ∈ c ∧ -x ∉ tk := by have : x ∈ opn tk c := by rw [hx]; simp
                                            obtain ⟨y1, y2⟩ := List.mem_filter.mp this; exact ⟨y1, by simpa using y2⟩
            (refine at_and ?_; refine tv_cmp ?_; refine ev_sub ?_; refine ev_loc (by eq_refl) ?_; refine ev_int ?_)
            refine op_getL (vs := [x].map V.int) (v := .int x) (by walk_at "ru lk") (by omega) (by omega) rfl ?_
            (refine ev_cell (by eq_refl) (by eq_refl) ?_; refine op_notInL (by walk_at "ru lk") ?_)
            refine ⟨fun h2' => ?_, fun h2' => ?_⟩
            · (refine at_and0 ?_)
              refine ⟨fun h3' => ?_, fun h3' => ?_⟩
              · (refine xs_cons ?_; refine xv_expr ?_; refine ev_meth (fv := .builtin "list.append") ?_; refine ev_cell (by eq_refl) (by eq_refl) ?_; refine ⟨_, gm_append (by walk_at "ru lk"), kp_builtin, ?_⟩; refine spl_cons ?_; refine ev_sub ?_; refine ev_loc (by eq_refl) ?_; refine ev_int ?_)
                refine op_getL (vs := [x].map V.int) (v := .int x) (by walk_at "ru lk") (by omega) (by omega) rfl ?_
                have hxt : x ∉ tk := by rw [any_mem] at h2'; simpa using h2'
                have hr := rem_lt mc xm.1 hxt
                (refine spl_nil ?_; refine cl_append (by walk_at "ru lk") (by walk_at "ru len") ?_; refine xs_cons ?_; refine xv_name ?_; refine ev_bool ?_; refine st_loc ?_; refine xs_nil ?_; refine xs_nil ?_; refine OutTo.out (by assumption) _ _ ?_)
                refine ⟨_, FS.Le.mk' (by walk_at "ru all") (by walk_at "ru all") (τ := (((fs.σ.setLi T (tk.map .int)).setLi D ([x].map .int)).setLi E []).setLi T (tk.map .int ++ [.int x]))
                  (σ := fs.σ.setLi T ((tk ++ [x]).map .int)) ?_, tk ++ [x], true, ?_, ?_, ?_, by simp, fun zz => ?_⟩
                · have := (le1.onLi (a := T) (x := tk.map .int ++ [.int x]))
                  rw [setLi_setLi, setInt] at this; exact this
                · intro l hl
                  rcases List.mem_append.mp hl with hl | hl
                  · exact k1 l hl
                  · rw [List.mem_singleton.mp hl]
                    refine .unit mc xm.1 fun l' hl' hne' => k1 _ ?_
                    by_cases q : -l' ∈ tk
                    · exact q
                    · have : l' ∈ opn tk c := List.mem_filter.mpr ⟨hl', by simpa using q⟩
                      rw [hx] at this; exact absurd (List.mem_singleton.mp this) hne'
                · intro l hl; exact List.mem_append.mpr (.inl (k2 l hl))
                · rw [List.length_append, List.length_singleton]; omega
                · cases g with
                  | false => rw [(k4 rfl).1] at hr; rw [(k4 rfl).1]; exact hr
                  | true => have := k5 rfl; omega
              · cases h3'
            · skip
              refine ⟨fun h3' => (by cases h3'), fun h3' => ?_⟩
              (refine xs_nil ?_; refine xs_nil ?_; refine OutTo.out (by assumption) _ _ ?_)
              refine ⟨_, FS.Le.mk' (by walk_at "ru all") (by walk_at "ru all") le1, tk, g, k1, k2, k3, skip ⟨hne, fun y hy => ?_⟩, k5⟩
              rw [hx] at hy; cases hy
              rw [any_mem] at h2'; simpa using h2'
          · refine ⟨fun h3' => (by cases h3'), fun h3' => ?_⟩
            (refine xs_nil ?_; refine xs_nil ?_; refine OutTo.out (by assumption) _ _ ?_)
            refine ⟨_, FS.Le.mk' (by walk_at "ru all") (by walk_at "ru all") le1, tk, g, k1, k2, k3, skip ⟨hne, fun y hy => ?_⟩, k5⟩
            rw [hy] at h1'; simp at h1'
    · rintro f ⟨tk, g, k1, k2, k3, k4, k5⟩
      refine xs_nil ?_
      refine hGw.out _ _ ⟨_, FS.Le.refl, _, ?_, tk, g, k1, k2, k3, rfl, fun hg => ?_⟩
      · have hg2 : grown = true := hg'
        cases g with
        | false => rw [(k4 rfl).1, hg2]; simp
        | true => have := k5 rfl; rw [hg2]; simp; omega
      · have := (k4 hg).2
        rw [List.length_map, List.take_length] at this; exact this
  · refine hGx.out _ _ ⟨_, FS.Le.of HS.Le.refl, ?_⟩
    (refine xs_cons ?_; refine xv_ret ?_; refine ev_bool ?_; with_reducible refine xq_ret ?_)
    exact ⟨_, FS.Le.mk' (m := []) (k := []) trivial trivial (HS.Le.refl.offLi fr.li), h _ ⟨fun e => by simp [Fw.val] at e, fun e => (noClash h2 (h4 hg) nd e).elim⟩⟩
end
-- R3
noncomputable section
open PySem PySem.W PySem.Calls PyProof.Rows PySem.SeqAt
abbrev neg (c : List Int) : List Int := c.map fun l => -l
abbrev Fol (cls : List (List Int)) (c : List Int) : Prop := Clash cls (neg c)
def negV : V → V | .int i => .int (-i) | v => v
theorem map_neg (c : List Int) : ((c.map V.int).filter fun zz => true).map negV = (neg c).map .int := by
  induction c with
  | nil => rfl
  | cons a r ih => simpa [negV] using ih
theorem follows_d {C : Cx} {n : Nat} (P : Pk C (n + 2)) {fs : FS} {a : Addr} {cls : List (List Int)} {c : List Int} {Q : V → FS → Prop}
    (ea : fs.σ.li a = some (cls.map cv)) (nd : ∀ c ∈ cls, c.Nodup) (hz : cls.flatten.length + c.length ≤ 500) (hl : cls.length ≤ 500)
    (h : ∀ r : Bool, (r = true ↔ Fol cls c) → Q (.bool r) fs) : CD C (.ref 210) [.ref a, cv c] Q fs := by
  refine call_d P (ns := ["clauses", "clause"]) rfl (by rfl) (of2 fun zz zz => rfl) rfl (by decide) (by decide) (fun L P' => ?_)
  refine XS.at (WP.weak ?_)
  (refine xs_cons ?_; refine xv_ret ?_; refine ev_gcall (by exact Pk.ns (by assumption) (by exact gs_law_comes_to_a_clash _)) (by exact Pk.kp (by assumption) (by exact kp_law_comes_to_a_clash _)) ?_; refine spl_cons ?_; refine ev_loc (by eq_refl) ?_; refine spl_cons ?_)
  refine ev_lcP P'.h (cl := []) (by rfl) (sr_of ?_) (by walk_at "ru cl") (by simp)
  (refine ev_loc (by eq_refl) ?_; refine sv_tup ?_)
  intro D frD
  have aD : a ≠ D := fun e => by subst e; rw [frD.li] at ea; cases ea
  refine ⟨fun v => true, negV, fun zz => trivial, by simp; lia, fun L' j v ws hv => ?_, ?_⟩
  · rw [List.getElem?_map] at hv
    obtain ⟨l, hl, rfl⟩ := Option.map_eq_some_iff.mp hv
    (refine ts_nil ?_)
    refine ⟨rfl, rfl, fun zz => ?_⟩
    (refine ev_un ?_; refine ev_loc (by eq_refl) ?_; refine op_neg ?_)
    exact ⟨rfl, rfl⟩
  · rw [map_neg]
    (refine spl_nil ?_)
    refine comes_d (cls := cls) (lits := neg c) P' (by walk_at "ru lk") li_same nd (by simpa using hz) hl fun r hr => ?_
    (with_reducible refine xq_ret ?_)
    exact ⟨_, FS.Le.mk' (m := []) (k := []) trivial trivial (HS.Le.refl.offLi frD.li), h _ hr⟩
end
-- R4
noncomputable section
open PySem PySem.W PySem.Calls PyProof.Rows PySem.SeqAt
def FW (cls sm : List (List Int)) (r : Int) : Prop :=
  (r = -1 ∧ ∀ i c, sm[i]? = some c → Fol (cls ++ sm.take i) c) ∨
  (∃ i : Nat, ∃ c, r = i ∧ sm[i]? = some c ∧ ¬ Fol (cls ++ sm.take i) c ∧ ∀ j d, j < i → sm[j]? = some d → Fol (cls ++ sm.take j) d)
theorem setCl {σ : HS} {D : Addr} {acc : List (List Int)} {w : List Int} : σ.setLi D (acc.map cv ++ [cv w]) = σ.setLi D ((acc ++ [w]).map cv) := by simp
theorem fl_take {cls sm : List (List Int)} (i : Nat) : (cls ++ sm.take i).flatten.length ≤ (cls ++ sm).flatten.length := by
  rw [← List.take_append_drop i sm]
  simp only [List.flatten_append, List.length_append, List.take_append_drop]
  have := List.length_append (as := (sm.take i).flatten) (bs := (sm.drop i).flatten)
  rw [← List.flatten_append, List.take_append_drop] at this
  omega
theorem mem_take {cls sm : List (List Int)} {i : Nat} {c : List Int} (h : c ∈ cls ++ sm.take i) : c ∈ cls ++ sm := by
  rcases List.mem_append.mp h with h | h
  · exact List.mem_append.mpr (.inl h)
  · exact List.mem_append.mpr (.inr (List.mem_of_mem_take h))
theorem take_snoc {α : Type} {l : List α} {i : Nat} {c : α} (h : l[i]? = some c) : l.take (i + 1) = l.take i ++ [c] := by rw [List.take_add_one, h]; rfl
theorem first_d {C : Cx} {n : Nat} (P : Pk C (n + 3)) {fs : FS} {a b : Addr} {cls sm : List (List Int)} {Q : V → FS → Prop}
    (ea : fs.σ.li a = some (cls.map cv)) (eb : fs.σ.li b = some (sm.map cv)) (nd : ∀ c ∈ cls ++ sm, c.Nodup) (hz : (cls ++ sm).flatten.length + 10 ≤ 500) (hz' : ∀ c ∈ sm, c.length ≤ 10) (hl : (cls ++ sm).length ≤ 500)
    (h : ∀ r : Int, FW cls sm r → Q (.int r) fs) : CD C (.ref 217) [.ref a, .ref b] Q fs := by
  refine call_d P (ns := ["clauses", "some"]) rfl (by rfl) (of2 fun zz zz => rfl) rfl (by decide) (by decide) (fun L P' => ?_)
  refine XS.at (WP.weak ?_)
  have hla : cls.length + sm.length ≤ 500 := by simpa using hl
  (refine xs_cons ?_; refine xv_name ?_; refine ev_tcall (by exact Pk.ns (by assumption) (by exact gs_list _)) (by exact bb_list) ?_; refine spl_cons ?_; refine ev_loc (by eq_refl) ?_; refine spl_nil ?_)
  refine cl_listL (by walk_at "ru lk") (by walk_at "ru len") (fun T fr => ?_)
  have bT : b ≠ T := fun e => by subst e; rw [fr.li] at eb; cases eb
  (refine st_loc ?_; refine xs_cons ?_)
  refine WP.pre (f := ⟨[("known", .ref T), ("some", .ref b)], [], fs.σ.setLi T (cls.map cv)⟩) ?_ (FS.Le.mk' (by walk_at "ru all") trivial HS.Le.refl)
  refine xv_forW P'.h (sr_rng (by exact Pk.ns (by assumption) (by exact gs_range _)) ?_)
  (refine ev_bcall (by exact Pk.ns (by assumption) (by exact gs_len _)) (by exact bb_len) ?_; refine spl_cons ?_; refine ev_loc (by eq_refl) ?_; refine spl_nil ?_; refine cl_len (by walk_at "ru lk") (by walk_at "ru len") ?_)
  refine ⟨sm.length, by simp, by omega, fun i f => f = ⟨[("known", .ref T), ("some", .ref b)], [], fs.σ.setLi T ((cls ++ sm.take i).map cv)⟩ ∧ ∀ j d, j < i → sm[j]? = some d → Fol (cls ++ sm.take j) d,
    ⟨by simp, by simp⟩, fun zz zz zz => trivial, ?_, ?_⟩
  · rintro i v f hv ⟨rfl, ih⟩ Gq hGq
    rw [List.getElem?_map] at hv
    obtain ⟨k, hk, rfl⟩ := Option.map_eq_some_iff.mp hv
    obtain ⟨hi, rfl⟩ : i < sm.length ∧ i = k := by
      obtain ⟨h1, h2⟩ := List.getElem?_eq_some_iff.mp hk
      simp at h1 h2; exact ⟨h1, h2⟩
    obtain ⟨c, hc⟩ : ∃ c, sm[i]? = some c := ⟨_, List.getElem?_eq_getElem hi⟩
    have mc : c ∈ sm := List.mem_of_getElem? hc
    (refine as_name ?_; refine st_loc ?_; refine xs_cons ?_; refine xv_if ?_; refine tv_not ?_; refine tv_plain ?_; refine ev_gcall (by exact Pk.ns (by assumption) (by exact gs_law_follows _)) (by exact Pk.kp (by assumption) (by exact kp_law_follows _)) ?_; refine spl_cons ?_; refine ev_loc (by eq_refl) ?_; refine spl_cons ?_; refine ev_sub ?_; refine ev_loc (by eq_refl) ?_; refine ev_loc (by eq_refl) ?_)
    refine op_getN (vs := sm.map cv) (v := cv c) (by walk_at "ru lk") (by omega) (by simp [hc]) ?_
    (refine spl_nil ?_)
    refine follows_d (cls := cls ++ sm.take i) P' li_same (fun d hd => nd d (mem_take hd)) ?_ ?_ fun r hr => ?_
    · have := fl_take (cls := cls) (sm := sm) i; have := hz' c mc; omega
    · rw [List.length_append, List.length_take]; omega
    (refine tr_bool ?_)
    refine ⟨fun hb => ?_, fun hb => ?_⟩
    · (refine xs_cons ?_; refine xv_ret ?_; refine ev_loc (by eq_refl) ?_; with_reducible refine xq_ret ?_; with_reducible refine xq_ret ?_; refine OutTo.out (by assumption) _ _ ?_)
      refine ⟨⟨[], [], fs.σ⟩, FS.Le.mk' trivial trivial (HS.Le.refl.offLi fr.li), _, FS.Le.refl, h _ (.inr ⟨i, c, rfl, hc, fun q => ?_, ih⟩)⟩
      rw [hr.mpr q] at hb; cases hb
    · (refine xs_nil ?_; refine xs_cons ?_; refine xv_expr ?_; refine ev_meth (fv := .builtin "list.append") ?_; refine ev_loc (by eq_refl) ?_; refine ⟨_, gm_append (by walk_at "ru lk"), kp_builtin, ?_⟩; refine spl_cons ?_; refine ev_sub ?_; refine ev_loc (by eq_refl) ?_; refine ev_loc (by eq_refl) ?_)
      refine op_getN (vs := sm.map cv) (v := cv c) (by walk_at "ru lk") (by omega) (by simp [hc]) ?_
      have hz2 : (cls ++ sm.take i).length ≤ 500 := by rw [List.length_append, List.length_take]; omega
      (refine spl_nil ?_; refine cl_append (by walk_at "ru lk") (by walk_at "ru len") ?_; refine xs_nil ?_; refine OutTo.out (by assumption) _ _ ?_)
      refine ⟨_, FS.Le.mk' (by walk_at "ru all") (by walk_at "ru all") (σ := fs.σ.setLi T ((cls ++ sm.take (i + 1)).map cv)) ?_, rfl, fun j d hj hd => ?_⟩
      · rw [take_snoc hc, ← List.append_assoc, ← setCl]; dsimp only; rw [setLi_setLi]; exact HS.Le.refl
      · rcases Nat.lt_succ_iff_lt_or_eq.mp hj with q | rfl
        · exact ih j d q hd
        · rw [hc] at hd; cases hd
          refine hr.mp ?_
          cases r
          · cases hb
          · rfl
  · rintro f ⟨rfl, ih⟩
    (refine xs_cons ?_; refine xv_ret ?_; refine ev_un ?_; refine ev_int ?_; refine op_neg ?_; with_reducible refine xq_ret ?_)
    refine ⟨_, FS.Le.mk' (m := []) (k := []) trivial trivial (HS.Le.refl.offLi fr.li), h _ (.inl ⟨rfl, fun i c hc => ih i c ?_ hc⟩)⟩
    have := (List.getElem?_eq_some_iff.mp hc).1; simpa using this
end
-- R5
noncomputable section
open PySem PySem.W PySem.Calls PyProof.Rows PySem.SeqAt
def Big (c : List Int) : Prop := (∀ l ∈ c, 4 ≤ l.natAbs) ∧ ∃ p ∈ c, 0 < p
structure Okc (c : List Int) : Prop where
  asc : Asc c
  len : c.length ≤ 3
  mix : Sm c ∨ Big c
theorem Asc.nodup {c : List Int} (h : Asc c) : c.Nodup := by
  have := h.1
  rw [List.pairwise_map] at this
  exact this.imp fun {a b} h e => by subst e; lia
theorem asc_len (k : Nat) : ∀ c : List Int, (c.map Int.natAbs).Pairwise (· < ·) → (∀ l ∈ c, k < l.natAbs ∧ l.natAbs ≤ 3) → c.length ≤ 3 - k := fun c => by
  induction c generalizing k with
  | nil => intro _ _; simp
  | cons a r ih =>
    intro h hb
    rw [List.map_cons, List.pairwise_cons] at h
    have h1 := hb a (by simp)
    have h2 : ∀ l ∈ r, a.natAbs < l.natAbs ∧ l.natAbs ≤ 3 := fun l hl => ⟨h.1 _ (List.mem_map.mpr ⟨l, hl, rfl⟩), (hb l (by simp [hl])).2⟩
    have := ih a.natAbs h.2 h2
    rw [List.length_cons]; lia
theorem Asc.sm_len {c : List Int} (h : Asc c) (s : Sm c) : c.length ≤ 3 := by
  have := asc_len 0 c h.1 fun l hl => ⟨by have := h.2 l hl; lia, s l hl⟩
  simpa using this
theorem okc_sm {c : List Int} (h : Asc c) (s : Sm c) : Okc c := ⟨h, h.sm_len s, .inl s⟩
theorem okc_4 : Okc [4] := ⟨⟨by decide, by decide⟩, by decide, .inr ⟨by decide, 4, by decide, by decide⟩⟩
theorem okc_45 : Okc [-4, 5] := ⟨⟨by decide, by decide⟩, by decide, .inr ⟨by decide, 5, by decide, by decide⟩⟩
theorem okc_56 : Okc [-5, 6] := ⟨⟨by decide, by decide⟩, by decide, .inr ⟨by decide, 6, by decide, by decide⟩⟩
theorem okc_5 : Okc [5] := ⟨⟨by decide, by decide⟩, by decide, .inr ⟨by decide, 5, by decide, by decide⟩⟩
theorem okc_6 : Okc [6] := ⟨⟨by decide, by decide⟩, by decide, .inr ⟨by decide, 6, by decide, by decide⟩⟩
structure Lim (cls : List (List Int)) : Prop where
  len : cls.length ≤ 14
  ok : ∀ c ∈ cls, Okc c
theorem flatten_le (k : Nat) : ∀ cls : List (List Int), (∀ c ∈ cls, c.length ≤ k) → cls.flatten.length ≤ k * cls.length
  | [], _ => by simp
  | c :: r, h => by
    have := flatten_le k r fun d hd => h d (by simp [hd])
    have := h c (by simp)
    rw [List.flatten_cons, List.length_append, List.length_cons, Nat.mul_succ]; lia
theorem Lim.flat {cls : List (List Int)} (h : Lim cls) : cls.flatten.length ≤ 42 := by
  have := flatten_le 3 cls fun c hc => (h.ok c hc).len
  have := h.len; lia
theorem Lim.nd {cls : List (List Int)} (h : Lim cls) : ∀ c ∈ cls, c.Nodup := fun c hc => (h.ok c hc).asc.nodup
theorem lld {σ : HS} {d K G : Addr} {x y : D} {a b : List V} : (((σ.setDm d x).setLi K a).setLi G b).setDm d y = ((σ.setDm d y).setLi K a).setLi G b := by
  show (((σ.setDm d x).setDm d y).setLi K a).setLi G b = _
  rw [setDm_setDm]
theorem llll {σ : HS} {K G : Addr} {a b a' b' : List V} (h : K ≠ G) : ((((σ.setLi K a).setLi G b).setLi G b').setLi K a') = (σ.setLi K a').setLi G b' := by
  simp only [HS.setLi, HS.mk.injEq, and_true]; funext z; simp only [upd]
  by_cases h1 : z = K
  · subst h1; simp [h]
  · by_cases h2 : z = G
    · subst h2; simp [Ne.symm h]
    · simp [h1, h2]
theorem fs_eq {m k : List (Str × V)} {σ τ : HS} (h : σ = τ) : (⟨m, k, σ⟩ : FS) = ⟨m, k, τ⟩ := by rw [h]
abbrev logF (σ : HS) (d l K G a : Addr) (cls log : List (List Int)) (sp : Int) : FS := ⟨[("found", .ref G), ("known", .ref K), ("clauses", .ref a), ("feed", .ref d)], [], ((σ.setDm d (feedD l sp)).setLi K ((cls ++ log).map cv)).setLi G (log.map cv)⟩
inductive LgI (σ : HS) (d l K G a : Addr) (spot : Int) (cls : List (List Int)) (i : Nat) : FS → Prop
  | mk (log : List (List Int)) (sp : Int) (q1 : Fd (σ.setDm d (feedD l sp)) d l sp) (q2 : sp ≤ spot + 1 + 4 * i) (q3 : log.length ≤ i) (q4 : i ≤ 3) (q5 : ∀ c ∈ log, Okc c) : LgI σ d l K G a spot cls i (logF σ d l K G a cls log sp)
set_option maxHeartbeats 1000000 in
theorem log_d {C : Cx} {n : Nat} (P : Pk C (n + 4)) {fs : FS} {d l a : Addr} {spot : Int} {cls : List (List Int)} {Q : V → FS → Prop} (F : Fd fs.σ d l spot) (h1 : spot ≤ 900) (ea : fs.σ.li a = some (cls.map cv)) (lim : Lim cls) (hl : cls.length ≤ 10)
    (h : ∀ K G log spot', fs.σ.Fresh K → fs.σ.Fresh G → K ≠ G → spot' ≤ spot + 13 → Fd (fs.σ.setDm d (feedD l spot')) d l spot' → log.length ≤ 3 → (∀ c ∈ log, Okc c) →
      Q (.tup [.ref G, .ref K]) { fs with σ := ((fs.σ.setDm d (feedD l spot')).setLi K ((cls ++ log).map cv)).setLi G (log.map cv) }) : CD C (.ref 224) [.ref d, .ref a] Q fs := by
  refine call_d P (ns := ["feed", "clauses"]) rfl (by rfl) (of2 fun zz zz => rfl) rfl (by decide) (by decide) (fun L P' => ?_)
  refine XS.at (WP.weak ?_)
  (refine xs_cons ?_; refine xv_swap2 (Pk.h (by assumption)) ?_; refine ev_tuple ?_; refine spl_cons ?_; refine ev_tcall (by exact Pk.ns (by assumption) (by exact gs_list _)) (by exact bb_list) ?_; refine spl_cons ?_; refine ev_loc (by eq_refl) ?_; refine spl_nil ?_)
  have hcl := lim.flat
  refine cl_listL (by walk_at "ru lk") (by simp; lia) (fun K frK => ?_)
  have aK : a ≠ K := fun e => by subst e; rw [frK.li] at ea; cases ea
  have lK : l ≠ K := fun e => by subst e; obtain ⟨c, e, zz⟩ := F.l; rw [frK.li] at e; cases e
  (refine spl_cons ?_; refine ev_list ?_; refine spl_nil ?_)
  refine ⟨by simp, fun G frG => ?_⟩
  have frG' : fs.σ.Fresh G := (HS.Le.refl.offLi frK.li).fresh frG
  have KG : K ≠ G := fun e => by subst e; have := frG.li; rw [li_same] at this; cases this
  have lG : l ≠ G := fun e => by subst e; obtain ⟨c, e, zz⟩ := F.l; rw [frG'.li] at e; cases e
  (refine spl_nil ?_)
  refine ⟨by simp, ?_⟩
  (refine ⟨_, _, rfl, ?_⟩; refine st_loc ?_; refine st_loc ?_; refine xs_cons ?_)
  have FdOf : ∀ {m k x y sp}, Fd (fs.σ.setDm d (feedD l sp)) d l sp → Fd (⟨m, k, ((fs.σ.setDm d (feedD l sp)).setLi K x).setLi G y⟩ : FS).σ d l sp := fun q => ⟨q.d, by
    obtain ⟨c, e, e2⟩ := q.l
    exact ⟨c, li_ne lG (li_ne lK e), e2⟩, q.h0⟩
  have F0 : Fd ((fs.σ.setLi K (cls.map cv)).setLi G []) d l spot := ⟨F.d, by
    obtain ⟨c, e, e2⟩ := F.l
    exact ⟨c, li_ne lG (li_ne lK e), e2⟩, F.h0⟩
  refine WP.pre (f := ⟨[("found", .ref G), ("known", .ref K), ("clauses", .ref a), ("feed", .ref d)], [], (fs.σ.setLi K (cls.map cv)).setLi G []⟩) ?_ (FS.Le.mk' (by walk_at "ru all") trivial HS.Le.refl)
  have dm2 : ∀ sp sp' : Int, (fs.σ.setDm d (feedD l sp)).setDm d (feedD l sp') = fs.σ.setDm d (feedD l sp') := fun zz zz => setDm_setDm
  refine xv_forW P'.h (sr_rng (by exact Pk.ns (by assumption) (by exact gs_range _)) ?_)
  (refine ev_gcall (by exact Pk.ns (by assumption) (by exact gs_law_next _)) (by exact Pk.kp (by assumption) (by exact kp_law_next _)) ?_; refine spl_cons ?_; refine ev_loc (by eq_refl) ?_; refine spl_cons ?_; refine ev_int ?_; refine spl_nil ?_)
  refine next_f (wide := 4) P' F0 (by lia) (by decide) (fun r hr0 hr1 => ?_)
  refine ⟨r.toNat, by rw [Int.toNat_of_nonneg hr0], by lia, LgI fs.σ d l K G a spot cls, (by have z := LgI.mk (K := K) (G := G) (a := a) (cls := cls) (i := 0) [] (spot + 1) F.step (by show spot + 1 ≤ spot + 1 + 4 * ((0 : Nat) : Int); lia) (Nat.le_refl 0) (Nat.zero_le 3) (fun c hc => by cases hc); simp only [logF, List.append_nil, List.map_nil] at z; exact z), fun zz zz zz => trivial, ?_, ?_⟩
  · rintro i v f hv ⟨log, sp, q1, q2, q3, q4, q5⟩ Gq hGq
    rw [List.getElem?_map] at hv
    obtain ⟨k, hk, rfl⟩ := Option.map_eq_some_iff.mp hv
    have hi : i < 3 := by
      have := (List.getElem?_eq_some_iff.mp hk).1
      simp at this; lia
    have st : ∀ {sp' : Int}, Fd (fs.σ.setDm d (feedD l sp')) d l sp' → Fd (fs.σ.setDm d (feedD l (sp' + 1))) d l (sp' + 1) := fun q => by have := q.step; rw [dm2] at this; exact this
    have hlk : Lim (cls ++ log) := ⟨by simp; lia, fun c hc => (List.mem_append.mp hc).elim (lim.ok c) (q5 c)⟩
    (refine as_name ?_)
    (refine st_loc ?_)
    refine xs_cons (xv_name (WP.mono (Q := fun v f => ∃ (late : List Int) (sp' : Int), v = cv late ∧ f = ⟨[("lap", .int k), ("found", .ref G), ("known", .ref K), ("clauses", .ref a), ("feed", .ref d)], [], ((fs.σ.setDm d (feedD l sp')).setLi K ((cls ++ log).map cv)).setLi G (log.map cv)⟩ ∧
      Fd (fs.σ.setDm d (feedD l sp')) d l sp' ∧ sp' ≤ sp + 2 ∧ Okc late) ?_ ?_))
    · (refine ev_ifexp ?_; refine tv_cmp ?_; refine ev_gcall (by exact Pk.ns (by assumption) (by exact gs_law_next _)) (by exact Pk.kp (by assumption) (by exact kp_law_next _)) ?_; refine spl_cons ?_; refine ev_loc (by eq_refl) ?_; refine spl_cons ?_; refine ev_int ?_; refine spl_nil ?_)
      refine next_f (wide := 3) P' (FdOf q1) (by lia) (by decide) (fun r1 hr10 hr11 => ?_)
      (refine ev_int ?_; refine cm_eq ?_)
      refine ⟨fun hb => ?_, fun hb => ?_⟩
      · (refine ev_sub ?_; refine ev_tuple ?_; refine spl_cons ?_; refine ev_tuple ?_; refine spl_cons ?_; refine ev_int ?_; refine spl_nil ?_; refine ⟨by walk_at "ru len", ?_⟩; refine spl_cons ?_; refine ev_tuple ?_; refine spl_cons ?_; refine ev_int ?_; refine spl_nil ?_; refine ⟨by walk_at "ru len", ?_⟩; refine spl_nil ?_; refine ⟨by walk_at "ru len", ?_⟩; refine ev_gcall (by exact Pk.ns (by assumption) (by exact gs_law_next _)) (by exact Pk.kp (by assumption) (by exact kp_law_next _)) ?_; refine spl_cons ?_; refine ev_loc (by eq_refl) ?_; refine spl_cons ?_; refine ev_int ?_; refine spl_nil ?_)
        refine next_f (wide := 2) (spot := sp + 1) P' (FdOf q1).step (by lia) (by decide) (fun r2 hr20 hr21 => ?_)
        rcases (by lia : r2 = 0 ∨ r2 = 1) with rfl | rfl
        · refine op_getT (v := cv [5]) (by decide) (by decide) rfl ?_
          exact ⟨[5], sp + 1 + 1, rfl, (by dsimp only; exact fs_eq (by rw [setDm_setDm, lld])), st (st q1), by lia, okc_5⟩
        · refine op_getT (v := cv [6]) (by decide) (by decide) rfl ?_
          exact ⟨[6], sp + 1 + 1, rfl, (by dsimp only; exact fs_eq (by rw [setDm_setDm, lld])), st (st q1), by lia, okc_6⟩
      · (refine ev_gcall (by exact Pk.ns (by assumption) (by exact gs_law_clause _)) (by exact Pk.kp (by assumption) (by exact kp_law_clause _)) ?_; refine spl_cons ?_; refine ev_loc (by eq_refl) ?_; refine spl_nil ?_)
        refine clause_d (spot := sp + 1) P' (FdOf q1).step (by lia) (fun c hc1 hc2 => ?_)
        exact ⟨c, sp + 1 + 1, rfl, (by dsimp only; exact fs_eq (by rw [setDm_setDm, lld])), st (st q1), by lia, okc_sm hc1 hc2⟩
    · rintro v f ⟨late, sp', rfl, rfl, p1, p2, p3⟩
      (refine st_loc ?_)
      (refine xs_cons ?_)
      refine xv_if (WP.mono (Q := fun b f => ∃ (sp' : Int), f = ⟨[("late", cv late), ("lap", .int k), ("found", .ref G), ("known", .ref K), ("clauses", .ref a), ("feed", .ref d)], [], ((fs.σ.setDm d (feedD l sp')).setLi K ((cls ++ log).map cv)).setLi G (log.map cv)⟩ ∧
        Fd (fs.σ.setDm d (feedD l sp')) d l sp' ∧ sp' ≤ sp + 3) ?_ ?_)
      · (refine tv_bool ?_; refine at_or ?_; refine tv_cmp ?_; refine ev_gcall (by exact Pk.ns (by assumption) (by exact gs_law_next _)) (by exact Pk.kp (by assumption) (by exact kp_law_next _)) ?_; refine spl_cons ?_; refine ev_loc (by eq_refl) ?_; refine spl_cons ?_; refine ev_int ?_; refine spl_nil ?_)
        refine next_f (wide := 6) (spot := sp') P' (FdOf p1) (by lia) (by decide) (fun r1 hr10 hr11 => ?_)
        have fin : (⟨[("late", cv late), ("lap", .int k), ("found", .ref G), ("known", .ref K), ("clauses", .ref a), ("feed", .ref d)], [], (((fs.σ.setDm d (feedD l sp')).setLi K ((cls ++ log).map cv)).setLi G (log.map cv)).setDm d (feedD l (sp' + 1))⟩ : FS) =
          ⟨[("late", cv late), ("lap", .int k), ("found", .ref G), ("known", .ref K), ("clauses", .ref a), ("feed", .ref d)], [], ((fs.σ.setDm d (feedD l (sp' + 1))).setLi K ((cls ++ log).map cv)).setLi G (log.map cv)⟩ := fs_eq lld
        (refine ev_int ?_; refine cm_eq ?_)
        refine ⟨fun hb => ?_, fun hb => ?_⟩
        · (refine at_or ?_; refine tv_plain ?_; refine ev_gcall (by exact Pk.ns (by assumption) (by exact gs_law_follows _)) (by exact Pk.kp (by assumption) (by exact kp_law_follows _)) ?_; refine spl_cons ?_; refine ev_loc (by eq_refl) ?_; refine spl_cons ?_; refine ev_loc (by eq_refl) ?_; refine spl_nil ?_)
          refine follows_d (cls := cls ++ log) P' (by walk_at "ru lk") hlk.nd ?_ ?_ fun r hr => ?_
          · have := hlk.flat; have := p3.len; lia
          · have := hlk.len; lia
          (refine tr_bool ?_)
          refine ⟨fun hb => ?_, fun hb => ?_⟩
          · (refine at_or0 ?_)
            exact ⟨sp' + 1, fin, st p1, by lia⟩
          · exact ⟨sp' + 1, fin, st p1, by lia⟩
        · exact ⟨sp' + 1, fin, st p1, by lia⟩
      · rintro b f ⟨sp'', rfl, s1, s2⟩
        refine ⟨fun zz => ?_, fun zz => ?_⟩
        · (refine xs_cons ?_; refine xv_expr ?_; refine ev_meth (fv := .builtin "list.append") ?_; refine ev_loc (by eq_refl) ?_; refine ⟨_, gm_append (by walk_at "ru lk"), kp_builtin, ?_⟩; refine spl_cons ?_; refine ev_loc (by eq_refl) ?_; refine spl_nil ?_; refine cl_append (by walk_at "ru lk") (by walk_at "ru len") ?_; refine xs_cons ?_; refine xv_expr ?_; refine ev_meth (fv := .builtin "list.append") ?_; refine ev_loc (by eq_refl) ?_; refine ⟨_, gm_append (by walk_at "ru lk"), kp_builtin, ?_⟩; refine spl_cons ?_; refine ev_loc (by eq_refl) ?_; refine spl_nil ?_; refine cl_append (by walk_at "ru lk") (by walk_at "ru len") ?_; refine xs_nil ?_; refine xs_nil ?_; refine OutTo.out (by assumption) _ _ ?_)
          refine ⟨logF fs.σ d l K G a cls (log ++ [late]) sp'', FS.Le.mk' (by walk_at "ru all") trivial ?_, log ++ [late], sp'', s1, ?_, ?_, hi, ?_⟩
          · rw [llll KG, ← List.append_assoc, List.map_append, List.map_append (l₁ := log)]; exact HS.Le.refl
          · lia
          · simp; lia
          · intro c hc
            rcases List.mem_append.mp hc with hc | hc
            · exact q5 c hc
            · rw [List.mem_singleton.mp hc]; exact p3
        · (refine xs_nil ?_; refine xs_nil ?_; refine OutTo.out (by assumption) _ _ ?_)
          exact ⟨logF fs.σ d l K G a cls log sp'', FS.Le.mk' (by walk_at "ru all") trivial HS.Le.refl, log, sp'', s1, by lia, by lia, hi, q5⟩
  · rintro f ⟨log, sp, q1, q2, q3, q4, q5⟩
    (refine xs_cons ?_; refine xv_ret ?_; refine ev_tuple ?_; refine spl_cons ?_; refine ev_loc (by eq_refl) ?_; refine spl_cons ?_; refine ev_loc (by eq_refl) ?_; refine spl_nil ?_)
    refine ⟨by simp, ⟨[], [], _⟩, FS.Le.mk' trivial trivial HS.Le.refl, ?_⟩
    exact h K G log sp frK frG' KG (by simp at q2; lia) q1 (by lia) q5
end
-- R6
noncomputable section
open PySem PySem.W PySem.Calls PyProof.Rows PySem.SeqAt
section
variable {C : Cx} {fs : FS}
theorem ev_bty {x : Str} {pos : Pos} {T : String} {Q : V → FS → Prop} (e : nsIn C.W.K mainGlobals x = some none) (hv : bootBuiltins x = some (.type T)) (h : Q (.ty T) fs)
    (hn : x ≠ "__name__" := by decide) (hk : C.env.scope.kind = .function := by rfl) (hx : C.env.kindOf x = some .globalImplicit := by rfl) (hG : C.env.globals = mainGlobals := by rfl) (hB : C.env.builtins = builtinsNs := by rfl) (hd : (x == ("__debug__" : Str)) = false := by decide) : EV C (.Name x pos) Q fs :=
  ev_blt e hv (fun zz => by simp only [VR]) h hn hk hx hG hB hd
end
set_option maxHeartbeats 1000000 in
inductive IsI (c : List Int) (σ : HS) (i : Nat) : FS → Prop
  | mk (a : Int) (h0 : 0 ≤ a) (h1 : ∀ l ∈ c.drop i, a.natAbs < l.natAbs) : IsI c σ i ⟨[("ahead", .int a), ("clause", cv c)], [], σ⟩
theorem isc_d {C : Cx} {n : Nat} (P : Pk C (n + 1)) {fs : FS} {c : List Int} {Q : V → FS → Prop} (ha : Asc c) (h : Q (.bool true) fs) : CD C (.ref 78) [cv c] Q fs := by
  refine call_d P (ns := ["clause"]) rfl (by rfl) (of1 fun zz => rfl) rfl (by decide) (by decide) (fun L P' => ?_)
  refine XS.at (WP.weak ?_)
  (refine xs_cons ?_; refine xv_name ?_; refine ev_int ?_; refine st_loc ?_; refine xs_cons ?_)
  refine xv_forW P'.h (sr_of ?_)
  (refine ev_ifexp ?_; refine tv_plain ?_; refine ev_bcall (by exact Pk.ns (by assumption) (by exact gs_isinstance _)) (by exact bb_isinstance) ?_; refine spl_cons ?_; refine ev_loc (by eq_refl) ?_; refine spl_cons ?_; refine ev_bty (by exact Pk.ns (by assumption) (by exact gs_tuple _)) (by exact bb_tuple) ?_; refine spl_nil ?_; refine isi_tup ?_; refine tr_bool ?_)
  refine ⟨fun zz => ?_, fun hb => by cases hb⟩
  (refine ev_loc (by eq_refl) ?_; refine sv_tup ?_)
  refine ⟨IsI c fs.σ, ⟨0, by decide, fun l hl => ?_⟩, fun zz zz zz => trivial, ?_, ?_⟩
  · have := ha.2 l (by simpa using hl); omega
  · rintro i v f hv ⟨a, h0, h1⟩ Gq hGq
    rw [List.getElem?_map] at hv
    obtain ⟨l, hl, rfl⟩ := Option.map_eq_some_iff.mp hv
    obtain ⟨hi, hl'⟩ := List.getElem?_eq_some_iff.mp hl
    have hd : c.drop i = l :: c.drop (i + 1) := by rw [List.drop_eq_getElem_cons hi, hl']
    have hlt := h1 l (by rw [hd]; simp)
    have nxt : ∀ x ∈ c.drop (i + 1), l.natAbs < x.natAbs := fun x hx => by
      have q := ha.1
      rw [← List.take_append_drop i c, hd, List.map_append, List.map_cons, List.pairwise_append] at q
      exact (List.pairwise_cons.mp q.2.1).1 _ (List.mem_map.mpr ⟨x, hx, rfl⟩)
    (refine as_name ?_; refine st_loc ?_; refine xs_cons ?_; refine xv_if ?_; refine tv_bool ?_; refine at_or ?_; refine tv_not ?_; refine tv_plain ?_; refine ev_bcall (by exact Pk.ns (by assumption) (by exact gs_isinstance _)) (by exact bb_isinstance) ?_; refine spl_cons ?_; refine ev_loc (by eq_refl) ?_; refine spl_cons ?_; refine ev_bty (by exact Pk.ns (by assumption) (by exact gs_int _)) (by exact bb_int) ?_; refine spl_nil ?_; refine isi_int ?_; refine tr_bool ?_)
    refine ⟨fun zz => ?_, fun hb => (by cases hb)⟩
    (refine at_or ?_; refine tv_plain ?_; refine ev_bcall (by exact Pk.ns (by assumption) (by exact gs_isinstance _)) (by exact bb_isinstance) ?_; refine spl_cons ?_; refine ev_loc (by eq_refl) ?_; refine spl_cons ?_; refine ev_bty (by exact Pk.ns (by assumption) (by exact gs_bool _)) (by exact bb_bool) ?_; refine spl_nil ?_; refine isi_bool ?_; refine tr_bool ?_)
    refine ⟨fun zz => ?_, fun hb => (by cases hb)⟩
    (refine at_or ?_; refine tv_cmp ?_; refine ev_bcall (by exact Pk.ns (by assumption) (by exact gs_abs _)) (by exact bb_abs) ?_; refine spl_cons ?_; refine ev_loc (by eq_refl) ?_; refine spl_nil ?_; refine cl_abs ?_; refine ev_loc (by eq_refl) ?_; refine cm_le ?_)
    refine ⟨fun zz => ?_, fun hb => ?_⟩
    · (refine at_or0 ?_)
      refine ⟨fun hb => (by cases hb), fun zz => ?_⟩
      (refine xs_nil ?_; refine xs_cons ?_; refine xv_name ?_; refine ev_bcall (by exact Pk.ns (by assumption) (by exact gs_abs _)) (by exact bb_abs) ?_; refine spl_cons ?_; refine ev_loc (by eq_refl) ?_; refine spl_nil ?_; refine cl_abs ?_; refine st_loc ?_; refine xs_nil ?_; refine OutTo.out (by assumption) _ _ ?_)
      have ab : ((if l < 0 then -l else l) : Int).natAbs = l.natAbs ∧ 0 ≤ (if l < 0 then -l else l) := by split <;> omega
      exact ⟨_, FS.Le.mk2 (by walk_at "ru all") HS.Le.refl, _, ab.2, by rw [ab.1]; exact nxt⟩
    · exfalso
      have := of_decide_eq_true hb
      split at this <;> omega
  · rintro f ⟨a, h0, h1⟩
    (refine xs_cons ?_; refine xv_ret ?_; refine ev_bool ?_; with_reducible refine xq_ret ?_)
    exact ⟨⟨[], [], fs.σ⟩, FS.Le.mk' trivial trivial HS.Le.refl, h⟩
end
-- R7
noncomputable section
open PySem PySem.W PySem.Calls PyProof.Rows PySem.SeqAt
theorem kc138 (ps : _) : KC (hd.heap_1 ps) 138 := ⟨fun zz => by rfl, by rfl, by rfl, by rfl⟩
theorem kc184 (ps : _) : KC (hd.heap_1 ps) 184 := ⟨fun zz => by rfl, by rfl, by rfl, by rfl⟩
theorem Pk.kc {C : Cx} {n : Nat} (P : Pk C n) {Cl : Addr} (h : Cl = 138 ∨ Cl = 184) : KC C.W.K Cl := by
  rw [P.K]; rcases h with rfl | rfl
  · exact kc138 _
  · exact kc184 _
def two (Cl : Addr) : Prop := Cl = 138 ∨ Cl = 184
theorem Pk.find {C : Cx} {n : Nat} (P : Pk C n) {Cl : Addr} {name : Str} {r : Option (Option Value)} (h : two Cl) (h1 : findIn (hd.heap_1 C.W.w.params) (.ref 138) name = r) (h2 : findIn (hd.heap_1 C.W.w.params) (.ref 184) name = r) : findIn C.W.K (.ref Cl) name = r := by
  rw [P.K]; rcases h with rfl | rfl
  · exact h1
  · exact h2
theorem Pk.taker {C : Cx} {n : Nat} (P : Pk C n) {Cl : Addr} {name : Str} {r : Option (Option Value)} (h : two Cl) (h1 : takerIn (hd.heap_1 C.W.w.params) 138 name = r) (h2 : takerIn (hd.heap_1 C.W.w.params) 184 name = r) : takerIn C.W.K Cl name = r := by
  rw [P.K]; rcases h with rfl | rfl
  · exact h1
  · exact h2
structure UA where
  x : Addr
  Cl : Addr
  d : Addr
  lc : Addr
  dp : Addr
  lh : Addr
  lo : Addr
  lb : Addr
  dt : Addr
  lt : Addr
  kvs : List (Int × V)
structure UV where
  cls : List (List Int)
  held : List Int
  opn : List Int
  begun : List (Int × Int)
  empty : Int
  tk : List (Int × Int)
  clash : Int × Int
def bq (p : Int × Int) : V := .tup [.int p.1, .int p.2]
abbrev usA (u : UA) (v : UV) : List (Str × V) := [("clauses", .ref u.lc), ("places", .ref u.dp), ("held", .ref u.lh), ("open", .ref u.lo), ("begun", .ref u.lb), ("empty", .int v.empty), ("taken", .ref u.dt), ("trail", .ref u.lt), ("clash", bq v.clash)]
def occ (cls : List (List Int)) (l : Int) : List Int := ((List.range cls.length).filter fun i => decide (l ∈ cls.getD i [])).map fun (i : Nat) => (i : Int)
structure UD (u : UA) : Prop where
  two : two u.Cl
  ch : u.lc ≠ u.lh
  co : u.lc ≠ u.lo
  cb : u.lc ≠ u.lb
  ct : u.lc ≠ u.lt
  ho : u.lh ≠ u.lo
  hb : u.lh ≠ u.lb
  ht : u.lh ≠ u.lt
  ob : u.lo ≠ u.lb
  ot : u.lo ≠ u.lt
  bt : u.lb ≠ u.lt
  dp : u.d ≠ u.dp
  dt : u.d ≠ u.dt
  pt : u.dp ≠ u.dt
  refs : ∀ l w, vat u.kvs l = some w → ∃ a, w = .ref a ∧ a ≠ u.lc ∧ a ≠ u.lh ∧ a ≠ u.lo ∧ a ≠ u.lb ∧ a ≠ u.lt
  inj : ∀ l l' a, vat u.kvs l = some (.ref a) → vat u.kvs l' = some (.ref a) → l = l'
structure US (u : UA) (v : UV) (σ : HS) : Prop where
  ob : σ.ob u.x = some (u.Cl, u.d)
  at' : σ.dm u.d = some (.at (usA u v))
  lc : σ.li u.lc = some (v.cls.map cv)
  dp : σ.dm u.dp = some (.di u.kvs)
  lh : σ.li u.lh = some (v.held.map .int)
  lo : σ.li u.lo = some (v.opn.map .int)
  lb : σ.li u.lb = some (v.begun.map bq)
  dt : σ.dm u.dt = some (.di (v.tk.map fun p => (p.1, .int p.2)))
  lt : σ.li u.lt = some (v.tk.map fun p => .int p.1)
  pl : ∀ l a, vat u.kvs l = some (.ref a) → σ.li a = some ((occ v.cls l).map .int)
  no : ∀ l, vat u.kvs l = none → occ v.cls l = []
def Own (u : UA) (a : Addr) : Prop := a = u.x ∨ a = u.d ∨ a = u.lc ∨ a = u.dp ∨ a = u.lh ∨ a = u.lo ∨ a = u.lb ∨ a = u.dt ∨ a = u.lt ∨ ∃ l, vat u.kvs l = some (.ref a)
structure Off (A : Addr → Prop) (σ τ : HS) : Prop where
  li : ∀ a v, ¬ A a → σ.li a = some v → τ.li a = some v
  dm : ∀ a v, ¬ A a → σ.dm a = some v → τ.dm a = some v
  ob : ∀ a v, ¬ A a → σ.ob a = some v → τ.ob a = some v
  st : ∀ a v, ¬ A a → σ.st a = some v → τ.st a = some v
theorem Off.refl {A : Addr → Prop} {σ : HS} : Off A σ σ := ⟨fun zz zz zz e => e, fun zz zz zz e => e, fun zz zz zz e => e, fun zz zz zz e => e⟩
theorem Off.trans {A : Addr → Prop} {σ τ υ : HS} (x : Off A σ τ) (y : Off A τ υ) : Off A σ υ := ⟨fun a v n e => y.li a v n (x.li a v n e), fun a v n e => y.dm a v n (x.dm a v n e), fun a v n e => y.ob a v n (x.ob a v n e), fun a v n e => y.st a v n (x.st a v n e)⟩
theorem HS.Le.off {A : Addr → Prop} {σ τ : HS} (x : σ.Le τ) : Off A σ τ := ⟨fun a v zz e => x.li a v e, fun a v zz e => x.dm a v e, fun a v zz e => x.ob a v e, fun a v zz e => x.st a v e⟩
theorem Off.setLi {A : Addr → Prop} {σ τ : HS} {a : Addr} {x : List V} (h : Off A σ τ) (ha : A a) : Off A σ (τ.setLi a x) := ⟨fun b v n e => by
  have q : b ≠ a := fun q => n (by rw [q]; exact ha)
  simp only [HS.setLi, upd]; rw [if_neg q]; exact h.li b v n e, h.dm, h.ob, h.st⟩
theorem Off.setDm {A : Addr → Prop} {σ τ : HS} {a : Addr} {x : D} (h : Off A σ τ) (ha : A a) : Off A σ (τ.setDm a x) := ⟨h.li, fun b v n e => by
  have q : b ≠ a := fun q => n (by rw [q]; exact ha)
  simp only [HS.setDm, upd]; rw [if_neg q]; exact h.dm b v n e, h.ob, h.st⟩
theorem Off.newLi {A : Addr → Prop} {σ τ : HS} {a : Addr} {x : List V} (h : Off A σ τ) (ha : σ.Fresh a) : Off A σ (τ.setLi a x) := ⟨fun b v n e => by
  have q : b ≠ a := fun q => by subst q; rw [ha.li] at e; cases e
  simp only [HS.setLi, upd]; rw [if_neg q]; exact h.li b v n e, h.dm, h.ob, h.st⟩
theorem Off.newDm {A : Addr → Prop} {σ τ : HS} {a : Addr} {x : D} (h : Off A σ τ) (ha : σ.Fresh a) : Off A σ (τ.setDm a x) := ⟨h.li, fun b v n e => by
  have q : b ≠ a := fun q => by subst q; rw [ha.dm] at e; cases e
  simp only [HS.setDm, upd]; rw [if_neg q]; exact h.dm b v n e, h.ob, h.st⟩
theorem US.le {u : UA} {v : UV} {σ τ : HS} (x : US u v σ) (h : σ.Le τ) : US u v τ :=
  ⟨h.ob _ _ x.ob, h.dm _ _ x.at', h.li _ _ x.lc, h.dm _ _ x.dp, h.li _ _ x.lh, h.li _ _ x.lo, h.li _ _ x.lb, h.dm _ _ x.dt, h.li _ _ x.lt, fun l a e => h.li _ _ (x.pl l a e), x.no⟩
theorem US.notFresh {u : UA} {v : UV} {σ : HS} (x : US u v σ) {a : Addr} (f : σ.Fresh a) : ¬ Own u a := by
  rintro (rfl | rfl | rfl | rfl | rfl | rfl | rfl | rfl | rfl | ⟨l, e⟩)
  · have := x.ob; rw [f.ob] at this; cases this
  · have := x.at'; rw [f.dm] at this; cases this
  · have := x.lc; rw [f.li] at this; cases this
  · have := x.dp; rw [f.dm] at this; cases this
  · have := x.lh; rw [f.li] at this; cases this
  · have := x.lo; rw [f.li] at this; cases this
  · have := x.lb; rw [f.li] at this; cases this
  · have := x.dt; rw [f.dm] at this; cases this
  · have := x.lt; rw [f.li] at this; cases this
  · have := x.pl l a e; rw [f.li] at this; cases this
theorem US.off {u : UA} {v : UV} {σ τ : HS} {A : Addr → Prop} (x : US u v σ) (h : Off A σ τ) (hd : ∀ a, Own u a → ¬ A a) : US u v τ := by
  unfold Own at hd
  exact ⟨h.ob _ _ (hd _ (by simp)) x.ob, h.dm _ _ (hd _ (by simp)) x.at', h.li _ _ (hd _ (by simp)) x.lc, h.dm _ _ (hd _ (by simp)) x.dp, h.li _ _ (hd _ (by simp)) x.lh, h.li _ _ (hd _ (by simp)) x.lo, h.li _ _ (hd _ (by simp)) x.lb, h.dm _ _ (hd _ (by simp)) x.dt, h.li _ _ (hd _ (by simp)) x.lt,
    fun l a e => h.li _ _ (hd _ (.inr (.inr (.inr (.inr (.inr (.inr (.inr (.inr (.inr ⟨l, e⟩)))))))))) (x.pl l a e), x.no⟩
section
variable {C : Cx} {n : Nat} {fs : FS} {u : UA} {v : UV}
end
end
-- R8
noncomputable section
theorem mem_occ {cls : List (List Int)} {l i : Int} : i ∈ occ cls l ↔ ∃ (n : Nat) (c : List Int), i = n ∧ cls[n]? = some c ∧ l ∈ c := by
  unfold occ
  constructor
  · intro h
    obtain ⟨n, hn, rfl⟩ := List.mem_map.mp h
    obtain ⟨h1, h2⟩ := List.mem_filter.mp hn
    have h3 : n < cls.length := List.mem_range.mp h1
    have h4 := of_decide_eq_true h2
    rw [List.getD_eq_getElem?_getD, List.getElem?_eq_getElem h3] at h4
    exact ⟨n, cls[n], rfl, List.getElem?_eq_getElem h3, h4⟩
  · rintro ⟨n, c, rfl, h1, h2⟩
    have h3 := (List.getElem?_eq_some_iff.mp h1).1
    refine List.mem_map.mpr ⟨n, List.mem_filter.mpr ⟨List.mem_range.mpr h3, ?_⟩, rfl⟩
    rw [List.getD_eq_getElem?_getD, h1]; simpa using h2
theorem occ_nodup (cls : List (List Int)) (l : Int) : (occ cls l).Nodup := by
  unfold occ
  refine List.Pairwise.map _ (fun a b h e => h (Int.ofNat.inj e)) ((List.nodup_range).filter _)
theorem occ_len (cls : List (List Int)) (l : Int) : (occ cls l).length ≤ cls.length := by
  unfold occ
  rw [List.length_map]
  exact Nat.le_trans (List.length_filter_le _ _) (by simp)
theorem occ_snoc (cls : List (List Int)) (c : List Int) (l : Int) : occ (cls ++ [c]) l = occ cls l ++ (if l ∈ c then [(cls.length : Int)] else []) := by
  unfold occ
  rw [List.length_append, List.length_singleton, List.range_succ, List.filter_append, List.map_append]
  congr 1
  · congr 1
    refine List.filter_congr fun i hi => ?_
    have : i < cls.length := List.mem_range.mp hi
    simp only [List.getD_eq_getElem?_getD]
    rw [List.getElem?_append_left this]
  · rw [List.filter_cons]
    have : (cls ++ [c]).getD cls.length [] = c := by simp
    rw [this]
    by_cases h : l ∈ c <;> simp [h]
def bump (d : Int) (is : List Int) (xs : List Int) : List Int := xs.mapIdx fun i x => if (i : Int) ∈ is then x + d else x
theorem bump_len {d : Int} {is xs : List Int} : (bump d is xs).length = xs.length := by simp [bump]
theorem bump_nil {d : Int} {xs : List Int} : bump d [] xs = xs := by
  refine List.ext_getElem? fun m => ?_
  simp [bump, List.getElem?_mapIdx]
theorem bump_get {d : Int} {is xs : List Int} {n : Nat} : (bump d is xs)[n]? = (xs[n]?).map fun x => if (n : Int) ∈ is then x + d else x := by
  simp [bump, List.getElem?_mapIdx]
theorem bump_snoc {d : Int} {is xs : List Int} {n : Nat} {x : Int} (hn : (n : Int) ∉ is) (hx : xs[n]? = some x) : bump d (is ++ [(n : Int)]) xs = (bump d is xs).set n (x + d) := by
  refine List.ext_getElem? fun m => ?_
  rw [bump_get, List.getElem?_set, bump_get, bump_len]
  by_cases h : n = m
  · subst h
    have := (List.getElem?_eq_some_iff.mp hx).1
    rw [hx]; simp [this]
  · have : (m : Int) ≠ (n : Int) := fun e => h (by lia)
    simp [h, this]
theorem bump_occ {d : Int} {cls : List (List Int)} {l : Int} (f : List Int → Int) : bump d (occ cls l) (cls.map f) = cls.map fun c => if l ∈ c then f c + d else f c := by
  refine List.ext_getElem? fun m => ?_
  rw [bump_get, List.getElem?_map, List.getElem?_map]
  cases h : cls[m]? with
  | none => rfl
  | some c =>
    have : ((m : Int) ∈ occ cls l) ↔ l ∈ c := by
      rw [mem_occ]
      constructor
      · rintro ⟨k, c', e, h1, h2⟩
        have : m = k := by lia
        subst this; rw [h] at h1; cases h1; exact h2
      · intro hl; exact ⟨m, c, rfl, h, hl⟩
    simp [this]
end
-- R9
noncomputable section
open PySem PySem.W PySem.Calls PyProof.Rows PySem.SeqAt
abbrev UV.T (v : UV) : List Int := v.tk.map (·.1)
section
variable {u : UA} {v : UV} {σ : HS}
theorem US.setHeld (S : US u v σ) (U : UD u) {h : List Int} {x : List V} (hx : x = h.map .int) : US u { v with held := h } (σ.setLi u.lh x) := by
  subst hx
  exact ⟨S.ob, S.at', li_ne U.ch S.lc, S.dp, li_same, li_ne U.ho.symm S.lo, li_ne U.hb.symm S.lb, S.dt, li_ne U.ht.symm S.lt, fun l a e => by
    obtain ⟨b, hb, h1, h2, h3, h4, h5⟩ := U.refs l _ e; cases hb; exact li_ne h2 (S.pl l a e), S.no⟩
theorem US.setOpn (S : US u v σ) (U : UD u) {h : List Int} {x : List V} (hx : x = h.map .int) : US u { v with opn := h } (σ.setLi u.lo x) := by
  subst hx
  exact ⟨S.ob, S.at', li_ne U.co S.lc, S.dp, li_ne U.ho S.lh, li_same, li_ne U.ob.symm S.lb, S.dt, li_ne U.ot.symm S.lt, fun l a e => by
    obtain ⟨b, hb, h1, h2, h3, h4, h5⟩ := U.refs l _ e; cases hb; exact li_ne h3 (S.pl l a e), S.no⟩
theorem US.setTk (S : US u v σ) (U : UD u) {h : List (Int × Int)} {x : List V} {d : D} (hx : x = h.map fun p => .int p.1) (hd : d = .di (h.map fun p => (p.1, .int p.2))) : US u { v with tk := h } ((σ.setDm u.dt d).setLi u.lt x) := by
  subst hx hd
  exact ⟨S.ob, dm_ne U.dt S.at', li_ne U.ct S.lc, dm_ne U.pt S.dp, li_ne U.ht S.lh, li_ne U.ot S.lo, li_ne U.bt S.lb, dm_same, li_same, fun l a e => by
    obtain ⟨b, hb, h1, h2, h3, h4, h5⟩ := U.refs l _ e; cases hb; exact li_ne h5 (S.pl l a e), S.no⟩
theorem US.setClash (S : US u v σ) (U : UD u) {c : Int × Int} {d : D} (hd : d = .at (usA u { v with clash := c })) : US u { v with clash := c } (σ.setDm u.d d) := by
  subst hd
  exact ⟨S.ob, dm_same, S.lc, dm_ne U.dp.symm S.dp, S.lh, S.lo, S.lb, dm_ne U.dt.symm S.dt, S.lt, S.pl, S.no⟩
theorem US.other (S : US u v σ) {a : Addr} {x : List V} (h : ¬ Own u a) : US u v (σ.setLi a x) := S.off (A := fun b => b = a) (Off.refl.setLi rfl) fun b hb e => h (e ▸ hb)
end
theorem tk_isSome {tk : List (Int × Int)} {l : Int} : (vat (tk.map fun p => (p.1, V.int p.2)) l).isSome = decide (l ∈ tk.map (·.1)) := by
  unfold vat
  induction tk with
  | nil => rfl
  | cons p r ih =>
    simp only [List.map_cons, List.find?_cons]
    by_cases h : p.1 = l
    · simp [h]
    · have : l ≠ p.1 := fun e => h e.symm
      simp only [h, decide_false, ih, List.mem_cons, this, false_or]
end
local macro_rules | `(tactic| walk_at "ru two") => `(tactic| exact UD.two (by assumption))
noncomputable section
open PySem PySem.W PySem.Calls PyProof.Rows PySem.SeqAt
set_option maxHeartbeats 1000000 in
theorem last_d {C : Cx} {n : Nat} (P : Pk C (n + 1)) {fs : FS} {u : UA} {v : UV} (U : UD u) (S : US u v fs.σ) {i : Nat} {c : List Int} {y : Int} {r : List Int} {Q : V → FS → Prop} (hi : v.cls[i]? = some c) (hi' : i < 1000) (hc : c.length ≤ 10)
    (hy : (c.filter fun l => decide (l ∉ v.T) && decide (-l ∉ v.T)) = y :: r) (h : Q (.int y) fs) : CD C (.ref 104) [.ref u.x, .int i] Q fs := by
  refine call_d P (ns := ["self", "number"]) rfl (by rfl) (of2 fun zz zz => rfl) rfl (by decide) (by decide) (fun L P' => ?_)
  refine XS.at (WP.weak ?_)
  obtain ⟨s_ob, s_at, s_lc, s_dp, s_lh, s_lo, s_lb, s_dt, s_lt, s_pl, s_no⟩ := id S
  (refine xs_cons ?_; refine xv_name ?_; refine ev_attr ?_; refine ev_loc (by eq_refl) ?_; refine at_get (Pk.kc (by assumption) (by walk_at "ru two")) (by walk_at "ru lk") (by walk_at "ru lk") (by rfl) (Pk.find (by assumption) (by walk_at "ru two") (by exact fa138_taken _) (by exact fa184_taken _)) ?_; refine st_cell ?_ (by rfl); refine xs_cons ?_; refine xv_ret ?_; refine ev_sub ?_)
  refine ev_lcP P'.h (cl := [("taken", L + 1)]) (by rfl) (sr_of ?_) (by walk_at "ru cl") (by simp)
  (refine ev_sub ?_; refine ev_attr ?_; refine ev_loc (by eq_refl) ?_; refine at_get (Pk.kc (by assumption) (by walk_at "ru two")) (by walk_at "ru lk") (by walk_at "ru lk") (by rfl) (Pk.find (by assumption) (by walk_at "ru two") (by exact fa138_clauses _) (by exact fa184_clauses _)) ?_; refine ev_loc (by eq_refl) ?_)
  refine op_getN (vs := v.cls.map cv) (v := cv c) (by walk_at "ru lk") hi' (by simp [hi]) ?_
  (refine sv_tup ?_)
  intro D frD
  refine ⟨fun w => match w with | .int l => decide (l ∉ v.T) && decide (-l ∉ v.T) | _ => false, fun w => w, fun zz => trivial, by simp; lia, fun L' j w ws hv => ?_, ?_⟩
  · rw [List.getElem?_map] at hv
    obtain ⟨l, hl, rfl⟩ := Option.map_eq_some_iff.mp hv
    (refine ts_one ?_; refine tv_bool ?_; refine at_and ?_; refine tv_cmp ?_; refine ev_loc (by eq_refl) ?_; refine ev_cell (by eq_refl) (by eq_refl) ?_; refine di_notIn (by walk_at "ru lk") ?_)
    simp only [tk_isSome]
    refine ⟨fun hb => ?_, fun hb => ?_⟩
    · (refine at_and ?_; refine tv_cmp ?_; refine ev_un ?_; refine ev_loc (by eq_refl) ?_; refine op_neg ?_; refine ev_cell (by eq_refl) (by eq_refl) ?_; refine di_notIn (by walk_at "ru lk") ?_)
      simp only [tk_isSome]
      refine ⟨fun hb2 => ?_, fun hb2 => ?_⟩
      · (refine at_and0 ?_)
        refine ⟨by simp at hb hb2; simp; exact ⟨hb, hb2⟩, rfl, fun zz => ?_⟩
        (refine ev_loc (by eq_refl) ?_)
        exact ⟨rfl, rfl⟩
      · refine ⟨by simp at hb hb2; simp; intro _; exact hb2, (by first | trivial | rfl), fun hp => ?_⟩
        simp at hb hb2 hp; exact absurd hb2 (by simpa using hp.2)
    · refine ⟨by simp at hb; simp; intro q; exact absurd hb (by simpa using q), (by first | trivial | rfl), fun hp => ?_⟩
      simp at hb hp; exact absurd hb (by simpa using hp.1)
  · rw [filter_ints c _ (fun l => decide (l ∉ v.T) && decide (-l ∉ v.T)) (fun i => rfl), hy]
    (refine ev_int ?_)
    refine op_getL (vs := (y :: r).map V.int) (v := .int y) li_same (by decide) (by decide) rfl ?_
    exact ⟨⟨[], [], fs.σ⟩, FS.Le.mk' trivial trivial (HS.Le.refl.offLi frD.li), h⟩
end
-- R10
noncomputable section
open PySem PySem.W PySem.Calls PyProof.Rows PySem.SeqAt
def heldOf (T c : List Int) : Int := ((c.filter fun l => decide (l ∈ T)).length : Int)
def opnOf (T c : List Int) : Int := ((opn T c).length : Int)
theorem count_one {x : Int} {p q : Int → Bool} (h : ∀ y, y ≠ x → p y = q y) (hp : p x = false) (hq : q x = true) : ∀ {c : List Int}, c.Nodup → ((c.filter q).length : Int) = (c.filter p).length + if x ∈ c then 1 else 0
  | [], _ => by simp
  | a :: r, nd => by
    obtain ⟨n1, n2⟩ := List.nodup_cons.mp nd
    have ih := count_one h hp hq n2
    by_cases e : a = x
    · subst e
      rw [if_neg n1] at ih
      rw [List.filter_cons_of_pos hq, List.filter_cons_of_neg (by simp [hp]), if_pos (by simp), List.length_cons]
      lia
    · have hm : (x ∈ a :: r) ↔ x ∈ r := by simp [Ne.symm e]
      rw [List.filter_cons, List.filter_cons, h a e]
      by_cases hx : x ∈ r
      · rw [if_pos hx] at ih; rw [if_pos (hm.mpr hx)]
        split
        · rw [List.length_cons, List.length_cons]; lia
        · exact ih
      · rw [if_neg hx] at ih; rw [if_neg (fun q => hx (hm.mp q))]
        split
        · rw [List.length_cons, List.length_cons]; lia
        · exact ih
theorem held_take {T c : List Int} {l : Int} (nd : c.Nodup) (hl : l ∉ T) : heldOf (T ++ [l]) c = if l ∈ c then heldOf T c + 1 else heldOf T c := by
  have := count_one (x := l) (p := fun y => decide (y ∈ T)) (q := fun y => decide (y ∈ T ++ [l])) (fun y hy => by simp [hy]) (by simpa using hl) (by simp) nd
  unfold heldOf; rw [this]; split <;> lia
theorem opn_take {T c : List Int} {l : Int} (nd : c.Nodup) (hl : l ∉ T) : opnOf (T ++ [l]) c = if -l ∈ c then opnOf T c + -1 else opnOf T c := by
  have := count_one (x := -l) (p := fun y => decide (-y ∉ T ++ [l])) (q := fun y => decide (-y ∉ T)) (fun y hy => by
    have : -y ≠ l := fun e => hy (by lia)
    simp [this]) (by simp) (by simpa using hl) nd
  unfold opnOf opn; rw [this]; split <;> lia
structure Sane (v : UV) : Prop where
  lim : Lim v.cls
  held : v.held = v.cls.map (heldOf v.T)
  opn : v.opn = v.cls.map (opnOf v.T)
  nd : v.T.Nodup
  cons : ∀ l ∈ v.T, -l ∉ v.T
theorem nat_zero {n : Nat} (h : ((n : Int) == 0) = true) : n = 0 := by simpa using h
theorem held_zero {T c : List Int} (h : heldOf T c = 0) : ∀ x ∈ c, x ∉ T := fun x hx hT => by
  have : (c.filter fun l => decide (l ∈ T)) = [] := List.length_eq_zero_iff.mp (by unfold heldOf at h; lia)
  have := List.filter_eq_nil_iff.mp this x hx
  simp [hT] at this
theorem zero_held {T c : List Int} (h : ∀ x ∈ c, x ∉ T) : heldOf T c = 0 := by
  unfold heldOf
  rw [List.filter_eq_nil_iff.mpr fun a ha => by simpa using h a ha]; rfl
theorem vst_new {K : Type} [DecidableEq K] {kvs : List (K × V)} {k : K} {w : V} (h : k ∉ kvs.map (·.1)) : vst kvs k w = kvs ++ [(k, w)] := by
  unfold vst
  rw [if_neg]
  intro e
  obtain ⟨kv, h1, h2⟩ := List.any_eq_true.mp e
  exact h (List.mem_map.mpr ⟨kv, h1, of_decide_eq_true h2⟩)
section
variable {C : Cx} {fs : FS} {u : UA}
theorem sv_occ {l : Int} {is : List Int} {Q : List V → (HS → Prop) → FS → Prop} (U : UD u) (hp : ∀ a, vat u.kvs l = some (.ref a) → fs.σ.li a = some (is.map .int)) (hn : vat u.kvs l = none → is = [])
    (h : ∀ ok : HS → Prop, (∀ σ : HS, (∀ a, vat u.kvs l = some (.ref a) → σ.li a = some (is.map .int)) → ok σ) → Q (is.map .int) ok fs) : SV C ((vat u.kvs l).getD (.tup [])) Q fs := by
  cases e : vat u.kvs l with
  | none =>
    rw [hn e] at h
    exact sv_tup (h _ fun zz zz => trivial)
  | some w =>
    obtain ⟨a, rfl, zz⟩ := U.refs l w e
    exact sv_list (hp a e) (h _ fun σ q => q a e)
end
theorem not_mem_take {is : List Int} (nd : is.Nodup) {i : Nat} {m : Int} (h : is[i]? = some m) : m ∉ is.take i := fun hm => by
  obtain ⟨h1, h2⟩ := List.getElem?_eq_some_iff.mp h
  rw [← List.take_append_drop i is, List.drop_eq_getElem_cons h1, h2] at nd
  exact (List.nodup_append.mp nd).2.2 m hm m (by simp) rfl
theorem bump_step {d : Int} {is xs : List Int} (nd : is.Nodup) {i m : Nat} (h : is[i]? = some (m : Int)) {x : Int} (hx : xs[m]? = some x) :
    (bump d (is.take i) xs)[m]? = some x ∧ bump d (is.take (i + 1)) xs = (bump d (is.take i) xs).set m (x + d) := by
  have hn := not_mem_take nd h
  refine ⟨by rw [bump_get, hx]; simp [hn], ?_⟩
  rw [take_snoc h]; exact bump_snoc hn hx
theorem Pk.ty {C : Cx} {n : Nat} (P : Pk C n) {f : Addr} {r : Option Value} (h : typeIn (hd.heap_1 C.W.w.params) (.ref f) = r) : typeIn C.W.K (.ref f) = r := by rw [P.K]; exact h
def T1 (T : List Int) (cls : List (List Int)) (l : Int) (new : List (Int × Int)) : Prop := ∀ p ∈ new, ∃ (i : Nat) (c : List Int), p.2 = i ∧ cls[i]? = some c ∧ -l ∈ c ∧ opn T c = [p.1] ∧ p.1 ∉ T
inductive TkA (u : UA) (v : UV) (l cause : Int) (q : Addr) (qs : List (Int × Int)) (σ0 : HS) (i : Nat) : FS → Prop
  | mk (τ : HS) (S : US u { v with tk := v.tk ++ [(l, cause)], held := bump 1 ((occ v.cls l).take i) v.held } τ) (Q : τ.li q = some (qs.map bq)) (O : Off (fun a => Own u a ∨ a = q) σ0 τ) :
    TkA u v l cause q qs σ0 i ⟨[("stands", .bool true), ("self", .ref u.x), ("literal", .int l), ("cause", .int cause), ("queue", .ref q)], [], τ⟩
def TkS (v : UV) (l : Int) (new : List (Int × Int)) (i : Nat) : Prop := ∀ (i' : Nat) c, (i' : Int) ∈ (occ v.cls (-l)).take i → v.cls[i']? = some c → opn (v.T ++ [l]) c ≠ [] ∧ ∀ y, opn (v.T ++ [l]) c = [y] → y ∉ v.T ++ [l] → (y, (i' : Int)) ∈ new
def TkF (v : UV) (l : Int) (cl : Int × Int) : Prop := ∃ (i : Nat) (c : List Int), cl = ((i : Int), l) ∧ v.cls[i]? = some c ∧ -l ∈ c ∧ opn (v.T ++ [l]) c = []
inductive TkB (u : UA) (v : UV) (l cause : Int) (q : Addr) (qs : List (Int × Int)) (σ0 : HS) (i : Nat) : FS → Prop
  | mk (stands : Bool) (new : List (Int × Int)) (cl : Int × Int) (τ : HS) (S : US u { v with tk := v.tk ++ [(l, cause)], held := v.cls.map (heldOf (v.T ++ [l])), opn := bump (-1) ((occ v.cls (-l)).take i) v.opn, clash := cl } τ)
      (Q : τ.li q = some ((qs ++ new).map bq)) (O : Off (fun a => Own u a ∨ a = q) σ0 τ) (n1 : new.length ≤ i) (n2 : i ≤ v.cls.length) (t1 : T1 (v.T ++ [l]) v.cls l new) (s : stands = true → TkS v l new i) (f : stands = false → TkF v l cl) :
    TkB u v l cause q qs σ0 i ⟨[("stands", .bool stands), ("self", .ref u.x), ("literal", .int l), ("cause", .int cause), ("queue", .ref q)], [], τ⟩
set_option maxHeartbeats 2000000 in
theorem take_d {C : Cx} {n : Nat} (P : Pk C (n + 2)) {fs : FS} {u : UA} {v : UV} (U : UD u) (S : US u v fs.σ) (Z : Sane v) {l cause : Int} {q : Addr} {qs : List (Int × Int)} {Q : V → FS → Prop} (hq : fs.σ.li q = some (qs.map bq)) (oq : ¬ Own u q)
    (hl : l ∉ v.T) (hl' : -l ∉ v.T) (hz : qs.length ≤ 900) (hz2 : v.tk.length ≤ 900)
    (h : ∀ (stands : Bool) (new : List (Int × Int)) (cl : Int × Int) τ, US u { v with tk := v.tk ++ [(l, cause)], held := v.cls.map (heldOf (v.T ++ [l])), opn := v.cls.map (opnOf (v.T ++ [l])), clash := cl } τ → τ.li q = some ((qs ++ new).map bq) →
      Off (fun a => Own u a ∨ a = q) fs.σ τ → new.length ≤ v.cls.length → T1 (v.T ++ [l]) v.cls l new →
      (stands = true → ∀ (i : Nat) c, v.cls[i]? = some c → -l ∈ c → opn (v.T ++ [l]) c ≠ [] ∧ ∀ y, opn (v.T ++ [l]) c = [y] → y ∉ v.T ++ [l] → (y, (i : Int)) ∈ new) →
      (stands = false → ∃ (i : Nat) (c : List Int), cl = ((i : Int), l) ∧ v.cls[i]? = some c ∧ -l ∈ c ∧ opn (v.T ++ [l]) c = []) → Q (.bool stands) { fs with σ := τ }) : CD C (.ref 111) [.ref u.x, .int l, .int cause, .ref q] Q fs := by
  refine call_d P (ns := ["self", "literal", "cause", "queue"]) rfl (by rfl) (of4 fun zz zz zz zz => rfl) rfl (by decide) (by decide) (fun L P' => ?_)
  refine XS.at (WP.weak ?_)
  have c14 := Z.lim.len
  obtain ⟨s_ob, s_at, s_lc, s_dp, s_lh, s_lo, s_lb, s_dt, s_lt, s_pl, s_no⟩ := id S
  obtain ⟨zz, u1, u2, u3, u4, u5, u6, u7, u8, u9, u10, u11, u12, u13, u_refs, u_inj⟩ := id U
  have qn : q ≠ u.lc ∧ q ≠ u.lh ∧ q ≠ u.lo ∧ q ≠ u.lb ∧ q ≠ u.lt ∧ ∀ l a, vat u.kvs l = some (.ref a) → a ≠ q := by
    unfold Own at oq
    refine ⟨?_, ?_, ?_, ?_, ?_, fun l a e q' => oq (by subst q'; exact .inr (.inr (.inr (.inr (.inr (.inr (.inr (.inr (.inr ⟨l, e⟩)))))))))⟩ <;> · intro e; exact oq (by simp [e])
  obtain ⟨q1, q2, q3, q4, q5, q6⟩ := qn
  (refine xs_cons ?_; refine xv_name ?_; refine ev_bool ?_; refine st_loc ?_; refine xs_cons ?_; refine xv_sub ?_; refine ev_loc (by eq_refl) ?_; refine ev_attr ?_; refine ev_loc (by eq_refl) ?_; refine at_get (Pk.kc (by assumption) (by walk_at "ru two")) (by walk_at "ru lk") (by walk_at "ru lk") (by rfl) (Pk.find (by assumption) (by walk_at "ru two") (by exact fa138_taken _) (by exact fa184_taken _)) ?_; refine ev_loc (by eq_refl) ?_)
  refine di_set (by walk_at "ru lk") (by simp; lia) ?_
  rw [vst_new (by simpa using hl)]
  (refine xs_cons ?_; refine xv_expr ?_; refine ev_meth (fv := .builtin "list.append") ?_; refine ev_attr ?_; refine ev_loc (by eq_refl) ?_; refine at_get (Pk.kc (by assumption) (by walk_at "ru two")) (by walk_at "ru lk") (by walk_at "ru lk") (by rfl) (Pk.find (by assumption) (by walk_at "ru two") (by exact fa138_trail _) (by exact fa184_trail _)) ?_; refine ⟨_, gm_append (by walk_at "ru lk"), kp_builtin, ?_⟩; refine spl_cons ?_; refine ev_loc (by eq_refl) ?_; refine spl_nil ?_; refine cl_append (by walk_at "ru lk") (by walk_at "ru len") ?_; refine xs_cons ?_)
  have S1 : US u { v with tk := v.tk ++ [(l, cause)] } _ := S.setTk U (h := v.tk ++ [(l, cause)]) rfl rfl
  have O1 : Off (fun a => Own u a ∨ a = q) fs.σ ((fs.σ.setDm u.dt (.di ((v.tk ++ [(l, cause)]).map fun p => (p.1, .int p.2)))).setLi u.lt ((v.tk ++ [(l, cause)]).map fun p => .int p.1)) := (Off.refl.setDm (by simp [Own])).setLi (by simp [Own])
  have Q1 : ((fs.σ.setDm u.dt (.di ((v.tk ++ [(l, cause)]).map fun p => (p.1, .int p.2)))).setLi u.lt ((v.tk ++ [(l, cause)]).map fun p => .int p.1)).li q = some (qs.map bq) := by walk_at "ru lk"
  revert S1 O1 Q1
  generalize hσ1 : (fs.σ.setDm u.dt (.di ((v.tk ++ [(l, cause)]).map fun p => (p.1, .int p.2)))).setLi u.lt ((v.tk ++ [(l, cause)]).map fun p => .int p.1) = σ1
  intro S1 O1 Q1
  refine WP.pre (f := ⟨[("stands", .bool true), ("self", .ref u.x), ("literal", .int l), ("cause", .int cause), ("queue", .ref q)], [], σ1⟩) ?_ (FS.Le.mk' (by walk_at "ru all") trivial (by rw [← hσ1]; simp only [List.map_append]; exact HS.Le.refl))
  have nd := fun c hc => Z.lim.nd (c := c) hc
  have e1 : bump 1 (occ v.cls l) v.held = v.cls.map (heldOf (v.T ++ [l])) := by
    rw [Z.held, bump_occ]; exact List.map_congr_left fun c hc => (held_take (nd c hc) hl).symm
  have e2 : bump (-1) (occ v.cls (-l)) v.opn = v.cls.map (opnOf (v.T ++ [l])) := by
    rw [Z.opn, bump_occ]; exact List.map_congr_left fun c hc => (opn_take (nd c hc) hl).symm
  have S1' := S1
  obtain ⟨zz, zz, zz, zz, zz, zz, zz, zz, zz, zz, zz⟩ := id S1
  refine xv_forW P'.h (sr_of ?_)
  (refine ev_meth (fv := .builtin "dict.get") ?_; refine ev_attr ?_; refine ev_loc (by eq_refl) ?_; refine at_get (Pk.kc (by assumption) (by walk_at "ru two")) (by walk_at "ru lk") (by walk_at "ru lk") (by rfl) (Pk.find (by assumption) (by walk_at "ru two") (by exact fa138_places _) (by exact fa184_places _)) ?_; refine ⟨_, gm_get (kI _) (by walk_at "ru lk"), kp_builtin, ?_⟩; refine spl_cons ?_; refine ev_loc (by eq_refl) ?_; refine spl_cons ?_; refine ev_tuple ?_; refine spl_nil ?_; refine ⟨by walk_at "ru len", ?_⟩; refine spl_nil ?_; refine cl_get2 (kI _) (by walk_at "ru lk") ?_)
  refine sv_occ U (is := occ v.cls l) ?_ (fun e => S1.no _ e) fun ok hok => ?_
  · exact fun a e => S1.pl _ _ e
  refine ⟨TkA u v l cause q qs fs.σ, ⟨σ1, by simpa [bump_nil] using S1, Q1, O1⟩, ?_, ?_, ?_⟩
  · rintro i f ⟨τ, Sτ, zz⟩
    exact hok _ fun a e => Sτ.pl _ _ e
  · rintro i w f hv ⟨τ, Sτ, Qτ, Oτ⟩ Gq hGq
    rw [List.getElem?_map] at hv
    obtain ⟨k, hk, rfl⟩ := Option.map_eq_some_iff.mp hv
    obtain ⟨m, c, rfl, hm, hc⟩ := mem_occ.mp (List.mem_of_getElem? hk)
    obtain ⟨t_ob, t_at, t_lc, t_dp, t_lh, t_lo, t_lb, t_dt, t_lt, t_pl, t_no⟩ := id Sτ
    have hm14 : m < v.cls.length := (List.getElem?_eq_some_iff.mp hm).1
    have hx : v.held[m]? = some (heldOf v.T c) := by rw [Z.held, List.getElem?_map, hm]; rfl
    obtain ⟨b1, b2⟩ := bump_step (d := 1) (occ_nodup v.cls l) hk hx
    (refine as_name ?_; refine st_loc ?_; refine xs_cons ?_; refine xv_sub ?_; refine ev_bin ?_; refine ev_sub ?_; refine ev_attr ?_; refine ev_loc (by eq_refl) ?_; refine at_get (Pk.kc (by assumption) (by walk_at "ru two")) (by walk_at "ru lk") (by walk_at "ru lk") (by rfl) (Pk.find (by assumption) (by walk_at "ru two") (by exact fa138_held _) (by exact fa184_held _)) ?_; refine ev_loc (by eq_refl) ?_)
    refine op_getN (vs := _) (v := .int (heldOf v.T c)) (by walk_at "ru lk") (by lia) (by simp [b1]) ?_
    (refine ev_int ?_; refine op_add ?_; refine ev_attr ?_; refine ev_loc (by eq_refl) ?_; refine at_get (Pk.kc (by assumption) (by walk_at "ru two")) (by walk_at "ru lk") (by walk_at "ru lk") (by rfl) (Pk.find (by assumption) (by walk_at "ru two") (by exact fa138_held _) (by exact fa184_held _)) ?_; refine ev_loc (by eq_refl) ?_)
    refine op_setL (by walk_at "ru lk") (by lia) (by simp [bump_len, Z.held]; lia) (by simp [bump_len, Z.held]; lia) ?_
    (refine xs_nil ?_; refine OutTo.out (by assumption) _ _ ?_)
    refine ⟨_, FS.Le.mk2 (by walk_at "ru all") HS.Le.refl, _, Sτ.setHeld U (h := bump 1 ((occ v.cls l).take (i + 1)) v.held) ?_, li_ne q2 Qτ, Oτ.setLi (by simp [Own])⟩
    rw [b2]; simp
  · rintro f ⟨τ, Sτ, Qτ, Oτ⟩
    rw [List.length_map, List.take_length, e1] at Sτ
    obtain ⟨zz, zz, zz, zz, zz, zz, zz, zz, zz, zz, zz⟩ := id Sτ
    (refine xs_cons ?_)
    refine xv_forW P'.h (sr_of ?_)
    (refine ev_meth (fv := .builtin "dict.get") ?_; refine ev_attr ?_; refine ev_loc (by eq_refl) ?_; refine at_get (Pk.kc (by assumption) (by walk_at "ru two")) (by walk_at "ru lk") (by walk_at "ru lk") (by rfl) (Pk.find (by assumption) (by walk_at "ru two") (by exact fa138_places _) (by exact fa184_places _)) ?_; refine ⟨_, gm_get (kI _) (by walk_at "ru lk"), kp_builtin, ?_⟩; refine spl_cons ?_; refine ev_un ?_; refine ev_loc (by eq_refl) ?_; refine op_neg ?_; refine spl_cons ?_; refine ev_tuple ?_; refine spl_nil ?_; refine ⟨by walk_at "ru len", ?_⟩; refine spl_nil ?_; refine cl_get2 (kI _) (by walk_at "ru lk") ?_)
    refine sv_occ U (is := occ v.cls (-l)) ?_ (fun e => Sτ.no _ e) fun ok hok => ?_
    · exact fun a e => Sτ.pl _ _ e
    refine ⟨TkB u v l cause q qs fs.σ,
      ⟨true, [], v.clash, τ, by simpa [bump_nil] using Sτ, by simpa using Qτ, Oτ, by simp, by simp, fun p hp => (by cases hp), fun zz i' c hi => (by simp at hi), fun hb => (by cases hb)⟩, ?_, ?_, ?_⟩
    · rintro i f ⟨zz, zz, zz, τ, Sτ, zz⟩
      exact hok _ fun a e => Sτ.pl _ _ e
    · clear Sτ Qτ Oτ
      rintro i w f hv ⟨stands, new, cl, τ, Sτ, Qτ, Oτ, i1, i2, i3, i4, i5⟩ Gq hGq
      rw [List.getElem?_map] at hv
      obtain ⟨k, hk, rfl⟩ := Option.map_eq_some_iff.mp hv
      obtain ⟨m, c, rfl, hm, hc⟩ := mem_occ.mp (List.mem_of_getElem? hk)
      obtain ⟨t_ob, t_at, t_lc, t_dp, t_lh, t_lo, t_lb, t_dt, t_lt, t_pl, t_no⟩ := id Sτ
      have hm14 : m < v.cls.length := (List.getElem?_eq_some_iff.mp hm).1
      have hx : v.opn[m]? = some (opnOf v.T c) := by rw [Z.opn, List.getElem?_map, hm]; rfl
      have ol : v.opn.length = v.cls.length := by rw [Z.opn]; simp
      obtain ⟨b1, b2⟩ := bump_step (d := -1) (occ_nodup v.cls (-l)) hk hx
      have eo : opnOf v.T c - 1 = opnOf (v.T ++ [l]) c := by rw [opn_take (nd c (List.mem_of_getElem? hm)) hl, if_pos hc]; lia
      have ile : i + 1 ≤ v.cls.length := by
        have := (List.getElem?_eq_some_iff.mp hk).1; have := occ_len v.cls (-l); lia
      have hmH : (v.cls.map (heldOf (v.T ++ [l])))[m]? = some (heldOf (v.T ++ [l]) c) := by rw [List.getElem?_map, hm]; rfl
      have hmO : (bump (-1) ((occ v.cls (-l)).take (i + 1)) v.opn)[m]? = some (opnOf (v.T ++ [l]) c) := by
        rw [b2, ← eo, List.getElem?_set_self (by rw [bump_len, ol]; exact hm14)]; rfl
      (refine as_name ?_; refine st_loc ?_; refine xs_cons ?_; refine xv_sub ?_; refine ev_bin ?_; refine ev_sub ?_; refine ev_attr ?_; refine ev_loc (by eq_refl) ?_; refine at_get (Pk.kc (by assumption) (by walk_at "ru two")) (by walk_at "ru lk") (by walk_at "ru lk") (by rfl) (Pk.find (by assumption) (by walk_at "ru two") (by exact fa138_open _) (by exact fa184_open _)) ?_; refine ev_loc (by eq_refl) ?_)
      refine op_getN (vs := _) (v := .int (opnOf v.T c)) (by walk_at "ru lk") (by lia) (by simp [b1]) ?_
      (refine ev_int ?_; refine op_sub ?_; refine ev_attr ?_; refine ev_loc (by eq_refl) ?_; refine at_get (Pk.kc (by assumption) (by walk_at "ru two")) (by walk_at "ru lk") (by walk_at "ru lk") (by rfl) (Pk.find (by assumption) (by walk_at "ru two") (by exact fa138_open _) (by exact fa184_open _)) ?_; refine ev_loc (by eq_refl) ?_)
      refine op_setL (by walk_at "ru lk") (by lia) (by simp [bump_len, ol]; lia) (by simp [bump_len, ol]; lia) ?_
      have S2 := Sτ.setOpn U (h := bump (-1) ((occ v.cls (-l)).take (i + 1)) v.opn) (x := ((bump (-1) ((occ v.cls (-l)).take i) v.opn).map V.int).set (m : Int).toNat (.int (opnOf v.T c - 1))) (by rw [b2]; simp [Int.sub_eq_add_neg])
      have Q2 : (τ.setLi u.lo (((bump (-1) ((occ v.cls (-l)).take i) v.opn).map V.int).set (m : Int).toNat (.int (opnOf v.T c - 1)))).li q = some ((qs ++ new).map bq) := li_ne q3 Qτ
      have O2 : Off (fun a => Own u a ∨ a = q) fs.σ (τ.setLi u.lo (((bump (-1) ((occ v.cls (-l)).take i) v.opn).map V.int).set (m : Int).toNat (.int (opnOf v.T c - 1)))) := Oτ.setLi (by simp [Own])
      revert S2 Q2 O2
      generalize τ.setLi u.lo (((bump (-1) ((occ v.cls (-l)).take i) v.opn).map V.int).set (m : Int).toNat (.int (opnOf v.T c - 1))) = σ2
      clear t_ob t_at t_lc t_dp t_lh t_lo t_lb t_dt t_lt t_pl t_no
      intro S2 Q2 O2
      obtain ⟨t_ob, t_at, t_lc, t_dp, t_lh, t_lo, t_lb, t_dt, t_lt, t_pl, t_no⟩ := id S2
      (refine xs_cons ?_; refine xv_if ?_; refine tv_bool ?_; refine at_and ?_; refine tv_cmp ?_; refine ev_sub ?_; refine ev_attr ?_; refine ev_loc (by eq_refl) ?_; refine at_get (Pk.kc (by assumption) (by walk_at "ru two")) (by walk_at "ru lk") (by walk_at "ru lk") (by rfl) (Pk.find (by assumption) (by walk_at "ru two") (by exact fa138_held _) (by exact fa184_held _)) ?_; refine ev_loc (by eq_refl) ?_)
      refine op_getN (vs := _) (v := .int (heldOf (v.T ++ [l]) c)) (by walk_at "ru lk") (by lia) (by simp [hm]) ?_
      have cons' : ∀ x ∈ v.T ++ [l], -x ∉ v.T ++ [l] := fun x hx hn => by
        rcases List.mem_append.mp hx with hx | hx <;> rcases List.mem_append.mp hn with hn | hn
        · exact Z.cons x hx hn
        · have := List.mem_singleton.mp hn; exact hl' (by rw [show -l = x from by lia]; exact hx)
        · have e := List.mem_singleton.mp hx; rw [e] at hn; exact hl' hn
        · have e1 := List.mem_singleton.mp hx; have e2 := List.mem_singleton.mp hn
          have q := (Z.lim.ok c (List.mem_of_getElem? hm)).asc.2 _ hc
          lia
      have inop : ∀ x ∈ c, x ∈ v.T ++ [l] → x ∈ opn (v.T ++ [l]) c := fun x hx ht => List.mem_filter.mpr ⟨hx, by simpa using cons' x ht⟩
      have ext : (opn (v.T ++ [l]) c ≠ [] ∧ ∀ y, opn (v.T ++ [l]) c = [y] → y ∉ v.T ++ [l] → (y, (m : Int)) ∈ new) → (stands = true → TkS v l new (i + 1)) := fun hx hs i' c' h1 h2 => by
        rw [take_snoc hk] at h1
        rcases List.mem_append.mp h1 with h1 | h1
        · exact i4 hs i' c' h1 h2
        · have := List.mem_singleton.mp h1
          have : i' = m := by lia
          subst this; rw [hm] at h2; cases h2; exact hx
      (refine ev_int ?_; refine cm_eq ?_)
      refine ⟨fun h1 => ?_, fun h1 => ?_⟩
      · have z1 := held_zero (by simpa using h1)
        (refine at_and ?_; refine tv_cmp ?_; refine ev_sub ?_; refine ev_attr ?_; refine ev_loc (by eq_refl) ?_; refine at_get (Pk.kc (by assumption) (by walk_at "ru two")) (by walk_at "ru lk") (by walk_at "ru lk") (by rfl) (Pk.find (by assumption) (by walk_at "ru two") (by exact fa138_open _) (by exact fa184_open _)) ?_; refine ev_loc (by eq_refl) ?_)
        refine op_getN (vs := _) (v := .int (opnOf (v.T ++ [l]) c)) (by walk_at "ru lk") (by lia) (by simp [hmO]) ?_
        (refine ev_int ?_; refine cm_eq ?_)
        refine ⟨fun h2 => ?_, fun h2 => ?_⟩
        · have z2 : opn (v.T ++ [l]) c = [] := List.length_eq_zero_iff.mp (nat_zero h2)
          (refine at_and0 ?_)
          refine ⟨fun zz => ?_, fun hb => (by cases hb)⟩
          (refine xs_cons ?_; refine xv_name ?_; refine ev_bool ?_; refine st_loc ?_; refine xs_cons ?_; refine xv_attr ?_; refine ev_tuple ?_; refine spl_cons ?_; refine ev_loc (by eq_refl) ?_; refine spl_cons ?_; refine ev_loc (by eq_refl) ?_; refine spl_nil ?_; refine ⟨by walk_at "ru len", ?_⟩; refine ev_loc (by eq_refl) ?_; refine at_set (Pk.kc (by assumption) (by walk_at "ru two")) (by walk_at "ru lk") (by walk_at "ru lk") (Pk.taker (by assumption) (by walk_at "ru two") (by exact tk138_clash _) (by exact tk184_clash _)) (Nat.le_of_ble_eq_true (by rfl)) ?_; refine xs_nil ?_; refine xs_nil ?_; refine OutTo.out (by assumption) _ _ ?_)
          exact ⟨_, FS.Le.mk2 (by walk_at "ru all") HS.Le.refl, false, new, ((m : Int), l), _, S2.setClash U rfl, Q2, O2.setDm (by simp [Own]), by lia, ile, i3, (by simp), fun zz => ⟨m, c, rfl, hm, hc, z2⟩⟩
        · refine ⟨fun hb => (by cases hb), fun zz => ?_⟩
          (refine xs_cons ?_; refine xv_if ?_; refine tv_bool ?_; refine at_and ?_; refine tv_cmp ?_; refine ev_sub ?_; refine ev_attr ?_; refine ev_loc (by eq_refl) ?_; refine at_get (Pk.kc (by assumption) (by walk_at "ru two")) (by walk_at "ru lk") (by walk_at "ru lk") (by rfl) (Pk.find (by assumption) (by walk_at "ru two") (by exact fa138_held _) (by exact fa184_held _)) ?_; refine ev_loc (by eq_refl) ?_)
          refine op_getN (vs := _) (v := .int (heldOf (v.T ++ [l]) c)) (by walk_at "ru lk") (by lia) (by simp [hm]) ?_
          (refine ev_int ?_; refine cm_eq ?_)
          refine ⟨fun zz => ?_, fun h3 => absurd (h1.symm.trans h3) (by simp)⟩
          (refine at_and ?_; refine tv_cmp ?_; refine ev_sub ?_; refine ev_attr ?_; refine ev_loc (by eq_refl) ?_; refine at_get (Pk.kc (by assumption) (by walk_at "ru two")) (by walk_at "ru lk") (by walk_at "ru lk") (by rfl) (Pk.find (by assumption) (by walk_at "ru two") (by exact fa138_open _) (by exact fa184_open _)) ?_; refine ev_loc (by eq_refl) ?_)
          refine op_getN (vs := _) (v := .int (opnOf (v.T ++ [l]) c)) (by walk_at "ru lk") (by lia) (by simp [hmO]) ?_
          (refine ev_int ?_; refine cm_eq ?_)
          refine ⟨fun h4 => ?_, fun h4 => ?_⟩
          · obtain ⟨y, hy⟩ : ∃ y, opn (v.T ++ [l]) c = [y] := List.length_eq_one_iff.mp (by
              have : opnOf (v.T ++ [l]) c = 1 := by simpa using h4
              unfold opnOf at this; lia)
            have yc : y ∈ c ∧ -y ∉ v.T ++ [l] := by
              have : y ∈ opn (v.T ++ [l]) c := by rw [hy]; simp
              obtain ⟨y1, y2⟩ := List.mem_filter.mp this; exact ⟨y1, by simpa using y2⟩
            have hf : (c.filter fun x => decide (x ∉ v.T ++ [l]) && decide (-x ∉ v.T ++ [l])) = [y] := by
              rw [← hy]; unfold opn
              exact List.filter_congr fun x hx => by simp [z1 x hx, show x ∉ v.T ++ [l] from z1 x hx]
            (refine at_and0 ?_)
            refine ⟨fun zz => ?_, fun hb => (by cases hb)⟩
            (refine xs_cons ?_; refine xv_expr ?_; refine ev_meth (fv := .builtin "list.append") ?_; refine ev_loc (by eq_refl) ?_; refine ⟨_, gm_append (by walk_at "ru lk"), kp_builtin, ?_⟩; refine spl_cons ?_; refine ev_tuple ?_; refine spl_cons ?_; refine ev_meth (fv := .ref 104) ?_; refine ev_loc (by eq_refl) ?_; refine ⟨_, gm_own (Pk.kc (by assumption) (by walk_at "ru two")) (by walk_at "ru lk") (by walk_at "ru lk") (by rfl) (Pk.find (by assumption) (by walk_at "ru two") (by exact fm138_last_of _) (by exact fm184_last_of _)) (Pk.ty (by assumption) (by exact ty_last_of _)), .inr (.inr (by exact Pk.kp (by assumption) (by exact kp_last_of _))), ?_⟩; refine spl_cons ?_; refine ev_loc (by eq_refl) ?_; refine spl_nil ?_; refine CD.cl ?_)
            refine last_d (v := { v with tk := v.tk ++ [(l, cause)], held := v.cls.map (heldOf (v.T ++ [l])), opn := bump (-1) ((occ v.cls (-l)).take (i + 1)) v.opn, clash := cl }) (y := y) (r := []) P' U S2 hm (by lia) (by have := (Z.lim.ok c (List.mem_of_getElem? hm)).len; lia)
              (by rw [← hf]; simp only [UV.T, List.map_append, List.map_cons, List.map_nil]) ?_
            (refine spl_cons ?_; refine ev_loc (by eq_refl) ?_; refine spl_nil ?_; refine ⟨by walk_at "ru len", ?_⟩; refine spl_nil ?_; refine cl_append (by walk_at "ru lk") (by walk_at "ru len") ?_; refine xs_nil ?_; refine xs_nil ?_; refine xs_nil ?_; refine OutTo.out (by assumption) _ _ ?_)
            have yT : y ∉ v.T ++ [l] := z1 y yc.1
            refine ⟨_, FS.Le.mk2 (by walk_at "ru all") HS.Le.refl, stands, new ++ [(y, (m : Int))], cl, _, S2.other oq, ?_, O2.setLi (.inr rfl), by simp; lia, ile, ?_, ?_, i5⟩
            · rw [li_same]; simp [bq]
            · intro p hp
              rcases List.mem_append.mp hp with hp | hp
              · exact i3 p hp
              · rw [List.mem_singleton.mp hp]; exact ⟨m, c, rfl, hm, hc, hy, yT⟩
            · intro hs i' c' h1 h2
              rw [take_snoc hk] at h1
              rcases List.mem_append.mp h1 with h1 | h1
              · obtain ⟨g1, g2⟩ := i4 hs i' c' h1 h2
                exact ⟨g1, fun y' e1 e2 => List.mem_append.mpr (.inl (g2 y' e1 e2))⟩
              · have := List.mem_singleton.mp h1
                have : i' = m := by lia
                subst this; rw [hm] at h2; cases h2
                refine ⟨by rw [hy]; simp, fun y' e1 e2 => ?_⟩
                rw [hy] at e1; cases e1; simp
          · skip
            refine ⟨fun hb => (by cases hb), fun zz => ?_⟩
            (refine xs_nil ?_; refine xs_nil ?_; refine xs_nil ?_; refine OutTo.out (by assumption) _ _ ?_)
            refine ⟨_, FS.Le.mk2 (by walk_at "ru all") HS.Le.refl, stands, new, cl, _, S2, Q2, O2, by lia, ile, i3, ext ⟨fun e => ?_, fun y e => ?_⟩, i5⟩
            · simp [opnOf, e] at h2
            · simp [opnOf, e] at h4
      · refine ⟨fun hb => (by cases hb), fun zz => ?_⟩
        (refine xs_cons ?_; refine xv_if ?_; refine tv_bool ?_; refine at_and ?_; refine tv_cmp ?_; refine ev_sub ?_; refine ev_attr ?_; refine ev_loc (by eq_refl) ?_; refine at_get (Pk.kc (by assumption) (by walk_at "ru two")) (by walk_at "ru lk") (by walk_at "ru lk") (by rfl) (Pk.find (by assumption) (by walk_at "ru two") (by exact fa138_held _) (by exact fa184_held _)) ?_; refine ev_loc (by eq_refl) ?_)
        refine op_getN (vs := _) (v := .int (heldOf (v.T ++ [l]) c)) (by walk_at "ru lk") (by lia) (by simp [hm]) ?_
        (refine ev_int ?_; refine cm_eq ?_)
        refine ⟨fun h3 => absurd (h1.symm.trans h3) (by simp), fun h3 => ?_⟩
        refine ⟨fun hb => (by cases hb), fun zz => ?_⟩
        (refine xs_nil ?_; refine xs_nil ?_; refine xs_nil ?_; refine OutTo.out (by assumption) _ _ ?_)
        have hne : ∃ x ∈ c, x ∈ v.T ++ [l] := by
          refine Classical.byContradiction fun q => ?_
          have := zero_held (T := v.T ++ [l]) (c := c) fun x hx hT => q ⟨x, hx, hT⟩
          rw [this] at h1; simp at h1
        obtain ⟨x, x1, x2⟩ := hne
        refine ⟨_, FS.Le.mk2 (by walk_at "ru all") HS.Le.refl, stands, new, cl, _, S2, Q2, O2, by lia, ile, i3, ext ⟨fun e => ?_, fun y e hy => ?_⟩, i5⟩
        · have := inop x x1 x2; rw [e] at this; cases this
        · have := inop x x1 x2; rw [e] at this; rw [List.mem_singleton.mp this] at x2; exact absurd x2 hy
    · rintro f ⟨stands, new, cl, τ, Sτ, Qτ, Oτ, i1, i2, i3, i4, i5⟩
      unfold TkS at i4
      rw [List.length_map, List.take_length] at Sτ i4
      rw [e2] at Sτ
      (refine xs_cons ?_; refine xv_ret ?_; refine ev_loc (by eq_refl) ?_; with_reducible refine xq_ret ?_)
      exact ⟨⟨[], [], τ⟩, FS.Le.mk' trivial trivial HS.Le.refl, h stands new cl τ Sτ Qτ Oτ (by lia) i3 (fun hs i c h1 h2 => i4 hs i c (mem_occ.mpr ⟨i, c, rfl, h1, h2⟩) h1) i5⟩
end
-- R11
noncomputable section
open PySem PySem.W PySem.Calls PyProof.Rows PySem.SeqAt
theorem vwo_last {tk : List (Int × Int)} {l c : Int} (h : l ∉ tk.map (·.1)) : vwo ((tk ++ [(l, c)]).map fun p => (p.1, V.int p.2)) l = tk.map fun p => (p.1, V.int p.2) := by
  unfold vwo
  rw [List.map_append, List.filter_append]
  have : (tk.map fun p => (p.1, V.int p.2)).filter (fun kv => decide (kv.1 ≠ l)) = tk.map fun p => (p.1, V.int p.2) := by
    refine List.filter_eq_self.mpr fun a ha => ?_
    obtain ⟨p, hp, rfl⟩ := List.mem_map.mp ha
    have : p.1 ≠ l := fun e => h (List.mem_map.mpr ⟨p, hp, e⟩)
    simpa using this
  rw [this]; simp
abbrev at0 (v : UV) (tk : List (Int × Int)) (cl : Int × Int) : UV := { v with tk := tk, held := v.cls.map (heldOf (tk.map (·.1))), opn := v.cls.map (opnOf (tk.map (·.1))), clash := cl }
inductive UnO (u : UA) (v : UV) (σ : HS) (k : Nat) : FS → Prop
  | mk (tk : List (Int × Int)) (τ : HS) (S : US u (at0 v tk v.clash) τ) (O : Off (Own u) σ τ) (e : k = tk.length) (hk : k ≤ 900) (nd : (tk.map (·.1)).Nodup) : UnO u v σ k ⟨[("self", .ref u.x)], [], τ⟩
inductive UnA (u : UA) (v : UV) (σ : HS) (tk0 : List (Int × Int)) (l cause : Int) (i : Nat) : FS → Prop
  | mk (τ : HS) (S : US u { at0 v (tk0 ++ [(l, cause)]) v.clash with tk := tk0, held := bump (-1) ((occ v.cls l).take i) (v.cls.map (heldOf ((tk0 ++ [(l, cause)]).map (·.1)))) } τ) (O : Off (Own u) σ τ) : UnA u v σ tk0 l cause i ⟨[("literal", .int l), ("self", .ref u.x)], [], τ⟩
inductive UnB (u : UA) (v : UV) (σ : HS) (tk0 : List (Int × Int)) (l cause : Int) (i : Nat) : FS → Prop
  | mk (τ : HS) (S : US u { at0 v tk0 v.clash with opn := bump 1 ((occ v.cls (-l)).take i) (v.cls.map (opnOf ((tk0 ++ [(l, cause)]).map (·.1)))) } τ) (O : Off (Own u) σ τ) : UnB u v σ tk0 l cause i ⟨[("literal", .int l), ("self", .ref u.x)], [], τ⟩
set_option maxHeartbeats 2000000 in
theorem undo_d {C : Cx} {n : Nat} (P : Pk C (n + 1)) {fs : FS} {u : UA} {v : UV} (U : UD u) (S : US u v fs.σ) (Z : Sane v) {Q : V → FS → Prop} (hz2 : v.tk.length ≤ 900)
    (h : ∀ τ, US u (at0 v [] v.clash) τ → Off (Own u) fs.σ τ → Q .none { fs with σ := τ }) : CD C (.ref 123) [.ref u.x] Q fs := by
  refine call_d P (ns := ["self"]) rfl (by rfl) (of1 fun zz => rfl) rfl (by decide) (by decide) (fun L P' => ?_)
  refine XS.at (WP.weak ?_)
  have c14 := Z.lim.len
  have nd := fun c hc => Z.lim.nd (c := c) hc
  obtain ⟨zz, u1, u2, u3, u4, u5, u6, u7, u8, u9, u10, u11, u12, u13, u_refs, u_inj⟩ := id U
  have S0 : US u (at0 v v.tk v.clash) fs.σ := by
    have e : at0 v v.tk v.clash = v := by
      unfold at0; rw [← Z.held, ← Z.opn]
    rw [e]; exact S
  refine xs_cons (xv_whileW (UnO u v fs.σ) v.tk.length ⟨v.tk, fs.σ, S0, Off.refl, rfl, hz2, Z.nd⟩ ?_)
  rintro k f ⟨tk, τ, Sτ, Oτ, rfl, hk, hnd⟩ Gw hGw Gx hGx
  obtain ⟨t_ob, t_at, t_lc, t_dp, t_lh, t_lo, t_lb, t_dt, t_lt, t_pl, t_no⟩ := id Sτ
  (refine tv_cmp ?_; refine ev_attr ?_; refine ev_loc (by eq_refl) ?_; refine at_get (Pk.kc (by assumption) (by walk_at "ru two")) (by walk_at "ru lk") (by walk_at "ru lk") (by rfl) (Pk.find (by assumption) (by walk_at "ru two") (by exact fa138_trail _) (by exact fa184_trail _)) ?_; refine ev_list ?_; refine spl_nil ?_)
  refine ⟨by simp, fun E frE => ?_⟩
  have nE := Sτ.notFresh frE
  have tE : u.lt ≠ E := fun e => nE (by simp [Own, e])
  (refine op_neNil (by walk_at "ru lk") (by walk_at "ru lk") (Pk.cu (by assumption)) ?_)
  refine ⟨fun hb => ?_, fun hb => ?_⟩
  · rcases List.eq_nil_or_concat tk with rfl | ⟨tk0, p, rfl⟩
    · simp at hb
    obtain ⟨l, cause⟩ := p
    rw [List.concat_eq_append] at *
    refine WP.pre (f := ⟨[("self", .ref u.x)], [], τ⟩) ?_ (FS.Le.mk2 (by walk_at "ru all") (HS.Le.refl.offLi frE.li))
    have hl0 : l ∉ tk0.map (·.1) := by
      rw [List.map_append] at hnd
      intro q; exact (List.nodup_append.mp hnd).2.2 l q l (by simp) rfl
    have len0 : tk0.length ≤ 899 := by simp at hk; lia
    (refine xs_cons ?_; refine xv_name ?_; refine ev_meth (fv := .builtin "list.pop") ?_; refine ev_attr ?_; refine ev_loc (by eq_refl) ?_; refine at_get (Pk.kc (by assumption) (by walk_at "ru two")) (by walk_at "ru lk") (by walk_at "ru lk") (by rfl) (Pk.find (by assumption) (by walk_at "ru two") (by exact fa138_trail _) (by exact fa184_trail _)) ?_; refine ⟨_, gm_pop (by walk_at "ru lk"), kp_builtin, ?_⟩; refine spl_nil ?_)
    refine cl_pop (vs := tk0.map fun p => V.int p.1) (v := .int l) (by rw [t_lt]; simp) (by simp; lia) ?_
    (refine st_loc ?_; refine xs_cons ?_; refine xv_del ?_; refine ev_attr ?_; refine ev_loc (by eq_refl) ?_; refine at_get (Pk.kc (by assumption) (by walk_at "ru two")) (by walk_at "ru lk") (by walk_at "ru lk") (by rfl) (Pk.find (by assumption) (by walk_at "ru two") (by exact fa138_taken _) (by exact fa184_taken _)) ?_; refine ev_loc (by eq_refl) ?_; refine kd_del (kI _) (by walk_at "ru lk") ?_ ?_ ?_; rotate_right; refine xs_cons ?_)
    rotate_left
    · exact tk_isSome.trans (by simp)
    · simp; lia
    have S1 : US u { at0 v (tk0 ++ [(l, cause)]) v.clash with tk := tk0 } ((τ.setLi u.lt (tk0.map fun p => .int p.1)).setDm u.dt (.di (tk0.map fun p => (p.1, .int p.2)))) := Sτ.setTk U (h := tk0) rfl rfl
    have O1 : Off (Own u) fs.σ ((τ.setLi u.lt (tk0.map fun p => .int p.1)).setDm u.dt (.di (tk0.map fun p => (p.1, .int p.2)))) := (Oτ.setLi (by simp [Own])).setDm (by simp [Own])
    revert S1 O1
    generalize hσ1 : (τ.setLi u.lt (tk0.map fun p => .int p.1)).setDm u.dt (.di (tk0.map fun p => (p.1, .int p.2))) = σ1
    intro S1 O1
    have q : (τ.setLi u.lt (tk0.map fun p => .int p.1)).setDm u.dt (.di (vwo ((tk0 ++ [(l, cause)]).map fun p => (p.1, V.int p.2)) l)) = σ1 := by rw [vwo_last hl0]; exact hσ1
    refine WP.pre (f := ⟨[("literal", .int l), ("self", .ref u.x)], [], σ1⟩) ?_ (FS.Le.mk2 (by walk_at "ru all") (by rw [← q]; exact HS.Le.refl))
    clear t_ob t_at t_lc t_dp t_lh t_lo t_lb t_dt t_lt t_pl t_no
    obtain ⟨zz, zz, zz, zz, zz, zz, zz, zz, zz, zz, zz⟩ := id S1
    have e1 : bump (-1) (occ v.cls l) (v.cls.map (heldOf ((tk0 ++ [(l, cause)]).map (·.1)))) = v.cls.map (heldOf (tk0.map (·.1))) := by
      rw [bump_occ]; refine List.map_congr_left fun c hc => ?_
      rw [List.map_append, List.map_singleton, held_take (nd c hc) hl0]; split <;> lia
    have e2 : bump 1 (occ v.cls (-l)) (v.cls.map (opnOf ((tk0 ++ [(l, cause)]).map (·.1)))) = v.cls.map (opnOf (tk0.map (·.1))) := by
      rw [bump_occ]; refine List.map_congr_left fun c hc => ?_
      rw [List.map_append, List.map_singleton, opn_take (nd c hc) hl0]; split <;> lia
    refine xv_forW P'.h (sr_of ?_)
    (refine ev_meth (fv := .builtin "dict.get") ?_; refine ev_attr ?_; refine ev_loc (by eq_refl) ?_; refine at_get (Pk.kc (by assumption) (by walk_at "ru two")) (by walk_at "ru lk") (by walk_at "ru lk") (by rfl) (Pk.find (by assumption) (by walk_at "ru two") (by exact fa138_places _) (by exact fa184_places _)) ?_; refine ⟨_, gm_get (kI _) (by walk_at "ru lk"), kp_builtin, ?_⟩; refine spl_cons ?_; refine ev_loc (by eq_refl) ?_; refine spl_cons ?_; refine ev_tuple ?_; refine spl_nil ?_; refine ⟨by walk_at "ru len", ?_⟩; refine spl_nil ?_; refine cl_get2 (kI _) (by walk_at "ru lk") ?_)
    refine sv_occ U (is := occ v.cls l) ?_ (fun e => S1.no _ e) fun ok hok => ?_
    · exact fun a e => S1.pl _ _ e
    refine ⟨UnA u v fs.σ tk0 l cause, ⟨σ1, by rw [List.take_zero, bump_nil]; exact S1, O1⟩, ?_, ?_, ?_⟩
    · rintro i f ⟨τ, Sτ, zz⟩
      exact hok _ fun a e => Sτ.pl _ _ e
    · clear Sτ Oτ
      rintro i w f hv ⟨τ, Sτ, Oτ⟩ Gq hGq
      rw [List.getElem?_map] at hv
      obtain ⟨k, hk, rfl⟩ := Option.map_eq_some_iff.mp hv
      obtain ⟨m, c, rfl, hm, hc⟩ := mem_occ.mp (List.mem_of_getElem? hk)
      obtain ⟨t_ob, t_at, t_lc, t_dp, t_lh, t_lo, t_lb, t_dt, t_lt, t_pl, t_no⟩ := id Sτ
      have hm14 : m < v.cls.length := (List.getElem?_eq_some_iff.mp hm).1
      have hx : (v.cls.map (heldOf ((tk0 ++ [(l, cause)]).map (·.1))))[m]? = some (heldOf ((tk0 ++ [(l, cause)]).map (·.1)) c) := by rw [List.getElem?_map, hm]; rfl
      obtain ⟨b1, b2⟩ := bump_step (d := -1) (occ_nodup v.cls l) hk hx
      (refine as_name ?_; refine st_loc ?_; refine xs_cons ?_; refine xv_sub ?_; refine ev_bin ?_; refine ev_sub ?_; refine ev_attr ?_; refine ev_loc (by eq_refl) ?_; refine at_get (Pk.kc (by assumption) (by walk_at "ru two")) (by walk_at "ru lk") (by walk_at "ru lk") (by rfl) (Pk.find (by assumption) (by walk_at "ru two") (by exact fa138_held _) (by exact fa184_held _)) ?_; refine ev_loc (by eq_refl) ?_)
      refine op_getN (vs := _) (v := .int (heldOf ((tk0 ++ [(l, cause)]).map (·.1)) c)) (by walk_at "ru lk") (by lia) (by rw [List.getElem?_map, b1]; rfl) ?_
      (refine ev_int ?_; refine op_sub ?_; refine ev_attr ?_; refine ev_loc (by eq_refl) ?_; refine at_get (Pk.kc (by assumption) (by walk_at "ru two")) (by walk_at "ru lk") (by walk_at "ru lk") (by rfl) (Pk.find (by assumption) (by walk_at "ru two") (by exact fa138_held _) (by exact fa184_held _)) ?_; refine ev_loc (by eq_refl) ?_)
      refine op_setL (by walk_at "ru lk") (by lia) (by simp [bump_len]; lia) (by simp [bump_len]; lia) ?_
      (refine xs_nil ?_; refine OutTo.out (by assumption) _ _ ?_)
      refine ⟨_, FS.Le.mk2 (by walk_at "ru all") HS.Le.refl, _, Sτ.setHeld U (h := bump (-1) ((occ v.cls l).take (i + 1)) (v.cls.map (heldOf ((tk0 ++ [(l, cause)]).map (·.1))))) ?_, Oτ.setLi (by simp [Own])⟩
      rw [b2, List.map_set]; rfl
    · rintro f ⟨τ, Sτ, Oτ⟩
      rw [List.length_map, List.take_length, e1] at Sτ
      obtain ⟨zz, zz, zz, zz, zz, zz, zz, zz, zz, zz, zz⟩ := id Sτ
      (refine xs_cons ?_)
      refine xv_forW P'.h (sr_of ?_)
      (refine ev_meth (fv := .builtin "dict.get") ?_; refine ev_attr ?_; refine ev_loc (by eq_refl) ?_; refine at_get (Pk.kc (by assumption) (by walk_at "ru two")) (by walk_at "ru lk") (by walk_at "ru lk") (by rfl) (Pk.find (by assumption) (by walk_at "ru two") (by exact fa138_places _) (by exact fa184_places _)) ?_; refine ⟨_, gm_get (kI _) (by walk_at "ru lk"), kp_builtin, ?_⟩; refine spl_cons ?_; refine ev_un ?_; refine ev_loc (by eq_refl) ?_; refine op_neg ?_; refine spl_cons ?_; refine ev_tuple ?_; refine spl_nil ?_; refine ⟨by walk_at "ru len", ?_⟩; refine spl_nil ?_; refine cl_get2 (kI _) (by walk_at "ru lk") ?_)
      refine sv_occ U (is := occ v.cls (-l)) ?_ (fun e => Sτ.no _ e) fun ok hok => ?_
      · exact fun a e => Sτ.pl _ _ e
      refine ⟨UnB u v fs.σ tk0 l cause, ⟨τ, by rw [List.take_zero, bump_nil]; exact Sτ, Oτ⟩, ?_, ?_, ?_⟩
      · rintro i f ⟨τ, Sτ, zz⟩
        exact hok _ fun a e => Sτ.pl _ _ e
      · clear Sτ Oτ
        rintro i w f hv ⟨τ, Sτ, Oτ⟩ Gq hGq
        rw [List.getElem?_map] at hv
        obtain ⟨k, hk, rfl⟩ := Option.map_eq_some_iff.mp hv
        obtain ⟨m, c, rfl, hm, hc⟩ := mem_occ.mp (List.mem_of_getElem? hk)
        obtain ⟨t_ob, t_at, t_lc, t_dp, t_lh, t_lo, t_lb, t_dt, t_lt, t_pl, t_no⟩ := id Sτ
        have hm14 : m < v.cls.length := (List.getElem?_eq_some_iff.mp hm).1
        have hx : (v.cls.map (opnOf ((tk0 ++ [(l, cause)]).map (·.1))))[m]? = some (opnOf ((tk0 ++ [(l, cause)]).map (·.1)) c) := by rw [List.getElem?_map, hm]; rfl
        obtain ⟨b1, b2⟩ := bump_step (d := 1) (occ_nodup v.cls (-l)) hk hx
        (refine as_name ?_; refine st_loc ?_; refine xs_cons ?_; refine xv_sub ?_; refine ev_bin ?_; refine ev_sub ?_; refine ev_attr ?_; refine ev_loc (by eq_refl) ?_; refine at_get (Pk.kc (by assumption) (by walk_at "ru two")) (by walk_at "ru lk") (by walk_at "ru lk") (by rfl) (Pk.find (by assumption) (by walk_at "ru two") (by exact fa138_open _) (by exact fa184_open _)) ?_; refine ev_loc (by eq_refl) ?_)
        refine op_getN (vs := _) (v := .int (opnOf ((tk0 ++ [(l, cause)]).map (·.1)) c)) (by walk_at "ru lk") (by lia) (by rw [List.getElem?_map, b1]; rfl) ?_
        (refine ev_int ?_; refine op_add ?_; refine ev_attr ?_; refine ev_loc (by eq_refl) ?_; refine at_get (Pk.kc (by assumption) (by walk_at "ru two")) (by walk_at "ru lk") (by walk_at "ru lk") (by rfl) (Pk.find (by assumption) (by walk_at "ru two") (by exact fa138_open _) (by exact fa184_open _)) ?_; refine ev_loc (by eq_refl) ?_)
        refine op_setL (by walk_at "ru lk") (by lia) (by simp [bump_len]; lia) (by simp [bump_len]; lia) ?_
        (refine xs_nil ?_; refine OutTo.out (by assumption) _ _ ?_)
        refine ⟨_, FS.Le.mk2 (by walk_at "ru all") HS.Le.refl, _, Sτ.setOpn U (h := bump 1 ((occ v.cls (-l)).take (i + 1)) (v.cls.map (opnOf ((tk0 ++ [(l, cause)]).map (·.1))))) ?_, Oτ.setLi (by simp [Own])⟩
        rw [b2, List.map_set]; rfl
      · rintro f ⟨τ, Sτ, Oτ⟩
        rw [List.length_map, List.take_length, e2] at Sτ
        (refine xs_nil ?_; refine OutTo.out (by assumption) _ _ ?_)
        refine ⟨_, FS.Le.mk2 (by walk_at "ru all") HS.Le.refl, tk0.length, by simp, tk0, _, Sτ, Oτ, rfl, by lia, ?_⟩
        rw [List.map_append] at hnd; exact (List.nodup_append.mp hnd).1
  · have tk0 : tk = [] := by simpa using hb
    subst tk0
    refine hGx.out _ _ ⟨⟨[("self", .ref u.x)], [], τ⟩, FS.Le.mk2 (by walk_at "ru all") (HS.Le.refl.offLi frE.li), ?_⟩
    (refine xs_nil ?_)
    exact ⟨⟨[], [], τ⟩, FS.Le.mk' trivial trivial HS.Le.refl, h τ Sτ Oτ⟩
end
-- RL2
noncomputable section
def Rsn (cls : List (List Int)) (lits T : List Int) (p : Int × Int) : Prop := (p.2 = -1 ∧ p.1 ∈ lits) ∨ ∃ (n : Nat) (c : List Int), p.2 = n ∧ cls[n]? = some c ∧ p.1 ∈ c ∧ ∀ l ∈ c, l ≠ p.1 → -l ∈ T
theorem Rsn.mono {cls : List (List Int)} {lits T T' : List Int} {p : Int × Int} (x : Rsn cls lits T p) (h : ∀ l ∈ T, l ∈ T') : Rsn cls lits T' p := by
  rcases x with x | ⟨n, c, a, b, d, e⟩
  · exact .inl x
  · exact .inr ⟨n, c, a, b, d, fun l hl hn => h _ (e l hl hn)⟩
inductive Why (cls : List (List Int)) (lits : List Int) : List (Int × Int) → Prop
  | nil : Why cls lits []
  | snoc {tk p} : Why cls lits tk → Rsn cls lits (tk.map (·.1)) p → Why cls lits (tk ++ [p])
def Fault (cls : List (List Int)) (lits : List Int) (tk : List (Int × Int)) (cl : Int × Int) : Prop :=
  (∃ (n : Nat) (c : List Int), cl.1 = n ∧ cls[n]? = some c ∧ ∀ l ∈ c, -l ∈ tk.map (·.1)) ∨ (cl.1 = -1 ∧ cl.2 ∈ tk.map (·.1) ∧ -cl.2 ∈ lits)
structure RunP (cls : List (List Int)) (lits : List Int) (stands : Bool) (tk : List (Int × Int)) (cl : Int × Int) : Prop where
  nd : (tk.map (·.1)).Nodup
  cons : ∀ l ∈ tk.map (·.1), -l ∉ tk.map (·.1)
  why : Why cls lits tk
  len : tk.length ≤ 60
  yes : stands = true → ¬ Clash cls lits
  no : stands = false → Fault cls lits tk cl
def uni (cls : List (List Int)) (lits : List Int) : List Int := lits ++ cls.flatten
def lft (cls : List (List Int)) (lits T : List Int) : Nat := ((uni cls lits).filter fun l => decide (l ∉ T)).length
structure RI (cls : List (List Int)) (lits : List Int) (tk qs : List (Int × Int)) (s : Nat) : Prop where
  nd : (tk.map (·.1)).Nodup
  cons : ∀ l ∈ tk.map (·.1), -l ∉ tk.map (·.1)
  why : Why cls lits tk
  rsn : ∀ p ∈ qs, Rsn cls lits (tk.map (·.1)) p
  asm : ∀ l ∈ lits, ∃ p ∈ qs, p.1 = l
  clo : ∀ c ∈ cls, opn (tk.map (·.1)) c ≠ [] ∧ ∀ y, opn (tk.map (·.1)) c = [y] → y ∈ tk.map (·.1) ∨ ∃ p ∈ qs, p.1 = y
  done : ∀ p ∈ qs.take s, p.1 ∈ tk.map (·.1)
  len : tk.length + lft cls lits (tk.map (·.1)) ≤ 45
  qlen : qs.length + 14 * lft cls lits (tk.map (·.1)) ≤ 660
  sp : s ≤ qs.length
theorem Rsn.uni {cls : List (List Int)} {lits T : List Int} {p : Int × Int} (x : Rsn cls lits T p) : p.1 ∈ uni cls lits := by
  rcases x with x | ⟨n, c, a, b, d, e⟩
  · exact List.mem_append.mpr (.inl x.2)
  · exact List.mem_append.mpr (.inr (List.mem_flatten.mpr ⟨c, List.mem_of_getElem? b, d⟩))
theorem lft_lt {cls : List (List Int)} {lits T : List Int} {l : Int} (hu : l ∈ uni cls lits) (hn : l ∉ T) : lft cls lits (T ++ [l]) < lft cls lits T := by
  refine filter_lt (x := l) (fun a ha => ?_) (by simpa using hn) (by simp) hu
  have := of_decide_eq_true ha
  simp at this ⊢
  exact this.1
theorem RI.start {cls : List (List Int)} {lits : List Int} {beg : List (Int × Int)} (lim : Lim cls) (hb : ∀ l (i : Int), (l, i) ∈ beg ↔ ∃ n : Nat, i = n ∧ cls[n]? = some [l]) (hl : beg.length ≤ cls.length) (he : ∀ c ∈ cls, c ≠ []) (hn : lits.length ≤ 3) :
    RI cls lits [] (beg ++ lits.map fun l => (l, -1)) 0 where
  nd := by simp
  cons := by simp
  why := .nil
  rsn := fun p hp => by
    rcases List.mem_append.mp hp with hp | hp
    · obtain ⟨n, h1, h2⟩ := (hb p.1 p.2).mp hp
      exact .inr ⟨n, [p.1], h1, h2, by simp, fun l hl hne => absurd (List.mem_singleton.mp hl) hne⟩
    · obtain ⟨l, h1, rfl⟩ := List.mem_map.mp hp
      exact .inl ⟨rfl, h1⟩
  asm := fun l hl => ⟨(l, -1), List.mem_append.mpr (.inr (List.mem_map.mpr ⟨l, hl, rfl⟩)), rfl⟩
  clo := fun c hc => by
    have e : opn [] c = c := by unfold opn; simp
    simp only [List.map_nil, e]
    refine ⟨he c hc, fun y hy => .inr ?_⟩
    obtain ⟨n, hn, hn'⟩ := List.getElem_of_mem hc
    exact ⟨(y, (n : Int)), List.mem_append.mpr (.inl ((hb y n).mpr ⟨n, rfl, by rw [List.getElem?_eq_getElem hn, hn', hy]⟩)), rfl⟩
  done := by simp
  len := by
    have := lim.flat
    have : lft cls lits [] ≤ (uni cls lits).length := List.length_filter_le _ _
    have h2 : (uni cls lits).length = lits.length + cls.flatten.length := by simp [uni]
    simp only [List.map_nil, List.length_nil] at *; lia
  qlen := by
    have := lim.flat
    have h3 := lim.len
    have : lft cls lits [] ≤ (uni cls lits).length := List.length_filter_le _ _
    have h2 : (uni cls lits).length = lits.length + cls.flatten.length := by simp [uni]
    simp only [List.map_nil, List.length_append, List.length_map] at *; lia
  sp := by simp
theorem RI.skip {cls : List (List Int)} {lits : List Int} {tk qs : List (Int × Int)} {s : Nat} {p : Int × Int} (R : RI cls lits tk qs s) (hp : qs[s]? = some p) (h : p.1 ∈ tk.map (·.1)) : RI cls lits tk qs (s + 1) :=
  { R with done := fun x hx => by
             rw [take_snoc hp] at hx
             rcases List.mem_append.mp hx with hx | hx
             · exact R.done x hx
             · rw [List.mem_singleton.mp hx]; exact h
           sp := (List.getElem?_eq_some_iff.mp hp).1 }
theorem cons_snoc {T : List Int} {l : Int} (h : ∀ l ∈ T, -l ∉ T) (hl : -l ∉ T) (h0 : l ≠ 0) : ∀ x ∈ T ++ [l], -x ∉ T ++ [l] := fun x hx hn => by
  rcases List.mem_append.mp hx with hx | hx <;> rcases List.mem_append.mp hn with hn | hn
  · exact h x hx hn
  · have := List.mem_singleton.mp hn; exact hl (by rw [show -l = x from by lia]; exact hx)
  · have e := List.mem_singleton.mp hx; rw [e] at hn; exact hl hn
  · have e1 := List.mem_singleton.mp hx; have e2 := List.mem_singleton.mp hn; lia
theorem RI.take {cls : List (List Int)} {lits : List Int} {tk qs new : List (Int × Int)} {s : Nat} {l cause : Int} (R : RI cls lits tk qs s) (hp : qs[s]? = some (l, cause)) (h1 : l ∉ tk.map (·.1)) (h2 : -l ∉ tk.map (·.1)) (h0 : l ≠ 0)
    (hn : new.length ≤ 14) (t1 : T1 (tk.map (·.1) ++ [l]) cls l new)
    (t2 : ∀ (i : Nat) c, cls[i]? = some c → -l ∈ c → opn (tk.map (·.1) ++ [l]) c ≠ [] ∧ ∀ y, opn (tk.map (·.1) ++ [l]) c = [y] → y ∉ tk.map (·.1) ++ [l] → (y, (i : Int)) ∈ new) : RI cls lits (tk ++ [(l, cause)]) (qs ++ new) (s + 1) := by
  have eT : (tk ++ [(l, cause)]).map (·.1) = tk.map (·.1) ++ [l] := by simp
  have mq : (l, cause) ∈ qs := List.mem_of_getElem? hp
  have hs := (List.getElem?_eq_some_iff.mp hp).1
  have hlt : lft cls lits (tk.map (·.1) ++ [l]) < lft cls lits (tk.map (·.1)) := lft_lt (R.rsn _ mq).uni h1
  have up : ∀ x ∈ tk.map (·.1), x ∈ tk.map (·.1) ++ [l] := fun x hx => List.mem_append.mpr (.inl hx)
  refine ⟨?_, ?_, .snoc R.why (R.rsn _ mq), ?_, ?_, ?_, ?_, ?_, ?_, ?_⟩
  · rw [eT]; exact List.nodup_append.mpr ⟨R.nd, by simp, fun a ha b hb e => by rw [List.mem_singleton.mp hb] at e; subst e; exact h1 ha⟩
  · rw [eT]; exact cons_snoc R.cons h2 h0
  · rw [eT]; intro p hp
    rcases List.mem_append.mp hp with hp | hp
    · exact (R.rsn p hp).mono up
    · obtain ⟨i, c, a1, a2, a3, a4, a5⟩ := t1 p hp
      have pm : p.1 ∈ opn (tk.map (·.1) ++ [l]) c := by rw [a4]; simp
      refine .inr ⟨i, c, a1, a2, (List.mem_filter.mp pm).1, fun x hx hne => ?_⟩
      refine Classical.byContradiction fun q => hne ?_
      have : x ∈ opn (tk.map (·.1) ++ [l]) c := List.mem_filter.mpr ⟨hx, by simpa using q⟩
      rw [a4] at this; exact List.mem_singleton.mp this
  · intro x hx
    obtain ⟨p, p1, p2⟩ := R.asm x hx
    exact ⟨p, List.mem_append.mpr (.inl p1), p2⟩
  · rw [eT]; intro c hc
    by_cases q : -l ∈ c
    · obtain ⟨i, hi, hi'⟩ := List.getElem_of_mem hc
      obtain ⟨b1, b2⟩ := t2 i c (by rw [List.getElem?_eq_getElem hi, hi']) q
      refine ⟨b1, fun y hy => ?_⟩
      by_cases qy : y ∈ tk.map (·.1) ++ [l]
      · exact .inl qy
      · exact .inr ⟨_, List.mem_append.mpr (.inr (b2 y hy qy)), rfl⟩
    · have e : opn (tk.map (·.1) ++ [l]) c = opn (tk.map (·.1)) c := List.filter_congr fun x hx => by
        have : -x ≠ l := fun e => q (by rw [show -l = x from by lia]; exact hx)
        simp [this]
      rw [e]
      obtain ⟨b1, b2⟩ := R.clo c hc
      refine ⟨b1, fun y hy => ?_⟩
      rcases b2 y hy with b | ⟨p, p1, p2⟩
      · exact .inl (up y b)
      · exact .inr ⟨p, List.mem_append.mpr (.inl p1), p2⟩
  · rw [eT]; intro p hp'
    rw [List.take_append_of_le_length hs, take_snoc hp] at hp'
    rcases List.mem_append.mp hp' with q | q
    · exact up _ (R.done p q)
    · rw [List.mem_singleton.mp q]; simp
  · rw [eT]; have := R.len; simp; lia
  · rw [eT]; have := R.qlen; simp; lia
  · simp; lia
theorem RI.fin {cls : List (List Int)} {lits : List Int} {tk qs : List (Int × Int)} {s : Nat} (R : RI cls lits tk qs s) (h : s = qs.length) (lim : Lim cls) (cl : Int × Int) : RunP cls lits true tk cl := by
  have all : ∀ p ∈ qs, p.1 ∈ tk.map (·.1) := fun p hp => R.done p (by rw [h, List.take_length]; exact hp)
  refine ⟨R.nd, R.cons, R.why, by have := R.len; lia, fun zz => ?_, fun e => (by cases e)⟩
  refine noClash (tk := tk.map (·.1)) (fun a ha => ?_) (fun c hc => ⟨(R.clo c hc).1, fun y hy => ?_⟩) lim.nd
  · obtain ⟨p, p1, p2⟩ := R.asm a ha
    rw [← p2]; exact all p p1
  · rcases (R.clo c hc).2 y hy with b | ⟨p, p1, p2⟩
    · exact b
    · rw [← p2]; exact all p p1
theorem RI.hit {cls : List (List Int)} {lits : List Int} {tk qs : List (Int × Int)} {s : Nat} {l cause : Int} (R : RI cls lits tk qs s) (hp : qs[s]? = some (l, cause)) (h : -l ∈ tk.map (·.1)) : RunP cls lits false tk (cause, -l) := by
  refine ⟨R.nd, R.cons, R.why, by have := R.len; lia, fun e => (by cases e), fun zz => ?_⟩
  rcases R.rsn _ (List.mem_of_getElem? hp) with ⟨a, b⟩ | ⟨n, c, a1, a2, a3, a4⟩
  · exact .inr ⟨a, h, by simpa using b⟩
  · refine .inl ⟨n, c, a1, a2, fun x hx => ?_⟩
    by_cases e : x = l
    · subst e; exact h
    · exact a4 x hx e
theorem RI.low {cls : List (List Int)} {lits : List Int} {tk qs : List (Int × Int)} {s : Nat} {l cause : Int} {cl : Int × Int} (R : RI cls lits tk qs s) (hp : qs[s]? = some (l, cause)) (h1 : l ∉ tk.map (·.1)) (h2 : -l ∉ tk.map (·.1)) (h0 : l ≠ 0)
    (t : ∃ (i : Nat) (c : List Int), cl = ((i : Int), l) ∧ cls[i]? = some c ∧ -l ∈ c ∧ opn (tk.map (·.1) ++ [l]) c = []) : RunP cls lits false (tk ++ [(l, cause)]) cl := by
  have eT : (tk ++ [(l, cause)]).map (·.1) = tk.map (·.1) ++ [l] := by simp
  have mq : (l, cause) ∈ qs := List.mem_of_getElem? hp
  have hlt : lft cls lits (tk.map (·.1) ++ [l]) < lft cls lits (tk.map (·.1)) := lft_lt (R.rsn _ mq).uni h1
  refine ⟨?_, ?_, .snoc R.why (R.rsn _ mq), ?_, fun e => (by cases e), fun zz => ?_⟩
  · rw [eT]; exact List.nodup_append.mpr ⟨R.nd, by simp, fun a ha b hb e => by rw [List.mem_singleton.mp hb] at e; subst e; exact h1 ha⟩
  · rw [eT]; exact cons_snoc R.cons h2 h0
  · have := R.len; simp; lia
  · obtain ⟨i, c, rfl, a2, a3, a4⟩ := t
    refine .inl ⟨i, c, rfl, a2, fun x hx => ?_⟩
    rw [eT]
    have q := List.filter_eq_nil_iff.mp a4 x hx
    exact Classical.byContradiction fun w => q (decide_eq_true w)
end
-- R12
noncomputable section
open PySem PySem.W PySem.Calls PyProof.Rows PySem.SeqAt
structure Rdy (v : UV) : Prop where
  lim : Lim v.cls
  tk : v.tk = []
  held : v.held = v.cls.map (heldOf [])
  opn : v.opn = v.cls.map (opnOf [])
  beg : ∀ l (i : Int), (l, i) ∈ v.begun ↔ ∃ n : Nat, i = n ∧ v.cls[n]? = some [l]
  blen : v.begun.length ≤ v.cls.length
  emp : (v.empty = -1 ∧ ∀ c ∈ v.cls, c ≠ []) ∨ (∃ n : Nat, v.empty = n ∧ v.cls[n]? = some [])
theorem Rdy.at0 {v : UV} (Z : Rdy v) : at0 v [] v.clash = v := by
  obtain ⟨cls, held, opn, begun, empty, tk, clash⟩ := v
  have := Z.tk; have := Z.held; have := Z.opn
  simp only at *
  subst_vars; rfl
def asmV : V → V | .int l => .tup [.int l, .int (-1)] | w => w
theorem map_asm (c : List Int) : ((c.map V.int).filter fun zz => true).map asmV = (c.map fun l => (l, -1)).map bq := by
  induction c with
  | nil => rfl
  | cons a r ih => simpa [asmV, bq] using ih
theorem Off.dropFresh {A : Addr → Prop} {σ τ : HS} {g : Addr} (h : Off (fun a => A a ∨ a = g) σ τ) (f : σ.Fresh g) : Off A σ τ :=
  ⟨fun a v n e => h.li a v (fun q => q.elim n fun q => by subst q; rw [f.li] at e; cases e) e, fun a v n e => h.dm a v (fun q => q.elim n fun q => by subst q; rw [f.dm] at e; cases e) e,
   fun a v n e => h.ob a v (fun q => q.elim n fun q => by subst q; rw [f.ob] at e; cases e) e, fun a v n e => h.st a v (fun q => q.elim n fun q => by subst q; rw [f.st] at e; cases e) e⟩
theorem RI.sane {v : UV} {lits : List Int} {tk qs : List (Int × Int)} {s : Nat} {cl : Int × Int} (Z : Rdy v) (R : RI v.cls lits tk qs s) : Sane (Rup.at0 v tk cl) := ⟨Z.lim, rfl, rfl, R.nd, R.cons⟩
inductive RnO (u : UA) (v : UV) (lits : List Int) (G : Addr) (σ0 : HS) (k : Nat) : FS → Prop
  | mk (tk qs : List (Int × Int)) (s : Nat) (cl : Int × Int) (τ : HS) (S : US u (at0 v tk cl) τ) (g : τ.li G = some (qs.map bq)) (O : Off (fun a => Own u a ∨ a = G) σ0 τ) (R : RI v.cls lits tk qs s) (e : k = 15 * lft v.cls lits (tk.map (·.1)) + (qs.length - s)) :
    RnO u v lits G σ0 k ⟨[("spot", .int s), ("queue", .ref G), ("self", .ref u.x)], [], τ⟩
set_option maxHeartbeats 2000000 in
theorem run_d {C : Cx} {n : Nat} (P : Pk C (n + 3)) {fs : FS} {u : UA} {v : UV} (U : UD u) (S : US u v fs.σ) (Z : Rdy v) {b : Addr} {lits : List Int} {Q : V → FS → Prop} (hb : fs.σ.li b = some (lits.map .int)) (ob : ¬ Own u b) (hl : lits.length ≤ 3) (h0 : ∀ l ∈ lits, l ≠ 0)
    (h : ∀ stands tk cl τ, US u (at0 v tk cl) τ → Off (Own u) fs.σ τ → RunP v.cls lits stands tk cl → Q (.bool stands) { fs with σ := τ }) : CD C (.ref 116) [.ref u.x, .ref b] Q fs := by
  refine call_d P (ns := ["self", "literals"]) rfl (by rfl) (of2 fun zz zz => rfl) rfl (by decide) (by decide) (fun L P' => ?_)
  refine XS.at (WP.weak ?_)
  have c14 := Z.lim.len
  have nd := fun c hc => Z.lim.nd (c := c) hc
  obtain ⟨zz, u1, u2, u3, u4, u5, u6, u7, u8, u9, u10, u11, u12, u13, u_refs, u_inj⟩ := id U
  have S0 : US u (at0 v [] v.clash) fs.σ := by rw [Z.at0]; exact S
  obtain ⟨t_ob, t_at, t_lc, t_dp, t_lh, t_lo, t_lb, t_dt, t_lt, t_pl, t_no⟩ := id S
  (refine xs_cons ?_; refine xv_if ?_; refine tv_cmp ?_; refine ev_attr ?_; refine ev_loc (by eq_refl) ?_; refine at_get (Pk.kc (by assumption) (by walk_at "ru two")) (by walk_at "ru lk") (by walk_at "ru lk") (by rfl) (Pk.find (by assumption) (by walk_at "ru two") (by exact fa138_empty _) (by exact fa184_empty _)) ?_; refine ev_int ?_; refine cm_ge ?_)
  refine ⟨fun he => ?_, fun he => ?_⟩
  · obtain ⟨k, hk, hk'⟩ : ∃ n : Nat, v.empty = n ∧ v.cls[n]? = some [] := by
      rcases Z.emp with ⟨e, zz⟩ | q
      · have := of_decide_eq_true he; lia
      · exact q
    (refine xs_cons ?_; refine xv_attr ?_; refine ev_tuple ?_; refine spl_cons ?_; refine ev_attr ?_; refine ev_loc (by eq_refl) ?_; refine at_get (Pk.kc (by assumption) (by walk_at "ru two")) (by walk_at "ru lk") (by walk_at "ru lk") (by rfl) (Pk.find (by assumption) (by walk_at "ru two") (by exact fa138_empty _) (by exact fa184_empty _)) ?_; refine spl_cons ?_; refine ev_int ?_; refine spl_nil ?_; refine ⟨by walk_at "ru len", ?_⟩; refine ev_loc (by eq_refl) ?_; refine at_set (Pk.kc (by assumption) (by walk_at "ru two")) (by walk_at "ru lk") (by walk_at "ru lk") (Pk.taker (by assumption) (by walk_at "ru two") (by exact tk138_clash _) (by exact tk184_clash _)) (Nat.le_of_ble_eq_true (by rfl)) ?_; refine xs_cons ?_; refine xv_ret ?_; refine ev_bool ?_; with_reducible refine xq_ret ?_; with_reducible refine xq_ret ?_)
    exact ⟨⟨[], [], _⟩, FS.Le.mk' trivial trivial HS.Le.refl, h false [] (v.empty, 0) _ (S0.setClash U (c := (v.empty, 0)) rfl) (Off.refl.setDm (by simp [Own])) ⟨by simp, by simp, .nil, by simp, fun e => (by cases e), fun zz => .inl ⟨k, [], hk, hk', by simp⟩⟩⟩
  · have hne : ∀ c ∈ v.cls, c ≠ [] := by
      rcases Z.emp with ⟨zz, q⟩ | ⟨k, e, zz⟩
      · exact q
      · have := of_decide_eq_false he; lia
    (refine xs_nil ?_; refine xs_cons ?_; refine xv_swap2 (Pk.h (by assumption)) ?_; refine ev_tuple ?_; refine spl_cons ?_; refine ev_bin ?_; refine ev_attr ?_; refine ev_loc (by eq_refl) ?_; refine at_get (Pk.kc (by assumption) (by walk_at "ru two")) (by walk_at "ru lk") (by walk_at "ru lk") (by rfl) (Pk.find (by assumption) (by walk_at "ru two") (by exact fa138_begun _) (by exact fa184_begun _)) ?_)
    refine ev_lcP P'.h (cl := []) (by rfl) (sr_of ?_) (by walk_at "ru cl") (by simp)
    (refine ev_loc (by eq_refl) ?_; refine sv_list (by walk_at "ru lk") ?_)
    intro D frD
    have bD : b ≠ D := fun e => by subst e; rw [frD.li] at hb; cases hb
    have lbD : u.lb ≠ D := fun e => by subst e; rw [frD.li] at t_lb; cases t_lb
    refine ⟨fun zz => true, asmV, fun ws => by walk_at "ru lk", by simp; lia, fun L' j w ws hv => ?_, ?_⟩
    · rw [List.getElem?_map] at hv
      obtain ⟨l, hl, rfl⟩ := Option.map_eq_some_iff.mp hv
      (refine ts_nil ?_)
      refine ⟨rfl, rfl, fun zz => ?_⟩
      (refine ev_tuple ?_; refine spl_cons ?_; refine ev_loc (by eq_refl) ?_; refine spl_cons ?_; refine ev_un ?_; refine ev_int ?_; refine op_neg ?_; refine spl_nil ?_; refine ⟨by walk_at "ru len", ?_⟩)
      exact ⟨rfl, rfl⟩
    · rw [map_asm]
      have frD' := frD
      refine op_cat (vs := v.begun.map bq) (ws := (lits.map fun l => (l, -1)).map bq) (by walk_at "ru lk") li_same (by have := Z.blen; simp; lia) (fun G frG => ?_)
      have frG0 : fs.σ.Fresh G := (HS.Le.refl.offLi frD.li).fresh frG
      have oG := S.notFresh frG0
      (refine spl_cons ?_; refine ev_int ?_; refine spl_nil ?_; refine ⟨by walk_at "ru len", ?_⟩; refine ⟨_, _, rfl, ?_⟩; refine st_loc ?_; refine st_loc ?_; refine xs_cons ?_)
      refine WP.pre (f := ⟨[("spot", .int 0), ("queue", .ref G), ("self", .ref u.x)], [], fs.σ.setLi G ((v.begun ++ lits.map fun l => (l, -1)).map bq)⟩) ?_ ?_
      rotate_left
      · rw [List.map_append]
        exact FS.Le.mk' (by walk_at "ru all") trivial (HS.Le.refl.offLi frD.li).onLi
      refine xv_whileW (RnO u v lits G fs.σ) _ (RnO.mk [] _ 0 v.clash _  (S0.other oG) li_same (Off.refl.setLi (.inr rfl)) (RI.start Z.lim Z.beg Z.blen hne hl) rfl) ?_
      clear t_ob t_at t_lc t_dp t_lh t_lo t_lb t_dt t_lt t_pl t_no
      rintro k f ⟨tk, qs, s, cl, τ, Sτ, Gτ, Oτ, R, rfl⟩ Gw hGw Gx hGx
      obtain ⟨t_ob, t_at, t_lc, t_dp, t_lh, t_lo, t_lb, t_dt, t_lt, t_pl, t_no⟩ := id Sτ
      have q660 := R.qlen
      have q45 := R.len
      (refine tv_cmp ?_; refine ev_loc (by eq_refl) ?_; refine ev_bcall (by exact Pk.ns (by assumption) (by exact gs_len _)) (by exact bb_len) ?_; refine spl_cons ?_; refine ev_loc (by eq_refl) ?_; refine spl_nil ?_; refine cl_len (by walk_at "ru lk") (by walk_at "ru len") ?_; refine cm_lt ?_)
      refine ⟨fun hb => ?_, fun hb => ?_⟩
      · have hs : s < qs.length := by have := of_decide_eq_true hb; simp at this; lia
        obtain ⟨⟨l, cause⟩, hp⟩ : ∃ p, qs[s]? = some p := ⟨_, List.getElem?_eq_getElem hs⟩
        have hl0 : l ≠ 0 := by
          have := (R.rsn _ (List.mem_of_getElem? hp)).uni
          rcases List.mem_append.mp this with q | q
          · exact h0 _ q
          · obtain ⟨c, c1, c2⟩ := List.mem_flatten.mp q
            exact (Z.lim.ok c c1).asc.2 _ c2
        (refine xs_cons ?_; refine xv_tup ?_; refine ev_sub ?_; refine ev_loc (by eq_refl) ?_; refine ev_loc (by eq_refl) ?_)
        refine op_getN (vs := qs.map bq) (v := .tup [.int l, .int cause]) (by walk_at "ru lk") (by lia) (by simp [hp, bq]) ?_
        (refine as_tup2 (Pk.h (by assumption)) ?_; refine as_name ?_; refine st_loc ?_; refine as_name ?_; refine st_loc ?_; refine xs_cons ?_; refine xv_name ?_; refine ev_bin ?_; refine ev_loc (by eq_refl) ?_; refine ev_int ?_; refine op_add ?_; refine st_loc ?_; refine xs_cons ?_; refine xv_if ?_; refine tv_cmp ?_; refine ev_un ?_; refine ev_loc (by eq_refl) ?_; refine op_neg ?_; refine ev_attr ?_; refine ev_loc (by eq_refl) ?_; refine at_get (Pk.kc (by assumption) (by walk_at "ru two")) (by walk_at "ru lk") (by walk_at "ru lk") (by rfl) (Pk.find (by assumption) (by walk_at "ru two") (by exact fa138_taken _) (by exact fa184_taken _)) ?_; refine di_in (by walk_at "ru lk") ?_)
        simp only [tk_isSome]
        refine ⟨fun h1 => ?_, fun h1 => ?_⟩
        · (refine xs_cons ?_; refine xv_attr ?_; refine ev_tuple ?_; refine spl_cons ?_; refine ev_loc (by eq_refl) ?_; refine spl_cons ?_; refine ev_un ?_; refine ev_loc (by eq_refl) ?_; refine op_neg ?_; refine spl_nil ?_; refine ⟨by walk_at "ru len", ?_⟩; refine ev_loc (by eq_refl) ?_; refine at_set (Pk.kc (by assumption) (by walk_at "ru two")) (by walk_at "ru lk") (by walk_at "ru lk") (Pk.taker (by assumption) (by walk_at "ru two") (by exact tk138_clash _) (by exact tk184_clash _)) (Nat.le_of_ble_eq_true (by rfl)) ?_; refine xs_cons ?_; refine xv_ret ?_; refine ev_bool ?_; with_reducible refine xq_ret ?_; with_reducible refine xq_ret ?_; refine OutTo.out (by assumption) _ _ ?_)
          refine ⟨_, FS.Le.refl, ⟨[], [], _⟩, FS.Le.mk2 (by walk_at "ru all") HS.Le.refl, h false tk (cause, -l) _ (Sτ.setClash U (c := (cause, -l)) rfl) (Off.dropFresh (Oτ.setDm (by simp [Own])) frG0) (R.hit hp (of_decide_eq_true h1))⟩
        · (refine xs_nil ?_; refine xs_cons ?_; refine xv_if ?_; refine tv_bool ?_; refine at_and ?_; refine tv_cmp ?_; refine ev_loc (by eq_refl) ?_; refine ev_attr ?_; refine ev_loc (by eq_refl) ?_; refine at_get (Pk.kc (by assumption) (by walk_at "ru two")) (by walk_at "ru lk") (by walk_at "ru lk") (by rfl) (Pk.find (by assumption) (by walk_at "ru two") (by exact fa138_taken _) (by exact fa184_taken _)) ?_; refine di_notIn (by walk_at "ru lk") ?_)
          simp only [tk_isSome]
          have hn' : -l ∉ tk.map (·.1) := of_decide_eq_false h1
          refine ⟨fun h2 => ?_, fun h2 => ?_⟩
          · have hn : l ∉ tk.map (·.1) := by simpa using h2
            have hlt := lft_lt (R.rsn _ (List.mem_of_getElem? hp)).uni hn
            (refine at_and ?_; refine tv_not ?_; refine tv_plain ?_; refine ev_meth (fv := .ref 111) ?_; refine ev_loc (by eq_refl) ?_; refine ⟨_, gm_own (Pk.kc (by assumption) (by walk_at "ru two")) (by walk_at "ru lk") (by walk_at "ru lk") (by rfl) (Pk.find (by assumption) (by walk_at "ru two") (by exact fm138_take _) (by exact fm184_take _)) (Pk.ty (by assumption) (by exact ty_take _)), .inr (.inr (by exact Pk.kp (by assumption) (by exact kp_take _))), ?_⟩; refine spl_cons ?_; refine ev_loc (by eq_refl) ?_; refine spl_cons ?_; refine ev_loc (by eq_refl) ?_; refine spl_cons ?_; refine ev_loc (by eq_refl) ?_; refine spl_nil ?_; refine CD.cl ?_)
            refine take_d (v := at0 v tk cl) (qs := qs) P' U Sτ (R.sane Z) Gτ oG hn hn' (by lia) (by dsimp only; lia) fun stands new cl' τ' S' G' O' n1 n2 n3 n4 => ?_
            have S2 : US u (at0 v (tk ++ [(l, cause)]) cl') τ' := by
              have e : at0 v (tk ++ [(l, cause)]) cl' = { at0 v tk cl with tk := tk ++ [(l, cause)], held := v.cls.map (heldOf ((at0 v tk cl).T ++ [l])), opn := v.cls.map (opnOf ((at0 v tk cl).T ++ [l])), clash := cl' } := by simp [UV.T]
              rw [e]; exact S'
            have O2 := Oτ.trans O'
            (refine tr_bool ?_)
            refine ⟨fun h3 => ?_, fun h3 => ?_⟩
            · (refine at_and0 ?_)
              refine ⟨fun zz => ?_, fun hb => (by cases hb)⟩
              have hst : stands = false := by simpa using h3
              (refine xs_cons ?_; refine xv_ret ?_; refine ev_bool ?_; with_reducible refine xq_ret ?_; with_reducible refine xq_ret ?_; refine OutTo.out (by assumption) _ _ ?_)
              refine ⟨_, FS.Le.refl, ⟨[], [], τ'⟩, FS.Le.mk2 (by walk_at "ru all") HS.Le.refl, h false _ cl' τ' S2 (O2.dropFresh frG0) (R.low hp hn hn' hl0 (n4 hst))⟩
            · refine ⟨fun hb => (by cases hb), fun zz => ?_⟩
              have hst : stands = true := by simpa using h3
              have R2 := R.take hp hn hn' hl0 (by have : new.length ≤ v.cls.length := n1; lia) n2 (n3 hst)
              (refine xs_nil ?_; refine xs_nil ?_; refine OutTo.out (by assumption) _ _ ?_)
              refine ⟨_, FS.Le.mk2 (by walk_at "ru all") HS.Le.refl, _, ?_, tk ++ [(l, cause)], qs ++ new, s + 1, cl', τ', S2, G', O2, R2, rfl⟩
              have eT : (tk ++ [(l, cause)]).map (·.1) = tk.map (·.1) ++ [l] := by simp
              have hlt' : lft v.cls lits (tk.map (·.1) ++ [l]) < lft v.cls lits (tk.map (·.1)) := hlt
              have : new.length ≤ v.cls.length := n1
              rw [eT]; simp only [List.length_append]; lia
          · have hn : l ∈ tk.map (·.1) := by simpa using h2
            refine ⟨fun hb => (by cases hb), fun zz => ?_⟩
            (refine xs_nil ?_; refine xs_nil ?_; refine OutTo.out (by assumption) _ _ ?_)
            exact ⟨_, FS.Le.mk2 (by walk_at "ru all") HS.Le.refl, _, by lia, tk, qs, s + 1, cl, τ, Sτ, Gτ, Oτ, R.skip hp hn, rfl⟩
      · have hs : s = qs.length := by have := of_decide_eq_false hb; have := R.sp; simp at *; lia
        refine hGx.out _ _ ⟨_, FS.Le.refl, ?_⟩
        (refine xs_cons ?_; refine xv_ret ?_; refine ev_bool ?_; with_reducible refine xq_ret ?_)
        exact ⟨⟨[], [], τ⟩, FS.Le.mk2 (by walk_at "ru all") HS.Le.refl, h true tk cl τ Sτ (Oτ.dropFresh frG0) (R.fin hs Z.lim cl)⟩
end
-- RL3
noncomputable section
section
variable {cls : List (List Int)} {lits : List Int} {tk : List (Int × Int)} {cl : Int × Int}
def Cons (lits : List Int) : Prop := ∀ l ∈ lits, -l ∉ lits
theorem Why.der (w : Why cls lits tk) : ∀ l ∈ tk.map (·.1), Der cls lits l := by
  induction w with
  | nil => simp
  | @snoc tk p w r ih =>
    intro l hl
    rw [List.map_append] at hl
    rcases List.mem_append.mp hl with hl | hl
    · exact ih l hl
    · have e : l = p.1 := by simpa using hl
      subst e
      rcases r with r | ⟨n, c, a1, a2, a3, a4⟩
      · exact .asm r.2
      · exact .unit (List.mem_of_getElem? a2) a3 fun l' h1 h2 => ih _ (a4 l' h1 h2)
theorem Why.rsn (w : Why cls lits tk) : ∀ p ∈ tk, Rsn cls lits (tk.map (·.1)) p := by
  induction w with
  | nil => simp
  | @snoc tk p w r ih =>
    intro q hq
    have up : ∀ l ∈ tk.map (·.1), l ∈ (tk ++ [p]).map (·.1) := fun l hl => by rw [List.map_append]; exact List.mem_append.mpr (.inl hl)
    rcases List.mem_append.mp hq with hq | hq
    · exact (ih q hq).mono up
    · rw [List.mem_singleton.mp hq]; exact r.mono up
theorem clash_of (w : Why cls lits tk) (f : Fault cls lits tk cl) (hc : Cons lits) : Clash cls lits := by
  rcases f with ⟨n, c, a1, a2, a3⟩ | ⟨a1, a2, a3⟩
  · exact ⟨c, List.mem_of_getElem? a2, fun l hl => w.der _ (a3 l hl)⟩
  · obtain ⟨p, hp, e⟩ := List.mem_map.mp a2
    have e : p.1 = cl.2 := e
    rcases w.rsn p hp with r | ⟨n, c, b1, b2, b3, b4⟩
    · rw [e] at r; exact absurd a3 (hc _ r.2)
    · refine ⟨c, List.mem_of_getElem? b2, fun l hl => ?_⟩
      by_cases q : l = p.1
      · rw [q, e]; exact .asm a3
      · exact w.der _ (b4 l hl q)
theorem RunP.iff {stands : Bool} (R : RunP cls lits stands tk cl) (hc : Cons lits) : stands = false ↔ Clash cls lits := by
  constructor
  · intro h; exact clash_of R.why (R.no h) hc
  · intro h
    cases stands with
    | false => rfl
    | true => exact absurd h (R.yes rfl)
theorem neg_cons {c : List Int} (h : Asc c) : Cons (neg c) := by
  have key : ∀ c : List Int, (c.map Int.natAbs).Pairwise (· < ·) → ∀ a ∈ c, ∀ b ∈ c, a.natAbs = b.natAbs → a = b := by
    intro c
    induction c with
    | nil => intro _ a ha; cases ha
    | cons x r ih =>
      intro h a ha b hb e
      rw [List.map_cons, List.pairwise_cons] at h
      rcases List.mem_cons.mp ha with ha | ha <;> rcases List.mem_cons.mp hb with hb | hb
      · rw [ha, hb]
      · have := h.1 _ (List.mem_map.mpr ⟨b, hb, rfl⟩); subst ha; lia
      · have := h.1 _ (List.mem_map.mpr ⟨a, ha, rfl⟩); subst hb; lia
      · exact ih h.2 a ha b hb e
  intro l hl hn
  obtain ⟨a, ha, rfl⟩ := List.mem_map.mp hl
  obtain ⟨b, hb, e⟩ := List.mem_map.mp hn
  have := key c h.1 a ha b hb (by lia)
  have := h.2 a ha
  lia
def pick (cls : List (List Int)) (is : List Int) : List (List Int) := is.filterMap fun i => cls[i.toNat]?
theorem mem_pick {is : List Int} {c : List Int} : c ∈ pick cls is ↔ ∃ i ∈ is, cls[i.toNat]? = some c := by simp [pick]
structure Used (cls : List (List Int)) (lits : List Int) (is : List Int) : Prop where
  nd : is.Nodup
  rng : ∀ i ∈ is, 0 ≤ i ∧ i < cls.length
  clash : Clash (pick cls is) lits
  sm : Sm lits → ∀ i ∈ is, ∀ c, cls[i.toNat]? = some c → Sm c
def rest (cls : List (List Int)) (fd : List Int) : Nat := ((List.range cls.length).filter fun (i : Nat) => decide ((i : Int) ∉ fd)).length
structure BI (cls : List (List Int)) (lits : List Int) (tk : List (Int × Int)) (cl : Int × Int) (fd wt : List Int) : Prop where
  nd : fd.Nodup
  rng : ∀ i ∈ fd, 0 ≤ i ∧ i < cls.length
  wtT : ∀ w ∈ wt, w ∈ tk.map (·.1)
  sup : ∀ i ∈ fd, ∀ c, cls[i.toNat]? = some c → ∀ l ∈ c, (l, i) ∈ tk ∨ -l ∈ wt ∨ ∃ k, (-l, k) ∈ tk ∧ (k = -1 ∨ k ∈ fd)
  root : (∃ c, cls[cl.1.toNat]? = some c ∧ cl.1 ∈ fd ∧ ∀ l ∈ c, -l ∈ tk.map (·.1)) ∨ (-cl.2 ∈ lits ∧ (cl.2 ∈ wt ∨ ∃ k, (cl.2, k) ∈ tk ∧ (k = -1 ∨ k ∈ fd)))
  sm : Sm lits → (∀ w ∈ wt, w.natAbs ≤ 3) ∧ ∀ i ∈ fd, ∀ c, cls[i.toNat]? = some c → Sm c
  cnt : rest cls fd + fd.length ≤ cls.length
  wl : wt.length + 4 * rest cls fd ≤ 60
theorem Why.pos (lim : Lim cls) (sm : Sm lits) (w : Why cls lits tk) : ∀ l ∈ tk.map (·.1), 4 ≤ l.natAbs → 0 < l := by
  induction w with
  | nil => simp
  | @snoc tk p w r ih =>
    intro l hl h4
    rw [List.map_append] at hl
    rcases List.mem_append.mp hl with hl | hl
    · exact ih l hl h4
    · have e : l = p.1 := by simpa using hl
      subst e
      rcases r with r | ⟨n, c, a1, a2, a3, a4⟩
      · have := sm _ r.2; lia
      · rcases (lim.ok c (List.mem_of_getElem? a2)).mix with s | ⟨b1, q, b2, b3⟩
        · have := s _ a3; lia
        · by_cases e : q = p.1
          · rw [← e]; exact b3
          · have := ih _ (a4 q b2 e) (by have := b1 q b2; lia); lia
theorem rest_add {fd : List Int} {n : Nat} (hn : n < cls.length) (h : (n : Int) ∉ fd) : rest cls (fd ++ [(n : Int)]) < rest cls fd := by
  refine filter_lt (x := n) (fun a ha => ?_) (by simpa using h) (by simp) (List.mem_range.mpr hn)
  have := of_decide_eq_true ha
  simp at this ⊢
  exact this.1
theorem rest_nil : rest cls [] = cls.length := by
  unfold rest; rw [List.filter_eq_self.mpr (by simp)]; simp
theorem BI.start (R : RunP cls lits false tk cl) (lim : Lim cls) :
    (∃ (n : Nat) (c : List Int), cl.1 = n ∧ cls[n]? = some c ∧ BI cls lits tk cl [cl.1] (neg c)) ∨ (cl.1 = -1 ∧ BI cls lits tk cl [] [cl.2]) := by
  have c14 := lim.len
  rcases R.no rfl with ⟨n, c, a1, a2, a3⟩ | ⟨a1, a2, a3⟩
  · refine .inl ⟨n, c, a1, a2, ?_⟩
    have hn := (List.getElem?_eq_some_iff.mp a2).1
    have hr := rest_add (cls := cls) (fd := []) hn (by simp)
    rw [rest_nil, List.nil_append] at hr
    have oc := lim.ok c (List.mem_of_getElem? a2)
    refine ⟨by simp, fun i hi => ?_, fun w hw => ?_, fun i hi c' hc' l hl => ?_, ?_, fun sm => ?_, ?_, ?_⟩
    · rw [List.mem_singleton.mp hi]; lia
    · obtain ⟨l, hl, rfl⟩ := List.mem_map.mp hw; exact a3 l hl
    · rw [List.mem_singleton.mp hi, a1] at hc'
      rw [Int.toNat_natCast, a2] at hc'; cases hc'
      exact .inr (.inl (List.mem_map.mpr ⟨l, hl, rfl⟩))
    · refine .inl ⟨c, by rw [a1, Int.toNat_natCast]; exact a2, by simp, a3⟩
    · have hs : Sm c := by
        rcases oc.mix with s | ⟨b1, q, b2, b3⟩
        · exact s
        · have := R.why.pos lim sm _ (a3 q b2) (by have := b1 q b2; lia); lia
      refine ⟨fun w hw => ?_, fun i hi c' hc' => ?_⟩
      · obtain ⟨l, hl, rfl⟩ := List.mem_map.mp hw
        have := hs l hl; lia
      · rw [List.mem_singleton.mp hi, a1, Int.toNat_natCast, a2] at hc'; cases hc'; exact hs
    · rw [a1]; simp only [List.length_singleton]; lia
    · rw [a1]; have := oc.len; simp only [List.length_map]; lia
  · refine .inr ⟨a1, by simp, by simp, fun w hw => ?_, by simp, .inr ⟨a3, .inl (by simp)⟩, fun sm => ⟨fun w hw => ?_, by simp⟩, ?_, ?_⟩
    · rw [List.mem_singleton.mp hw]; exact a2
    · rw [List.mem_singleton.mp hw]; have := sm _ a3; lia
    · rw [rest_nil]; simp
    · rw [rest_nil]; simp only [List.length_singleton]; lia
theorem BI.skip {fd wt : List Int} {one cause : Int} (B : BI cls lits tk cl fd (wt ++ [one])) (hc : (one, cause) ∈ tk) (h : cause = -1 ∨ cause ∈ fd) : BI cls lits tk cl fd wt :=
  ⟨B.nd, B.rng, fun w hw => B.wtT w (List.mem_append.mpr (.inl hw)), fun i hi c hc' l hl => by
    rcases B.sup i hi c hc' l hl with a | a | a
    · exact .inl a
    · rcases List.mem_append.mp a with a | a
      · exact .inr (.inl a)
      · rw [List.mem_singleton.mp a]; exact .inr (.inr ⟨cause, hc, h⟩)
    · exact .inr (.inr a), by
    rcases B.root with a | ⟨a1, a2⟩
    · exact .inl a
    · refine .inr ⟨a1, ?_⟩
      rcases a2 with a | a
      · rcases List.mem_append.mp a with a | a
        · exact .inl a
        · rw [List.mem_singleton.mp a]; exact .inr ⟨cause, hc, h⟩
      · exact .inr a, fun s => ⟨fun w hw => (B.sm s).1 w (List.mem_append.mpr (.inl hw)), (B.sm s).2⟩, B.cnt, by have := B.wl; simp at this; lia⟩
theorem BI.add {fd wt : List Int} {one : Int} {n : Nat} {c : List Int} (B : BI cls lits tk cl fd (wt ++ [one])) (lim : Lim cls) (w : Why cls lits tk) (nd : (tk.map (·.1)).Nodup) (hc : (one, (n : Int)) ∈ tk) (hn : cls[n]? = some c) (h : (n : Int) ∉ fd) :
    BI cls lits tk cl (fd ++ [(n : Int)]) (wt ++ neg (c.filter fun l => decide (l ≠ one))) := by
  have hlt := (List.getElem?_eq_some_iff.mp hn).1
  have hr := rest_add (cls := cls) hlt h
  have oc := lim.ok c (List.mem_of_getElem? hn)
  obtain ⟨h1, h2⟩ : one ∈ c ∧ ∀ l ∈ c, l ≠ one → -l ∈ tk.map (·.1) := by
    rcases w.rsn _ hc with ⟨e, zz⟩ | ⟨m, c', e, e2, e3, e4⟩
    · simp at e
    · have e' : (n : Int) = m := e
      have : n = m := by lia
      subst this; rw [hn] at e2; cases e2; exact ⟨e3, e4⟩
  have old : ∀ k, (k = -1 ∨ k ∈ fd) → (k = -1 ∨ k ∈ fd ++ [(n : Int)]) := fun k q => q.imp id fun q => List.mem_append.mpr (.inl q)
  refine ⟨?_, fun i hi => ?_, fun x hx => ?_, fun i hi c' hc' l hl => ?_, ?_, fun sm => ⟨fun x hx => ?_, fun i hi c' hc' => ?_⟩, ?_, ?_⟩
  · exact List.nodup_append.mpr ⟨B.nd, by simp, fun a ha b hb e => by rw [List.mem_singleton.mp hb] at e; subst e; exact h ha⟩
  · rcases List.mem_append.mp hi with hi | hi
    · exact B.rng i hi
    · rw [List.mem_singleton.mp hi]; lia
  · rcases List.mem_append.mp hx with hx | hx
    · exact B.wtT x (List.mem_append.mpr (.inl hx))
    · obtain ⟨l, hl, rfl⟩ := List.mem_map.mp hx
      obtain ⟨l1, l2⟩ := List.mem_filter.mp hl
      exact h2 l l1 (of_decide_eq_true l2)
  · rcases List.mem_append.mp hi with hi | hi
    · rcases B.sup i hi c' hc' l hl with a | a | ⟨k, a, b⟩
      · exact .inl a
      · rcases List.mem_append.mp a with a | a
        · exact .inr (.inl (List.mem_append.mpr (.inl a)))
        · rw [List.mem_singleton.mp a]; exact .inr (.inr ⟨n, hc, .inr (by simp)⟩)
      · exact .inr (.inr ⟨k, a, old k b⟩)
    · rw [List.mem_singleton.mp hi, Int.toNat_natCast, hn] at hc'; cases hc'
      rw [List.mem_singleton.mp hi]
      by_cases q : l = one
      · subst q; exact .inl hc
      · exact .inr (.inl (List.mem_append.mpr (.inr (List.mem_map.mpr ⟨l, List.mem_filter.mpr ⟨hl, by simpa using q⟩, rfl⟩))))
  · rcases B.root with ⟨c', a1, a2, a3⟩ | ⟨a1, a2⟩
    · exact .inl ⟨c', a1, List.mem_append.mpr (.inl a2), a3⟩
    · refine .inr ⟨a1, ?_⟩
      rcases a2 with a | ⟨k, a, b⟩
      · rcases List.mem_append.mp a with a | a
        · exact .inl (List.mem_append.mpr (.inl a))
        · rw [List.mem_singleton.mp a]; exact .inr ⟨n, hc, .inr (by simp)⟩
      · exact .inr ⟨k, a, old k b⟩
  · have o3 := (B.sm sm).1 one (by simp)
    have hs : Sm c := by
      rcases oc.mix with s | ⟨b1, zz⟩
      · exact s
      · have := b1 one h1; lia
    rcases List.mem_append.mp hx with hx | hx
    · exact (B.sm sm).1 x (List.mem_append.mpr (.inl hx))
    · obtain ⟨l, hl, rfl⟩ := List.mem_map.mp hx
      have := hs l (List.mem_filter.mp hl).1; lia
  · rcases List.mem_append.mp hi with hi | hi
    · exact (B.sm sm).2 i hi c' hc'
    · rw [List.mem_singleton.mp hi, Int.toNat_natCast, hn] at hc'; cases hc'
      have o3 := (B.sm sm).1 one (by simp)
      rcases oc.mix with s | ⟨b1, zz⟩
      · exact s
      · have := b1 one h1; lia
  · have := B.cnt; rw [List.length_append, List.length_singleton]; lia
  · have := B.wl
    have := oc.len
    have := List.length_filter_le (fun l => decide (l ≠ one)) c
    simp only [List.length_append, List.length_map, List.length_singleton] at *; lia
theorem BI.fin {fd : List Int} (B : BI cls lits tk cl fd []) (w : Why cls lits tk) (hc : Cons lits) (nd : (tk.map (·.1)).Nodup) (cons : ∀ l ∈ tk.map (·.1), -l ∉ tk.map (·.1)) : Used cls lits fd := by
  have uniq : ∀ l k k', (l, k) ∈ tk → (l, k') ∈ tk → k = k' := by
    clear B w cons
    induction tk with
    | nil => intro l k k' h; cases h
    | cons p r ih =>
      intro l k k' h1 h2
      rw [List.map_cons, List.nodup_cons] at nd
      rcases List.mem_cons.mp h1 with h1 | h1 <;> rcases List.mem_cons.mp h2 with h2 | h2
      · rw [← h1] at h2; exact (Prod.mk.inj h2).2.symm
      · exact absurd (List.mem_map.mpr ⟨_, h2, by rw [← h1]⟩) nd.1
      · exact absurd (List.mem_map.mpr ⟨_, h1, by rw [← h2]⟩) nd.1
      · exact ih nd.2 l k k' h1 h2
  have key : ∀ tk', Why cls lits tk' → (∀ p ∈ tk', p ∈ tk) → ∀ l k, (l, k) ∈ tk' → (k = -1 ∨ k ∈ fd) → Der (pick cls fd) lits l := by
    intro tk' w'
    induction w' with
    | nil => intro _ l k h; cases h
    | @snoc tk' p w' r ih =>
      intro sub l k hm hk
      have sub' : ∀ q ∈ tk', q ∈ tk := fun q hq => sub q (List.mem_append.mpr (.inl hq))
      rcases List.mem_append.mp hm with hm | hm
      · exact ih sub' l k hm hk
      · have e := List.mem_singleton.mp hm
        subst e
        rcases r with r | ⟨n, c, a1, a2, a3, a4⟩
        · exact .asm r.2
        · have a1 : k = n := a1
          have hk' : k ∈ fd := by
            rcases hk with e | e
            · lia
            · exact e
          have hcl : cls[k.toNat]? = some c := by rw [a1, Int.toNat_natCast]; exact a2
          refine .unit (mem_pick.mpr ⟨k, hk', hcl⟩) a3 fun l' h1 h2 => ?_
          obtain ⟨⟨x, k'⟩, hp, e⟩ := List.mem_map.mp (a4 l' h1 h2)
          have e : x = -l' := e
          subst e
          refine ih sub' _ k' hp ?_
          rcases B.sup k hk' c hcl l' h1 with b | b | ⟨k'', b1, b2⟩
          · exact absurd (List.mem_map.mpr ⟨_, sub' _ hp, rfl⟩) (cons l' (List.mem_map.mpr ⟨_, b, rfl⟩))
          · cases b
          · rw [uniq _ _ _ (sub' _ hp) b1]; exact b2
  refine ⟨B.nd, B.rng, ?_, fun sm => (B.sm sm).2⟩
  rcases B.root with ⟨c, a1, a2, a3⟩ | ⟨a1, a2⟩
  · refine ⟨c, mem_pick.mpr ⟨_, a2, a1⟩, fun l hl => ?_⟩
    rcases B.sup _ a2 c a1 l hl with b | b | ⟨k, b1, b2⟩
    · exact absurd (a3 l hl) (cons l (List.mem_map.mpr ⟨_, b, rfl⟩))
    · cases b
    · exact key tk w (fun zz h => h) _ k b1 b2
  · rcases a2 with a | ⟨k, b1, b2⟩
    · cases a
    · rcases w.rsn _ b1 with ⟨zz, r⟩ | ⟨n, c, e1, e2, e3, e4⟩
      · exact absurd a1 (hc _ r)
      · have e1 : k = n := e1
        have hk' : k ∈ fd := by
          rcases b2 with e | e
          · lia
          · exact e
        have hcl : cls[k.toNat]? = some c := by rw [e1, Int.toNat_natCast]; exact e2
        refine ⟨c, mem_pick.mpr ⟨k, hk', hcl⟩, fun l hl => ?_⟩
        by_cases q : l = cl.2
        · subst q; exact .asm a1
        · rcases B.sup k hk' c hcl l hl with b | b | ⟨k'', d1, d2⟩
          · exact absurd (e4 l hl q) (cons l (List.mem_map.mpr ⟨_, b, rfl⟩))
          · cases b
          · exact key tk w (fun zz h => h) _ k'' d1 d2
end
end
-- R13
noncomputable section
open PySem PySem.W PySem.Calls PyProof.Rows PySem.SeqAt
theorem Rdy.at' {v : UV} (Z : Rdy v) (cl : Int × Int) : Rdy (Rup.at0 v [] cl) := ⟨Z.lim, rfl, rfl, rfl, Z.beg, Z.blen, Z.emp⟩
theorem RunP.sane {v : UV} {lits : List Int} {tk : List (Int × Int)} {cl : Int × Int} {b : Bool} (R : RunP v.cls lits b tk cl) (Z : Rdy v) : Sane (at0 v tk cl) := ⟨Z.lim, rfl, rfl, R.nd, R.cons⟩
set_option maxHeartbeats 2000000 in
theorem forced_d {C : Cx} {n : Nat} (P : Pk C (n + 4)) {fs : FS} {u : UA} {v : UV} (U : UD u) (S : US u v fs.σ) (Z : Rdy v) {b : Addr} {lits : List Int} {Q : V → FS → Prop} (hb : fs.σ.li b = some (lits.map .int)) (ob : ¬ Own u b) (hl : lits.length ≤ 3) (h0 : ∀ l ∈ lits, l ≠ 0) (hc : Cons lits)
    (h : ∀ (r : V) cl τ, US u (at0 v [] cl) τ → Off (Own u) fs.σ τ → ((r = .none ∧ Clash v.cls lits) ∨ (∃ a, r = .ref a) ∧ ¬ Clash v.cls lits) → Q r { fs with σ := τ }) : CD C (.ref 130) [.ref u.x, .ref b] Q fs := by
  obtain ⟨m0, k0, σ0⟩ := fs
  dsimp only at *
  refine call_d P (ns := ["self", "literals"]) rfl (by rfl) (of2 fun zz zz => rfl) rfl (by decide) (by decide) (fun L P' => ?_)
  refine XS.at (WP.weak ?_)
  obtain ⟨zz, u1, u2, u3, u4, u5, u6, u7, u8, u9, u10, u11, u12, u13, u_refs, u_inj⟩ := id U
  obtain ⟨t_ob, t_at, t_lc, t_dp, t_lh, t_lo, t_lb, t_dt, t_lt, t_pl, t_no⟩ := id S
  (refine xs_cons ?_; refine xv_name ?_; refine ev_meth (fv := .ref 116) ?_; refine ev_loc (by eq_refl) ?_; refine ⟨_, gm_own (Pk.kc (by assumption) (by walk_at "ru two")) (by walk_at "ru lk") (by walk_at "ru lk") (by rfl) (Pk.find (by assumption) (by walk_at "ru two") (by exact fm138_run _) (by exact fm184_run _)) (Pk.ty (by assumption) (by exact ty_run _)), .inr (.inr (by exact Pk.kp (by assumption) (by exact kp_run _))), ?_⟩; refine spl_cons ?_; refine ev_loc (by eq_refl) ?_; refine spl_nil ?_; refine CD.cl ?_)
  refine run_d P' U S Z hb ob hl h0 fun stands tk cl τ Sτ Oτ R => ?_
  clear t_ob t_at t_lc t_dp t_lh t_lo t_lb t_dt t_lt t_pl t_no
  obtain ⟨t_ob, t_at, t_lc, t_dp, t_lh, t_lo, t_lb, t_dt, t_lt, t_pl, t_no⟩ := id Sτ
  have len60 := R.len
  (refine st_loc ?_; refine xs_cons ?_; refine xv_name ?_)
  refine ev_sortedAbs ?_ (fun Q f q => ev_blt (v := .bi "sorted") (a := .builtin "sorted") (by exact Pk.ns (by assumption) (by exact gs_sorted _)) (by exact bb_sorted) (fun zz => by simp only [VR]) q) (fun Q f q => ev_blt (v := .bi "abs") (a := .builtin "abs") (by exact Pk.ns (by assumption) (by exact gs_abs _)) (by exact bb_abs) (fun zz => by simp only [VR]) q)
  (refine ev_attr ?_; refine ev_loc (by eq_refl) ?_; refine at_get (Pk.kc (by assumption) (by walk_at "ru two")) (by walk_at "ru lk") (by walk_at "ru lk") (by rfl) (Pk.find (by assumption) (by walk_at "ru two") (by exact fa138_trail _) (by exact fa184_trail _)) ?_)
  refine ⟨_, tk.map (·.1), rfl, by rw [t_lt]; simp, by simp; lia, fun D ms frD hms => ?_⟩
  have oD := Sτ.notFresh frD
  obtain ⟨q_ob, q_at, q_lc, q_dp, q_lh, q_lo, q_lb, q_dt, q_lt, q_pl, q_no⟩ := id (Sτ.other oD (x := ms.map V.int))
  (refine st_loc ?_; refine xs_cons ?_; refine xv_expr ?_; refine ev_meth (fv := .ref 123) ?_; refine ev_loc (by eq_refl) ?_; refine ⟨_, gm_own (Pk.kc (by assumption) (by walk_at "ru two")) (by walk_at "ru lk") (by walk_at "ru lk") (by rfl) (Pk.find (by assumption) (by walk_at "ru two") (by exact fm138_undo _) (by exact fm184_undo _)) (Pk.ty (by assumption) (by exact ty_undo _)), .inr (.inr (by exact Pk.kp (by assumption) (by exact kp_undo _))), ?_⟩; refine spl_nil ?_; refine CD.cl ?_)
  refine undo_d (n := n) (P'.le (by lia)) U (Sτ.other oD) (R.sane Z) (by dsimp only; lia) fun τ2 S2 O2 => ?_
  have O3 : Off (Own u) σ0 τ2 := (Oτ.trans (HS.Le.off (HS.Le.refl.offLi frD.li))).trans O2
  (refine xs_cons ?_; refine xv_ret ?_; refine ev_ifexp ?_; refine tv_plain ?_; refine ev_loc (by eq_refl) ?_; refine tr_bool ?_)
  refine ⟨fun hs => ?_, fun hs => ?_⟩
  · (refine ev_loc (by eq_refl) ?_; with_reducible refine xq_ret ?_)
    exact ⟨⟨[], [], τ2⟩, FS.Le.mk' trivial trivial HS.Le.refl, h _ cl τ2 S2 O3 (.inr ⟨⟨_, rfl⟩, R.yes hs⟩)⟩
  · (refine ev_none ?_; with_reducible refine xq_ret ?_)
    exact ⟨⟨[], [], τ2⟩, FS.Le.mk' trivial trivial HS.Le.refl, h _ cl τ2 S2 O3 (.inl ⟨rfl, (R.iff hc).mp hs⟩)⟩
theorem neg_mem {c : List Int} {l : Int} (h : l ∈ neg c) : -l ∈ c := by
  obtain ⟨a, ha, rfl⟩ := List.mem_map.mp h
  simpa using ha
theorem Okc.neg0 {c : List Int} (h : Okc c) : ∀ l ∈ neg c, l ≠ 0 := fun l hl => by
  have := h.asc.2 _ (neg_mem hl); lia
set_option maxHeartbeats 2000000 in
theorem follows_u {C : Cx} {n : Nat} (P : Pk C (n + 5)) {fs : FS} {u : UA} {v : UV} (U : UD u) (S : US u v fs.σ) (Z : Rdy v) {c : List Int} {Q : V → FS → Prop} (hc : Okc c)
    (h : ∀ (r : Bool) cl τ, US u (at0 v [] cl) τ → Off (Own u) fs.σ τ → (r = true ↔ Fol v.cls c) → Q (.bool r) { fs with σ := τ }) : CD C (.ref 135) [.ref u.x, cv c] Q fs := by
  obtain ⟨m0, k0, σ0⟩ := fs
  dsimp only at *
  refine call_d P (ns := ["self", "clause"]) rfl (by rfl) (of2 fun zz zz => rfl) rfl (by decide) (by decide) (fun L P' => ?_)
  refine XS.at (WP.weak ?_)
  obtain ⟨zz, u1, u2, u3, u4, u5, u6, u7, u8, u9, u10, u11, u12, u13, u_refs, u_inj⟩ := id U
  obtain ⟨t_ob, t_at, t_lc, t_dp, t_lh, t_lo, t_lb, t_dt, t_lt, t_pl, t_no⟩ := id S
  have l3 := hc.len
  (refine xs_cons ?_; refine xv_ret ?_; refine ev_cmp ?_; refine ev_meth (fv := .ref 130) ?_; refine ev_loc (by eq_refl) ?_; refine ⟨_, gm_own (Pk.kc (by assumption) (by walk_at "ru two")) (by walk_at "ru lk") (by walk_at "ru lk") (by rfl) (Pk.find (by assumption) (by walk_at "ru two") (by exact fm138_forced _) (by exact fm184_forced _)) (Pk.ty (by assumption) (by exact ty_forced _)), .inr (.inr (by exact Pk.kp (by assumption) (by exact kp_forced _))), ?_⟩; refine spl_cons ?_)
  refine ev_lcP P'.h (cl := []) (by rfl) (sr_of ?_) (by walk_at "ru cl") (by simp)
  (refine ev_loc (by eq_refl) ?_; refine sv_tup ?_)
  intro D frD
  refine ⟨fun v => true, negV, fun zz => trivial, by simp; lia, fun L' j v ws hv => ?_, ?_⟩
  · rw [List.getElem?_map] at hv
    obtain ⟨l, hl, rfl⟩ := Option.map_eq_some_iff.mp hv
    (refine ts_nil ?_)
    refine ⟨rfl, rfl, fun zz => ?_⟩
    (refine ev_un ?_; refine ev_loc (by eq_refl) ?_; refine op_neg ?_)
    exact ⟨rfl, rfl⟩
  · rw [map_neg]
    have oD := S.notFresh frD
    (refine spl_nil ?_; refine CD.cl ?_)
    refine forced_d (lits := neg c) P' U (S.other oD) Z li_same oD (by simpa using l3) hc.neg0 (neg_cons hc.asc) fun r cl τ Sτ Oτ hr => ?_
    have O3 : Off (Own u) σ0 τ := (HS.Le.off (HS.Le.refl.offLi frD.li)).trans Oτ
    (refine ev_none ?_; refine op_isNone ?_; with_reducible refine xq_ret ?_)
    rcases hr with ⟨rfl, hr⟩ | ⟨⟨a, rfl⟩, hr⟩
    · exact ⟨⟨[], [], τ⟩, FS.Le.mk' trivial trivial HS.Le.refl, h _ cl τ Sτ O3 (by simpa using hr)⟩
    · exact ⟨⟨[], [], τ⟩, FS.Le.mk' trivial trivial HS.Le.refl, h _ cl τ Sτ O3 (by simpa using hr)⟩
end
-- R14
noncomputable section
open PySem PySem.W PySem.Calls PyProof.Rows PySem.SeqAt
theorem Used.perm {cls : List (List Int)} {lits is js : List Int} (x : Used cls lits is) (p : js.Perm is) : Used cls lits js :=
  ⟨p.nodup_iff.mpr x.nd, fun i hi => x.rng i (p.mem_iff.mp hi), x.clash.mono fun c hc => by
    obtain ⟨i, h1, h2⟩ := mem_pick.mp hc
    exact mem_pick.mpr ⟨i, p.mem_iff.mpr h1, h2⟩, fun sm i hi => x.sm sm i (p.mem_iff.mp hi)⟩
theorem fd_isSome {fd : List Int} {i : Int} : (vat (fd.map fun i => (i, V.bool true)) i).isSome = decide (i ∈ fd) := by
  unfold vat
  induction fd with
  | nil => rfl
  | cons p r ih =>
    simp only [List.map_cons, List.find?_cons]
    by_cases h : p = i
    · simp [h]
    · have : i ≠ p := fun e => h e.symm
      simp only [h, decide_false, ih, List.mem_cons, this, false_or]
theorem tk_at {tk : List (Int × Int)} {l : Int} (h : l ∈ tk.map (·.1)) : ∃ k, (l, k) ∈ tk ∧ vat (tk.map fun p => (p.1, V.int p.2)) l = some (.int k) := by
  unfold vat
  induction tk with
  | nil => simp at h
  | cons p r ih =>
    simp only [List.map_cons, List.find?_cons]
    by_cases e : p.1 = l
    · refine ⟨p.2, by rw [← e]; simp, by simp [e]⟩
    · simp only [List.map_cons, List.mem_cons] at h
      obtain ⟨k, h1, h2⟩ := ih (h.resolve_left fun q => e q.symm)
      exact ⟨k, List.mem_cons_of_mem _ h1, by simp only [e, decide_false]; exact h2⟩
theorem filter_negs (c : List Int) (p : V → Bool) (q : Int → Bool) (h : ∀ i, p (.int i) = q i) : ((c.map V.int).filter p).map negV = (neg (c.filter q)).map .int := by
  induction c with
  | nil => rfl
  | cons a r ih =>
    simp only [List.map_cons, List.filter_cons, h]
    split
    · simpa [negV] using ih
    · simpa using ih
theorem Pk.find1 {C : Cx} {n : Nat} (P : Pk C n) {Cl : Addr} {name : Str} {r : Option (Option Value)} (h : Cl = 184) (h2 : findIn (hd.heap_1 C.W.w.params) (.ref 184) name = r) : findIn C.W.K (.ref Cl) name = r := by
  rw [P.K, h]; exact h2
theorem FS.Le.push {m k : List (Str × V)} {σ : HS} {f : FS} {x : Str} {v : V} (h : FS.Le ⟨m, k, σ⟩ f) : FS.Le ⟨(x, v) :: m, k, σ⟩ ⟨(x, v) :: f.m, f.k, f.σ⟩ := by
  refine ⟨fun y w e => ?_, h.k, h.σ⟩
  rw [List.lookup_cons] at e ⊢
  split at e
  · exact e
  · exact h.m y w e
theorem di_getA {C : Cx} {fs : FS} {d : Addr} {kvs : List (Int × V)} {k : Int} {v : V} {value slice : PySem.Expr} {Q : V → FS → Prop} (e : fs.σ.dm d = some (.di kvs)) (hv : vat kvs k = some v) (h : Q v fs)
    (hs : ∀ t, subscripted slice false (.ref d) (.int k t) = operate [.ref d, .int k t] (getItem (.ref d) (.int k t)) := by intro _; with_unfolding_all rfl) : OP2 C VR (subscriptTail value slice) (.ref d) (.int k) Q fs := fun R s x y F r r' => by
  have r'' := r'
  simp only [VR] at r; subst r
  simp only [VR] at r''; obtain ⟨t, rfl⟩ := r''
  obtain ⟨sm, ys, dk, kr⟩ := F.dict (kI C) e
  have := kr.at k
  rw [hv] at this
  obtain ⟨z, e1, rz⟩ := this
  exact tail_any dk.typeIs slot_dict_getitem.lookup (wpAny_getItem_of ((kI C).is _ _ _ r') dk.mapOf e1 ⟨v, fs, F.toks _, TK.refl, rz, h⟩) (hs t)
set_option maxHeartbeats 2000000 in
inductive BhO (x : Addr) (v : UV) (lits : List Int) (tk : List (Int × Int)) (cl : Int × Int) (F W : Addr) (σ0 : HS) (k : Nat) : FS → Prop
  | mk (fd wt : List Int) (τ : HS) (l : σ0.Le τ) (hF : τ.dm F = some (.di (fd.map fun i => (i, .bool true)))) (hW : τ.li W = some (wt.map .int)) (B : BI v.cls lits tk cl fd wt) (e : k = 4 * rest v.cls fd + wt.length) :
    BhO x v lits tk cl F W σ0 k ⟨[("waiting", .ref W), ("found", .ref F), ("self", .ref x)], [], τ⟩
theorem behind_d {C : Cx} {n : Nat} (P : Pk C (n + 1)) {fs : FS} {u : UA} {v : UV} (U : UD u) {tk : List (Int × Int)} {cl : Int × Int} (S : US u (at0 v tk cl) fs.σ) (Z : Rdy v) {lits : List Int} {Q : V → FS → Prop} (R : RunP v.cls lits false tk cl) (hc : Cons lits)
    (h : ∀ a ms, fs.σ.Fresh a → Used v.cls lits ms → ms.Pairwise (· ≤ ·) → Q (.ref a) { fs with σ := fs.σ.setLi a (ms.map .int) }) : CD C (.ref 170) [.ref u.x] Q fs := by
  obtain ⟨m0, k0, σ0⟩ := fs
  dsimp only at *
  refine call_d P (ns := ["self"]) rfl (by rfl) (of1 fun zz => rfl) rfl (by decide) (by decide) (fun L P' => ?_)
  refine XS.at (WP.weak ?_)
  obtain ⟨zz, u1, u2, u3, u4, u5, u6, u7, u8, u9, u10, u11, u12, u13, u_refs, u_inj⟩ := id U
  obtain ⟨t_ob, t_at, t_lc, t_dp, t_lh, t_lo, t_lb, t_dt, t_lt, t_pl, t_no⟩ := id S
  have c14 := Z.lim.len
  obtain ⟨number, literal⟩ := cl
  obtain ⟨fd0, wt0, hB, hnum⟩ : ∃ fd0 wt0, BI v.cls lits tk (number, literal) fd0 wt0 ∧ ((0 ≤ number ∧ fd0 = [number] ∧ ∃ c, v.cls[number.toNat]? = some c ∧ wt0 = neg c) ∨ (number = -1 ∧ fd0 = [] ∧ wt0 = [literal])) := by
    rcases BI.start R Z.lim with ⟨k, c, a1, a2, a3⟩ | ⟨a1, a2⟩
    · have a1 : number = k := a1
      exact ⟨_, _, a3, .inl ⟨by lia, rfl, c, by rw [a1, Int.toNat_natCast]; exact a2, rfl⟩⟩
    · exact ⟨_, _, a2, .inr ⟨a1, rfl, rfl⟩⟩
  (refine xs_cons ?_; refine xv_tup ?_; refine ev_attr ?_; refine ev_loc (by eq_refl) ?_; refine at_get (Pk.kc (by assumption) (by walk_at "ru two")) (by walk_at "ru lk") (by walk_at "ru lk") (by rfl) (Pk.find (by assumption) (by walk_at "ru two") (by exact fa138_clash _) (by exact fa184_clash _)) ?_; refine as_tup2 (Pk.h (by assumption)) ?_; refine as_name ?_; refine st_loc ?_; refine as_name ?_; refine st_loc ?_)
  refine xs_cons (xv_name (WP.mono (Q := fun w f => ∃ F, w = .ref F ∧ σ0.Fresh F ∧ FS.Le ⟨[("literal", .int literal), ("number", .int number), ("self", .ref u.x)], [], σ0.setDm F (.di (fd0.map fun i => (i, .bool true)))⟩ f) ?_ ?_))
  · (refine ev_ifexp ?_; refine tv_cmp ?_; refine ev_loc (by eq_refl) ?_; refine ev_int ?_; refine cm_ge ?_)
    refine ⟨fun hb => ?_, fun hb => ?_⟩
    · have hb : 0 ≤ number := of_decide_eq_true hb
      rcases hnum with ⟨zz, rfl, zz⟩ | ⟨rfl, zz⟩
      · refine ev_dict1 (kI _) (fun F frF => ?_)
        (refine ev_loc (by eq_refl) ?_)
        refine ⟨number, rfl, ?_⟩
        (refine ev_bool ?_)
        refine ⟨dm_same, F, rfl, frF, ?_⟩
        refine FS.Le.mk' (by walk_at "ru all") trivial ?_
        dsimp only
        rw [setDm_setDm]; exact HS.Le.refl
      · lia
    · have hb : ¬ 0 ≤ number := of_decide_eq_false hb
      rcases hnum with ⟨zz, rfl, zz⟩ | ⟨rfl, rfl, rfl⟩
      · lia
      · refine ev_dict0 (kI _) (fun F frF => ?_)
        exact ⟨F, rfl, frF, FS.Le.mk' (by walk_at "ru all") trivial HS.Le.refl⟩
  rintro w f1 ⟨F, rfl, frF, hle⟩
  (refine st_loc ?_)
  refine WP.pre (f := ⟨[("found", .ref F), ("literal", .int literal), ("number", .int number), ("self", .ref u.x)], [], σ0.setDm F (.di (fd0.map fun i => (i, .bool true)))⟩) ?_ hle.push
  clear hle f1
  have S1 : US u (at0 v tk (number, literal)) (σ0.setDm F (.di (fd0.map fun i => (i, .bool true)))) := S.le (HS.Le.refl.offDm frF.dm)
  have oF := S.notFresh frF
  have r_ob := S1.ob; have r_at := S1.at'; have r_lc := S1.lc
  refine xs_cons (xv_name (WP.mono (Q := fun w f => ∃ W, w = .ref W ∧ σ0.Fresh W ∧ W ≠ F ∧ FS.Le ⟨[("found", .ref F), ("literal", .int literal), ("number", .int number), ("self", .ref u.x)], [], (σ0.setDm F (.di (fd0.map fun i => (i, .bool true)))).setLi W (wt0.map .int)⟩ f) ?_ ?_))
  · (refine ev_ifexp ?_; refine tv_cmp ?_; refine ev_loc (by eq_refl) ?_; refine ev_int ?_; refine cm_ge ?_)
    refine ⟨fun hb => ?_, fun hb => ?_⟩
    · have hb : 0 ≤ number := of_decide_eq_true hb
      rcases hnum with ⟨zz, rfl, c, hcn, rfl⟩ | ⟨rfl, zz⟩
      · have hcl := (List.getElem?_eq_some_iff.mp hcn).1
        have l3 := (Z.lim.ok c (List.mem_of_getElem? hcn)).len
        refine ev_lcP P'.h (cl := []) (by rfl) (sr_of ?_) (by walk_at "ru cl") (by simp)
        (refine ev_sub ?_; refine ev_attr ?_; refine ev_loc (by eq_refl) ?_; refine at_get (Pk.kc (by assumption) (by walk_at "ru two")) (by walk_at "ru lk") (by walk_at "ru lk") (by rfl) (Pk.find (by assumption) (by walk_at "ru two") (by exact fa138_clauses _) (by exact fa184_clauses _)) ?_; refine ev_loc (by eq_refl) ?_)
        refine op_getL (vs := v.cls.map cv) (v := cv c) (by walk_at "ru lk") hb (by lia) (by simp [hcn]) ?_
        (refine sv_tup ?_)
        intro D frD
        refine ⟨fun v => true, negV, fun zz => trivial, by simp; lia, fun L' j w ws hv => ?_, ?_⟩
        · rw [List.getElem?_map] at hv
          obtain ⟨l, hl, rfl⟩ := Option.map_eq_some_iff.mp hv
          (refine ts_nil ?_)
          refine ⟨rfl, rfl, fun zz => ?_⟩
          (refine ev_un ?_; refine ev_loc (by eq_refl) ?_; refine op_neg ?_)
          exact ⟨rfl, rfl⟩
        · rw [map_neg]
          exact ⟨D, rfl, (HS.Le.refl.offDm frF.dm).fresh frD, fun e => (by subst e; have := frD.dm; rw [dm_same] at this; cases this), FS.Le.refl⟩
      · lia
    · have hb : ¬ 0 ≤ number := of_decide_eq_false hb
      rcases hnum with ⟨zz, rfl, zz⟩ | ⟨rfl, rfl, rfl⟩
      · lia
      · (refine ev_list ?_; refine spl_cons ?_; refine ev_loc (by eq_refl) ?_; refine spl_nil ?_; refine ⟨by walk_at "ru len", ?_⟩)
        intro D frD
        exact ⟨D, rfl, (HS.Le.refl.offDm frF.dm).fresh frD, fun e => (by subst e; have := frD.dm; rw [dm_same] at this; cases this), FS.Le.refl⟩
  rintro w f1 ⟨W, rfl, frW, WF, hle⟩
  (refine st_loc ?_)
  refine WP.pre (f := ⟨[("waiting", .ref W), ("found", .ref F), ("self", .ref u.x)], [], (σ0.setDm F (.di (fd0.map fun i => (i, .bool true)))).setLi W (wt0.map .int)⟩) ?_ ⟨fun x v e => hle.push.m x v ((FS.Le.mk2 (k := []) (σ := σ0) (τ := σ0) (by walk_at "ru all") HS.Le.refl).m x v e), hle.k, hle.σ⟩
  clear hle f1 r_ob r_at r_lc S1
  have oW := S.notFresh frW
  refine xs_cons (xv_whileW (BhO u.x v lits tk (number, literal) F W σ0) _
    ⟨fd0, wt0, _, (HS.Le.refl.offDm frF.dm).offLi frW.li, dm_li dm_same, li_same, hB, rfl⟩ ?_)
  clear t_ob t_at t_lc t_dp t_lh t_lo t_lb t_dt t_lt t_pl t_no
  rintro k f ⟨fd, wt, τ, lτ, Fτ, Wτ, B, rfl⟩ Gw hGw Gx hGx
  have Sτ := S.le lτ
  obtain ⟨t_ob, t_at, t_lc, t_dp, t_lh, t_lo, t_lb, t_dt, t_lt, t_pl, t_no⟩ := id Sτ
  have b60 := B.wl
  have bcn := B.cnt
  (refine tv_cmp ?_; refine ev_loc (by eq_refl) ?_; refine ev_list ?_; refine spl_nil ?_; refine ⟨by walk_at "ru len", ?_⟩)
  intro E frE
  have WE : W ≠ E := fun e => by subst e; rw [frE.li] at Wτ; cases Wτ
  (refine op_neNil (by walk_at "ru lk") (by walk_at "ru lk") (Pk.cu (by assumption)) ?_)
  refine ⟨fun hb => ?_, fun hb => ?_⟩
  · refine WP.pre (f := ⟨[("waiting", .ref W), ("found", .ref F), ("self", .ref u.x)], [], τ⟩) ?_ (FS.Le.mk2 (by walk_at "ru all") (HS.Le.refl.offLi frE.li))
    rcases List.eq_nil_or_concat wt with rfl | ⟨wt1, one, rfl⟩
    · simp at hb
    rw [List.concat_eq_append] at *
    obtain ⟨cause, ck, hck⟩ := tk_at (B.wtT one (by simp))
    have lw : wt1.length ≤ 59 := by simp at b60; lia
    (refine xs_cons ?_; refine xv_name ?_; refine ev_meth (fv := .builtin "list.pop") ?_; refine ev_loc (by eq_refl) ?_; refine ⟨_, gm_pop (by walk_at "ru lk"), kp_builtin, ?_⟩; refine spl_nil ?_)
    refine cl_pop (vs := wt1.map .int) (v := .int one) (by rw [Wτ]; simp) (by simp; lia) ?_
    (refine st_cell ?_ (by rfl); refine xs_cons ?_; refine xv_name ?_; refine ev_sub ?_; refine ev_attr ?_; refine ev_loc (by eq_refl) ?_; refine at_get (Pk.kc (by assumption) (by walk_at "ru two")) (by walk_at "ru lk") (by walk_at "ru lk") (by rfl) (Pk.find (by assumption) (by walk_at "ru two") (by exact fa138_taken _) (by exact fa184_taken _)) ?_; refine ev_cell (by eq_refl) (by eq_refl) ?_)
    refine di_getA (by walk_at "ru lk") hck ?_
    (refine st_loc ?_; refine xs_cons ?_; refine xv_if ?_; refine tv_bool ?_; refine at_and ?_; refine tv_cmp ?_; refine ev_loc (by eq_refl) ?_; refine ev_int ?_; refine cm_ge ?_)
    simp only [fd_isSome]
    have ckT : one ∈ tk.map (·.1) := List.mem_map.mpr ⟨_, ck, rfl⟩
    have FW : F ≠ W := WF.symm
    have le1 : σ0.Le (τ.setLi W (wt1.map .int)) := lτ.offLi frW.li
    have neg1 : ¬ 0 ≤ cause → cause = -1 := fun hn => by
      rcases R.why.rsn _ ck with ⟨e, zz⟩ | ⟨m, zz, e, zz⟩
      · exact e
      · have e : cause = m := e
        lia
    have skp : (cause = -1 ∨ cause ∈ fd) → ∃ m, m < 4 * rest v.cls fd + (wt1 ++ [one]).length ∧ BhO u.x v lits tk (number, literal) F W σ0 m ⟨[("waiting", .ref W), ("found", .ref F), ("self", .ref u.x)], [], τ.setLi W (wt1.map .int)⟩ :=
      fun hk => ⟨_, by simp, fd, wt1, _, le1, dm_li Fτ, li_same, B.skip ck hk, rfl⟩
    refine ⟨fun h1 => ?_, fun h1 => ?_⟩
    · have h1 : 0 ≤ cause := of_decide_eq_true h1
      (refine at_and ?_; refine tv_cmp ?_; refine ev_loc (by eq_refl) ?_; refine ev_loc (by eq_refl) ?_; refine di_notIn (by walk_at "ru lk") ?_)
      simp only [fd_isSome]
      refine ⟨fun h2 => ?_, fun h2 => ?_⟩
      · have h2 : cause ∉ fd := by simpa using h2
        obtain ⟨m, hm⟩ : ∃ m : Nat, cause = m := ⟨cause.toNat, by lia⟩
        subst hm
        obtain ⟨c, hcn⟩ : ∃ c, v.cls[m]? = some c := by
          rcases R.why.rsn _ ck with ⟨e, zz⟩ | ⟨m', c, e, e2, zz⟩
          · have e : (m : Int) = -1 := e
            lia
          · have e : (m : Int) = m' := e
            have : m = m' := by lia
            subst this; exact ⟨c, e2⟩
        have hcl := (List.getElem?_eq_some_iff.mp hcn).1
        have l3 := (Z.lim.ok c (List.mem_of_getElem? hcn)).len
        have lfd : fd.length ≤ 14 := by lia
        (refine at_and0 ?_)
        refine ⟨fun zz => ?_, fun hb => (by cases hb)⟩
        (refine xs_cons ?_; refine xv_sub ?_; refine ev_bool ?_; refine ev_loc (by eq_refl) ?_; refine ev_loc (by eq_refl) ?_)
        refine di_set (by walk_at "ru lk") (by simp; lia) ?_
        rw [vst_new (by simpa using h2)]
        (refine xs_cons ?_; refine xv_expr ?_; refine ev_meth (fv := .builtin "list.extend") ?_; refine ev_loc (by eq_refl) ?_; refine ⟨_, gm_extend (by walk_at "ru lk"), kp_builtin, ?_⟩; refine spl_cons ?_)
        have dF : u.d ≠ F := fun e => oF (by simp [Own, e])
        have lcW : u.lc ≠ W := fun e => oW (by simp [Own, e])
        refine ev_lcP P'.h (cl := [("one", L + 1)]) (by rfl) (sr_of ?_) (by walk_at "ru cl") (by simp)
        (refine ev_sub ?_; refine ev_attr ?_; refine ev_loc (by eq_refl) ?_; refine at_get (Pk.kc (by assumption) (by walk_at "ru two")) (by walk_at "ru lk") (by walk_at "ru lk") (by rfl) (Pk.find (by assumption) (by walk_at "ru two") (by exact fa138_clauses _) (by exact fa184_clauses _)) ?_; refine ev_loc (by eq_refl) ?_)
        refine op_getN (vs := v.cls.map cv) (v := cv c) (by walk_at "ru lk") (by lia) (by simp [hcn]) ?_
        (refine sv_tup ?_)
        intro D frD
        have WD : W ≠ D := fun e => by subst e; have := frD.li; rw [li_dm li_same] at this; cases this
        refine ⟨fun w => match w with | .int l => decide (l ≠ one) | _ => false, negV, fun zz => trivial, by simp; lia, fun L' j w ws hv => ?_, ?_⟩
        · rw [List.getElem?_map] at hv
          obtain ⟨l, hl, rfl⟩ := Option.map_eq_some_iff.mp hv
          (refine ts_one ?_; refine tv_cmp ?_; refine ev_loc (by eq_refl) ?_; refine ev_cell (by eq_refl) (by eq_refl) ?_; refine cm_ne ?_)
          refine ⟨by rw [Bool.eq_iff_iff]; simp, rfl, fun zz => ?_⟩
          (refine ev_un ?_; refine ev_loc (by eq_refl) ?_; refine op_neg ?_)
          exact ⟨rfl, rfl⟩
        · rw [filter_negs c _ (fun l => decide (l ≠ one)) (fun i => rfl)]
          have l4 : (neg (c.filter fun l => decide (l ≠ one))).length ≤ 3 := by
            have := List.length_filter_le (fun l => decide (l ≠ one)) c
            simp only [List.length_map]; lia
          (refine spl_nil ?_)
          refine cl_extend (vs := wt1.map .int) (ws := (neg (c.filter fun l => decide (l ≠ one))).map .int) (by walk_at "ru lk") (by walk_at "ru lk") (by rw [List.length_map, List.length_map]; lia) ?_
          (refine xs_nil ?_; refine xs_nil ?_; refine OutTo.out (by assumption) _ _ ?_)
          have B2 := B.add Z.lim R.why R.nd ck hcn h2
          have hr := rest_add (cls := v.cls) hcl h2
          refine ⟨_, FS.Le.mk' (m := [("waiting", .ref W), ("found", .ref F), ("self", .ref u.x)]) (k := []) (by walk_at "ru all") trivial (σ := (τ.setDm F (.di ((fd ++ [(m : Int)]).map fun i => (i, .bool true)))).setLi W ((wt1 ++ neg (c.filter fun l => decide (l ≠ one))).map .int)) ?_, _, ?_, fd ++ [(m : Int)], wt1 ++ neg (c.filter fun l => decide (l ≠ one)), _, (lτ.offDm frF.dm).offLi frW.li, dm_li dm_same, li_same, B2, rfl⟩
          · dsimp only
            have e1 : ((τ.setDm F (.di ((fd ++ [(m : Int)]).map fun i => (i, .bool true)))).setLi W (wt1.map .int)).Le (((τ.setLi W (wt1.map .int)).setDm F (.di ((fd.map fun i => (i, .bool true)) ++ [((m : Int), .bool true)]))).setLi D ((neg (c.filter fun l => decide (l ≠ one))).map .int)) := by
              rw [List.map_append]; exact HS.Le.refl.offLi frD.li
            have e2 := e1.onLi (a := W) (x := (wt1.map .int) ++ (neg (c.filter fun l => decide (l ≠ one))).map V.int)
            rw [setLi_setLi, ← List.map_append] at e2
            rw [← List.map_append]
            exact e2
          · simp only [List.length_append, List.length_singleton]; lia
      · have h2 : cause ∈ fd := by simpa using h2
        refine ⟨fun hb => (by cases hb), fun zz => ?_⟩
        (refine xs_nil ?_; refine xs_nil ?_; refine OutTo.out (by assumption) _ _ ?_)
        exact ⟨_, FS.Le.mk' (k := []) (by walk_at "ru all") trivial HS.Le.refl, skp (.inr h2)⟩
    · have h1 : ¬ 0 ≤ cause := of_decide_eq_false h1
      refine ⟨fun hb => (by cases hb), fun zz => ?_⟩
      (refine xs_nil ?_; refine xs_nil ?_; refine OutTo.out (by assumption) _ _ ?_)
      exact ⟨_, FS.Le.mk' (k := []) (by walk_at "ru all") trivial HS.Le.refl, skp (.inl (neg1 h1))⟩
  · have w0 : wt = [] := by simpa using hb
    subst w0
    refine hGx.out _ _ ⟨⟨[("waiting", .ref W), ("found", .ref F), ("self", .ref u.x)], [], τ⟩, FS.Le.mk2 (by walk_at "ru all") (HS.Le.refl.offLi frE.li), ?_⟩
    (refine xs_cons ?_; refine xv_ret ?_; refine ev_bcall (by exact Pk.ns (by assumption) (by exact gs_sorted _)) (by exact bb_sorted) ?_; refine spl_cons ?_; refine ev_loc (by eq_refl) ?_; refine spl_nil ?_)
    refine cl_sortedD P'.h (by walk_at "ru lk") (by simp; lia) fun a ms fra hp hs => ?_
    have hp : ms.Perm fd := by simpa [Function.comp_def] using hp
    refine ⟨⟨[], [], _⟩, FS.Le.mk' trivial trivial (lτ.onLi (a := a) (x := ms.map .int)), ?_⟩
    exact h a ms (lτ.fresh fra) ((B.fin R.why hc R.nd R.cons).perm hp) hs
end
-- R15
noncomputable section
open PySem PySem.W PySem.Calls PyProof.Rows PySem.SeqAt
theorem Off.fresh {A : Addr → Prop} {σ τ : HS} {a : Addr} (h : Off A σ τ) (ha : ¬ A a) (f : τ.Fresh a) : σ.Fresh a := by
  refine ⟨?_, ?_, ?_, ?_⟩
  · cases q : σ.li a with
    | none => rfl
    | some v => have := h.li a v ha q; rw [f.li] at this; cases this
  · cases q : σ.dm a with
    | none => rfl
    | some v => have := h.dm a v ha q; rw [f.dm] at this; cases this
  · cases q : σ.ob a with
    | none => rfl
    | some v => have := h.ob a v ha q; rw [f.ob] at this; cases this
  · cases q : σ.st a with
    | none => rfl
    | some v => have := h.st a v ha q; rw [f.st] at this; cases this
set_option maxHeartbeats 2000000 in
theorem used_d {C : Cx} {n : Nat} (P : Pk C (n + 4)) {fs : FS} {u : UA} {v : UV} (U : UD u) (hT : u.Cl = 184) (S : US u v fs.σ) (Z : Rdy v) {c : List Int} {Q : V → FS → Prop} (hc : Okc c)
    (h : ∀ (r : V) cl τ, US u (at0 v [] cl) τ → Off (Own u) fs.σ τ → ((r = .none ∧ ¬ Fol v.cls c) ∨ ∃ a ms, r = .ref a ∧ τ.li a = some (ms.map .int) ∧ fs.σ.Fresh a ∧ Used v.cls (neg c) ms) → Q r { fs with σ := τ }) : CD C (.ref 175) [.ref u.x, cv c] Q fs := by
  obtain ⟨m0, k0, σ0⟩ := fs
  dsimp only at *
  refine call_d P (ns := ["self", "clause"]) rfl (by rfl) (of2 fun zz zz => rfl) rfl (by decide) (by decide) (fun L P' => ?_)
  refine XS.at (WP.weak ?_)
  obtain ⟨zz, u1, u2, u3, u4, u5, u6, u7, u8, u9, u10, u11, u12, u13, u_refs, u_inj⟩ := id U
  obtain ⟨t_ob, t_at, t_lc, t_dp, t_lh, t_lo, t_lb, t_dt, t_lt, t_pl, t_no⟩ := id S
  have l3 := hc.len
  (refine xs_cons ?_; refine xv_name ?_; refine ev_meth (fv := .ref 116) ?_; refine ev_loc (by eq_refl) ?_; refine ⟨_, gm_own (Pk.kc (by assumption) (by walk_at "ru two")) (by walk_at "ru lk") (by walk_at "ru lk") (by rfl) (Pk.find (by assumption) (by walk_at "ru two") (by exact fm138_run _) (by exact fm184_run _)) (Pk.ty (by assumption) (by exact ty_run _)), .inr (.inr (by exact Pk.kp (by assumption) (by exact kp_run _))), ?_⟩; refine spl_cons ?_)
  refine ev_lcP P'.h (cl := []) (by rfl) (sr_of ?_) (by walk_at "ru cl") (by simp)
  (refine ev_loc (by eq_refl) ?_; refine sv_tup ?_)
  intro D frD
  refine ⟨fun v => true, negV, fun zz => trivial, by simp; lia, fun L' j v ws hv => ?_, ?_⟩
  · rw [List.getElem?_map] at hv
    obtain ⟨l, hl, rfl⟩ := Option.map_eq_some_iff.mp hv
    (refine ts_nil ?_)
    refine ⟨rfl, rfl, fun zz => ?_⟩
    (refine ev_un ?_; refine ev_loc (by eq_refl) ?_; refine op_neg ?_)
    exact ⟨rfl, rfl⟩
  · rw [map_neg]
    have oD := S.notFresh frD
    (refine spl_nil ?_; refine CD.cl ?_)
    refine run_d (lits := neg c) P' U (S.other oD) Z li_same oD (by simpa using l3) hc.neg0 fun stands tk cl τ Sτ Oτ R => ?_
    have O1 : Off (Own u) σ0 τ := (HS.Le.off (HS.Le.refl.offLi frD.li)).trans Oτ
    clear t_ob t_at t_lc t_dp t_lh t_lo t_lb t_dt t_lt t_pl t_no
    obtain ⟨t_ob, t_at, t_lc, t_dp, t_lh, t_lo, t_lb, t_dt, t_lt, t_pl, t_no⟩ := id Sτ
    have len60 := R.len
    (refine st_loc ?_; refine xs_cons ?_; refine xv_name ?_; refine ev_ifexp ?_; refine tv_plain ?_; refine ev_loc (by eq_refl) ?_; refine tr_bool ?_)
    refine ⟨fun hs => ?_, fun hs => ?_⟩
    · (refine ev_none ?_; refine st_loc ?_; refine xs_cons ?_; refine xv_expr ?_; refine ev_meth (fv := .ref 123) ?_; refine ev_loc (by eq_refl) ?_; refine ⟨_, gm_own (Pk.kc (by assumption) (by walk_at "ru two")) (by walk_at "ru lk") (by walk_at "ru lk") (by rfl) (Pk.find (by assumption) (by walk_at "ru two") (by exact fm138_undo _) (by exact fm184_undo _)) (Pk.ty (by assumption) (by exact ty_undo _)), .inr (.inr (by exact Pk.kp (by assumption) (by exact kp_undo _))), ?_⟩; refine spl_nil ?_; refine CD.cl ?_)
      refine undo_d (n := n) (P'.le (by lia)) U Sτ (R.sane Z) (by dsimp only; lia) fun τ2 S2 O2 => ?_
      (refine xs_cons ?_; refine xv_ret ?_; refine ev_loc (by eq_refl) ?_; with_reducible refine xq_ret ?_)
      exact ⟨⟨[], [], τ2⟩, FS.Le.mk' trivial trivial HS.Le.refl, h _ cl τ2 S2 (O1.trans O2) (.inl ⟨rfl, R.yes hs⟩)⟩
    · subst hs
      (refine ev_meth (fv := .ref 170) ?_; refine ev_loc (by eq_refl) ?_; refine ⟨_, gm_own (Pk.kc (by assumption) (by walk_at "ru two")) (by walk_at "ru lk") (by walk_at "ru lk") (by rfl) (Pk.find1 (by assumption) (by assumption) (by rfl)) (Pk.ty (by assumption) (by exact ty_behind_clash _)), .inr (.inr (by exact Pk.kp (by assumption) (by exact kp_behind_clash _))), ?_⟩; refine spl_nil ?_; refine CD.cl ?_)
      refine behind_d (n := n) (lits := neg c) (P'.le (by lia)) U Sτ Z R (neg_cons hc.asc) fun a ms fra hu hsrt => ?_
      have oa := Sτ.notFresh fra
      clear t_ob t_at t_lc t_dp t_lh t_lo t_lb t_dt t_lt t_pl t_no
      obtain ⟨t_ob, t_at, t_lc, t_dp, t_lh, t_lo, t_lb, t_dt, t_lt, t_pl, t_no⟩ := id (Sτ.other oa (x := ms.map V.int))
      (refine st_loc ?_; refine xs_cons ?_; refine xv_expr ?_; refine ev_meth (fv := .ref 123) ?_; refine ev_loc (by eq_refl) ?_; refine ⟨_, gm_own (Pk.kc (by assumption) (by walk_at "ru two")) (by walk_at "ru lk") (by walk_at "ru lk") (by rfl) (Pk.find (by assumption) (by walk_at "ru two") (by exact fm138_undo _) (by exact fm184_undo _)) (Pk.ty (by assumption) (by exact ty_undo _)), .inr (.inr (by exact Pk.kp (by assumption) (by exact kp_undo _))), ?_⟩; refine spl_nil ?_; refine CD.cl ?_)
      refine undo_d (n := n) (P'.le (by lia)) U (Sτ.other oa (x := ms.map V.int)) (R.sane Z) (by dsimp only; lia) fun τ2 S2 O2 => ?_
      (refine xs_cons ?_; refine xv_ret ?_; refine ev_loc (by eq_refl) ?_; with_reducible refine xq_ret ?_)
      exact ⟨⟨[], [], τ2⟩, FS.Le.mk' trivial trivial HS.Le.refl, h _ cl τ2 S2 ((O1.trans (HS.Le.off (HS.Le.refl.offLi fra.li))).trans O2) (.inr ⟨a, ms, rfl, O2.li _ _ oa li_same, O1.fresh oa fra, hu⟩)⟩
end
-- R16
noncomputable section
open PySem PySem.W PySem.Calls PyProof.Rows PySem.SeqAt
structure UM (u : UA) (v : UV) (oc : Int → List Int) (σ : HS) : Prop where
  ob : σ.ob u.x = some (u.Cl, u.d)
  at' : σ.dm u.d = some (.at (usA u v))
  lc : σ.li u.lc = some (v.cls.map cv)
  dp : σ.dm u.dp = some (.di u.kvs)
  lh : σ.li u.lh = some (v.held.map .int)
  lo : σ.li u.lo = some (v.opn.map .int)
  lb : σ.li u.lb = some (v.begun.map bq)
  dt : σ.dm u.dt = some (.di (v.tk.map fun p => (p.1, .int p.2)))
  lt : σ.li u.lt = some (v.tk.map fun p => .int p.1)
  pl : ∀ l a, vat u.kvs l = some (.ref a) → σ.li a = some ((oc l).map .int)
  no : ∀ l, vat u.kvs l = none → oc l = []
theorem vat_snoc {kvs : List (Int × V)} {l l' : Int} {w : V} : vat (kvs ++ [(l, w)]) l' = (vat kvs l').or (if l' = l then some w else none) := by
  unfold vat
  rw [List.find?_append]
  cases h : kvs.find? fun kv => kv.1 = l' with
  | some p => simp
  | none =>
    by_cases e : l' = l
    · subst e; simp
    · have : ¬ l = l' := fun q => e q.symm
      simp [e, this]
theorem vat_none {kvs : List (Int × V)} {l : Int} (h : vat kvs l = none) : l ∉ kvs.map (·.1) := fun hm => by
  obtain ⟨p, hp, e⟩ := List.mem_map.mp hm
  unfold vat at h
  rw [Option.map_eq_none_iff, List.find?_eq_none] at h
  exact h p hp (by simpa using e)
abbrev UA.withK (u : UA) (k : List (Int × V)) : UA := { u with kvs := k }
theorem UD.withK {u : UA} (U : UD u) {k : List (Int × V)} (h1 : ∀ l w, vat k l = some w → ∃ a, w = .ref a ∧ a ≠ u.lc ∧ a ≠ u.lh ∧ a ≠ u.lo ∧ a ≠ u.lb ∧ a ≠ u.lt) (h2 : ∀ l l' a, vat k l = some (.ref a) → vat k l' = some (.ref a) → l = l') : UD (u.withK k) :=
  ⟨U.two, U.ch, U.co, U.cb, U.ct, U.ho, U.hb, U.ht, U.ob, U.ot, U.bt, U.dp, U.dt, U.pt, h1, h2⟩
def begOf (beg : List (Int × Int)) (n : Int) : List Int → List (Int × Int)
  | [l] => beg ++ [(l, n)]
  | _ => beg
theorem begOf_other {beg : List (Int × Int)} {n : Int} {c : List Int} (h : c.length ≠ 1) : begOf beg n c = beg := by
  match c with
  | [] => rfl
  | [x] => exact absurd rfl h
  | x :: y :: r => rfl
theorem begOf_len {beg : List (Int × Int)} {n : Int} {c : List Int} : (begOf beg n c).length ≤ beg.length + 1 := by
  match c with
  | [] => simp [begOf]
  | [x] => simp [begOf]
  | x :: y :: r => simp [begOf]
def addV (v : UV) (c : List Int) : UV :=
  ⟨v.cls ++ [c], v.held ++ [0], v.opn ++ [(c.length : Int)], begOf v.begun v.cls.length c, (if c = [] then (v.cls.length : Int) else v.empty), v.tk, v.clash⟩
theorem heldOf_nil {c : List Int} : heldOf [] c = 0 := by simp [heldOf]
theorem opnOf_nil {c : List Int} : opnOf [] c = c.length := by
  unfold opnOf opn; rw [List.filter_eq_self.mpr (by simp)]
theorem Lim.snoc {cls : List (List Int)} {c : List Int} (h : Lim cls) (hc : Okc c) (hn : cls.length < 14) : Lim (cls ++ [c]) := ⟨by simp; lia, fun d hd => by
  rcases List.mem_append.mp hd with hd | hd
  · exact h.ok d hd
  · rw [List.mem_singleton.mp hd]; exact hc⟩
theorem Rdy.add {v : UV} (Z : Rdy v) {c : List Int} (hc : Okc c) (hn : v.cls.length < 14) : Rdy (addV v c) := by
  refine ⟨Z.lim.snoc hc hn, Z.tk, ?_, ?_, ?_, ?_, ?_⟩
  · simp only [addV, List.map_append, Z.held, List.map_singleton, heldOf_nil]
  · simp only [addV, List.map_append, Z.opn, List.map_singleton, opnOf_nil]
  · intro l i
    have old : (l, i) ∈ v.begun ↔ ∃ n : Nat, i = n ∧ n < v.cls.length ∧ (v.cls ++ [c])[n]? = some [l] := by
      rw [Z.beg]
      constructor
      · rintro ⟨n, h1, h2⟩
        have h3 := (List.getElem?_eq_some_iff.mp h2).1
        exact ⟨n, h1, h3, by rw [List.getElem?_append_left h3]; exact h2⟩
      · rintro ⟨n, h1, h3, h2⟩
        exact ⟨n, h1, by rw [List.getElem?_append_left h3] at h2; exact h2⟩
    have new : ∀ n : Nat, ¬ n < v.cls.length → (v.cls ++ [c])[n]? = some [l] → n = v.cls.length ∧ c = [l] := fun n h1 h2 => by
      have h3 := (List.getElem?_eq_some_iff.mp h2).1
      rw [List.length_append, List.length_singleton] at h3
      have : n = v.cls.length := by lia
      subst this
      simp at h2; exact ⟨rfl, h2⟩
    show (l, i) ∈ begOf v.begun v.cls.length c ↔ ∃ n : Nat, i = n ∧ (v.cls ++ [c])[n]? = some [l]
    by_cases q : c.length = 1
    · obtain ⟨x, rfl⟩ := List.length_eq_one_iff.mp q
      simp only [begOf, List.mem_append, List.mem_singleton, old]
      constructor
      · rintro (⟨n, h1, zz, h2⟩ | h)
        · exact ⟨n, h1, h2⟩
        · obtain ⟨rfl, rfl⟩ := Prod.mk.inj h
          exact ⟨v.cls.length, rfl, by simp⟩
      · rintro ⟨n, h1, h2⟩
        by_cases h3 : n < v.cls.length
        · exact .inl ⟨n, h1, h3, h2⟩
        · obtain ⟨rfl, e⟩ := new n h3 h2
          simp at e; subst e; exact .inr (by rw [h1])
    · rw [begOf_other q, old]
      constructor
      · rintro ⟨n, h1, zz, h2⟩; exact ⟨n, h1, h2⟩
      · rintro ⟨n, h1, h2⟩
        by_cases h3 : n < v.cls.length
        · exact ⟨n, h1, h3, h2⟩
        · obtain ⟨zz, e⟩ := new n h3 h2; exact absurd (by rw [e]; rfl) q
  · show (begOf v.begun v.cls.length c).length ≤ (v.cls ++ [c]).length
    have := Z.blen
    have := begOf_len (beg := v.begun) (n := v.cls.length) (c := c)
    simp; lia
  · show ((if c = [] then (v.cls.length : Int) else v.empty) = -1 ∧ ∀ d ∈ v.cls ++ [c], d ≠ []) ∨ ∃ n : Nat, (if c = [] then (v.cls.length : Int) else v.empty) = n ∧ (v.cls ++ [c])[n]? = some []
    by_cases e : c = []
    · subst e; exact .inr ⟨v.cls.length, by simp, by simp⟩
    · rw [if_neg e]
      rcases Z.emp with ⟨h1, h2⟩ | ⟨n, h1, h2⟩
      · refine .inl ⟨h1, fun d hd => ?_⟩
        rcases List.mem_append.mp hd with hd | hd
        · exact h2 d hd
        · rw [List.mem_singleton.mp hd]; exact e
      · have h3 := (List.getElem?_eq_some_iff.mp h2).1
        exact .inr ⟨n, h1, by rw [List.getElem?_append_left h3]; exact h2⟩
def ocx (cls : List (List Int)) (c : List Int) (i : Nat) (l : Int) : List Int := occ cls l ++ if l ∈ c.take i then [(cls.length : Int)] else []
theorem ocx_step {cls : List (List Int)} {c : List Int} {i : Nat} {l l' : Int} (h : c[i]? = some l) (hn : l ∉ c.take i) : ocx cls c (i + 1) l' = if l' = l then ocx cls c i l ++ [(cls.length : Int)] else ocx cls c i l' := by
  unfold ocx
  rw [take_snoc h]
  by_cases e : l' = l
  · subst e; simp [hn]
  · simp [e]
theorem UM.notFresh {u : UA} {v : UV} {oc : Int → List Int} {σ : HS} (x : UM u v oc σ) {a : Addr} (f : σ.Fresh a) : ¬ Own u a := by
  rintro (rfl | rfl | rfl | rfl | rfl | rfl | rfl | rfl | rfl | ⟨l, e⟩)
  · have := x.ob; rw [f.ob] at this; cases this
  · have := x.at'; rw [f.dm] at this; cases this
  · have := x.lc; rw [f.li] at this; cases this
  · have := x.dp; rw [f.dm] at this; cases this
  · have := x.lh; rw [f.li] at this; cases this
  · have := x.lo; rw [f.li] at this; cases this
  · have := x.lb; rw [f.li] at this; cases this
  · have := x.dt; rw [f.dm] at this; cases this
  · have := x.lt; rw [f.li] at this; cases this
  · have := x.pl l a e; rw [f.li] at this; cases this
theorem Own.up {u : UA} {k : List (Int × V)} {a : Addr} (h : Own u a) (hk : ∀ l w, vat u.kvs l = some w → vat k l = some w) : Own (u.withK k) a := by
  rcases h with h | h | h | h | h | h | h | h | h | ⟨l, h⟩
  iterate 9 exact (by simp [Own, h])
  exact .inr (.inr (.inr (.inr (.inr (.inr (.inr (.inr (.inr ⟨l, hk l _ h⟩))))))))
set_option maxHeartbeats 2000000 in
inductive AdI (u : UA) (v : UV) (c : List Int) (σ0 : HS) (i : Nat) : FS → Prop
  | mk (k : List (Int × V)) (τ : HS) (U : UD (u.withK k)) (S : UM (u.withK k) v (ocx v.cls c i) τ) (O : Off (Own u) σ0 τ) (W : ∀ a, Own (u.withK k) a → Own u a ∨ σ0.Fresh a) (X : ∀ l w, vat u.kvs l = some w → vat k l = some w) (hk : k.length ≤ 3 * v.cls.length + i) :
    AdI u v c σ0 i ⟨[("number", .int v.cls.length), ("self", .ref u.x), ("clause", cv c)], [], τ⟩
theorem add_d {C : Cx} {n : Nat} (P : Pk C (n + 1)) {fs : FS} {u : UA} {v : UV} (U : UD u) (S : US u v fs.σ) (Z : Rdy v) {c : List Int} {Q : V → FS → Prop} (hc : Okc c) (hn : v.cls.length < 14) (hk : u.kvs.length ≤ 3 * v.cls.length)
    (h : ∀ k τ, UD (u.withK k) → US (u.withK k) (addV v c) τ → Off (Own u) fs.σ τ → (∀ a, Own (u.withK k) a → Own u a ∨ fs.σ.Fresh a) → k.length ≤ 3 * (v.cls.length + 1) → Q .none { fs with σ := τ }) : CD C (.ref 99) [.ref u.x, cv c] Q fs := by
  obtain ⟨m0, k0, σ0⟩ := fs
  dsimp only at *
  refine call_d P (ns := ["self", "clause"]) rfl (by rfl) (of2 fun zz zz => rfl) rfl (by decide) (by decide) (fun L P' => ?_)
  refine XS.at (WP.weak ?_)
  obtain ⟨zz, u1, u2, u3, u4, u5, u6, u7, u8, u9, u10, u11, u12, u13, u_refs, u_inj⟩ := id U
  obtain ⟨t_ob, t_at, t_lc, t_dp, t_lh, t_lo, t_lb, t_dt, t_lt, t_pl, t_no⟩ := id S
  have l3 := hc.len
  have cnd := hc.asc.nodup
  (refine xs_cons ?_; refine xv_name ?_; refine ev_bcall (by exact Pk.ns (by assumption) (by exact gs_len _)) (by exact bb_len) ?_; refine spl_cons ?_; refine ev_attr ?_; refine ev_loc (by eq_refl) ?_; refine at_get (Pk.kc (by assumption) (by walk_at "ru two")) (by walk_at "ru lk") (by walk_at "ru lk") (by rfl) (Pk.find (by assumption) (by walk_at "ru two") (by exact fa138_clauses _) (by exact fa184_clauses _)) ?_; refine spl_nil ?_; refine cl_len (by walk_at "ru lk") (by walk_at "ru len") ?_; refine st_loc ?_; refine xs_cons ?_)
  refine WP.pre (f := ⟨[("number", .int v.cls.length), ("self", .ref u.x), ("clause", cv c)], [], σ0⟩) ?_ ?_
  rotate_left
  · rw [List.length_map]; exact FS.Le.mk' (by walk_at "ru all") trivial HS.Le.refl
  refine xv_forW P'.h (sr_of ?_)
  (refine ev_loc (by eq_refl) ?_; refine sv_tup ?_)
  refine ⟨AdI u v c σ0, ⟨u.kvs, σ0, U, ⟨S.ob, S.at', S.lc, S.dp, S.lh, S.lo, S.lb, S.dt, S.lt, fun l a e => by simpa [ocx] using S.pl l a e, fun l e => by simpa [ocx] using S.no l e⟩, Off.refl, fun a h => .inl h, fun zz zz e => e, hk⟩, fun zz zz zz => trivial, ?_, ?_⟩
  · clear t_ob t_at t_lc t_dp t_lh t_lo t_lb t_dt t_lt t_pl t_no
    rintro i w f hv ⟨k, τ, U1, S1, O1, W1, X1, k1⟩ Gq hGq
    rw [List.getElem?_map] at hv
    obtain ⟨l, hl, rfl⟩ := Option.map_eq_some_iff.mp hv
    have hi := (List.getElem?_eq_some_iff.mp hl).1
    obtain ⟨t_ob, t_at, t_lc, t_dp, t_lh, t_lo, t_lb, t_dt, t_lt, t_pl, t_no⟩ := id S1
    (refine as_name ?_; refine st_loc ?_; refine xs_cons ?_; refine xv_expr ?_; refine ev_meth (fv := .builtin "list.append") ?_; refine ev_meth (fv := .builtin "dict.setdefault") ?_; refine ev_attr ?_; refine ev_loc (by eq_refl) ?_; refine at_get (Pk.kc (by assumption) (by walk_at "ru two")) (by walk_at "ru lk") (by walk_at "ru lk") (by rfl) (Pk.find (by assumption) (by walk_at "ru two") (by exact fa138_places _) (by exact fa184_places _)) ?_; refine ⟨_, gm_setdefault (kI _) (by walk_at "ru lk"), kp_builtin, ?_⟩; refine spl_cons ?_; refine ev_loc (by eq_refl) ?_; refine spl_cons ?_; refine ev_list ?_; refine spl_nil ?_; refine ⟨by walk_at "ru len", ?_⟩)
    intro E frE
    have hl0 : l ∉ c.take i := fun hm => not_mem_take cnd hl hm
    have ol : (ocx v.cls c i l).length ≤ 15 := by
      have := occ_len v.cls l
      unfold ocx; rw [List.length_append]; split <;> simp <;> lia
    have stp := fun l' => ocx_step (cls := v.cls) (l' := l') hl hl0
    (refine spl_nil ?_)
    refine cl_setdefault (kI _) (by walk_at "ru lk") (by dsimp only; lia) (fun w hw => ?_) (fun hnone => ?_)
    · obtain ⟨a, rfl, a1, a2, a3, a4, a5⟩ := U1.refs l w hw
      have pla := t_pl l a hw
      have aE : a ≠ E := fun e => by subst e; rw [frE.li] at pla; cases pla
      have oa : Own (u.withK k) a := .inr (.inr (.inr (.inr (.inr (.inr (.inr (.inr (.inr ⟨l, hw⟩))))))))
      (refine ⟨_, gm_append (by walk_at "ru lk"), kp_builtin, ?_⟩; refine spl_cons ?_; refine ev_loc (by eq_refl) ?_; refine spl_nil ?_; refine cl_append (by walk_at "ru lk") (by walk_at "ru len") ?_; refine xs_nil ?_; refine OutTo.out (by assumption) _ _ ?_)
      have ex : (ocx v.cls c i l).map V.int ++ [.int v.cls.length] = (ocx v.cls c (i + 1) l).map .int := by rw [stp l, if_pos rfl]; simp
      refine ⟨⟨[("number", .int v.cls.length), ("self", .ref u.x), ("clause", cv c)], [], τ.setLi a ((ocx v.cls c i l).map V.int ++ [V.int v.cls.length])⟩, FS.Le.mk2 (by walk_at "ru all") (HS.Le.refl.offLi frE.li).onLi, k, _, U1, ?_, ?_, W1, X1, by lia⟩
      · refine ⟨t_ob, t_at, li_ne a1.symm t_lc, t_dp, li_ne a2.symm t_lh, li_ne a3.symm t_lo, li_ne a4.symm t_lb, t_dt, li_ne a5.symm t_lt, fun l' a' e => ?_, fun l' e => ?_⟩
        · by_cases q : l' = l
          · subst q
            have : a' = a := by rw [hw] at e; cases e; rfl
            subst this; rw [← ex]; exact li_same
          · rw [stp l', if_neg q]
            exact li_ne (fun e' => q (by subst e'; exact U1.inj _ _ _ e hw)) (t_pl l' a' e)
        · have q : l' ≠ l := fun q => by subst q; rw [hw] at e; cases e
          rw [stp l', if_neg q]; exact t_no l' e
      · rcases W1 a oa with q | q
        · exact O1.setLi q
        · exact O1.newLi q
    · have hnk := vat_none hnone
      rw [show (kI (C.dn (fnEnv "UnitSteps.add" _ [] 99 (.ref 98) L))).mkd = D.di from rfl, vst_new hnk]
      have Elive : ∀ a v, τ.li a = some v → a ≠ E := fun a v e q => by subst q; rw [frE.li] at e; cases e
      have frE0 : σ0.Fresh E := O1.fresh (fun q => S1.notFresh frE (q.up X1)) frE
      (refine ⟨_, gm_append (by walk_at "ru lk"), kp_builtin, ?_⟩; refine spl_cons ?_; refine ev_loc (by eq_refl) ?_; refine spl_nil ?_; refine cl_append (by walk_at "ru lk") (by walk_at "ru len") ?_; refine xs_nil ?_; refine OutTo.out (by assumption) _ _ ?_)
      have ex : ([] : List V) ++ [.int v.cls.length] = (ocx v.cls c (i + 1) l).map .int := by
        rw [stp l, if_pos rfl]
        have : ocx v.cls c i l = [] := t_no l hnone
        rw [this]; rfl
      have vk := fun l' => vat_snoc (kvs := k) (l := l) (l' := l') (w := V.ref E)
      have vs : ∀ l' w, vat (k ++ [(l, .ref E)]) l' = some w → vat k l' = some w ∨ (l' = l ∧ w = .ref E) := fun l' w e => by
        rw [vk] at e
        cases h : vat k l' with
        | some w' => rw [h] at e; exact .inl (by simpa using e)
        | none =>
          rw [h] at e
          by_cases q : l' = l
          · rw [if_pos q] at e; exact .inr ⟨q, by simpa using e.symm⟩
          · rw [if_neg q] at e; cases e
      refine ⟨_, FS.Le.mk2 (by walk_at "ru all") (HS.Le.refl (σ := ((τ.setLi E []).setDm u.dp (.di (k ++ [(l, .ref E)]))).setLi E ([] ++ [.int v.cls.length]))), k ++ [(l, .ref E)], _, ?_, ?_, ?_, ?_, fun l' w e => (by rw [vk, X1 l' w e]; rfl), by simp; lia⟩
      · refine U.withK (fun l' w e => ?_) fun l1 l2 a e1 e2 => ?_
        · rcases vs l' w e with q | ⟨zz, rfl⟩
          · exact U1.refs l' w q
          · exact ⟨E, rfl, (Elive _ _ t_lc).symm, (Elive _ _ t_lh).symm, (Elive _ _ t_lo).symm, (Elive _ _ t_lb).symm, (Elive _ _ t_lt).symm⟩
        · rcases vs l1 _ e1 with q1 | ⟨q1, q1'⟩ <;> rcases vs l2 _ e2 with q2 | ⟨q2, q2'⟩
          · exact U1.inj _ _ _ q1 q2
          · cases q2'; exact absurd rfl (Elive _ _ (t_pl _ _ q1))
          · cases q1'; exact absurd rfl (Elive _ _ (t_pl _ _ q2))
          · rw [q1, q2]
      · have nd := u11
        refine ⟨t_ob, dm_ne u11 t_at, li_ne (Elive _ _ t_lc) (li_dm (li_ne (Elive _ _ t_lc) t_lc)), dm_same, li_ne (Elive _ _ t_lh) (li_dm (li_ne (Elive _ _ t_lh) t_lh)), li_ne (Elive _ _ t_lo) (li_dm (li_ne (Elive _ _ t_lo) t_lo)), li_ne (Elive _ _ t_lb) (li_dm (li_ne (Elive _ _ t_lb) t_lb)), dm_ne u13.symm t_dt, li_ne (Elive _ _ t_lt) (li_dm (li_ne (Elive _ _ t_lt) t_lt)), fun l' a' e => ?_, fun l' e => ?_⟩
        · rcases vs l' _ e with q | ⟨rfl, q⟩
          · have ql : l' ≠ l := fun q' => by subst q'; rw [hnone] at q; cases q
            rw [stp l', if_neg ql]
            exact li_ne (Elive _ _ (t_pl _ _ q)) (li_dm (li_ne (Elive _ _ (t_pl _ _ q)) (t_pl _ _ q)))
          · cases q; rw [← ex]; exact li_same
        · have e : vat (k ++ [(l, V.ref E)]) l' = none := e
          rw [vk] at e
          cases h : vat k l' with
          | some w' => rw [h] at e; cases e
          | none =>
            rw [h] at e
            by_cases q : l' = l
            · rw [if_pos q] at e; cases e
            · rw [stp l', if_neg q]; exact t_no l' h
      · exact ((O1.newLi frE0).setDm (by simp [Own])).newLi frE0
      · intro a ha
        rcases ha with ha | ha | ha | ha | ha | ha | ha | ha | ha | ⟨l', ha⟩
        iterate 9 exact .inl (by simp [Own, ha])
        rcases vs l' _ ha with q | ⟨zz, q⟩
        · exact W1 a (.inr (.inr (.inr (.inr (.inr (.inr (.inr (.inr (.inr ⟨l', q⟩)))))))))
        · cases q; exact .inr frE0
  · rintro f ⟨k, τ, U1, S1, O1, W1, X1, k1⟩
    have c14 := Z.lim.len
    have bl := Z.blen
    have hl : v.held.length = v.cls.length := by rw [Z.held]; simp
    have ol : v.opn.length = v.cls.length := by rw [Z.opn]; simp
    obtain ⟨t_ob, t_at, t_lc, t_dp, t_lh, t_lo, t_lb, t_dt, t_lt, t_pl, t_no⟩ := id S1
    have eo : ∀ l, ocx v.cls c (c.map V.int).length l = occ (v.cls ++ [c]) l := fun l => by
      rw [occ_snoc]; unfold ocx; rw [List.length_map, List.take_length]
    have S3 : US (u.withK k) { v with cls := v.cls ++ [c], held := v.held ++ [0], opn := v.opn ++ [(c.length : Int)] } (((τ.setLi u.lc ((v.cls ++ [c]).map cv)).setLi u.lh ((v.held ++ [0]).map .int)).setLi u.lo ((v.opn ++ [(c.length : Int)]).map .int)) := by
      refine ⟨t_ob, t_at, li_ne u2 (li_ne u1 li_same), t_dp, li_ne u5 li_same, li_same, li_ne u8.symm (li_ne u6.symm (li_ne u3.symm t_lb)), t_dt, li_ne u9.symm (li_ne u7.symm (li_ne u4.symm t_lt)), fun l a e => ?_, fun l e => ?_⟩
      · obtain ⟨b, hb, h1, h2, h3, h4, h5⟩ := U1.refs l _ e; cases hb
        have := t_pl l a e
        rw [eo] at this
        exact li_ne h3 (li_ne h2 (li_ne h1 this))
      · have := t_no l e; rw [eo] at this; exact this
    have O3 : Off (Own u) σ0 (((τ.setLi u.lc ((v.cls ++ [c]).map cv)).setLi u.lh ((v.held ++ [0]).map .int)).setLi u.lo ((v.opn ++ [(c.length : Int)]).map .int)) := ((O1.setLi (by simp [Own])).setLi (by simp [Own])).setLi (by simp [Own])
    have kl : k.length ≤ 3 * (v.cls.length + 1) := by simp at k1; lia
    (refine xs_cons ?_; refine xv_expr ?_; refine ev_meth (fv := .builtin "list.append") ?_; refine ev_attr ?_; refine ev_loc (by eq_refl) ?_; refine at_get (Pk.kc (by assumption) (by walk_at "ru two")) (by walk_at "ru lk") (by walk_at "ru lk") (by rfl) (Pk.find (by assumption) (by walk_at "ru two") (by exact fa138_clauses _) (by exact fa184_clauses _)) ?_; refine ⟨_, gm_append (by walk_at "ru lk"), kp_builtin, ?_⟩; refine spl_cons ?_; refine ev_loc (by eq_refl) ?_; refine spl_nil ?_; refine cl_append (by walk_at "ru lk") (by walk_at "ru len") ?_; refine xs_cons ?_; refine xv_expr ?_; refine ev_meth (fv := .builtin "list.append") ?_; refine ev_attr ?_; refine ev_loc (by eq_refl) ?_; refine at_get (Pk.kc (by assumption) (by walk_at "ru two")) (by walk_at "ru lk") (by walk_at "ru lk") (by rfl) (Pk.find (by assumption) (by walk_at "ru two") (by exact fa138_held _) (by exact fa184_held _)) ?_; refine ⟨_, gm_append (by walk_at "ru lk"), kp_builtin, ?_⟩; refine spl_cons ?_; refine ev_int ?_; refine spl_nil ?_; refine cl_append (by walk_at "ru lk") (by walk_at "ru len") ?_; refine xs_cons ?_; refine xv_expr ?_; refine ev_meth (fv := .builtin "list.append") ?_; refine ev_attr ?_; refine ev_loc (by eq_refl) ?_; refine at_get (Pk.kc (by assumption) (by walk_at "ru two")) (by walk_at "ru lk") (by walk_at "ru lk") (by rfl) (Pk.find (by assumption) (by walk_at "ru two") (by exact fa138_open _) (by exact fa184_open _)) ?_; refine ⟨_, gm_append (by walk_at "ru lk"), kp_builtin, ?_⟩; refine spl_cons ?_; refine ev_bcall (by exact Pk.ns (by assumption) (by exact gs_len _)) (by exact bb_len) ?_; refine spl_cons ?_; refine ev_loc (by eq_refl) ?_; refine spl_nil ?_; refine cl_lenT (by walk_at "ru len") ?_; refine spl_nil ?_; refine cl_append (by walk_at "ru lk") (by walk_at "ru len") ?_; refine xs_cons ?_; refine xv_if ?_; refine tv_cmp ?_; refine ev_bcall (by exact Pk.ns (by assumption) (by exact gs_len _)) (by exact bb_len) ?_; refine spl_cons ?_; refine ev_loc (by eq_refl) ?_; refine spl_nil ?_; refine cl_lenT (by walk_at "ru len") ?_; refine ev_int ?_; refine cm_eq ?_)
    have eσ : ((τ.setLi u.lc (v.cls.map cv ++ [cv c])).setLi u.lh (v.held.map .int ++ [.int 0])).setLi u.lo (v.opn.map .int ++ [.int (c.map V.int).length]) = ((τ.setLi u.lc ((v.cls ++ [c]).map cv)).setLi u.lh ((v.held ++ [0]).map .int)).setLi u.lo ((v.opn ++ [(c.length : Int)]).map .int) := by simp
    revert S3 O3 eσ
    generalize ((τ.setLi u.lc ((v.cls ++ [c]).map cv)).setLi u.lh ((v.held ++ [0]).map .int)).setLi u.lo ((v.opn ++ [(c.length : Int)]).map .int) = σ3
    intro S3 O3 eσ
    obtain ⟨r_ob, r_at, r_lc, r_dp, r_lh, r_lo, r_lb, r_dt, r_lt, r_pl, r_no⟩ := id S3
    refine ⟨fun h1 => ?_, fun h1 => ?_⟩
    · have c0 : c = [] := by simpa using h1
      subst c0
      refine WP.pre (f := ⟨[("number", .int v.cls.length), ("self", .ref u.x), ("clause", cv [])], [], σ3⟩) ?_ (FS.Le.mk2 (by walk_at "ru all") (by rw [← eσ]; exact HS.Le.refl))
      (refine xs_cons ?_; refine xv_attr ?_; refine ev_loc (by eq_refl) ?_; refine ev_loc (by eq_refl) ?_; refine at_set (Pk.kc (by assumption) (by walk_at "ru two")) (by walk_at "ru lk") (by walk_at "ru lk") (Pk.taker (by assumption) (by walk_at "ru two") (by exact tk138_empty _) (by exact tk184_empty _)) (Nat.le_of_ble_eq_true (by rfl)) ?_; refine xs_nil ?_; refine xs_nil ?_)
      refine ⟨⟨[], [], _⟩, FS.Le.mk' trivial trivial HS.Le.refl, h k _ U1 ?_ (O3.setDm (by simp [Own])) W1 kl⟩
      exact ⟨r_ob, dm_same, r_lc, dm_ne u11.symm r_dp, r_lh, r_lo, r_lb, dm_ne u12.symm r_dt, r_lt, r_pl, r_no⟩
    · have c0 : c ≠ [] := fun e => by subst e; simp at h1
      refine WP.pre (f := ⟨[("number", .int v.cls.length), ("self", .ref u.x), ("clause", cv c)], [], σ3⟩) ?_ (FS.Le.mk2 (by walk_at "ru all") (by rw [← eσ]; exact HS.Le.refl))
      (refine xs_cons ?_; refine xv_if ?_; refine tv_cmp ?_; refine ev_bcall (by exact Pk.ns (by assumption) (by exact gs_len _)) (by exact bb_len) ?_; refine spl_cons ?_; refine ev_loc (by eq_refl) ?_; refine spl_nil ?_; refine cl_lenT (by walk_at "ru len") ?_; refine ev_int ?_; refine cm_eq ?_)
      refine ⟨fun h2 => ?_, fun h2 => ?_⟩
      · obtain ⟨x, rfl⟩ : ∃ x, c = [x] := List.length_eq_one_iff.mp (by simp at h2; lia)
        (refine xs_cons ?_; refine xv_expr ?_; refine ev_meth (fv := .builtin "list.append") ?_; refine ev_attr ?_; refine ev_loc (by eq_refl) ?_; refine at_get (Pk.kc (by assumption) (by walk_at "ru two")) (by walk_at "ru lk") (by walk_at "ru lk") (by rfl) (Pk.find (by assumption) (by walk_at "ru two") (by exact fa138_begun _) (by exact fa184_begun _)) ?_; refine ⟨_, gm_append (by walk_at "ru lk"), kp_builtin, ?_⟩; refine spl_cons ?_; refine ev_tuple ?_; refine spl_cons ?_; refine ev_sub ?_; refine ev_loc (by eq_refl) ?_; refine ev_int ?_)
        refine op_getT (v := .int x) (by decide) (by decide) rfl ?_
        (refine spl_cons ?_; refine ev_loc (by eq_refl) ?_; refine spl_nil ?_; refine ⟨by walk_at "ru len", ?_⟩; refine spl_nil ?_; refine cl_append (by walk_at "ru lk") (by walk_at "ru len") ?_; refine xs_nil ?_; refine xs_nil ?_; refine xs_nil ?_)
        refine ⟨⟨[], [], _⟩, FS.Le.mk' trivial trivial HS.Le.refl, h k _ U1 ?_ (O3.setLi (by simp [Own])) W1 kl⟩
        refine ⟨r_ob, r_at, li_ne u3 r_lc, r_dp, li_ne u6 r_lh, li_ne u8 r_lo, ?_, r_dt, li_ne u10.symm r_lt, fun l a e => ?_, r_no⟩
        · rw [li_same]; simp [addV, begOf, bq]
        · obtain ⟨b, hb, h1, h2, h3, h4, h5⟩ := U1.refs l _ e; cases hb
          exact li_ne h4 (r_pl l a e)
      · have c1 : c.length ≠ 1 := fun e => by simp [e] at h2
        (refine xs_nil ?_; refine xs_nil ?_; refine xs_nil ?_)
        refine ⟨⟨[], [], _⟩, FS.Le.mk' trivial trivial HS.Le.refl, h k _ U1 ?_ O3 W1 kl⟩
        have : addV v c = { v with cls := v.cls ++ [c], held := v.held ++ [0], opn := v.opn ++ [(c.length : Int)] } := by
          simp only [addV, begOf_other c1, if_neg c0]
        rw [this]; exact S3
end
-- R17
noncomputable section
open PySem PySem.W PySem.Calls PyProof.Rows PySem.SeqAt
theorem ev_dictI {C : Cx} {fs : FS} {pos : Pos} {Q : V → FS → Prop} (h : ∀ a, fs.σ.Fresh a → Q (.ref a) { fs with σ := fs.σ.setDm a (.di []) }) : EV C (.Dict [] [] pos) Q fs := ev_dict0 (kI C) h
theorem alSet_len {name : Str} {v : V} : ∀ {l : List (Str × V)} {n : Nat}, l.length ≤ n → (alSet name v l).length ≤ n + 1
  | [], n, h => by simp [alSet]
  | (m, w) :: r, n, h => by
    unfold alSet
    split
    · simp at h ⊢; lia
    · cases n with
      | zero => simp at h
      | succ n => simp at h ⊢; exact alSet_len h
structure Hal (al : List (Str × V)) : Prop where
  le : al.length ≤ 9
end
local macro_rules | `(tactic| walk_at "ru al") => `(tactic| first | exact alSet_len (Hal.le (by assumption)) | exact alSet_len (alSet_len (Hal.le (by assumption))) | exact alSet_len (alSet_len (alSet_len (Hal.le (by assumption)))) | exact alSet_len (alSet_len (alSet_len (alSet_len (Hal.le (by assumption))))) | exact alSet_len (alSet_len (alSet_len (alSet_len (alSet_len (Hal.le (by assumption)))))) | exact alSet_len (alSet_len (alSet_len (alSet_len (alSet_len (alSet_len (Hal.le (by assumption))))))) | exact alSet_len (alSet_len (alSet_len (alSet_len (alSet_len (alSet_len (alSet_len (Hal.le (by assumption)))))))) | exact alSet_len (alSet_len (alSet_len (alSet_len (alSet_len (alSet_len (alSet_len (alSet_len (Hal.le (by assumption))))))))) | exact alSet_len (alSet_len (alSet_len (alSet_len (alSet_len (alSet_len (alSet_len (alSet_len (alSet_len (Hal.le (by assumption)))))))))))
noncomputable section
open PySem PySem.W PySem.Calls PyProof.Rows PySem.SeqAt
theorem tc_frames {args : Args} : (Code.builtin "type.__call__" args).frames = 0 := by rfl
theorem tc_weight {args : Args} : (Code.builtin "type.__call__" args).weight ≤ 1 := by
  have hg : (Code.builtin "type.__call__" args).isGuard = false := by
    show guardIds.contains "type.__call__" = false
    decide +kernel
  have hk : (Code.builtin "type.__call__" args).isCaller = false := by rfl
  unfold Code.weight
  rw [tc_frames, hg, hk]
  split <;> decide
theorem tc_units {args : Args} : (Code.builtin "type.__call__" args).cUnits = 1 := by
  simp [Code.cUnits, tc_frames]
theorem Pk.under {C : Cx} {n : Nat} (P : Pk C (n + 1)) {args : Args} : Pk (C.under (.builtin "type.__call__" args)) n := by
  refine ⟨P.K, P.h, ?_, ?_⟩
  · have := P.d; have := tc_weight (args := args); show C.A.depth + (Code.builtin "type.__call__" args).weight + n ≤ 900; lia
  · have := P.u; have := tc_units (args := args); show C.A.units + (Code.builtin "type.__call__" args).cUnits + 10 * n ≤ 9000; lia
theorem HS.Fresh.neLi {σ : HS} {a b : Addr} {v : List V} (f : σ.Fresh b) (h : σ.li a = some v) : a ≠ b := fun e => by subst e; rw [f.li] at h; cases h
theorem HS.Fresh.neDm {σ : HS} {a b : Addr} {v : D} (f : σ.Fresh b) (h : σ.dm a = some v) : a ≠ b := fun e => by subst e; rw [f.dm] at h; cases h
theorem HS.Fresh.neOb {σ : HS} {a b : Addr} {v : Addr × Addr} (f : σ.Fresh b) (h : σ.ob a = some v) : a ≠ b := fun e => by subst e; rw [f.ob] at h; cases h
end
local macro_rules | `(tactic| walk_at "ru two") => `(tactic| assumption)
noncomputable section
open PySem PySem.W PySem.Calls PyProof.Rows PySem.SeqAt
abbrev inA (d x : Addr) (b : Addr) : Prop := b = d ∨ b = x
inductive InI (x Cl d lc dp lh lo lb dt lt a : Addr) (cls : List (List Int)) (σ0 : HS) (i : Nat) : FS → Prop
  | mk (k : List (Int × V)) (v : UV) (τ : HS) (U : UD ⟨x, Cl, d, lc, dp, lh, lo, lb, dt, lt, k⟩) (S : US ⟨x, Cl, d, lc, dp, lh, lo, lb, dt, lt, k⟩ v τ) (Z : Rdy v) (h1 : v.cls = cls.take i) (h2 : k.length ≤ 3 * v.cls.length)
      (h3 : ∀ b, Own ⟨x, Cl, d, lc, dp, lh, lo, lb, dt, lt, k⟩ b → b = x ∨ b = d ∨ σ0.Fresh b) (O : Off (inA d x) σ0 τ) : InI x Cl d lc dp lh lo lb dt lt a cls σ0 i ⟨[("clauses", .ref a), ("self", .ref x)], [], τ⟩
set_option maxHeartbeats 4000000 in
theorem init_d {C : Cx} {n : Nat} (P : Pk C (n + 2)) {fs : FS} {x Cl d a : Addr} {al : List (Str × V)} {cls : List (List Int)} {Q : V → FS → Prop} (hC : two Cl) (ho : fs.σ.ob x = some (Cl, d)) (hd : fs.σ.dm d = some (.at al)) (hal : al = [] ∨ ∃ u v, al = usA u v)
    (ha : fs.σ.li a = some (cls.map cv)) (hax : a ≠ x) (had : a ≠ d) (lim : Lim cls)
    (h : ∀ u v τ, u.x = x → u.Cl = Cl → u.d = d → UD u → US u v τ → Rdy v → v.cls = cls → u.kvs.length ≤ 3 * cls.length → (∀ b, Own u b → b = x ∨ b = d ∨ fs.σ.Fresh b) → Off (inA d x) fs.σ τ → Q .none { fs with σ := τ }) : CD C (.ref 92) [.ref x, .ref a] Q fs := by
  obtain ⟨m0, k0, σ0⟩ := fs
  dsimp only at *
  refine call_d P (ns := ["self", "clauses"]) rfl (by rfl) (of2 fun zz zz => rfl) rfl (by decide) (by decide) (fun L P' => ?_)
  refine XS.at (WP.weak ?_)
  have oD : ∀ {τ : HS} {y : D}, Off (inA d x) σ0 τ → Off (inA d x) σ0 (τ.setDm d y) := fun h => h.setDm (.inl rfl)
  have oL : ∀ {τ : HS} {b : Addr} {y : List V}, σ0.Fresh b → Off (inA d x) σ0 τ → Off (inA d x) σ0 (τ.setLi b y) := fun f h => h.newLi f
  have oM : ∀ {τ : HS} {b : Addr} {y : D}, σ0.Fresh b → Off (inA d x) σ0 τ → Off (inA d x) σ0 (τ.setDm b y) := fun f h => h.newDm f
  have fr : ∀ {τ : HS} {b : Addr} {dv : D}, Off (inA d x) σ0 τ → τ.dm d = some dv → τ.ob x = some (Cl, d) → τ.Fresh b → σ0.Fresh b := fun o h1 h2 f => o.fresh (fun q => q.elim (fun q => (f.neDm h1) q.symm) fun q => (f.neOb h2) q.symm) f
  have hal9 : Hal al := ⟨by rcases hal with rfl | ⟨u0, v0, rfl⟩ <;> simp⟩
  focus
    (refine xs_cons ?_; refine xv_attr ?_; refine ev_list ?_; refine spl_nil ?_; refine ⟨by walk_at "ru len", ?_⟩)
    intro lc frlc
    have e1 : a ≠ lc := frlc.neLi ha
    (refine ev_loc (by eq_refl) ?_; refine at_set (Pk.kc (by assumption) (by walk_at "ru two")) (by walk_at "ru lk") (by walk_at "ru lk") (Pk.taker (by assumption) (by walk_at "ru two") (by exact tk138_clauses _) (by exact tk184_clauses _)) (Nat.le_trans (by walk_at "ru al") (by decide)) ?_; refine xs_cons ?_; refine xv_attr ?_; refine ev_dictI ?_)
    intro dp frdp
    have e2 : d ≠ dp := frdp.neDm dm_same
    (refine ev_loc (by eq_refl) ?_; refine at_set (Pk.kc (by assumption) (by walk_at "ru two")) (by walk_at "ru lk") (by walk_at "ru lk") (Pk.taker (by assumption) (by walk_at "ru two") (by exact tk138_places _) (by exact tk184_places _)) (Nat.le_trans (by walk_at "ru al") (by decide)) ?_; refine xs_cons ?_; refine xv_attr ?_; refine ev_list ?_; refine spl_nil ?_; refine ⟨by walk_at "ru len", ?_⟩)
    intro lh frlh
    have e3 : a ≠ lh := frlh.neLi (by walk_at "ru lk")
    have e4 : lc ≠ lh := frlh.neLi (by walk_at "ru lk")
    (refine ev_loc (by eq_refl) ?_; refine at_set (Pk.kc (by assumption) (by walk_at "ru two")) (by walk_at "ru lk") (by walk_at "ru lk") (Pk.taker (by assumption) (by walk_at "ru two") (by exact tk138_held _) (by exact tk184_held _)) (Nat.le_trans (by walk_at "ru al") (by decide)) ?_; refine xs_cons ?_; refine xv_attr ?_; refine ev_list ?_; refine spl_nil ?_; refine ⟨by walk_at "ru len", ?_⟩)
    intro lo frlo
    have e5 : a ≠ lo := frlo.neLi (by walk_at "ru lk")
    have e6 : lc ≠ lo := frlo.neLi (by walk_at "ru lk")
    have e7 : lh ≠ lo := frlo.neLi (by walk_at "ru lk")
    (refine ev_loc (by eq_refl) ?_; refine at_set (Pk.kc (by assumption) (by walk_at "ru two")) (by walk_at "ru lk") (by walk_at "ru lk") (Pk.taker (by assumption) (by walk_at "ru two") (by exact tk138_open _) (by exact tk184_open _)) (Nat.le_trans (by walk_at "ru al") (by decide)) ?_; refine xs_cons ?_; refine xv_attr ?_; refine ev_list ?_; refine spl_nil ?_; refine ⟨by walk_at "ru len", ?_⟩)
    intro lb frlb
    have e8 : a ≠ lb := frlb.neLi (by walk_at "ru lk")
    have e9 : lc ≠ lb := frlb.neLi (by walk_at "ru lk")
    have e10 : lh ≠ lb := frlb.neLi (by walk_at "ru lk")
    have e11 : lo ≠ lb := frlb.neLi (by walk_at "ru lk")
    (refine ev_loc (by eq_refl) ?_; refine at_set (Pk.kc (by assumption) (by walk_at "ru two")) (by walk_at "ru lk") (by walk_at "ru lk") (Pk.taker (by assumption) (by walk_at "ru two") (by exact tk138_begun _) (by exact tk184_begun _)) (Nat.le_trans (by walk_at "ru al") (by decide)) ?_; refine xs_cons ?_; refine xv_attr ?_; refine ev_un ?_; refine ev_int ?_; refine op_neg ?_; refine ev_loc (by eq_refl) ?_; refine at_set (Pk.kc (by assumption) (by walk_at "ru two")) (by walk_at "ru lk") (by walk_at "ru lk") (Pk.taker (by assumption) (by walk_at "ru two") (by exact tk138_empty _) (by exact tk184_empty _)) (Nat.le_trans (by walk_at "ru al") (by decide)) ?_; refine xs_cons ?_; refine xv_attr ?_; refine ev_dictI ?_)
    intro dt frdt
    have e12 : d ≠ dt := frdt.neDm (by walk_at "ru lk")
    have e13 : dp ≠ dt := frdt.neDm (by walk_at "ru lk")
    (refine ev_loc (by eq_refl) ?_; refine at_set (Pk.kc (by assumption) (by walk_at "ru two")) (by walk_at "ru lk") (by walk_at "ru lk") (Pk.taker (by assumption) (by walk_at "ru two") (by exact tk138_taken _) (by exact tk184_taken _)) (Nat.le_trans (by walk_at "ru al") (by decide)) ?_; refine xs_cons ?_; refine xv_attr ?_; refine ev_list ?_; refine spl_nil ?_; refine ⟨by walk_at "ru len", ?_⟩)
    intro lt frlt
    have e14 : a ≠ lt := frlt.neLi (by walk_at "ru lk")
    have e15 : lc ≠ lt := frlt.neLi (by walk_at "ru lk")
    have e16 : lh ≠ lt := frlt.neLi (by walk_at "ru lk")
    have e17 : lo ≠ lt := frlt.neLi (by walk_at "ru lk")
    have e18 : lb ≠ lt := frlt.neLi (by walk_at "ru lk")
    have f0 : σ0.Fresh lc := frlc
    have f1 : σ0.Fresh dp := fr (oD (oL f0 Off.refl)) dm_same (by walk_at "ru lk") frdp
    have f2 : σ0.Fresh lh := fr (oD (oM f1 (oD (oL f0 Off.refl)))) dm_same (by walk_at "ru lk") frlh
    have f3 : σ0.Fresh lo := fr (oD (oL f2 (oD (oM f1 (oD (oL f0 Off.refl)))))) dm_same (by walk_at "ru lk") frlo
    have f4 : σ0.Fresh lb := fr (oD (oL f3 (oD (oL f2 (oD (oM f1 (oD (oL f0 Off.refl)))))))) dm_same (by walk_at "ru lk") frlb
    have f5 : σ0.Fresh dt := fr (oD (oD (oL f4 (oD (oL f3 (oD (oL f2 (oD (oM f1 (oD (oL f0 Off.refl)))))))))))  dm_same (by walk_at "ru lk") frdt
    have f6 : σ0.Fresh lt := fr (oD (oM f5 (oD (oD (oL f4 (oD (oL f3 (oD (oL f2 (oD (oM f1 (oD (oL f0 Off.refl)))))))))))))  dm_same (by walk_at "ru lk") frlt
    (refine ev_loc (by eq_refl) ?_; refine at_set (Pk.kc (by assumption) (by walk_at "ru two")) (by walk_at "ru lk") (by walk_at "ru lk") (Pk.taker (by assumption) (by walk_at "ru two") (by exact tk138_trail _) (by exact tk184_trail _)) (Nat.le_trans (by walk_at "ru al") (by decide)) ?_; refine xs_cons ?_; refine xv_attr ?_; refine ev_tuple ?_; refine spl_cons ?_; refine ev_un ?_; refine ev_int ?_; refine op_neg ?_; refine spl_cons ?_; refine ev_int ?_; refine spl_nil ?_; refine ⟨by walk_at "ru len", ?_⟩; refine ev_loc (by eq_refl) ?_; refine at_set (Pk.kc (by assumption) (by walk_at "ru two")) (by walk_at "ru lk") (by walk_at "ru lk") (Pk.taker (by assumption) (by walk_at "ru two") (by exact tk138_clash _) (by exact tk184_clash _)) (Nat.le_trans (by walk_at "ru al") (by decide)) ?_; refine xs_cons ?_)
    refine xv_forW P'.h (sr_of ?_)
    (refine ev_loc (by eq_refl) ?_; refine sv_list (by walk_at "ru lk") ?_)
    refine ⟨InI x Cl d lc dp lh lo lb dt lt a cls σ0,
      ⟨[], ⟨[], [], [], [], -1, [], (-1, 0)⟩, _, ⟨hC, e4, e6, e9, e15, e7, e10, e16, e11, e17, e18, e2, e12, e13, fun l w e => (by cases e), fun l l' a e => (by cases e)⟩,
        ⟨by walk_at "ru lk", dm_same.trans (by rcases hal with rfl | ⟨u0, v0, rfl⟩ <;> rfl), (show HS.li _ lc = some [] from by walk_at "ru lk"), (show HS.dm _ dp = some (D.di []) from by walk_at "ru lk"), (show HS.li _ lh = some [] from by walk_at "ru lk"), (show HS.li _ lo = some [] from by walk_at "ru lk"), (show HS.li _ lb = some [] from by walk_at "ru lk"), (show HS.dm _ dt = some (D.di []) from by walk_at "ru lk"), (show HS.li _ lt = some [] from by walk_at "ru lk"), fun l a e => (by cases e), fun l e => rfl⟩,
        ⟨⟨by simp, by simp⟩, rfl, rfl, rfl, by simp, by simp, .inl ⟨rfl, by simp⟩⟩, rfl, by simp, fun b hb => ?_, ?_⟩, fun i f hi => ?_, ?_, ?_⟩
    · rcases hb with rfl | rfl | rfl | rfl | rfl | rfl | rfl | rfl | rfl | ⟨l, e⟩
      · exact .inl rfl
      · exact .inr (.inl rfl)
      · exact .inr (.inr f0)
      · exact .inr (.inr f1)
      · exact .inr (.inr f2)
      · exact .inr (.inr f3)
      · exact .inr (.inr f4)
      · exact .inr (.inr f5)
      · exact .inr (.inr f6)
      · cases e
    · exact oD (oD (oL f6 (oD (oM f5 (oD (oD (oL f4 (oD (oL f3 (oD (oL f2 (oD (oM f1 (oD (oL f0 Off.refl)))))))))))))))
    · obtain ⟨k, v, τ, zz, zz, zz, zz, zz, zz, O⟩ := hi
      exact O.li a _ (fun q => q.elim had hax) ha
    · rintro i w f hv ⟨k, v, τ, U1, S1, Z1, h1, h2, h3, O1⟩ Gq hGq
      rw [List.getElem?_map] at hv
      obtain ⟨c, hcl, rfl⟩ := Option.map_eq_some_iff.mp hv
      have hi := (List.getElem?_eq_some_iff.mp hcl).1
      have oc := lim.ok c (List.mem_of_getElem? hcl)
      have c14 := lim.len
      have hlen : v.cls.length = i := by rw [h1, List.length_take]; lia
      obtain ⟨t_ob, t_at, t_lc, t_dp, t_lh, t_lo, t_lb, t_dt, t_lt, t_pl, t_no⟩ := id S1
      (refine as_name ?_; refine st_loc ?_; refine xs_cons ?_; refine xv_expr ?_; refine ev_meth (fv := .ref 99) ?_; refine ev_loc (by eq_refl) ?_; refine ⟨_, gm_own (Pk.kc (by assumption) (by walk_at "ru two")) (by walk_at "ru lk") (by walk_at "ru lk") (by rfl) (Pk.find (by assumption) (by walk_at "ru two") (by exact fm138_add _) (by exact fm184_add _)) (Pk.ty (by assumption) (by exact ty_add _)), .inr (.inr (by exact Pk.kp (by assumption) (by exact kp_add _))), ?_⟩; refine spl_cons ?_; refine ev_loc (by eq_refl) ?_; refine spl_nil ?_; refine CD.cl ?_)
      refine add_d P' U1 S1 Z1 oc (by lia) h2 fun k' τ' U2 S2 O2 W2 k2 => ?_
      (refine xs_nil ?_; refine OutTo.out (by assumption) _ _ ?_)
      refine ⟨_, FS.Le.mk2 (by walk_at "ru all") HS.Le.refl, k', addV v c, τ', U2, S2, Z1.add oc (by lia), ?_, ?_, fun b hb => ?_, ?_⟩
      · show v.cls ++ [c] = _
        rw [h1, take_snoc hcl]
      · show k'.length ≤ 3 * (v.cls ++ [c]).length
        simp; lia
      · rcases W2 b hb with q | q
        · exact h3 b q
        · by_cases qd : inA d x b
          · rcases qd with q | q
            · exact .inr (.inl q)
            · exact .inl q
          · exact .inr (.inr (O1.fresh qd q))
      · refine ⟨fun b y n e => ?_, fun b y n e => ?_, fun b y n e => ?_, fun b y n e => ?_⟩
        · refine O2.li b y (fun q => ?_) (O1.li b y n e)
          rcases h3 b q with q | q | q
          · exact n (.inr q)
          · exact n (.inl q)
          · rw [q.li] at e; cases e
        · refine O2.dm b y (fun q => ?_) (O1.dm b y n e)
          rcases h3 b q with q | q | q
          · exact n (.inr q)
          · exact n (.inl q)
          · rw [q.dm] at e; cases e
        · refine O2.ob b y (fun q => ?_) (O1.ob b y n e)
          rcases h3 b q with q | q | q
          · exact n (.inr q)
          · exact n (.inl q)
          · rw [q.ob] at e; cases e
        · refine O2.st b y (fun q => ?_) (O1.st b y n e)
          rcases h3 b q with q | q | q
          · exact n (.inr q)
          · exact n (.inl q)
          · rw [q.st] at e; cases e
    · rintro f ⟨k, v, τ, U1, S1, Z1, h1, h2, h3, O1⟩
      rw [List.length_map, List.take_length] at h1
      (refine xs_nil ?_)
      exact ⟨⟨[], [], τ⟩, FS.Le.mk' trivial trivial HS.Le.refl, h _ v τ rfl rfl rfl U1 S1 Z1 h1 (by rw [← h1]; exact h2) h3 O1⟩
end
-- RL4
noncomputable section
section
variable {cls sm : List (List Int)}
def UsesP (cls sm : List (List Int)) (ms : List (List Int)) : Prop := ∀ k m c, ms[k]? = some m → sm[k]? = some c → Used (cls ++ sm.take k) (neg c) m
structure NK (cls sm : List (List Int)) (ms : List (List Int)) (lo : Nat) (ks : List Int) : Prop where
  nd : ks.Nodup
  top : ((cls.length + (sm.length - 1) : Nat) : Int) ∈ ks
  rng : ∀ k ∈ ks, 0 ≤ k ∧ k ≤ ((cls.length + (sm.length - 1) : Nat) : Int)
  clo : ∀ k m, lo ≤ k → ms[k]? = some m → ((cls.length + k : Nat) : Int) ∈ ks → ∀ x ∈ m, x ∈ ks
  sml : ∀ k ∈ ks, ∀ c, (cls ++ sm)[k.toNat]? = some c → Sm c
theorem mem_takeGet {α : Type} {l : List α} {i n : Nat} {c : α} (h : l[i]? = some c) (hn : i < n) : (l.take n)[i]? = some c := by rw [List.getElem?_take, if_pos hn]; exact h
theorem getApp {k i : Nat} {c : List Int} (h : (cls ++ sm.take k)[i]? = some c) : (cls ++ sm)[i]? = some c := by
  by_cases q : i < cls.length
  · rw [List.getElem?_append_left q] at h ⊢; exact h
  · have q := Nat.not_lt.mp q
    rw [List.getElem?_append_right q] at h ⊢
    rw [List.getElem?_take] at h
    split at h
    · exact h
    · cases h
theorem neg_sm {c : List Int} (h : Sm c) : Sm (neg c) := fun l hl => by
  obtain ⟨a, ha, rfl⟩ := List.mem_map.mp hl
  have := h a ha; lia
theorem NK.start {ms : List (List Int)} (hs : sm ≠ []) (hg : ∀ g, sm.getLast? = some g → Sm g) : NK cls sm ms (sm.length) [((cls.length + (sm.length - 1) : Nat) : Int)] := by
  have hp : 0 < sm.length := List.length_pos_iff.mpr hs
  refine ⟨by simp, by simp, fun k hk => ?_, fun k m hk hm hmem => ?_, fun k hk c hc => ?_⟩
  · rw [List.mem_singleton.mp hk]; lia
  · have := List.mem_singleton.mp hmem
    lia
  · rw [List.mem_singleton.mp hk, Int.toNat_natCast, List.getElem?_append_right (by lia)] at hc
    refine hg c ?_
    rw [List.getLast?_eq_getElem?, ← hc]; congr 1; lia
theorem NK.skip {ms : List (List Int)} {lo : Nat} {ks : List Int} (N : NK cls sm ms (lo + 1) ks) (h : ((cls.length + lo : Nat) : Int) ∉ ks) : NK cls sm ms lo ks :=
  ⟨N.nd, N.top, N.rng, fun k m hk hm hmem => by
      by_cases q : k = lo
      · subst q; exact absurd hmem h
      · exact N.clo k m (by lia) hm hmem, N.sml⟩
theorem NK.add {ms : List (List Int)} {lo : Nat} {ks ks' m : List Int} {c : List Int} (N : NK cls sm ms (lo + 1) ks) (U : UsesP cls sm ms) (h : ((cls.length + lo : Nat) : Int) ∈ ks) (hm : ms[lo]? = some m) (hc : sm[lo]? = some c)
    (nd : ks'.Nodup) (hk : ∀ x, x ∈ ks' ↔ x ∈ ks ∨ x ∈ m) : NK cls sm ms lo ks' := by
  have us := U lo m c hm hc
  have hlo := (List.getElem?_eq_some_iff.mp hc).1
  have hcs : Sm c := N.sml _ h c (by rw [Int.toNat_natCast, List.getElem?_append_right (by lia)]; rw [← hc]; congr 1; lia)
  have rg : ∀ x ∈ m, 0 ≤ x ∧ x < ((cls.length + lo : Nat) : Int) := fun x hx => by
    have := us.rng x hx
    rw [List.length_append, List.length_take] at this
    have : min lo sm.length ≤ lo := Nat.min_le_left _ _
    lia
  refine ⟨nd, (hk _).mpr (.inl N.top), fun k hk' => ?_, fun k m' hk1 hm' hmem x hx => ?_, fun k hk' c' hc' => ?_⟩
  · rcases (hk k).mp hk' with q | q
    · exact N.rng k q
    · have := rg k q; lia
  · by_cases q : k = lo
    · subst q; rw [hm] at hm'; cases hm'; exact (hk x).mpr (.inr hx)
    · refine (hk x).mpr (.inl (N.clo k m' (by lia) hm' ?_ x hx))
      rcases (hk _).mp hmem with z | z
      · exact z
      · have := rg _ z; lia
  · rcases (hk k).mp hk' with q | q
    · exact N.sml k q c' hc'
    · have := rg k q
      have hlt : k.toNat < (cls ++ sm.take lo).length := by
        have h2 := us.rng k q
        lia
      have e := List.getElem?_eq_getElem hlt
      have := getApp e
      rw [hc'] at this
      have e' : (cls ++ sm.take lo)[k.toNat]? = some c' := by rw [e, this]
      exact us.sm (neg_sm hcs) k q c' e'
structure TrimP (cls log : List (List Int)) (goal : List Int) (kept late : List Int) : Prop where
  ka : kept.Pairwise (· < ·)
  kr : ∀ p ∈ kept, 0 ≤ p ∧ p < cls.length
  la : late.Pairwise (· < ·)
  lr : ∀ p ∈ late, 0 ≤ p ∧ p < log.length
  ks : ∀ c ∈ pick cls kept, Sm c
  ls : ∀ c ∈ pick log late, Sm c
  fol : FW (pick cls kept) (pick log late ++ [goal]) (-1)
theorem pick_len {cls : List (List Int)} : ∀ {is : List Int}, (∀ i ∈ is, 0 ≤ i ∧ i < cls.length) → (pick cls is).length = is.length ∧ ∀ (k : Nat) (i : Int), is[k]? = some i → (pick cls is)[k]? = cls[i.toNat]?
  | [], _ => ⟨rfl, fun k i h => by simp at h⟩
  | i :: r, h => by
    have hi := h i (by simp)
    have e := List.getElem?_eq_getElem (l := cls) (i := i.toNat) (by lia)
    obtain ⟨h1, h2⟩ := pick_len (is := r) fun j hj => h j (by simp [hj])
    have ep : pick cls (i :: r) = cls[i.toNat]'(by lia) :: pick cls r := by
      unfold pick; rw [List.filterMap_cons, e]
    refine ⟨by rw [ep]; simp [h1], fun k j hk => ?_⟩
    rw [ep]
    cases k with
    | zero => simp at hk; subst hk; simp [e]
    | succ k => simp at hk ⊢; exact h2 k j hk
theorem trimP_of {cls log : List (List Int)} {goal : List Int} {ms : List (List Int)} {ks ps : List Int} (U : UsesP cls (log ++ [goal]) ms) (hms : ms.length = log.length + 1) (N : NK cls (log ++ [goal]) ms 0 ks)
    (hp : ps.Perm ks) (hs : ps.Pairwise (· ≤ ·)) :
    TrimP cls log goal ((ps.take (ps.length - 1)).filter fun (k : Int) => decide (k < cls.length)) (((ps.take (ps.length - 1)).filter fun (k : Int) => decide (k ≥ cls.length)).map fun (k : Int) => k - cls.length) := by
  have nd : ps.Nodup := hp.nodup_iff.mpr N.nd
  have lt : ps.Pairwise (· < ·) := hs.imp₂ (fun a b h1 h2 => by lia) nd
  have topv : ((cls.length + ((log ++ [goal]).length - 1) : Nat) : Int) = cls.length + log.length := by simp
  have mem : ∀ x, x ∈ ps.take (ps.length - 1) ↔ x ∈ ks ∧ x ≠ (cls.length + log.length : Int) := by
    have hne : ps ≠ [] := fun e => by
      have := hp.mem_iff.mpr N.top; rw [e] at this; cases this
    obtain ⟨ini, last, e⟩ : ∃ ini last, ps = ini ++ [last] := ⟨ps.dropLast, ps.getLast hne, (List.dropLast_concat_getLast hne).symm⟩
    have ht : ps.take (ps.length - 1) = ini := by rw [e]; simp
    have lastv : last = (cls.length + log.length : Int) := by
      have h1 := hp.mem_iff.mpr N.top
      rw [topv, e] at h1
      have h2 := N.rng last (hp.mem_iff.mp (by rw [e]; simp))
      rw [topv] at h2
      rcases List.mem_append.mp h1 with h1 | h1
      · rw [e, List.pairwise_append] at lt
        have := lt.2.2 _ h1 last (by simp)
        lia
      · exact (List.mem_singleton.mp h1).symm
    intro x
    rw [ht, ← hp.mem_iff, e, lastv.symm]
    rw [e, List.nodup_append] at nd
    constructor
    · intro h; exact ⟨by simp [h], fun q => nd.2.2 x h last (by simp) q⟩
    · rintro ⟨h1, h2⟩
      rcases List.mem_append.mp h1 with h | h
      · exact h
      · exact absurd (List.mem_singleton.mp h) h2
  generalize hini : ps.take (ps.length - 1) = ini at mem ⊢
  have li : ini.Pairwise (· < ·) := by rw [← hini]; exact lt.sublist (List.take_sublist _ _)
  have hk0 : ∀ p ∈ ini.filter fun (k : Int) => decide (k < cls.length), 0 ≤ p ∧ p < cls.length := fun p h => by
    obtain ⟨h1, h2⟩ := List.mem_filter.mp h
    have := N.rng p ((mem p).mp h1).1
    exact ⟨this.1, of_decide_eq_true h2⟩
  have hl0 : ∀ p ∈ (ini.filter fun (k : Int) => decide (k ≥ cls.length)).map fun (k : Int) => k - cls.length, 0 ≤ p ∧ p < log.length := fun p h => by
    obtain ⟨k, hk, rfl⟩ := List.mem_map.mp h
    obtain ⟨h1, h2⟩ := List.mem_filter.mp hk
    obtain ⟨h3, h4⟩ := (mem k).mp h1
    have h5 := N.rng k h3
    rw [topv] at h5
    have h6 : k ≥ cls.length := of_decide_eq_true h2
    lia
  have hla : ((ini.filter fun (k : Int) => decide (k ≥ cls.length)).map fun (k : Int) => k - cls.length).Pairwise (· < ·) := by
    rw [List.pairwise_map]; exact (li.filter _).imp fun {a b} h => by lia
  have inK : ∀ x, x ∈ ini → x < cls.length → x ∈ ini.filter fun (k : Int) => decide (k < cls.length) := fun x h1 h2 => List.mem_filter.mpr ⟨h1, decide_eq_true h2⟩
  have inL : ∀ x, x ∈ ini → ¬ x < cls.length → x - cls.length ∈ (ini.filter fun (k : Int) => decide (k ≥ cls.length)).map fun (k : Int) => k - cls.length := fun x h1 h2 =>
    List.mem_map.mpr ⟨x, List.mem_filter.mpr ⟨h1, decide_eq_true (by lia)⟩, rfl⟩
  have hka : (ini.filter fun (k : Int) => decide (k < cls.length)).Pairwise (· < ·) := li.filter _
  have hofK : ∀ y ∈ ini.filter fun (k : Int) => decide (k < cls.length), y ∈ ks := fun y h => ((mem y).mp (List.mem_filter.mp h).1).1
  generalize (ini.filter fun (k : Int) => decide (k < cls.length)) = kept at hk0 inK hka hofK ⊢
  have hofL : ∀ y ∈ (ini.filter fun (k : Int) => decide (k ≥ cls.length)).map fun (k : Int) => k - cls.length, y + cls.length ∈ ks := fun y h => by
    obtain ⟨k, hk, rfl⟩ := List.mem_map.mp h
    have := ((mem k).mp (List.mem_filter.mp hk).1).1
    rwa [show k - (cls.length : Int) + cls.length = k from by lia]
  generalize hlate : ((ini.filter fun (k : Int) => decide (k ≥ cls.length)).map fun (k : Int) => k - cls.length) = late at hl0 hla inL hofL ⊢
  have lenB := pick_len hl0
  have core : ∀ (K i : Nat) (c : List Int), ((cls.length + K : Nat) : Int) ∈ ks → (log ++ [goal])[K]? = some c → (∀ (pos : Nat) (y : Int), late[pos]? = some y → y < K → pos < i) → Fol (pick cls kept ++ (pick log late ++ [goal]).take i) c := by
    intro K i c hmem hc hpos
    have hK := (List.getElem?_eq_some_iff.mp hc).1
    rw [List.length_append, List.length_singleton] at hK
    have hm := List.getElem?_eq_getElem (l := ms) (i := K) (by lia)
    generalize ms[K]'(by lia) = m at hm
    have us := U K m c hm hc
    refine us.clash.mono fun d hd => ?_
    obtain ⟨x, hx, hxd⟩ := mem_pick.mp hd
    have xr := us.rng x hx
    rw [List.length_append, List.length_take] at xr
    have : min K (log ++ [goal]).length ≤ K := Nat.min_le_left _ _
    have xin : x ∈ ini := (mem x).mpr ⟨N.clo K m (Nat.zero_le _) hm hmem x hx, by lia⟩
    by_cases q : x < cls.length
    · refine List.mem_append.mpr (.inl (mem_pick.mpr ⟨x, inK x xin q, ?_⟩))
      rwa [List.getElem?_append_left (by lia)] at hxd
    · refine List.mem_append.mpr (.inr ?_)
      have hy := inL x xin q
      obtain ⟨pos, hpl, hpe⟩ := List.getElem_of_mem hy
      have hpe' : late[pos]? = some (x - cls.length) := by rw [List.getElem?_eq_getElem hpl, hpe]
      have hlt := hpos pos _ hpe' (by lia)
      have hB := lenB.2 pos _ hpe'
      have hd' : log[(x - (cls.length : Int)).toNat]? = some d := by
        rw [List.getElem?_append_right (by lia), List.getElem?_take] at hxd
        split at hxd
        · have := hl0 _ hy
          rw [List.getElem?_append_left (by lia)] at hxd
          rw [← hxd]; congr 1; lia
        · cases hxd
      rw [hd'] at hB
      have hBl := (List.getElem?_eq_some_iff.mp hB).1
      exact List.mem_of_getElem? (mem_takeGet (by rw [List.getElem?_append_left hBl]; exact hB) hlt)
  refine ⟨hka, hk0, hla, hl0, fun c hc => ?_, fun c hc => ?_, .inl ⟨rfl, fun i c hc => ?_⟩⟩
  · obtain ⟨i, hi, hc'⟩ := mem_pick.mp hc
    have hr := hk0 i hi
    refine N.sml _ (hofK i hi) c ?_
    rw [List.getElem?_append_left (by lia)]; exact hc'
  · obtain ⟨i, hi, hc'⟩ := mem_pick.mp hc
    have hr := hl0 i hi
    refine N.sml _ (hofL i hi) c ?_
    rw [List.getElem?_append_right (by lia), List.getElem?_append_left (by lia)]
    rw [← hc']; congr 1; lia
  · by_cases q : i < late.length
    · rw [List.getElem?_append_left (by rw [lenB.1]; exact q)] at hc
      have hy := List.getElem?_eq_getElem q
      have hB := lenB.2 i _ hy
      rw [hc] at hB
      have hr := hl0 late[i] (List.getElem_mem q)
      refine core late[i].toNat i c ?_ ?_ fun pos y hp hlt => ?_
      · have := hofL late[i] (List.getElem_mem q)
        rwa [show ((cls.length + late[i].toNat : Nat) : Int) = late[i] + cls.length from by lia]
      · rw [List.getElem?_append_left (by lia)]; exact hB.symm
      · refine Nat.lt_of_not_le fun hle => ?_
        obtain ⟨hp1, hp2⟩ := List.getElem?_eq_some_iff.mp hp
        rcases Nat.lt_or_eq_of_le hle with h | h
        · have := List.pairwise_iff_getElem.mp hla i pos q hp1 h
          lia
        · subst h; lia
    · have hi := (List.getElem?_eq_some_iff.mp hc).1
      rw [List.length_append, List.length_singleton, lenB.1] at hi
      have : i = late.length := by lia
      subst this
      have hcg : c = goal := by
        rw [List.getElem?_append_right (by rw [lenB.1]; exact Nat.le_refl _), lenB.1] at hc
        simpa using hc.symm
      subst hcg
      refine core log.length _ c ?_ (by simp) fun pos y hp zz => (List.getElem?_eq_some_iff.mp hp).1
      have := N.top; rw [topv] at this
      rwa [show ((cls.length + log.length : Nat) : Int) = cls.length + log.length from by lia]
end
end
-- RE1
noncomputable section
open PySem PySem.W PySem.Calls PyProof.Rows PySem.SeqAt
section
variable {C : Cx} {fs : FS} {R R' : Addr → Option Obj} {s : Shared}
theorem FR.lessR (F : FR C R fs s) (h : ∀ b o, R' b = some o → R b = some o) (hb : ∀ b o, C.W.base.get? b = some o → R' b = some o) : FR C R' fs s := by
  have no : ∀ a, R a = none → R' a = none := fun a e => by
    cases q : R' a with
    | none => rfl
    | some o => rw [h a o q] at e; cases e
  refine ⟨F.gens, F.os, hb, fun b o e => F.rk b o (h b o e), ?_, no _ F.rl, F.loc, F.cells, F.apart, F.names, fun x c m f k => no _ (F.co x c m f k)⟩
  refine F.hr.swap (fun b o e => ?_) fun a l => ?_
  · by_cases w : own C.env b
    · rw [rp_own w] at e; exact e
    · rw [rp_not w] at e; exact F.rk b o (h b o e)
  · obtain ⟨q, r⟩ := F.live l
    rw [rp_not q]; exact no a r
theorem call_raw {f : Addr} {name qual : Str} {params : Arguments} {body : List Stmt} {scope : Scope} {cl : List (Str × Addr)} {dV kV doc pm cdv ct oc : Value} {an od : Option Addr} {osl : Array (Option Value)}
    {ns clN : List Str} {vals : List V} {k0 : List (Str × V)} {R : Addr → Option Obj} {s : Shared} {xs : List Value} {Rr : Result → Shared → Prop} (F : FR C R fs s) (l : LR s.heap vals xs)
    (hK : C.W.K.lookup f = some ⟨oc, od, .func (fnX name qual params body scope cl dV kV doc pm an cdv ct), osl⟩)
    (hcd : codeIn C.W.K cdv qual = true) (hroom : C.A.depth < recursionLimit)
    (hbind : ∀ xs : List Value, xs.length = ns.length → bindArgs (fnX name qual params body scope cl dV kV doc pm an cdv ct) ⟨xs, []⟩ = pure (ns.zip xs)) (hlen : vals.length = ns.length)
    (hkind : ∀ x ∈ ns, scope.names.lookup x = some .local ∨ (scope.names.lookup x = some .cell ∧ x ∈ (cellsFrom 0 scope.names (clN.map fun x => (x, 0))).map (·.1)))
    (hcl : ∀ x c, (x, c) ∈ cl → scope.names.lookup x ≠ some .cell ∧ ∃ o v₀, C.W.K.lookup c = some o ∧ o.data = .cell v₀ ∧ ∀ v, k0.lookup x = some v → ∃ u, v₀ = some u ∧ ∀ h, VR h v u)
    (hclN : cl.map (·.1) = clN) (hap : cl.Pairwise fun x y => x.2 ≠ y.2) (hk0 : ∀ x v, k0.lookup x = some v → x ∈ clN)
    (hnd : ((cellsFrom 0 scope.names (clN.map fun x => (x, 0))).map (·.1)).Nodup)
    (h : ∀ L s₁, FR ⟨C.W, C.A.deeper (fnEnv qual scope cl f cdv L), fnEnv qual scope cl f cdv L, true⟩ (Rp R C.env s.heap) ⟨bm (fnEnv qual scope cl f cdv L).kindOf (ns.zip vals) [], bk (fnEnv qual scope cl f cdv L).kindOf (ns.zip vals) k0, fs.σ⟩ s₁ → TK s.heap s₁.heap → (∀ a o, s.heap.get? a = some o → C.W.base.get? a = none → ¬ own (fnEnv qual scope cl f cdv L) a) →
      _root_.PySem.wpAt (Mo C) (C.A.deeper (fnEnv qual scope cl f cdv L)) (.func body (fnEnv qual scope cl f cdv L)) (execs body (fnEnv qual scope cl f cdv L)) (fun fl s' => Rr (.ok (.ret (match fl with | .ret v => v | _ => .none))) s')
        (fun e s' => wpAny (Mo C) (C.A.deeper (fnEnv qual scope cl f cdv L)) (leaving (fnEnv qual scope cl f cdv L) e) (fun zz s'' => Rr (.error e) s'') (fun e' s'' => Rr (.error e') s'') s') s₁)
    (hco : scope.isCoroutine = false := by rfl) (hgen : scope.isGenerator = false := by rfl) (hk : scope.kind = .function := by rfl) : codeAny (Mo C) C.A (.call (.ref f) ⟨xs, []⟩) Rr s := by
  have hl := l.length
  have hnlim : s.heap.NoLimit := C.W.nolimit.keeps F.keepBase
  refine codeAny_call_function hroom (F.k _ _ hK) rfl hco hgen rfl (codeRec_of F.k hcd) ?_
  rw [hbind xs (by rw [hl, hlen])]
  refine wpAny_pure ?_
  simp only [newFunctionEnv, Option.isSome_none, Bool.false_eq_true, if_false]
  refine wpAny_bind (wpAny_alloc ?_)
  refine wpAny_bind (wpAny_layCells _ (fun name kind cells => by cases hkc : kind == NameKind.cell <;> simp) _ _ _ _ ?_)
  rw [show ({ s with heap := s.heap.push { cls := .type "frame", data := .dict #[] } } : Shared).heap.objs.size = s.heap.objs.size + 1 from Heap.size_push ..]
  have clAt : ∀ x c, (x, c) ∈ cl → ∃ o v₀, C.W.base.get? c = some o ∧ o.data = .cell v₀ ∧ ∀ v, k0.lookup x = some v → ∃ u, v₀ = some u ∧ ∀ h, VR h v u := fun x c m => by
    obtain ⟨zz, o, v₀, e1, e2, e3⟩ := hcl x c m
    exact ⟨o, v₀, C.W.kin _ _ e1, e2, e3⟩
  have clLt : ∀ x c, (x, c) ∈ cl → c < s.heap.objs.size + 1 := fun x c m => by
    obtain ⟨o, v₀, e1, zz⟩ := clAt x c m
    exact Nat.lt_succ_of_lt (Heap.lt_size (F.keepBase c o e1))
  have ok := cellsFrom_at scope.names (s.heap.push { cls := .type "frame", data := .dict #[] }) cl (s.heap.objs.size + 1) (by rw [Heap.size_push]; exact Nat.le_refl _)
    (fun x c m => .inr (clLt x c m)) hap (fun x c m => by rw [Heap.size_push]; exact clLt x c m)
  rw [Heap.size_push] at ok
  have ka : KeepAll s.heap (pushCells (s.heap.push { cls := .type "frame", data := .dict #[] }) scope.names) := fun b o e => pushCells_keeps _ _ b o (Heap.get?_push_of_some _ e)
  have nmE : (cellsFrom (s.heap.objs.size + 1) scope.names cl).map (·.1) = (cellsFrom 0 scope.names (clN.map fun x => (x, 0))).map (·.1) :=
    cellsFrom_names _ _ _ _ _ (by rw [← hclN]; simp [List.map_map, Function.comp_def])
  have nm : ((cellsFrom (s.heap.objs.size + 1) scope.names cl).map (·.1)).Nodup := by rw [nmE]; exact hnd
  have none_of : ∀ c, s.heap.objs.size + 1 ≤ c → s.heap.get? c = none := fun c hc => Heap.get?_none_of_le (Nat.le_of_succ_le hc)
  have F₀ := F.enter (A' := C.A.deeper (fnEnv qual scope cl f cdv s.heap.objs.size)) (env' := fnEnv qual scope cl f cdv s.heap.objs.size) (fn := true) (h₁ := pushCells (s.heap.push { cls := .type "frame", data := .dict #[] }) scope.names) (t := s.toks)
    (m' := []) (k' := k0) (mv := fun zz => none) ka (get_size _) ((Heap.Ns.new s.heap (.type "frame")).keeps (pushCells_keeps _ _)) (fun x v e => by cases e)
    (fun x c m => by
      rcases ok.1 x c m with q | q
      · obtain ⟨o, v₀, e1, e2, e3⟩ := clAt x c q.2
        exact ⟨v₀, ⟨o, ka c o (F.keepBase c o e1), e2⟩, fun v e => by obtain ⟨u, a, b⟩ := e3 v e; exact ⟨u, a, b _⟩⟩
      · refine ⟨Option.none, q.1, fun v e => ?_⟩
        have hx := hk0 x v e
        rw [← hclN] at hx
        obtain ⟨⟨y, c'⟩, m', rfl⟩ := List.mem_map.mp hx
        have := addr_of_name nm m (cellsFrom_sub _ _ _ _ m')
        have h2 := clLt _ _ m'
        rw [← this] at h2
        exact absurd q.2 (Nat.not_le.mpr h2))
    (fun x c m => by
      rcases ok.1 x c m with q | q
      · obtain ⟨o, v₀, e1, e2, e3⟩ := clAt x c q.2
        refine .inr fun z => ?_
        by_cases w : own C.env c
        · rw [rp_own w, F.keepBase c o e1] at z; cases z
        · rw [rp_not w, F.base c o e1] at z; cases z
      · exact .inl (none_of c q.2))
    (fun x c m zz hc => by
      rcases ok.1 x c m with q | q
      · exact absurd hc (hcl x c q.2).1
      · exact none_of c q.2)
    ok.2 nm
  refine wpAny_bind (bind_ok (W := C.W) (A := C.A.in1) (env := fnEnv qual scope cl f cdv s.heap.objs.size) _ (fun zz zz zz => rfl) hk ns vals xs [] k0 fs.σ _ _ F₀.reA (l.mono ka.tk) (fun x hx => ?_) fun s₁ F₁ t₁ => wpAny_pure ⟨?_, ?_⟩)
  · rcases hkind x hx with q | q
    · exact .inl q
    · exact .inr ⟨q.1, lookup_isSome_of_mem (by show x ∈ (cellsFrom (s.heap.objs.size + 1) scope.names cl).map (·.1); rw [nmE]; exact q.2)⟩
  · exact C.W.nolimit.keeps F₁.keepBase
  · refine ks_codeAny_funcAt (h s.heap.objs.size s₁ F₁.reA (ka.tk.trans t₁) fun a o ha hb hw => ?_)
    rcases hw with hw | hw
    · exact absurd (Heap.lt_size ha) (by rw [hw]; exact Nat.lt_irrefl _)
    · obtain ⟨⟨y, c⟩, hy, e⟩ := List.mem_map.mp hw
      have e : c = a := e
      subst e
      rcases ok.1 y c hy with q | q
      · obtain ⟨o', v₀, e1, zz⟩ := clAt y c q.2
        rw [hb] at e1; cases e1
      · exact absurd (Heap.lt_size ha) (Nat.not_lt.mpr (Nat.le_of_succ_le q.2))
end
end
-- RE2
noncomputable section
open PySem PySem.W PySem.Calls PyProof.Rows PySem.SeqAt
section
variable {C : Cx} {fs : FS} {R : Addr → Option Obj} {s : Shared}
inductive SupK (C : Cx) (fs : FS) (x D : Addr) : Prop
  | mk (f : Addr) (oc : Value) (od : Option Addr) (fd : FuncData) (osl : Array (Option Value)) (ar : Arg) (cda : Addr) (cc : Value) (cdd : Option Addr) (vs : Array Value) (csl : Array (Option Value)) (file : Str) (tf : Tok) (cA : Addr) (cd : ClassData)
      (a1 : C.env.func = some f) (a2 : C.W.K.lookup f = some ⟨oc, od, .func fd, osl⟩) (a3 : (fd.params.posonlyargs ++ fd.params.args).head? = some ar) (a4 : C.env.code = .ref cda) (a5 : C.W.K.lookup cda = some ⟨cc, cdd, .fields vs, csl⟩) (a6 : vs[2]? = some (.str file tf)) (a7 : ((C.W.prog.main.file : Str) == file) = true) (a8 : C.env.cells.lookup ("__class__" : Str) = some cA) (a9 : fs.m.lookup ar.arg = some (.ref x)) (a10 : C.env.kindOf ar.arg = some .local) (a11 : clsIn C.W.K D = some cd)
structure Sup (C : Cx) (fs : FS) (x D : Addr) : Prop where
  k : SupK C fs x D
  ks : C.env.kindOf "super" = some .globalImplicit
  kc : C.env.kindOf "__class__" = some .free
  cl : fs.k.lookup ("__class__" : Str) = some (.ref D)
  kf : C.env.scope.kind = .function
  g : C.env.globals = mainGlobals
  b : C.env.builtins = builtinsNs
  sn : nsIn C.W.K mainGlobals "super" = some none
  top : (C.W.prog.main.scope.names.lookup ("super" : Str)).isSome = false
theorem super_base {body : List Stmt} {p0 p1 : Pos} {attr : Str} {whole : Sem Value} {x D Cl : Addr} {ox : Obj} {Q : Value → Shared → Prop} {E : Value → Shared → Prop} (F : FR C R fs s) (U : Sup C fs x D) (hx : s.heap.get? x = some ox) (hxc : ox.cls = .ref Cl) (hnc : ∀ c, ox.data ≠ .cls c)
    (hsub : mroIn C.W.K Cl (.ref D) = some true) (hat : (attr == ("__class__" : Str)) = false)
    (h : ∀ so h', KeepAll s.heap h' → s.heap.get? so = none → h'.get? so = some (ks_superObj D x Cl) → Q (.ref so) { s with heap := h' }) :
    _root_.PySem.wpAt (Mo C) C.A (.func body C.env) (attributeBase (.Call (.Name "super" p0) [] [] p1) attr C.env whole) Q E s := by
  obtain ⟨⟨f, oc, od, fd, osl, ar, cda, cc, cdd, vs, csl, file, tf, cA, cd, a1, a2, a3, a4, a5, a6, a7, a8, a9, a10, a11⟩, ks, kc, cl, kf, g, b, sn, top⟩ := U
  have X := F.k
  obtain ⟨oD, hD1, hD2⟩ : ∃ oD, s.heap.get? D = some oD ∧ oD.data = .cls cd := by
    unfold clsIn at a11
    split at a11
    · rename_i c d cd' sl ho
      cases a11
      exact ⟨_, X _ _ ho, rfl⟩
    · cases a11
  obtain ⟨u, i, r⟩ := F.cellAt a8 cl
  simp only [VR] at r; subst r
  obtain ⟨mv, n, e⟩ := F.loc
  obtain ⟨w, e1, e2⟩ := e _ _ a9
  simp only [VR] at e2; subst e2
  refine ks_wpAt_super_base ks kc hat a1 (X _ _ a2) rfl a3 a4 (X _ _ a5) rfl a6 a7 top ?_
  refine ks_loadName_global kf ks (loadGlobal_builtin (g ▸ C.W.hg.keeps F.keepBase) (mg_none_of C.W.kin C.W.hg sn) (b ▸ C.W.hb.keeps F.keepBase) ((C.W.blt "super" (by decide)).trans (by rfl)) ⟨rfl, ?_⟩)
  refine wpAny_loadName_free kf kc a8 i ?_
  refine wpAny_loadName_local kf a10 n e1 ?_
  obtain ⟨hh, gg, d, t, os⟩ := s
  refine ks_wpAny_isType_cls hD1 hD2 ⟨rfl, ?_⟩
  exact ks_wpAny_call_super hD1 hD2 hx hxc hnc (looks_mroIn X hsub) fun h' e k => h _ h' k (get_size _) e
theorem WP.hid {α β : Type} {rel : Heap → β → α → Prop} {hid : List Addr} {tr : Sem α} {Q : β → FS → Prop} {Qf : α → Shared → Prop} {E : Value → Shared → Prop} (F : FR C R fs s) (n : ∀ a ∈ hid, R a = none ∧ ¬ own C.env a ∧ ¬ fs.σ.Live a) (l : ∀ a ∈ hid, ∃ o, s.heap.get? a = some o) (h : WP C rel tr Q fs)
    (k : ∀ a b fs' s', FR C R fs' s' → TK s.heap s'.heap → rel s'.heap b a → Q b fs' → (∀ a ∈ hid, s'.heap.get? a = s.heap.get? a) → (∀ a ∈ hid, ¬ fs'.σ.Live a) → Qf a s') : wpAny (Mo C) C.A tr Qf E s := by
  refine wpAny_mono (h _ s (F.hide n)) (fun a s' x => ?_) fun zz zz z => z.elim
  obtain ⟨b, fs', F', t, r, q⟩ := x
  have base' : ∀ b o, C.W.base.get? b = some o → R b = some o := F.base
  refine k a b fs' s' (F'.lessR (fun b o e => ?_) base') t r q (fun a ha => ?_) fun a ha z => ?_
  · by_cases x : b ∈ hid
    · rw [(n b x).1] at e; cases e
    · rw [rh_out x]; exact e
  · obtain ⟨o, ho⟩ := l a ha
    rw [F'.rk a o (by rw [rh_in ha]; exact ho), ho]
  · have := (F'.live z).2
    rw [rh_in ha] at this
    obtain ⟨o, ho⟩ := l a ha
    rw [this] at ho; cases ho
theorem super_fn {body : List Stmt} {p0 p1 ap pos spos : Pos} {attr : Str} {args : List PySem.Expr} {x D Cl f2 : Addr} {of : Obj} {ox : Obj} {hid : List Addr} {Qa : List V → FS → Prop} {Q : Flow → Shared → Prop} {E : Value → Shared → Prop} (F : FR C R fs s) (U : Sup C fs x D)
    (hx : s.heap.get? x = some ox) (hxc : ox.cls = .ref Cl) (hnc : ∀ c, ox.data ≠ .cls c) (hsub : mroIn C.W.K Cl (.ref D) = some true) (hat : (attr == ("__class__" : Str)) = false) (hm : ks_superIn C.W.K Cl D attr = some (some (.ref f2))) (hf : C.W.K.lookup f2 = some of) (hfc : of.cls = .type "function") (hfn : fnIn C.W.K f2 = true)
    (hxC : x ≠ Cl) (opq : nsIn C.W.K cStatics "thirdparty.any" = some none)
    (n : ∀ a ∈ hid, R a = none ∧ ¬ own C.env a ∧ ¬ fs.σ.Live a) (l : ∀ a ∈ hid, ∃ o, s.heap.get? a = some o)
    (h : SPL C pos args Qa fs)
    (k : ∀ s₁ vs f' xs, FR C R f' s₁ → TK s.heap s₁.heap → LR s₁.heap vs xs → Qa vs f' → (∀ a ∈ hid, s₁.heap.get? a = s.heap.get? a) → (∀ a ∈ hid, ¬ f'.σ.Live a) → codeAny (Mo C) C.A (.call (.ref f2) ⟨.ref x :: xs, []⟩) (fun r s' => match r with | .ok (.ret v) => Q .next s' | .ok _ => False | .error e => E e s') s₁)
    (hp : (backTo pos (starEach args C.env)).any (·.1) = false := by rfl) (hi : interactive C.env = false := by rfl) (hs : swapsWith (.Call (.Attribute (.Call (.Name "super" p0) [] [] p1) attr ap) args [] pos) none spos.line C.env = pure false := by rfl)
    (he : ∃ pl : Sem Bool, eval (.Call (.Attribute (.Call (.Name "super" p0) [] [] p1) attr ap) args [] pos) C.env = (do
      let ov ← attributeBase (.Call (.Name "super" p0) [] [] p1) attr C.env (eval (.Call (.Name "super" p0) [] [] p1) C.env)
      standAt ap.atName
      let (f, first) ← holding [ov] (getMethod ov attr pl)
      callWith pos f first (backTo pos (starEach args C.env)) []) := by exact ⟨_, rfl⟩) :
    _root_.PySem.wpAt (Mo C) C.A (.func body C.env) (exec (.Expr (.Call (.Attribute (.Call (.Name "super" p0) [] [] p1) attr ap) args [] pos) spos) C.env) Q E s := by
  obtain ⟨pl, he⟩ := he
  refine ks_wpAt_Expr_any (ks_wpAt_MethodCall ?_ he) hi hs
  refine super_base F U hx hxc hnc hsub hat fun so h' ka hso hso' => ?_
  cases hc : clsIn C.W.K Cl with
  | none => unfold ks_superIn at hm; rw [hc] at hm; cases hm
  | some cd =>
  unfold ks_superIn at hm
  rw [hc] at hm
  have F1 : FR C R fs { s with heap := h' } := F.keeps ka
  refine ks_wpAny_getMethod_super hso' (looks_opaque F1.k opq) (l₀ := cd.mro) ?_ rfl F1.k hm (F1.k _ _ hf) hfc hxC hat ?_
  · exact fun A Q E s k q => wpAny_bind ((looks_clsIn F1.k hc) A _ E s k (wpAny_pure q))
  have ka2 : KeepAll h' (h'.push { cls := .type "method", data := .fields #[.ref f2, .ref x] }) := KeepAll.push _ _
  have F2 : FR C R fs { s with heap := h'.push { cls := .type "method", data := .fields #[.ref f2, .ref x] }, toks := s.toks + 1 } := F1.keeps ka2
  have hq : (h'.push { cls := .type "method", data := .fields #[.ref f2, .ref x] }).get? h'.objs.size = some (methodObj (.ref f2) (.ref x)) := Heap.get?_push_at rfl rfl
  have hq0 : s.heap.get? h'.objs.size = none := by
    cases z : s.heap.get? h'.objs.size with
    | none => rfl
    | some o => have := ka _ _ z; rw [get_size] at this; cases this
  have live : ∀ a, s.heap.get? a = none → R a = none ∧ ¬ own C.env a ∧ ¬ fs.σ.Live a := fun a e => F.newHid e
  refine callWith_of (P := fun hh => MethP C.W.K h'.objs.size f2 (.ref x) hh) (by rw [hp]; rfl) (keeps_M hfn) (evalArgs_any hp ?_)
  refine WP.hid (hid := h'.objs.size :: hid) F2 (fun a ha => ?_) (fun a ha => ?_) h fun xs vs f' s₁ F' tk r q keep lv => ⟨⟨?_, F'.k⟩, ?_⟩
  · rcases List.mem_cons.mp ha with rfl | ha
    · exact live _ hq0
    · exact n a ha
  · rcases List.mem_cons.mp ha with rfl | ha
    · exact ⟨_, hq⟩
    · obtain ⟨o, ho⟩ := l a ha; exact ⟨o, ka2 _ _ (ka _ _ ho)⟩
  · rw [keep _ (by simp)]; exact hq
  · refine wpAny_call (method_call (by rw [keep _ (by simp)]; exact hq) ?_)
    refine codeAny_mono (k s₁ vs f' xs F' ((ka.trans ka2).tk.trans tk) r q (fun a ha => ?_) fun a ha => lv a (List.mem_cons_of_mem _ ha)) fun r s' z => ?_
    · obtain ⟨o, ho⟩ := l a ha
      rw [keep a (List.mem_cons_of_mem _ ha), ho]; exact ka2 _ _ (ka _ _ ho)
    · rcases r with e | (v | _ | _ | _) <;> exact z
end
end
-- RE3
noncomputable section
open PySem PySem.W PySem.Calls PyProof.Rows PySem.SeqAt
set_option maxRecDepth 100000
structure Pg (C : Cx) : Prop where
  pg : C.W.prog = PySem.Challenge.rw_nu0244_01.row.prog
theorem Pg.top {C : Cx} (G : Pg C) : (C.W.prog.main.scope.names.lookup ("super" : Str)).isSome = false := by rw [G.pg]; decide +kernel
theorem Pg.dn {C : Cx} (G : Pg C) {env : Env} : Pg (C.dn env) := ⟨G.pg⟩
theorem Pk.cls {C : Cx} {n : Nat} (P : Pk C n) {D : Addr} {cd : ClassData} (h : clsIn (hd.heap_1 C.W.w.params) D = some cd) : clsIn C.W.K D = some cd := by rw [P.K]; exact h
theorem sup165 {C : Cx} {n : Nat} (P : Pk C n) (G : Pg C) {L x : Addr} {σ : HS} {scope : Scope} {m : List (Str × V)} {cl : List (Str × Addr)} (hm : m.lookup ("self" : Str) = some (.ref x)) (h1 : scope.names.lookup ("super" : Str) = some .globalImplicit) (h2 : scope.names.lookup ("__class__" : Str) = some .free) (h3 : scope.kind = .function) (h4 : scope.names.lookup ("self" : Str) = some .local)
    (hc : (cellsFrom (L + 1) scope.names cl).lookup ("__class__" : Str) = some 153) : Sup (C.dn (fnEnv "Trimmer.__init__" scope cl 165 (.ref 164) L)) ⟨m, [("__class__", .ref 184)], σ⟩ x 184 := by
  refine ⟨⟨165, _, _, _, _, _, 164, _, _, _, _, _, _, 153, _, rfl, P.lk rfl, rfl, rfl, P.lk rfl, rfl, ?_, hc, hm, h4, P.cls rfl⟩, h1, h2, rfl, h3, rfl, rfl, P.ns rfl, G.top⟩
  show (C.W.prog.main.file == _) = true
  rw [G.pg]; decide +kernel
theorem FR.liveNeK {C : Cx} {fs : FS} {R : Addr → Option Obj} {s : Shared} (F : FR C R fs s) {a b : Addr} {o : Obj} (l : fs.σ.Live a) (h : C.W.K.lookup b = some o) : a ≠ b := fun e => by
  subst e
  have := F.base _ _ (C.W.kin _ _ h)
  rw [(F.live l).2] at this; cases this
set_option maxHeartbeats 1000000 in
theorem tinit_d {C : Cx} {n : Nat} (P : Pk C (n + 3)) (G : Pg C) {fs : FS} {x d : Addr} {Q : V → FS → Prop} (ho : fs.σ.ob x = some (184, d)) (hd : fs.σ.dm d = some (.at []))
    (h : ∀ u v τ, u.x = x → u.Cl = 184 → u.d = d → UD u → US u v τ → (∀ b, Own u b → b = x ∨ b = d ∨ fs.σ.Fresh b) → Off (inA d x) fs.σ τ → Q .none { fs with σ := τ }) : CD C (.ref 165) [.ref x] Q fs := fun R s xs F l => by
  have hroom : C.A.depth < recursionLimit := by have := P.d; have : recursionLimit = 1000 := rfl; lia
  refine call_raw (ns := ["self"]) (clN := ["__class__"]) (k0 := [("__class__", .ref 184)]) F l (P.lk rfl) (P.to (p := fun K => codeIn K _ _ = true) (by rfl)) hroom (of1 fun zz => rfl) rfl (by decide) (fun x c m => ?_) rfl (by simp) (fun x v e => ?_) (by decide) (fun L s₁ F₁ t₁ zz => ?_)
  · cases m with
    | head => exact ⟨by decide, _, _, P.lk rfl, rfl, fun v e => by cases e; exact ⟨_, rfl, fun h => by simp only [VR]⟩⟩
    | tail _ m => cases m
  · rw [List.lookup_cons] at e
    split at e
    · rename_i q; simp at q ⊢; exact q
    · cases e
  · have F₁' := F₁
    have hx := (F₁.hr.ob x 184 d ho).2
    refine ks_wpAt_execs_cons ?_
    refine super_fn (C := C.dn (fnEnv "Trimmer.__init__" _ _ 165 (.ref 164) L)) (hid := []) (Cl := 184) (D := 184) (f2 := 92) (Qa := fun vs f' => ∃ D, vs = [.ref D] ∧ fs.σ.Fresh D ∧ f' = ⟨[("self", .ref x)], [("__class__", .ref 184)], fs.σ.setLi D []⟩) F₁
      (sup165 P G (by rfl) rfl rfl rfl rfl (by rfl)) hx rfl (fun c e => by cases e) (by show mroIn C.W.K _ _ = _; rw [P.K]; rfl) (by decide) (by show ks_superIn C.W.K _ _ _ = _; rw [P.K]; rfl) (P.lk rfl) rfl (by show fnIn C.W.K _ = _; rw [P.K]; rfl) (F₁.liveNeK (.ob ho) (P.lk (a := 184) rfl)) (by show nsIn C.W.K _ _ = _; rw [P.K]; rfl) (by simp) (by simp) ?_ ?_
    · (refine spl_cons ?_; refine ev_list ?_; refine spl_nil ?_; refine ⟨by walk_at "ru len", ?_⟩)
      intro D frD
      (refine spl_nil ?_)
      exact ⟨D, rfl, frD, rfl⟩
    · rintro s₂ vs f' xs' F₂ t₂ r₂ ⟨D, rfl, frD, rfl⟩ zz zz
      have xD : D ≠ x := fun e => (frD.neOb ho) e.symm
      have dD : D ≠ d := fun e => (frD.neDm hd) e.symm
      refine codeAny_mono (init_d (C := C.dn (fnEnv "Trimmer.__init__" _ _ 165 (.ref 164) L)) (n := n) (cls := []) (fs := ⟨[("self", .ref x)], [("__class__", .ref 184)], fs.σ.setLi D []⟩) (Q := fun v f => v = .none ∧ ∃ τ, Q .none { fs with σ := τ } ∧ f.σ = τ) (P.dn _) (.inr rfl) ho hd (.inl rfl) li_same xD dD ⟨by simp, by simp⟩ (fun u v τ e1 e2 e3 U S Z e4 e5 e6 e7 => ⟨rfl, τ, ?_, rfl⟩) _ s₂ (.ref x :: xs') F₂ (.cons (by simp only [VR]) r₂)) fun r s' z => ?_
      · have le : Off (inA d x) fs.σ (fs.σ.setLi D []) := HS.Le.off (HS.Le.refl.offLi frD.li)
        refine h u v τ e1 e2 e3 U S (fun b hb => ?_) (le.trans e7)
        rcases e6 b hb with q | q | q
        · exact .inl q
        · exact .inr (.inl q)
        · exact .inr (.inr ((HS.Le.refl.offLi frD.li).fresh q))
      · rcases r with e | (v | zz | zz | zz)
        · exact False.elim z
        · exact False.elim z
        · exact False.elim z
        · exact False.elim z
        · obtain ⟨b, f3, F3, t3, r3, rfl, τ, q, e⟩ := z
          refine wpAt_of_wpAny (wpAny_execs_nil ?_)
          have tk : TK s.heap s'.heap := (t₁.trans t₂).trans t3
          refine ⟨.none, _, F.leave F3 tk, tk, by simp only [VR], ?_⟩
          rw [e]; exact q
end
-- RE4
noncomputable section
open PySem PySem.W PySem.Calls PyProof.Rows PySem.SeqAt
set_option maxRecDepth 100000
abbrev bmP : List Value := [.ref 40, .type "Exception", .type "BaseException", .type "object"]
abbrev excObj (t0 : Addr) : Obj := { cls := .ref 69, data := .fields #[.ref t0, .none, .none, .none, .bool false, .none] }
section
variable {prog : Program} {w : World} {A : Around} {E : Value → Shared → Prop} {h : Heap} {g : Array GenState} {d : Drawn} {t : Nat} {os : OsState}
variable {nm q : Str} {N : Addr} {bs : List Value} {hdct : Bool} {sn : List Str} {sub : List Value} {ab : Bool} {col : Option Bool} {dd : Option Addr} {k0 k1 k2 k3 k5 : Option Value}
theorem exn_check_new {M : Model} {rest : List Value} {Q : Unit → Shared → Prop} (hC : h.get? 69 = some (excClassObj nm q 69 N bs bmP hdct sn sub ab col dd k0 k1 k2 k3 k5 "Exception.__new__"))
    (hq : Q () ⟨h, g, d, t, os⟩) : wpAny M A (checkBuiltinCall "Exception.__new__" ⟨.ref 69 :: rest, []⟩) Q E ⟨h, g, d, t, os⟩ := by
  have F := PySem.F.excBase_Exception
  have hcont : (Value.ref 69 :: bmP).contains (.type "Exception") = true := by decide +kernel
  have hstar := F.noStar
  simp only [checkBuiltinCall, F.newKind, F.newSplit, F.newRow]
  repeat (first | refine wpAny_loadPart_at hC ?_ | (refine wpAny_isSubtype_exc hC ?_; rw [hcont]) | refine wpAny_staticBase_exc hC ?_ | refine wpAny_madeBy_exc hC ?_ | simp only [bne_self_eq_false, Bool.false_eq_true, if_false] | wp_step)
  exact hq
theorem exn_new {R : Result → Shared → Prop} {rest : List Value} (hC : h.get? 69 = some (excClassObj nm q 69 N bs bmP hdct sn sub ab col dd k0 k1 k2 k3 k5 "Exception.__new__"))
    (hq : R (.ok (.ret (.ref (h.objs.size + 1)))) ⟨(h.push { cls := .type "tuple", data := .seq rest.toArray }).push (excObj h.objs.size), g, d, t, os⟩) (hrest : rest.length ≤ sizeLine) :
    codeAny (model prog w) A (.builtin "Exception.__new__" ⟨.ref 69 :: rest, []⟩) R ⟨h, g, d, t, os⟩ := by
  have F := PySem.F.excBase_Exception
  have hends := F.ends
  have hcB : (Value.ref 69 :: bmP).contains (.type "Exception") = true := by decide +kernel
  have hcA : (Value.ref 69 :: bmP).contains (.type "AttributeError") = false := by decide +kernel
  have hcN : (Value.ref 69 :: bmP).contains (.type "NameError") = false := by decide +kernel
  refine codeAny_builtinAt F.entry ?_
  unfold Builtin.«BaseException.__new__»
  refine _root_.PySem.wpAt_bind ?_
  show _root_.PySem.wpAt _ _ _ (stack >>= _) _ _ _
  refine _root_.PySem.wpAt_bind (_root_.PySem.wpAt_stack fun p below => _root_.PySem.wpAt_of_wpAny ?_)
  wp_walk
  refine _root_.PySem.wpAt_of_wpAny ?_
  rw [F.owner]
  repeat (first | with_reducible refine wpAny_madeHere_exc F.canon hC ?_ | with_reducible refine wpAny_loadPart_at hC ?_ | (with_reducible refine wpAny_isSubtype_exc hC ?_; first | rw [hcB] | rw [hcA] | rw [hcN]) | wp_step)
  show R _ _
  rw [Heap.size_push]
  exact hq
theorem exn_typecall {K : Frag} {rest : List Value} {fI : Addr} {Q : Fin → Shared → Prop} (X : K.In h) (hi : findIn K (.ref 69) "__init__" = some (some (.ref fI))) (hf : typeIn K (.ref fI) = some (.type "function"))
    (hC : h.get? 69 = some (excClassObj nm q 69 N bs bmP hdct sn sub ab col dd k0 k1 k2 k3 k5 "Exception.__new__"))
    (hq : ∀ h' e t0, KeepAll h h' → h.get? e = none → h'.get? e = some (excObj t0) →
      wpAny (model prog w) A (call (.ref fI) (.ref e :: rest)) (fun r s' => r = .none ∧ Q (.done (.ret (.ref e))) s') E ⟨h', g, d, t, os⟩) (hrest : rest.length ≤ sizeLine) :
    wpAny (model prog w) A (Builtin.«type.__call__» ⟨.ref 69 :: rest, []⟩) Q E ⟨h, g, d, t, os⟩ := by
  have F := PySem.F.excBase_Exception
  repeat (first | with_reducible refine wpAny_loadPart_at hC ?_ | with_reducible refine wpAny_madeBy_exc hC ?_ | wp_step)
  refine codeAny_call_builtin_code (Code.quiet_builtin _ F.quiet) (exn_check_new hC ?_)
  refine exn_new hC ?_ hrest
  show wpAny _ _ _ _ _ _
  have ka : KeepAll h ((h.push { cls := .type "tuple", data := .seq rest.toArray }).push (excObj h.objs.size)) := (KeepAll.push _ _).trans (KeepAll.push _ _)
  have hC₁ := ka _ _ hC
  have X₁ : K.In ((h.push { cls := .type "tuple", data := .seq rest.toArray }).push (excObj h.objs.size)) := X.keeps ka
  have hget : ((h.push { cls := .type "tuple", data := .seq rest.toArray }).push (excObj h.objs.size)).get? (h.objs.size + 1) = some (excObj h.objs.size) := by heap_get
  have hcC : (Value.ref 69 :: bmP).contains (.ref 69) = true := by decide +kernel
  unfold isInstance
  repeat (first | with_reducible refine wpAny_loadPart_at hget ?_ | (with_reducible refine wpAny_isSubtype_exc hC₁ ?_; rw [hcC]) | wp_step)
  show wpAny _ _ (typeLookup (.ref 69) _) _ _ _
  refine (looks_findIn X₁ hi).at ?_
  refine wpAny_holding (wpAny_bind ((bind_fn X₁ (.ref (h.objs.size + 1)) hf).at ?_))
  refine wpAny_bind (wpAny_mono (hq _ (h.objs.size + 1) h.objs.size ka (Heap.get?_none_of_le (Nat.le_succ _)) hget) (fun r s' hr => ?_) fun zz zz x => x)
  obtain ⟨rfl, hQ⟩ := hr
  wp_walk
  exact hQ
theorem exn_call {K : Frag} {rest : List Value} {fI : Addr} {Q : Value → Shared → Prop} (X : K.In h) (hi : findIn K (.ref 69) "__init__" = some (some (.ref fI))) (hf : typeIn K (.ref fI) = some (.type "function"))
    (hC : h.get? 69 = some (excClassObj nm q 69 N bs bmP hdct sn sub ab col dd k0 k1 k2 k3 k5 "Exception.__new__"))
    (hq : ∀ h' e t0, KeepAll h h' → h.get? e = none → h'.get? e = some (excObj t0) →
      wpAny (model prog w) (A.under (.builtin "type.__call__" ⟨.ref 69 :: rest, []⟩)) (call (.ref fI) (.ref e :: rest)) (fun r s' => r = .none ∧ Q (.ref e) s') E ⟨h', g, d, t, os⟩) (hrest : rest.length ≤ sizeLine) :
    wpAny (model prog w) A (call (.ref 69) rest) Q E ⟨h, g, d, t, os⟩ := by
  have f1 := tc_lookup
  have f2 := tc_bind (.ref 69)
  have hT : (⟨h, g, d, t, os⟩ : Shared).TypeIs (.ref 69) "type" := ⟨_, hC, rfl⟩
  refine wpAny_call (codeAny_of_tree ?_)
  show wpAny _ _ (callAny (.ref 69) _) _ _ _
  repeat (any_goals (first | assumption | with_reducible refine wpAny_loadPart_at hC ?_ | wp_step))
  refine ⟨rfl, ?_⟩
  refine codeAny_call_builtin_at (Code.quiet_builtin _ (by decide +kernel)) entry_typeCall (wpAny_check_type_call_sub hC (exn_typecall X hi hf hC (fun h' e t0 a b c => ?_) hrest))
  exact hq h' e t0 a b c
end
end
-- RE5
noncomputable section
open PySem PySem.W PySem.Calls PyProof.Rows PySem.SeqAt
set_option maxRecDepth 100000
abbrev wrapObj (x : Addr) : Obj := { cls := .type "method-wrapper", data := .fields #[.builtin "Exception.__init__", .ref x] }
theorem slot_wd_get : Slot "wrapper_descriptor" "__get__" "wrapper_descriptor.__get__" := .of (owner := "wrapper_descriptor") (n := "__get__") (by rw [typeLookup_type, builtinLookup_eq_fast]; kernel_rfl) (by decide +kernel) (by decide +kernel) (by decide +kernel)
  (by first | exact .inl (by decide +kernel) | exact .inr (by decide +kernel)) (by rw [isSubtype_type]; kernel_rfl)
theorem entry_wd_get : entryFor table "wrapper_descriptor.__get__" = some Builtin.«wrapper_descriptor.__get__» := entryFor_of_tree (by kernel_rfl)
theorem args_wd_get (a b c : Value) : argsOk "wrapper_descriptor.__get__" ⟨[a, b, c], []⟩ := by unfold argsOk; kernel_rfl
theorem typeOf_exinit : typeOf (.builtin "Exception.__init__") = pure (.type "wrapper_descriptor") := by show builtinType _ = _; rw [builtinType_eq_fast]; kernel_rfl
theorem own_ex : (".".intercalate ("Exception.__init__".cutAt '.').dropLast) = "Exception" := by
  have e0 : "Exception.__init__".cutAt '.' = ["Exception", "__init__"] := by first | rfl | decide +kernel
  rw [e0]; decide +kernel
section
variable {prog : Program} {w : World} {A : Around} {E : Value → Shared → Prop} {h : Heap} {g : Array GenState} {d : Drawn} {t : Nat} {os : OsState}
variable {nm q : Str} {N : Addr} {bs : List Value} {hdct : Bool} {sn : List Str} {sub : List Value} {ab : Bool} {col : Option Bool} {dd : Option Addr} {k0 k1 k2 k3 k5 : Option Value}
set_option maxHeartbeats 2000000 in
theorem exn_super_ga {so D x : Addr} {ox : Obj} {l₀ l : List Value} {K : Frag} {tk : Tok} {Q : Fin → Shared → Prop}
    (hso : h.get? so = some (ks_superObj D x 69)) (hno : Looks (model prog w) h (opaqueClassAbove (.ref 69)) none)
    (hM : Looks (model prog w) h (mroOf (.ref 69)) l₀) (hl : (l₀.dropWhile (· != .ref D)).drop 1 = l) (X : K.In h)
    (hf : alongIn K "__init__" l = some (some (.builtin "Exception.__init__"))) (hx : h.get? x = some ox) (hxc : ox.cls = .ref 69)
    (hC : h.get? 69 = some (excClassObj nm q 69 N bs bmP hdct sn sub ab col dd k0 k1 k2 k3 k5 "Exception.__new__")) (hx69 : x ≠ 69)
    (hq : Q (.done (.ret (.ref h.objs.size))) ⟨h.push (wrapObj x), g, d, t, os⟩) :
    wpAny (model prog w) A (Builtin.«super.__getattribute__» ⟨[.ref so, .str "__init__" tk], []⟩) Q E ⟨h, g, d, t, os⟩ := by
  have hlk := slot_wd_get.lookup
  have hne : (Value.ref x == Value.ref 69) = false := by simp [hx69]
  have hT : (⟨h, g, d, t, os⟩ : Shared).TypeIs (.builtin "Exception.__init__") "wrapper_descriptor" := typeOf_exinit
  have hdt : (ks_superObj D x 69).data = .fields #[.ref D, .ref x, .ref 69] := rfl
  have f0 : (#[.ref D, .ref x, .ref 69] : Array Value)[0]? = some (.ref D) := rfl
  have f1 : (#[.ref D, .ref x, .ref 69] : Array Value)[1]? = some (.ref x) := rfl
  have f2 : (#[.ref D, .ref x, .ref 69] : Array Value)[2]? = some (.ref 69) := rfl
  have hn : (("__init__" : Str) == ("__class__" : Str)) = false := by decide
  have hcE : (Value.ref 69 :: bmP).contains (.type "Exception") = true := by decide +kernel
  unfold Builtin.«super.__getattribute__»
  repeat (first
    | (with_reducible refine wpAny_field hso hdt f0 ?_) | (with_reducible refine wpAny_field hso hdt f1 ?_) | (with_reducible refine wpAny_field hso hdt f2 ?_)
    | (with_reducible refine ks_wpAny_notOpaque hno ?_)
    | (with_reducible refine Looks.at hM ?_; rw [hl])
    | (refine ks_forIn_along X (fun zz zz => rfl) rfl ?_ hf)
    | (with_reducible refine wpAny_typeOf hT ?_)
    | (with_reducible refine wpAny_call_entry slot_wd_get hT entry_wd_get ?_ (args_wd_get _ _ _))
    | (with_reducible refine wpAny_loadPart_at hx ?_; rw [hxc])
    | (with_reducible refine wpAny_isSubtype_exc hC ?_; rw [own_ex, hcE])
    | (with_reducible refine ⟨_, rfl, ?_⟩)
    | (simp only [hn, hne, Bool.or_false, Bool.false_eq_true, if_false])
    | wp_step
    | dsimp only)
  all_goals exact hq
theorem exn_super_get {so D x : Addr} {ox : Obj} {l₀ l : List Value} {K : Frag} {pl : Sem Bool} {Q : Value × List Value → Shared → Prop}
    (hso : h.get? so = some (ks_superObj D x 69)) (hno : Looks (model prog w) h (opaqueClassAbove (.ref 69)) none)
    (hM : Looks (model prog w) h (mroOf (.ref 69)) l₀) (hl : (l₀.dropWhile (· != .ref D)).drop 1 = l) (X : K.In h)
    (hf : alongIn K "__init__" l = some (some (.builtin "Exception.__init__"))) (hx : h.get? x = some ox) (hxc : ox.cls = .ref 69)
    (hC : h.get? 69 = some (excClassObj nm q 69 N bs bmP hdct sn sub ab col dd k0 k1 k2 k3 k5 "Exception.__new__")) (hx69 : x ≠ 69)
    (hq : Q (.ref h.objs.size, []) ⟨h.push (wrapObj x), g, d, t + 1, os⟩) :
    wpAny (model prog w) A (getMethod (.ref so) "__init__" pl) Q E ⟨h, g, d, t, os⟩ := by
  have hlk := PySem.F.ks_slot_super_ga.lookup
  have hcan := PySem.F.ks_canon_super_ga
  have hT : ∀ t', (⟨h, g, d, t', os⟩ : Shared).TypeIs (.ref so) "super" := fun zz => ⟨_, hso, rfl⟩
  unfold getMethod
  refine wpAny_bind (wpAny_specialOf (hT _) hlk ?_)
  show wpAny _ _ (if (Manifest.canonical "super.__getattribute__" != "object.__getattribute__") = true then _ else _) _ _ _
  rw [if_pos hcan]
  unfold getAttr getAttrBy
  refine wpAny_bind (wpAny_bind (wpAny_mkText (wpAny_holding (wpAny_bind (wpAny_typeOf (hT _) (wpAny_bind (wpAny_of_eq hlk ?_)))))))
  show wpAny _ _ (getAttrByItsOwn (.ref so) (.str "__init__" t) (.type "super") (.builtin "super.__getattribute__") true false) _ _ _
  unfold getAttrByItsOwn hookBefore callGetattribute boundAndCalled
  refine wpAny_bind (wpAny_of_eq (show (if onTheHeap (.type "super") then typeLookup (.type "super") "__getattr__" else pure none) = pure none from rfl) ?_)
  refine wpAny_bind (wpAny_attempt (wpAny_holding ?_))
  show wpAny _ _ (bindSpecial (.builtin "super.__getattribute__") (.ref so) >>= _) _ _ _
  refine wpAny_bind (wpAny_of_eq (PySem.F.ks_slot_super_ga.bind _) ?_)
  refine wpAny_mono (Q := fun v s' => v = .ref h.objs.size ∧ s' = ⟨h.push (wrapObj x), g, d, t + 1, os⟩) (E := fun zz zz => False)
    (wpAny_call_entry PySem.F.ks_slot_super_ga (hT _) PySem.F.ks_entry_super_ga (exn_super_ga hso hno hM hl X hf hx hxc hC hx69 ⟨_, rfl, rfl, rfl⟩) (PySem.F.ks_gaArgs_super _ _)) (fun v s' hv => ?_) fun zz zz z => z.elim
  obtain ⟨rfl, rfl⟩ := hv
  exact wpAny_pure (wpAny_pure hq)
theorem exn_wrap_looks {M : Model} {x q : Addr} (hq : h.get? q = some (wrapObj x)) : Looks M h (keeperOf (.ref q)) .machine := (Looks.ld (part := none) hq).andThen .now
theorem exn_checkBound {M : Model} {x : Addr} {ox : Obj} {vs : List Value} {Q : Unit → Shared → Prop} (hC : h.get? 69 = some (excClassObj nm q 69 N bs bmP hdct sn sub ab col dd k0 k1 k2 k3 k5 "Exception.__new__")) (hx : h.get? x = some ox) (hxc : ox.cls = .ref 69)
    (hq : Q () ⟨h, g, d, t, os⟩) : wpAny M A (checkBoundCall "Exception.__init__" ⟨.ref x :: vs, []⟩) Q E ⟨h, g, d, t, os⟩ := by
  have F := PySem.F.excBase_Exception
  have hshort := F.noStar
  have hk : (Manifest.AttrKind.slot != Manifest.AttrKind.method && Manifest.AttrKind.slot != Manifest.AttrKind.classMethod) = true := by decide
  simp only [checkBoundCall, F.initRow, F.initKind, hk, if_true]
  repeat (first | (with_reducible refine wpAny_loadPart_at hx ?_; rw [hxc]) | with_reducible refine wpAny_loadPart_at hC ?_ | wp_step)
  refine wpAny_onRaise ?_
  rw [show ∀ (a b : String) (n : Nat), Bind.check ⟨.positional, "*", "Exception", .self, [⟨"args", .varPos, false⟩]⟩ a b n (List.map (fun x => x.fst) ({ pos := Value.ref x :: vs } : Args).kw) = pure () from
    fun a b n => check_star_args _ _ _ _ _ _]
  exact wpAny_pure hq
theorem exn_wrap_call {x q0 t0 : Addr} {d0 : Option Addr} {sl0 : Array (Option Value)} {vs : List Value} {Q : Value → Shared → Prop}
    (hC : h.get? 69 = some (excClassObj nm q 69 N bs bmP hdct sn sub ab col dd k0 k1 k2 k3 k5 "Exception.__new__")) (hq : h.get? q0 = some (wrapObj x)) (hx : h.get? x = some ⟨.ref 69, d0, .fields #[.ref t0, .none, .none, .none, .bool false, .none], sl0⟩)
    (k : ∀ h' t1, (∀ b o, b ≠ x → h.get? b = some o → h'.get? b = some o) → h'.get? x = some ⟨.ref 69, d0, .fields #[.ref t1, .none, .none, .none, .bool false, .none], sl0⟩ → Q .none ⟨h', g, d, t, os⟩) (hz : vs.length ≤ sizeLine) :
    wpAny (model prog w) A (call (.ref q0) vs) Q E ⟨h, g, d, t, os⟩ := by
  have F := PySem.F.excBase_Exception
  refine wpAny_call (codeAny_of_tree ?_)
  show wpAny _ _ (callAny (.ref q0) _) _ _ _
  unfold callAny
  refine wpAny_bind (wpAny_load hq ?_)
  show wpAny _ _ (do checkBoundCall "Exception.__init__" ⟨.ref x :: vs, []⟩; again (.builtin "Exception.__init__" ⟨.ref x :: vs, []⟩)) _ _ _
  refine wpAny_bind (exn_checkBound hC hx rfl ?_)
  refine wpAny_pure ⟨Code.quiet_builtin _ (by decide +kernel), codeAny_builtin F.initEntry ?_⟩
  unfold Builtin.«BaseException.__init__»
  wp_walk
  have hx1 := Heap.get?_push_of_some { cls := .type "tuple", data := .seq vs.toArray } hx
  refine k _ h.objs.size (fun b o hb e => (Heap.get?_update_other _ _ (Ne.symm hb)).trans (Heap.get?_push_of_some _ e)) ?_
  exact Heap.get?_update_self _ hx1 rfl
end
end
-- RE6
noncomputable section
open PySem PySem.W PySem.Calls PyProof.Rows PySem.SeqAt
open PySem.Builtin PySem.Builtin.ObjectAttr
set_option maxRecDepth 100000
section
variable {prog : Program} {w : World} {A : Around} {E : Value → Shared → Prop} {s : Shared} {K : Frag}
structure XK (K : Frag) : Prop where
  sa : findIn K (.ref 69) "__setattr__" = some (some (.builtin "object.__setattr__"))
  cd : ∃ cd, clsIn K 69 = some cd ∧ cd.mro = .ref 69 :: bmP ∧ cd.hasDict = true
  ob : mroIn K 69 (.type "object") = some true
theorem exc_setattr {e : Addr} {ox : Obj} {od : Option Obj} {name : Str} {v : Value} {Q : Unit → Shared → Prop} (X : K.In s.heap) (XX : XK K) (I : InstAt s.heap e ox 69 od) (ht : takerIn K 69 name = some none)
    (h : ∀ b, wpAny (model prog w) A.in1 (storeInOwnDict (.ref e) (.ref 69) (.str name s.toks) name v b)
      (fun fin s' => match fin with | .done (.ret _) => Q () s' | _ => False) (fun x s' => E x s') { s with toks := s.toks + 1 }) :
    wpAny (model prog w) A (setAttr (.ref e) name v) Q E s := by
  have SF := PySem.F.store_object
  obtain ⟨cd, hc, hm0, hdct⟩ := XX.cd
  refine set_plain X I XX.sa ?_
  have X' : K.In ({ s with toks := s.toks + 1 } : Shared).heap := X
  have sub : Looks (model prog w) ({ s with toks := s.toks + 1 } : Shared).heap (isInstance (.ref e) (.type "object")) true := I.type.andThen (looks_mroIn X XX.ob)
  refine codeAny_call_builtin SF.slot.plain SF.entry (@check_slot (model prog w) _ _ _ "object.__setattr__" "object" "__setattr__" (.ref e) [.str name s.toks, v] [] _ SF.kind SF.split sub (SF.args (.ref e) (.str name s.toks) v) ?_)
  obtain ⟨attr, ha, hr⟩ := Option.bind_eq_some_iff.mp ht
  have hm : Looks (model prog w) s.heap (mroOf (.ref 69)) cd.mro := (looks_clsIn X hc).andThen .now
  have L3 : Looks (model prog w) s.heap (storeTaker? attr) none := by
    cases attr with
    | none => exact .now
    | some a =>
      obtain ⟨b, hb, q⟩ := Option.map_eq_some_iff.mp hr
      cases b with
      | true => cases q
      | false => exact (looks_takesIn X hb).andThen .now
  rw [osa_eq, refuse_eq]
  refine wpAny_bind (wpAny_bind (I.type.here (s := { s with toks := s.toks + 1 }) (wpAny_bind (hm.here (s := { s with toks := s.toks + 1 }) ?_))))
  rw [hm0, refuseLoop_ref, refuseLoop_ref, PySem.F.store_Exception.passes]
  refine wpAny_pure (wpAny_bind (I.type.here (s := { s with toks := s.toks + 1 }) (wpAny_bind ((looks_findIn X ha).here (s := { s with toks := s.toks + 1 }) (wpAny_bind (L3.here (s := { s with toks := s.toks + 1 }) ?_))))))
  refine wpAny_mono (h _) (fun fin s' z => ?_) fun zz zz z => z
  rcases fin with (zz | zz | zz | v) | zz
  · exact z.elim
  · exact z.elim
  · exact z.elim
  · exact z
  · exact z.elim
theorem exc_store_new {e : Addr} {fl : Array Value} {sl : Array (Option Value)} {name : Str} {v : Value} {Q : Unit → Shared → Prop} (X : K.In s.heap) (XX : XK K) (hx : s.heap.get? e = some ⟨.ref 69, none, .fields fl, sl⟩) (ht : takerIn K 69 name = some none)
    (k : ∀ h' dx, KeepBut e s.heap h' → s.heap.get? dx = none → dx ≠ e → h'.get? e = some ⟨.ref 69, some dx, .fields fl, sl⟩ → h'.Ns1 dx (fun y => if y = name then some v else none) → Q () { s with heap := h', toks := s.toks + 2 }) :
    wpAny (model prog w) A (setAttr (.ref e) name v) Q E s := by
  obtain ⟨cd, hc, hm0, hdct⟩ := XX.cd
  refine exc_setattr X XX (od := none) ⟨hx, rfl, rfl, trivial⟩ ht fun b => ?_
  obtain ⟨h, g, d, t, os⟩ := s
  refine wpAny_bind (wpAny_pure (wpAny_bind (wpAny_bind (wpAny_loadPart (s := ⟨h, g, d, t + 1, os⟩) hx (wpAny_bind (Looks.here (s := ⟨h, g, d, t + 1, os⟩) (looks_clsIn X hc) ?_))))))
  rw [hdct]
  have hx₁ : (h.push { cls := .type "dict", data := .dict #[] }).get? e = some ⟨.ref 69, none, .fields fl, sl⟩ := Heap.get?_push_of_some _ hx
  have hxs : e ≠ h.objs.size := Nat.ne_of_lt (Heap.lt_size hx)
  show wpAny _ _ (do let d ← alloc { cls := .type "dict", data := .dict #[] }; update e fun o => { o with dict := some d }; pure (some d)) _ _ _
  refine wpAny_bind (wpAny_alloc' ?_)
  refine wpAny_bind (wpAny_update' hx₁ ?_)
  refine wpAny_pure ?_
  have hgd : ((h.push { cls := .type "dict", data := .dict #[] }).update e fun o => { o with dict := some h.objs.size }).get? h.objs.size
      = some { cls := .type "dict", data := .dict #[] } := (Heap.get?_update_ne _ _ _ _ hxs.symm).trans (Heap.get?_push_at rfl rfl)
  have hnd : ((h.push { cls := .type "dict", data := .dict #[] }).update e fun o => { o with dict := some h.objs.size }).Ns h.objs.size (fun zz => none) :=
    ⟨_, #[], _, hgd, rfl, fun e he => absurd he (by simp), fun zz => rfl⟩
  show wpAny _ _ (storeInDict h.objs.size (.str name t) name v) _ _ _
  unfold storeInDict newKeyGuard
  refine wpAny_bind (wpAny_pure (wpAny_bind (wpAny_nsSet1 (Heap.Ns1.of_empty hnd) fun h' hn' hs => ?_)))
  obtain ⟨oD, esD, epD, hoD, hdD, hcD⟩ := hn'.count (Within.cons name v Within.nil)
  refine wpAny_bind (wpAny_lookBehind hoD (by rw [hdD]; exact pastItsLine_dict (Nat.le_trans hcD (by rw [List.length_cons, List.length_nil, sizeLine_eq]; lia))) ?_)
  refine wpAny_pure (k h' h.objs.size (fun b o hb hbo => ?_) (get_size _) hxs.symm ?_ hn')
  · exact (hs.2 b (Nat.ne_of_lt (Heap.lt_size hbo))).trans ((Heap.get?_update_ne _ _ _ _ hb).trans (Heap.get?_push_of_some _ hbo))
  · exact (hs.2 e hxs).trans (Heap.get?_update_self _ hx₁ rfl)
theorem exc_store_old {e dx : Addr} {fl : Array Value} {sl : Array (Option Value)} {name : Str} {v : Value} {mA : Str → Option Value} {ns : List Str} {Q : Unit → Shared → Prop} (X : K.In s.heap) (XX : XK K) (hx : s.heap.get? e = some ⟨.ref 69, some dx, .fields fl, sl⟩) (ht : takerIn K 69 name = some none)
    (hns : s.heap.Ns1 dx mA) (hw : Within mA ns) (hsz : ns.length ≤ 100) (hde : dx ≠ e)
    (k : ∀ h', KeepBut dx s.heap h' → h'.Ns1 dx (fun y => if y = name then some v else mA y) → Q () { s with heap := h', toks := s.toks + 2 }) :
    wpAny (model prog w) A (setAttr (.ref e) name v) Q E s := by
  obtain ⟨cd, hc, hm0, hdct⟩ := XX.cd
  obtain ⟨od, eso, epo, hod, zz⟩ := id hns
  refine exc_setattr X XX (od := some od) ⟨hx, rfl, rfl, hod⟩ ht fun b => ?_
  obtain ⟨h, g, d, t, os⟩ := s
  refine wpAny_bind (wpAny_pure (wpAny_bind (wpAny_bind (wpAny_loadPart (s := ⟨h, g, d, t + 1, os⟩) hx (wpAny_bind (Looks.here (s := ⟨h, g, d, t + 1, os⟩) (looks_clsIn X hc) ?_))))))
  rw [hdct]
  show wpAny _ _ (pure (some dx)) _ _ _
  refine wpAny_pure ?_
  show wpAny _ _ (storeInDict dx (.str name t) name v) _ _ _
  unfold storeInDict newKeyGuard
  refine wpAny_bind (wpAny_pure (wpAny_bind (wpAny_nsSet1 hns fun h' hn' hs => ?_)))
  obtain ⟨oD, esD, epD, hoD, hdD, hcD⟩ := hn'.count (Within.cons name v hw)
  refine wpAny_bind (wpAny_lookBehind hoD (by rw [hdD]; exact pastItsLine_dict (Nat.le_trans hcD (by rw [List.length_cons, sizeLine_eq]; lia))) ?_)
  exact wpAny_pure (k h' (fun b o hb hbo => (hs.2 b hb).trans hbo) hn')
end
end
-- RE7
noncomputable section
open PySem PySem.W PySem.Calls PyProof.Rows PySem.SeqAt
open PySem.Builtin PySem.Builtin.ObjectAttr
set_option maxRecDepth 100000
section
variable {prog : Program} {w : World} {A : Around} {E : Value → Shared → Prop} {K : Frag} {h : Heap} {g : Array GenState} {d : Drawn} {t : Nat} {os : OsState}
variable {nm q : Str} {N : Addr} {bs : List Value} {hdct : Bool} {sn : List Str} {sub : List Value} {ab : Bool} {col : Option Bool} {dd : Option Addr} {k0 k1 k2 k3 k5 : Option Value}
theorem exc_check_ga {M : Model} {e : Addr} {ox : Obj} {nameV : Value} {Q : Unit → Shared → Prop} (hC : h.get? 69 = some (excClassObj nm q 69 N bs bmP hdct sn sub ab col dd k0 k1 k2 k3 k5 "Exception.__new__"))
    (hx : h.get? e = some ox) (hxc : ox.cls = .ref 69) (hq : Q () ⟨h, g, d, t, os⟩) : wpAny M A (checkBuiltinCall "BaseException.__getattribute__" ⟨[.ref e, nameV], []⟩) Q E ⟨h, g, d, t, os⟩ := by
  have hk : builtinKind "BaseException.__getattribute__" = some .slot := by decide +kernel
  have hsplit : splitId "BaseException.__getattribute__" = some ("BaseException", "__getattribute__") := by decide +kernel
  have hcB : (Value.ref 69 :: bmP).contains (.type "BaseException") = true := by decide +kernel
  have ha := PySem.F.args_bexc_ga (.ref e) nameV
  simp only [checkBuiltinCall, hk, hsplit]
  refine wpAny_bind ?_
  · unfold isInstance
    repeat (first | (with_reducible refine wpAny_loadPart_at hx ?_; rw [hxc]) | (with_reducible refine wpAny_isSubtype_exc hC ?_; rw [hcB]) | wp_step)
    exact hq
theorem exc_get {e : Addr} {ox : Obj} {od : Option Obj} {name : Str} {v : Value} {expr : Bool} {Q : Value → Shared → Prop} (X : K.In h) (I : InstAt h e ox 69 od)
    (hga : findIn K (.ref 69) "__getattribute__" = some (some (.builtin "BaseException.__getattribute__"))) (hgn : findIn K (.ref 69) "__getattr__" = some none)
    (hC : h.get? 69 = some (excClassObj nm q 69 N bs bmP hdct sn sub ab col dd k0 k1 k2 k3 k5 "Exception.__new__"))
    (hf : findObj K 69 od name = some (.value v)) (hh : handedIn v = true) (hq : Q v ⟨h, g, d, t + 1, os⟩) : wpAny (model prog w) A (getAttr (.ref e) name expr) Q E ⟨h, g, d, t, os⟩ := by
  have FA := PySem.F.attr_Exception
  have L0 := I.type (M := model prog w)
  have L1 := looks_findIn (M := model prog w) X hga
  have L2 := looks_findIn (M := model prog w) X hgn
  have L3 := looks_find (M := model prog w) X I hf
  have hx := I.at_
  have hxc := I.cls
  have hne : (onTheHeap (Value.ref 69) && Value.builtin "BaseException.__getattribute__" == Value.builtin "object.__getattribute__") = false := by decide +kernel
  have hx0 : (expr && onTheHeap (Value.builtin "BaseException.__getattribute__")) = false := by cases expr <;> rfl
  unfold getAttr getAttrBy
  refine wpAny_bind (wpAny_mkText (wpAny_holding (wpAny_bind (L0.at (wpAny_bind (L1.at ?_))))))
  dsimp only
  rw [hne]
  show wpAny _ _ (getAttrByItsOwn (.ref e) (.str name t) (.ref 69) (.builtin "BaseException.__getattribute__") true expr) _ _ _
  unfold getAttrByItsOwn hookBefore callGetattribute boundAndCalled
  refine wpAny_bind ?_
  show wpAny _ _ (typeLookup (.ref 69) "__getattr__") _ _ _
  refine L2.at ?_
  refine wpAny_bind (wpAny_attempt (wpAny_holding ?_))
  rw [hx0]
  show wpAny _ _ (bindSpecial (.builtin "BaseException.__getattribute__") (.ref e) >>= _) _ _ _
  refine wpAny_bind (wpAny_of_eq (FA.ga.bind _) ?_)
  show wpAny _ _ (call (.builtin "BaseException.__getattribute__") [.ref e, .str name t]) _ _ _
  refine wpAny_mono (Q := fun a s' => a = v ∧ s' = ⟨h, g, d, t + 1, os⟩) (E := fun zz zz => False) (wpAny_call (codeAny_call_builtin FA.ga.plain PySem.F.entry_bexc_ga (exc_check_ga hC hx hxc ?_))) (fun a s' z => ?_) fun zz zz z => z.elim
  · show wpAny _ _ (do let tp ← typeOf (.ref e); match ← find (.ref e) tp name with
      | .value v => ret v
      | .bind g a => bindTo g a (.ref e) tp
      | .missing => _) _ _ _
    refine wpAny_bind (L0.at (wpAny_bind (L3.at ?_)))
    exact wpAny_pure ⟨rfl, rfl⟩
  · obtain ⟨rfl, rfl⟩ := z
    show wpAny _ _ (handedOut a) _ _ _
    rw [handedOut_of hh]; exact wpAny_pure hq
end
end
-- RE8
noncomputable section
open PySem PySem.W PySem.Calls PyProof.Rows PySem.SeqAt
set_option maxRecDepth 100000
abbrev exObj (t0 : Addr) (d0 : Option Addr) : Obj := ⟨.ref 69, d0, .fields #[.ref t0, .none, .none, .none, .bool false, .none], #[]⟩
section
variable {C : Cx} {fs : FS} {R : Addr → Option Obj} {s : Shared}
variable {nm qn : Str} {N : Addr} {bs : List Value} {hdct : Bool} {sn : List Str} {sub : List Value} {ab : Bool} {col : Option Bool} {dd : Option Addr} {k0 k1 k2 k3 k5 : Option Value}
theorem super_bi {body : List Stmt} {p0 p1 ap pos spos : Pos} {args : List PySem.Expr} {x D t0 : Addr} {d0 : Option Addr} {hid : List Addr} {Qa : List V → FS → Prop} {Q : Flow → Shared → Prop} {E : Value → Shared → Prop} (F : FR C R fs s) (U : Sup C fs x D)
    (hx : s.heap.get? x = some (exObj t0 d0)) (hsub : mroIn C.W.K 69 (.ref D) = some true) (hm : ks_superIn C.W.K 69 D "__init__" = some (some (.builtin "Exception.__init__")))
    (hC : C.W.K.lookup 69 = some (excClassObj nm qn 69 N bs bmP hdct sn sub ab col dd k0 k1 k2 k3 k5 "Exception.__new__")) (opq : nsIn C.W.K cStatics "thirdparty.any" = some none)
    (n : R x = none ∧ ¬ own C.env x ∧ ¬ fs.σ.Live x) (hx69 : x ≠ 69)
    (h : SPL C pos args Qa fs) (hz : ∀ vs f, Qa vs f → vs.length ≤ 1000)
    (k : ∀ s₁ vs f' t1, FR C R f' s₁ → TK s.heap s₁.heap → Qa vs f' → ¬ f'.σ.Live x → s₁.heap.get? x = some (exObj t1 d0) → Q .next s₁)
    (hp : (backTo pos (starEach args C.env)).any (·.1) = false := by rfl) (hi : interactive C.env = false := by rfl) (hs : swapsWith (.Call (.Attribute (.Call (.Name "super" p0) [] [] p1) "__init__" ap) args [] pos) none spos.line C.env = pure false := by rfl)
    (he : ∃ pl : Sem Bool, eval (.Call (.Attribute (.Call (.Name "super" p0) [] [] p1) "__init__" ap) args [] pos) C.env = (do
      let ov ← attributeBase (.Call (.Name "super" p0) [] [] p1) "__init__" C.env (eval (.Call (.Name "super" p0) [] [] p1) C.env)
      standAt ap.atName
      let (f, first) ← holding [ov] (getMethod ov "__init__" pl)
      callWith pos f first (backTo pos (starEach args C.env)) []) := by exact ⟨_, rfl⟩) :
    _root_.PySem.wpAt (Mo C) C.A (.func body C.env) (exec (.Expr (.Call (.Attribute (.Call (.Name "super" p0) [] [] p1) "__init__" ap) args [] pos) spos) C.env) Q E s := by
  obtain ⟨pl, he⟩ := he
  refine ks_wpAt_Expr_any (ks_wpAt_MethodCall ?_ he) hi hs
  refine super_base F U hx rfl (fun c e => by cases e) hsub (by decide) fun so h' ka hso hso' => ?_
  cases hc : clsIn C.W.K 69 with
  | none => unfold ks_superIn at hm; rw [hc] at hm; cases hm
  | some cd =>
  unfold ks_superIn at hm
  rw [hc] at hm
  have F1 : FR C R fs { s with heap := h' } := F.keeps ka
  refine exn_super_get hso' (looks_opaque F1.k opq) (l₀ := cd.mro) ?_ rfl F1.k hm (ka _ _ hx) rfl (F1.k _ _ hC) hx69 ?_
  · exact fun A Q E s k q => wpAny_bind ((looks_clsIn F1.k hc) A _ E s k (wpAny_pure q))
  have ka2 : KeepAll h' (h'.push (wrapObj x)) := KeepAll.push _ _
  have F2 : FR C R fs { s with heap := h'.push (wrapObj x), toks := s.toks + 1 } := F1.keeps ka2
  have hq : (h'.push (wrapObj x)).get? h'.objs.size = some (wrapObj x) := Heap.get?_push_at rfl rfl
  have hq0 : s.heap.get? h'.objs.size = none := by
    cases z : s.heap.get? h'.objs.size with
    | none => rfl
    | some o => have := ka _ _ z; rw [get_size] at this; cases this
  have hx2 : (h'.push (wrapObj x)).get? x = some (exObj t0 d0) := ka2 _ _ (ka _ _ hx)
  refine callWith_of (P := fun hh => hh.get? h'.objs.size = some (wrapObj x)) (by rw [hp]; rfl) (fun hh X => ⟨.machine, .inr (.inl rfl), exn_wrap_looks X⟩) (evalArgs_any hp ?_)
  refine WP.hid (hid := [h'.objs.size, x]) F2 (fun a ha => ?_) (fun a ha => ?_) h fun xs vs f' s₁ F' tk r q keep lv => ⟨?_, ?_⟩
  · rcases List.mem_cons.mp ha with rfl | ha
    · exact F.newHid hq0
    · rw [List.mem_singleton.mp ha]; exact n
  · rcases List.mem_cons.mp ha with rfl | ha
    · exact ⟨_, hq⟩
    · rw [List.mem_singleton.mp ha]; exact ⟨_, hx2⟩
  · rw [keep _ (by simp)]; exact hq
  · have e1 : s₁.heap.get? x = some (exObj t0 d0) := by rw [keep _ (by simp)]; exact hx2
    obtain ⟨hh, g, d, t, os⟩ := s₁
    refine exn_wrap_call (F'.k _ _ hC) (by rw [keep _ (by simp)]; exact hq) e1 (fun h2 t1 kb e2 => ?_) (by show xs.length ≤ _; rw [r.length]; exact sz (hz _ _ q))
    obtain ⟨F3, t3⟩ := F'.off (hid := [x]) (h' := h2) (t := t) (fun a ha => by rw [List.mem_singleton.mp ha]; exact ⟨n.1, n.2.1, lv x (by simp)⟩) (fun a ha => by rw [List.mem_singleton.mp ha]; exact noTup_cls e1 (by simp)) (fun b o hb e => kb b o (fun q => hb (by simp [q])) e)
    exact k _ vs f' t1 F3 (((ka.trans ka2).tk.trans tk).trans t3) q (lv x (by simp)) e2
end
theorem xk (ps : _) : XK (hd.heap_1 ps) := ⟨by rfl, ⟨_, rfl, rfl, rfl⟩, by rfl⟩
theorem Pk.xk {C : Cx} {n : Nat} (P : Pk C n) : XK C.W.K := by rw [P.K]; exact Rup.xk _
theorem Rp_none {C : Cx} {R : Addr → Option Obj} {h : Heap} {a : Addr} (h1 : R a = none) (h2 : ¬ own C.env a) : Rp R C.env h a = none := (rp_not h2).trans h1
theorem FR.rpInv {C : Cx} {fs : FS} {R : Addr → Option Obj} {s : Shared} (F : FR C R fs s) {a : Addr} (h : Rp R C.env s.heap a = none) : R a = none ∧ ¬ own C.env a := by
  by_cases w : own C.env a
  · obtain ⟨o, ho, zz⟩ := F.ownAt w
    rw [rp_own w, ho] at h; cases h
  · rw [rp_not w] at h; exact ⟨h, w⟩
set_option maxHeartbeats 1000000 in
theorem fe_init {C : Cx} {n : Nat} (P : Pk C (n + 2)) (G : Pg C) {fs : FS} {R : Addr → Option Obj} {s : Shared} {xs : List Value} {Rr : Result → Shared → Prop} {e t0 : Addr} {w : Str} (F : FR C R fs s) (l : LR s.heap [.ref e, .str w] xs)
    (hx : s.heap.get? e = some (exObj t0 none)) (ne : R e = none ∧ ¬ own C.env e ∧ ¬ fs.σ.Live e)
    (k : ∀ s' t1 dx u, FR C R fs s' → TK s.heap s'.heap → s'.heap.get? e = some (exObj t1 (some dx)) → dx ≠ e → s'.heap.Ns1 dx (fun y => if y = "what" then some u else none) → (R dx = none ∧ ¬ own C.env dx ∧ ¬ fs.σ.Live dx) → Rr (.ok (.ret .none)) s') : codeAny (Mo C) C.A (.call (.ref 30) ⟨xs, []⟩) Rr s := by
  have hroom : C.A.depth < recursionLimit := by have := P.d; have : recursionLimit = 1000 := rfl; lia
  have hb : C.W.base.get? e = none := by
    cases z : C.W.base.get? e with
    | none => rfl
    | some o => have := F.base _ _ z; rw [ne.1] at this; cases this
  have F0 := F.hide (hid := [e]) (fun a ha => by rw [List.mem_singleton.mp ha]; exact ne)
  refine call_raw (ns := ["self", "what"]) (clN := ["__class__"]) (k0 := [("__class__", .ref 40)]) F0 l (P.lk rfl) (P.to (p := fun K => codeIn K _ _ = true) (by rfl)) hroom (of2 fun zz zz => rfl) rfl (by decide) (fun x c m => ?_) rfl (by simp) (fun x v e => ?_) (by decide) (fun L s₁ F₁ t₁ no₁ => ?_)
  · cases m with
    | head => exact ⟨by decide, _, _, P.lk rfl, rfl, fun v e => by cases e; exact ⟨_, rfl, fun h => by simp only [VR]⟩⟩
    | tail _ m => cases m
  · rw [List.lookup_cons] at e
    split at e
    · rename_i q; simp at q ⊢; exact q
    · cases e
  · have hx1 : s₁.heap.get? e = some (exObj t0 none) := F₁.rk e _ (by rw [rp_not ne.2.1, rh_in (by simp)]; exact hx)
    have F₂ : FR _ (Rp R C.env s.heap) _ s₁ := F₁.lessR (R' := Rp R C.env s.heap) (fun b o q => by
      by_cases w : own C.env b
      · rw [rp_own w] at q ⊢; exact q
      · rw [rp_not w] at q ⊢
        by_cases z : b ∈ [e]
        · rw [List.mem_singleton.mp z, ne.1] at q; cases q
        · rw [rh_out z]; exact q) (fun b o q => by
      by_cases w : own C.env b
      · rw [rp_own w]; exact F.keepBase b o q
      · rw [rp_not w]; exact F.base b o q)
    have no := no₁ e _ hx hb
    refine ks_wpAt_execs_cons ?_
    refine super_bi (C := C.dn (fnEnv "FinderError.__init__" _ _ 30 (.ref 29) L)) (hid := []) (D := 40) (Qa := fun vs f' => vs = [.str w] ∧ f' = ⟨[("what", .str w), ("self", .ref e)], [("__class__", .ref 40)], fs.σ⟩) F₂
      ⟨⟨30, _, _, _, _, _, 29, _, _, _, _, _, _, 18, _, rfl, P.lk rfl, rfl, rfl, P.lk rfl, rfl, by show (C.W.prog.main.file == _) = true; rw [G.pg]; decide +kernel, rfl, rfl, rfl, P.cls rfl⟩, rfl, rfl, rfl, rfl, rfl, rfl, P.ns rfl, G.top⟩
      hx1 (by show mroIn C.W.K _ _ = _; rw [P.K]; rfl) (by show ks_superIn C.W.K _ _ _ = _; rw [P.K]; rfl) (P.lk rfl) (by show nsIn C.W.K _ _ = _; rw [P.K]; rfl) ⟨Rp_none ne.1 ne.2.1, no, ne.2.2⟩ (fun q => ?_) ?_ (fun vs f q => by rw [q.1]; simp) ?_
    · have := C.W.kin _ _ (P.lk (a := 69) rfl)
      rw [q, this] at hb; cases hb
    · (refine spl_cons ?_; refine ev_loc (by eq_refl) ?_; refine spl_nil ?_)
      exact ⟨rfl, rfl⟩
    · rintro s₂ vs f' t1 F₃ t₃ ⟨rfl, rfl⟩ lv hx2
      refine ks_wpAt_execs_cons ?_
      refine ks_wpAt_Assign_Attr (wpAt_of_wpAny ?_)
      refine WP.hid (C := C.dn (fnEnv "FinderError.__init__" _ _ 30 (.ref 29) L)) (rel := VR) (hid := [e]) F₃ (fun a ha => by rw [List.mem_singleton.mp ha]; exact ⟨Rp_none ne.1 ne.2.1, no, lv⟩) (fun a ha => by rw [List.mem_singleton.mp ha]; exact ⟨_, hx2⟩)
        (ev_loc (Q := fun v f => v = .str w ∧ f = ⟨[("what", .str w), ("self", .ref e)], [("__class__", .ref 40)], fs.σ⟩) (by rfl) ⟨rfl, rfl⟩) fun va v4 f4 s4 F4 t4 r4 q4 keep4 lv4 => ?_
      obtain ⟨rfl, rfl⟩ := q4
      have hx4 : s4.heap.get? e = some (exObj t1 none) := by rw [keep4 e (by simp)]; exact hx2
      refine WP.hid (C := C.dn (fnEnv "FinderError.__init__" _ _ 30 (.ref 29) L)) (rel := VR) (hid := [e]) F4 (fun a ha => by rw [List.mem_singleton.mp ha]; exact ⟨Rp_none ne.1 ne.2.1, no, lv4 e (by simp)⟩) (fun a ha => by rw [List.mem_singleton.mp ha]; exact ⟨_, hx4⟩)
        (ev_loc (Q := fun v f => v = .ref e ∧ f = ⟨[("what", .str w), ("self", .ref e)], [("__class__", .ref 40)], fs.σ⟩) (by rfl) ⟨rfl, rfl⟩) fun vb v5 f5 s5 F5 t5 r5 q5 keep5 lv5 => ?_
      obtain ⟨rfl, rfl⟩ := q5
      simp only [VR] at r5; subst r5
      have hx5 : s5.heap.get? e = some (exObj t1 none) := by rw [keep5 e (by simp)]; exact hx4
      refine exc_store_new (K := C.W.K) F5.k P.xk hx5 (by rw [P.K]; rfl) fun h6 dx kb hn6 hde hx6 ns6 => ?_
      obtain ⟨F6, t6⟩ := F5.off (hid := [e]) (h' := h6) (t := s5.toks + 2) (fun a ha => by rw [List.mem_singleton.mp ha]; exact ⟨Rp_none ne.1 ne.2.1, no, lv5 e (by simp)⟩) (fun a ha => by rw [List.mem_singleton.mp ha]; exact noTup_cls hx5 (by simp)) (fun b o hb q => kb b o (fun z => hb (by simp [z])) q)
      refine wpAt_of_wpAny (wpAny_execs_nil ?_)
      have tk := ((((t₁.trans t₃).trans t4).trans t5).trans t6)
      have nd := F5.newHid hn6
      obtain ⟨nd1, nd2⟩ := F.rpInv nd.1
      have F7 := F.leave F6 tk
      exact k _ t1 dx va F7 tk hx6 hde ns6 ⟨nd1, nd2, nd.2.2⟩
end
-- RE9
noncomputable section
open PySem PySem.W PySem.Calls PyProof.Rows PySem.SeqAt
set_option maxRecDepth 100000
theorem within_one {x : Str} {u : Value} : Within (fun y => if y = x then some u else none) [x] := fun y h => by
  by_cases q : y = x
  · simp [q]
  · simp [q] at h
set_option maxHeartbeats 2000000 in
theorem pf_init {C : Cx} {n : Nat} (P : Pk C (n + 3)) (G : Pg C) {fs : FS} {R : Addr → Option Obj} {s : Shared} {xs : List Value} {Rr : Result → Shared → Prop} {e t0 : Addr} {w : Str} {j : Int} (F : FR C R fs s) (l : LR s.heap [.ref e, .str w, .int j] xs)
    (hx : s.heap.get? e = some (exObj t0 none)) (ne : R e = none ∧ ¬ own C.env e ∧ ¬ fs.σ.Live e)
    (k : ∀ s' t1 dx mv tj, FR C R fs s' → TK s.heap s'.heap → s'.heap.get? e = some (exObj t1 (some dx)) → dx ≠ e → s'.heap.Ns1 dx mv → mv "step" = some (.int j tj) → (R dx = none ∧ ¬ own C.env dx ∧ ¬ fs.σ.Live dx) → Rr (.ok (.ret .none)) s') : codeAny (Mo C) C.A (.call (.ref 59) ⟨xs, []⟩) Rr s := by
  have hroom : C.A.depth < recursionLimit := by have := P.d; have : recursionLimit = 1000 := rfl; lia
  have hb : C.W.base.get? e = none := by
    cases z : C.W.base.get? e with
    | none => rfl
    | some o => have := F.base _ _ z; rw [ne.1] at this; cases this
  have F0 := F.hide (hid := [e]) (fun a ha => by rw [List.mem_singleton.mp ha]; exact ne)
  refine call_raw (ns := ["self", "what", "step"]) (clN := ["__class__"]) (k0 := [("__class__", .ref 69)]) F0 l (P.lk rfl) (P.to (p := fun K => codeIn K _ _ = true) (by rfl)) hroom (of3 fun zz zz zz => rfl) rfl (by decide) (fun x c m => ?_) rfl (by simp) (fun x v e => ?_) (by decide) (fun L s₁ F₁ t₁ no₁ => ?_)
  · cases m with
    | head => exact ⟨by decide, _, _, P.lk rfl, rfl, fun v e => by cases e; exact ⟨_, rfl, fun h => by simp only [VR]⟩⟩
    | tail _ m => cases m
  · rw [List.lookup_cons] at e
    split at e
    · rename_i q; simp at q ⊢; exact q
    · cases e
  · have hx1 : s₁.heap.get? e = some (exObj t0 none) := F₁.rk e _ (by rw [rp_not ne.2.1, rh_in (by simp)]; exact hx)
    have F₂ : FR _ (Rp R C.env s.heap) _ s₁ := F₁.lessR (R' := Rp R C.env s.heap) (fun b o q => by
      by_cases w : own C.env b
      · rw [rp_own w] at q ⊢; exact q
      · rw [rp_not w] at q ⊢
        by_cases z : b ∈ [e]
        · rw [List.mem_singleton.mp z, ne.1] at q; cases q
        · rw [rh_out z]; exact q) (fun b o q => by
      by_cases w : own C.env b
      · rw [rp_own w]; exact F.keepBase b o q
      · rw [rp_not w]; exact F.base b o q)
    have no := no₁ e _ hx hb
    have ne' : Rp R C.env s.heap e = none := Rp_none ne.1 ne.2.1
    refine ks_wpAt_execs_cons ?_
    refine super_fn (C := C.dn (fnEnv "ProofFault.__init__" _ _ 59 (.ref 58) L)) (hid := [e]) (Cl := 69) (D := 69) (f2 := 30) (Qa := fun vs f' => vs = [.str w] ∧ f' = ⟨[("step", .int j), ("what", .str w), ("self", .ref e)], [("__class__", .ref 69)], fs.σ⟩) F₂
      ⟨⟨59, _, _, _, _, _, 58, _, _, _, _, _, _, 47, _, rfl, P.lk rfl, rfl, rfl, P.lk rfl, rfl, by show (C.W.prog.main.file == _) = true; rw [G.pg]; decide +kernel, rfl, rfl, rfl, P.cls rfl⟩, rfl, rfl, rfl, rfl, rfl, rfl, P.ns rfl, G.top⟩
      hx1 rfl (fun c e => by cases e) (by show mroIn C.W.K _ _ = _; rw [P.K]; rfl) (by decide) (by show ks_superIn C.W.K _ _ _ = _; rw [P.K]; rfl) (P.lk rfl) rfl (by show fnIn C.W.K _ = _; rw [P.K]; rfl) (fun q => ?_) (by show nsIn C.W.K _ _ = _; rw [P.K]; rfl)
      (fun a ha => by rw [List.mem_singleton.mp ha]; exact ⟨ne', no, ne.2.2⟩) (fun a ha => by rw [List.mem_singleton.mp ha]; exact ⟨_, hx1⟩) ?_ ?_
    · have := C.W.kin _ _ (P.lk (a := 69) rfl)
      rw [q, this] at hb; cases hb
    · (refine spl_cons ?_; refine ev_loc (by eq_refl) ?_; refine spl_nil ?_)
      exact ⟨rfl, rfl⟩
    · rintro s₂ vs f' xs' F₃ t₃ r₃ ⟨rfl, rfl⟩ keep3 lv3
      have hx3 : s₂.heap.get? e = some (exObj t0 none) := by rw [keep3 e (by simp)]; exact hx1
      refine fe_init (C := C.dn (fnEnv "ProofFault.__init__" _ _ 59 (.ref 58) L)) (n := n) (w := w) (P.dn _) G.dn F₃ (.cons (by simp only [VR]) r₃) hx3 ⟨ne', no, lv3 e (by simp)⟩ fun s3 t1 dx u F4 t4 hx4 hde ns4 nd4 => ?_
      refine ks_wpAt_execs_cons ?_
      refine ks_wpAt_Assign_Attr (wpAt_of_wpAny ?_)
      obtain ⟨oD, esD, epD, hoD, hnsD⟩ := id ns4
      refine WP.hid (C := C.dn (fnEnv "ProofFault.__init__" _ _ 59 (.ref 58) L)) (rel := VR) (hid := [e, dx]) F4 (fun a ha => ?_) (fun a ha => ?_)
        (ev_loc (Q := fun v f => v = .int j ∧ f = ⟨[("step", .int j), ("what", .str w), ("self", .ref e)], [("__class__", .ref 69)], fs.σ⟩) (by rfl) ⟨rfl, rfl⟩) fun va v5 f5 s5 F5 t5 r5 q5 keep5 lv5 => ?_
      · rcases List.mem_cons.mp ha with rfl | ha
        · exact ⟨ne', no, lv3 a (by simp)⟩
        · rw [List.mem_singleton.mp ha]; exact nd4
      · rcases List.mem_cons.mp ha with rfl | ha
        · exact ⟨_, hx4⟩
        · rw [List.mem_singleton.mp ha]; exact ⟨_, hoD⟩
      obtain ⟨rfl, rfl⟩ := q5
      have hx5 : s5.heap.get? e = some (exObj t1 (some dx)) := by rw [keep5 e (by simp)]; exact hx4
      have hd5 : s5.heap.get? dx = some oD := by rw [keep5 dx (by simp)]; exact hoD
      refine WP.hid (C := C.dn (fnEnv "ProofFault.__init__" _ _ 59 (.ref 58) L)) (rel := VR) (hid := [e, dx]) F5 (fun a ha => ?_) (fun a ha => ?_)
        (ev_loc (Q := fun v f => v = .ref e ∧ f = ⟨[("step", .int j), ("what", .str w), ("self", .ref e)], [("__class__", .ref 69)], fs.σ⟩) (by rfl) ⟨rfl, rfl⟩) fun vb v6 f6 s6 F6 t6 r6 q6 keep6 lv6 => ?_
      · rcases List.mem_cons.mp ha with rfl | ha
        · exact ⟨ne', no, lv5 a (by simp)⟩
        · rw [List.mem_singleton.mp ha]; exact ⟨nd4.1, nd4.2.1, lv5 dx (by simp)⟩
      · rcases List.mem_cons.mp ha with rfl | ha
        · exact ⟨_, hx5⟩
        · rw [List.mem_singleton.mp ha]; exact ⟨_, hd5⟩
      obtain ⟨rfl, rfl⟩ := q6
      simp only [VR] at r6; subst r6
      have hx6 : s6.heap.get? e = some (exObj t1 (some dx)) := by rw [keep6 e (by simp)]; exact hx5
      have hd6 : s6.heap.get? dx = some oD := by rw [keep6 dx (by simp)]; exact hd5
      have ns6 : s6.heap.Ns1 dx (fun y => if y = "what" then some u else none) := ⟨oD, esD, epD, hd6, hnsD⟩
      refine exc_store_old (K := C.W.K) F6.k P.xk hx6 (by rw [P.K]; rfl) ns6 within_one (by decide) hde fun h7 kb ns7 => ?_
      have hn6 : NoTup s6.heap dx := noTup_dict hd6 hnsD.1
      obtain ⟨F7, t7⟩ := F6.off (hid := [dx]) (h' := h7) (t := s6.toks + 2) (fun a ha => by rw [List.mem_singleton.mp ha]; exact ⟨nd4.1, nd4.2.1, lv6 dx (by simp)⟩) (fun a ha => by rw [List.mem_singleton.mp ha]; exact hn6) (fun b o hb q => kb b o (fun z => hb (by simp [z])) q)
      refine wpAt_of_wpAny (wpAny_execs_nil ?_)
      have tk := ((((((t₁.trans t₃).trans t4).trans t5).trans t6)).trans t7)
      have F8 := F.leave F7 tk
      obtain ⟨nd1, nd2⟩ := F.rpInv nd4.1
      simp only [VR] at r5; obtain ⟨tj, rfl⟩ := r5
      exact k _ t1 dx _ tj F8 tk (kb e _ hde.symm hx6) hde ns7 (by simp) ⟨nd1, nd2, nd4.2.2⟩
end
-- RE10
noncomputable section
open PySem PySem.W PySem.Calls PyProof.Rows PySem.SeqAt
set_option maxRecDepth 100000
section
variable {prog : Program} {w : World} {A : Around} {E : Value → Shared → Prop} {env : Env}
variable {nm q : Str} {N : Addr} {bs : List Value} {hdct : Bool} {sn : List Str} {sub : List Value} {ab : Bool} {col : Option Bool} {dd : Option Addr} {k0 k1 k2 k3 k5 : Option Value}
inductive C69 (h : Heap) : Prop | mk (nm q : Str) (N : Addr) (bs : List Value) (hdct : Bool) (sn : List Str) (sub : List Value) (ab : Bool) (col : Option Bool) (dd : Option Addr) (k0 k1 k2 k3 k5 : Option Value) (hC : h.get? 69 = some (excClassObj nm q 69 N bs bmP hdct sn sub ab col dd k0 k1 k2 k3 k5 "Exception.__new__"))
theorem exc_raiseStmt {M : Model} {s : Shared} {x : Sem Value} {Q : Flow → Shared → Prop} (hh : A.handled = none)
    (h : wpAny M A x (fun v s₁ => ∃ e t1 dx, v = .ref e ∧ C69 s₁.heap ∧
      s₁.heap.get? e = some (exObj t1 (some dx)) ∧ E (.ref e) s₁) E s) : wpAny M A (raiseStmt env (some x) none) Q E s := by
  have hcB : (Value.ref 69 :: bmP).contains (.type "BaseException") = true := by decide +kernel
  unfold raiseStmt
  refine wpAny_bind (wpAny_mono h (fun v s₁ h₁ => ?_) fun zz zz x => x)
  obtain ⟨e, t1, dx, rfl, ⟨nm, q, N, bs, hdct, sn, sub, ab, col, dd, k0, k1, k2, k3, k5, hC⟩, he, hE⟩ := h₁
  obtain ⟨hp, g, d, tk, os⟩ := s₁
  repeat (first | with_reducible refine wpAny_loadPart_at he ?_ | with_reducible refine wpAny_loadPart_at hC ?_ | (with_reducible refine wpAny_isSubtype_exc hC ?_; rw [hcB]) | wp_step)
  exact wpAny_raiseNew_none hh hE
end
theorem FR.c69 {C : Cx} {n : Nat} (P : Pk C n) {fs : FS} {R : Addr → Option Obj} {s : Shared} (F : FR C R fs s) : C69 s.heap := ⟨_, _, _, _, _, _, _, _, _, _, _, _, _, _, _, F.k _ _ (P.lk rfl)⟩
structure XE (C : Cx) (R : Addr → Option Obj) (fs : FS) (e dx t1 : Addr) (j : Int) (s : Shared) : Prop where
  at' : s.heap.get? e = some (exObj t1 (some dx))
  ne : R e = none ∧ ¬ own C.env e ∧ ¬ fs.σ.Live e
  nd : R dx = none ∧ ¬ own C.env dx ∧ ¬ fs.σ.Live dx
  de : dx ≠ e
  ns : ∃ mv tj, s.heap.Ns1 dx mv ∧ mv "step" = some (.int j tj)
set_option maxHeartbeats 1000000 in
theorem exn_made {C : Cx} {n : Nat} (P : Pk C (n + 4)) (G : Pg C) {fs : FS} {R : Addr → Option Obj} {s : Shared} {xs : List Value} {w : Str} {j : Int} {Q : Value → Shared → Prop} {E : Value → Shared → Prop} (F : FR C R fs s) (l : LR s.heap [.str w, .int j] xs)
    (k : ∀ s' e dx t1, FR C R fs s' → TK s.heap s'.heap → XE C R fs e dx t1 j s' → Q (.ref e) s') : wpAny (Mo C) C.A (call (.ref 69) xs) Q E s := by
  obtain ⟨h, g, d, t, os⟩ := s
  refine exn_call (K := C.W.K) (fI := 59) F.k (by rw [P.K]; rfl) (by rw [P.K]; rfl) (F.k _ _ (P.lk rfl)) (fun h' e t0 ka hn he => ?_) (by rw [l.length]; exact sz (by simp))
  have F1 : FR C R fs ⟨h', g, d, t, os⟩ := F.keeps (t := t) ka
  have F1' : FR (C.under (.builtin "type.__call__" ⟨.ref 69 :: xs, []⟩)) R fs ⟨h', g, d, t, os⟩ := F1.reA
  refine wpAny_call (pf_init (C := C.under (.builtin "type.__call__" ⟨.ref 69 :: xs, []⟩)) (n := n) (w := w) (j := j) (P.under) ⟨G.pg⟩ F1' (.cons (by simp only [VR]) (l.mono ka.tk)) he (F.newHid hn) fun s' t1 dx mv tj F2 t2 he2 hde ns hst nd => ?_)
  refine ⟨rfl, k s' e dx t1 F2.reA (ka.tk.trans t2) ⟨he2, F.newHid hn, nd, hde, mv, tj, ns, hst⟩⟩
set_option maxHeartbeats 1000000 in
theorem raise_pf {C : Cx} {n : Nat} (P : Pk C (n + 4)) (G : Pg C) {fs : FS} {R : Addr → Option Obj} {s : Shared} {x : Str} {np cpos pos : Pos} {args : List PySem.Expr} {w : Str} {j : Int} {Q : Flow → Shared → Prop} {E : Value → Shared → Prop} (F : FR C R fs s)
    (hx : nsIn C.W.K mainGlobals x = some (some (.ref 69))) (kp : keepIn C.W.K (.ref 69) = true) (ha : SPL C cpos args (fun vs f => vs = [.str w, .int j] ∧ f = fs) fs)
    (k : ∀ s' e dx t1, FR C R fs s' → TK s.heap s'.heap → XE C R fs e dx t1 j s' → E (.ref e) s')
    (hk : C.env.scope.kind = .function := by rfl) (hxk : C.env.kindOf x = some .globalImplicit := by rfl) (hG : C.env.globals = mainGlobals := by rfl) (hd : (x == ("__debug__" : Str)) = false := by decide)
    (hp : (backTo cpos (starEach args C.env)).any (·.1) = false := by rfl) :
    wpAny (Mo C) C.A (exec (.Raise (some (.Call (.Name x np) args [] cpos)) none pos) C.env) Q E s := by
  rw [arm_exec_Raise]
  refine wpAny_bind (wpAny_standAt (exc_raiseStmt P.h (wpAny_bind (wpAny_mono (wpAny_Call_ofName ?_) (fun v s₃ h₃ => wpAny_bind (wpAny_standAt (wpAny_pure h₃))) fun zz zz x => x))))
  refine wpAny_mono (ev_glob (v := .ref 69) (a := .ref 69) (Q := fun v f => v = .ref 69 ∧ f = fs) hx (fun h => by simp only [VR]) ⟨rfl, rfl⟩ hk hxk hG hd R s F) (fun f s₁ z => ?_) fun zz zz z => z.elim
  obtain ⟨b, f1, F1, t1, r1, rfl, rfl⟩ := z
  simp only [VR] at r1; subst r1
  refine callWith_V (.inr (.inr kp)) hp (wpAny_mono (ha R s₁ F1) (fun xs s₂ z => ?_) fun zz zz z => z.elim)
  obtain ⟨vs, f2, F2, t2, r2, rfl, rfl⟩ := z
  refine ⟨F2.k, exn_made P G F2 r2 fun s₃ e dx t1' F3 t3 X3 => ?_⟩
  exact ⟨e, t1', dx, rfl, F3.c69 P, X3.at', k s₃ e dx t1' F3 ((t1.trans t2).trans t3) X3⟩
end
-- RE11
noncomputable section
open PySem PySem.W PySem.Calls PyProof.Rows PySem.SeqAt
set_option maxRecDepth 100000
def TbAt (B h : Heap) (e : Addr) (vs : Array Value) (fl : Value) : Prop := ∃ T oT ts, vs[1]? = some (.ref T) ∧ B.get? T = none ∧ T ≠ e ∧ h.get? T = some oT ∧ oT.data = .fields ts ∧ ts[3]? = some fl
def EXC (B : Heap) (l : List Env) (e d : Addr) (fl : Option Value) (h : Heap) : Prop :=
  B.StaysIn h ∧ B.get? e = none ∧ h.FunFrames B l ∧ ∃ oe vs, h.get? e = some oe ∧ oe.cls = .ref 69 ∧ oe.dict = some d ∧ oe.data = .fields vs ∧ (match fl with | none => vs[1]? = some .none | some f => TbAt B h e vs f)
section
variable {M : Model} {A : Around} {E : Value → Shared → Prop} {s : Shared}
theorem dict_mf (f : Array Value → Array Value) (o : Obj) : (Obj.mapFields f o).dict = o.dict := by unfold Obj.mapFields; split <;> rfl
theorem exc_entry {B : Heap} {env : Env} {outer : List Env} {L e : Addr} {oe : Obj} {vs : Array Value} {head : Value} {hadNext : Bool} {Q : Unit → Shared → Prop}
    (hfr : A.frames = some (env :: outer)) (hl : s.heap.FunFrames B (env :: outer)) (hf : env.frame = some L)
    (he : s.heap.get? e = some oe) (hkb : B.StaysIn s.heap) (hen : B.get? e = none) (hd : oe.data = .fields vs) (hsz : 1 < vs.size)
    (h : ∀ h' oe' vs', B.StaysIn h' → h'.FunFrames B (env :: outer) → h'.get? e = some oe' → oe'.cls = oe.cls → oe'.dict = oe.dict → oe'.data = .fields vs' → TbAt B h' e vs' (rawInt L) → s.heap.UpToSlots h' → Q () { s with heap := h' }) :
    wpAny M A (do let a ← frameOf env; let pl ← entryPlaceOf L hadNext; let b ← EntryCells.newEntry head a .none (rawInt L) .none pl; setField (.ref e) 1 b) Q E s := by
  have hene : e ∉ (env :: outer).filterMap (·.frame) := fun hm => by
    obtain ⟨zz, o, ho, hnf⟩ := hl.mem hm
    rw [he] at ho; injection ho with ho; subst ho; exact hnf vs hd
  refine wpAny_bind (wpAny_frameOf_fun hfr hl hf fun h₁ hs₁ => ?_)
  refine wpAny_bind (wpAny_entryPlaceOf fun pl hpl => ?_)
  unfold EntryCells.newEntry newFields
  refine wpAny_bind (wpAny_newObj_type ?_ (hpl.sizeOk5 _ _ _ _ _))
  have he₁ : h₁.get? e = some oe := (hs₁.2.1 e hene).trans he
  have kb₁ : B.StaysIn h₁ := fun b o hbo => (hs₁.2.1 b fun hm => by rw [(hl.mem hm).1] at hbo; cases hbo).trans (hkb b o hbo)
  generalize hT : ({ cls := .type "traceback", dict := none, data := .fields ([head, .ref L, .none, rawInt L, .none] ++ (if pl.isEmpty then List.replicate 6 Value.none else pl)).toArray } : Obj) = oT
  have hTd : oT.data = .fields ([head, .ref L, .none, rawInt L, .none] ++ (if pl.isEmpty then List.replicate 6 Value.none else pl)).toArray := by rw [← hT]
  have hTf : oT.isFreed = false := by rw [← hT]; rfl
  have he₂ : (h₁.push oT).get? e = some oe := Heap.get?_push_of_some _ he₁
  have hTe : h₁.objs.size ≠ e := Nat.ne_of_gt (Heap.lt_size he₁)
  have hT₂ : (h₁.push oT).get? h₁.objs.size = some oT := Heap.get?_push_size h₁ hTf
  refine wpAny_setField he₂ hd hsz ?_
  have hd₃ := Obj.data_mapFields hd (·.setIfInBounds 1 (Value.ref h₁.objs.size))
  have he₃ := Heap.get?_update_self (Obj.mapFields (·.setIfInBounds 1 (Value.ref h₁.objs.size))) he₂ (Obj.isFreed_of_fields hd₃)
  have hT₃ := (Heap.get?_update_other (h₁.push oT) (Obj.mapFields (·.setIfInBounds 1 (Value.ref h₁.objs.size))) (Ne.symm hTe)).trans hT₂
  have keep : ∀ b o, b ≠ e → h₁.get? b = some o → ((h₁.push oT).update e (Obj.mapFields (·.setIfInBounds 1 (Value.ref h₁.objs.size)))).get? b = some o := fun b o hbe hb => by
    rw [Heap.get?_update_other _ _ (Ne.symm hbe)]; exact Heap.get?_push_of_some _ hb
  have noRec : ∀ b o, s.heap.get? b = some o → (∀ vs, o.data ≠ .fields vs) → b ≠ e := fun b o hb hnf q => by
    rw [q, he] at hb; injection hb with hb; subst hb; exact hnf vs hd
  refine h _ _ _ (fun b o hbo => keep b o (fun q => by rw [q, hen] at hbo; cases hbo) (kb₁ b o hbo)) (hl.of_keeps fun b o hb hnf => ?_) he₃ (Obj.cls_mapFields _ _) (dict_mf _ _) hd₃
    ⟨h₁.objs.size, oT, _, by simp [hsz], kb₁.fresh, hTe, hT₃, hTd, by simp⟩ fun b o hb hnf => ?_
  · obtain ⟨sl, hs⟩ := hs₁.2.2 b o hb
    exact ⟨_, keep b _ (noRec b o hb hnf) hs, rfl⟩
  · obtain ⟨sl, hs⟩ := hs₁.2.2 b o hb
    exact ⟨sl, keep b _ (noRec b o hb hnf) hs⟩
theorem exc_note {B : Heap} {env : Env} {outer : List Env} {L e d : Addr} {fl : Option Value} {Q : Unit → Shared → Prop} (hfr : A.frames = some (env :: outer)) (hf : env.frame = some L) (X : EXC B (env :: outer) e d fl s.heap) (hfl : fl = none ∨ fl = some .none)
    (h : ∀ h', EXC B (env :: outer) e d (some (rawInt L)) h' → s.heap.UpToSlots h' → Q () { s with heap := h' }) : wpAny M A (noteFrame (.ref e) env) Q E s := by
  obtain ⟨hkb, hen, hl, oe, vs, he, hc, hdc, hd, ht⟩ := X
  unfold noteFrame
  simp only [hf]
  rcases hfl with rfl | rfl
  · have h1 : vs[1]? = some .none := ht
    refine wpAny_bind (wpAny_field he hd h1 ?_)
    rw [if_neg (by decide)]
    exact exc_entry hfr hl hf he hkb hen hd (Array.getElem?_eq_some_iff.mp h1).1 fun h' oe' vs' a1 a2 a3 a4 a5 a6 a7 a8 => h h' ⟨a1, hen, a2, oe', vs', a3, a4.trans hc, a5.trans hdc, a6, a7⟩ a8
  · obtain ⟨T, oT, ts, h1, hnT, hTe, hT, hdT, h3⟩ := ht
    refine wpAny_bind (wpAny_field he hd h1 ?_)
    rw [if_pos (show (Value.ref T != Value.none) = true from by simp)]
    refine wpAny_bind (wpAny_field hT hdT h3 ?_)
    rw [if_neg (show ¬ ((Value.none == rawInt L) = true) from by simp [rawInt])]
    refine wpAny_bind (wpAny_setField hT hdT (Array.getElem?_eq_some_iff.mp h3).1 ?_)
    have other : ∀ b, b ≠ T → (s.heap.update T (Obj.mapFields (·.setIfInBounds 3 Value.none))).get? b = s.heap.get? b := fun b hb => Heap.get?_update_other _ _ (Ne.symm hb)
    have noRec : ∀ b o, s.heap.get? b = some o → (∀ vs, o.data ≠ .fields vs) → b ≠ T := fun b o hb hnf q => by
      rw [q, hT] at hb; injection hb with hb; subst hb; exact hnf ts hdT
    refine exc_entry (s := { s with heap := s.heap.update T (Obj.mapFields (·.setIfInBounds 3 Value.none)) }) hfr (hl.of_keeps fun b o hb hnf => ⟨o, (other b (noRec b o hb hnf)).trans hb, rfl⟩) hf ((other e (Ne.symm hTe)).trans he)
      (fun b o hbo => (other b fun q => by rw [q, hnT] at hbo; cases hbo).trans (hkb b o hbo)) hen hd (Array.getElem?_eq_some_iff.mp h1).1 fun h' oe' vs' a1 a2 a3 a4 a5 a6 a7 a8 => ?_
    exact h h' ⟨a1, hen, a2, oe', vs', a3, a4.trans hc, a5.trans hdc, a6, a7⟩ fun b o hb hnf => a8 b o ((other b (noRec b o hb hnf)).trans hb) hnf
theorem exc_again {B : Heap} {env : Env} {l : List Env} {L e d : Addr} {Q : Unit → Shared → Prop} (hf : env.frame = some L) (X : EXC B l e d (some (rawInt L)) s.heap) (h : Q () s) : wpAny M A (noteFrame (.ref e) env) Q E s := by
  obtain ⟨hkb, hen, hl, oe, vs, he, hc, hdc, hd, T, oT, ts, h1, hnT, hTe, hT, hdT, h3⟩ := X
  unfold noteFrame
  simp only [hf]
  refine wpAny_bind (wpAny_field he hd h1 ?_)
  rw [if_pos (show (Value.ref T != Value.none) = true from by simp)]
  refine wpAny_bind (wpAny_field hT hdT h3 ?_)
  rw [if_pos (show (rawInt L == rawInt L) = true from by simp)]
  exact wpAny_pure h
theorem exc_flight {B : Heap} {l : List Env} {e d : Addr} {f : Value} {fr : Option Addr} {Q : Unit → Shared → Prop} (X : EXC B l e d (some f) s.heap)
    (h : ∀ h', EXC B l e d (some (fr.elim .none fun a => rawInt a)) h' → s.heap.UpToSlots h' → Q () { s with heap := h' }) : wpAny M A (setFlight (.ref e) fr) Q E s := by
  obtain ⟨hkb, hen, hl, oe, vs, he, hc, hdc, hd, T, oT, ts, h1, hnT, hTe, hT, hdT, h3⟩ := X
  have hsz3 : 3 < ts.size := (Array.getElem?_eq_some_iff.mp h3).1
  have other : ∀ b, b ≠ T → (s.heap.update T (Obj.mapFields (·.setIfInBounds 3 (fr.elim Value.none fun a => rawInt a)))).get? b = s.heap.get? b := fun b hb => Heap.get?_update_other _ _ (Ne.symm hb)
  have noRec : ∀ b o, s.heap.get? b = some o → (∀ vs, o.data ≠ .fields vs) → b ≠ T := fun b o hb hnf q => by
    rw [q, hT] at hb; injection hb with hb; subst hb; exact hnf ts hdT
  unfold setFlight
  refine wpAny_bind (wpAny_field he hd h1 ?_)
  rw [if_pos (show (Value.ref T != Value.none) = true from by simp)]
  refine wpAny_setField hT hdT hsz3 (h _ ⟨fun b o hbo => (other b fun q => by rw [q, hnT] at hbo; cases hbo).trans (hkb b o hbo), hen,
    hl.of_keeps fun b o hb hnf => ⟨o, (other b (noRec b o hb hnf)).trans hb, rfl⟩, oe, vs, (other e (Ne.symm hTe)).trans he, hc, hdc, hd, T, _, _, h1, hnT, hTe, Heap.get?_update_self _ hT (Obj.isFreed_of_fields (Obj.data_mapFields hdT _)), Obj.data_mapFields hdT _, by simp [hsz3]⟩
    fun b o hb hnf => ⟨o.slots, (other b (noRec b o hb hnf)).trans hb⟩)
theorem exc_cameBack {B : Heap} {env : Env} {l : List Env} {L e d : Addr} {X' : Value → Shared → Prop} (hf : env.frame = some L) (X : EXC B l e d (some (rawInt L)) s.heap)
    (h : ∀ h', EXC B l e d (some (rawInt L)) h' → s.heap.UpToSlots h' → X' (.ref e) { s with heap := h' }) : cameBackBy M A env X' (.ref e) s := by
  obtain ⟨hkb, hen, hl, oe, vs, he, hc, hdc, hd, T, oT, ts, h1, hnT, hTe, hT, hdT, h3⟩ := id X
  unfold cameBackBy
  refine wpAny_bind (wpAny_field he hd h1 ?_)
  rw [if_neg (by simp)]
  show wpAny M A (setFlight (.ref e) env.frame) _ _ _
  rw [hf]
  exact exc_flight X fun h' X2 u => h h' X2 u
theorem exc_leaving {B : Heap} {env : Env} {outer : List Env} {L e d : Addr} {Q : Unit → Shared → Prop} (hf : env.frame = some L) (X : EXC B (env :: outer) e d (some (rawInt L)) s.heap)
    (h : ∀ h', EXC B outer e d (some .none) h' → s.heap.UpToSlots h' → Q () { s with heap := h' }) : wpAny M A (leaving env (.ref e)) Q E s := by
  unfold leaving
  refine wpAny_bind (exc_again hf X (exc_flight X fun h' X2 u => h h' ?_ u))
  obtain ⟨a1, a2, ⟨zz, zz, a3⟩, a4⟩ := X2
  exact ⟨a1, a2, a3, a4⟩
end
end
-- RE12
noncomputable section
open PySem PySem.W PySem.Calls PyProof.Rows PySem.SeqAt
set_option maxRecDepth 100000
theorem uts_tk {h h' : Heap} (u : h.UpToSlots h') : TK h h' := fun a items ⟨o, ho, hc, n, hd⟩ => by
  obtain ⟨sl, hs⟩ := u a o ho fun vs q => by rw [hd] at q; cases q
  exact ⟨_, hs, hc, n, hd⟩
theorem FR.slots {C : Cx} {R : Addr → Option Obj} {fs : FS} {s : Shared} {h' : Heap} (F : FR C R fs s) (u : s.heap.UpToSlots h') (hR : ∀ b o, R b = some o → h'.get? b = some o) (hl : ∀ a, fs.σ.Live a → ∀ o, s.heap.get? a = some o → h'.get? a = some o) : FR C R fs { s with heap := h' } := by
  have tk := uts_tk u
  have rp : ∀ a, fs.σ.Live a → Rp R C.env h' a = none := fun a l => by obtain ⟨q1, q2⟩ := F.live l; rw [rp_not q1]; exact q2
  obtain ⟨mv, n, e⟩ := F.loc
  refine ⟨F.gens, F.os, F.base, hR, ?_, F.rl, ⟨mv, u.ns n, fun x v q => ?_⟩, fun x c m => ?_, F.apart, F.names, F.co⟩
  · refine ⟨fun b o q => ?_, fun a vs q => ?_, fun a d q => ?_, fun a Cl d q => ?_, fun a ns q => ?_⟩
    · by_cases w : own C.env b
      · rw [rp_own w] at q; exact q
      · rw [rp_not w] at q; exact hR b o q
    · obtain ⟨zz, items, ⟨o, ho, hc⟩, l⟩ := F.hr.li a vs q
      exact ⟨rp a (.li q), items, ⟨o, hl a (.li q) o ho, hc⟩, l.mono tk⟩
    · obtain ⟨zz, dr⟩ := F.hr.dm a d q
      exact ⟨rp a (.dm q), dr.mono (fun o ho => hl a (.dm q) o ho) tk⟩
    · obtain ⟨zz, ho⟩ := F.hr.ob a Cl d q
      exact ⟨rp a (.ob q), hl a (.ob q) _ ho⟩
    · obtain ⟨zz, nd, o, es, ep, tb, ho, r⟩ := F.hr.st a ns q
      exact ⟨rp a (.st q), nd, o, es, ep, tb, hl a (.st q) _ ho, r⟩
  · obtain ⟨w, a, b⟩ := e x v q; exact ⟨w, a, b.mono tk⟩
  · obtain ⟨v₀, ⟨o, ho, hd⟩, f⟩ := F.cells x c m
    obtain ⟨sl, hs⟩ := u c o ho fun vs q => by rw [hd] at q; cases q
    exact ⟨v₀, ⟨_, hs, hd⟩, fun v q => by obtain ⟨w, a, b⟩ := f v q; exact ⟨w, a, b.mono tk⟩⟩
def frs (l : List Env) : List Addr := l.filterMap (·.frame)
def Rm (R : Addr → Option Obj) (l : List Env) : Addr → Option Obj := fun a => if a ∈ frs l then none else R a
theorem rm_out {R : Addr → Option Obj} {l : List Env} {a : Addr} (h : a ∉ frs l) : Rm R l a = R a := if_neg h
theorem rm_in {R : Addr → Option Obj} {l : List Env} {a : Addr} (h : a ∈ frs l) : Rm R l a = none := if_pos h
structure FL (C : Cx) (R : Addr → Option Obj) (outer : List Env) : Prop where
  fs : C.A.frames = some (C.env :: outer)
  f : C.env.frame = some C.env.locals
  k : C.env.scope.kind ≠ .module
  o : ∀ env ∈ outer, env.scope.kind ≠ .module ∧ ∃ L o es ep, env.frame = some L ∧ R L = some o ∧ o.data = .dict es ep ∧ C.W.base.get? L = none
structure XP (B : Heap) (C : Cx) (R : Addr → Option Obj) (outer : List Env) (fs : FS) (e dx : Addr) (j : Int) (fl : Option Value) (s : Shared) : Prop where
  fr : FR C (Rm R outer) fs s
  lv : ∀ a, fs.σ.Live a → R a = none
  up : ∀ a ∈ frs outer, ∀ o, R a = some o → ∃ sl, s.heap.get? a = some { o with slots := sl }
  ex : EXC B (C.env :: outer) e dx fl s.heap
  cr : ∀ b o, R b = some o → b ∉ frs outer → B.get? b = some o
  cl : ∀ a, fs.σ.Live a → ∀ o, s.heap.get? a = some o → B.get? a = some o
  cd : ∀ o, s.heap.get? dx = some o → B.get? dx = some o
  ns : ∃ mv tj, s.heap.Ns1 dx mv ∧ mv "step" = some (.int j tj)
theorem funFrames_of {h B : Heap} : ∀ {l : List Env}, (∀ env ∈ l, env.scope.kind ≠ .module ∧ ∃ L o, env.frame = some L ∧ B.get? L = none ∧ h.get? L = some o ∧ ∀ vs, o.data ≠ .fields vs) → h.FunFrames B l
  | [], _ => trivial
  | env :: r, f => ⟨(f env (.head _)).1, (f env (.head _)).2, funFrames_of fun e he => f e (.tail _ he)⟩
theorem mem_frs {l : List Env} {a : Addr} : a ∈ frs l ↔ ∃ env ∈ l, env.frame = some a := by simp [frs]
theorem XP.start {C : Cx} {R : Addr → Option Obj} {outer : List Env} {fs : FS} {e dx t1 : Addr} {j : Int} {s : Shared} (F : FR C R fs s) (L : FL C R outer) (X : XE C R fs e dx t1 j s) : ∃ B, XP B C R outer fs e dx j none s := by
  have ou : ∀ a ∈ frs outer, ∃ o, R a = some o ∧ (∃ es ep, o.data = .dict es ep) ∧ C.W.base.get? a = none := fun a ha => by
    obtain ⟨env, he, hf⟩ := mem_frs.mp ha
    obtain ⟨zz, L', o, es, ep, h1, h2, h3, h4⟩ := L.o env he
    rw [hf] at h1; cases h1; exact ⟨o, h2, ⟨es, ep, h3⟩, h4⟩
  have nr : ∀ a, R a = none → a ∉ frs outer := fun a h m => by obtain ⟨o, h1, zz⟩ := ou a m; rw [h] at h1; cases h1
  have noE : e ≠ C.env.locals := fun q => X.ne.2.1 (.inl q)
  have kp : ∀ b o, s.heap.get? b = some o → b ≠ e → b ∉ frs (C.env :: outer) → (hideAll s.heap (e :: frs (C.env :: outer))).get? b = some o := fun b o h h1 h2 => hideAll_get _ h fun m => (List.mem_cons.mp m).elim h1 h2
  have nf : ∀ a, ¬ own C.env a → R a = none → a ∉ frs (C.env :: outer) := fun a h1 h2 m => by
    obtain ⟨env, he, hf⟩ := mem_frs.mp m
    rcases List.mem_cons.mp he with rfl | he
    · rw [L.f] at hf; cases hf; exact h1 (.inl rfl)
    · exact nr a h2 (mem_frs.mpr ⟨env, he, hf⟩)
  obtain ⟨mv, oL, esL, epL, hoL, hdL, zz⟩ : ∃ mv, ∃ o es ep, s.heap.get? C.env.locals = some o ∧ o.data = .dict es ep ∧ True := by
    obtain ⟨mv, ⟨o, es, ep, ho, hd, zz⟩, zz⟩ := F.loc
    exact ⟨mv, o, es, ep, ho, hd, trivial⟩
  obtain ⟨mD, tj, hn, hst⟩ := X.ns
  refine ⟨hideAll s.heap (e :: frs (C.env :: outer)), ?_, fun a l => (F.live l).2, fun a ha o h => ⟨o.slots, F.rk a o h⟩, ⟨fun b o h => of_hideAll _ h, hideAll_none _ (by simp), ?_, _, _, X.at', rfl, rfl, rfl, rfl⟩, fun b o h hb => ?_, fun a l o h => ?_, fun o h => ?_, mD, tj, hn, hst⟩
  · refine F.lessR (fun b o h => ?_) fun b o h => ?_
    · by_cases q : b ∈ frs outer
      · rw [rm_in q] at h; cases h
      · rw [rm_out q] at h; exact h
    · rw [rm_out fun m => by obtain ⟨zz, zz, zz, q⟩ := ou b m; rw [q] at h; cases h]; exact F.base b o h
  · refine funFrames_of fun env he => ?_
    rcases List.mem_cons.mp he with rfl | he
    · exact ⟨L.k, C.env.locals, oL, L.f, hideAll_none _ (List.mem_cons_of_mem _ (mem_frs.mpr ⟨_, .head _, L.f⟩)), hoL, fun vs q => by rw [hdL] at q; cases q⟩
    · obtain ⟨h0, L', o, es, ep, h1, h2, h3', zz⟩ := L.o env he
      have h3 : ∀ vs, o.data ≠ .fields vs := fun vs q => by rw [h3'] at q; cases q
      exact ⟨h0, L', o, h1, hideAll_none _ (List.mem_cons_of_mem _ (mem_frs.mpr ⟨_, .tail _ he, h1⟩)), F.rk _ _ h2, h3⟩
  · refine kp b o (F.rk b o h) (fun q => by rw [q, X.ne.1] at h; cases h) fun m => ?_
    obtain ⟨env, he, hf⟩ := mem_frs.mp m
    rcases List.mem_cons.mp he with rfl | he
    · rw [L.f] at hf; cases hf; rw [F.rl] at h; cases h
    · exact hb (mem_frs.mpr ⟨env, he, hf⟩)
  · obtain ⟨q1, q2⟩ := F.live l
    exact kp a o h (fun q => X.ne.2.2 (q ▸ l)) (nf a q1 q2)
  · exact kp dx o h X.de (nf dx X.nd.2.1 X.nd.1)
theorem XP.move {B : Heap} {C : Cx} {R : Addr → Option Obj} {outer : List Env} {fs : FS} {e dx : Addr} {j : Int} {fl fl' : Option Value} {s : Shared} {h' : Heap} (X : XP B C R outer fs e dx j fl s) (x : EXC B (C.env :: outer) e dx fl' h') (u : s.heap.UpToSlots h') :
    XP B C R outer fs e dx j fl' { s with heap := h' } := by
  have st := x.1
  refine ⟨X.fr.slots u (fun b o h => ?_) (fun a l o h => st _ _ (X.cl a l o h)), X.lv, fun a ha o h => ?_, x, X.cr, fun a l o h => ?_, fun o h => ?_, ?_⟩
  · by_cases q : b ∈ frs outer
    · rw [rm_in q] at h; cases h
    · rw [rm_out q] at h; exact st _ _ (X.cr b o h q)
  · obtain ⟨sl, hs⟩ := X.up a ha o h
    obtain ⟨env, he, hf⟩ := mem_frs.mp ha
    obtain ⟨zz, o', ho', hnf⟩ := X.ex.2.2.1.mem (b := a) (List.mem_filterMap.mpr ⟨env, .tail _ he, hf⟩)
    rw [hs] at ho'; cases ho'
    obtain ⟨sl', hs'⟩ := u a _ hs hnf
    exact ⟨sl', hs'⟩
  · obtain ⟨o', ho'⟩ := X.fr.hr.live l
    have q := X.cl a l o' ho'
    have := st _ _ q
    rw [h] at this; cases this; exact q
  · obtain ⟨mv, tj, ⟨o', es, ep, ho', r⟩, zz⟩ := X.ns
    have q := X.cd o' ho'
    have := st _ _ q
    rw [h] at this; cases this; exact q
  · obtain ⟨mv, tj, ⟨o', es, ep, ho', r⟩, q⟩ := X.ns
    exact ⟨mv, tj, ⟨o', es, ep, st _ _ (X.cd o' ho'), r⟩, q⟩
theorem XP.less {B : Heap} {C : Cx} {R R' : Addr → Option Obj} {outer : List Env} {fs : FS} {e dx : Addr} {j : Int} {fl : Option Value} {s : Shared} (X : XP B C R' outer fs e dx j fl s) (h : ∀ b o, R b = some o → R' b = some o) (hb : ∀ b o, C.W.base.get? b = some o → R b = some o) : XP B C R outer fs e dx j fl s := by
  have no : ∀ a, R' a = none → R a = none := fun a q => by
    cases z : R a with
    | none => rfl
    | some o => rw [h a o z] at q; cases q
  refine ⟨X.fr.lessR (fun b o q => ?_) (fun b o q => ?_), fun a l => no a (X.lv a l), fun a ha o q => X.up a ha o (h a o q), X.ex, fun b o q => X.cr b o (h b o q), X.cl, X.cd, X.ns⟩
  · by_cases z : b ∈ frs outer
    · rw [rm_in z] at q; cases q
    · rw [rm_out z] at q ⊢; exact h b o q
  · have := X.fr.base b o q
    by_cases z : b ∈ frs outer
    · rw [rm_in z] at this; cases this
    · rw [rm_out z]; exact hb b o q
theorem FR.leaveS {C : Cx} {R : Addr → Option Obj} {fs : FS} {s : Shared} {outer : List Env} {A' : Around} {env' : Env} {fn : Bool} {f' : FS} {s' : Shared} (F : FR C R fs s) (L : FL C R outer)
    (F' : FR ⟨C.W, A', env', fn⟩ (Rm (Rp R C.env s.heap) (C.env :: outer)) f' s') (tk : TK s.heap s'.heap) (hloc : ∀ o, s.heap.get? C.env.locals = some o → ∃ sl, s'.heap.get? C.env.locals = some { o with slots := sl })
    (lv : ∀ a, f'.σ.Live a → Rp R C.env s.heap a = none) : FR C (Rm R outer) { fs with σ := f'.σ } s' := by
  have nfr : ∀ b o, R b = some o → b ∉ frs outer → b ∉ frs (C.env :: outer) := fun b o h hb m => by
    obtain ⟨env, he, hf⟩ := mem_frs.mp m
    rcases List.mem_cons.mp he with rfl | he
    · rw [L.f] at hf; cases hf; rw [F.rl] at h; cases h
    · exact hb (mem_frs.mpr ⟨env, he, hf⟩)
  have rpS : ∀ b o, R b = some o → Rp R C.env s.heap b = some o := fun b o h => by
    by_cases w : own C.env b
    · rw [rp_own w]; exact F.rk b o h
    · rw [rp_not w]; exact h
  have rk : ∀ b o, Rm R outer b = some o → s'.heap.get? b = some o := fun b o h => by
    by_cases q : b ∈ frs outer
    · rw [rm_in q] at h; cases h
    · rw [rm_out q] at h
      exact F'.rk b o (by rw [rm_out (nfr b o h q)]; exact rpS b o h)
  have rmN : ∀ a, R a = none → Rm R outer a = none := fun a h => by
    by_cases q : a ∈ frs outer
    · exact rm_in q
    · rw [rm_out q]; exact h
  obtain ⟨mv, ⟨oL, es, ep, hoL, hdL, rL⟩, e⟩ := F.loc
  refine ⟨F'.gens, F'.os, fun b o h => ?_, rk, ?_, rmN _ F.rl, ?_, fun x c m => ?_, F.apart, F.names, fun x c m f k => rmN _ (F.co x c m f k)⟩
  · have := F'.base b o h
    by_cases q : b ∈ frs outer
    · rw [rm_in (mem_frs.mpr (by obtain ⟨env, he, hf⟩ := mem_frs.mp q; exact ⟨env, .tail _ he, hf⟩))] at this; cases this
    · rw [rm_out q]; exact F.base b o h
  · refine F'.hr.swap (fun b o h => ?_) fun a l => ?_
    · by_cases w : own C.env b
      · rw [rp_own w] at h; exact h
      · rw [rp_not w] at h; exact rk b o h
    · obtain ⟨q1, q2⟩ := F.rpInv (lv a l)
      exact Rp_none (rmN a q1) q2
  · obtain ⟨sl, hs⟩ := hloc oL hoL
    exact ⟨mv, ⟨_, es, ep, hs, hdL, rL⟩, fun x v q => by obtain ⟨w, a, b⟩ := e x v q; exact ⟨w, a, b.mono tk⟩⟩
  · obtain ⟨v₀, ⟨o, ho, hd⟩, f⟩ := F.cells x c m
    have w : own C.env c := .inr (List.mem_map_of_mem (f := (·.2)) m)
    have nc : c ∉ frs (C.env :: outer) := fun q => by
      obtain ⟨env, he, hf⟩ := mem_frs.mp q
      rcases List.mem_cons.mp he with rfl | he
      · rw [L.f] at hf; cases hf; rw [hoL] at ho; cases ho; rw [hdL] at hd; cases hd
      · obtain ⟨zz, L', o', es', ep', h1, h2, h3, zz⟩ := L.o env he
        rw [hf] at h1; cases h1
        have := F.rk _ _ h2
        rw [ho] at this; cases this; rw [h3] at hd; cases hd
    exact ⟨v₀, ⟨o, F'.rk c o (by rw [rm_out nc, rp_own w]; exact ho), hd⟩, fun v q => by obtain ⟨w, a, b⟩ := f v q; exact ⟨w, a, b.mono tk⟩⟩
theorem XP.out {B : Heap} {C : Cx} {R : Addr → Option Obj} {fs : FS} {s : Shared} {outer : List Env} {A' : Around} {env' : Env} {fn : Bool} {f' : FS} {s₁ : Shared} {e dx Lc : Addr} {j : Int} {Q : Unit → Shared → Prop} {E : Value → Shared → Prop} {M : Model} {A : Around} (F : FR C R fs s) (L : FL C R outer)
    (hf : env'.frame = some Lc) (tk : TK s.heap s₁.heap) (X : XP B ⟨C.W, A', env', fn⟩ (Rp R C.env s.heap) (C.env :: outer) f' e dx j (some (rawInt Lc)) s₁)
    (h : ∀ s₂, TK s.heap s₂.heap → XP B C R outer { fs with σ := f'.σ } e dx j (some .none) s₂ → Q () s₂) : wpAny M A (leaving env' (.ref e)) Q E s₁ := by
  refine exc_leaving hf X.ex fun h' x u => ?_
  have st := x.1
  have tk' : TK s.heap h' := tk.trans (uts_tk u)
  have rpS : ∀ b o, R b = some o → Rp R C.env s.heap b = some o := fun b o h => by
    by_cases w : own C.env b
    · rw [rp_own w]; exact F.rk b o h
    · rw [rp_not w]; exact h
  have F2 : FR ⟨C.W, A', env', fn⟩ (Rm (Rp R C.env s.heap) (C.env :: outer)) f' { s₁ with heap := h' } := X.fr.slots u (fun b o h => by
    by_cases q : b ∈ frs (C.env :: outer)
    · rw [rm_in q] at h; cases h
    · rw [rm_out q] at h; exact st _ _ (X.cr b o h q)) (fun a l o h => st _ _ (X.cl a l o h))
  have upS : ∀ a ∈ frs (C.env :: outer), ∀ o, Rp R C.env s.heap a = some o → ∃ sl, h'.get? a = some { o with slots := sl } := fun a ha o h => by
    obtain ⟨sl, hs⟩ := X.up a ha o h
    obtain ⟨env, he, hf⟩ := mem_frs.mp ha
    obtain ⟨zz, o', ho', hnf⟩ := X.ex.2.2.1.mem (b := a) (List.mem_filterMap.mpr ⟨env, .tail _ he, hf⟩)
    rw [hs] at ho'; cases ho'
    obtain ⟨sl', hs'⟩ := u a _ hs hnf
    exact ⟨sl', hs'⟩
  have tailm : ∀ a, a ∈ frs outer → a ∈ frs (C.env :: outer) := fun a q => by obtain ⟨env, he, hf⟩ := mem_frs.mp q; exact mem_frs.mpr ⟨env, .tail _ he, hf⟩
  refine h _ tk' ⟨F.leaveS L F2 tk' (fun o ho => ?_) X.lv, fun a l => (F.rpInv (X.lv a l)).1, fun a ha o h => upS a (tailm a ha) o (rpS a o h), x, fun b o h hb => X.cr b o (rpS b o h) fun m => ?_, fun a l o h => ?_, fun o h => ?_, ?_⟩
  · exact upS _ (mem_frs.mpr ⟨_, .head _, L.f⟩) o (by rw [rp_own (.inl rfl)]; exact ho)
  · obtain ⟨env, he, hf⟩ := mem_frs.mp m
    rcases List.mem_cons.mp he with rfl | he
    · rw [L.f] at hf; cases hf; rw [F.rl] at h; cases h
    · exact hb (mem_frs.mpr ⟨env, he, hf⟩)
  · obtain ⟨o', ho'⟩ := X.fr.hr.live l
    have q := X.cl a l o' ho'
    have := st _ _ q
    rw [show h'.get? a = some o from h] at this; cases this; exact q
  · obtain ⟨mv, tj, ⟨o', es, ep, ho', r⟩, zz⟩ := X.ns
    have q := X.cd o' ho'
    have := st _ _ q
    rw [show h'.get? dx = some o from h] at this; cases this; exact q
  · obtain ⟨mv, tj, ⟨o', es, ep, ho', r⟩, q⟩ := X.ns
    exact ⟨mv, tj, ⟨o', es, ep, st _ _ (X.cd o' ho'), r⟩, q⟩
end
-- RE13
noncomputable section
open PySem PySem.W PySem.Calls PyProof.Rows PySem.SeqAt
set_option maxRecDepth 100000
section
variable {C : Cx} {fs : FS} {α β : Type} {rel : Heap → β → α → Prop} {X : (Addr → Option Obj) → Value → Shared → Prop}
theorem xse_nil {Q : Fw → FS → Prop} (h : Q .next fs) : WPE C FwR (execs [] C.env) Q X fs := (xs_nil h).toE
theorem xse_cons {st rest} {Q : Fw → FS → Prop} (h : WPE C FwR (exec st C.env) (fun f fs' => match f with | .next => WPE C FwR (execs rest C.env) Q X fs' | f => Q f fs') X fs) : WPE C FwR (execs (st :: rest) C.env) Q X fs := fun R s F => by
  refine wpAny_execs_cons (wpAny_mono (h R s F) (fun f s' x => ?_) fun zz zz z => z)
  obtain ⟨b, fs', F', t, r, q⟩ := x
  cases b with
  | next => cases r; exact wpAny_mono (q R s' F') (fun _ _ x => po_mono x t fun _ _ z => z) fun _ _ z => z
  | brk => cases r; exact ⟨.brk, fs', F', t, rfl, q⟩
  | cont => cases r; exact ⟨.cont, fs', F', t, rfl, q⟩
  | ret v => obtain ⟨x, rfl, r⟩ := r; exact ⟨.ret v, fs', F', t, ⟨x, rfl, r⟩, q⟩
theorem xse_if {test body orelse pos} {Q : Fw → FS → Prop} (h : TV C test (fun b fs' => (b = true → WPE C FwR (execs body C.env) Q X fs') ∧ (b = false → WPE C FwR (execs orelse C.env) Q X fs')) fs) : WPE C FwR (exec (.If test body orelse pos) C.env) Q X fs := fun R s F => by
  refine wpAny_If (wpAny_mono (h R s F) (fun a s' x => ?_) fun zz zz z => z.elim)
  obtain ⟨b, fs', F', t, r, q1, q2⟩ := x
  cases r
  cases a
  · exact wpAny_mono (q2 rfl R s' F') (fun zz zz x => po_mono x t fun zz zz z => z) fun zz zz z => z
  · exact wpAny_mono (q1 rfl R s' F') (fun zz zz x => po_mono x t fun zz zz z => z) fun zz zz z => z
end
theorem FL.rh {C : Cx} {R : Addr → Option Obj} {outer : List Env} {hid : List Addr} {h : Heap} (L : FL C R outer) (n : ∀ a ∈ hid, R a = none) : FL C (Rh R hid h) outer :=
  ⟨L.fs, L.f, L.k, fun env he => by
    obtain ⟨h0, a, o, es, ep, h1, h2, h3, h4⟩ := L.o env he
    exact ⟨h0, a, o, es, ep, h1, by rw [rh_out fun m => by rw [n a m] at h2; cases h2]; exact h2, h3, h4⟩⟩
theorem FL.up {C : Cx} {R R' : Addr → Option Obj} {outer : List Env} (L : FL C R outer) (h : ∀ b o, R b = some o → R' b = some o) : FL C R' outer :=
  ⟨L.fs, L.f, L.k, fun env he => by
    obtain ⟨h0, a, o, es, ep, h1, h2, h3, h4⟩ := L.o env he
    exact ⟨h0, a, o, es, ep, h1, h a o h2, h3, h4⟩⟩
theorem tup_not_live {C : Cx} {fs : FS} {R : Addr → Option Obj} {s : Shared} (F : FR C R fs s) {a : Addr} {items : Array Value} (h : s.heap.IsTuple a items) : ¬ own C.env a ∧ ¬ fs.σ.Live a := by
  obtain ⟨o, ho, hc, n, hd⟩ := h
  refine ⟨fun w => F.ownNoTup w items ⟨o, ho, hc, n, hd⟩, fun l => ?_⟩
  cases l with
  | li e => obtain ⟨_, it, ⟨o', ho', n', e'⟩, _⟩ := F.hr.li a _ e; rw [ho] at ho'; cases ho'; rw [e'] at hc; simp at hc
  | dm e => obtain ⟨o', _, _, ho', hd'⟩ := (F.hr.dm a _ e).2.obj; rw [ho] at ho'; cases ho'; rw [hd'] at hd; cases hd
  | ob e =>
    rename_i x
    have ho' := (F.hr.ob a x.1 x.2 e).2
    rw [ho] at ho'; cases ho'; simp at hc
  | st e =>
    obtain ⟨zz, zz, o', es, ep, tb, ho', r⟩ := F.hr.st a _ e
    rw [ho] at ho'; cases ho'
    rw [r.2.1] at hd; cases hd
theorem XP.tk {B : Heap} {C : Cx} {R' : Addr → Option Obj} {outer : List Env} {fs : FS} {e dx : Addr} {j : Int} {fl : Option Value} {s₀ s : Shared} (X : XP B C R' outer fs e dx j fl s) (L : FL C R' outer)
    (h : ∀ a items, s₀.heap.IsTuple a items → ∃ o, R' a = some o ∧ s₀.heap.get? a = some o ∧ o.cls = .type "tuple") : TK s₀.heap s.heap := fun a items ht => by
  obtain ⟨o, h1, h2, hc⟩ := h a items ht
  obtain ⟨o', ho', hc', n, hd⟩ := ht
  rw [h2] at ho'; cases ho'
  have na : a ∉ frs outer := fun m => by
    obtain ⟨env, he, hf⟩ := mem_frs.mp m
    obtain ⟨zz, a', o', es, ep, g1, g2, g3, zz⟩ := L.o env he
    rw [hf] at g1; cases g1; rw [h1] at g2; cases g2; rw [hd] at g3; cases g3
  exact ⟨o, X.ex.1 _ _ (X.cr a o h1 na), hc', n, hd⟩
def XR (C : Cx) (P : Int → FS → Prop) (noted : Bool) : (Addr → Option Obj) → Value → Shared → Prop := fun R v s =>
  ∀ outer, FL C R outer → ∃ f' ea dx B j, v = .ref ea ∧ P j f' ∧ XP B C R outer f' ea dx j (if noted then some (rawInt C.env.locals) else none) s
theorem XR.noted {C : Cx} {P : Int → FS → Prop} (hf : C.env.frame = some C.env.locals) (R : Addr → Option Obj) (hid : List Addr) (h : Heap) (e : Value) (s' : Shared) (hb : ∀ b o, C.W.base.get? b = some o → R b = some o) (hn : ∀ a ∈ hid, R a = none ∧ ¬ own C.env a)
    (x : XR C P false (Rh R hid h) e s') (hfl : ∃ outer, FL C R outer) : notedBy (Mo C) C.A C.env (fun e s' => cameBackBy (Mo C) C.A C.env (XR C P true R) e s') e s' := by
  obtain ⟨outer, L⟩ := hfl
  obtain ⟨f', ea, dx, B, j, rfl, p, X⟩ := x outer (L.rh fun a ha => (hn a ha).1)
  have X1 := X.less (R := R) (fun b o q => by rw [rh_out fun m => by rw [(hn b m).1] at q; cases q]; exact q) hb
  refine exc_note L.fs hf X1.ex (.inl rfl) fun h1 x1 u1 => ?_
  refine exc_cameBack hf x1 fun h2 x2 u2 => ?_
  intro outer' L'
  have : outer' = outer := by have := L'.fs; rw [L.fs] at this; cases this; rfl
  subst this
  exact ⟨f', ea, dx, B, j, rfl, p, (X1.move x1 u1).move x2 u2⟩
end
-- RE14
noncomputable section
open PySem PySem.W PySem.Calls PyProof.Rows PySem.SeqAt
set_option maxRecDepth 100000
section
variable {C : Cx} {fs : FS} {R : Addr → Option Obj} {s : Shared} {α β : Type} {rel : Heap → β → α → Prop}
end
theorem tk_run {C : Cx} {fs : FS} {R : Addr → Option Obj} {s : Shared} (F : FR C R fs s) : ∃ R', (∀ b o, R b = some o → R' b = some o) ∧ FR C R' fs s ∧ (∀ a items, s.heap.IsTuple a items → ∃ o, R' a = some o ∧ s.heap.get? a = some o ∧ o.cls = .type "tuple") := by
  classical
  let hid := (List.range s.heap.objs.size).filter fun a => decide (R a = none ∧ ∃ items, s.heap.IsTuple a items)
  have hmem : ∀ a, a ∈ hid ↔ a < s.heap.objs.size ∧ R a = none ∧ ∃ items, s.heap.IsTuple a items := fun a => by simp [hid]
  have n : ∀ a ∈ hid, R a = none ∧ ¬ own C.env a ∧ ¬ fs.σ.Live a := fun a ha => by
    obtain ⟨zz, h1, items, h2⟩ := (hmem a).mp ha
    exact ⟨h1, tup_not_live F h2⟩
  have up : ∀ b o, R b = some o → Rh R hid s.heap b = some o := fun b o e => by
    rw [rh_out fun m => by rw [(n b m).1] at e; cases e]; exact e
  refine ⟨_, up, F.hide n, fun a items ht => ?_⟩
  obtain ⟨o, ho, hc, r⟩ := id ht
  cases q : R a with
  | some o' =>
    have := F.rk a o' q
    rw [ho] at this; cases this
    exact ⟨o, up a o q, ho, hc⟩
  | none => exact ⟨o, by rw [rh_in ((hmem a).mpr ⟨Heap.lt_size ho, q, items, ht⟩)]; exact ho, ho, hc⟩
theorem raise_E {C : Cx} {n : Nat} (P : Pk C (n + 4)) (G : Pg C) {fs : FS} {x : Str} {np cpos pos : Pos} {args : List PySem.Expr} {w : Str} {j : Int} {Q : Fw → FS → Prop} {Pj : Int → FS → Prop}
    (hx : nsIn C.W.K mainGlobals x = some (some (.ref 69))) (kp : keepIn C.W.K (.ref 69) = true) (ha : SPL C cpos args (fun vs f => vs = [.str w, .int j] ∧ f = fs) fs) (hj : Pj j fs)
    (hk : C.env.scope.kind = .function := by rfl) (hxk : C.env.kindOf x = some .globalImplicit := by rfl) (hG : C.env.globals = mainGlobals := by rfl) (hd : (x == ("__debug__" : Str)) = false := by decide)
    (hp : (backTo cpos (starEach args C.env)).any (·.1) = false := by rfl) :
    WPE C FwR (execs [.Raise (some (.Call (.Name x np) args [] cpos)) none pos] C.env) Q (XR C Pj false) fs := fun R s F => by
  refine wpAny_execs_cons (raise_pf P G F hx kp ha (fun s' e dx t1 F' tk X => ?_) hk hxk hG hd hp)
  intro outer L
  obtain ⟨B, X'⟩ := XP.start F' L X
  exact ⟨fs, e, dx, B, j, rfl, hj, X'⟩
end
-- RE15
noncomputable section
open PySem PySem.W PySem.Calls PyProof.Rows PySem.SeqAt
set_option maxRecDepth 100000
theorem Off.join {A B : Addr → Prop} {σ τ τ' : HS} (h : Off A σ τ) (h' : Off B τ τ') (hb : ∀ b, B b → A b ∨ σ.Fresh b) : Off A σ τ' := by
  refine ⟨fun b y n e => ?_, fun b y n e => ?_, fun b y n e => ?_, fun b y n e => ?_⟩
  · exact h'.li b y (fun q => (hb b q).elim n fun q => by rw [q.li] at e; cases e) (h.li b y n e)
  · exact h'.dm b y (fun q => (hb b q).elim n fun q => by rw [q.dm] at e; cases e) (h.dm b y n e)
  · exact h'.ob b y (fun q => (hb b q).elim n fun q => by rw [q.ob] at e; cases e) (h.ob b y n e)
  · exact h'.st b y (fun q => (hb b q).elim n fun q => by rw [q.st] at e; cases e) (h.st b y n e)
theorem vst_keys {kvs : List (Int × V)} {k : Int} {v : V} (nd : (kvs.map (·.1)).Nodup) : ((vst kvs k v).map (·.1)).Nodup ∧ (∀ x, x ∈ (vst kvs k v).map (·.1) ↔ x ∈ kvs.map (·.1) ∨ x = k) ∧ (vst kvs k v).length ≤ kvs.length + 1 := by
  unfold vst
  split
  · rename_i h
    have e : (kvs.map fun kv => if kv.1 = k then (kv.1, v) else kv).map (·.1) = kvs.map (·.1) := by
      rw [List.map_map]; refine List.map_congr_left fun p zz => ?_
      simp only [Function.comp]; split <;> rfl
    refine ⟨by rw [e]; exact nd, fun x => ?_, by simp⟩
    rw [e]
    refine ⟨.inl, fun q => q.elim id fun q => ?_⟩
    obtain ⟨p, hp, hk⟩ := List.any_eq_true.mp h
    rw [q]; simp at hk; rw [← hk]; exact List.mem_map_of_mem hp
  · rename_i h
    refine ⟨?_, fun x => by simp, by simp⟩
    rw [List.map_append, List.nodup_append]
    refine ⟨nd, by simp, fun a ha b hb => ?_⟩
    simp at hb; subst hb
    intro q; subst q
    obtain ⟨p, hp, hk⟩ := List.mem_map.mp ha
    exact h (List.any_eq_true.mpr ⟨p, hp, by simpa using hk⟩)
theorem vmg_keys : ∀ {more kvs : List (Int × V)}, (kvs.map (·.1)).Nodup → ((vmg kvs more).map (·.1)).Nodup ∧ (∀ x, x ∈ (vmg kvs more).map (·.1) ↔ x ∈ kvs.map (·.1) ∨ x ∈ more.map (·.1))
  | [], kvs, nd => ⟨nd, fun x => by simp [vmg]⟩
  | (k, v) :: r, kvs, nd => by
    obtain ⟨h1, h2, zz⟩ := vst_keys (k := k) (v := v) nd
    obtain ⟨h3, h4⟩ := vmg_keys (more := r) h1
    refine ⟨h3, fun x => ?_⟩
    rw [show vmg kvs ((k, v) :: r) = vmg (vst kvs k v) r from rfl, h4, h2]
    simp only [List.map_cons, List.mem_cons]; exact or_assoc
theorem vat_keys {kvs : List (Int × V)} {k : Int} : (vat kvs k).isSome = decide (k ∈ kvs.map (·.1)) := by
  induction kvs with
  | nil => rfl
  | cons p r ih =>
    by_cases h : p.1 = k
    · simp [vat, h]
    · have e : decide (k ∈ (p :: r).map (·.1)) = decide (k ∈ r.map (·.1)) := by
        rw [decide_eq_decide, List.map_cons, List.mem_cons]
        exact ⟨fun q => q.elim (fun q => absurd q.symm h) id, .inr⟩
      rw [e, ← ih]
      simp [vat, h]
theorem nodup_le {ks : List Int} {n : Nat} (nd : ks.Nodup) (h : ∀ k ∈ ks, 0 ≤ k ∧ k < n) : ks.length ≤ n := by
  have h2 : (ks.map Int.toNat).Nodup := by
    refine List.pairwise_map.mpr (nd.imp_of_mem fun {a b} ha hb hne => ?_)
    have := h a ha; have := h b hb; lia
  have h3 : (ks.map Int.toNat) ⊆ List.range n := fun x hx => by
    obtain ⟨k, hk, rfl⟩ := List.mem_map.mp hx
    have := h k hk
    simp; lia
  have := (List.nodup_range (n := n))
  have h4 := List.Nodup.length_le_of_subset h2 h3
  simpa using h4
theorem FL.callee {C : Cx} {R : Addr → Option Obj} {fs : FS} {s : Shared} {outer : List Env} (F : FR C R fs s) (L : FL C R outer) {qual : Str} {scope : Scope} {cl : List (Str × Addr)} {f L' : Addr} {cdv : Value} {R1 : Addr → Option Obj} {f1 : FS} {s1 : Shared} (F1 : FR (C.dn (fnEnv qual scope cl f cdv L')) R1 f1 s1) (hk : scope.kind ≠ .module) :
    FL (C.dn (fnEnv qual scope cl f cdv L')) (Rp R C.env s.heap) (C.env :: outer) := by
  refine ⟨?_, rfl, hk, fun env he => ?_⟩
  · show C.A.frames.map _ = _
    rw [L.fs]; rfl
  · obtain ⟨mv, ⟨o, es, ep, ho, hd, zz⟩, zz⟩ := F.loc
    rcases List.mem_cons.mp he with rfl | he
    · refine ⟨L.k, C.env.locals, o, es, ep, L.f, by rw [rp_own (.inl rfl)]; exact ho, hd, ?_⟩
      cases q : C.W.base.get? C.env.locals with
      | none => rfl
      | some o => have := F.base _ _ q; rw [F.rl] at this; cases this
    · obtain ⟨h0, L2, o2, es2, ep2, h1, h2, h3, h4⟩ := L.o env he
      refine ⟨h0, L2, o2, es2, ep2, h1, ?_, h3, h4⟩
      by_cases w : own C.env L2
      · rw [rp_own w]; exact F.rk _ _ h2
      · rw [rp_not w]; exact h2
end
-- RE15B
noncomputable section
open PySem PySem.W PySem.Calls PyProof.Rows PySem.SeqAt
theorem tail_swap {prog : Program} {w : World} {A : Around} {E : Value → Shared → Prop} {s : Shared} {value slice : PySem.Expr} {o i : Value} {x : Str} {p0 : Pos} {Q : Value → Shared → Prop} (h : wpAny (model prog w) A (subscriptTail (.Name x p0) slice o i) Q E s) :
    wpAny (model prog w) A (subscriptTail value slice o i) Q E s := fun Γ p hΓ => by
  have h1 := h Γ p hΓ
  unfold subscriptTail at h1 ⊢
  rw [Sem.wp_bind'] at h1 ⊢
  refine Sem.wp_mono _ Γ _ (fun a p' s' h' => ?_) (fun zz zz zz h' => h') p s h1
  rw [Sem.wp_bind'] at h' ⊢
  refine Sem.wp_mono _ Γ _ (fun r p' s' h' => ?_) (fun zz zz zz h' => h') p' s' h'
  rw [show (letTemporaryGo (.Name x p0) o r >>= fun zz => (pure r : Sem Value)) = pure r from rfl, Sem.wp_pure'] at h'
  exact (show wpAny (model prog w) A (letTemporaryGo value o r >>= fun zz => pure r) Q E s' from wpAny_bind (wpAny_letTemporaryGo (wpAny_pure h'))) Γ p' hΓ
theorem ev_butLastT {a hi : PySem.Expr} {p pos : Pos} {C : Cx} {fs : FS} {Q : V → FS → Prop}
    (h : EV C a (fun v f => EV C hi (BlQ Q v) f) fs)
    (hsub : ∀ l b, subscripted (.Slice Option.none (some hi) Option.none p) false (.ref l) (.ref b) = operate [.ref b, .ref l] (getItem (.ref l) (.ref b)) := by intro _ _; with_unfolding_all rfl)
 : EV C (.Subscript a (.Slice Option.none (some hi) Option.none p) pos) Q fs := fun R s F => by
  refine Subscript_ (wp_to (h R s F) fun x v f1 s1 F1 t1 r1 q1 => ?_)
  refine wpAny_Slice ?_
  refine wpAny_pure ?_
  refine wp_to (q1 R s1 F1) fun y w f2 s2 F2 t2 r2 q2 => ?_
  obtain ⟨l, vs, rfl, e, hz, rfl, q⟩ := q2
  have r1' := r1.mono t2
  simp only [VR] at r1' r2; subst r1'; obtain ⟨u, rfl⟩ := r2
  refine wpAny_pure ?_
  obtain ⟨items, n, ho, lr, hs⟩ := F2.list e
  obtain ⟨mv, G, N, back⟩ := F2.byCut
  refine tail_swap (x := "x") (p0 := pos) ?_
  refine slice_list G N (isL ho) .none (.int (-1) u) (fun h' G' N' => ?_) (hsub _ _) (fun zz => rfl) (by rw [hs]; exact sz hz)
  obtain ⟨F', tk, zz, ob⟩ := back h' s2.toks _ G' N' fun p hp => List.mem_cons_of_mem _ hp
  obtain ⟨F3, fr⟩ := F2.addNew F' (Heap.get?_none_of_le (Nat.le_succ _)) (LI.of_seq (ob _ _ (.head _))) (ws := vs.take (vs.length - 1)) (by
    have := slicePick_butLast items 1 (Nat.le_refl _)
    rw [show (-((1 : Nat) : Int)) = -1 from rfl] at this
    rw [this, hs]; simpa using (lr.take (vs.length - 1)).mono tk)
  exact ⟨_, _, F3, (t1.trans t2).trans tk, by simp only [VR], q _ fr⟩
end
-- RE16
noncomputable section
open PySem PySem.W PySem.Calls PyProof.Rows PySem.SeqAt
set_option maxRecDepth 100000
theorem sup181 {C : Cx} {n : Nat} (P : Pk C n) (G : Pg C) {L x : Addr} {σ : HS} {scope : Scope} {m : List (Str × V)} {cl : List (Str × Addr)} (hm : m.lookup ("self" : Str) = some (.ref x)) (h1 : scope.names.lookup ("super" : Str) = some .globalImplicit) (h2 : scope.names.lookup ("__class__" : Str) = some .free) (h3 : scope.kind = .function) (h4 : scope.names.lookup ("self" : Str) = some .local)
    (hc : (cellsFrom (L + 1) scope.names cl).lookup ("__class__" : Str) = some 153) : Sup (C.dn (fnEnv "Trimmer.trimmed" scope cl 181 (.ref 180) L)) ⟨m, [("__class__", .ref 184)], σ⟩ x 184 := by
  refine ⟨⟨181, _, _, _, _, _, 180, _, _, _, _, _, _, 153, _, rfl, P.lk rfl, rfl, rfl, P.lk rfl, rfl, ?_, hc, hm, h4, P.cls rfl⟩, h1, h2, rfl, h3, rfl, rfl, P.ns rfl, G.top⟩
  show (C.W.prog.main.file == _) = true
  rw [G.pg]; decide +kernel
structure TI (x d : Addr) (σ0 : HS) (cls sm : List (List Int)) (la us0 : Addr) (i : Nat) (u : UA) (v : UV) (ps : List (Addr × List Int)) (τ : HS) : Prop where
  ex : u.x = x
  eC : u.Cl = 184
  ed : u.d = d
  hU : UD u
  hS : US u v τ
  hZ : Rdy v
  cl : v.cls = cls ++ sm.take i
  kl : u.kvs.length ≤ 3 * v.cls.length
  own : ∀ b, Own u b → inA d x b ∨ σ0.Fresh b
  off : Off (inA d x) σ0 τ
  ela : τ.li la = some (sm.map cv)
  lao : ¬ Own u la
  eus : τ.li us0 = some (ps.map fun p => .ref p.1)
  uso : ¬ Own u us0
  usf : σ0.Fresh us0
  ul : la ≠ us0
  pl : ∀ p ∈ ps, τ.li p.1 = some (p.2.map .int) ∧ ¬ Own u p.1 ∧ p.1 ≠ us0
  len : ps.length = i
  uses : UsesP cls sm (ps.map (·.2))
  fol : ∀ j c, j < i → sm[j]? = some c → Fol (cls ++ sm.take j) c
theorem inA_own {u : UA} {x d b : Addr} (e1 : u.x = x) (e2 : u.d = d) (h : inA d x b) : Own u b := h.elim (fun q => .inr (.inl (q.trans e2.symm))) fun q => .inl (q.trans e1.symm)
theorem TI.start {x d : Addr} {σ0 τ : HS} {cls sm : List (List Int)} {u : UA} {v : UV} {us0 lx lg la : Addr} {y z : List V} {w : List V} (e1 : u.x = x) (e2 : u.Cl = 184) (e3 : u.d = d) (U : UD u) (S : US u v τ) (Z : Rdy v) (e4 : v.cls = cls) (e5 : u.kvs.length ≤ 3 * cls.length)
    (e6 : ∀ b, Own u b → inA d x b ∨ σ0.Fresh b) (e7 : Off (inA d x) σ0 τ) (f1 : τ.Fresh us0) (f2 : (τ.setLi us0 []).Fresh lx) (f3 : ((τ.setLi us0 []).setLi lx y).Fresh lg) (f4 : (((τ.setLi us0 []).setLi lx y).setLi lg z).Fresh la) (hw : w = sm.map cv) :
    TI x d σ0 cls sm la us0 0 u v [] ((((τ.setLi us0 []).setLi lx y).setLi lg z).setLi la w) := by
  have o1 := S.notFresh f1
  have S1 := S.other (x := []) o1
  have o2 := S1.notFresh f2
  have S2 := S1.other (x := y) o2
  have o3 := S2.notFresh f3
  have S3 := S2.other (x := z) o3
  have o4 := S3.notFresh f4
  have n : ∀ {b}, ¬ Own u b → ¬ inA d x b := fun h q => h (inA_own e1 e3 q)
  have g1 := e7.fresh (n o1) f1
  have O1 := e7.newLi (x := []) g1
  have g2 := O1.fresh (n o2) f2
  have O2 := O1.newLi (x := y) g2
  have g3 := O2.fresh (n o3) f3
  have O3 := O2.newLi (x := z) g3
  have g4 := O3.fresh (n o4) f4
  have O4 := O3.newLi (x := w) g4
  have n1 : us0 ≠ lx := f2.neLi li_same
  have n2 : us0 ≠ lg := f3.neLi (li_ne n1 li_same)
  have n3 : us0 ≠ la := f4.neLi (li_ne n2 (li_ne n1 li_same))
  exact ⟨e1, e2, e3, U, S3.other o4, Z, by rw [e4]; simp, by rw [e4]; exact e5, e6, O4, by rw [hw]; exact li_same, o4, li_ne n3 (li_ne n2 (li_ne n1 li_same)), o1, g1, n3.symm, by simp, rfl, fun k m c hk => by simp at hk, fun j c hj => absurd hj (Nat.not_lt_zero _)⟩
theorem Used.fol {cls : List (List Int)} {c : List Int} {ms : List Int} (h : Used cls (neg c) ms) : Clash cls (neg c) := h.clash.mono fun d hd => by
  obtain ⟨i, zz, h2⟩ := mem_pick.mp hd
  exact List.mem_of_getElem? h2
theorem TI.step {x d : Addr} {σ0 τ2 τ3 τ5 : HS} {cls sm : List (List Int)} {la us0 : Addr} {i : Nat} {u : UA} {v : UV} {ps : List (Addr × List Int)} {c : List Int} {cl : Int × Int} {a : Addr} {ms : List Int} {k : List (Int × V)}
    (T : TI x d σ0 cls sm la us0 i u v ps τ2) (hc : sm[i]? = some c) (oc : Okc c) (hn : v.cls.length < 14) (S3 : US u (at0 v [] cl) τ3) (O3 : Off (Own u) τ2 τ3) (ha : τ3.li a = some (ms.map .int)) (fa : τ2.Fresh a) (hu : Used v.cls (neg c) ms)
    (U5 : UD (u.withK k)) (S5 : US (u.withK k) (addV (at0 v [] cl) c) τ5) (O5 : Off (Own u) (τ3.setLi us0 ((ps.map fun p => .ref p.1) ++ [.ref a])) τ5) (W5 : ∀ b, Own (u.withK k) b → Own u b ∨ (τ3.setLi us0 ((ps.map fun p => .ref p.1) ++ [.ref a])).Fresh b) (k5 : k.length ≤ 3 * (v.cls.length + 1)) :
    TI x d σ0 cls sm la us0 (i + 1) (u.withK k) (addV (at0 v [] cl) c) (ps ++ [(a, ms)]) τ5 := by
  have na : ¬ Own u a := T.hS.notFresh fa
  have ua : us0 ≠ a := fa.neLi T.eus
  have O3' : Off (inA d x) σ0 τ3 := T.off.join O3 T.own
  have O4 : Off (inA d x) σ0 (τ3.setLi us0 ((ps.map fun p => V.ref p.1) ++ [.ref a])) := O3'.newLi T.usf
  have l3 : τ3.li la = some (sm.map cv) := O3.li la _ T.lao T.ela
  have Z : Rdy (at0 v [] cl) := ⟨T.hZ.lim, rfl, rfl, rfl, T.hZ.beg, T.hZ.blen, T.hZ.emp⟩
  have nn : ∀ {b : Addr} {y : List V}, ¬ Own u b → (τ3.setLi us0 ((ps.map fun p => V.ref p.1) ++ [.ref a])).li b = some y → ¬ Own (u.withK k) b := fun h e q => (W5 _ q).elim h fun f => by rw [f.li] at e; cases e
  refine ⟨T.ex, T.eC, T.ed, U5, S5, Z.add oc hn, ?_, ?_, fun b hb => ?_, O4.join O5 T.own, O5.li la _ T.lao (li_ne T.ul l3), nn T.lao (li_ne T.ul l3), ?_, nn T.uso li_same, T.usf, T.ul, fun p hp => ?_, ?_, ?_, fun j e hj he => ?_⟩
  · show v.cls ++ [c] = _
    rw [T.cl, take_snoc hc, List.append_assoc]
  · show k.length ≤ 3 * (v.cls ++ [c]).length
    simpa using k5
  · rcases W5 b hb with q | q
    · exact T.own b q
    · by_cases z : inA d x b
      · exact .inl z
      · exact .inr (O4.fresh z q)
  · rw [List.map_append]
    exact O5.li us0 _ T.uso li_same
  · rcases List.mem_append.mp hp with hp | hp
    · obtain ⟨h1, h2, h3⟩ := T.pl p hp
      have := li_ne (y := (ps.map fun p => V.ref p.1) ++ [.ref a]) h3 (O3.li _ _ h2 h1)
      exact ⟨O5.li _ _ h2 this, nn h2 this, h3⟩
    · rw [List.mem_singleton.mp hp]
      have := li_ne (y := (ps.map fun p => V.ref p.1) ++ [.ref a]) ua.symm ha
      exact ⟨O5.li _ _ na this, nn na this, ua.symm⟩
  · rw [List.length_append, T.len]; rfl
  · intro k' m e hk he
    rw [List.map_append] at hk
    by_cases q : k' < ps.length
    · rw [List.getElem?_append_left (by simpa using q)] at hk
      exact T.uses k' m e hk he
    · have q := Nat.not_lt.mp q
      rw [List.getElem?_append_right (by simpa using q)] at hk
      have : k' = i := by
        have := (List.getElem?_eq_some_iff.mp hk).1
        simp at this; have := T.len; lia
      subst this
      rw [hc] at he; cases he
      simp [T.len] at hk; subst hk
      rw [← T.cl]; exact hu
  · by_cases q : j < i
    · exact T.fol j e q he
    · have : j = i := by lia
      subst this
      rw [hc] at he; cases he
      rw [← T.cl]; exact hu.fol
inductive TrK (C : Cx) (R : Addr → Option Obj) (fs : FS) (s : Shared) (x d : Addr) (cls log : List (List Int)) (goal : List Int) (w : Value) (s' : Shared) : Prop
  | mk (kept late : List Int) (τ : HS) (F : FR C R { fs with σ := τ } s') (t : TK s.heap s'.heap) (r : VR s'.heap (.tup [.tup (kept.map .int), .tup (late.map .int)]) w) (tp : TrimP cls log goal kept late) (fw : FW cls (log ++ [goal]) (-1)) (o : Off (inA d x) fs.σ τ)
inductive TrE (C : Cx) (R : Addr → Option Obj) (fs : FS) (s : Shared) (outer : List Env) (x d : Addr) (cls log : List (List Int)) (goal : List Int) (e : Value) (s' : Shared) : Prop
  | mk (ea dx : Addr) (B : Heap) (j : Int) (τ : HS) (e1 : e = .ref ea) (j0 : 0 ≤ j) (fw : FW cls (log ++ [goal]) j) (t : TK s.heap s'.heap) (o : Off (inA d x) fs.σ τ) (X : XP B C R outer { fs with σ := τ } ea dx j (some .none) s')
def TrR (C : Cx) (R : Addr → Option Obj) (fs : FS) (s : Shared) (outer : List Env) (x d : Addr) (cls log : List (List Int)) (goal : List Int) (r : Result) (s' : Shared) : Prop := match r with
  | .ok (.ret w) => TrK C R fs s x d cls log goal w s'
  | .ok _ => False
  | .error e => TrE C R fs s outer x d cls log goal e s'
inductive TrQ (σ0 : HS) (x d : Addr) (cls log : List (List Int)) (goal : List Int) (fl : Fw) (f : FS) : Prop
  | mk (kept late : List Int) (e : fl = .ret (.tup [.tup (kept.map .int), .tup (late.map .int)])) (tp : TrimP cls log goal kept late) (fw : FW cls (log ++ [goal]) (-1)) (o : Off (inA d x) σ0 f.σ)
inductive TrS (x0 d0 a b : Addr) (σ0 : HS) (cls : List (List Int)) (goal : List Int) (v : V) (f : FS) : Prop
  | mk (e : v = .none) (u1 : UA) (v1 : UV) (τ : HS) (ef : f = ⟨[("goal", cv goal), ("log", .ref b), ("clauses", .ref a), ("self", .ref x0)], [("__class__", .ref 184)], τ⟩) (q1 : u1.x = x0) (q2 : u1.Cl = 184) (q3 : u1.d = d0) (U : UD u1) (S : US u1 v1 τ) (Z : Rdy v1) (q4 : v1.cls = cls) (q5 : u1.kvs.length ≤ 3 * cls.length) (q6 : ∀ b, Own u1 b → inA d0 x0 b ∨ σ0.Fresh b) (q7 : Off (inA d0 x0) σ0 τ)
def TrX (σ0 : HS) (x d : Addr) (cls log : List (List Int)) (goal : List Int) : Int → FS → Prop := fun j f => 0 ≤ j ∧ FW cls (log ++ [goal]) j ∧ Off (inA d x) σ0 f.σ
theorem run_po {C : Cx} {f : FS} {α β : Type} {rel : Heap → β → α → Prop} {R : Addr → Option Obj} {s₁ s : Shared} {t : Sem α} (Q : β → FS → Prop) (P : Int → FS → Prop) {Qf : α → Shared → Prop} {E : Value → Shared → Prop} (F : FR C R f s)
    (h : wpAny (Mo C) C.A t (PO C R s₁ rel Q) (XR C P true R) s) (h1 : ∀ a s', PO C R s₁ rel Q a s' → Qf a s') (h2 : ∀ e s', XR C P true R e s' → E e s') : wpAny (Mo C) C.A t Qf E s := wpAny_mono h h1 h2
theorem FR.pk {C : Cx} {env : Env} {R : Addr → Option Obj} {f : FS} {s : Shared} {n : Nat} (F : FR (C.dn env) R f s) (P : Pk C (n + 1)) : Pk (C.dn env) n := P.dn _
theorem FR.pg {C : Cx} {env : Env} {R : Addr → Option Obj} {f : FS} {s : Shared} (F : FR (C.dn env) R f s) (G : Pg C) : Pg (C.dn env) := G.dn
theorem WP.run1 {C : Cx} {fs : FS} {α β : Type} {rel : Heap → β → α → Prop} {R : Addr → Option Obj} {s : Shared} {t : Sem α} {Q : β → FS → Prop} (F : FR C R fs s) (h : WP C rel t Q fs) : wpAny (Mo C) C.A t (PO C R s rel Q) (fun zz zz => False) s := h R s F
inductive TrI (x0 d0 : Addr) (σ0 : HS) (cls sm : List (List Int)) (goal : List Int) (la us0 a b lc1 dp lh lo lb dt lt : Addr) (i : Nat) : FS → Prop
  | mk (k2 : List (Int × V)) (v2 : UV) (ps : List (Addr × List Int)) (τ2 : HS) (T : TI x0 d0 σ0 cls sm la us0 i ⟨x0, 184, d0, lc1, dp, lh, lo, lb, dt, lt, k2⟩ v2 ps τ2) :
    TrI x0 d0 σ0 cls sm goal la us0 a b lc1 dp lh lo lb dt lt i ⟨[("uses", .ref us0), ("goal", cv goal), ("log", .ref b), ("clauses", .ref a), ("self", .ref x0)], [("many", .int cls.length), ("__class__", .ref 184)], τ2⟩
inductive TrN (cls sm : List (List Int)) (goal : List Int) (ms : List (List Int)) (us0 a b x0 D : Addr) (τ2 : HS) (i : Nat) : FS → Prop
  | mk (kvs : List (Int × V)) (N : NK cls sm ms (sm.length - i) (kvs.map (·.1))) :
    TrN cls sm goal ms us0 a b x0 D τ2 i ⟨[("needed", .ref D), ("uses", .ref us0), ("goal", cv goal), ("log", .ref b), ("clauses", .ref a), ("self", .ref x0)], [("many", .int cls.length), ("__class__", .ref 184)], τ2.setDm D (.di kvs)⟩
set_option maxHeartbeats 4000000 in
theorem trimmed_x {C : Cx} {n : Nat} (P : Pk C (n + 5)) (G : Pg C) {fs : FS} {R : Addr → Option Obj} {s : Shared} {outer : List Env} {xs : List Value} {u : UA} {v : UV} {a b : Addr} {cls log : List (List Int)} {goal : List Int}
    (F : FR C R fs s) (L : FL C R outer) (l : LR s.heap [.ref u.x, .ref a, .ref b, cv goal] xs) (U : UD u) (hT : u.Cl = 184) (S : US u v fs.σ) (ha : fs.σ.li a = some (cls.map cv)) (hb : fs.σ.li b = some (log.map cv)) (hao : ¬ Own u a) (hbo : ¬ Own u b)
    (lim : Lim (cls ++ (log ++ [goal]))) (sg : Sm goal) :
    codeAny (Mo C) C.A (.call (.ref 181) ⟨xs, []⟩) (TrR C R fs s outer u.x u.d cls log goal) s := by
  obtain ⟨x0, C0, d0, a3, a4, a5, a6, a7, a8, a9, k0⟩ := u
  dsimp only at *
  subst hT
  have hroom : C.A.depth < recursionLimit := by have := P.d; have : recursionLimit = 1000 := rfl; lia
  refine call_raw (ns := ["self", "clauses", "log", "goal"]) (clN := ["__class__"]) (k0 := [("__class__", .ref 184)]) F l (P.lk rfl) (P.to (p := fun K => codeIn K _ _ = true) (by rfl)) hroom (of4 fun zz zz zz zz => rfl) rfl (by decide) (fun x c m => ?_) rfl (by simp) (fun x v e => ?_) (by decide) (fun L' s₁ F₁ t₁ zz => ?_)
  · cases m with
    | head => exact ⟨by decide, _, _, P.lk rfl, rfl, fun v e => by cases e; exact ⟨_, rfl, fun h => by simp only [VR]⟩⟩
    | tail _ m => cases m
  · rw [List.lookup_cons] at e
    split at e
    · rename_i q; simp at q ⊢; exact q
    · cases e
  · have Lc := FL.callee F L F₁ (by decide)
    obtain ⟨R', up, F₁', tks⟩ := tk_run F₁
    have hx := (F₁'.hr.ob x0 184 d0 (S.ob)).2
    refine ks_wpAt_execs_cons ?_
    refine super_fn (C := C.dn (fnEnv "Trimmer.trimmed" _ _ 181 (.ref 180) L')) (hid := []) (Cl := 184) (D := 184) (f2 := 92) (Qa := fun vs f' => vs = [.ref a] ∧ f' = ⟨[("goal", cv goal), ("log", .ref b), ("clauses", .ref a), ("self", .ref x0)], [("__class__", .ref 184)], fs.σ⟩) F₁'
      (sup181 P G (by rfl) rfl rfl rfl rfl (by rfl)) hx rfl (fun c e => by cases e) (by show mroIn C.W.K _ _ = _; rw [P.K]; rfl) (by decide) (by show ks_superIn C.W.K _ _ _ = _; rw [P.K]; rfl) (P.lk rfl) rfl (by show fnIn C.W.K _ = _; rw [P.K]; rfl) (F₁'.liveNeK (.ob S.ob) (P.lk (a := 184) rfl)) (by show nsIn C.W.K _ _ = _; rw [P.K]; rfl) (by simp) (by simp) ?_ ?_
    · (refine spl_cons ?_; refine ev_loc (by eq_refl) ?_; refine spl_nil ?_)
      exact ⟨rfl, rfl⟩
    · rintro s₂ vs f' xs' F₂ t₂ r₂ ⟨rfl, rfl⟩ zz zz
      have ax : a ≠ x0 := fun e => hao (.inl e)
      have ad : a ≠ d0 := fun e => hao (.inr (.inl e))
      have lc : Lim cls := ⟨by have := lim.len; simp at this; lia, fun c hc => lim.ok c (by simp [hc])⟩
      refine codeAny_mono (init_d (n := n + 2) (fs := ⟨[("goal", cv goal), ("log", .ref b), ("clauses", .ref a), ("self", .ref x0)], [("__class__", .ref 184)], fs.σ⟩) (Q := TrS x0 d0 a b fs.σ cls goal) (P.dn _) (.inr rfl) (S.ob) S.at' (.inr ⟨_, v, rfl⟩) ha ax ad lc
        (fun u v τ e1 e2 e3 U S Z e4 e5 e6 e7 => ⟨rfl, u, v, τ, rfl, e1, e2, e3, U, S, Z, e4, e5, fun b hb => (e6 b hb).elim (fun q => .inl (.inr q)) fun q => q.elim (fun q => .inl (.inl q)) .inr, e7⟩) _ s₂ (.ref x0 :: xs') F₂ (.cons (by simp only [VR]) r₂)) fun r s' z => ?_
      rcases r with e | (v' | zz | zz | zz)
      · exact False.elim z
      · exact False.elim z
      · exact False.elim z
      · exact False.elim z
      obtain ⟨zz, f3, F3, t3, r3, rfl, u1, v1, τ1, rfl, q1, q2, q3, U1, S1, Z1, q4, q5, q6, q7⟩ := z
      obtain ⟨x1, C1, d1, lc1, dp, lh, lo, lb, dt, lt, k1⟩ := u1
      dsimp only at q1 q2 q3
      subst x1 C1 d1
      have P' := F3.pk P
      have G' := F3.pg G
      have tk3 : TK s₁.heap s'.heap := t₂.trans t3
      have hb1 : τ1.li b = some (log.map cv) := q7.li b _ (fun q => hbo (q.elim (fun q => .inr (.inl q)) .inl)) hb
      have ha1 : τ1.li a = some (cls.map cv) := q7.li a _ (fun q => hao (q.elim (fun q => .inr (.inl q)) .inl)) ha
      have cl14 := lc.len
      have ll14 := lim.len
      simp at ll14
      show _root_.PySem.wpAt _ _ _ _ _ _ _
      refine wpAt_of_wpAny (run_po (s₁ := s₁) (rel := FwR) (TrQ fs.σ x0 d0 cls log goal) (TrX fs.σ x0 d0 cls log goal) F3 ?_ (fun fl s5 z => ?_) (fun e s5 z => ?_))
      · refine wpAny_execs_cons (wpAny_mono (WP.run1 (β := Fw) (rel := FwR) (Q := fun fl f => fl = .next ∧ ∃ us0, τ1.Fresh us0 ∧ f = ⟨[("uses", .ref us0), ("goal", cv goal), ("log", .ref b), ("clauses", .ref a), ("self", .ref x0)], [("many", .int cls.length), ("__class__", .ref 184)], τ1.setLi us0 []⟩) F3 ?_) (fun fl s4 z => ?_) (fun zz zz z => z.elim))
        · (refine xv_tup ?_; refine ev_tuple ?_; refine spl_cons ?_; refine ev_bcall (by exact Pk.ns (by assumption) (by exact gs_len _)) (by exact bb_len) ?_; refine spl_cons ?_; refine ev_loc (by eq_refl) ?_; refine spl_nil ?_; refine cl_len (by walk_at "ru lk") (by walk_at "ru len") ?_; refine spl_cons ?_; refine ev_list ?_; refine spl_nil ?_; refine ⟨by walk_at "ru len", ?_⟩)
          intro us0 frU
          (refine spl_nil ?_; refine ⟨by walk_at "ru len", ?_⟩; refine as_tup2 (Pk.h (by assumption)) ?_; refine as_name ?_; refine st_cell ?_ (by rfl); refine as_name ?_; refine st_loc ?_)
          exact ⟨rfl, us0, frU, by simp⟩
        · obtain ⟨zz, f4, F4, t4, r4, rfl, us0, frU, rfl⟩ := z
          cases r4
          show wpAny _ _ _ _ _ _
          refine wpAny_execs_cons (wpAny_mono (we_enumR (fs := ⟨[("uses", .ref us0), ("goal", cv goal), ("log", .ref b), ("clauses", .ref a), ("self", .ref x0)], [("many", .int cls.length), ("__class__", .ref 184)], τ1.setLi us0 []⟩) (Xi := XR _ (TrX fs.σ x0 d0 cls log goal) false) (X := XR _ (TrX fs.σ x0 d0 cls log goal) true)
            (Q := fun fl f => fl = .next ∧ ∃ la, TrI x0 d0 fs.σ cls (log ++ [goal]) goal la us0 a b lc1 dp lh lo lb dt lt (log ++ [goal]).length f)
            P'.h ?_ F4 (fun hid h e s' hn x => XR.noted rfl R' hid h e s' F4.base hn x ⟨_, Lc.up up⟩) ?_) (fun fl s5 z => ?_) (fun e s5 z => z))
          · exact fun Q f h => ev_bty (Pk.ns P' (by rfl)) (by rfl) h
          · have bU : b ≠ us0 := frU.neLi hb1
            (refine ev_bin ?_; refine ev_tcall (by exact Pk.ns (by assumption) (by exact gs_list _)) (by exact bb_list) ?_; refine spl_cons ?_; refine ev_loc (by eq_refl) ?_; refine spl_nil ?_)
            refine cl_listL (by walk_at "ru lk") (by walk_at "ru len") (fun lx frX => ?_)
            have xU : us0 ≠ lx := frX.neLi li_same
            (refine ev_list ?_; refine spl_cons ?_; refine ev_loc (by eq_refl) ?_; refine spl_nil ?_; refine ⟨by walk_at "ru len", ?_⟩)
            intro lg frG
            have gX : lx ≠ lg := frG.neLi li_same
            have gU : us0 ≠ lg := frG.neLi (by walk_at "ru lk")
            refine op_cat (vs := log.map cv) (ws := [cv goal]) (by walk_at "ru lk") li_same (by simp; lia) (fun la frA => ?_)
            have T0 : TI x0 d0 fs.σ cls (log ++ [goal]) la us0 0 ⟨x0, 184, d0, lc1, dp, lh, lo, lb, dt, lt, k1⟩ v1 [] _ := TI.start (cls := cls) (sm := log ++ [goal]) (w := log.map cv ++ [cv goal]) rfl rfl rfl U1 S1 Z1 q4 q5 q6 q7 frU frX frG frA (by simp)
            refine ⟨la, (log ++ [goal]).map cv, TrI x0 d0 fs.σ cls (log ++ [goal]) goal la us0 a b lc1 dp lh lo lb dt lt, rfl, T0.ela, ⟨k1, v1, [], _, T0⟩,
              fun i f ⟨k2, v2, ps, τ2, T⟩ => T.ela, ?_, fun f hT => ⟨rfl, la, by rw [List.length_map] at hT; exact hT⟩⟩
            rintro i w f hv ⟨k2, v2, ps, τ2, T⟩ Gq hGq
            rw [List.getElem?_map] at hv
            obtain ⟨c, hc, rfl⟩ := Option.map_eq_some_iff.mp hv
            have hi := (List.getElem?_eq_some_iff.mp hc).1
            have oc : Okc c := lim.ok c (List.mem_append_right _ (List.mem_of_getElem? hc))
            have vl : v2.cls.length = cls.length + i := by
              rw [T.cl, List.length_append, List.length_take]; simp at hi ⊢; lia
            have n14 : v2.cls.length < 14 := by simp at hi; lia
            have ps14 : ps.length = i := T.len
            (refine as_tup2 (Pk.h (by assumption)) ?_; refine as_name ?_; refine st_loc ?_; refine as_name ?_; refine st_loc ?_)
            refine xse_cons (WP.toE ?_)
            (refine xv_name ?_; refine ev_ifexp ?_; refine tv_plain ?_; refine ev_gcall (by exact Pk.ns (by assumption) (by exact gs_is_clause _)) (by exact Pk.kp (by assumption) (by exact kp_is_clause _)) ?_; refine spl_cons ?_; refine ev_loc (by eq_refl) ?_; refine spl_nil ?_)
            refine isc_d (n := n + 3) P' oc.asc ?_
            clear S U S1 U1
            have tw : two 184 := .inr rfl
            have h184 : (184 : Addr) = 184 := rfl
            have U2 := T.hU
            have S2 := T.hS
            obtain ⟨t_ob, t_at, t_lc, t_dp, t_lh, t_lo, t_lb, t_dt, t_lt, t_pl, t_no⟩ := id S2
            dsimp only at t_ob t_at t_lc t_dp t_lh t_lo t_lb t_dt t_lt
            (refine tr_bool ?_)
            refine ⟨fun zz => ?_, fun h => absurd h (by simp)⟩
            (refine ev_meth (fv := .ref 175) ?_; refine ev_loc (by eq_refl) ?_; refine ⟨_, gm_own (Pk.kc (by assumption) (by walk_at "ru two")) (by walk_at "ru lk") (by walk_at "ru lk") (by rfl) (Pk.find1 (by assumption) (by assumption) (by rfl)) (Pk.ty (by assumption) (by exact ty_used_for _)), .inr (.inr (by exact Pk.kp (by assumption) (by exact kp_used_for _))), ?_⟩; refine spl_cons ?_; refine ev_loc (by eq_refl) ?_; refine spl_nil ?_; refine CD.cl ?_)
            refine used_d (n := n) (fs := ⟨_, _, τ2⟩) P' U2 rfl S2 T.hZ oc fun r cl τ3 S3 O3 hr => ?_
            have u3 := O3.li us0 _ T.uso T.eus
            rcases hr with ⟨rfl, hr⟩ | ⟨ra, ms, rfl, hra, fra, hu⟩
            · (refine st_loc ?_)
              refine xse_cons (xse_if ?_)
              (refine tv_cmp ?_; refine ev_loc (by eq_refl) ?_; refine ev_none ?_; refine op_isNone ?_)
              refine ⟨fun zz => raise_E (w := "the clause fails") (j := (i : Int)) P' G' (by exact Pk.ns (by assumption) (by exact gs_ProofFault _)) (by exact Pk.kp (by assumption) (by exact kp_ProofFault _)) ?_ ?_, fun h => absurd h (by simp)⟩
              · (refine spl_cons ?_; refine ev_str ?_; refine spl_cons ?_; refine ev_loc (by eq_refl) ?_; refine spl_nil ?_)
                exact ⟨rfl, rfl⟩
              · exact ⟨by lia, .inr ⟨i, c, rfl, hc, by rw [← T.cl]; exact hr, fun j d hj hd => T.fol j d hj hd⟩, T.off.join O3 T.own⟩
            · (refine st_loc ?_)
              refine xse_cons (xse_if ?_)
              (refine tv_cmp ?_; refine ev_loc (by eq_refl) ?_; refine ev_none ?_; refine op_isNone ?_)
              refine ⟨fun h => absurd h (by simp), fun zz => xse_nil (WP.toE (WP.weak ?_))⟩
              clear t_ob t_at t_lc t_dp t_lh t_lo t_lb t_dt t_lt t_pl t_no
              obtain ⟨t_ob, t_at, t_lc, t_dp, t_lh, t_lo, t_lb, t_dt, t_lt, t_pl, t_no⟩ := id (S3.other (x := (ps.map fun p => V.ref p.1) ++ [.ref ra]) T.uso)
              dsimp only at t_ob t_at t_lc t_dp t_lh t_lo t_lb t_dt t_lt
              (refine xs_cons ?_; refine xv_expr ?_; refine ev_meth (fv := .builtin "list.append") ?_; refine ev_loc (by eq_refl) ?_; refine ⟨_, gm_append (by walk_at "ru lk"), kp_builtin, ?_⟩; refine spl_cons ?_; refine ev_loc (by eq_refl) ?_; refine spl_nil ?_; refine cl_append (by walk_at "ru lk") (by walk_at "ru len") ?_; refine xs_cons ?_; refine xv_expr ?_; refine ev_meth (fv := .ref 99) ?_; refine ev_loc (by eq_refl) ?_; refine ⟨_, gm_own (Pk.kc (by assumption) (by walk_at "ru two")) (by walk_at "ru lk") (by walk_at "ru lk") (by rfl) (Pk.find (by assumption) (by walk_at "ru two") (by exact fm138_add _) (by exact fm184_add _)) (Pk.ty (by assumption) (by exact ty_add _)), .inr (.inr (by exact Pk.kp (by assumption) (by exact kp_add _))), ?_⟩; refine spl_cons ?_; refine ev_loc (by eq_refl) ?_; refine spl_nil ?_; refine CD.cl ?_)
              refine add_d (n := n + 3) (v := at0 v2 [] cl) (fs := ⟨_, _, τ3.setLi us0 ((ps.map fun p => V.ref p.1) ++ [.ref ra])⟩) P' U2 (S3.other (x := (ps.map fun p => V.ref p.1) ++ [.ref ra]) T.uso) ⟨T.hZ.lim, rfl, rfl, rfl, T.hZ.beg, T.hZ.blen, T.hZ.emp⟩ oc n14 T.kl fun k5 τ5 U5 S5 O5 W5 kl5 => ?_
              (refine xs_nil ?_)
              exact ⟨_, FS.Le.mk' (by walk_at "ru all") (by walk_at "ru all") HS.Le.refl, hGq.out _ _ ⟨k5, _, _, τ5, T.step hc oc n14 S3 O3 hra fra hu U5 S5 O5 W5 kl5⟩⟩
          · obtain ⟨zz, f5, F5, t5, r5, rfl, la, k2, v2, ps, τ2, T⟩ := z
            cases r5
            show wpAny _ _ _ _ _ _
            refine wpAny_mono (WP.run1 (β := Fw) (rel := FwR) (Q := TrQ fs.σ x0 d0 cls log goal) F5 ?_) (fun fl s6 z => po_mono z ((tk3.trans t4).trans t5) fun zz zz q => q) (fun zz zz z => z.elim)
            clear S U S1 U1
            have hb2 : τ2.li b = some (log.map cv) := T.off.li b _ (fun q => hbo (q.elim (fun q => .inr (.inl q)) .inl)) hb
            have bU : b ≠ us0 := fun e => by
              have := T.usf.li; rw [← e] at this; rw [this] at hb; cases hb
            have fw : FW cls (log ++ [goal]) (-1) := .inl ⟨rfl, fun i c hc => T.fol i c (List.getElem?_eq_some_iff.mp hc).1 hc⟩
            have psl : ps.length = log.length + 1 := by have := T.len; simpa using this
            have eus := T.eus
            refine WP.weak ?_
            (refine xs_cons ?_; refine xv_name ?_)
            refine ev_dict1 (kI _) (fun D frD => ?_)
            (refine ev_bin ?_; refine ev_cell (by eq_refl) (by eq_refl) ?_; refine ev_bcall (by exact Pk.ns (by assumption) (by exact gs_len _)) (by exact bb_len) ?_; refine spl_cons ?_; refine ev_loc (by eq_refl) ?_; refine spl_nil ?_; refine cl_len (by walk_at "ru lk") (by walk_at "ru len") ?_; refine op_add ?_)
            refine ⟨_, rfl, ?_⟩
            (refine ev_bool ?_)
            refine ⟨dm_same, ?_⟩
            (refine st_loc ?_; refine xs_cons ?_)
            rw [setDm_setDm]
            refine xv_forW P'.h (sr_range3 (fun Q f h => ev_bty (Pk.ns P' (by rfl)) (by rfl) h) ?_)
            (refine spl_cons ?_; refine ev_bcall (by exact Pk.ns (by assumption) (by exact gs_len _)) (by exact bb_len) ?_; refine spl_cons ?_; refine ev_loc (by eq_refl) ?_; refine spl_nil ?_; refine cl_len (by walk_at "ru lk") (by walk_at "ru len") ?_; refine spl_cons ?_; refine ev_un ?_; refine ev_int ?_; refine op_neg ?_; refine spl_cons ?_; refine ev_un ?_; refine ev_int ?_; refine op_neg ?_; refine spl_nil ?_)
            refine ⟨log.length, by simp, by lia, ?_⟩
            have lgok : ∀ g, (log ++ [goal]).getLast? = some g → Sm g := fun g h => by simp at h; subst h; exact sg
            have kz : ∀ {lo : Nat} {ks : List Int}, NK cls (log ++ [goal]) (ps.map (·.2)) lo ks → ks.length ≤ 14 := fun {lo ks} N => by
              have := nodup_le (n := cls.length + log.length + 1) N.nd (fun k hk => by have := N.rng k hk; simp at this; lia)
              lia
            refine ⟨TrN cls (log ++ [goal]) goal (ps.map (·.2)) us0 a b x0 D τ2,
              ⟨_, by simpa using NK.start (cls := cls) (sm := log ++ [goal]) (ms := ps.map (·.2)) (by simp) lgok⟩, fun zz zz zz => trivial, fun i w f hv hf Gq hGq => ?_, fun f hf => ?_⟩
            · obtain ⟨kvs, N⟩ := hf
              rw [List.getElem?_map] at hv
              obtain ⟨i', hi', rfl⟩ := Option.map_eq_some_iff.mp hv
              obtain ⟨hi, e⟩ := List.getElem?_eq_some_iff.mp hi'
              simp at hi e
              subst e
              obtain ⟨j, hj⟩ : ∃ j, j = log.length - i := ⟨_, rfl⟩
              rw [show ((log.length : Int) + (i : Int) * -1) = (j : Int) from by lia]
              have lo1 : (log ++ [goal]).length - i = j + 1 := by simp; lia
              have lo2 : (log ++ [goal]).length - (i + 1) = j := by simp; lia
              rw [lo1] at N
              obtain ⟨p, hp⟩ : ∃ p, ps[j]? = some p := ⟨_, List.getElem?_eq_getElem (by lia)⟩
              obtain ⟨c, hc⟩ : ∃ c, (log ++ [goal])[j]? = some c := ⟨_, List.getElem?_eq_getElem (by simp; lia)⟩
              have pl := T.pl p (List.mem_of_getElem? hp)
              have hm : (ps.map (·.2))[j]? = some p.2 := by rw [List.getElem?_map, hp]; rfl
              have us := T.uses j p.2 c hm hc
              have ul14 : p.2.length ≤ 14 := by
                have := nodup_le (n := cls.length + log.length + 1) us.nd (fun k hk => by have := us.rng k hk; simp at this; lia)
                lia
              have kl14 := kz N
              rw [List.length_map] at kl14
              (refine as_name ?_; refine st_loc ?_; refine xs_cons ?_; refine xv_if ?_; refine tv_cmp ?_; refine ev_bin ?_; refine ev_cell (by eq_refl) (by eq_refl) ?_; refine ev_loc (by eq_refl) ?_; refine op_add ?_; refine ev_loc (by eq_refl) ?_; refine di_in (by walk_at "ru lk") ?_)
              rw [vat_keys]
              refine ⟨fun hin => ?_, fun hin => ?_⟩
              · (refine xs_cons ?_; refine xv_expr ?_; refine ev_meth (fv := .builtin "dict.update") ?_; refine ev_loc (by eq_refl) ?_)
                refine ⟨_, gm_update (kI _) dm_same, kp_builtin, ?_⟩
                (refine spl_cons ?_)
                refine ev_dc (kI _) P'.h (cl := []) (sr_of ?_) (by rfl) (by walk_at "ru cl") (by simp)
                (refine ev_sub ?_; refine ev_loc (by eq_refl) ?_; refine ev_loc (by eq_refl) ?_)
                refine op_getN (vs := ps.map fun p => V.ref p.1) (i := j) (v := .ref p.1) (by walk_at "ru lk") (by lia) (by rw [List.getElem?_map, hp]; rfl) ?_
                have epl := pl.1
                (refine sv_list (by walk_at "ru lk") ?_)
                intro D2 frD2
                have DD2 : D ≠ D2 := frD2.neDm dm_same
                have hin : ((cls.length + j : Nat) : Int) ∈ kvs.map (·.1) := by simpa using hin
                refine ⟨fun q f => ∃ m, f = ⟨m, [("many", .int cls.length), ("__class__", .ref 184)], (τ2.setDm D (.di kvs)).setDm D2 (.di ((p.2.take q).map fun i => (i, .bool true)))⟩, ⟨_, rfl⟩, fun q f hq => ?_, fun L2 q v f hv hq => ?_, fun f hq => ?_⟩
                · obtain ⟨m, rfl⟩ := hq
                  exact epl
                · obtain ⟨m, rfl⟩ := hq
                  rw [List.getElem?_map] at hv
                  obtain ⟨l, hl, rfl⟩ := Option.map_eq_some_iff.mp hv
                  (refine ts_nil ?_)
                  refine ⟨fun zz => ?_, fun h => absurd h (by simp)⟩
                  (refine ev_loc (by eq_refl) ?_)
                  refine ⟨l, rfl, ?_⟩
                  (refine ev_bool ?_)
                  refine ⟨_, dm_same, by simp; lia, ("one", .int l) :: m, ?_⟩
                  dsimp only
                  rw [setDm_setDm]
                  refine fs_eq ?_
                  have nl : l ∉ ((p.2.take q).map fun i => ((i, V.bool true) : Int × V)).map (·.1) := by
                    rw [List.map_map]
                    simp only [Function.comp_def, List.map_id']
                    intro hmem
                    obtain ⟨q', hq', e⟩ := List.mem_iff_getElem.mp hmem
                    simp at hq'
                    obtain ⟨hq2, e2⟩ := List.getElem?_eq_some_iff.mp hl
                    rw [List.getElem_take] at e
                    exact List.pairwise_iff_getElem.mp us.nd q' q (by lia) hq2 (by lia) (e.trans e2.symm)
                  rw [vst_new nl, take_snoc hl, List.map_append]; rfl
                · obtain ⟨m, rfl⟩ := hq
                  rw [List.length_map, List.take_length]
                  (refine spl_nil ?_)
                  refine cl_update (kI _) (dm_ne DD2 dm_same) dm_same DD2 (by simp; lia) ?_
                  (refine xs_nil ?_; refine xs_nil ?_; refine OutTo.out (by assumption) _ _ ?_)
                  obtain ⟨nk, mk⟩ := vmg_keys (more := p.2.map fun i => ((i, V.bool true) : Int × V)) N.nd
                  refine ⟨⟨_, _, τ2.setDm D (.di (vmg kvs (p.2.map fun i => (i, .bool true))))⟩, FS.Le.mk' (by walk_at "ru all") (by walk_at "ru all") ?_, _, by rw [lo2]; exact N.add T.uses hin hm hc nk fun x => by rw [mk]; simp [Function.comp_def]⟩
                  have e1 : (τ2.setDm D (.di kvs)).Le ((τ2.setDm D (.di kvs)).setDm D2 (.di (p.2.map fun i => (i, .bool true)))) := HS.Le.refl.offDm frD2.dm
                  have e2 := e1.onDm (a := D) (d := .di (vmg kvs (p.2.map fun i => (i, .bool true))))
                  rw [setDm_setDm] at e2
                  exact e2
              · (refine xs_nil ?_; refine xs_nil ?_; refine OutTo.out (by assumption) _ _ ?_)
                refine ⟨_, FS.Le.mk' (by walk_at "ru all") (by walk_at "ru all") HS.Le.refl, kvs, by rw [lo2]; exact N.skip (by simpa using hin)⟩
            · obtain ⟨kvs, N⟩ := hf
              have N0 : NK cls (log ++ [goal]) (ps.map (·.2)) 0 (kvs.map (·.1)) := by simpa using N
              have kl14 := kz N0
              rw [List.length_map] at kl14
              (refine xs_cons ?_; refine xv_name ?_; refine ev_butLastT ?_; refine ev_bcall (by exact Pk.ns (by assumption) (by exact gs_sorted _)) (by exact bb_sorted) ?_; refine spl_cons ?_; refine ev_loc (by eq_refl) ?_; refine spl_nil ?_)
              refine cl_sortedD P'.h dm_same (by lia) fun a1 mss fr1 hperm hsort => ?_
              have m14 : mss.length ≤ 14 := by rw [hperm.length_eq, List.length_map]; exact kl14
              (refine ev_un ?_; refine ev_int ?_; refine op_neg ?_)
              refine ⟨a1, mss.map .int, rfl, li_same, by simp; lia, rfl, fun b2 fr2 => ?_⟩
              (refine st_loc ?_; refine xs_cons ?_; refine xv_ret ?_; refine ev_tuple ?_; refine spl_cons ?_; refine ev_tcall (by exact Pk.ns (by assumption) (by exact gs_tuple _)) (by exact bb_tuple) ?_; refine spl_cons ?_)
              rw [List.length_map, ← List.map_take]
              generalize hpl : mss.take (mss.length - 1) = pls
              have p14 : pls.length ≤ 14 := by rw [← hpl]; simp; lia
              refine ev_lcP P'.h (cl := [("many", L' + 1)]) (by rfl) (sr_of ?_) (by walk_at "ru cl") (by simp)
              (refine ev_loc (by eq_refl) ?_; refine sv_list (by walk_at "ru lk") ?_)
              intro D3 fr3
              have b23 : b2 ≠ D3 := fr3.neLi li_same
              refine ⟨fun w => match w with | .int k => decide (k < cls.length) | _ => false, fun v => v, fun zz => by walk_at "ru lk", by simp; lia, fun L2 q w ws hv => ?_, ?_⟩
              · rw [List.getElem?_map] at hv
                obtain ⟨l, hl, rfl⟩ := Option.map_eq_some_iff.mp hv
                (refine ts_one ?_; refine tv_cmp ?_; refine ev_loc (by eq_refl) ?_; refine ev_cell (by eq_refl) (by eq_refl) ?_; refine cm_lt ?_)
                refine ⟨rfl, rfl, fun zz => ?_⟩
                (refine ev_loc (by eq_refl) ?_)
                exact ⟨rfl, rfl⟩
              · rw [filter_ints pls _ (fun l => decide (l < cls.length)) (fun i => rfl)]
                (refine spl_nil ?_)
                refine cl_tupL li_same (by have := List.length_filter_le (fun (l : Int) => decide (l < cls.length)) pls; rw [List.length_map]; lia) ?_
                (refine spl_cons ?_; refine ev_tcall (by exact Pk.ns (by assumption) (by exact gs_tuple _)) (by exact bb_tuple) ?_; refine spl_cons ?_)
                refine ev_lcP P'.h (cl := [("many", L' + 1)]) (by rfl) (sr_of ?_) (by walk_at "ru cl") (by simp)
                (refine ev_loc (by eq_refl) ?_; refine sv_list (by walk_at "ru lk") ?_)
                intro D4 fr4
                have b24 : b2 ≠ D4 := fr4.neLi (li_ne b23 li_same)
                refine ⟨fun w => match w with | .int k => decide (k ≥ cls.length) | _ => false, fun w => match w with | .int k => .int (k - cls.length) | w => w, fun zz => by walk_at "ru lk", by simp; lia, fun L2 q w ws hv => ?_, ?_⟩
                · rw [List.getElem?_map] at hv
                  obtain ⟨l, hl, rfl⟩ := Option.map_eq_some_iff.mp hv
                  (refine ts_one ?_; refine tv_cmp ?_; refine ev_loc (by eq_refl) ?_; refine ev_cell (by eq_refl) (by eq_refl) ?_; refine cm_ge ?_)
                  refine ⟨rfl, rfl, fun zz => ?_⟩
                  (refine ev_bin ?_; refine ev_loc (by eq_refl) ?_; refine ev_cell (by eq_refl) (by eq_refl) ?_; refine op_sub ?_)
                  exact ⟨rfl, rfl⟩
                · have eF : ((pls.map V.int).filter fun w => match w with | .int k => decide (k ≥ (cls.length : Int)) | _ => false).map (fun w => match w with | .int k => V.int (k - cls.length) | w => w) = (((pls.filter fun (k : Int) => decide (k ≥ cls.length)).map fun (k : Int) => k - cls.length)).map V.int := by
                    rw [List.filter_map, List.map_map, List.map_map]; rfl
                  have lF := List.length_filter_le (fun (k : Int) => decide (k ≥ cls.length)) pls
                  dsimp only
                  rw [eF]
                  (refine spl_nil ?_)
                  refine cl_tupL li_same (by rw [List.length_map, List.length_map]; lia) ?_
                  (refine spl_nil ?_; refine ⟨by walk_at "ru len", ?_⟩; with_reducible refine xq_ret ?_)
                  have l1 : τ2.Le (τ2.setDm D (.di kvs)) := HS.Le.refl.offDm frD.dm
                  have l2 := l1.offLi (a := a1) (x := mss.map .int) (l1.fresh fr1).li
                  have l3 := l2.offLi (a := b2) (x := pls.map .int) (l2.fresh fr2).li
                  have l4 := l3.offLi (a := D3) (x := (pls.filter fun (l : Int) => decide (l < cls.length)).map .int) (l3.fresh fr3).li
                  have l5 := l4.offLi (a := D4) (x := ((pls.filter fun (k : Int) => decide (k ≥ cls.length)).map fun (k : Int) => k - cls.length).map .int) (l4.fresh fr4).li
                  have tp := trimP_of T.uses (by rw [List.length_map]; exact psl) N0 hperm hsort
                  rw [hpl] at tp
                  exact ⟨⟨[], [], τ2⟩, FS.Le.mk' trivial trivial l5, _, _, rfl, tp, fw, T.off⟩
      · obtain ⟨zz, f5, F5, t5, r5, kept, late, rfl, p1, p2, p3⟩ := z
        obtain ⟨y, rfl, r5⟩ := r5
        exact ⟨kept, late, f5.σ, F.leave (F5.lessR up F₁.base) (t₁.trans t5), t₁.trans t5, r5, p1, p2, p3⟩
      · obtain ⟨f', ea, dx, B, j, rfl, ⟨p1, p2, p3⟩, X⟩ := z _ (Lc.up up)
        have tk := X.tk (Lc.up up) tks
        exact XP.out F L rfl (t₁.trans tk) (X.less up F₁.base) fun s6 t6 X6 => ⟨ea, dx, B, j, f'.σ, rfl, p1, p2, t6, p3, X6⟩
end
-- RE17
noncomputable section
open PySem PySem.W PySem.Calls PyProof.Rows PySem.SeqAt
set_option maxRecDepth 100000
theorem FR.reM {C : Cx} {fs : FS} {R : Addr → Option Obj} {s : Shared} (F : FR C R fs s) {h' : Heap} {t : Nat} {mv' : Str → Option Value}
    (hn' : h'.Ns C.env.locals mv') (sb : Heap.SameBut C.env.locals s.heap h') :
    FR C R { fs with m := [] } { s with heap := h', toks := t } ∧ TK s.heap h' := by
  obtain ⟨mv, hn, e⟩ := F.loc
  have n : NoTup s.heap C.env.locals := F.ownNoTup (.inl rfl)
  have tk := (sb_keepBut sb).tk n
  obtain ⟨oL, zz, zz, hoL, hdL, zz⟩ := id hn
  refine ⟨⟨F.gens, F.os, F.base, fun b o q => (sb_keepBut sb) b o (fun z => by rw [z, F.rl] at q; cases q) (F.rk b o q), ?_, F.rl, ⟨_, hn', fun y w q => by cases q⟩, fun y c h => ?_, F.apart, F.names, F.co⟩, tk⟩
  · refine F.hr.but (sb_keepBut sb) (by rw [rp_own (.inl rfl), hoL]; simp) n (fun b hb => ?_) (fun o q => by rw [rp_own (.inl rfl)] at q; exact q)
    by_cases x : own C.env b
    · rw [rp_own x, rp_own x]; exact sb.2 b hb
    · rw [rp_not x, rp_not x]
  · obtain ⟨v₀, ⟨o, ho, d⟩, q⟩ := F.cells y c h
    refine ⟨v₀, ⟨o, (sb_keepBut sb) _ _ (fun z => ?_) ho, d⟩, opt_mono tk q⟩
    rw [z, hoL] at ho; cases ho; rw [hdL] at d; cases d
set_option maxHeartbeats 1000000 in
inductive PfAt (ea dx : Addr) (j : Int) (h : Heap) : Prop
  | mk (oe od : Obj) (mv : Str → Option Value) (tj : Tok) (he : h.get? ea = some oe) (hod : h.get? dx = some od) (hc : oe.cls = .ref 69) (hd : oe.dict = some dx) (hn : notCls oe = true) (hnd : ∀ es ep, oe.data ≠ .dict es ep) (ns : h.Ns1 dx mv) (st : mv "step" = some (.int j tj))
theorem catch_pf {C : Cx} {n : Nat} (P : Pk C n) {B : Heap} {R : Addr → Option Obj} {outer : List Env} {fs : FS} {s : Shared} {ea dx : Addr} {j : Int} {np p1 p2 p3 pos : Pos} {Q : Flow → Shared → Prop} {E : Value → Shared → Prop}
    (L : FL C R outer) (X : XP B C R outer fs ea dx j (some .none) s) (hrl : R C.env.locals = none)
    (h : ∀ s' t', FR C (Rm R outer) { fs with m := [] } s' → TK s.heap s'.heap → (∀ a ∈ frs outer, ∀ o, R a = some o → ∃ sl, s'.heap.get? a = some { o with slots := sl }) → Q (.ret (.int j t')) s')
    (hx : nsIn C.W.K mainGlobals "ProofFault" = some (some (.ref 69))) (hk : C.env.scope.kind = .function := by rfl) (hxk : C.env.kindOf "ProofFault" = some .globalImplicit := by rfl) (hG : C.env.globals = mainGlobals := by rfl)
    (hl : C.env.kindOf "fault" = some .local := by rfl) (hp : (C.env.scope.kind == .class || (C.env.scope.kind == .module && C.env.locals != C.env.globals)) = false := by rfl) :
    wpAny (Mo C) C.A (noteFrame (.ref ea) C.env) (fun zz s₂ => wpAny (Mo C) C.A (setFlight (.ref ea) none) (fun zz s₃ => wpAny (Mo C) C.A (handleBy (.ref ea) C.env [.ExceptHandler (some (.Name "ProofFault" np)) (some "fault") [.Return (some (.Attribute (.Name "fault" p1) "step" p2)) p3] pos]) Q E s₃) E s₂) E s := by
  refine exc_note L.fs L.f X.ex (.inr rfl) fun h1 x1 u1 => ?_
  have X1 := X.move x1 u1
  refine exc_flight (fr := none) x1 fun h2 x2 u2 => ?_
  have X2 := X1.move x2 u2
  refine wpAny_handleBy_cons (codeAny_handlers_test ?_) (by intro q; cases q)
  refine Name_function_global hk hxk (loadGlobal_global (hG ▸ C.W.hg.keeps X2.fr.keepBase) (mg_of C.W.kin C.W.hg hx) ?_) (by decide)
  have inst : ∀ {fl : Option Value} {s' : Shared}, XP B C R outer fs ea dx j fl s' → PfAt ea dx j s'.heap := fun {fl s'} Y => by
    obtain ⟨oe, vs, he, hcls, hdict, hdat, zz⟩ := Y.ex.2.2.2
    obtain ⟨mv, tj, hn, hst⟩ := Y.ns
    obtain ⟨od, es, ep, hod, r⟩ := id hn
    exact ⟨oe, od, mv, tj, he, hod, hcls, hdict, by unfold notCls; rw [hdat], fun es ep q => (by rw [hdat] at q; cases q), hn, hst⟩
  obtain ⟨oe, od, zz, zz, he, hod, hcls, hdict, hno, zz⟩ := inst X2
  have LT : Looks (Mo C) h2 (typeOf (.ref ea)) (.ref 69) := InstAt.type (od := some od) ⟨he, hcls, hno, by rw [hdict]; exact hod⟩
  refine (exm_one (M := Mo C) X2.fr.k LT (c := .ref 69) (b := true) (by rw [P.K]; rfl)).at ?_
  refine codeAny_handlers_suite_as ?_
  refine exc_flight (fr := none) x2 fun h3 x3 u3 => ?_
  have X3 := X2.move x3 u3
  obtain ⟨oe3, od3, mvD, tj, he3, hod3, hcls3, hdict3, hno3, hnd3, hnD, hst⟩ := inst X3
  obtain ⟨mv, hn, hm⟩ := X3.fr.loc
  obtain ⟨oL, esL, epL, hoL, hdL, zz⟩ := id hn
  have hBL : B.get? C.env.locals = none := by
    obtain ⟨zz, ⟨L0, o, q1, q2, zz⟩, zz⟩ := x3.2.2.1
    rw [L.f] at q1; cases q1; exact q2
  have neE : ea ≠ C.env.locals := fun q => by
    rw [q] at he3
    have e := he3.symm.trans hoL
    cases e
    exact hnd3 _ _ hdL
  have neD : dx ≠ C.env.locals := fun q => by
    have := X3.cd od3 hod3
    rw [q, hBL] at this; cases this
  refine wpAny_storeName_local hl hn (fun h4 hn4 sb4 => ?_) hp
  obtain ⟨F4, tk4⟩ := X3.fr.reM (t := s.toks + 1) hn4 sb4
  have he4 : h4.get? ea = some oe3 := (sb4.2 ea neE).trans he3
  have hod4 : h4.get? dx = some od3 := (sb4.2 dx neD).trans hod3
  have lk : lookIn "step" od3 = some (some (.int j tj)) := by rw [lookIn_ns hnD.ns hod3, hst]
  refine wpAny_execs_cons (wpAny_Return_some (Attribute_any_ (wpAny_Name (wpAny_loadName_local (v := .ref ea) hk hl hn4 (by simp) ?_) (by decide))))
  obtain ⟨nm, q, N, bs, hdct, sn, sub, ab, col, dd, k0, k1, k2, k3, k5, hC⟩ := F4.c69 P
  refine exc_get (K := C.W.K) (od := some od3) F4.k ⟨he4, hcls3, hno3, by rw [hdict3]; exact hod4⟩ (by rw [P.K]; rfl) (by rw [P.K]; rfl) hC (findObj_own (attr := none) (by rw [P.K]; rfl) (by rw [P.K]; rfl) rfl lk) rfl ?_
  refine wpAny_nameGoes hl hn4 hp (fun h5 m5 hn5 sb5 => ?_)
  obtain ⟨F5, tk5⟩ := F4.reM (t := s.toks + 1 + 1 + 1) hn5 sb5
  refine h _ tj F5 ((((uts_tk u1).trans (uts_tk u2)).trans (uts_tk u3)).trans (tk4.trans tk5)) fun a ha o hR => ?_
  obtain ⟨sl, hs⟩ := X3.up a ha o hR
  have nL : a ≠ C.env.locals := fun q => by rw [q, hrl] at hR; cases hR
  exact ⟨sl, (sb5.2 a nL).trans ((sb4.2 a nL).trans hs)⟩
end
-- RE18
noncomputable section
open PySem PySem.W PySem.Calls PyProof.Rows PySem.SeqAt
set_option maxRecDepth 100000
theorem Off.le {A : Addr → Prop} {σ τ : HS} (h : Off A σ τ) (f : ∀ b, A b → σ.Fresh b) : σ.Le τ :=
  ⟨fun a v e => h.li a v (fun q => by rw [(f a q).li] at e; cases e) e, fun a v e => h.dm a v (fun q => by rw [(f a q).dm] at e; cases e) e, fun a v e => h.ob a v (fun q => by rw [(f a q).ob] at e; cases e) e, fun a v e => h.st a v (fun q => by rw [(f a q).st] at e; cases e) e⟩
theorem meth_run {C : Cx} {fs : FS} {R : Addr → Option Obj} {s : Shared} {o : PySem.Expr} {name : Str} {apos pos : Pos} {args : List PySem.Expr} {fv : Value} {Qv : Value → Shared → Prop} {E : Value → Shared → Prop} (F : FR C R fs s)
    (h : EV C o (fun v f1 => ∃ first, GM C name v fv first f1 ∧ KP C fv ∧ SPL C pos args (fun vs f2 => ∀ s3 xs, FR C R f2 s3 → TK s.heap s3.heap → LR s3.heap (first ++ vs) xs → wpAny (Mo C) C.A (call fv xs) Qv E s3) f1) fs)
    (hp : (backTo pos (starEach args C.env)).any (·.1) = false := by rfl)
    (hpl : ∃ pl : Sem Bool, eval (.Call (.Attribute o name apos) args [] pos) C.env = (do
      let ov ← eval o C.env
      standAt apos.atName
      let (f, first) ← holding [ov] (getMethod ov name pl)
      callWith pos f first (backTo pos (starEach args C.env)) (backToKw pos (keywordEach [] C.env))) := by exact ⟨_, rfl⟩) :
    wpAny (Mo C) C.A (eval (.Call (.Attribute o name apos) args [] pos) C.env) Qv E s := by
  obtain ⟨pl, he⟩ := hpl
  refine methodCall_KW (pl := pl) (wp_toX (h R s F) fun a v f1 s1 F1 t1 r1 q1 => ?_) he
  obtain ⟨first, g, kp, q1⟩ := q1
  refine wpAny_mono (g pl R s1 a (fun r s2 => wpAny (Mo C) C.A (callWith pos r.1 r.2 (backTo pos (starEach args C.env)) (backToKw pos (keywordEach [] C.env))) Qv E s2) F1 r1 fun s2 r F2 t2 l2 => ?_) (fun zz zz z => z) fun zz zz z => z.elim
  refine callWith_V kp hp (wp_toX (q1 R s2 F2) fun vs ws f3 s3 F3 t3 r3 q3 => ⟨F3.k, ?_⟩)
  exact q3 s3 _ F3 ((t1.trans t2).trans t3) ((l2.mono t3).append r3)
inductive XL (C : Cx) (R : Addr → Option Obj) (outer : List Env) (s₁ : Shared) (P : Int → FS → Prop) (e : Value) (s' : Shared) : Prop
  | mk (ea dx : Addr) (B : Heap) (j : Int) (f' : FS) (e1 : e = .ref ea) (p : P j f') (t : TK s₁.heap s'.heap) (X : XP B C R outer f' ea dx j (some .none) s')
inductive LtQ (σ0 : HS) (kept late : List Int) (fl : Fw) (f : FS) : Prop
  | mk (A B : Addr) (e : fl = .ret (.tup [.ref A, .ref B])) (fA : σ0.Fresh A) (fB : σ0.Fresh B) (n : A ≠ B) (eA : f.σ.li A = some (kept.map .int)) (eB : f.σ.li B = some (late.map .int)) (l : σ0.Le f.σ)
theorem run_xl {C : Cx} {f : FS} {α : Type} {R : Addr → Option Obj} {s₁ s : Shared} {t : Sem α} {Qf : α → Shared → Prop} {E : Value → Shared → Prop} (outer : List Env) (P : Int → FS → Prop) (Q1 : α → Shared → Prop) (F : FR C R f s₁)
    (h : wpAny (Mo C) C.A t Q1 (XL C R outer s₁ P) s) (h1 : ∀ a s', Q1 a s' → Qf a s') (h2 : ∀ e s', XL C R outer s₁ P e s' → E e s') : wpAny (Mo C) C.A t Qf E s := wpAny_mono h h1 h2
theorem TrimP.kl {cls log : List (List Int)} {goal kept late : List Int} (t : TrimP cls log goal kept late) : kept.length ≤ cls.length ∧ late.length ≤ log.length :=
  ⟨nodup_le (t.ka.imp fun h => by lia) t.kr, nodup_le (t.la.imp fun h => by lia) t.lr⟩
theorem as_run {C : Cx} {R : Addr → Option Obj} {fs : FS} {s₀ s : Shared} {t : PySem.Expr} {v : V} {a : Value} {l : List PySem.Stmt} {Q : Fw → FS → Prop} {Qf : Flow → Shared → Prop} {E : Value → Shared → Prop} (F : FR C R fs s) (tk : TK s₀.heap s.heap) (r : VR s.heap v a) (h : AS C t v (fun zz f => XS C l Q f) fs)
    (k : ∀ fl s', PO C R s₀ FwR Q fl s' → Qf fl s') : wpAny (Mo C) C.A (assign t C.env a) (fun zz s1 => wpAny (Mo C) C.A (execs l C.env) Qf E s1) E s := by
  refine wpAny_mono (h R s a F r) (fun zz s1 z => ?_) fun zz zz z => z.elim
  obtain ⟨zz, f1, F1, t1, zz, q1⟩ := z
  exact wpAny_mono (q1 R s1 F1) (fun fl s' z => k fl s' (po_mono z (tk.trans t1) fun zz zz q => q)) fun zz zz z => z.elim
set_option maxHeartbeats 2000000 in
theorem ltrim_d {C : Cx} {n : Nat} (P : Pk C (n + 7)) (G : Pg C) (hfr : C.A.frames = some [C.env]) (hf : C.env.frame = some C.env.locals) (hk : C.env.scope.kind ≠ .module) {fs : FS} {a b : Addr} {cls log : List (List Int)} {goal : List Int} {Q : V → FS → Prop}
    (ha : fs.σ.li a = some (cls.map cv)) (hb : fs.σ.li b = some (log.map cv)) (lim : Lim (cls ++ (log ++ [goal]))) (sg : Sm goal)
    (h1 : ∀ (j : Int) τ, 0 ≤ j → FW cls (log ++ [goal]) j → fs.σ.Le τ → Q (.int j) { fs with σ := τ })
    (h2 : ∀ A B (kept late : List Int) τ, fs.σ.Fresh A → fs.σ.Fresh B → A ≠ B → τ.li A = some (kept.map .int) → τ.li B = some (late.map .int) → TrimP cls log goal kept late → FW cls (log ++ [goal]) (-1) → fs.σ.Le τ → Q (.tup [.ref A, .ref B]) { fs with σ := τ }) :
    CD C (.ref 231) [.ref a, .ref b, cv goal] Q fs := fun R s xs F l => by
  have hroom : C.A.depth < recursionLimit := by have := P.d; have : recursionLimit = 1000 := rfl; lia
  have L : FL C R [] := ⟨hfr, hf, hk, fun env he => by cases he⟩
  refine call_raw (ns := ["clauses", "log", "goal"]) (clN := []) (k0 := []) F l (P.lk rfl) (P.to (p := fun K => codeIn K _ _ = true) (by rfl)) hroom (of3 fun zz zz zz => rfl) rfl (by decide) (fun x c m => by cases m) rfl (by simp) (fun x v e => by cases e) (by decide) (fun L' s₁ F₁ t₁ zz => ?_)
  have Lc := FL.callee F L F₁ (by decide)
  have P' := F₁.pk P
  have G' := F₁.pg G
  refine wpAt_of_wpAny (wpAny_mono (Q := fun fl s' => ∃ v, fl = .ret v ∧ PO C R s VR Q v s') (E := fun zz zz => False) ?_ (fun fl s' ⟨v, e, z⟩ => by subst e; exact z) fun zz zz z => z.elim)
  refine wpAny_execs_cons (wpAny_mono (Q := fun fl s' => ∃ v, fl = .ret v ∧ PO C R s VR Q v s') (E := fun zz zz => False) (wpAny_Try_except ?_) (fun fl s' ⟨v, e, z⟩ => by subst e; exact ⟨v, rfl, z⟩) fun zz zz z => z.elim)
  refine run_xl [C.env] (fun j f' => 0 ≤ j ∧ FW cls (log ++ [goal]) j ∧ fs.σ.Le f'.σ) (fun fl s' => ∃ v, fl = .ret v ∧ PO C R s VR Q v s') F₁ ?_ (fun fl s' ⟨v, e, z⟩ => by subst e; exact ⟨v, rfl, z⟩) (fun e s' z => ?_)
  · refine wpAny_execs_cons (Assign_Tuple (meth_run (fv := .ref 181) F₁ ?_) (by rfl) (by rfl))
    (refine ev_gcall (by exact Pk.ns (by assumption) (by exact gs_Trimmer _)) (by exact Pk.kp (by assumption) (by exact kp_Trimmer _)) ?_; refine spl_nil ?_)
    refine cl_make (fI := 165) (by rw [P'.K]; rfl) (by rw [P'.K]; rfl) (by rw [P'.K]; rfl) fun x dx xs0 fx fd ne => ?_
    refine tinit_d (C := (C.dn _).under _) (n := n + 2) P'.under ⟨G'.pg⟩ ob_same (dm_ob dm_same) (fun u v τ e1 e2 e3 U S ow off => ?_)
    obtain ⟨x1, C1, d1, a3, a4, a5, a6, a7, a8, a9, k0⟩ := u
    dsimp only at e1 e2 e3
    subst x1 C1 d1
    dsimp only at off
    have le0 : fs.σ.Le ((fs.σ.setDm dx (.at [])).setOb x (184, dx)) := (HS.Le.refl.offDm fd.dm).offOb fx.ob
    have off1 : Off (inA dx x) fs.σ τ := (HS.Le.off le0).trans off
    have frA : ∀ b, inA dx x b → fs.σ.Fresh b := fun b q => by rcases q with rfl | rfl; exact fd; exact fx
    have le1 := off1.le frA
    have ha1 := le1.li a _ ha
    have hb1 := le1.li b _ hb
    have nOwn : ∀ {c : Addr} {y : List V}, fs.σ.li c = some y → ¬ Own _ c := fun {c y} e q => by
      rcases ow c q with q | q | q
      · rw [q, fx.li] at e; cases e
      · rw [q, fd.li] at e; cases e
      · have := q.li; rw [show ((fs.σ.setDm dx (.at [])).setOb x (184, dx)).li c = fs.σ.li c from rfl, e] at this; cases this
    refine ⟨rfl, _, gm_own (Pk.kc P' (.inr rfl)) S.ob S.at' (by rfl) (Pk.find1 P' rfl (by rfl)) (Pk.ty P' (by exact ty_trimmed _)), .inr (.inr (Pk.kp P' (by exact kp_trimmed _))), ?_⟩
    (refine spl_cons ?_; refine ev_loc (by eq_refl) ?_; refine spl_cons ?_; refine ev_loc (by eq_refl) ?_; refine spl_cons ?_; refine ev_loc (by eq_refl) ?_; refine spl_nil ?_)
    intro s3 xs3 F3 t3 l3
    refine wpAny_call (codeAny_mono (trimmed_x (n := n + 1) (u := ⟨x, 184, dx, a3, a4, a5, a6, a7, a8, a9, k0⟩) P' G' F3 Lc (show LR s3.heap [.ref x, .ref a, .ref b, cv goal] xs3 from l3) U rfl S ha1 hb1 (nOwn ha) (nOwn hb) lim sg) fun r s4 z => ?_)
    rcases r with e | (zz | zz | zz | w)
    · obtain ⟨ea, dx', B, j, τ2, rfl, j0, fw, tk, off2, X⟩ := z
      exact ⟨ea, dx', B, j, _, rfl, ⟨j0, fw, (off1.trans off2).le frA⟩, t3.trans tk, X⟩
    · exact False.elim z
    · exact False.elim z
    · exact False.elim z
    · obtain ⟨kept, late, τ2, F4, t4, r4, tp, fw, off2⟩ := z
      have le2 : fs.σ.Le τ2 := (off1.trans off2).le frA
      refine as_run (Q := LtQ fs.σ kept late) F4 (t3.trans t4) r4 ?_ (fun fl s5 z => ?_)
      · have l14 := lim.len
        simp at l14
        have kl := tp.kl
        (refine as_tup2 (Pk.h (by assumption)) ?_; refine as_name ?_; refine st_loc ?_; refine as_name ?_; refine st_loc ?_; refine xs_cons ?_; refine xv_ret ?_; refine ev_tuple ?_; refine spl_cons ?_; refine ev_tcall (by exact Pk.ns (by assumption) (by exact gs_list _)) (by exact bb_list) ?_; refine spl_cons ?_; refine ev_loc (by eq_refl) ?_; refine spl_nil ?_)
        refine cl_listT (by rw [List.length_map]; lia) fun A fA => ?_
        (refine spl_cons ?_; refine ev_tcall (by exact Pk.ns (by assumption) (by exact gs_list _)) (by exact bb_list) ?_; refine spl_cons ?_; refine ev_loc (by eq_refl) ?_; refine spl_nil ?_)
        refine cl_listT (by rw [List.length_map]; lia) fun B fB => ?_
        have nAB : A ≠ B := fB.neLi li_same
        (refine spl_nil ?_; refine ⟨by walk_at "ru len", ?_⟩; with_reducible refine xq_ret ?_)
        have l3 := le2.offLi (a := A) (x := kept.map .int) (le2.fresh fA).li
        exact ⟨A, B, rfl, le2.fresh fA, l3.fresh fB, nAB, li_ne nAB li_same, li_same, l3.offLi (l3.fresh fB).li⟩
      · obtain ⟨zz, f5, F5, t5, r5, A, B, rfl, fA, fB, nAB, eA, eB, le3⟩ := z
        obtain ⟨y, rfl, r5⟩ := r5
        exact ⟨y, rfl, _, _, F.leave F5 (t₁.trans t5), t₁.trans t5, r5, h2 A B kept late _ fA fB nAB eA eB tp fw le3⟩
  · obtain ⟨ea, dx, B, j, f', rfl, ⟨j0, fw, le⟩, tk, X⟩ := z
    refine catch_pf P' Lc X F₁.rl (fun s' t' F' tk' up => ⟨_, rfl, .int j, _, F.leaveS L F' (t₁.trans (tk.trans tk')) (fun o ho => ?_) X.lv, t₁.trans (tk.trans tk'), by simp only [VR]; exact ⟨_, rfl⟩, h1 j _ j0 fw le⟩) (P'.ns (by rfl))
    exact up _ (mem_frs.mpr ⟨_, .head _, hf⟩) o (by rw [rp_own (.inl rfl)]; exact ho)
end
-- RE19
noncomputable section
open PySem PySem.W PySem.Calls PyProof.Rows PySem.SeqAt
set_option maxRecDepth 100000
structure TJ (x d : Addr) (σ0 : HS) (cls sm : List (List Int)) (la : Addr) (i : Nat) (u : UA) (v : UV) (τ : HS) : Prop where
  ex : u.x = x
  ed : u.d = d
  hU : UD u
  hS : US u v τ
  hZ : Rdy v
  cl : v.cls = cls ++ sm.take i
  kl : u.kvs.length ≤ 3 * v.cls.length
  own : ∀ b, Own u b → σ0.Fresh b
  le : σ0.Le τ
  ela : τ.li la = some (sm.map cv)
  lao : ¬ Own u la
theorem Off.leOf {A : Addr → Prop} {σ0 σ τ : HS} (h : Off A σ τ) (l : σ0.Le σ) (f : ∀ b, A b → σ0.Fresh b) : σ0.Le τ := ((HS.Le.off l).trans h).le f
theorem TJ.step {x d : Addr} {σ0 τ2 τ3 τ5 : HS} {cls sm : List (List Int)} {la : Addr} {i : Nat} {u : UA} {v : UV} {c : List Int} {cl : Int × Int} {k : List (Int × V)}
    (T : TJ x d σ0 cls sm la i u v τ2) (hc : sm[i]? = some c) (oc : Okc c) (hn : v.cls.length < 14) (S3 : US u (at0 v [] cl) τ3) (O3 : Off (Own u) τ2 τ3)
    (U5 : UD (u.withK k)) (S5 : US (u.withK k) (addV (at0 v [] cl) c) τ5) (O5 : Off (Own u) τ3 τ5) (W5 : ∀ b, Own (u.withK k) b → Own u b ∨ τ3.Fresh b) (k5 : k.length ≤ 3 * (v.cls.length + 1)) :
    TJ x d σ0 cls sm la (i + 1) (u.withK k) (addV (at0 v [] cl) c) τ5 := by
  have l3 : σ0.Le τ3 := O3.leOf T.le T.own
  have e3 := O3.li la _ T.lao T.ela
  refine ⟨T.ex, T.ed, U5, S5, (T.hZ.at' cl).add oc hn, ?_, ?_, fun b hb => (W5 b hb).elim (T.own b) l3.fresh, O5.leOf l3 T.own, O5.li la _ T.lao e3, fun q => (W5 _ q).elim T.lao fun f => by rw [f.li] at e3; cases e3⟩
  · show v.cls ++ [c] = _
    rw [T.cl, take_snoc hc, List.append_assoc]
  · show k.length ≤ 3 * (v.cls ++ [c]).length
    simpa using k5
theorem TJ.start {x d : Addr} {σ0 τ : HS} {cls sm : List (List Int)} {u : UA} {v : UV} {lx lg la : Addr} {y z w : List V} (e1 : u.x = x) (e3 : u.d = d) (U : UD u) (S : US u v τ) (Z : Rdy v) (e4 : v.cls = cls) (e5 : u.kvs.length ≤ 3 * cls.length)
    (e6 : ∀ b, Own u b → σ0.Fresh b) (e7 : σ0.Le τ) (f2 : τ.Fresh lx) (f3 : (τ.setLi lx y).Fresh lg) (f4 : ((τ.setLi lx y).setLi lg z).Fresh la) (hw : w = sm.map cv) :
    TJ x d σ0 cls sm la 0 u v (((τ.setLi lx y).setLi lg z).setLi la w) := by
  have o2 := S.notFresh f2
  have S2 := S.other (x := y) o2
  have o3 := S2.notFresh f3
  have S3 := S2.other (x := z) o3
  have o4 := S3.notFresh f4
  have l2 := e7.offLi (a := lx) (x := y) (e7.fresh f2).li
  have l3 := l2.offLi (a := lg) (x := z) (l2.fresh f3).li
  have l4 := l3.offLi (a := la) (x := w) (l3.fresh f4).li
  exact ⟨e1, e3, U, S3.other o4, Z, by rw [e4]; simp, by rw [e4]; exact e5, e6, l4, by rw [hw]; exact li_same, o4⟩
inductive ChI (x dx la a b : Addr) (σ0 : HS) (cls sm : List (List Int)) (goal : List Int) (lc1 dp lh lo lb dt lt : Addr) (i : Nat) : FS → Prop
  | mk (k2 : List (Int × V)) (v2 : UV) (τ2 : HS) (T : TJ x dx σ0 cls sm la i ⟨x, 138, dx, lc1, dp, lh, lo, lb, dt, lt, k2⟩ v2 τ2) : ChI x dx la a b σ0 cls sm goal lc1 dp lh lo lb dt lt i ⟨[("steps", .ref x), ("goal", cv goal), ("log", .ref b), ("clauses", .ref a)], [], τ2⟩
set_option maxHeartbeats 2000000 in
theorem check_d {C : Cx} {n : Nat} (P : Pk C (n + 7)) {fs : FS} {a b : Addr} {cls log : List (List Int)} {goal : List Int} {Q : V → FS → Prop}
    (ha : fs.σ.li a = some (cls.map cv)) (hb : fs.σ.li b = some (log.map cv)) (lim : Lim (cls ++ (log ++ [goal]))) (fw : FW cls (log ++ [goal]) (-1)) (h : Q (.bool true) fs) : CD C (.ref 149) [.ref a, .ref b, cv goal] Q fs := by
  obtain ⟨m0, k0, σ0⟩ := fs
  dsimp only at *
  have fol : ∀ i c, (log ++ [goal])[i]? = some c → Fol (cls ++ (log ++ [goal]).take i) c := by
    rcases fw with ⟨zz, f⟩ | ⟨i, c, e, zz⟩
    · exact f
    · omega
  refine call_d P (ns := ["clauses", "log", "goal"]) rfl (by rfl) (of3 fun zz zz zz => rfl) rfl (by decide) (by decide) (fun L P' => ?_)
  refine XS.at (WP.weak ?_)
  have lc : Lim cls := ⟨by have := lim.len; simp at this; omega, fun c hc => lim.ok c (by simp [hc])⟩
  have cl14 := lc.len
  have ll14 := lim.len
  simp at ll14
  (refine xs_cons ?_; refine xv_name ?_; refine ev_gcall (by exact Pk.ns (by assumption) (by exact gs_UnitSteps _)) (by exact Pk.kp (by assumption) (by exact kp_UnitSteps _)) ?_; refine spl_cons ?_; refine ev_loc (by eq_refl) ?_; refine spl_nil ?_)
  refine cl_make (fI := 92) (by rw [P'.K]; rfl) (by rw [P'.K]; rfl) (by rw [P'.K]; rfl) fun x dx xs0 fx fd ne => ?_
  have ax : a ≠ x := fun e => by rw [e, fx.li] at ha; cases ha
  have ad : a ≠ dx := fun e => by rw [e, fd.li] at ha; cases ha
  refine init_d (C := (C.dn _).under _) (n := n + 3) P'.under (.inl rfl) ob_same (dm_ob dm_same) (.inl rfl) ha ax ad lc (fun u v τ e1 e2 e3 U S Z e4 e5 ow off => ?_)
  obtain ⟨x1, C1, d1, lc1, dp, lh, lo, lb, dt, lt, k1⟩ := u
  dsimp only at e1 e2 e3
  subst x1 C1 d1
  dsimp only at off
  refine ⟨rfl, ?_⟩
  (refine st_loc ?_; refine xs_cons ?_)
  have le0 : σ0.Le ((σ0.setDm dx (.at [])).setOb x (138, dx)) := (HS.Le.refl.offDm fd.dm).offOb fx.ob
  have frA : ∀ b, inA dx x b → σ0.Fresh b := fun b q => by rcases q with rfl | rfl; exact fd; exact fx
  have le1 : σ0.Le τ := off.leOf le0 frA
  have hb1 := le1.li b _ hb
  have own1 : ∀ b, Own _ b → σ0.Fresh b := fun b q => (ow b q).elim (fun q => q ▸ fx) fun q => q.elim (fun q => q ▸ fd) le0.fresh
  refine WPE.no (we_enum (Xi := NoX) P'.h (fun Q f h => ev_bty (Pk.ns P' (by rfl)) (by rfl) h) (fun zz zz zz zz zz zz zz z => z.elim) ?_)
  (refine ev_bin ?_; refine ev_tcall (by exact Pk.ns (by assumption) (by exact gs_list _)) (by exact bb_list) ?_; refine spl_cons ?_; refine ev_loc (by eq_refl) ?_; refine spl_nil ?_)
  refine cl_listL (by walk_at "ru lk") (by walk_at "ru len") (fun lx frX => ?_)
  (refine ev_list ?_; refine spl_cons ?_; refine ev_loc (by eq_refl) ?_; refine spl_nil ?_; refine ⟨by walk_at "ru len", ?_⟩)
  intro lg frG
  have gX : lx ≠ lg := frG.neLi li_same
  refine op_cat (vs := log.map cv) (ws := [cv goal]) (by walk_at "ru lk") li_same (by simp; omega) (fun la frA => ?_)
  have T0 : TJ x dx σ0 cls (log ++ [goal]) la 0 ⟨x, 138, dx, lc1, dp, lh, lo, lb, dt, lt, k1⟩ v _ := TJ.start (cls := cls) (sm := log ++ [goal]) (w := log.map cv ++ [cv goal]) rfl rfl U S Z e4 e5 own1 le1 frX frG frA (by simp)
  refine ⟨la, (log ++ [goal]).map cv, ChI x dx la a b σ0 cls (log ++ [goal]) goal lc1 dp lh lo lb dt lt, rfl, T0.ela, ⟨k1, v, _, T0⟩,
    fun i f ⟨k2, v2, τ2, T⟩ => T.ela, ?_, ?_⟩
  · rintro i w f hv ⟨k2, v2, τ2, T⟩ Gq hGq
    rw [List.getElem?_map] at hv
    obtain ⟨c, hc, rfl⟩ := Option.map_eq_some_iff.mp hv
    have hi := (List.getElem?_eq_some_iff.mp hc).1
    have oc : Okc c := lim.ok c (List.mem_append_right _ (List.mem_of_getElem? hc))
    have vl : v2.cls.length = cls.length + i := by
      rw [T.cl, List.length_append, List.length_take]; simp at hi ⊢; omega
    have n14 : v2.cls.length < 14 := by simp at hi; omega
    clear S U
    have U2 := T.hU
    have S2 := T.hS
    have tw : two 138 := .inl rfl
    obtain ⟨t_ob, t_at, t_lc, t_dp, t_lh, t_lo, t_lb, t_dt, t_lt, t_pl, t_no⟩ := id S2
    dsimp only at t_ob t_at t_lc t_dp t_lh t_lo t_lb t_dt t_lt
    (refine as_tup2 (Pk.h (by assumption)) ?_; refine as_name ?_; refine st_loc ?_; refine as_name ?_; refine st_loc ?_)
    refine WP.toE (WP.weak ?_)
    (refine xs_cons ?_; refine xv_if ?_; refine tv_not ?_; refine tv_plain ?_; refine ev_gcall (by exact Pk.ns (by assumption) (by exact gs_is_clause _)) (by exact Pk.kp (by assumption) (by exact kp_is_clause _)) ?_; refine spl_cons ?_; refine ev_loc (by eq_refl) ?_; refine spl_nil ?_)
    refine isc_d (n := n + 5) P' oc.asc ?_
    (refine tr_bool ?_)
    refine ⟨fun h => absurd h (by simp), fun zz => ?_⟩
    (refine xs_nil ?_; refine xs_cons ?_; refine xv_if ?_; refine tv_not ?_; refine tv_plain ?_; refine ev_meth (fv := .ref 135) ?_; refine ev_loc (by eq_refl) ?_; refine ⟨_, gm_own (Pk.kc (by assumption) (by walk_at "ru two")) (by walk_at "ru lk") (by walk_at "ru lk") (by rfl) (Pk.find (by assumption) (by walk_at "ru two") (by exact fm138_follows _) (by exact fm184_follows _)) (Pk.ty (by assumption) (by exact ty_follows _)), .inr (.inr (by exact Pk.kp (by assumption) (by exact kp_follows _))), ?_⟩; refine spl_cons ?_; refine ev_loc (by eq_refl) ?_; refine spl_nil ?_; refine CD.cl ?_)
    refine follows_u (n := n + 1) (fs := ⟨_, _, τ2⟩) P' U2 S2 T.hZ oc fun r cl τ3 S3 O3 hr => ?_
    have rt : r = true := hr.mpr (by rw [T.cl]; exact fol i c hc)
    subst rt
    (refine tr_bool ?_)
    refine ⟨fun h => absurd h (by simp), fun zz => ?_⟩
    clear t_ob t_at t_lc t_dp t_lh t_lo t_lb t_dt t_lt t_pl t_no
    obtain ⟨t_ob, t_at, t_lc, t_dp, t_lh, t_lo, t_lb, t_dt, t_lt, t_pl, t_no⟩ := id S3
    dsimp only at t_ob t_at t_lc t_dp t_lh t_lo t_lb t_dt t_lt
    (refine xs_nil ?_; refine xs_cons ?_; refine xv_expr ?_; refine ev_meth (fv := .ref 99) ?_; refine ev_loc (by eq_refl) ?_; refine ⟨_, gm_own (Pk.kc (by assumption) (by walk_at "ru two")) (by walk_at "ru lk") (by walk_at "ru lk") (by rfl) (Pk.find (by assumption) (by walk_at "ru two") (by exact fm138_add _) (by exact fm184_add _)) (Pk.ty (by assumption) (by exact ty_add _)), .inr (.inr (by exact Pk.kp (by assumption) (by exact kp_add _))), ?_⟩; refine spl_cons ?_; refine ev_loc (by eq_refl) ?_; refine spl_nil ?_; refine CD.cl ?_)
    refine add_d (n := n + 5) (v := at0 v2 [] cl) (fs := ⟨_, _, τ3⟩) P' U2 S3 (T.hZ.at' cl) oc n14 T.kl fun k5 τ5 U5 S5 O5 W5 kl5 => ?_
    (refine xs_nil ?_)
    exact ⟨_, FS.Le.mk' (by walk_at "ru all") (by walk_at "ru all") HS.Le.refl, hGq.out _ _ ⟨k5, _, τ5, T.step hc oc n14 S3 O3 U5 S5 O5 W5 kl5⟩⟩
  · rintro f ⟨k2, v2, τ2, T⟩
    (refine xs_cons ?_; refine xv_ret ?_; refine ev_bool ?_; with_reducible refine xq_ret ?_)
    exact ⟨⟨[], [], σ0⟩, FS.Le.mk' trivial trivial T.le, h⟩
end
-- SA
noncomputable section
open PySem PySem.W PyProof.Rows
/-! the table of a set: its places rise -/
def Ris (xs : Array Nat) : Prop := ∀ (i k x y : Nat), i < k → xs[i]? = some x → xs[k]? = some y → x < y
theorem ris_list {xs : Array Nat} : Ris xs ↔ xs.toList.Pairwise (· < ·) := by
  constructor
  · intro h
    rw [List.pairwise_iff_getElem]
    intro i j hi hj hij
    exact h i j _ _ hij (by rw [← Array.getElem?_toList]; exact List.getElem?_eq_getElem hi) (by rw [← Array.getElem?_toList]; exact List.getElem?_eq_getElem hj)
  · intro h i k x y hik hx hy
    rw [List.pairwise_iff_getElem] at h
    rw [← Array.getElem?_toList] at hx hy
    obtain ⟨hi, ex⟩ := List.getElem?_eq_some_iff.mp hx
    obtain ⟨hk, ey⟩ := List.getElem?_eq_some_iff.mp hy
    have := h i k hi hk hik
    rw [ex, ey] at this
    exact this
theorem below_go {xs : Array Nat} {j : Nat} (hr : Ris xs) : ∀ (fuel lo hi : Nat), hi - lo ≤ fuel → lo ≤ hi → hi ≤ xs.size → (∀ i x, xs[i]? = some x → i < lo → x < j) → (∀ i x, xs[i]? = some x → hi ≤ i → j ≤ x) →
    SetTable.below.go xs j fuel lo hi ≤ xs.size ∧ ∀ i x, xs[i]? = some x → (i < SetTable.below.go xs j fuel lo hi ↔ x < j)
  | 0, lo, hi, h1, h2, h3, h4, h5 => by
    have e : lo = hi := by lia
    subst e
    unfold SetTable.below.go
    exact ⟨h3, fun i x hx => ⟨h4 i x hx, fun hl => by
      rcases Nat.lt_or_ge i lo with q | q
      · exact q
      · have := h5 i x hx q; lia⟩⟩
  | fuel + 1, lo, hi, h1, h2, h3, h4, h5 => by
    unfold SetTable.below.go
    split
    · rename_i hlt
      dsimp only
      have hm : (lo + hi) / 2 < xs.size := by lia
      have ge : xs[(lo + hi) / 2]? = some xs[(lo + hi) / 2] := Array.getElem?_eq_getElem hm
      have gd : xs.getD ((lo + hi) / 2) j = xs[(lo + hi) / 2] := by simp [Array.getD, hm]
      rw [gd]
      split
      · rename_i hl
        refine below_go hr fuel _ _ (by lia) (by lia) h3 (fun i x hx hil => ?_) h5
        rcases Nat.lt_or_ge i ((lo + hi) / 2) with q | q
        · exact Nat.lt_trans (hr _ _ _ _ q hx ge) hl
        · have : i = (lo + hi) / 2 := by lia
          subst this; rw [ge] at hx; cases hx; exact hl
      · rename_i hl
        refine below_go hr fuel _ _ (by lia) (by lia) (by lia) h4 (fun i x hx hil => ?_)
        rcases Nat.lt_or_ge ((lo + hi) / 2) i with q | q
        · have := hr _ _ _ _ q ge hx; lia
        · have : i = (lo + hi) / 2 := by lia
          subst this; rw [ge] at hx; cases hx; lia
    · rename_i hlt
      have e : lo = hi := by lia
      subst e
      exact ⟨h3, fun i x hx => ⟨h4 i x hx, fun hl => by
        rcases Nat.lt_or_ge i lo with q | q
        · exact q
        · have := h5 i x hx q; lia⟩⟩
theorem below_spec {xs : Array Nat} {j : Nat} (hr : Ris xs) : SetTable.below xs j ≤ xs.size ∧ ∀ i x, xs[i]? = some x → (i < SetTable.below xs j ↔ x < j) := by
  unfold SetTable.below
  refine below_go hr _ _ _ (by lia) (by lia) (by lia) (fun i x zz h => by lia) (fun i x hx h => ?_)
  have := (Array.getElem?_eq_some_iff.mp hx).1
  lia
theorem ris_range (n : Nat) : Ris (Array.range n) := by
  rw [ris_list, Array.toList_range]
  exact List.pairwise_lt_range
theorem ris_insert {xs : Array Nat} {j : Nat} (hr : Ris xs) (hj : xs[SetTable.below xs j]? ≠ some j) : Ris (SetTable.insertAt xs (SetTable.below xs j) j) := by
  obtain ⟨b1, b2⟩ := below_spec (j := j) hr
  have hl := ris_list.mp hr
  rw [ris_list, SetTable.toList_insertAt, List.pairwise_append]
  have lo : ∀ a ∈ xs.toList.take (SetTable.below xs j), a < j := by
    intro a ha
    obtain ⟨i, hi⟩ := List.mem_iff_getElem?.mp ha
    rw [List.getElem?_take] at hi
    split at hi
    · rename_i h; exact (b2 i a (by rw [← Array.getElem?_toList]; exact hi)).mp h
    · cases hi
  have hi : ∀ a ∈ xs.toList.drop (SetTable.below xs j), j < a := by
    intro a ha
    obtain ⟨i, hi⟩ := List.mem_iff_getElem?.mp ha
    rw [List.getElem?_drop, Array.getElem?_toList] at hi
    have ge : ¬ a < j := fun q => by have := (b2 _ a hi).mpr q; lia
    rcases Nat.lt_or_ge j a with q | q
    · exact q
    · have : a = j := by lia
      subst this
      cases i with
      | zero => exact absurd hi hj
      | succ i =>
        exfalso
        have hlt : SetTable.below xs a < xs.size := by have := (Array.getElem?_eq_some_iff.mp hi).1; lia
        have g0 : xs[SetTable.below xs a]? = some xs[SetTable.below xs a] := Array.getElem?_eq_getElem hlt
        have l1 := hr _ _ _ _ (by lia) g0 hi
        have := (b2 _ _ g0).mpr l1
        lia
  refine ⟨hl.sublist (List.take_sublist _ _), ?_, fun a ha b hb => ?_⟩
  · rw [List.pairwise_cons]
    exact ⟨hi, hl.sublist (List.drop_sublist _ _)⟩
  · rcases List.mem_cons.mp hb with rfl | hb
    · exact lo a ha
    · exact Nat.lt_trans (lo a ha) (hi b hb)
structure Tab (t : SetTable) : Prop where
  ris : Ris t.place
  none : t.dummies = #[]
theorem has_nil (j : Nat) : SetTable.has #[] j = false := by
  unfold SetTable.has; simp
theorem probe_go {t : SetTable} {hashAt : Nat → Int} {h : Int} (T : Tab t) : ∀ (fuel : Nat) (p : SetTable.Probe) (j : Nat) (d : Option Nat), p.dummy = Option.none → SetTable.probe.go t hashAt h fuel p = some (.empty j d) → d = Option.none ∧ t.place[SetTable.below t.place j]? ≠ some j
  | 0, p, j, d, hp, e => by unfold SetTable.probe.go at e; cases e
  | fuel + 1, p, j, d, hp, e => by
    have adv : (t.advance p).dummy = Option.none := by unfold SetTable.advance; split <;> exact hp
    unfold SetTable.probe.go at e
    split at e
    · rename_i hs
      cases e
      refine ⟨hp, fun q => ?_⟩
      unfold SetTable.slot at hs
      simp [q] at hs
    · rename_i hs
      unfold SetTable.slot at hs
      dsimp only at hs
      split at hs
      · cases hs
      · rw [T.none, has_nil] at hs; simp at hs
    · split at e
      · cases e
      · exact probe_go T fuel _ j d adv e
theorem freeSlot_of {t : SetTable} {h : Int} {j : Nat} {b : Bool} (T : Tab t) (e : t.freeSlot h = some (j, b)) : b = false ∧ t.place[SetTable.below t.place j]? ≠ some j := by
  unfold SetTable.freeSlot at e
  split at e
  · rename_i j' d hp
    obtain ⟨rfl, q⟩ := probe_go T _ _ _ _ rfl hp
    cases e
    exact ⟨rfl, q⟩
  · cases e
theorem tab_standIn {t : SetTable} {n : Nat} : Tab (t.standIn n) := ⟨ris_range n, rfl⟩
theorem tab_orStandIn {t : SetTable} {n : Nat} (T : Tab t) : Tab (t.orStandIn n) := by
  unfold SetTable.orStandIn; split
  · exact T
  · exact tab_standIn
theorem led_orStandIn {t : SetTable} {n : Nat} : (t.orStandIn n).led = t.led := by
  unfold SetTable.orStandIn; split <;> rfl
theorem tab_put {t : SetTable} {j : Nat} (T : Tab t) (hj : t.place[SetTable.below t.place j]? ≠ some j) : Tab (t.put j).1 := by
  unfold SetTable.put
  refine ⟨ris_insert T.ris hj, ?_⟩
  dsimp only
  rw [T.none, has_nil]; rfl
theorem tab_layNew {t : SetTable} {es : Array (Int × Value)} {h : Int} {x : Value} (T : Tab t) : Tab (layNew t es h x).2.1 ∧ (layNew t es h x).2.1.led = t.led := by
  unfold layNew
  split
  · rename_i slot wd hs
    obtain ⟨rfl, q⟩ := freeSlot_of T hs
    exact ⟨tab_orStandIn (tab_put T q), led_orStandIn⟩
  · exact ⟨tab_standIn, rfl⟩
theorem ris_filterMap (owner : Array (Option Nat)) : ∀ l : List Nat, l.Pairwise (· < ·) → ((l.filterMap fun j => (owner.getD j Option.none).map (j, ·)).map (·.1)).Pairwise (· < ·) := by
  intro l hl
  rw [List.pairwise_map, List.pairwise_filterMap]
  refine hl.imp fun {a b} hab => ?_
  intro x hx y hy
  obtain ⟨zz, zz, rfl⟩ := Option.map_eq_some_iff.mp hx
  obtain ⟨zz, zz, rfl⟩ := Option.map_eq_some_iff.mp hy
  exact hab
theorem tab_relaid {t t' : SetTable} {hs : Array Int} {n : Nat} {order : Array Nat} (e : t.relaid hs n = some (t', order)) : Tab t' ∧ t'.led = t.led := by
  unfold SetTable.relaid SetTable.laid at e
  cases ho : SetTable.layClean (SetTable.sizeAbove n - 1) hs with
  | none => rw [ho] at e; cases e
  | some owner =>
    rw [ho] at e
    simp only [Option.bind_eq_bind, Option.bind_some, Option.pure_def, Option.some.injEq, Prod.mk.injEq] at e
    obtain ⟨rfl, zz⟩ := e
    refine ⟨⟨ris_list.mpr ?_, rfl⟩, rfl⟩
    exact ris_filterMap owner _ List.pairwise_lt_range
theorem tab_relayAll {t : SetTable} {es : Array (Int × Value)} {n : Nat} : Tab (relayAll t es n).2.1 ∧ (relayAll t es n).2.1.led = t.led := by
  unfold relayAll
  split
  · rename_i t' order h
    dsimp only
    split
    · exact tab_relaid h
    · exact ⟨tab_standIn, rfl⟩
  · exact ⟨tab_standIn, rfl⟩
theorem tab_fresh {f m : Nat} {l : Bool} : Tab (SetTable.fresh f m l) := ⟨fun i k x y zz h => by simp [SetTable.fresh] at h, rfl⟩
theorem below_next {xs : Array Nat} {i x : Nat} (hr : Ris xs) (hx : xs[i]? = some x) : SetTable.below xs (x + 1) = i + 1 := by
  obtain ⟨b1, b2⟩ := below_spec (j := x + 1) hr
  have h1 := (b2 i x hx).mpr (by lia)
  have hi := (Array.getElem?_eq_some_iff.mp hx).1
  rcases Nat.lt_or_ge (i + 1) (SetTable.below xs (x + 1)) with q | q
  · exfalso
    have hlt : i + 1 < xs.size := by lia
    have g := Array.getElem?_eq_getElem hlt
    have l1 := hr _ _ _ _ (Nat.lt_succ_self i) hx g
    have := (b2 _ _ g).mp q
    lia
  · lia
theorem below_zero {xs : Array Nat} (hr : Ris xs) : SetTable.below xs 0 = 0 := by
  obtain ⟨b1, b2⟩ := below_spec (j := 0) hr
  rcases Nat.eq_zero_or_pos (SetTable.below xs 0) with q | q
  · exact q
  · exfalso
    have hlt : 0 < xs.size := by lia
    have := (b2 0 _ (Array.getElem?_eq_getElem hlt)).mp q
    lia
end
-- SB
noncomputable section
open PySem PySem.W PySem.Calls PyProof.Rows PySem.Spec
set_option maxRecDepth 100000
def valI : Value → Int
  | .int n _ => n
  | _ => 0
def SetP (prog : Program) (w : World) (h : Heap) (a : Addr) (ns : List Int) : Prop :=
  ∃ o es ep t, h.get? a = some o ∧ o.ExactSet ∧ o.data = .set es ep t ∧ ElemsOf (intKind prog w) es.toList ∧ (es.toList.map fun e => valI e.2).Perm ns ∧ es.size < scanBound ∧ t.fits es.size = true ∧ Tab t ∧ (w.params.followText "set-order" = false → t.led = true)
theorem int_is {prog : Program} {w : World} {v : Value} {k : Int} (h : (intKind prog w).is k v = true) : ∃ t, v = .int k t := Value.isInt_shape h
section
variable {prog : Program} {w : World} {A : Around} {E : Value → Shared → Prop} {s : Shared}
theorem SetP.at {h h' : Heap} {a : Addr} {ns : List Int} (x : SetP prog w h a ns) (e : ∀ o, h.get? a = some o → h'.get? a = some o) : SetP prog w h' a ns := by
  obtain ⟨o, es, ep, t, ho, r⟩ := x
  exact ⟨o, es, ep, t, e o ho, r⟩
theorem SetP.size {h : Heap} {a : Addr} {ns : List Int} {o : Obj} {es : Array (Int × Value)} {ep : Nat} {t : SetTable} (x : SetP prog w h a ns) (ho : h.get? a = some o) (hd : o.data = .set es ep t) : es.size = ns.length := by
  obtain ⟨o', es', ep', t', ho', zz, hd', zz, hp, zz⟩ := x
  rw [ho] at ho'; cases ho'
  rw [hd] at hd'; cases hd'
  have := hp.length_eq
  simpa using this
theorem gave_ok (b : Bool) {s₁ : Shared} {Q' : Unit → Shared → Prop} (h : Q' () s₁) : wpAny (model prog w) A (match b with | true => rule "set.scan.the-table-gave-way" | false => pure ()) Q' E s₁ := by
  cases b
  · exact wpAny_pure h
  · exact wpAny_rule h
theorem put_at {a : Addr} {h : Heap} {o : Obj} {es : Array (Int × Value)} {ep : Nat} {t : SetTable} (es' : Array (Int × Value)) (t' : SetTable) (ho : h.get? a = some o) (hd : o.data = .set es ep t) :
    (h.update a (Obj.putSet es' t')).get? a = some { o with data := .set es' (ep + 1) t' } := by
  have := Heap.get?_update_self (Obj.putSet es' t') ho (by rw [putSet_of es' t' hd]; rfl)
  rw [putSet_of es' t' hd] at this
  exact this
theorem add_tail {g : Bool → Sem Unit} (hg : ∀ (b : Bool) (s₁ : Shared) (Q' : Unit → Shared → Prop), Q' () s₁ → wpAny (model prog w) A (g b) Q' E s₁) {a : Addr} {ns : List Int} {o : Obj} {es es1 : Array (Int × Value)} {ep : Nat} {t t1 : SetTable} {wd : Bool} {R : Option Bool → Shared → Prop}
    (ho : s.heap.get? a = some o) (hex : o.ExactSet) (hd : o.data = .set es ep t) (el1 : ElemsOf (intKind prog w) es1.toList) (pp1 : (es1.toList.map fun e => valI e.2).Perm ns) (b1 : es1.size < scanBound) (f1 : t1.fits es1.size = true) (T1 : Tab t1)
    (led1 : w.params.followText "set-order" = false → t1.led = true) (h : ∀ h', Heap.SameBut a s.heap h' → SetP prog w h' a ns → R (some true) { s with heap := h' }) :
    wpAny (model prog w) A (do
      storeSet a es1 t1
      if (!wd && t1.tooFull) = true then do
        g (relayAll t1 es1 (SetTable.grown es1.size)).2.2
        storeSet a (relayAll t1 es1 (SetTable.grown es1.size)).1 (relayAll t1 es1 (SetTable.grown es1.size)).2.1
        pure (some true)
      else pure (some true)) R E s := by
  refine wpAny_bind (wpAny_storeSet_of ho hd ?_ (fits_of_scanBound b1))
  have g1 := put_at es1 t1 ho hd
  have sb1 := Heap.SameBut.update s.heap a (Obj.putSet es1 t1)
  refine wpAny_ite_split (fun hc => ?_) (fun hc => ?_)
  · have p2 := relayAll_perm t1 es1 (SetTable.grown es1.size)
    have f2 := relayAll_fits t1 es1 (SetTable.grown es1.size)
    have T2 := tab_relayAll (t := t1) (es := es1) (n := SetTable.grown es1.size)
    generalize relayAll t1 es1 (SetTable.grown es1.size) = L2 at p2 f2 T2 ⊢
    obtain ⟨es2, t2, gave2⟩ := L2
    dsimp only at p2 f2 T2 ⊢
    have n2 : es2.size = es1.size := by
      have := p2.length_eq
      simpa using this
    have g2 := put_at es2 t2 g1 rfl
    refine wpAny_bind (hg _ _ _ (wpAny_bind (wpAny_storeSet_of g1 rfl ?_ (fits_of_scanBound (by lia)))))
    exact wpAny_pure (h _ (sb1.trans (Heap.SameBut.update _ a _)) ⟨_, es2, _, t2, g2, hex, rfl, el1.perm p2, (p2.map _).trans pp1, by lia, f2, T2.1, fun q => by rw [T2.2]; exact led1 q⟩)
  · exact wpAny_pure (h _ sb1 ⟨_, es1, _, t1, g1, hex, rfl, el1, pp1, b1, f1, T1, led1⟩)
theorem add_new {a : Addr} {ns : List Int} {k : Int} {tk : Tok} {Q : Bool → Shared → Prop} (hS : SetP prog w s.heap a ns) (hk : k ∉ ns) (room : ns.length + 1 < scanBound)
    (h : ∀ h', Heap.SameBut a s.heap h' → SetP prog w h' a (ns ++ [k]) → Q true { s with heap := h' }) :
    wpAny (model prog w) A (setAddHashed a (.int k tk) ((intKind prog w).hash k)) Q E s := by
  have sz := fun o es ep t ho hd => SetP.size (o := o) (es := es) (ep := ep) (t := t) hS ho hd
  obtain ⟨o, es, ep, t, ho, hex, hd, hel, hp, hb, hf, T, hled⟩ := hS
  have hlen := sz o es ep t ho hd
  have hkey : (intKind prog w).is k (.int k tk) = true := intKind_is _ _ _ _
  unfold setAddHashed setAddHashedIn
  refine wpAny_holding (wpAny_bind (wpAny_setState_of ho hd hf ?_))
  dsimp only
  rw [byScan_of (x := .int k tk) rfl hb hel]
  simp only [↓reduceIte]
  unfold setAddByScan
  refine wpAny_bind (wpAny_bind (wpAny_rule (wpAny_bind (wpAny_setScan_of hkey ho hd hf hel ?_))))
  have hno : es.toList.findIdx? (fun e => (intKind prog w).is k e.2) = none := by
    rw [List.findIdx?_eq_none_iff]
    intro e he
    cases q : (intKind prog w).is k e.2 with
    | false => rfl
    | true =>
      obtain ⟨t', ht⟩ := int_is q
      refine absurd (hp.mem_iff.mp (List.mem_map.mpr ⟨e, he, ?_⟩)) hk
      rw [ht]; rfl
  rw [hno]
  dsimp only
  have p1 := layNew_perm t es ((intKind prog w).hash k) (.int k tk)
  have f1 := layNew_fits t es ((intKind prog w).hash k) (.int k tk)
  have T1 := tab_layNew (es := es) (h := (intKind prog w).hash k) (x := .int k tk) T
  generalize layNew t es ((intKind prog w).hash k) (.int k tk) = L at p1 f1 T1 ⊢
  obtain ⟨es1, t1, wd, gave⟩ := L
  dsimp only at p1 f1 T1 ⊢
  rw [Array.toList_push] at p1
  have el1 : ElemsOf (intKind prog w) es1.toList := (hel.push hkey rfl).perm p1
  have pp1 : (es1.toList.map fun e => valI e.2).Perm (ns ++ [k]) := by
    refine (p1.map _).trans ?_
    rw [List.map_append]
    exact hp.append (List.Perm.refl _)
  have n1 : es1.size = es.size + 1 := by
    have := p1.length_eq
    simpa using this
  have b1 : es1.size < scanBound := by lia
  have led1 : w.params.followText "set-order" = false → t1.led = true := fun q => by rw [T1.2]; exact hled q
  refine wpAny_bind (gave_ok gave ?_)
  have pk : plainKind (Value.int k tk) = true := rfl
  split
  · refine wpAny_bind ?_
    rw [hashByValue_scannable 8 rfl]
    refine wpAny_pure ?_
    simp only [pk, ↓reduceIte]
    exact add_tail (fun b zz zz q => gave_ok b q) ho hex hd el1 pp1 b1 f1 T1.1 led1 fun h' sb S => wpAny_pure (h h' sb S)
  · refine wpAny_bind (wpAny_pure ?_)
    simp only [↓reduceIte]
    exact add_tail (fun b zz zz q => gave_ok b q) ho hex hd el1 pp1 b1 f1 T1.1 led1 fun h' sb S => wpAny_pure (h h' sb S)
end
end
-- SC
noncomputable section
open PySem PySem.W PySem.Calls PyProof.Rows PySem.Spec
set_option maxRecDepth 100000
section
variable {prog : Program} {w : World} {A : Around}
theorem fill_loop {R : Result → Shared → Prop} {I : Addr} {fp wr : List Addr} {G : Array GenState → Array GenState → Prop} {P : Nat → Value → Prop} {St : Nat → Shared → Prop} {ks : List Int} (nd : ks.Nodup)
    (W : WalksS prog w A.in1 I fp wr G ks.length P St) (S : Addr) (hSf : S ∉ fp) (hval : ∀ i v, P i v → ∃ t, v = .int (ks.getD i 0) t) (hb : ks.length + 1 < scanBound) :
    ∀ (k i : Nat) (s : Shared), i + k = ks.length → St i s → SetP prog w s.heap S (ks.take i) → (∀ s', Moved (S :: wr) G s s' → SetP prog w s'.heap S ks → R (.ok (.ret .none)) s') →
      codeAny (model prog w) A (.builtin "set.update.loop" ⟨[.ref S, .ref I], []⟩) R s
  | 0, i, s, hi, hst, hS, hR => by
    have e : i = ks.length := by lia
    subst e
    rw [List.take_length] at hS
    refine codeAny_builtin PyProof.Rows.F.entry_set_update_loop ?_
    rw [Around.under_plainId PyProof.Rows.F.plain_set_update_loop _]
    show wpAny _ A.in1 (pyNext (.ref I) >>= _) _ _ s
    refine wpAny_bind (W.done s _ _ hst fun s' hm => ?_)
    show wpAny _ A.in1 (ret Value.none) _ _ s'
    refine wpAny_pure (hR s' (hm.mono fun b h => List.mem_cons_of_mem _ h) (hS.at fun o e => hm.heap S o (fun h => hSf (W.sub _ h)) e))
  | k + 1, i, s, hi, hst, hS, hR => by
    have hlt : i < ks.length := by lia
    refine codeAny_builtin PyProof.Rows.F.entry_set_update_loop ?_
    rw [Around.under_plainId PyProof.Rows.F.plain_set_update_loop _]
    show wpAny _ A.in1 (pyNext (.ref I) >>= _) _ _ s
    refine wpAny_bind (W.item i s _ _ hlt hst fun v s' hP hst' hm => ?_)
    obtain ⟨t, rfl⟩ := hval i v hP
    have hS' := hS.at (prog := prog) (w := w) (h' := s'.heap) fun o e => hm.heap S o (fun h => hSf (W.sub _ h)) e
    have ek : ks.getD i 0 = ks[i] := by rw [List.getD_eq_getElem?_getD, List.getElem?_eq_getElem hlt]; rfl
    have et : ks.take (i + 1) = ks.take i ++ [ks.getD i 0] := by rw [List.take_add_one, List.getElem?_eq_getElem hlt, ek]; rfl
    have hno : ks.getD i 0 ∉ ks.take i := fun hm => by
      have q := nd.sublist (List.take_sublist (i + 1) ks)
      rw [et, List.nodup_append] at q
      exact q.2.2 _ hm _ (List.mem_singleton.mpr rfl) rfl
    show wpAny _ A.in1 (holding [Value.int (ks.getD i 0) t] (setAdd S (.int (ks.getD i 0) t)) >>= _) _ _ s'
    refine wpAny_bind (wpAny_holding ?_)
    unfold setAdd
    refine wpAny_holding (wpAny_bind ((intKind prog w).pyHash (k := ks.getD i 0) (intKind_is _ _ _ _) ?_))
    refine add_new (s := { s' with toks := s'.toks + 1 }) hS' hno (by rw [List.length_take]; lia) fun h' sb S2 => ?_
    rw [← et] at S2
    have keep : ∀ b o, b ∉ S :: wr → s'.heap.get? b = some o → h'.get? b = some o := fun b o hb e => by
      rw [sb.2 b fun h => hb (by rw [h]; exact List.mem_cons_self)]; exact e
    refine wpAny_pure ⟨plainId_quiet PyProof.Rows.F.plain_set_update_loop _, fill_loop nd W S hSf hval hb k (i + 1) _ (by lia) (W.frame _ s' _ _ hst' (Nat.le_succ _) fun b hb o e => ?_) S2 fun s'' hm'' hS'' => ?_⟩
    · rw [sb.2 b fun h => hSf (by rw [← h]; exact hb)]; exact e
    · exact hR s'' (Moved.trans W.gtrans ((hm.mono fun b h => List.mem_cons_of_mem _ h).then_heap (Nat.le_succ _) keep) hm'') hS''
variable {E : Value → Shared → Prop} {s : Shared}
abbrev noSet (led : Bool) : Obj := { cls := .type "set", dict := none, data := .set #[] 0 (.fresh 0 0 led) }
theorem SetP.new {h : Heap} {a : Addr} {led : Bool} (hl : w.params.followText "set-order" = false → led = true) (e : h.get? a = some (noSet led)) : SetP prog w h a [] :=
  ⟨_, #[], 0, _, e, ⟨rfl, rfl, rfl⟩, rfl, fun e he => by simp at he, List.Perm.refl _, by decide, by rfl, tab_fresh, hl⟩
theorem new_set (a : Value) {Q₁ : Value → Shared → Prop}
    (h : ∀ led : Bool, (w.params.followText "set-order" = false → led = true) → Q₁ (.ref s.heap.objs.size) { s with heap := s.heap.push (noSet led) }) :
    codeAny (model prog w) A (.call (.builtin "set.__new__") ⟨[.type "set", a], []⟩) (wants Q₁ E) s := by
  refine codeAny_of_tree ?_
  show wpAny _ A.in1 (do checkBuiltinCall "set.__new__" ⟨[.type "set", a], []⟩; again (.builtin "set.__new__" ⟨[.type "set", a], []⟩)) _ _ s
  refine wpAny_bind (wpAny_of_eq (PySem.F.newCall_set_1 a) (wpAny_pure ⟨plainId_quiet PySem.F.plain_set_new _, codeAny_builtin PySem.F.entry_set_new ?_⟩))
  rw [Around.under_plainId PySem.F.plain_set_new _]
  unfold Builtin.«set.__new__» Builtin.Frozenset.newClass
  have hsub := sub_set_self
  obtain ⟨hp, g, d, tk, os⟩ := s
  dsimp only
  wp_walk
  refine wpAny_askSetting (wpAny_pure ?_)
  dsimp only
  simp only [newObj]
  refine wpAny_bind (wpAny_alloc (wpAny_pure (wpAny_pure (h _ fun q => ?_))))
  show (!(w.params.followText "set-order")) = true
  rw [q]; rfl
set_option maxHeartbeats 3200000 in
theorem make_set {l : Addr} {items : Array Value} {ks : List Int} {Q : Value → Shared → Prop} (hh : A.handled = none) (hl : s.heap.IsList l items) (hi : IntsAre items.toList ks) (nd : ks.Nodup) (hb : ks.length + 1 < scanBound)
    (h : ∀ h' tk, SetP prog w h' s.heap.objs.size ks → (∀ b o, b < s.heap.objs.size → s.heap.get? b = some o → h'.get? b = some o) → Q (.ref s.heap.objs.size) { s with heap := h', toks := tk }) :
    wpAny (model prog w) A (call (.type "set") [.ref l]) Q E s := by
  have hsz : items.size = ks.length := by have := hi.length; simpa using this
  obtain ⟨c, tl, hmro⟩ := PySem.F.called_set.mro
  have hmade := PySem.F.called_set.made
  have hsub := PySem.F.called_set.sub
  refine wpAny_call (codeAny_of_tree ?_)
  show wpAny _ _ (callAny (.type "set") _) _ _ _
  refine wpAny_pure ⟨Code.quiet_builtin _ (by decide +kernel), codeAny_builtin PySem.F.entry_type_call ?_⟩
  rw [Around.under_plain (weight_type_call_type "set" [.ref l] []) rfl]
  have h1 := PySem.F.called_set.notType
  have h2 := PySem.F.called_set.canCreate
  have hct := PySem.F.typeCall_set_1 (.ref l)
  repeat (any_goals (first | assumption | wp_step))
  refine codeAny_mono (new_set (prog := prog) (w := w) (.ref l) (E := E) (Q₁ := fun obj s₁ => ∃ led : Bool, (w.params.followText "set-order" = false → led = true) ∧ obj = .ref s.heap.objs.size ∧ s₁ = { s with heap := s.heap.push (noSet led) }) fun led hq => ⟨led, hq, rfl, rfl⟩) fun r s₁ hr => ?_
  rcases r with e | (obj | zz | zz | zz)
  case error => exact hr
  case ok.ret =>
    obtain ⟨led, hq, rfl, rfl⟩ := hr
    clear h1 h2 hct hmade hmro
    have hS : (s.heap.push (noSet led)).get? s.heap.objs.size = some (noSet led) := Heap.get?_push_size _ rfl
    have hT : Shared.TypeIs { s with heap := s.heap.push (noSet led) } (.ref s.heap.objs.size) "set" := ⟨_, hS, rfl⟩
    dsimp only [noSet] at hS hT ⊢
    have hli := PySem.F.called_set.init.lookup
    have hbi := PySem.F.called_set.init.bind (.ref s.heap.objs.size)
    repeat (any_goals (first | assumption | wp_step))
    refine codeAny_mono (codeAny_call_builtin (R := wants (fun r s₂ => r = .none ∧ ∃ h' tk, s₂ = { s with heap := h', toks := tk } ∧ SetP prog w h' s.heap.objs.size ks ∧ (∀ b o, b < s.heap.objs.size → s.heap.get? b = some o → h'.get? b = some o)) E)
      PySem.F.called_set.init.plain PySem.F.entry_set_init (check_set_init_1 hT ?_)) fun r₂ s₂ hr₂ => ?_
    · obtain ⟨ol, hol, hcl, nl, hdl⟩ := hl
      obtain ⟨ocls, odict, odata, oslots⟩ := ol
      simp only at hcl hdl
      subst hcl; subst hdl
      have hol' : (s.heap.push { cls := .type "set", dict := none, data := .set #[] 0 (.fresh 0 0 led) }).get? l = some { cls := .type "list", dict := odict, data := .seq items nl, slots := oslots } := Heap.get?_push_of_some _ hol
      have hl1 : (s.heap.push { cls := .type "set", dict := none, data := .set #[] 0 (.fresh 0 0 led) }).IsList l items := ⟨_, hol', rfl, nl, rfl⟩
      have hsls := PySem.F.sub_list_set
      have hslf := PySem.F.sub_list_frozenset
      have hne : (Value.type "list" == Value.type "dict") = false := by decide
      unfold Builtin.«set.__init__» noKeywords Builtin.Frozenset.updateFrom
      generalize hPI : pyIter = PI
      wp_walk
      subst hPI
      refine wpAny_pyIter_list hl1 ?_
      refine wpAny_bind (wpAny_runValue ?_)
      have lS : l < s.heap.objs.size := Heap.lt_size hol
      have sI : (s.heap.push (noSet led)).objs.size = s.heap.objs.size + 1 := Heap.size_push ..
      have hh3 : A.in1.in1.in1.handled = none := by simp [hh]
      have lI : l ≠ (s.heap.push (noSet led)).objs.size := by rw [sI]; exact Nat.ne_of_lt (Nat.lt_succ_of_lt lS)
      have hSf : s.heap.objs.size ∉ [(s.heap.push (noSet led)).objs.size, l] := by
        rw [sI]; simp only [List.mem_cons, List.not_mem_nil, or_false, not_or]
        exact ⟨Nat.ne_of_lt (Nat.lt_succ_self _), Nat.ne_of_gt lS⟩
      have W := (Walks.list (prog := prog) (w := w) hh3 _ l lI items).toS
      rw [hsz] at W
      refine fill_loop nd W s.heap.objs.size hSf (fun i v hv => PyProof.Rows.IntsAre.int_at hi i v (by rw [Array.getElem?_toList]; exact hv)) hb ks.length 0 _ (by lia) ⟨⟨_, Heap.get?_push_size _ rfl, rfl, rfl⟩, hl1.push _⟩ (SetP.new hq (Heap.get?_push_of_some _ hS)) fun s' hm hS' => ?_
      obtain ⟨h', g', d', tk', os'⟩ := s'
      obtain rfl : g' = s.gens := hm.gens
      obtain rfl : d' = s.drawn := hm.drawn
      obtain rfl : os' = s.os := hm.os
      show wpAny _ _ _ _ _ _
      refine wpAny_pure ?_
      show wpAny _ _ (ret Value.none) _ _ _
      refine wpAny_pure ⟨rfl, h', tk', rfl, hS', fun b o hb e => hm.heap b o ?_ (Heap.get?_push_of_some _ (Heap.get?_push_of_some _ e))⟩
      rw [sI]; simp only [List.mem_cons, List.not_mem_nil, or_false, not_or]
      exact ⟨Nat.ne_of_lt hb, Nat.ne_of_lt (Nat.lt_succ_of_lt hb)⟩
    · rcases r₂ with e | (r | zz | zz | zz)
      case error => exact hr₂
      case ok.ret =>
        obtain ⟨rfl, h', tk, rfl, hS', hk'⟩ := hr₂
        repeat (any_goals (first | assumption | wp_step))
        exact h _ _ hS' hk'
      all_goals exact hr₂.elim
  all_goals exact hr.elim
end
end
-- SD
noncomputable section
open PySem PySem.W PySem.Calls PyProof.Rows PySem.Spec
set_option maxRecDepth 100000
theorem slot_next : Slot "set_iterator" "__next__" "set_iterator.__next__" :=
  .of (owner := "set_iterator") (n := "__next__") (by rw [typeLookup_type, builtinLookup_eq_fast]; kernel_rfl) (by decide +kernel) (by decide +kernel) (by decide +kernel)
    (by first | exact .inl (by decide +kernel) | exact .inr (by decide +kernel)) (by rw [isSubtype_type]; kernel_rfl)
theorem entry_next : entryFor table "set_iterator.__next__" = some Builtin.«set_iterator.__next__» := entryFor_of_tree (by kernel_rfl)
theorem entry_iter : entryFor table "set.__iter__" = some Builtin.«frozenset.__iter__» := entryFor_alias (id' := "frozenset.__iter__") (by kernel_rfl) rfl (by decide +kernel) (by kernel_rfl)
theorem owner_it : Manifest.owners.lookup (String.ofList ['r', 'o', 't', 'a', 'r', 'e', 't', 'i', '_', 't', 'e', 's'].reverse) = some Manifest.sig_set_iterator := by kernel_rfl
theorem args_next (a : Value) : argsOk "set_iterator.__next__" ⟨[a], []⟩ := by
  unfold argsOk; rw [signature?_of (id := "set_iterator.__next__") (n := ['_', '_', 't', 'x', 'e', 'n', '_', '_']) (o := ['r', 'o', 't', 'a', 'r', 'e', 't', 'i', '_', 't', 'e', 's']) (by kernel_rfl) owner_it]; kernel_rfl
section
variable {M : Model} {prog : Program} {w : World} {A : Around} {E : Value → Shared → Prop} {s : Shared} {α : Type}
theorem choose_ok {src : Source} {n : Nat} {Q : Nat → Shared → Prop} (hn : n ≠ 0) (h : ∀ i, i < n → Q i { s with drawn := s.drawn.bump src }) : wpAny M A (choose src n) Q E s := fun zz zz zz => by
  unfold choose; rw [Sem.wp_choose]
  exact ⟨hn, by first | exact h _ (Nat.mod_lt _ (Nat.pos_of_ne_zero hn)) | (simp; exact h _ (Nat.mod_lt _ (Nat.pos_of_ne_zero hn)))⟩
theorem erase_perm : ∀ (l : List α) (i : Nat) (h : i < l.length), (l[i] :: l.eraseIdx i).Perm l
  | a :: r, 0, _ => List.Perm.refl _
  | a :: r, i + 1, h => by
    simp only [List.getElem_cons_succ, List.eraseIdx_cons_succ]
    exact (List.Perm.swap ..).trans ((erase_perm r i (by simpa using h)).cons a)
theorem draw_perm : ∀ (n : Nat) (xs : List α) (s : Shared) (Q : List α → Shared → Prop), xs.length ≤ n → (∀ ys d, ys.Perm xs → Q ys { s with drawn := d }) → wpAny M A (drawOrder n xs) Q E s
  | 0, xs, s, Q, hn, h => by
    have : xs = [] := List.length_eq_zero_iff.mp (by lia)
    subst this
    exact wpAny_pure (h [] s.drawn (List.Perm.refl _))
  | n + 1, [], s, Q, hn, h => wpAny_pure (h [] s.drawn (List.Perm.refl _))
  | n + 1, x :: r, s, Q, hn, h => by
    refine wpAny_bind (choose_ok (by simp) fun i hi => ?_)
    have ge : (x :: r)[i]? = some ((x :: r)[i]) := List.getElem?_eq_getElem hi
    rw [ge]
    dsimp only
    refine wpAny_bind (draw_perm n _ _ _ (by rw [List.length_eraseIdx_of_lt hi]; simp at hn ⊢; lia) fun ys d hp => ?_)
    refine wpAny_pure (h _ d ?_)
    exact (hp.cons _).trans (erase_perm _ _ hi)
theorem pick_go (next : Nat → Nat) : ∀ (fuel k : Nat) (left : List α) (out : Array α), left.length = fuel → (pickOrder.go next fuel k left out).toList.Perm (out.toList ++ left)
  | 0, k, left, out, hl => by
    have : left = [] := List.length_eq_zero_iff.mp hl
    subst this
    unfold pickOrder.go; simp
  | fuel + 1, k, left, out, hl => by
    have hi : next k % left.length < left.length := Nat.mod_lt _ (by lia)
    unfold pickOrder.go
    rw [List.getElem?_eq_getElem hi]
    dsimp only
    refine (pick_go next fuel (k + 1) _ _ (by rw [List.length_eraseIdx_of_lt hi]; lia)).trans ?_
    rw [Array.toList_push, List.append_assoc]
    exact List.Perm.append_left _ (erase_perm _ _ hi)
theorem pick_perm (next : Nat → Nat) (xs : Array α) : (pickOrder next xs).toList.Perm xs.toList := by
  unfold pickOrder
  simpa using pick_go next xs.size 0 xs.toList #[] (by simp)
end
abbrev itO (first : Value) (i : Nat) (S : Addr) (n ep : Nat) : Obj := { cls := .type "set_iterator", data := .fields #[first, .int i 0, .ref S, .int n 0, .int ep 0] }
section
variable {prog : Program} {w : World} {A : Around} {E : Value → Shared → Prop} {s : Shared} {I S : Addr} {i n ep : Nat} {o : Obj} {es : Array (Int × Value)} {t : SetTable}
theorem fld_at {h : Heap} {a : Addr} {vs : Array Value} {T : String} (k : Nat) (x : Value) (e : h.get? a = some { cls := .type T, data := .fields vs }) :
    (h.update a (Obj.mapFields (·.setIfInBounds k x))).get? a = some { cls := .type T, data := .fields (vs.setIfInBounds k x) } := by
  have := Heap.get?_update_self (Obj.mapFields (·.setIfInBounds k x)) e (Obj.isFreed_of_fields (Obj.data_mapFields (vs := vs) rfl _))
  exact this
theorem stop_ok {Q : Fin → Shared → Prop} {E' : Value → Shared → Prop} (hh : A.handled = none) (h : ∀ e h', (∀ b o, s.heap.get? b = some o → h'.get? b = some o) → Shared.TypeIs { s with heap := h' } e "StopIteration" → E' e { s with heap := h' }) :
    wpAny (model prog w) A (do let e ← newExc (.type "StopIteration") []; raiseNew e) Q E' s := by
  refine wpAny_bind ?_
  simp only [newExc, newTuple]
  refine wpAny_bind (wpAny_newObj_type ?_ (by size_fits))
  refine wpAny_bind (m := firstArgMember _ _) (wpAny_of_eq (a := Value.none) (by first | rfl | (simp only [firstArgMember]; rfl)) ?_)
  refine wpAny_newObj_type ?_ (by size_fits)
  simp only [raiseNew]
  refine wpAny_bind (wpAny_handled ?_)
  rw [hh]
  refine wpAny_bind (wpAny_pure (wpAny_throw ?_))
  exact h _ _ (fun b o e => Heap.get?_push_of_some _ (Heap.get?_push_of_some _ e)) ⟨_, Heap.get?_push_size _ rfl, rfl⟩
theorem it_item {slot nx : Nat} {x : Value} {Q : Option Value → Shared → Prop} (hI : s.heap.get? I = some (itO (.int slot 0) i S n ep)) (hS : s.heap.get? S = some o) (hd : o.data = .set es ep t) (hf : t.fits es.size = true) (hn : es.size = n)
    (hx : ∀ (A : Around) (E : Value → Shared → Prop) (Q : Option (Value × Nat) → Shared → Prop), Q (some (x, nx)) s → wpAny (model prog w) A (setNext S slot i ep) Q E s)
    (hQ : ∀ h', h'.get? I = some (itO (.int nx 0) (i + 1 : Nat) S n ep) → Heap.SameBut I s.heap h' → Q (some x) { s with heap := h' }) : wpAny (model prog w) A (pyNext (.ref I)) Q E s := by
  have hT : s.TypeIs (.ref I) "set_iterator" := ⟨_, hI, rfl⟩
  unfold pyNext
  refine wpAny_bind (wpAny_attempt (wpAny_callSpecial?_slot (name := Str.ofString "__next__") hT slot_next (wpAny_call_entry slot_next hT entry_next ?_ (args_next _))))
  unfold Builtin.«set_iterator.__next__»
  refine wpAny_bind (m := slotArgs _ _ _) (wpAny_of_eq (a := (Value.ref I, [])) (by rfl) ?_)
  dsimp only
  refine wpAny_bind (wpAny_fieldsOf hI rfl ?_)
  dsimp only
  refine wpAny_bind (wpAny_setEntries_of hS hd hf ?_)
  rw [if_neg (by rw [hn]; simp)]
  simp only [Int.toNat_natCast]
  refine wpAny_bind (hx _ _ _ ?_)
  dsimp only
  refine wpAny_bind (wpAny_setField hI rfl (by simp) ?_)
  have g1 := fld_at 0 (rawInt nx) hI
  refine wpAny_bind (wpAny_setField g1 rfl (by simp) ?_)
  have g2 := fld_at 1 (rawInt (i + 1)) g1
  exact wpAny_pure ⟨_, rfl, wpAny_pure (hQ _ g2 ((Heap.SameBut.update ..).trans (Heap.SameBut.update ..)))⟩
theorem it_end {slot : Nat} {Q : Option Value → Shared → Prop} (hh : A.handled = none) (hI : s.heap.get? I = some (itO (.int slot 0) i S n ep)) (hS : s.heap.get? S = some o) (hd : o.data = .set es ep t) (hf : t.fits es.size = true) (hn : es.size = n)
    (hx : ∀ (A : Around) (E : Value → Shared → Prop) (Q : Option (Value × Nat) → Shared → Prop), Q none s → wpAny (model prog w) A (setNext S slot i ep) Q E s)
    (hQ : ∀ h', (∀ b o, b ≠ I → s.heap.get? b = some o → h'.get? b = some o) → Q none { s with heap := h' }) : wpAny (model prog w) A (pyNext (.ref I)) Q E s := by
  have hT : s.TypeIs (.ref I) "set_iterator" := ⟨_, hI, rfl⟩
  unfold pyNext
  refine wpAny_bind (wpAny_attempt (wpAny_callSpecial?_slot (name := Str.ofString "__next__") hT slot_next (wpAny_call_entry slot_next hT entry_next ?_ (args_next _))))
  unfold Builtin.«set_iterator.__next__»
  refine wpAny_bind (m := slotArgs _ _ _) (wpAny_of_eq (a := (Value.ref I, [])) (by rfl) ?_)
  dsimp only
  refine wpAny_bind (wpAny_fieldsOf hI rfl ?_)
  dsimp only
  refine wpAny_bind (wpAny_setEntries_of hS hd hf ?_)
  rw [if_neg (by rw [hn]; simp)]
  simp only [Int.toNat_natCast]
  refine wpAny_bind (hx _ _ _ ?_)
  dsimp only
  refine wpAny_bind (wpAny_setField hI rfl (by simp) ?_)
  refine stop_ok (A := A.in1) hh fun e h' k te => ?_
  refine wpAny_bind (wpAny_isInstance (T := "StopIteration") (b := true) te isSubtype_stop ?_)
  exact wpAny_pure (hQ _ fun b o hb e => k b o (((Heap.SameBut.update ..).2 b hb).trans e))
abbrev tupO (xs : List Value) : Obj := { cls := .type "tuple", data := .seq xs.toArray }
theorem seq_tup {T : Addr} {xs : List Value} {Q : Option (Array Value) → Shared → Prop} (h : s.heap.get? T = some (tupO xs)) (hq : Q (some xs.toArray) s) : wpAny (model prog w) A (seqItems? (.ref T)) Q E s := by
  unfold seqItems?
  refine wpAny_bind (wpAny_load h ?_)
  exact wpAny_pure hq
theorem dr_item {T : Addr} {places : List Nat} {k : Nat} {e : Int × Value} {Q : Option Value → Shared → Prop} (hI : s.heap.get? I = some (itO (.ref T) i S n ep)) (hT' : s.heap.get? T = some (tupO (places.map fun (p : Nat) => rawInt p))) (hS : s.heap.get? S = some o) (hd : o.data = .set es ep t)
    (hf : t.fits es.size = true) (hn : es.size = n) (hp : places[i]? = some k) (he : es[k]? = some e)
    (hQ : ∀ h', h'.get? I = some (itO (.ref T) (i + 1 : Nat) S n ep) → Heap.SameBut I s.heap h' → Q (some e.2) { s with heap := h' }) : wpAny (model prog w) A (pyNext (.ref I)) Q E s := by
  have hT : s.TypeIs (.ref I) "set_iterator" := ⟨_, hI, rfl⟩
  unfold pyNext
  refine wpAny_bind (wpAny_attempt (wpAny_callSpecial?_slot (name := Str.ofString "__next__") hT slot_next (wpAny_call_entry slot_next hT entry_next ?_ (args_next _))))
  unfold Builtin.«set_iterator.__next__»
  refine wpAny_bind (m := slotArgs _ _ _) (wpAny_of_eq (a := (Value.ref I, [])) (by rfl) ?_)
  dsimp only
  refine wpAny_bind (wpAny_fieldsOf hI rfl ?_)
  dsimp only
  refine wpAny_bind (wpAny_setEntries_of hS hd hf ?_)
  rw [if_neg (by rw [hn]; simp)]
  simp only [Int.toNat_natCast]
  refine wpAny_bind (seq_tup hT' ?_)
  dsimp only
  have hq : (places.map fun (p : Nat) => rawInt p).toArray[i]? = some (.int (k : Int) 0) := by simp [hp, rawInt]
  rw [hq]
  dsimp only
  simp only [Int.toNat_natCast]
  unfold setNextDrawn
  refine wpAny_bind (wpAny_bind (wpAny_setState_of hS hd hf ?_))
  dsimp only
  rw [if_neg (by simp)]
  rw [he]
  dsimp only
  refine wpAny_pure ?_
  refine wpAny_bind (wpAny_setField hI rfl (by simp) ?_)
  have g2 := fld_at 1 (rawInt (i + 1)) hI
  exact wpAny_pure ⟨_, rfl, wpAny_pure (hQ _ g2 (Heap.SameBut.update ..))⟩
theorem dr_end {T : Addr} {places : List Nat} {Q : Option Value → Shared → Prop} (hh : A.handled = none) (hI : s.heap.get? I = some (itO (.ref T) i S n ep)) (hT' : s.heap.get? T = some (tupO (places.map fun (p : Nat) => rawInt p))) (hS : s.heap.get? S = some o) (hd : o.data = .set es ep t)
    (hf : t.fits es.size = true) (hn : es.size = n) (hp : places[i]? = none)
    (hQ : ∀ h', (∀ b o, b ≠ I → s.heap.get? b = some o → h'.get? b = some o) → Q none { s with heap := h' }) : wpAny (model prog w) A (pyNext (.ref I)) Q E s := by
  have hT : s.TypeIs (.ref I) "set_iterator" := ⟨_, hI, rfl⟩
  unfold pyNext
  refine wpAny_bind (wpAny_attempt (wpAny_callSpecial?_slot (name := Str.ofString "__next__") hT slot_next (wpAny_call_entry slot_next hT entry_next ?_ (args_next _))))
  unfold Builtin.«set_iterator.__next__»
  refine wpAny_bind (m := slotArgs _ _ _) (wpAny_of_eq (a := (Value.ref I, [])) (by rfl) ?_)
  dsimp only
  refine wpAny_bind (wpAny_fieldsOf hI rfl ?_)
  dsimp only
  refine wpAny_bind (wpAny_setEntries_of hS hd hf ?_)
  rw [if_neg (by rw [hn]; simp)]
  simp only [Int.toNat_natCast]
  refine wpAny_bind (seq_tup hT' ?_)
  dsimp only
  have hq : (places.map fun (p : Nat) => rawInt p).toArray[i]? = none := by simpa using hp
  rw [hq]
  dsimp only
  refine wpAny_bind (wpAny_setField hI rfl (by simp) ?_)
  have g2 := fld_at 0 (rawInt 0) hI
  refine wpAny_bind (wpAny_setField g2 rfl (by simp) ?_)
  refine stop_ok (A := A.in1) hh fun e h' k te => ?_
  refine wpAny_bind (wpAny_isInstance (T := "StopIteration") (b := true) te isSubtype_stop ?_)
  exact wpAny_pure (hQ _ fun b o hb e => k b o (((Heap.SameBut.update ..).2 b hb).trans (((Heap.SameBut.update ..).2 b hb).trans e)))
end
end
-- SE
noncomputable section
open PySem PySem.W PySem.Calls PyProof.Rows PySem.Spec
set_option maxRecDepth 100000
section
variable {prog : Program} {w : World} {A : Around} {E : Value → Shared → Prop} {s : Shared} {I S : Addr} {ep : Nat} {o : Obj} {es : Array (Int × Value)} {t : SetTable}
theorem byText_ok {Q : Bool → Shared → Prop} (h : Q (w.params.followText "set-order") s) : wpAny (model prog w) A setsByText Q E s := by
  unfold setsByText
  exact wpAny_bind (wpAny_askSetting (wpAny_pure h))
theorem next_text (bt : w.params.followText "set-order" = true) (hS : s.heap.get? S = some o) (hd : o.data = .set es ep t) (hf : t.fits es.size = true) {slot i : Nat} {Q : Option (Value × Nat) → Shared → Prop}
    (h : Q (((pickOrder (w.params.setOrder S ep) es)[i]?).map fun e => (e.2, slot)) s) : wpAny (model prog w) A (setNext S slot i ep) Q E s := by
  unfold setNext
  refine wpAny_bind (wpAny_setState_of hS hd hf ?_)
  dsimp only
  refine wpAny_bind (byText_ok ?_)
  rw [bt]
  simp only [↓reduceIte]
  rw [if_neg (by simp)]
  unfold setWalk
  refine wpAny_bind (wpAny_bind (wpAny_setState_of hS hd hf ?_))
  dsimp only
  refine wpAny_bind (byText_ok ?_)
  rw [bt]
  simp only [↓reduceIte]
  refine wpAny_bind (wpAny_askSetting ?_)
  exact wpAny_pure (wpAny_pure h)
def slotOf (t : SetTable) (i : Nat) : Nat := if i = 0 then 0 else t.place.getD (i - 1) 0 + 1
theorem next_table (bt : w.params.followText "set-order" = false) (hS : s.heap.get? S = some o) (hd : o.data = .set es ep t) (hf : t.fits es.size = true) (T : Tab t) (led : t.led = true) (nd : (!t.plain && decide (es.size > 1)) = false) {i : Nat} (hi : i ≤ es.size) {Q : Option (Value × Nat) → Shared → Prop}
    (h : Q ((es[i]?).map fun e => (e.2, slotOf t (i + 1))) s) : wpAny (model prog w) A (setNext S (slotOf t i) i ep) Q E s := by
  have hsz : t.place.size = es.size := by
    simp only [SetTable.fits, Bool.and_eq_true, beq_iff_eq] at hf
    exact hf.1
  have hb : SetTable.below t.place (slotOf t i) = i := by
    unfold slotOf
    by_cases h0 : i = 0
    · subst h0; simp only [if_true]; exact below_zero T.ris
    · rw [if_neg h0]
      have hl : i - 1 < t.place.size := by lia
      have ge := Array.getElem?_eq_getElem hl
      have := below_next T.ris ge
      rw [Array.getD, dif_pos hl]
      rw [show i - 1 + 1 = i by lia] at this
      exact this
  unfold setNext
  refine wpAny_bind (wpAny_setState_of hS hd hf ?_)
  dsimp only
  refine wpAny_bind (byText_ok ?_)
  rw [bt]
  simp only [Bool.false_eq_true, ↓reduceIte]
  refine wpAny_ite_split (fun hc => ?_) (fun hc => ?_)
  · exact absurd (show (!t.plain && decide (es.size > 1)) = true from hc) (by rw [nd]; simp)
  refine wpAny_bind ?_
  show wpAny _ _ (if (!t.led && !es.isEmpty) = true then unsupported "set:maker-not-led" else pure ()) _ _ _
  rw [led]
  simp only [Bool.not_true, Bool.false_and, Bool.false_eq_true, ↓reduceIte]
  refine wpAny_pure ?_
  rw [hb]
  rcases Nat.lt_or_ge i es.size with hlt | hge
  · have g1 := Array.getElem?_eq_getElem hlt
    have g2 := Array.getElem?_eq_getElem (xs := t.place) (i := i) (by lia)
    rw [g1, g2]
    rw [g1] at h
    have e : slotOf t (i + 1) = t.place[i]'(by lia) + 1 := by
      unfold slotOf; rw [if_neg (by lia)]; simp [Array.getD, hsz, hlt]
    rw [e] at h
    exact wpAny_pure h
  · have g1 : es[i]? = none := Array.getElem?_eq_none hge
    rw [g1] at h ⊢
    exact wpAny_pure h
abbrev NextVal (vals : List Value) (i : Nat) (v : Value) : Prop := vals[i]? = some v
theorem slot_it : Slot "set_iterator" "__iter__" "set_iterator.__iter__" :=
  .of (owner := "set_iterator") (n := "__iter__") (by rw [typeLookup_type, builtinLookup_eq_fast]; kernel_rfl) (by decide +kernel) (by decide +kernel) (by decide +kernel)
    (by first | exact .inl (by decide +kernel) | exact .inr (by decide +kernel)) (by rw [isSubtype_type]; kernel_rfl)
theorem self_it {first : Value} {i n : Nat} {Q : Value → Shared → Prop} (hI : s.heap.get? I = some (itO first i S n ep)) (h : Q (.ref I) s) : wpAny (model prog w) A (pyIter (.ref I)) Q E s := by
  have hT : s.TypeIs (.ref I) "set_iterator" := ⟨_, hI, rfl⟩
  refine wpAny_pyIter_slot hT slot_it (wpAny_call_entry slot_it hT (b := Builtin.«dict_keyiterator.__iter__») (by exact entryFor_alias (id' := "dict_keyiterator.__iter__") (by kernel_rfl) rfl (by decide +kernel) (by kernel_rfl)) ?_ ?_)
  · show wpAny _ _ (ret (.ref I)) _ _ s
    exact wpAny_pure ⟨_, rfl, "set_iterator", _, hT, slot_next.lookup, h⟩
  · unfold argsOk; rw [signature?_of (id := "set_iterator.__iter__") (n := ['_', '_', 'r', 'e', 't', 'i', '_', '_']) (o := ['r', 'o', 't', 'a', 'r', 'e', 't', 'i', '_', 't', 'e', 's']) (by kernel_rfl) owner_it]; kernel_rfl
theorem walks_tab {n : Nat} {slots : Nat → Nat} {ord : List (Int × Value)} (hh : A.handled = none) (IS : I ≠ S) (hd : o.data = .set es ep t) (hf : t.fits es.size = true) (hn : es.size = n) (hl : ord.length = n)
    (hx : ∀ (s : Shared) (i : Nat), s.heap.get? S = some o → i ≤ n → ∀ (A : Around) (E : Value → Shared → Prop) (Q : Option (Value × Nat) → Shared → Prop), Q ((ord[i]?).map fun e => (e.2, slots (i + 1))) s → wpAny (model prog w) A (setNext S (slots i) i ep) Q E s) :
    Walks prog w A I [I, S] [I] n (NextVal (ord.map (·.2))) (fun i h => h.get? I = some (itO (.int (slots i) 0) i S n ep) ∧ h.get? S = some o) where
  sub := fun b hb => by simp at hb; simp [hb]
  frame := fun zz zz zz st hk => ⟨hk I (by simp) _ st.1, hk S (by simp) _ st.2⟩
  item := fun i s Q E hi st hQ => by
    have ge := List.getElem?_eq_getElem (l := ord) (i := i) (by lia)
    refine it_item (x := ord[i].2) (nx := slots (i + 1)) st.1 st.2 hd hf hn (fun A E Q q => hx s i st.2 (by lia) A E Q ?_) fun h' g sb => ?_
    · rw [ge]; exact q
    · refine hQ _ h' s.toks ?_ ⟨g, (sb.2 S (Ne.symm IS)).trans st.2⟩ fun b o hb e => (sb.2 b (by simpa using hb)).trans e
      show (ord.map (·.2))[i]? = some _
      rw [List.getElem?_map, ge]; rfl
  done := fun s Q E st hQ => by
    refine it_end hh st.1 st.2 hd hf hn (fun A E Q q => hx s n st.2 (by lia) A E Q ?_) fun h' k => hQ h' s.toks fun b o hb e => k b o (by simpa using hb) e
    rw [List.getElem?_eq_none (by lia)]; exact q
  self := fun zz zz zz zz st hQ => self_it st.1 hQ
def elt (es : Array (Int × Value)) (k : Nat) : Int × Value := es[k]?.getD (0, .none)
theorem map_elt (es : Array (Int × Value)) : (List.range es.size).map (elt es) = es.toList := by
  apply List.ext_getElem (by simp)
  intro i h1 h2
  simp at h1
  simp [elt, h1]
theorem walks_dr {T : Addr} {places : List Nat} (hh : A.handled = none) (IS : I ≠ S) (IT : I ≠ T) (hd : o.data = .set es ep t) (hf : t.fits es.size = true) (hpl : places.Perm (List.range es.size)) :
    Walks prog w A I [I, S, T] [I] es.size (NextVal ((places.map (elt es)).map (·.2))) (fun i h => h.get? I = some (itO (.ref T) i S es.size ep) ∧ h.get? S = some o ∧ h.get? T = some (tupO (places.map fun (p : Nat) => rawInt p))) where
  sub := fun b hb => by simp at hb; simp [hb]
  frame := fun zz zz zz st hk => ⟨hk I (by simp) _ st.1, hk S (by simp) _ st.2.1, hk T (by simp) _ st.2.2⟩
  item := fun i s Q E hi st hQ => by
    have hl : places.length = es.size := by have := hpl.length_eq; simpa using this
    have g := List.getElem?_eq_getElem (l := places) (i := i) (by lia)
    have hk : places[i] < es.size := by
      have := hpl.mem_iff.mp (List.getElem_mem (l := places) (n := i) (by lia))
      simpa using this
    have ge := Array.getElem?_eq_getElem hk
    refine dr_item st.1 st.2.2 st.2.1 hd hf rfl g ge fun h' g' sb => ?_
    refine hQ _ h' s.toks ?_ ⟨g', (sb.2 S (Ne.symm IS)).trans st.2.1, (sb.2 T (Ne.symm IT)).trans st.2.2⟩ fun b o hb e => (sb.2 b (by simpa using hb)).trans e
    show ((places.map (elt es)).map (·.2))[i]? = some _
    rw [List.getElem?_map, List.getElem?_map, g]
    simp only [Option.map_some, elt, ge, Option.getD_some]
  done := fun s Q E st hQ => by
    have hl : places.length = es.size := by have := hpl.length_eq; simpa using this
    exact dr_end hh st.1 st.2.2 st.2.1 hd hf rfl (List.getElem?_eq_none (by lia)) fun h' k => hQ h' s.toks fun b o hb e => k b o (by simpa using hb) e
  self := fun zz zz zz zz st hQ => self_it st.1 hQ
theorem valI_perm {es : Array (Int × Value)} {l : List (Int × Value)} (hel : ElemsOf (intKind prog w) es.toList) (hl : l.Perm es.toList) : IntsAre (l.map (·.2)) (l.map fun e => valI e.2) := by
  have q : ∀ e ∈ l, ∃ k t, e.2 = .int k t := fun e he => by
    obtain ⟨k, hk⟩ := hel.keys e (hl.mem_iff.mp he)
    obtain ⟨t, ht⟩ := int_is hk
    exact ⟨k, t, ht⟩
  clear hl
  induction l with
  | nil => exact .nil
  | cons a r ih =>
    obtain ⟨k, t, ht⟩ := q a (by simp)
    simp only [List.map_cons, ht, valI]
    exact .cons k t (ih fun e he => q e (by simp [he]))
theorem iter_set {ks : List Int} {Q : Value → Shared → Prop} (hS : SetP prog w s.heap S ks)
    (h : ∀ (I : Addr) (fp : List Addr) (St : Nat → Heap → Prop) (vals : List Value) (ms : List Int) h' d, (∀ A : Around, A.handled = none → Walks prog w A I fp [I] ks.length (NextVal vals) St) → St 0 h' → (∀ b o, s.heap.get? b = some o → h'.get? b = some o) →
      s.heap.get? I = none → (∀ b ∈ fp, b = S ∨ s.heap.get? b = none) → (∀ b ∈ fp, b < h'.objs.size) → vals.length = ks.length → IntsAre vals ms → ms.Perm ks → Q (.ref I) { s with heap := h', drawn := d }) : wpAny (model prog w) A (pyIter (.ref S)) Q E s := by
  have sz := fun o es ep t ho hd => SetP.size (o := o) (es := es) (ep := ep) (t := t) hS ho hd
  obtain ⟨o, es, ep, t, ho, hex, hd, hel, hp, hb, hf, T, hled⟩ := hS
  have hn := sz o es ep t ho hd
  have hT : s.TypeIs (.ref S) "set" := ⟨_, ho, hex.1⟩
  have S0 : S < s.heap.objs.size := Heap.lt_size ho
  have fin : ∀ {l : List (Int × Value)}, l.Perm es.toList → (l.map fun e => valI e.2).Perm ks := fun hl => (hl.map _).trans hp
  refine wpAny_pyIter_slot hT PySem.F.slot_set_iter (wpAny_call_entry PySem.F.slot_set_iter hT entry_iter ?_ (PySem.F.args_set_iter_1 _))
  unfold Builtin.«frozenset.__iter__» Builtin.Frozenset.slot0
  refine wpAny_bind (wpAny_bind (m := slotArgs _ _ _) (wpAny_of_eq (a := (Value.ref S, [])) (by rfl) ?_))
  dsimp only
  unfold Builtin.Frozenset.addrOf Builtin.Frozenset.sizeOf
  refine wpAny_pure ?_
  refine wpAny_bind (wpAny_bind (wpAny_setEntries_of ho hd hf (wpAny_pure ?_)))
  unfold setDrawn
  refine wpAny_bind (wpAny_bind (wpAny_setState_of ho hd hf ?_))
  dsimp only
  refine wpAny_bind (byText_ok ?_)
  refine wpAny_pure ?_
  refine wpAny_ite_split (fun hc => ?_) (fun hc => ?_)
  · refine wpAny_bind (draw_perm _ _ _ _ (by simp) fun places d hpl => ?_)
    have hpz : places.length = es.size := by have := hpl.length_eq; simpa using this
    unfold newTuple
    refine wpAny_bind (wpAny_newObj_type ?_ ?_)
    · unfold setEpoch
      refine wpAny_bind (wpAny_bind (wpAny_setState_of (Heap.get?_push_of_some _ ho) hd hf (wpAny_pure ?_)))
      unfold newFields
      refine wpAny_bind (wpAny_newObj_type (wpAny_pure ⟨_, rfl, "set_iterator", _, ⟨_, Heap.get?_push_size _ rfl, rfl⟩, slot_next.lookup, ?_⟩))
      have sI : (s.heap.push (tupO (places.map fun (p : Nat) => rawInt p))).objs.size = s.heap.objs.size + 1 := Heap.size_push ..
      have pp : (places.map (elt es)).Perm es.toList := by have := hpl.map (elt es); rwa [map_elt] at this
      have IS : (s.heap.push (tupO (places.map fun (p : Nat) => rawInt p))).objs.size ≠ S := by rw [sI]; exact Nat.ne_of_gt (Nat.lt_succ_of_lt S0)
      have IT : (s.heap.push (tupO (places.map fun (p : Nat) => rawInt p))).objs.size ≠ s.heap.objs.size := by rw [sI]; exact Nat.ne_of_gt (Nat.lt_succ_self _)
      refine h _ _ _ _ _ _ d (fun A hh => by have := walks_dr (prog := prog) (w := w) (A := A) hh IS IT hd hf hpl; rw [hn] at this; exact this)
        (by rw [← hn]; exact ⟨Heap.get?_push_size _ rfl, Heap.get?_push_of_some _ (Heap.get?_push_of_some _ ho), Heap.get?_push_of_some _ (Heap.get?_push_size _ rfl)⟩) (fun b o e => Heap.get?_push_of_some _ (Heap.get?_push_of_some _ e))
        (Heap.get?_none_of_le (by rw [sI]; exact Nat.le_succ _)) (fun b hb => ?_) (fun b hb => ?_) (by simp [hpz, hn]) (valI_perm hel pp) (fin pp)
      · simp only [List.mem_cons, List.not_mem_nil, or_false] at hb
        rcases hb with rfl | rfl | rfl
        · exact .inr (Heap.get?_none_of_le (by rw [sI]; exact Nat.le_succ _))
        · exact .inl rfl
        · exact .inr (Heap.get?_none_of_le (Nat.le_refl _))
      · rw [Heap.size_push, sI]
        simp only [List.mem_cons, List.not_mem_nil, or_false, sI] at hb
        rcases hb with rfl | rfl | rfl
        · exact Nat.lt_succ_self _
        · exact Nat.lt_succ_of_lt (Nat.lt_succ_of_lt S0)
        · exact Nat.lt_succ_of_lt (Nat.lt_succ_self _)
    · show (places.map fun (p : Nat) => rawInt p).toArray.size ≤ sizeLine
      have := fits_of_scanBound hb
      simp only [List.size_toArray, List.length_map, hpz]; exact this
  · have hc' : ¬ (!w.params.followText "set-order" && (!t.plain && decide (es.size > 1))) = true := hc
    refine wpAny_bind (wpAny_pure ?_)
    unfold setEpoch
    refine wpAny_bind (wpAny_bind (wpAny_setState_of ho hd hf (wpAny_pure ?_)))
    unfold newFields
    refine wpAny_bind (wpAny_newObj_type (wpAny_pure ⟨_, rfl, "set_iterator", _, ⟨_, Heap.get?_push_size _ rfl, rfl⟩, slot_next.lookup, ?_⟩))
    have IS : s.heap.objs.size ≠ S := Nat.ne_of_gt S0
    have fresh : ∀ b ∈ [s.heap.objs.size, S], b = S ∨ s.heap.get? b = none := fun b hb => by
      simp only [List.mem_cons, List.not_mem_nil, or_false] at hb
      rcases hb with rfl | rfl
      · exact .inr (Heap.get?_none_of_le (Nat.le_refl _))
      · exact .inl rfl
    have low : ∀ (o : Obj), ∀ b ∈ [s.heap.objs.size, S], b < (s.heap.push o).objs.size := fun o b hb => by
      rw [Heap.size_push]
      simp only [List.mem_cons, List.not_mem_nil, or_false] at hb
      rcases hb with rfl | rfl
      · exact Nat.lt_succ_self _
      · exact Nat.lt_succ_of_lt S0
    cases bt : w.params.followText "set-order" with
    | true =>
      have pp := pick_perm (w.params.setOrder S ep) es
      have pz : (pickOrder (w.params.setOrder S ep) es).toList.length = es.size := by have := pp.length_eq; simpa using this
      refine h _ _ _ _ _ _ s.drawn (fun A hh => by
        have := walks_tab (prog := prog) (w := w) (A := A) (slots := fun zz => 0) hh IS hd hf rfl pz fun s i hs hi A E Q q => next_text bt hs hd hf (by rw [Array.getElem?_toList] at q; exact q)
        rw [hn] at this; exact this)
        (by rw [← hn]; exact ⟨Heap.get?_push_size _ rfl, Heap.get?_push_of_some _ ho⟩) (fun b o e => Heap.get?_push_of_some _ e) (Heap.get?_none_of_le (Nat.le_refl _)) fresh (low _) (by simp [pz, hn]) (valI_perm hel pp) (fin pp)
    | false =>
      rw [bt] at hc'
      simp only [Bool.not_false, Bool.true_and, Bool.not_eq_true] at hc'
      refine h _ _ _ _ _ _ s.drawn (fun A hh => by
        have := walks_tab (prog := prog) (w := w) (A := A) (slots := slotOf t) (ord := es.toList) hh IS hd hf rfl (by simp) fun s i hs hi A E Q q => next_table bt hs hd hf T (hled bt) hc' hi (by rw [Array.getElem?_toList] at q; exact q)
        rw [hn] at this; exact this)
        (by rw [← hn]; exact ⟨Heap.get?_push_size _ rfl, Heap.get?_push_of_some _ ho⟩) (fun b o e => Heap.get?_push_of_some _ e) (Heap.get?_none_of_le (Nat.le_refl _)) fresh (low _) (by simp [hn]) (valI_perm hel (List.Perm.refl _)) (fin (List.Perm.refl _))
end
end
-- SF
noncomputable section
open PySem PySem.W PySem.Calls PyProof.Rows PySem.Spec
set_option maxRecDepth 100000
section
variable {prog : Program} {w : World} {A : Around} {E : Value → Shared → Prop} {s : Shared} {S : Addr} {ks : List Int}
theorem hint_set {Q : Bool → Shared → Prop} (hT : s.TypeIs (.ref S) "set") (h : Q false s) : wpAny (model prog w) A (Builtin.List.listLengthHint (.ref S)) Q E s := by
  unfold Builtin.List.listLengthHint
  refine wpAny_bind (wpAny_specialOf hT PySem.F.slot_set_len.lookup ?_)
  generalize hid : ("set.__len__" : String) = id0
  wp_delta
  rw [show splitId id0 = some ("set", "__len__") from by subst hid; decide +kernel]
  subst hid
  refine wpAny_bind (wpAny_isInstance (T := "set") (b := true) hT (by rw [isSubtype_type]; kernel_rfl) ?_)
  refine wpAny_ite_split (fun hab => absurd hab (by decide)) (fun zz => ?_)
  refine wpAny_ite_split (fun zz => ?_) (fun hab => absurd (by decide +kernel) hab)
  refine wpAny_bind (wpAny_typeOf hT ?_)
  exact wpAny_pure h
theorem acc_eq {vals : List Value} {acc : Array Value} {n : Nat} (hl : vals.length = n) (h : ItemsOf (NextVal vals) acc n) : acc.toList = vals := by
  apply List.ext_getElem?
  intro i
  rcases Nat.lt_or_ge i acc.size with q | q
  · have e : acc[i]? = some acc[i] := Array.getElem?_eq_getElem q
    rw [Array.getElem?_toList, e]; exact (h.2 i _ e).symm
  · rw [Array.getElem?_toList, Array.getElem?_eq_none q, List.getElem?_eq_none (by have := h.1; lia)]
theorem ext_set {R : Result → Shared → Prop} (hS : SetP prog w s.heap S ks) (hz : ks.length ≤ sizeLine) (hh : A.handled = none) (D : Addr) (DS : D ≠ S) (res : Value) (c₀ : Nat) (hD : s.heap.get? D = some { cls := .type "list", data := .seq #[] c₀ })
    (hR : ∀ h' tk d acc c ms, (∀ b o, b ≠ D → s.heap.get? b = some o → h'.get? b = some o) → h'.get? D = some { cls := .type "list", dict := none, data := .seq acc c, slots := #[] } → IntsAre acc.toList ms → ms.Perm ks → R (.ok (.ret res)) { s with heap := h', drawn := d, toks := tk }) :
    wpAny (model prog w) A.in1 (Builtin.List.listExtendWith (.ref D) (.ref S) res)
      (fun fin s' => match fin with | .done f => R (.ok f) s' | .again c' => c'.quiet = true ∧ codeAny (model prog w) A c' R s') (fun e s' => R (.error e) s') s := by
  have hT : s.TypeIs (.ref S) "set" := by
    obtain ⟨o, es, ep, t, ho, hex, zz⟩ := hS
    exact ⟨_, ho, hex.1⟩
  unfold Builtin.List.listExtendWith
  refine wpAny_bind (wpAny_typeOf hT ?_)
  have h1 : Builtin.List.listSameRef (.ref D) (.ref S) = false := by simp [Builtin.List.listSameRef, DS]
  have h2 : (Value.type "set" == Value.type "list") = false := by decide
  have h3 : (Value.type "set" == Value.type "tuple") = false := by decide
  simp only [h1, h2, h3, Bool.or_false, Bool.false_eq_true, if_false]
  refine wpAny_bind (iter_set hS fun I fp St vals ms h₁ d W st k In nf zz hl hi hp => ?_)
  have Df : D ∉ fp := fun m => by
    rcases nf D m with q | q
    · exact DS q
    · rw [hD] at q; cases q
  have hD₁ := k _ _ hD
  have key : ∀ (h : Heap) (c₁ tk : Nat), St 0 h → (∀ b o, b ≠ D → s.heap.get? b = some o → h.get? b = some o) → h.get? D = some { cls := .type "list", data := .seq #[] c₁ } →
      codeAny (model prog w) A (.builtin "list.extend.loop" ⟨[.ref D, .ref I, res], []⟩) R { s with heap := h, drawn := d, toks := tk } := by
    intro h c₁ tk hst hk hD'
    refine codeAny_extend_loopS (W A.in1 hh).toS hz D Df res ks.length 0 _ #[] c₁ rfl (Nat.zero_le _) hst hD' (ItemsOf.nil _) fun s' acc' c' hm hS' hacc => ?_
    rw [Moved.eq_with hm]
    refine hR s'.heap s'.toks d acc' c' ms (fun b o hb e => hm.heap b o (fun hmem => ?_) (hk b o hb e)) hS' (by rw [acc_eq hl hacc]; exact hi) hp
    rcases List.mem_cons.mp hmem with e' | hmem
    · exact hb e'
    · rw [List.mem_singleton.mp hmem, In] at e; cases e
  refine wpAny_bind (wpAny_holding (hint_set (s := { s with heap := h₁, drawn := d }) ?_ ?_))
  · obtain ⟨o, ho, hc⟩ := hT; exact ⟨o, k _ _ ho, hc⟩
  refine wpAny_ite_split (fun zz => ?_) (fun zz => wpAny_pure ⟨plainId_quiet PySem.F.plain_extend_loop _, key _ c₀ _ st (fun b o zz e => k b o e) hD₁⟩)
  refine wpAny_bind (wpAny_rule ?_)
  refine wpAny_bind ?_
  show wpAny _ _ (updateSeq D (·.push .none) >>= fun zz => updateSeq D (·.pop)) _ _ _
  refine wpAny_bind (wpAny_updateSeq hD₁ rfl ?_)
  have hD₂ := Heap.get?_update_self (Obj.mapSeq (·.push Value.none)) hD₁ rfl
  refine wpAny_updateSeq (hz := by seq_fits) hD₂ rfl ?_
  have hD₃ := Heap.get?_update_self (Obj.mapSeq (·.pop)) hD₂ rfl
  have oth : ∀ b o, b ≠ D → h₁.get? b = some o → ((h₁.update D (Obj.mapSeq (·.push Value.none))).update D (Obj.mapSeq (·.pop))).get? b = some o := fun b o hb e =>
    (Heap.get?_update_other _ _ (Ne.symm hb)).trans ((Heap.get?_update_other _ _ (Ne.symm hb)).trans e)
  exact wpAny_pure ⟨plainId_quiet PySem.F.plain_extend_loop _, key _ _ _ ((W A.in1 hh).frame 0 _ _ st fun b hb o e => oth b o (fun q => Df (q ▸ hb)) e) (fun b o hb e => oth b o hb (k b o e)) hD₃⟩
theorem collect_set {R : List Value → Shared → Prop} (hS : SetP prog w s.heap S ks) (hz : ks.length ≤ sizeLine) (hh : A.handled = none)
    (h : ∀ h' tk d acc ms, (∀ b o, s.heap.get? b = some o → h'.get? b = some o) → IntsAre acc ms → ms.Perm ks → R acc { s with heap := h', drawn := d, toks := tk }) : wpAny (model prog w) A (collect (.ref S)) R E s := by
  have S0 : S < s.heap.objs.size := by obtain ⟨o, es, ep, t, ho, zz⟩ := hS; exact Heap.lt_size ho
  unfold collect
  refine wpAny_bind (wpAny_runValue (codeAny_builtin PySem.F.entry_proto_collect ?_))
  rw [Around.under_plainId PySem.F.plain_proto_collect _]
  show wpAny _ A.in1 (newList [] >>= fun l => again (.builtin "list.__iadd__" ⟨[l, .ref S], []⟩)) _ _ s
  refine wpAny_bind (wpAny_newObj_type ?_)
  refine wpAny_pure ⟨plainId_quiet PySem.F.plain_list_iadd _, codeAny_builtin PySem.F.entry_list_iadd ?_⟩
  rw [Around.under_plainId PySem.F.plain_list_iadd _]
  show wpAny _ A.in1 (Builtin.List.listExtendWith (.ref s.heap.objs.size) (.ref S) (.ref s.heap.objs.size)) _ _ _
  have hD : (s.heap.push { cls := .type "list", data := .seq ([] : List Value).toArray }).get? s.heap.objs.size = some { cls := .type "list", data := .seq #[] } := Heap.get?_push_size _ rfl
  have key := ext_set (A := A) (s := { s with heap := s.heap.push { cls := .type "list", data := .seq ([] : List Value).toArray } })
    (R := fun (q : Result) (s' : Shared) => ∃ h' tk d acc c ms, q = .ok (.ret (.ref s.heap.objs.size)) ∧ s' = { s with heap := h', drawn := d, toks := tk } ∧ (∀ b o, s.heap.get? b = some o → h'.get? b = some o) ∧
      h'.get? s.heap.objs.size = some { cls := .type "list", dict := none, data := .seq acc c, slots := #[] } ∧ IntsAre acc.toList ms ∧ ms.Perm ks)
    (hS.at fun o e => Heap.get?_push_of_some _ e) hz hh s.heap.objs.size (Nat.ne_of_gt S0) (.ref s.heap.objs.size) 0 hD
    (fun h' tk d acc c ms hk hg hi hp => ⟨h', tk, d, acc, c, ms, rfl, rfl, fun b o e => hk b o (Nat.ne_of_lt (Heap.lt_size e)) (Heap.get?_push_of_some _ e), hg, hi, hp⟩)
  refine wpAny_mono key (fun fin s' x => ?_) fun e s' x => ?_
  · cases fin with
    | done f =>
      obtain ⟨h', tk, d, acc, c, ms, e, rfl, hk, hg, hi, hp⟩ := x
      cases e
      show wpAny _ A (load s.heap.objs.size >>= _) _ _ _
      refine wpAny_bind (wpAny_load hg ?_)
      exact wpAny_pure (h h' tk d acc.toList ms hk hi hp)
    | again c₁ =>
      refine ⟨x.1, codeAny_mono x.2 fun q s₂ y => ?_⟩
      obtain ⟨h', tk, d, acc, c, ms, rfl, rfl, hk, hg, hi, hp⟩ := y
      show wpAny _ A (load s.heap.objs.size >>= _) _ _ _
      refine wpAny_bind (wpAny_load hg ?_)
      exact wpAny_pure (h h' tk d acc.toList ms hk hi hp)
  · obtain ⟨zz, zz, zz, zz, zz, zz, e', zz⟩ := x
    cases e'
theorem sorted_set {Q : Value → Shared → Prop} (hS : SetP prog w s.heap S ks) (hz : ks.length < 64) (hh : A.handled = none)
    (h : ∀ h' tk d B (out : Array Value) ms n, (∀ b o, s.heap.get? b = some o → h'.get? b = some o) → s.heap.get? B = none → h'.get? B = some (seqObj "list" out n) → IntsAre out.toList ms → ms.Perm ks → ms.Pairwise (· ≤ ·) → Q (.ref B) { s with heap := h', drawn := d, toks := tk }) :
    wpAny (model prog w) A (call (.builtin "sorted") [.ref S]) Q E s := by
  refine call_function_entry kind_sorted plain_sorted entry_sorted (args_sorted1 _) ?_
  unfold Builtin.«sorted»
  refine wpAny_bind (m := checkCount "sorted" 1 1 _) (wpAny_pure ?_)
  refine wpAny_bind (collect_set (A := A.in1) hS (sz (by lia)) hh fun h' tk d acc ms hk hi hp => ?_)
  have hl : acc.length = ks.length := by rw [hi.length, hp.length_eq]
  refine wpAny_bind (wpAny_newList ?_ (by rw [hl]; exact sz (by lia)))
  have ho : (h'.push { cls := .type "list", data := .seq acc.toArray }).get? h'.objs.size = some (seqObj "list" acc.toArray 0) := Heap.get?_push_size _ rfl
  have hBn : s.heap.get? h'.objs.size = none := by
    cases q : s.heap.get? h'.objs.size with
    | none => rfl
    | some o => exact absurd (Heap.lt_size (hk _ _ q)) (Nat.lt_irrefl _)
  refine wpAny_bind (wpAny_holding (sort_at (M := model prog w) (A := A.in1) (s := { s with heap := h'.push { cls := .type "list", data := .seq acc.toArray }, drawn := d, toks := tk }) ho hi (by lia) fun h2 out ns' e2 ho2 ko hI hp' hP => ?_))
  refine wpAny_pure ⟨_, rfl, h h2 tk d h'.objs.size out ns' e2 (fun b o e => ko b o (fun q => ?_) (Heap.get?_push_of_some _ (hk b o e))) hBn ho2 hI (hp'.trans hp) hP⟩
  rw [q, hBn] at e; cases e
end
end
-- SG
noncomputable section
open PySem PySem.W PySem.Calls PyProof.Rows PySem.SeqAt
section
variable {C : Cx} {fs : FS} {R : Addr → Option Obj} {s : Shared}
theorem FR.drawn (F : FR C R fs s) (d : Drawn) : FR C R fs { s with drawn := d } := ⟨F.gens, F.os, F.base, F.rk, F.hr, F.rl, F.loc, F.cells, F.apart, F.names, F.co⟩
def SetR (C : Cx) (h : Heap) (ks : List Int) (x : Value) : Prop := ∃ S, x = .ref S ∧ SetP C.W.prog C.W.w h S ks
theorem ev_setOf {e : PySem.Expr} {np pos : Pos} {Q : List Int → FS → Prop} (hh : C.A.handled = none) (hn : ∀ Q : V → FS → Prop, ∀ f, Q (.ty "set") f → EV C (.Name "set" np) Q f)
    (h : EV C e (fun v f => ∃ l ks, v = .ref l ∧ f.σ.li l = some (ks.map .int) ∧ ks.Nodup ∧ ks.length ≤ 1000 ∧ Q ks f) fs)
    (hp : (backTo pos (starEach [e] C.env)).any (·.1) = false := by rfl) (he : starEach [e] C.env = (false, eval e C.env) :: starEach [] C.env := by rfl) : WP C (SetR C) (eval (.Call (.Name "set" np) [e] [] pos) C.env) Q fs := fun R s F => by
  refine wpAny_Call_NameR (wp_to (hn (fun v f => v = .ty "set" ∧ f = fs) fs ⟨rfl, rfl⟩ R s F) fun a v f1 s1 F1 t1 r1 q1 => ?_)
  obtain ⟨rfl, rfl⟩ := q1
  simp only [VR] at r1; subst r1
  refine callWith_V kp_type hp (wp_to (spl_cons (Q := fun vs f => ∃ l ks, vs = [.ref l] ∧ f.σ.li l = some (ks.map .int) ∧ ks.Nodup ∧ ks.length ≤ 1000 ∧ Q ks f) (h.mono fun v f x => spl_nil (by
    obtain ⟨l, ks, rfl, r⟩ := x
    exact ⟨l, ks, rfl, r⟩)) he R s1 F1) fun vs ws f2 s2 F2 t2 r2 q2 => ⟨F2.k, ?_⟩)
  obtain ⟨l, ks, rfl, el, nd, hz, q⟩ := q2
  simp only [LR, VR] at r2
  obtain ⟨zz, zz, rfl, rfl, rfl⟩ := r2
  obtain ⟨items, n, ho, lr, hs⟩ := F2.list el
  refine make_set (w := C.W.w) (prog := C.W.prog) hh (isL ho) (LR.ints lr) nd (by unfold scanBound; lia) fun h' tk S k => ?_
  have kk : KeepAll s2.heap h' := fun b o e => k b o (Heap.lt_size e) e
  exact ⟨ks, f2, F2.keeps kk, (t1.trans t2).trans kk.tk, ⟨_, rfl, S⟩, q⟩
theorem ev_sortedSet {e : PySem.Expr} {np pos : Pos} {Q : V → FS → Prop} (hh : C.A.handled = none) (hn : ∀ Q : V → FS → Prop, ∀ f, Q (.bi "sorted") f → EV C (.Name "sorted" np) Q f)
    (h : WP C (SetR C) (eval e C.env) (fun ks f => ks.length < 64 ∧ ∀ a (ms : List Int), f.σ.Fresh a → ms.Perm ks → ms.Pairwise (· ≤ ·) → Q (.ref a) { f with σ := f.σ.setLi a (ms.map .int) }) fs)
    (hp : (backTo pos (starEach [e] C.env)).any (·.1) = false := by rfl) (he : starEach [e] C.env = (false, eval e C.env) :: starEach [] C.env := by rfl) : EV C (.Call (.Name "sorted" np) [e] [] pos) Q fs := fun R s F => by
  refine wpAny_Call_NameR (wp_to (hn (fun v f => v = .bi "sorted" ∧ f = fs) fs ⟨rfl, rfl⟩ R s F) fun a v f1 s1 F1 t1 r1 q1 => ?_)
  obtain ⟨rfl, rfl⟩ := q1
  simp only [VR] at r1; subst r1
  refine callWith_V kp_builtin hp (spliced_more (wp_to (h R s1 F1) fun a ks f2 s2 F2 t2 r2 q2 => spliced_none ⟨F2.k, ?_⟩) he)
  obtain ⟨S, rfl, hS⟩ := r2
  obtain ⟨hz, q⟩ := q2
  refine sorted_set (w := C.W.w) (prog := C.W.prog) hS hz hh fun h' tk d B out ms n k hB ho hi hp' hP => ?_
  have kk : KeepAll s2.heap h' := k
  obtain ⟨F3, fr⟩ := F2.addNew ((F2.keeps (t := tk) kk).drawn d) hB (LI.of_seq ho) (ws := ms.map .int) (LR.ofInts hi)
  exact ⟨_, _, F3, (t1.trans t2).trans kk.tk, by simp only [VR], q _ _ fr hp' hP⟩
end
end
-- RE20
noncomputable section
open PySem PySem.W PySem.Calls PyProof.Rows PySem.SeqAt
set_option maxRecDepth 100000
set_option maxHeartbeats 1000000 in
theorem asc_d {C : Cx} {n : Nat} (P : Pk C (n + 1)) {fs : FS} {l : Addr} {m : Int} {ks : List Int} {Q : V → FS → Prop} (e : fs.σ.li l = some (ks.map .int)) (as : ks.Pairwise (· < ·)) (rng : ∀ k ∈ ks, 0 ≤ k ∧ k < m) (hz : ks.length ≤ 14)
    (h : Q (.bool true) fs) : CD C (.ref 236) [.ref l, .int m] Q fs := by
  refine call_d P (ns := ["places", "many"]) rfl (by rfl) (of2 fun zz zz => rfl) rfl (by decide) (by decide) (fun L P' => ?_)
  refine XS.at (WP.weak ?_)
  (refine xs_cons ?_; refine xv_ret ?_)
  refine ev_and (ev_cmp ?_)
  refine ev_loc (by rfl) ?_
  refine ev_sortedSet P'.h (fun Q f q => ev_blt (v := .bi "sorted") (a := .builtin "sorted") (P'.ns (by exact gs_sorted _)) bb_sorted (fun zz => by simp only [VR]) q) ?_
  refine ev_setOf P'.h (fun Q f q => ev_blt (v := .ty "set") (a := .type "set") (P'.ns (by exact gs_set _)) bb_set (fun zz => by simp only [VR]) q) ?_
  refine ev_loc (by rfl) ?_
  refine ⟨l, ks, rfl, e, as.imp fun h => Int.ne_of_lt h, by lia, by lia, fun a ms fr hp hs => ?_⟩
  have la : l ≠ a := fr.neLi e
  have em : ms = ks := by
    refine List.Perm.eq_of_pairwise (le := (· ≤ ·)) (fun a b zz zz h1 h2 => Int.le_antisymm h1 h2) hs (as.imp fun h => Int.le_of_lt h) hp
  subst em
  refine op_eqInts (ns := ms) (ms := ms) (by walk_at "ru lk") li_same (Pk.cu (by assumption)) ?_
  (refine tr_bool ?_)
  refine ⟨fun zz => ?_, fun h => absurd h (by simp)⟩
  (refine ev_cmp ?_)
  refine ev_lcP P'.h (cl := [("many", L + 1)]) (by rfl) (sr_of ?_) (by walk_at "ru cl") (by simp)
  (refine ev_loc (by eq_refl) ?_; refine sv_list (by walk_at "ru lk") ?_)
  intro D frD
  have lD : l ≠ D := frD.neLi (li_ne la e)
  refine ⟨fun zz => false, id, fun zz => by walk_at "ru lk", by simp; lia, fun L2 q w ws hv => ?_, ?_⟩
  · rw [List.getElem?_map] at hv
    obtain ⟨k, hk, rfl⟩ := Option.map_eq_some_iff.mp hv
    have hr := rng k (List.mem_of_getElem? hk)
    refine ts_one (tv_not (tv_chain2 ?_))
    (refine ev_int ?_; refine ev_loc (by eq_refl) ?_; refine cm_le ?_)
    refine ⟨_, rfl, fun zz => ?_, fun q => absurd q (by simp; lia)⟩
    (refine ev_cell (by eq_refl) (by eq_refl) ?_; refine cm_lt ?_)
    refine ⟨_, rfl, by simp; lia, rfl, fun q => absurd q (by simp)⟩
  (refine ev_list ?_; refine spl_nil ?_; refine ⟨by walk_at "ru len", ?_⟩)
  intro G frG
  have DG : D ≠ G := frG.neLi (by walk_at "ru lk")
  (refine op_eqNil (by walk_at "ru lk") (by walk_at "ru lk") (Pk.cu (by assumption)) ?_; with_reducible refine xq_ret ?_)
  have hb : (((ms.map V.int).filter fun zz => false).map id).isEmpty = true := by simp
  rw [hb]
  have l1 : fs.σ.Le (fs.σ.setLi a (ms.map .int)) := HS.Le.refl.offLi fr.li
  have l2 := l1.offLi (a := D) (x := ((ms.map V.int).filter fun zz => false).map id) (l1.fresh frD).li
  have l3 := l2.offLi (a := G) (x := []) (l2.fresh frG).li
  exact ⟨⟨[], [], fs.σ⟩, FS.Le.mk' trivial trivial l3, h⟩
end
-- RE21
noncomputable section
open PySem PySem.W PySem.Calls PyProof.Rows PySem.SeqAt
set_option maxRecDepth 100000
theorem pick_okc {cls : List (List Int)} {is : List Int} {p : List Int → Prop} (h : ∀ c ∈ cls, p c) : ∀ c ∈ pick cls is, p c := fun c hc => by
  obtain ⟨i, zz, e⟩ := mem_pick.mp hc
  exact h c (List.mem_of_getElem? e)
def gw (cls : List (List Int)) : V → V | .int k => cv (cls.getD k.toNat []) | w => w
theorem map_pick {cls : List (List Int)} : ∀ {is : List Int}, (∀ i ∈ is, 0 ≤ i ∧ i < cls.length) → (((is.map V.int).filter fun zz => true).map (gw cls)) = (pick cls is).map cv
  | [], _ => rfl
  | i :: r, h => by
    have hi := h i (by simp)
    have ih := map_pick (is := r) fun j hj => h j (by simp [hj])
    have e := List.getElem?_eq_getElem (l := cls) (i := i.toNat) (by lia)
    have ep : pick cls (i :: r) = cls.getD i.toNat [] :: pick cls r := by
      unfold pick; rw [List.filterMap_cons, e, List.getD_eq_getElem?_getD, e]; rfl
    rw [ep]
    show gw cls (.int i) :: ((r.map V.int).filter fun zz => true).map (gw cls) = cv _ :: (pick cls r).map cv
    rw [ih]; rfl
set_option maxHeartbeats 2000000 in
theorem kept_d {C : Cx} {n : Nat} (P : Pk C (n + 8)) {fs : FS} {a b A B : Addr} {cls log : List (List Int)} {goal kept late : List Int} {Q : V → FS → Prop}
    (ha : fs.σ.li a = some (cls.map cv)) (hb : fs.σ.li b = some (log.map cv)) (hA : fs.σ.li A = some (kept.map .int)) (hB : fs.σ.li B = some (late.map .int)) (lim : Lim (cls ++ (log ++ [goal]))) (tp : TrimP cls log goal kept late)
    (h : Q (.bool true) fs) : CD C (.ref 241) [.ref a, .ref b, cv goal, .ref A, .ref B] Q fs := by
  obtain ⟨m0, k0, σ0⟩ := fs
  dsimp only at *
  refine call_d P (ns := ["clauses", "log", "goal", "kept", "late"]) rfl (by rfl) (of5 fun zz zz zz zz zz => rfl) rfl (by decide) (by decide) (fun L P' => ?_)
  refine XS.at (WP.weak ?_)
  have ll14 := lim.len
  simp at ll14
  have kl := tp.kl
  (refine xs_cons ?_; refine xv_if ?_; refine tv_bool ?_; refine at_or ?_; refine tv_not ?_; refine tv_plain ?_; refine ev_gcall (by exact Pk.ns (by assumption) (by exact gs_law_is_ascending _)) (by exact Pk.kp (by assumption) (by exact kp_law_is_ascending _)) ?_; refine spl_cons ?_; refine ev_loc (by eq_refl) ?_; refine spl_cons ?_; refine ev_bcall (by exact Pk.ns (by assumption) (by exact gs_len _)) (by exact bb_len) ?_; refine spl_cons ?_; refine ev_cell (by eq_refl) (by eq_refl) ?_; refine spl_nil ?_; refine cl_len (by walk_at "ru lk") (by walk_at "ru len") ?_; refine spl_nil ?_)
  refine asc_d (n := n + 6) (ks := kept) P' hA tp.ka (by simpa using tp.kr) (by lia) ?_
  (refine tr_bool ?_)
  refine ⟨fun zz => ?_, fun h => absurd h (by simp)⟩
  (refine at_or ?_; refine tv_not ?_; refine tv_plain ?_; refine ev_gcall (by exact Pk.ns (by assumption) (by exact gs_law_is_ascending _)) (by exact Pk.kp (by assumption) (by exact kp_law_is_ascending _)) ?_; refine spl_cons ?_; refine ev_loc (by eq_refl) ?_; refine spl_cons ?_; refine ev_bcall (by exact Pk.ns (by assumption) (by exact gs_len _)) (by exact bb_len) ?_; refine spl_cons ?_; refine ev_cell (by eq_refl) (by eq_refl) ?_; refine spl_nil ?_; refine cl_len (by walk_at "ru lk") (by walk_at "ru len") ?_; refine spl_nil ?_)
  refine asc_d (n := n + 6) (fs := ⟨_, _, σ0⟩) (ks := late) P' hB tp.la (by simpa using tp.lr) (by lia) ?_
  (refine tr_bool ?_)
  refine ⟨fun zz => ?_, fun h => absurd h (by simp)⟩
  (refine at_or0 ?_)
  refine ⟨fun h => absurd h (by simp), fun zz => ?_⟩
  (refine xs_nil ?_; refine xs_cons ?_; refine xv_swap2 (Pk.h (by assumption)) ?_; refine ev_tuple ?_; refine spl_cons ?_)
  refine ev_lcP P'.h (cl := [("clauses", L + 1)]) (by rfl) (sr_of ?_) (by walk_at "ru cl") (by simp)
  (refine ev_loc (by eq_refl) ?_; refine sv_list (by walk_at "ru lk") ?_)
  intro D frD
  have AD : A ≠ D := frD.neLi hA
  have BD : B ≠ D := frD.neLi hB
  have aD : a ≠ D := frD.neLi ha
  have bD : b ≠ D := frD.neLi hb
  refine ⟨fun zz => true, gw cls, fun zz => by walk_at "ru lk", by simp; lia, fun L2 q w ws hv => ?_, ?_⟩
  · rw [List.getElem?_map] at hv
    obtain ⟨l, hl, rfl⟩ := Option.map_eq_some_iff.mp hv
    have hr := tp.kr l (List.mem_of_getElem? hl)
    (refine ts_nil ?_)
    refine ⟨rfl, rfl, fun zz => ?_⟩
    (refine ev_sub ?_; refine ev_cell (by eq_refl) (by eq_refl) ?_; refine ev_loc (by eq_refl) ?_)
    refine op_getL (vs := cls.map cv) (v := cv (cls.getD l.toNat [])) (by walk_at "ru lk") hr.1 (by lia) (by rw [List.getElem?_map, List.getD_eq_getElem?_getD, List.getElem?_eq_getElem (by lia)]; rfl) ?_
    exact ⟨rfl, rfl⟩
  rw [map_pick tp.kr]
  (refine spl_cons ?_)
  refine ev_lcP P'.h (cl := [("log", L + 2)]) (by rfl) (sr_of ?_) (by walk_at "ru cl") (by simp)
  (refine ev_loc (by eq_refl) ?_; refine sv_list (by walk_at "ru lk") ?_)
  intro E frE
  have DE : D ≠ E := frE.neLi li_same
  have BE : B ≠ E := frE.neLi (li_ne BD hB)
  have aE : a ≠ E := frE.neLi (li_ne aD ha)
  have bE : b ≠ E := frE.neLi (li_ne bD hb)
  refine ⟨fun zz => true, gw log, fun zz => by walk_at "ru lk", by simp; lia, fun L2 q w ws hv => ?_, ?_⟩
  · rw [List.getElem?_map] at hv
    obtain ⟨l, hl, rfl⟩ := Option.map_eq_some_iff.mp hv
    have hr := tp.lr l (List.mem_of_getElem? hl)
    (refine ts_nil ?_)
    refine ⟨rfl, rfl, fun zz => ?_⟩
    (refine ev_sub ?_; refine ev_cell (by eq_refl) (by eq_refl) ?_; refine ev_loc (by eq_refl) ?_)
    refine op_getL (vs := log.map cv) (v := cv (log.getD l.toNat [])) (by walk_at "ru lk") hr.1 (by lia) (by rw [List.getElem?_map, List.getD_eq_getElem?_getD, List.getElem?_eq_getElem (by lia)]; rfl) ?_
    exact ⟨rfl, rfl⟩
  rw [map_pick tp.lr]
  (refine spl_nil ?_; refine ⟨by walk_at "ru len", ?_⟩; refine ⟨_, _, rfl, ?_⟩; refine st_loc ?_; refine st_loc ?_; refine xs_cons ?_; refine xv_if ?_; refine tv_cmp ?_)
  have smAll : ∀ c ∈ pick cls kept ++ pick log late, Sm c := fun c hc => (List.mem_append.mp hc).elim (tp.ks c) (tp.ls c)
  have pl1 := (pick_len tp.kr).1
  have pl2 := (pick_len tp.lr).1
  refine ev_lc2 P'.h (cl := []) (sr_of ?_) (by rfl) (by walk_at "ru cl") (by simp)
  (refine ev_bin ?_; refine ev_loc (by eq_refl) ?_; refine ev_loc (by eq_refl) ?_)
  refine op_cat (vs := (pick cls kept).map cv) (ws := (pick log late).map cv) (by walk_at "ru lk") (by walk_at "ru lk") (by simp; lia) (fun G frG => ?_)
  rw [← List.map_append]
  (refine sv_list (by walk_at "ru lk") ?_)
  intro H frH
  have GH : G ≠ H := frH.neLi li_same
  refine ⟨fun i f => ∃ m, f = ⟨m, [("log", .ref b), ("clauses", .ref a)], (((σ0.setLi D ((pick cls kept).map cv)).setLi E ((pick log late).map cv)).setLi G ((pick cls kept ++ pick log late).map cv)).setLi H []⟩, ⟨_, rfl⟩, fun i f hi => ?_, fun L2 i v f hv hi => ?_, fun f hi => ?_⟩
  · obtain ⟨m, rfl⟩ := hi
    walk_at "ru lk"
  · obtain ⟨m, rfl⟩ := hi
    rw [List.getElem?_map] at hv
    obtain ⟨c, hc, rfl⟩ := Option.map_eq_some_iff.mp hv
    have sc := smAll c (List.mem_of_getElem? hc)
    (refine ev_loc (by eq_refl) ?_; refine sv_tup ?_)
    refine ⟨fun j f => ∃ m, f = ⟨m, [("log", .ref b), ("clauses", .ref a)], (((σ0.setLi D ((pick cls kept).map cv)).setLi E ((pick log late).map cv)).setLi G ((pick cls kept ++ pick log late).map cv)).setLi H []⟩, ⟨_, rfl⟩, fun zz zz zz => trivial, fun j w f hw hj => ?_, fun f hj => hj⟩
    obtain ⟨m, rfl⟩ := hj
    rw [List.getElem?_map] at hw
    obtain ⟨l, hl, rfl⟩ := Option.map_eq_some_iff.mp hw
    have sl := sc l (List.mem_of_getElem? hl)
    (refine ts_one ?_; refine tv_cmp ?_)
    refine ev_bcall (P'.ns (by exact gs_abs _)) (by exact bb_abs) ?_
    (refine spl_cons ?_; refine ev_loc (by eq_refl) ?_; refine spl_nil ?_; refine cl_abs ?_; refine ev_int ?_; refine cm_gt ?_)
    refine ⟨fun h => absurd h ?_, fun zz => ⟨_, rfl⟩⟩
    have : ¬ (3 < if l < 0 then -l else l) := by split <;> lia
    simpa using this
  · obtain ⟨m, rfl⟩ := hi
    (refine ev_list ?_; refine spl_nil ?_; refine ⟨by walk_at "ru len", ?_⟩)
    intro I frI
    have HI : H ≠ I := frI.neLi li_same
    have GI : G ≠ I := frI.neLi (li_ne GH li_same)
    have DG : D ≠ G := frG.neLi (li_ne DE li_same)
    have EG : E ≠ G := frG.neLi li_same
    have DH : D ≠ H := frH.neLi (li_ne DG (li_ne DE li_same))
    have EH : E ≠ H := frH.neLi (li_ne EG li_same)
    have DI : D ≠ I := frI.neLi (li_ne DH (li_ne DG (li_ne DE li_same)))
    have EI : E ≠ I := frI.neLi (li_ne EH (li_ne EG li_same))
    (refine op_neNil (by walk_at "ru lk") (by walk_at "ru lk") (Pk.cu (by assumption)) ?_)
    refine ⟨fun h => absurd h (by simp), fun zz => ?_⟩
    (refine xs_nil ?_; refine xs_cons ?_; refine xv_ret ?_)
    have lim2 : Lim (pick cls kept ++ (pick log late ++ [goal])) := ⟨by simp; lia, fun c hc => by
      rcases List.mem_append.mp hc with hc | hc
      · exact pick_okc (fun c h => lim.ok c (by simp [h])) c hc
      · rcases List.mem_append.mp hc with hc | hc
        · exact pick_okc (fun c h => lim.ok c (by simp [h])) c hc
        · rw [List.mem_singleton.mp hc]; exact lim.ok goal (by simp)⟩
    refine ev_and ?_
    (refine ev_cmp ?_; refine ev_gcall (by exact Pk.ns (by assumption) (by exact gs_law_first_wrong _)) (by exact Pk.kp (by assumption) (by exact kp_law_first_wrong _)) ?_; refine spl_cons ?_; refine ev_loc (by eq_refl) ?_; refine spl_cons ?_; refine ev_bin ?_; refine ev_loc (by eq_refl) ?_; refine ev_list ?_; refine spl_cons ?_; refine ev_loc (by eq_refl) ?_; refine spl_nil ?_; refine ⟨by walk_at "ru len", ?_⟩)
    intro J frJ
    have EJ : E ≠ J := frJ.neLi (by walk_at "ru lk")
    have DJ : D ≠ J := frJ.neLi (by walk_at "ru lk")
    refine op_cat (vs := (pick log late).map cv) (ws := [cv goal]) (by walk_at "ru lk") li_same (by simp; lia) (fun M frM => ?_)
    have DM : D ≠ M := frM.neLi (by walk_at "ru lk")
    have EM : E ≠ M := frM.neLi (by walk_at "ru lk")
    (refine spl_nil ?_)
    refine first_d (n := n + 4) (cls := pick cls kept) (sm := pick log late ++ [goal]) P' (by walk_at "ru lk") (li_same.trans (congrArg some (by simp))) (fun c hc => lim2.nd c (by simpa using hc)) (by have := lim2.flat; lia) (fun c hc => by have := (lim2.ok c (List.mem_append_right _ hc)).len; lia) (by have := lim2.len; lia) fun r hr => ?_
    have r1 : r = -1 := by
      rcases hr with ⟨e, zz⟩ | ⟨i, c, zz, hc, nf, zz⟩
      · exact e
      · rcases tp.fol with ⟨zz, f⟩ | ⟨i', c', e, zz⟩
        · exact absurd (f i c hc) nf
        · lia
    subst r1
    (refine ev_un ?_; refine ev_int ?_; refine op_neg ?_; refine cm_eq ?_; refine tr_bool ?_)
    refine ⟨fun zz => ?_, fun h => absurd h (by simp)⟩
    (refine ev_cmp ?_; refine ev_bcall (by exact Pk.ns (by assumption) (by exact gs_repr _)) (by exact bb_repr) ?_; refine spl_cons ?_; refine ev_gcall (by exact Pk.ns (by assumption) (by exact gs_check_log _)) (by exact Pk.kp (by assumption) (by exact kp_check_log _)) ?_; refine spl_cons ?_; refine ev_loc (by eq_refl) ?_; refine spl_cons ?_; refine ev_loc (by eq_refl) ?_; refine spl_cons ?_; refine ev_loc (by eq_refl) ?_; refine spl_nil ?_)
    refine check_d (n := n) (cls := pick cls kept) (log := pick log late) P' (by walk_at "ru lk") (by walk_at "ru lk") lim2 tp.fol ?_
    (refine spl_nil ?_)
    refine cl_reprTrue ?_
    (refine ev_str ?_; refine op_eqStr ?_; with_reducible refine xq_ret ?_)
    have l1 : σ0.Le (σ0.setLi D ((pick cls kept).map cv)) := HS.Le.refl.offLi frD.li
    have l2 := l1.offLi (a := E) (x := (pick log late).map cv) (l1.fresh frE).li
    have l3 := l2.offLi (a := G) (x := (pick cls kept ++ pick log late).map cv) (l2.fresh frG).li
    have l4 := l3.offLi (a := H) (x := []) (l3.fresh frH).li
    have l5 := l4.offLi (a := I) (x := []) (l4.fresh frI).li
    have l6 := l5.offLi (a := J) (x := [cv goal]) (l5.fresh frJ).li
    have l7 := l6.offLi (a := M) (x := (pick log late).map cv ++ [cv goal]) (l6.fresh frM).li
    exact ⟨⟨[], [], σ0⟩, FS.Le.mk' trivial trivial l7, h⟩
end
-- RE22
noncomputable section
open PySem PySem.W PySem.Calls PyProof.Rows PySem.SeqAt
set_option maxRecDepth 100000
theorem ev_uptoB {C : Cx} {fs : FS} {a hi : PySem.Expr} {p pos : Pos} {Q : V → FS → Prop} {l : Addr} {xs : List Value} {ns : List Int} (hl : C.W.base.IsList l xs.toArray) (hI : IntsAre xs ns) (hz : ns.length ≤ 1000)
    (h : EV C a (fun v f => EV C hi (fun w f2 => ∃ i, v = .ref l ∧ w = .int i ∧ 0 ≤ i ∧ ∀ b, f2.σ.Fresh b → Q (.ref b) { f2 with σ := f2.σ.setLi b ((ns.take i.toNat).map .int) }) f) fs)
    (hsub : ∀ l b, subscripted (.Slice Option.none (some hi) Option.none p) false (.ref l) (.ref b) = operate [.ref b, .ref l] (getItem (.ref l) (.ref b)) := by intro _ _; with_unfolding_all rfl)
    (ht : ∀ l r, letTemporaryGo a (.ref l) r = pure () := by intro _ _; with_unfolding_all rfl) : EV C (.Subscript a (.Slice Option.none (some hi) Option.none p) pos) Q fs := fun R s F => by
  refine Subscript_ (wp_to (h R s F) fun x v f1 s1 F1 t1 r1 q1 => ?_)
  refine wpAny_Slice ?_
  refine wpAny_pure ?_
  refine wp_to (q1 R s1 F1) fun y w f2 s2 F2 t2 r2 q2 => ?_
  obtain ⟨i, rfl, rfl, h0, q⟩ := q2
  have r1' := r1.mono t2
  simp only [VR] at r1' r2; subst r1'; obtain ⟨u, rfl⟩ := r2
  refine wpAny_pure ?_
  have hl2 : s2.heap.IsList l xs.toArray := by
    obtain ⟨o, ho, r⟩ := hl
    exact ⟨o, F2.keepBase _ _ ho, r⟩
  obtain ⟨mv, G, N, back⟩ := F2.byCut
  refine slice_list G N hl2 .none (.int i u) (fun h' G' N' => ?_) (hsub _ _) (ht _) (by have := hI.length; simp only [List.size_toArray]; rw [this]; exact sz hz)
  obtain ⟨F', tk, zz, ob⟩ := back h' s2.toks _ G' N' fun p hp => List.mem_cons_of_mem _ hp
  obtain ⟨k, rfl⟩ := Int.eq_ofNat_of_zero_le h0
  have lr : LR s2.heap (ns.map .int) xs := LR.ofInts hI
  obtain ⟨F3, fr⟩ := F2.addNew F' (Heap.get?_none_of_le (Nat.le_succ _)) (LI.of_seq (ob _ _ (.head _))) (ws := (ns.take k).map .int) (by
    rw [slicePick_upto', List.map_take]; simpa using (lr.take k).mono tk)
  exact ⟨_, _, F3, (t1.trans t2).trans tk, by simp only [VR], q _ fr⟩
def HS.nil : HS := ⟨fun zz => none, fun zz => none, fun zz => none, fun zz => none⟩
theorem start_fr {W : Wo} {s : Shared} {h₁ : Heap} {t : Nat} {A : Around} {env : Env} {m : Str → Option Value} {l : Addr} (hb : W.base = s.heap) (ho : W.os = s.os) (hg : s.gens = #[]) (F : Fr s.heap env.locals h₁ m) (hm : m "script" = some (.ref l))
    (hc : ∀ x c, (x, c) ∈ env.cells → s.heap.get? c = none ∧ ∃ v, h₁.IsCell c v) (ap : env.cells.Pairwise fun x y => x.2 ≠ y.2) (nd : (env.cells.map (·.1)).Nodup) :
    FR ⟨W, A, env, true⟩ s.heap.get? ⟨[("script", .ref l)], [], HS.nil⟩ { s with heap := h₁, toks := t } := by
  refine ⟨hg, ho.symm, fun b o h => by rw [hb] at h; exact h, fun b o h => F.keep b o h, ⟨fun b o h => ?_, ?_, ?_, ?_, ?_⟩, Heap.get?_none_of_le F.above, ⟨m, F.ns, fun x v e => ?_⟩, fun x c mc => ?_, ap, nd, fun x c mc zz zz => (hc x c mc).1⟩
  · by_cases w : own env b
    · rw [rp_own w] at h; exact h
    · rw [rp_not w] at h; exact F.keep b o h
  · intro a vs e; cases e
  · intro a d e; cases e
  · intro a C d e; cases e
  · intro a ns e; cases e
  · rw [List.lookup_cons] at e
    split at e
    · rename_i hx; cases e
      have : x = "script" := by simpa using hx
      subst this
      exact ⟨_, hm, by simp only [VR]⟩
    · cases e
  · obtain ⟨v, i⟩ := (hc x c mc).2
    exact ⟨v, i, fun v e => by cases e⟩
theorem start_run {w : World} {s : Shared} {h₁ : Heap} {t : Nat} {env : Env} {m mg mb : Str → Option Value} {l : Addr} {xs : List Value} {tr : Sem Flow} {Q : Fw → FS → Prop} {Qf : Flow → Shared → Prop} {E : Value → Shared → Prop}
    (KX : (hd.heap_1 w.params).In s.heap) (g : s.heap.Ns mainGlobals mg) (b : s.heap.Ns builtinsNs mb) (nl : s.heap.NoLimit) (bl : ∀ x : Str, x ≠ "__name__" → mb x = bootBuiltins x) (hg : s.gens = #[]) (hL : s.heap.IsList l xs.toArray)
    (F : Fr s.heap env.locals h₁ m) (hm : m "script" = some (.ref l)) (hc : ∀ x c, (x, c) ∈ env.cells → s.heap.get? c = none ∧ ∃ v, h₁.IsCell c v) (ap : env.cells.Pairwise fun x y => x.2 ≠ y.2) (nd : (env.cells.map (·.1)).Nodup)
    (h : ∀ W : Wo, Pk ⟨W, callerA.deeper env, env, true⟩ 60 → Pg ⟨W, callerA.deeper env, env, true⟩ → W.base.IsList l xs.toArray → WP ⟨W, callerA.deeper env, env, true⟩ FwR tr Q ⟨[("script", .ref l)], [], HS.nil⟩)
    (hQ : ∀ fl fw f s', FwR s'.heap fw fl → Q fw f → (∀ b o, s.heap.get? b = some o → s'.heap.get? b = some o) → s'.os = s.os → s'.gens = #[] → Qf fl s') : wpAny (model PySem.Challenge.rw_nu0244_01.row.prog w) (callerA.deeper env) tr Qf E { s with heap := h₁, toks := t } := by
  let W : Wo := ⟨⟨PySem.Challenge.rw_nu0244_01.row.prog, w, s.heap, s.os⟩, hd.heap_1 w.params, mg, mb, KX, g, b, nl, bl⟩
  refine wpAny_mono (h W ⟨rfl, rfl, by show 1 + claimMargin + 1 + 60 ≤ 900; decide, by show 4 + 3 + 10 * 60 ≤ 9000; decide⟩ ⟨rfl⟩ hL s.heap.get? _ (start_fr (W := W) rfl rfl hg F hm hc ap nd)) (fun fl s' z => ?_) fun zz zz z => z.elim
  obtain ⟨fw, f, F', tk, r, q⟩ := z
  exact hQ fl fw f s' r q (fun b o e => F'.rk b o e) F'.os F'.gens
end
-- RJ0
noncomputable section
open PySem PySem.W PySem.Calls PyProof.Rows PySem.SeqAt
set_option maxRecDepth 100000
theorem cells3 (n : Addr) : List.Pairwise (fun x y : Str × Addr => x.2 ≠ y.2) ([("log", n + 1 + 1 + 1), ("clauses", n + 1 + 1), ("feed", n + 1)] : List (Str × Addr)) := by simp; exact fun e => absurd e (Nat.ne_of_gt (Nat.lt_of_lt_of_le (Nat.lt_succ_self n) (Nat.le_succ _)))
theorem names3 (n : Addr) : (([("log", n + 1 + 1 + 1), ("clauses", n + 1 + 1), ("feed", n + 1)] : List (Str × Addr)).map fun x : Str × Addr => x.1).Nodup := by simp; decide
theorem cells3_at {h h₁ : Heap} {w0 w1 w2 : Obj} {v0 v1 v2 : Option Value} (N : News h h.objs.size h₁ [(h.objs.size + 1 + 1 + 1, w2), (h.objs.size + 1 + 1, w1), (h.objs.size + 1, w0)]) (d2 : w2.data = .cell v2) (d1 : w1.data = .cell v1) (d0 : w0.data = .cell v0) {x : Str} {c : Addr}
    (mc : (x, c) ∈ ([("log", h.objs.size + 1 + 1 + 1), ("clauses", h.objs.size + 1 + 1), ("feed", h.objs.size + 1)] : List (Str × Addr))) : h.get? c = none ∧ ∃ v, h₁.IsCell c v := by
  have n : ∀ c, h.objs.size ≤ c → h.get? c = none := fun c hc => Heap.get?_none_of_le hc
  simp only [List.mem_cons, Prod.mk.injEq, List.not_mem_nil, or_false] at mc
  rcases mc with ⟨zz, rfl⟩ | ⟨zz, rfl⟩ | ⟨zz, rfl⟩
  · exact ⟨n _ (by lia), v2, _, (N _ (.head _)).1, d2⟩
  · exact ⟨n _ (by lia), v1, _, (N _ (.tail _ (.head _))).1, d1⟩
  · exact ⟨n _ (by lia), v0, _, (N _ (.tail _ (.tail _ (.head _)))).1, d0⟩
theorem Fd.to {σ : HS} {d l : Addr} {a sp : Int} (F : Fd σ d l a) (h : 0 ≤ sp) : Fd (σ.setDm d (feedD l sp)) d l sp := ⟨dm_same, F.l, h⟩
theorem Fd.onLi {σ : HS} {d l D : Addr} {a : Int} {x : List V} (F : Fd σ d l a) (h : l ≠ D) : Fd (σ.setLi D x) d l a := ⟨F.d, by
  obtain ⟨c, e, z⟩ := F.l
  exact ⟨c, li_ne h e, z⟩, F.h0⟩
theorem Fd.cne {σ : HS} {d l a : Addr} {sp : Int} (F : Fd σ d l sp) (f : σ.Fresh a) : l ≠ a := fun q => by
  obtain ⟨zz, e, zz⟩ := F.l
  subst q
  rw [f.li] at e; cases e
theorem three_ok {i : Nat} {v : V} (h : [cv [4], cv [-4, 5], cv [-5, 6]][i]? = some v) : i < 3 ∧ ∃ w, v = cv w ∧ Okc w := by
  match i, h with
  | 0, h => exact ⟨by decide, _, (Option.some.inj h).symm, okc_4⟩
  | 1, h => exact ⟨by decide, _, (Option.some.inj h).symm, okc_45⟩
  | 2, h => exact ⟨by decide, _, (Option.some.inj h).symm, okc_56⟩
  | i + 3, h => simp at h
theorem FW.unique {cls sm : List (List Int)} {r r' : Int} (h : FW cls sm r) (h' : FW cls sm r') : r = r' := by
  rcases h with ⟨e, a⟩ | ⟨i, c, e, hi, n, a⟩ <;> rcases h' with ⟨e', a'⟩ | ⟨i', c', e', hi', n', a'⟩
  · rw [e, e']
  · exact absurd (a i' c' hi') n'
  · exact absurd (a' i c hi) n
  · rcases Nat.lt_trichotomy i i' with q | q | q
    · exact absurd (a' i c q hi) n
    · rw [e, e', q]
    · exact absurd (a i' c' q hi') n'
theorem FW.small {cls sm : List (List Int)} {r : Int} (h : FW cls sm r) (hz : sm.length ≤ 14) : r.natAbs < 1000 := by
  rcases h with ⟨e, zz⟩ | ⟨i, c, e, hi, zz⟩
  · subst e; decide
  · have := (List.getElem?_eq_some_iff.mp hi).1
    lia
theorem nil_le {τ : HS} : HS.nil.Le τ := ⟨fun zz zz e => (by cases e), fun zz zz e => (by cases e), fun zz zz e => (by cases e), fun zz zz e => (by cases e)⟩
inductive JtA (d D c : Addr) (σ0 : HS) (i : Nat) (f' : FS) : Prop
  | mk (m : List (Str × V)) (cls : List (List Int)) (sp : Int) (e : f' = ⟨m, [("feed", .ref d)], (σ0.setDm d (feedD c sp)).setLi D (cls.map cv)⟩) (h1 : cls.length = i) (h2 : 1 ≤ sp) (h3 : sp ≤ 1 + i) (h4 : ∀ k ∈ cls, Asc k ∧ Sm k)
inductive JtG (G' a d c : Addr) (sp' : Int) (σ3 : HS) (fl : Fw) (f : FS) : Prop
  | mk (g : List Int) (e : fl = .next) (ok : Okc g) (sm : Sm g) (ef : f = ⟨[("goal", cv g)], [("log", .ref G'), ("clauses", .ref a)], σ3.setDm d (feedD c (sp' + 1))⟩)
inductive JtB (d c E : Addr) (o : Int) (s0 : List Int) (i : Nat) : FS → Prop
  | mk (a : Addr) (cls : List (List Int)) (sp : Int) (σ : HS) (q1 : σ.li E = some [cv [4], cv [-4, 5], cv [-5, 6]]) (q2 : Fd σ d c sp) (q3 : σ.li a = some (cls.map cv)) (q4 : cls.length ≤ 7 + i) (q5 : sp ≤ 9 + i) (q6 : ∀ k ∈ cls, Okc k) :
    JtB d c E o s0 i ⟨[("others", .int o), ("some", cv s0)], [("clauses", .ref a), ("feed", .ref d)], σ⟩
set_option maxHeartbeats 8000000 in
theorem jt : PySem.Challenge.rw_nu0244_01.Holds := hd (by
  k_go0
  have KX := ‹(hd.heap_1 _).In _›
  have GL := ‹Glob _ _ _ _ _ _ _ _›
  have F0 := ‹Fr _ _ _ _›
  have N0 := ‹News _ _ _ _›
  have hL := ‹Heap.IsList _ _ _›
  have hI := ‹IntsAre _ _›
  have hg := ‹_ = (#[] : Array GenState)›
  refine start_run (Q := fun fw f => fw = .ret (.bool true)) KX GL.g GL.b GL.nolimit GL.builtins hg hL F0 (by rfl) (fun x c mc => ?_) ?_ ?_ (fun W P G hB => ?_) (fun fl fw f s' r q ko os gs => ?_)
  · exact cells3_at N0 (by assumption) (by assumption) (by assumption) mc
  · exact cells3 _
  · exact names3 _
  · dsimp only
    have hlen := ‹¬ (63 : Int) < _›
    (refine xs_cons ?_; refine xv_name ?_)
    refine ev_dict2 (kS _) (fun d frd => ?_)
    (refine ev_str ?_)
    refine ⟨_, rfl, ?_⟩
    refine ev_tcall (by exact Pk.ns (by assumption) (by exact gs_list _)) (by exact bb_list) (spl_cons (ev_uptoB hB hI (by lia) ?_))
    (refine ev_loc (by eq_refl) ?_; refine ev_int ?_)
    refine ⟨40, rfl, rfl, by decide, fun b frb => ?_⟩
    (refine spl_nil ?_)
    refine cl_listL li_same (by simp; lia) (fun c frc => ?_)
    (refine ev_str ?_)
    refine ⟨_, rfl, by decide, ?_⟩
    (refine ev_int ?_)
    have db : d ≠ b := fun e => by subst e; have := frb.dm; rw [dm_same] at this; cases this
    have dc : d ≠ c := fun e => by subst e; have := frc.dm; rw [dm_li dm_same] at this; cases this
    refine ⟨by walk_at "ru lk", ?_⟩
    (refine st_cell ?_ (by rfl); refine xs_cons ?_; refine xv_name ?_)
    rename List Int => ns
    refine WP.pre (f := ⟨[], [("feed", .ref d)], (HS.nil.setLi c ((ns.take 40).map .int)).setDm d (feedD c 0)⟩) ?_ (FS.Le.mk' trivial (by walk_at "ru all") ?_)
    rotate_left
    · exact (HS.Le.onLi nil_le).onDm
    have F0 : Fd ((HS.nil.setLi c ((ns.take 40).map .int)).setDm d (feedD c 0)) d c 0 := ⟨dm_same, ⟨_, li_same, by simp; lia⟩, by decide⟩
    generalize (HS.nil.setLi c ((ns.take 40).map .int)).setDm d (feedD c 0) = σ0 at F0 ⊢
    refine ev_lc P.h (cl := [("feed", _)]) (sr_rng (by exact Pk.ns (by assumption) (by exact gs_range _)) ?_) (by rfl) (by walk_at "ru cl") (by simp)
    (refine ev_bin ?_; refine ev_int ?_; refine ev_gcall (by exact Pk.ns (by assumption) (by exact gs_law_next _)) (by exact Pk.kp (by assumption) (by exact kp_law_next _)) ?_; refine spl_cons ?_; refine ev_cell (by eq_refl) (by eq_refl) ?_; refine spl_cons ?_; refine ev_int ?_; refine spl_nil ?_)
    refine next_f (wide := 6) P F0 (by decide) (by decide) (fun r hr0 hr1 => ?_)
    (refine op_add ?_)
    refine ⟨(2 + r).toNat, by rw [Int.toNat_of_nonneg (by lia)], by lia, fun D frD => ?_⟩
    have cD : c ≠ D := fun q => by
      obtain ⟨zz, e, zz⟩ := F0.l
      subst q
      rw [show σ0.li c = none from frD.li] at e; cases e
    refine ⟨JtA d D c σ0,
      ⟨[], [], 1, rfl, rfl, by decide, by decide, by simp⟩, fun zz zz zz => trivial, ?_, ?_⟩
    · rintro L i v f' hv ⟨m, cls, sp, rfl, h1, h2, h3, h4⟩
      have hi : i < 7 := by
        have := (List.getElem?_eq_some_iff.mp hv).1
        simp at this; lia
      refine ts_nil ⟨fun zz => ?_, fun q => absurd q (by simp)⟩
      refine ev_gcall (P.ce.ns (by exact gs_law_clause _)) (P.ce.kp (by exact kp_law_clause _)) ?_
      (refine spl_cons ?_; refine ev_cell (by eq_refl) (by eq_refl) ?_; refine spl_nil ?_)
      refine clause_d (n := 50) (spot := sp) (l := c) (P.ce.le (by decide)) ((F0.to (by lia)).onLi cD) (by lia) (fun k k1 k2 => ?_)
      refine ⟨cls.map cv, li_same, by simp; lia, ?_⟩
      refine ⟨("lap", v) :: m, cls ++ [k], sp + 1, ?_, by simp [h1], by lia, by lia, fun x hx => ?_⟩
      · refine fs_eq ?_
        rw [List.map_append]
        show (((σ0.setDm d (feedD c sp)).setDm d (feedD c (sp + 1))).setLi D (cls.map cv)).setLi D _ = _
        rw [setDm_setDm, setLi_setLi]; rfl
      · rcases List.mem_append.mp hx with hx | hx
        · exact h4 x hx
        · rw [List.mem_singleton.mp hx]; exact ⟨k1, k2⟩
    rintro f' ⟨m, cls, sp, rfl, h1, h2, h3, h4⟩
    simp only [List.length_map, List.length_range] at h1 h3
    have F1 : Fd ((σ0.setDm d (feedD c sp)).setLi D (cls.map cv)) d c sp := (F0.to (by lia)).onLi cD
    obtain ⟨s0, hs0⟩ : ∃ s0, cls[0]? = some s0 := ⟨_, List.getElem?_eq_getElem (by lia)⟩
    have hsm := h4 s0 (List.mem_of_getElem? hs0)
    (refine st_cell ?_ (by rfl); refine xs_cons ?_; refine xv_swap2 (Pk.h (by assumption)) ?_; refine ev_tuple ?_; refine spl_cons ?_; refine ev_sub ?_; refine ev_cell (by eq_refl) (by eq_refl) ?_; refine ev_int ?_)
    refine op_getL (vs := cls.map cv) (v := cv s0) li_same (by decide) (by decide) (by simp [hs0]) ?_
    (refine spl_cons ?_; refine ev_gcall (by exact Pk.ns (by assumption) (by exact gs_law_next _)) (by exact Pk.kp (by assumption) (by exact kp_law_next _)) ?_; refine spl_cons ?_; refine ev_cell (by eq_refl) (by eq_refl) ?_; refine spl_cons ?_; refine ev_int ?_; refine spl_nil ?_)
    refine next_f (wide := 8) (spot := sp) (l := c) P F1 (by lia) (by decide) (fun o ho0 ho1 => ?_)
    (refine spl_nil ?_; refine ⟨by walk_at "ru len", ?_⟩; refine ⟨_, _, rfl, ?_⟩; refine st_loc ?_; refine st_loc ?_; refine xs_cons ?_)
    refine WP.pre (f := ⟨[("others", .int o), ("some", cv s0)], [("clauses", .ref D), ("feed", .ref d)], ((σ0.setDm d (feedD c sp)).setLi D (cls.map cv)).setDm d (feedD c (sp + 1))⟩) ?_ (FS.Le.mk' (by walk_at "ru all") (by walk_at "ru all") HS.Le.refl)
    have F2 : Fd (((σ0.setDm d (feedD c sp)).setLi D (cls.map cv)).setDm d (feedD c (sp + 1))) d c (sp + 1) := F1.to (by lia)
    have e2 : (((σ0.setDm d (feedD c sp)).setLi D (cls.map cv)).setDm d (feedD c (sp + 1))).li D = some (cls.map cv) := li_same
    have hcl : cls.length ≤ 7 := by lia
    have hsp : sp ≤ 8 := by lia
    have ok0 : ∀ k ∈ cls, Okc k := fun k hk => okc_sm (h4 k hk).1 (h4 k hk).2
    have oks : Okc s0 := okc_sm hsm.1 hsm.2
    generalize ((σ0.setDm d (feedD c sp)).setLi D (cls.map cv)).setDm d (feedD c (sp + 1)) = σ2 at F2 e2 ⊢
    refine WPE.no (we_enum (Xi := NoX) P.h (fun Q f q => ev_blt (v := .ty "enumerate") (a := .type "enumerate") (by exact Pk.ns (by assumption) (by exact gs_enumerate _)) (by exact bb_enumerate) (fun zz => by simp only [VR]) q) (fun zz zz zz zz zz zz zz z => z.elim) ?_)
    (refine ev_list ?_; refine spl_cons ?_; refine ev_tuple ?_; refine spl_cons ?_; refine ev_int ?_; refine spl_nil ?_; refine ⟨by walk_at "ru len", ?_⟩; refine spl_cons ?_; refine ev_tuple ?_; refine spl_cons ?_; refine ev_un ?_; refine ev_int ?_; refine op_neg ?_; refine spl_cons ?_; refine ev_int ?_; refine spl_nil ?_; refine ⟨by walk_at "ru len", ?_⟩; refine spl_cons ?_; refine ev_tuple ?_; refine spl_cons ?_; refine ev_un ?_; refine ev_int ?_; refine op_neg ?_; refine spl_cons ?_; refine ev_int ?_; refine spl_nil ?_; refine ⟨by walk_at "ru len", ?_⟩; refine spl_nil ?_; refine ⟨by walk_at "ru len", ?_⟩)
    intro E frE
    have cE := F2.cne frE
    have DE : D ≠ E := frE.neLi e2
    refine ⟨E, [cv [4], cv [-4, 5], cv [-5, 6]], JtB d c E o s0,
      rfl, li_same, ⟨D, cls, sp + 1, _, li_same, F2.onLi cE, li_ne DE e2, by lia, by lia, ok0⟩, ?_, ?_, ?_⟩
    · rintro i f ⟨a, cls, sp, σ, q, zz⟩
      exact q
    · rintro i v f hv ⟨a, cls, sp, σ, q1, q2, q3, q4, q5, q6⟩ Gq hGq
      obtain ⟨hi, w, rfl, okw⟩ := three_ok hv
      (refine as_tup2 (Pk.h (by assumption)) ?_; refine as_name ?_; refine st_loc ?_; refine as_name ?_; refine st_loc ?_)
      refine WP.toE (WP.weak ?_)
      (refine xs_cons ?_; refine xv_if ?_; refine tv_cmp ?_; refine ev_bin ?_; refine ev_bin ?_; refine ev_loc (by eq_refl) ?_; refine ev_loc (by eq_refl) ?_)
      refine op_shr (by lia) ?_
      (refine ev_int ?_; refine op_and ?_; refine ev_int ?_; refine cm_eq ?_)
      refine ⟨fun zz => ?_, fun zz => ?_⟩
      · (refine xs_cons ?_; refine xv_name ?_; refine ev_gcall (by exact Pk.ns (by assumption) (by exact gs_law_next _)) (by exact Pk.kp (by assumption) (by exact kp_law_next _)) ?_; refine spl_cons ?_; refine ev_cell (by eq_refl) (by eq_refl) ?_; refine spl_cons ?_; refine ev_bin ?_; refine ev_bcall (by exact Pk.ns (by assumption) (by exact gs_len _)) (by exact bb_len) ?_; refine spl_cons ?_; refine ev_cell (by eq_refl) (by eq_refl) ?_; refine spl_nil ?_; refine cl_len (by walk_at "ru lk") (by walk_at "ru len") ?_; refine ev_int ?_; refine op_add ?_; refine spl_nil ?_)
        refine next_f (spot := sp) (l := c) P q2 (by lia) (by lia) (fun p hp0 hp1 => ?_)
        simp only [List.length_map] at hp1
        have T0 : Fd (σ.setDm d (feedD c (sp + 1))) d c (sp + 1) := q2.step
        (refine st_loc ?_; refine xs_cons ?_; refine xv_name ?_; refine ev_bin ?_; refine ev_bin ?_; refine ev_upto ?_; refine ev_cell (by eq_refl) (by eq_refl) ?_; refine ev_loc (by eq_refl) ?_)
        refine ⟨a, cls.map cv, p, rfl, li_dm q3, by simp; lia, rfl, hp0, fun b1 f1 => ?_⟩
        have ab1 : a ≠ b1 := f1.neLi (li_dm q3)
        have Eb1 : E ≠ b1 := f1.neLi (li_dm q1)
        have T1 := T0.onLi (x := (cls.map cv).take p.toNat) (T0.cne f1)
        (refine ev_list ?_; refine spl_cons ?_; refine ev_loc (by eq_refl) ?_; refine spl_nil ?_; refine ⟨by walk_at "ru len", ?_⟩)
        intro g f2
        have ag : a ≠ g := f2.neLi (by walk_at "ru lk")
        have Eg : E ≠ g := f2.neLi (by walk_at "ru lk")
        have b1g : b1 ≠ g := f2.neLi li_same
        have T2 := T1.onLi (x := [cv w]) (T1.cne f2)
        skip
        refine op_cat (vs := (cls.map cv).take p.toNat) (ws := [cv w]) (by walk_at "ru lk") li_same (by simp; lia) (fun e1 f3 => ?_)
        have ae1 : a ≠ e1 := f3.neLi (by walk_at "ru lk")
        have Ee1 : E ≠ e1 := f3.neLi (by walk_at "ru lk")
        have T3 := T2.onLi (x := (cls.map cv).take p.toNat ++ [cv w]) (T2.cne f3)
        (refine ev_from ?_; refine ev_cell (by eq_refl) (by eq_refl) ?_; refine ev_loc (by eq_refl) ?_)
        refine ⟨a, cls.map cv, p, rfl, by walk_at "ru lk", by simp; lia, rfl, hp0, fun b2 f4 => ?_⟩
        have Eb2 : E ≠ b2 := f4.neLi (by walk_at "ru lk")
        have e1b2 : e1 ≠ b2 := f4.neLi li_same
        have T4 := T3.onLi (x := (cls.map cv).drop p.toNat) (T3.cne f4)
        skip
        refine op_cat (vs := (cls.map cv).take p.toNat ++ [cv w]) (ws := (cls.map cv).drop p.toNat) (by walk_at "ru lk") li_same (by simp; lia) (fun a' f5 => ?_)
        have Ea' : E ≠ a' := f5.neLi (by walk_at "ru lk")
        have T5 := T4.onLi (x := (cls.map cv).take p.toNat ++ [cv w] ++ (cls.map cv).drop p.toNat) (T4.cne f5)
        (refine st_cell ?_ (by rfl); refine xs_nil ?_; refine xs_nil ?_)
        refine ⟨⟨[("others", .int o), ("some", cv s0)], [("clauses", .ref a'), ("feed", .ref d)], _⟩, FS.Le.mk' (by walk_at "ru all") (by walk_at "ru all") HS.Le.refl, hGq.out _ _ ⟨a', cls.take p.toNat ++ [w] ++ cls.drop p.toNat, sp + 1, _, by walk_at "ru lk", T5, li_same.trans (by simp), by simp; lia, by lia, fun k hk => ?_⟩⟩
        rcases List.mem_append.mp hk with hk | hk
        · rcases List.mem_append.mp hk with hk | hk
          · exact q6 k (List.mem_of_mem_take hk)
          · rw [List.mem_singleton.mp hk]; exact okw
        · exact q6 k (List.mem_of_mem_drop hk)
      · (refine xs_nil ?_; refine xs_nil ?_)
        exact ⟨⟨[("others", .int o), ("some", cv s0)], [("clauses", .ref a), ("feed", .ref d)], σ⟩, FS.Le.mk' (by walk_at "ru all") (by walk_at "ru all") HS.Le.refl, hGq.out _ _ ⟨a, cls, sp, σ, q1, q2, q3, by lia, by lia, q6⟩⟩
    · rintro f ⟨a, cls, sp, σ, zz, q2, q3, q4, q5, q6⟩
      simp only [List.length_cons, List.length_nil] at q4 q5
      (refine xs_cons ?_; refine xv_tup ?_; refine ev_gcall (by exact Pk.ns (by assumption) (by exact gs_law_log _)) (by exact Pk.kp (by assumption) (by exact kp_law_log _)) ?_; refine spl_cons ?_; refine ev_cell (by eq_refl) (by eq_refl) ?_; refine spl_cons ?_; refine ev_cell (by eq_refl) (by eq_refl) ?_; refine spl_nil ?_)
      refine log_d (spot := sp) (l := c) (cls := cls) P q2 (by lia) q3 ⟨by lia, q6⟩ (by lia) (fun K G' log sp' fK fG KG hsp' FD hlog oklog => ?_)
      (refine as_tup2 (Pk.h (by assumption)) ?_; refine as_name ?_; refine st_cell ?_ (by rfl); refine as_name ?_; refine st_loc ?_; refine xs_cons ?_; refine xv_name ?_)
      have aK : a ≠ K := fK.neLi q3
      have aG : a ≠ G' := fG.neLi q3
      have FD1 : Fd (((σ.setDm d (feedD c sp')).setLi K ((cls ++ log).map cv)).setLi G' (log.map cv)) d c sp' := (FD.onLi (q2.cne fK)).onLi (q2.cne fG)
      have ea : (((σ.setDm d (feedD c sp')).setLi K ((cls ++ log).map cv)).setLi G' (log.map cv)).li a = some (cls.map cv) := li_ne aG (li_ne aK q3)
      have eK : (((σ.setDm d (feedD c sp')).setLi K ((cls ++ log).map cv)).setLi G' (log.map cv)).li K = some ((cls ++ log).map cv) := li_ne KG li_same
      have eG : (((σ.setDm d (feedD c sp')).setLi K ((cls ++ log).map cv)).setLi G' (log.map cv)).li G' = some (log.map cv) := li_same
      refine WP.pre (f := ⟨[("known", .ref K), ("some", cv s0)], [("log", .ref G'), ("clauses", .ref a), ("feed", .ref d)], ((σ.setDm d (feedD c sp')).setLi K ((cls ++ log).map cv)).setLi G' (log.map cv)⟩) ?_ (FS.Le.mk' (by walk_at "ru all") (by walk_at "ru all") HS.Le.refl)
      generalize ((σ.setDm d (feedD c sp')).setLi K ((cls ++ log).map cv)).setLi G' (log.map cv) = σ3 at FD1 ea eK eG ⊢
      (refine ev_gcall (by exact Pk.ns (by assumption) (by exact gs_law_clause _)) (by exact Pk.kp (by assumption) (by exact kp_law_clause _)) ?_; refine spl_cons ?_; refine ev_cell (by eq_refl) (by eq_refl) ?_; refine spl_nil ?_)
      refine clause_d (spot := sp') (l := c) P FD1 (by lia) (fun g0 hg0 hg1 => ?_)
      (refine st_loc ?_)
      have ok1 := okc_sm hg0 hg1
      refine xs_cons (WP.mono (Q := JtG G' a d c sp' σ3) (WP.weak ?_) ?_)
      · (refine xv_if ?_; refine tv_not ?_; refine tv_plain ?_; refine ev_gcall (by exact Pk.ns (by assumption) (by exact gs_law_follows _)) (by exact Pk.kp (by assumption) (by exact kp_law_follows _)) ?_; refine spl_cons ?_; refine ev_loc (by eq_refl) ?_; refine spl_cons ?_; refine ev_loc (by eq_refl) ?_; refine spl_nil ?_)
        have L1 : Lim (cls ++ log) := ⟨by simp; lia, fun k hk => (List.mem_append.mp hk).elim (q6 k) (oklog k)⟩
        refine follows_d (cls := cls ++ log) P (by walk_at "ru lk") L1.nd (by have := L1.flat; have := ok1.len; lia) (by have := L1.len; lia) (fun r zz => ?_)
        (refine tr_bool ?_)
        refine ⟨fun zz => ?_, fun zz => ?_⟩
        · (refine xs_cons ?_; refine xv_name ?_; refine ev_loc (by eq_refl) ?_; refine st_loc ?_; refine xs_nil ?_)
          exact ⟨⟨[("goal", cv s0)], [("log", .ref G'), ("clauses", .ref a)], _⟩, FS.Le.mk' (by walk_at "ru all") (by walk_at "ru all") HS.Le.refl, s0, rfl, oks, hsm.2, rfl⟩
        · (refine xs_nil ?_)
          exact ⟨⟨[("goal", cv g0)], [("log", .ref G'), ("clauses", .ref a)], _⟩, FS.Le.mk' (by walk_at "ru all") (by walk_at "ru all") HS.Le.refl, g0, rfl, ok1, hg1, rfl⟩
      · rintro fl f ⟨goal, rfl, okg, smg, rfl⟩
        try dsimp only
        have ea4 : (σ3.setDm d (feedD c (sp' + 1))).li a = some (cls.map cv) := li_dm ea
        have eG4 : (σ3.setDm d (feedD c (sp' + 1))).li G' = some (log.map cv) := li_dm eG
        generalize σ3.setDm d (feedD c (sp' + 1)) = σ4 at ea4 eG4 ⊢
        have lim : Lim (cls ++ (log ++ [goal])) := ⟨by simp; lia, fun k hk => by
          rcases List.mem_append.mp hk with hk | hk
          · exact q6 k hk
          · rcases List.mem_append.mp hk with hk | hk
            · exact oklog k hk
            · rw [List.mem_singleton.mp hk]; exact okg⟩
        (refine xs_cons ?_; refine xv_swap2 (Pk.h (by assumption)) ?_; refine ev_tuple ?_; refine spl_cons ?_; refine ev_gcall (by exact Pk.ns (by assumption) (by exact gs_law_first_wrong _)) (by exact Pk.kp (by assumption) (by exact kp_law_first_wrong _)) ?_; refine spl_cons ?_; refine ev_cell (by eq_refl) (by eq_refl) ?_; refine spl_cons ?_; refine ev_bin ?_; refine ev_cell (by eq_refl) (by eq_refl) ?_; refine ev_list ?_; refine spl_cons ?_; refine ev_loc (by eq_refl) ?_; refine spl_nil ?_; refine ⟨by walk_at "ru len", ?_⟩)
        intro e1 f1
        have ae1 : a ≠ e1 := f1.neLi ea4
        have Ge1 : G' ≠ e1 := f1.neLi eG4
        refine op_cat (vs := log.map cv) (ws := [cv goal]) (by walk_at "ru lk") li_same (by simp; lia) (fun e2 f2 => ?_)
        have ae2 : a ≠ e2 := f2.neLi (by walk_at "ru lk")
        have Ge2 : G' ≠ e2 := f2.neLi (by walk_at "ru lk")
        (refine spl_nil ?_)
        refine first_d (cls := cls) (sm := log ++ [goal]) P (by walk_at "ru lk") (li_same.trans (congrArg some (by simp))) (fun k hk => lim.nd k hk) (by have := lim.flat; lia) (fun k hk => by have := (lim.ok k (List.mem_append_right _ hk)).len; lia) (by have := lim.len; lia) fun r hr => ?_
        (refine spl_cons ?_; refine ev_gcall (by exact Pk.ns (by assumption) (by exact gs_law_trimmed _)) (by exact Pk.kp (by assumption) (by exact kp_law_trimmed _)) ?_; refine spl_cons ?_; refine ev_cell (by eq_refl) (by eq_refl) ?_; refine spl_cons ?_; refine ev_cell (by eq_refl) (by eq_refl) ?_; refine spl_cons ?_; refine ev_loc (by eq_refl) ?_; refine spl_nil ?_)
        refine ltrim_d (cls := cls) (log := log) (goal := goal) P G rfl rfl (fun q => by cases q) (by walk_at "ru lk") (by walk_at "ru lk") lim smg (fun j τ hj hw le => ?_) (fun A B kept late τ fA fB AB eA eB tp hw le => ?_)
        · obtain rfl := hw.unique hr
          have hsmall := hw.small (by simp; lia)
          (refine spl_nil ?_; refine ⟨by walk_at "ru len", ?_⟩; refine ⟨_, _, rfl, ?_⟩; refine st_loc ?_; refine st_loc ?_; refine xs_cons ?_; refine xv_if ?_; refine tv_bool ?_; refine at_or ?_; refine tv_cmp ?_; refine ev_loc (by eq_refl) ?_; refine ev_int ?_; refine cm_ge ?_)
          refine ⟨fun q => absurd q (by simp; lia), fun zz => ?_⟩
          skip
          refine ⟨fun zz => ?_, fun q => absurd q (by simp)⟩
          (refine xs_cons ?_; refine xv_ret ?_; refine ev_cmp ?_; refine ev_bcall (by exact Pk.ns (by assumption) (by exact gs_repr _)) (by exact bb_repr) ?_; refine spl_cons ?_; refine ev_loc (by eq_refl) ?_; refine spl_nil ?_)
          refine cl_reprInt hsmall ?_
          (refine ev_bcall (by exact Pk.ns (by assumption) (by exact gs_repr _)) (by exact bb_repr) ?_; refine spl_cons ?_; refine ev_loc (by eq_refl) ?_; refine spl_nil ?_)
          refine cl_reprInt hsmall ?_
          (refine op_eqStr ?_; with_reducible refine xq_ret ?_; with_reducible refine xq_ret ?_)
          show Fw.ret (V.bool (Str.ofString (toString j) == Str.ofString (toString j))) = Fw.ret (V.bool true)
          simp
        · obtain rfl := hw.unique hr
          have ta : τ.li a = some (cls.map cv) := le.li _ _ (by walk_at "ru lk")
          have tG : τ.li G' = some (log.map cv) := le.li _ _ (by walk_at "ru lk")
          clear le hr
          (refine spl_nil ?_; refine ⟨by walk_at "ru len", ?_⟩; refine ⟨_, _, rfl, ?_⟩; refine st_loc ?_; refine st_loc ?_; refine xs_cons ?_; refine xv_if ?_; refine tv_bool ?_; refine at_or ?_; refine tv_cmp ?_; refine ev_loc (by eq_refl) ?_; refine ev_int ?_; refine cm_ge ?_)
          refine ⟨fun zz => ?_, fun q => absurd q (by simp)⟩
          (refine at_or ?_; refine tv_plain ?_; refine ev_bcall (by exact Pk.ns (by assumption) (by exact gs_isinstance _)) (by exact bb_isinstance) ?_; refine spl_cons ?_; refine ev_loc (by eq_refl) ?_; refine spl_cons ?_; refine ev_bty (by exact Pk.ns (by assumption) (by exact gs_int _)) (by exact bb_int) ?_; refine spl_nil ?_; refine isi_tupInt ?_; refine tr_bool ?_)
          refine ⟨fun zz => ?_, fun q => absurd q (by simp)⟩
          (refine at_or0 ?_)
          refine ⟨fun q => absurd q (by simp), fun zz => ?_⟩
          (refine xs_nil ?_; refine xs_cons ?_; refine xv_tup ?_; refine ev_loc (by eq_refl) ?_; refine as_tup2 (Pk.h (by assumption)) ?_; refine as_name ?_; refine st_loc ?_; refine as_name ?_; refine st_loc ?_; refine xs_cons ?_; refine xv_if ?_; refine tv_not ?_; refine tv_plain ?_; refine ev_gcall (by exact Pk.ns (by assumption) (by exact gs_law_kept_right _)) (by exact Pk.kp (by assumption) (by exact kp_law_kept_right _)) ?_; refine spl_cons ?_; refine ev_cell (by eq_refl) (by eq_refl) ?_; refine spl_cons ?_; refine ev_cell (by eq_refl) (by eq_refl) ?_; refine spl_cons ?_; refine ev_loc (by eq_refl) ?_; refine spl_cons ?_; refine ev_loc (by eq_refl) ?_; refine spl_cons ?_; refine ev_loc (by eq_refl) ?_; refine spl_nil ?_)
          refine kept_d (cls := cls) (log := log) (goal := goal) (kept := kept) (late := late) P (by walk_at "ru lk") (by walk_at "ru lk") (by walk_at "ru lk") (by walk_at "ru lk") lim tp ?_
          (refine tr_bool ?_)
          refine ⟨fun q => absurd q (by simp), fun zz => ?_⟩
          (refine xs_nil ?_; refine xs_cons ?_; refine xv_swap2 (Pk.h (by assumption)) ?_; refine ev_tuple ?_; refine spl_cons ?_)
          refine WP.pre (f := ⟨[("late", .ref B), ("kept", .ref A), ("goal", cv goal)], [("log", .ref G'), ("clauses", .ref a)], τ⟩) ?_ (FS.Le.mk' (by walk_at "ru all") (by walk_at "ru all") HS.Le.refl)
          clear ea4 eG4 f1 f2 fA fB hw ae1 ae2 Ge1 Ge2
          have kl := tp.kl
          refine ev_lcP P.h (cl := [("clauses", _)]) (by rfl) (sr_of ?_) (by walk_at "ru cl") (by simp)
          (refine ev_loc (by eq_refl) ?_; refine sv_list (by walk_at "ru lk") ?_)
          intro U frU
          have aU : a ≠ U := frU.neLi ta
          have GU : G' ≠ U := frU.neLi tG
          have AU : A ≠ U := frU.neLi eA
          have BU : B ≠ U := frU.neLi eB
          refine ⟨fun zz => true, gw cls, fun zz => by walk_at "ru lk", by simp; lia, fun L2 q w ws hv => ?_, ?_⟩
          · rw [List.getElem?_map] at hv
            obtain ⟨l, hl, rfl⟩ := Option.map_eq_some_iff.mp hv
            have hr := tp.kr l (List.mem_of_getElem? hl)
            (refine ts_nil ?_)
            refine ⟨rfl, rfl, fun zz => ?_⟩
            (refine ev_sub ?_; refine ev_cell (by eq_refl) (by eq_refl) ?_; refine ev_loc (by eq_refl) ?_)
            refine op_getL (vs := cls.map cv) (v := cv (cls.getD l.toNat [])) (by walk_at "ru lk") hr.1 (by lia) (by rw [List.getElem?_map, List.getD_eq_getElem?_getD, List.getElem?_eq_getElem (by lia)]; rfl) ?_
            exact ⟨rfl, rfl⟩
          rw [map_pick tp.kr]
          (refine spl_cons ?_)
          refine ev_lcP P.h (cl := [("log", _)]) (by rfl) (sr_of ?_) (by walk_at "ru cl") (by simp)
          (refine ev_loc (by eq_refl) ?_; refine sv_list (by walk_at "ru lk") ?_)
          intro V1 frV
          have UV : U ≠ V1 := frV.neLi li_same
          have aV : a ≠ V1 := frV.neLi (li_ne aU ta)
          have GV : G' ≠ V1 := frV.neLi (li_ne GU tG)
          have AV : A ≠ V1 := frV.neLi (li_ne AU eA)
          have BV : B ≠ V1 := frV.neLi (li_ne BU eB)
          refine ⟨fun zz => true, gw log, fun zz => by walk_at "ru lk", by simp; lia, fun L2 q w ws hv => ?_, ?_⟩
          · rw [List.getElem?_map] at hv
            obtain ⟨l, hl, rfl⟩ := Option.map_eq_some_iff.mp hv
            have hr := tp.lr l (List.mem_of_getElem? hl)
            (refine ts_nil ?_)
            refine ⟨rfl, rfl, fun zz => ?_⟩
            (refine ev_sub ?_; refine ev_cell (by eq_refl) (by eq_refl) ?_; refine ev_loc (by eq_refl) ?_)
            refine op_getL (vs := log.map cv) (v := cv (log.getD l.toNat [])) (by walk_at "ru lk") hr.1 (by lia) (by rw [List.getElem?_map, List.getD_eq_getElem?_getD, List.getElem?_eq_getElem (by lia)]; rfl) ?_
            exact ⟨rfl, rfl⟩
          rw [map_pick tp.lr]
          have pl1 := (pick_len tp.kr).1
          have pl2 := (pick_len tp.lr).1
          have lim2 : Lim (pick cls kept ++ (pick log late ++ [goal])) := ⟨by simp; lia, fun k hk => by
            rcases List.mem_append.mp hk with hk | hk
            · exact pick_okc q6 k hk
            · rcases List.mem_append.mp hk with hk | hk
              · exact pick_okc oklog k hk
              · rw [List.mem_singleton.mp hk]; exact okg⟩
          (refine spl_nil ?_; refine ⟨by walk_at "ru len", ?_⟩; refine ⟨_, _, rfl, ?_⟩; refine st_loc ?_; refine st_loc ?_; refine xs_cons ?_; refine xv_name ?_; refine ev_gcall (by exact Pk.ns (by assumption) (by exact gs_law_trimmed _)) (by exact Pk.kp (by assumption) (by exact kp_law_trimmed _)) ?_; refine spl_cons ?_; refine ev_loc (by eq_refl) ?_; refine spl_cons ?_; refine ev_loc (by eq_refl) ?_; refine spl_cons ?_; refine ev_loc (by eq_refl) ?_; refine spl_nil ?_)
          refine ltrim_d (cls := pick cls kept) (log := pick log late) (goal := goal) P G rfl rfl (fun q => by cases q) (by walk_at "ru lk") (by walk_at "ru lk") lim2 smg (fun j τ2 hj hw2 le2 => ?_) (fun A2 B2 kept2 late2 τ2 fA2 fB2 AB2 eA2 eB2 tp2 hw2 le2 => ?_)
          · have := hw2.unique tp.fol
            lia
          · have tU : τ2.li U = some ((pick cls kept).map cv) := le2.li _ _ (by walk_at "ru lk")
            have tV : τ2.li V1 = some ((pick log late).map cv) := le2.li _ _ (by walk_at "ru lk")
            clear le2
            (refine st_loc ?_; refine xs_cons ?_; refine xv_ret ?_)
            refine ev_and ?_
            (refine ev_un ?_; refine ev_bcall (by exact Pk.ns (by assumption) (by exact gs_isinstance _)) (by exact bb_isinstance) ?_; refine spl_cons ?_; refine ev_loc (by eq_refl) ?_; refine spl_cons ?_; refine ev_bty (by exact Pk.ns (by assumption) (by exact gs_int _)) (by exact bb_int) ?_; refine spl_nil ?_; refine isi_tupInt ?_; refine op_not ?_; refine tr_bool ?_; refine tr_bool ?_)
            refine ⟨fun zz => ?_, fun q => absurd q (by simp)⟩
            (refine ev_gcall (by exact Pk.ns (by assumption) (by exact gs_law_kept_right _)) (by exact Pk.kp (by assumption) (by exact kp_law_kept_right _)) ?_; refine spl_cons ?_; refine ev_loc (by eq_refl) ?_; refine spl_cons ?_; refine ev_loc (by eq_refl) ?_; refine spl_cons ?_; refine ev_loc (by eq_refl) ?_; refine spl_cons ?_; refine ev_sub ?_; refine ev_loc (by eq_refl) ?_; refine ev_int ?_)
            refine op_getT (v := .ref A2) (by decide) (by decide) rfl ?_
            (refine spl_cons ?_; refine ev_sub ?_; refine ev_loc (by eq_refl) ?_; refine ev_int ?_)
            refine op_getT (v := .ref B2) (by decide) (by decide) rfl ?_
            (refine spl_nil ?_)
            refine kept_d (cls := pick cls kept) (log := pick log late) (goal := goal) (kept := kept2) (late := late2) P (by walk_at "ru lk") (by walk_at "ru lk") (by walk_at "ru lk") (by walk_at "ru lk") lim2 tp2 ?_
            rfl
  · subst q
    obtain ⟨y, rfl, r⟩ := r
    simp only [VR] at r
    subst r
    refine ⟨.inl ⟨.bool true, .bool true, [], rfl, ?_, ?_, ?_, ?_⟩, ko, os, gs⟩
    · intro cls; rfl
    · first | exact .bool _ | constructor | rfl
    · first | kc_post | wrow_post
    · exact fun zz => ⟨List.nodup_nil, fun a h => by cases h⟩)
end
end Rup
theorem PySem.Challenge.cw_nu0244_01_holds : PySem.Challenge.rw_nu0244_01.Holds := by
  exact Rup.jt

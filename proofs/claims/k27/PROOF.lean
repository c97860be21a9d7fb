import PyProof.Rows.All
import Wide.All
import OpenK.AllK
import Wide.FinOn
import KE.KStateDown
import KE.DataEq
import KE.LtData
import KE.SortData
import HandS.ForMost
import HandS.More
import HandS.Flow
import HandS.Wide
import HandS.TupAny
import HandS.TupLe
import HandS.TupSets
import HandS.IsInst
import HandS.Conv
import HandS.WordsExc
import HandS.Defaults
import HandS.Exc
import HandS.SetFor
import KE.GoesEnum
import KE.GoesMore
import KE.KDictCopyH
import KE.KDictDisplayH
import HandS.Walk
import HandS.HeadHook1
import HandS.HeadHook2
import HandS.Head0
import HandS.Head1
import HandS.Head2
import HandS.HeadEnd
import HandS.EndBits
import PySem.Challenge.RW_heldafar_k27_whole_ways_agree
set_option Elab.async false
set_option linter.all false
set_option maxRecDepth 100000
set_option maxHeartbeats 4000000
namespace HF
open PySem PySem.Spec PyProof.Rows L2

/-! ### data: none, bools, ints, texts, tuples of these, that stand in the abstract heap -/
mutual
inductive Dt (H : Hp) : V → PyData → Prop
  | non : Dt H .non .none
  | bl (b : Bool) : Dt H (.bl b) (.bool b)
  | int (i : Int) : Dt H (.int i) (.int i)
  | str (x : Str) : Dt H (.str x) (.str x)
  | tup {a : Addr} {xs : List V} {ds : List PyData} (h : H a = some (.tup xs)) (t : DtAll H xs ds) : Dt H (.ref a) (.tuple ds)
inductive DtAll (H : Hp) : List V → List PyData → Prop
  | nil : DtAll H [] []
  | cons {v : V} {vs : List V} {d : PyData} {ds : List PyData} (h : Dt H v d) (t : DtAll H vs ds) : DtAll H (v :: vs) (d :: ds)
end
/-- tuples stay -/
def TX (H H' : Hp) : Prop := ∀ a xs, H a = some (.tup xs) → H' a = some (.tup xs)
/-- all stays -/
def Ex (H H' : Hp) : Prop := ∀ a o, H a = some o → H' a = some o
/-- all but p stays -/
def Ch (p : Addr) (H H' : Hp) : Prop := ∀ a o, a ≠ p → H a = some o → H' a = some o
theorem TX.refl (H : Hp) : TX H H := fun _ _ h => h
theorem TX.trans {H H1 H2 : Hp} (a : TX H H1) (b : TX H1 H2) : TX H H2 := fun x o h => b x o (a x o h)
theorem Ex.refl (H : Hp) : Ex H H := fun _ _ h => h
theorem Ex.trans {H H1 H2 : Hp} (a : Ex H H1) (b : Ex H1 H2) : Ex H H2 := fun x o h => b x o (a x o h)
theorem Ex.tx {H H' : Hp} (e : Ex H H') : TX H H' := fun a xs h => e a _ h
theorem Ex.new {H : Hp} {p : Addr} {o : HO} (h : H p = none) : Ex H (upd H p o) := fun a u e => by
  rw [upd_ne (ne_of_none e h)]
  exact e
theorem Ex.mut {H H' : Hp} {p : Addr} {o : HO} (e : Ex H H') (h : H p = none) : Ex H (upd H' p o) := fun a u ha => by
  rw [upd_ne (ne_of_none ha h)]
  exact e a u ha
theorem Ex.ch {H H1 H2 : Hp} {p : Addr} (e : Ex H H1) (h : H p = none) (c : Ch p H1 H2) : Ex H H2 := fun a u ha => c a u (ne_of_none ha h) (e a u ha)
theorem Ex.back {H H' : Hp} {p : Addr} (e : Ex H H') (h : H' p = none) : H p = none := by
  cases q : H p with
  | none => rfl
  | some o =>
    rw [e p o q] at h
    cases h
theorem Ch.up {H : Hp} {p : Addr} {o : HO} : Ch p H (upd H p o) := fun a u n h => by rw [upd_ne n]; exact h
theorem Ch.refl {H : Hp} {p : Addr} : Ch p H H := fun _ _ _ h => h
theorem Ch.trans {H H1 H2 : Hp} {p : Addr} (a : Ch p H H1) (b : Ch p H1 H2) : Ch p H H2 := fun x o n h => b x o n (a x o n h)
theorem Ex.toCh {H H' : Hp} {p : Addr} (e : Ex H H') : Ch p H H' := fun a o _ h => e a o h
theorem Ch.tx {H H' : Hp} {p : Addr} (c : Ch p H H') (h : ∀ xs, H p ≠ some (.tup xs)) : TX H H' := fun a xs e => by
  by_cases n : a = p
  · subst n; exact absurd e (h xs)
  · exact c a _ n e
theorem TX.up {H : Hp} {p : Addr} {o : HO} (h : ∀ xs, H p ≠ some (.tup xs)) : TX H (upd H p o) := Ch.up.tx h
theorem TX.updL {H : Hp} {p : Addr} {o : HO} {l : List V} (h : H p = some (.lst l)) : TX H (upd H p o) := TX.up fun xs e => by rw [h] at e; cases e
theorem TX.updD {H : Hp} {p : Addr} {o : HO} {l : List (List Key × V)} (h : H p = some (.dT l)) : TX H (upd H p o) := TX.up fun xs e => by rw [h] at e; cases e
theorem TX.updN {H : Hp} {p : Addr} {o : HO} (h : H p = none) : TX H (upd H p o) := TX.up fun xs e => by rw [h] at e; cases e

section
variable {H H' : Hp}
mutual
theorem Dt.tx (t : TX H H') : ∀ (d : PyData) {v : V}, Dt H v d → Dt H' v d
  | .none, _, h => by cases h; exact .non
  | .bool b, _, h => by cases h; exact .bl b
  | .int i, _, h => by cases h; exact .int i
  | .str x, _, h => by cases h; exact .str x
  | .tuple ds, _, h => by
    cases h with
    | tup h1 h2 => exact .tup (t _ _ h1) (DtAll.tx t ds h2)
  | .list _, _, h => by cases h
  | .dict _, _, h => by cases h
theorem DtAll.tx (t : TX H H') : ∀ (ds : List PyData) {vs : List V}, DtAll H vs ds → DtAll H' vs ds
  | [], _, h => by cases h; exact .nil
  | d :: ds, _, h => by
    cases h with
    | cons h1 h2 => exact .cons (Dt.tx t d h1) (DtAll.tx t ds h2)
end
theorem Dt.go {v : V} {d : PyData} (h : Dt H v d) (t : TX H H') : Dt H' v d := Dt.tx t d h
theorem DtAll.go {vs : List V} {ds : List PyData} (h : DtAll H vs ds) (t : TX H H') : DtAll H' vs ds := DtAll.tx t ds h
variable {K : PySem.W.Frag}
mutual
theorem Dt.dp : ∀ (d : PyData) {v : V}, Dt H v d → Dp K H v d
  | .none, _, h => by cases h; exact .non
  | .bool b, _, h => by cases h; exact .bl b
  | .int i, _, h => by cases h; exact .int i
  | .str x, _, h => by cases h; exact .str x
  | .tuple ds, _, h => by
    cases h with
    | tup h1 h2 => exact .tup (SqT.of h1) (DtAll.dp ds h2)
  | .list _, _, h => by cases h
  | .dict _, _, h => by cases h
theorem DtAll.dp : ∀ (ds : List PyData) {vs : List V}, DtAll H vs ds → DpAll K H vs ds
  | [], _, h => by cases h; exact .nil
  | d :: ds, _, h => by
    cases h with
    | cons h1 h2 => exact .cons (Dt.dp d h1) (DtAll.dp ds h2)
end
mutual
theorem Dt.pl : ∀ (d : PyData) {v : V}, Dt H v d → d.plain = true
  | .none, _, _ => rfl
  | .bool b, _, _ => rfl
  | .int i, _, _ => rfl
  | .str x, _, _ => rfl
  | .tuple ds, _, h => by
    cases h with
    | tup h1 h2 => simpa [PyData.plain] using DtAll.pl ds h2
  | .list _, _, h => by cases h
  | .dict _, _, h => by cases h
theorem DtAll.pl : ∀ (ds : List PyData) {vs : List V}, DtAll H vs ds → PyData.plainAll ds = true
  | [], _, _ => by simp [PyData.plainAll]
  | d :: ds, _, h => by
    cases h with
    | cons h1 h2 => simp [PyData.plainAll, Dt.pl d h1, DtAll.pl ds h2]
end
theorem DtAll.len : ∀ {vs : List V} {ds : List PyData}, DtAll H vs ds → vs.length = ds.length
  | _, _, .nil => rfl
  | _, _, .cons _ t => by rw [List.length_cons, List.length_cons, DtAll.len t]
theorem DtAll.get : ∀ {vs : List V} {ds : List PyData} {i : Nat} {d : PyData}, DtAll H vs ds → ds[i]? = some d → ∃ v, vs[i]? = some v ∧ Dt H v d
  | _, _, _, _, .nil, e => by simp at e
  | _, _, 0, _, .cons h _, e => by
    simp at e; subst e; exact ⟨_, rfl, h⟩
  | _, _, i + 1, d, .cons _ t, e => by
    obtain ⟨v, h1, h2⟩ := DtAll.get (i := i) (d := d) t (by simpa using e)
    exact ⟨v, by simpa using h1, h2⟩
theorem DtAll.getV : ∀ {vs : List V} {ds : List PyData} {i : Nat} {v : V}, DtAll H vs ds → vs[i]? = some v → ∃ d, ds[i]? = some d ∧ Dt H v d
  | _, _, _, _, .nil, e => by simp at e
  | _, _, 0, _, .cons h _, e => by
    simp at e; subst e; exact ⟨_, rfl, h⟩
  | _, _, i + 1, v, .cons _ t, e => by
    obtain ⟨d, h1, h2⟩ := DtAll.getV (i := i) (v := v) t (by simpa using e)
    exact ⟨d, by simpa using h1, h2⟩
theorem DtAll.append : ∀ {vs ws : List V} {ds es : List PyData}, DtAll H vs ds → DtAll H ws es → DtAll H (vs ++ ws) (ds ++ es)
  | _, _, _, _, .nil, s => s
  | _, _, _, _, .cons h t, s => .cons h (DtAll.append t s)
theorem DtAll.snoc {vs : List V} {ds : List PyData} {v : V} {d : PyData} (h : DtAll H vs ds) (q : Dt H v d) : DtAll H (vs ++ [v]) (ds ++ [d]) := h.append (.cons q .nil)
theorem DtAll.dropLast : ∀ {vs : List V} {ds : List PyData}, DtAll H vs ds → DtAll H vs.dropLast ds.dropLast
  | _, _, .nil => .nil
  | _, _, .cons _ .nil => .nil
  | _, _, .cons h (.cons h2 t) => by
    rw [List.dropLast_cons₂, List.dropLast_cons₂]
    exact .cons h (DtAll.dropLast (.cons h2 t))
theorem DtAll.eraseIdx : ∀ {vs : List V} {ds : List PyData} (i : Nat), DtAll H vs ds → DtAll H (vs.eraseIdx i) (ds.eraseIdx i)
  | _, _, _, .nil => by simpa using DtAll.nil
  | _, _, 0, .cons _ t => by simpa using t
  | _, _, i + 1, .cons h t => by simpa using DtAll.cons h (DtAll.eraseIdx i t)
theorem DtAll.mem : ∀ {vs : List V} {ds : List PyData} {v : V}, DtAll H vs ds → v ∈ vs → ∃ d ∈ ds, Dt H v d
  | _, _, _, .nil, e => by simp at e
  | _, _, _, .cons h t, e => by
    rcases List.mem_cons.mp e with e | e
    · subst e; exact ⟨_, List.mem_cons_self, h⟩
    · obtain ⟨d, h1, h2⟩ := DtAll.mem t e
      exact ⟨d, List.mem_cons_of_mem _ h1, h2⟩
theorem Dt.inj_tup {a : Addr} {xs : List V} {ds : List PyData} (h : Dt H (.ref a) (.tuple ds)) (e : H a = some (.tup xs)) : DtAll H xs ds := by
  cases h with
  | tup h1 h2 => rw [h1] at e; cases e; exact h2
theorem Dt.tupE {v : V} {ds : List PyData} (h : Dt H v (.tuple ds)) : ∃ a xs, v = .ref a ∧ H a = some (.tup xs) ∧ DtAll H xs ds := by
  cases h with
  | tup h1 h2 => exact ⟨_, _, rfl, h1, h2⟩
theorem Dt.intE {v : V} {i : Int} (h : Dt H v (.int i)) : v = .int i := by cases h; rfl
theorem Dt.strE {v : V} {x : Str} (h : Dt H v (.str x)) : v = .str x := by cases h; rfl
theorem Dt.noneE {v : V} (h : Dt H v .none) : v = .non := by cases h; rfl
theorem Dt.boolE {v : V} {b : Bool} (h : Dt H v (.bool b)) : v = .bl b := by cases h; rfl
theorem DtAll.consE {vs : List V} {d : PyData} {ds : List PyData} (h : DtAll H vs (d :: ds)) : ∃ v r, vs = v :: r ∧ Dt H v d ∧ DtAll H r ds := by
  cases h with
  | cons h t => exact ⟨_, _, rfl, h, t⟩
theorem DtAll.nilE {vs : List V} (h : DtAll H vs []) : vs = [] := by cases h; rfl
theorem Dt.t2 {v : V} {d e : PyData} (h : Dt H v (.tuple [d, e])) : ∃ a x y, v = .ref a ∧ H a = some (.tup [x, y]) ∧ Dt H x d ∧ Dt H y e := by
  obtain ⟨a, xs, rfl, ha, hs⟩ := h.tupE
  obtain ⟨x, r, rfl, hx, hr⟩ := hs.consE
  obtain ⟨y, r, rfl, hy, hr⟩ := hr.consE
  obtain rfl := hr.nilE
  exact ⟨a, x, y, rfl, ha, hx, hy⟩
theorem Dt.t3 {v : V} {d e f : PyData} (h : Dt H v (.tuple [d, e, f])) : ∃ a x y z, v = .ref a ∧ H a = some (.tup [x, y, z]) ∧ Dt H x d ∧ Dt H y e ∧ Dt H z f := by
  obtain ⟨a, xs, rfl, ha, hs⟩ := h.tupE
  obtain ⟨x, r, rfl, hx, hr⟩ := hs.consE
  obtain ⟨y, r, rfl, hy, hr⟩ := hr.consE
  obtain ⟨z, r, rfl, hz, hr⟩ := hr.consE
  obtain rfl := hr.nilE
  exact ⟨a, x, y, z, rfl, ha, hx, hy, hz⟩
theorem Dt.t4 {v : V} {d e f g : PyData} (h : Dt H v (.tuple [d, e, f, g])) : ∃ a x y z u, v = .ref a ∧ H a = some (.tup [x, y, z, u]) ∧ Dt H x d ∧ Dt H y e ∧ Dt H z f ∧ Dt H u g := by
  obtain ⟨a, xs, rfl, ha, hs⟩ := h.tupE
  obtain ⟨x, r, rfl, hx, hr⟩ := hs.consE
  obtain ⟨y, r, rfl, hy, hr⟩ := hr.consE
  obtain ⟨z, r, rfl, hz, hr⟩ := hr.consE
  obtain ⟨u, r, rfl, hu, hr⟩ := hr.consE
  obtain rfl := hr.nilE
  exact ⟨a, x, y, z, u, rfl, ha, hx, hy, hz, hu⟩
theorem Dt.t5 {v : V} {d e f g i : PyData} (h : Dt H v (.tuple [d, e, f, g, i])) : ∃ a x y z u t, v = .ref a ∧ H a = some (.tup [x, y, z, u, t]) ∧ Dt H x d ∧ Dt H y e ∧ Dt H z f ∧ Dt H u g ∧ Dt H t i := by
  obtain ⟨a, xs, rfl, ha, hs⟩ := h.tupE
  obtain ⟨x, r, rfl, hx, hr⟩ := hs.consE
  obtain ⟨y, r, rfl, hy, hr⟩ := hr.consE
  obtain ⟨z, r, rfl, hz, hr⟩ := hr.consE
  obtain ⟨u, r, rfl, hu, hr⟩ := hr.consE
  obtain ⟨t, r, rfl, ht, hr⟩ := hr.consE
  obtain rfl := hr.nilE
  exact ⟨a, x, y, z, u, t, rfl, ha, hx, hy, hz, hu, ht⟩
end

/-! ### comparisons of data -/
section
variable {X : Cx}
@[irreducible] def rEqU : R2 := fun x y H Q => ∃ d e, Dt H x d ∧ Dt H y e ∧ min d.depth e.depth ≤ 60 ∧ Q (.bl (PyData.eqv d e)) H
@[irreducible] def rNeU : R2 := fun x y H Q => ∃ d e, Dt H x d ∧ Dt H y e ∧ min d.depth e.depth ≤ 60 ∧ Q (.bl (!PyData.eqv d e)) H
@[irreducible] def rLtU : R2 := fun x y H Q => ∃ d e, Dt H x d ∧ Dt H y e ∧ d.depth ≤ 60 ∧ PySem.W.alike d e = true ∧ d ≠ .none ∧ Q (.bl (PySem.W.dataLt d e)) H
theorem op_eqU (hu : X.A.units + 64 < cLine) : OpR X (compareOp .Eq) rEqU := by
  intro pins s σ H x y v u Q I rx ry h
  unfold rEqU at h
  obtain ⟨d, e, hd, he, hl, q⟩ := h
  obtain ⟨as, r1⟩ := Dp.reads I d x v (Dt.dp d hd) rx
  obtain ⟨bs, r2⟩ := Dp.reads I e y u (Dt.dp e he) ry
  exact SeqAt.eq_plain r1 r2 (Dt.pl d hd) (Dt.pl e he) (by omega) ⟨.bl _, H, I, rfl, q⟩
theorem op_neU (hu : X.A.units + 64 < cLine) : OpR X (compareOp .NotEq) rNeU := by
  intro pins s σ H x y v u Q I rx ry h
  unfold rNeU at h
  obtain ⟨d, e, hd, he, hl, q⟩ := h
  obtain ⟨as, r1⟩ := Dp.reads I d x v (Dt.dp d hd) rx
  obtain ⟨bs, r2⟩ := Dp.reads I e y u (Dt.dp e he) ry
  exact SeqAt.ne_plain r1 r2 (Dt.pl d hd) (Dt.pl e he) (by omega) ⟨.bl _, H, I, rfl, q⟩
theorem op_ltU (hu : X.A.units + 64 < cLine) : OpR X (compareOp .Lt) rLtU := by
  intro pins s σ H x y v u Q I rx ry h
  unfold rLtU at h
  obtain ⟨d, e, hd, he, hl, ha, hn, q⟩ := h
  obtain ⟨as, r1⟩ := Dp.reads I d x v (Dt.dp d hd) rx
  obtain ⟨bs, r2⟩ := Dp.reads I e y u (Dt.dp e he) ry
  exact PySem.W.rcLt_alike d e X.A s v u as bs r1 r2 ha hn (by omega) X.prog X.w X.xe _ ⟨.bl _, H, I, rfl, q⟩
/-- x in t, t a tuple or a list of data -/
def SqU (H : Hp) (y : V) (ds : List PyData) : Prop := Dt H y (.tuple ds) ∨ ∃ p xs, y = .ref p ∧ H p = some (.lst xs) ∧ DtAll H xs ds
@[irreducible] def rInU (neg : Bool) : R2 := fun x y H Q => ∃ d ds, Dt H x d ∧ SqU H y ds ∧ d.depth ≤ 60 ∧ Q (.bl (if neg then !ds.any fun z => PyData.eqv z d else ds.any fun z => PyData.eqv z d)) H
theorem op_inU (hu : X.A.units + 65 < cLine) : OpR X (compareOp .In) (rInU false) := by
  intro pins s σ H x y v u Q I rx ry h
  unfold rInU at h
  obtain ⟨d, ds, hd, hs, hl, q⟩ := h
  obtain ⟨as, r1⟩ := Dp.reads I d x v (Dt.dp d hd) rx
  rcases hs with hs | ⟨p, xs, rfl, hp, hs⟩
  · obtain ⟨bs, r2⟩ := Dp.reads I (.tuple ds) y u (Dt.dp _ hs) ry
    refine SeqAt.in_tuple_data r2 r1 (by simpa [PyData.plain] using Dt.pl _ hs) (Dt.pl d hd) ?_ ⟨.bl _, H, I, rfl, q⟩
    omega
  · obtain ⟨bs, r2⟩ := Dp.reads I (.list ds) (.ref p) u (.lst (SqL.of hp) (DtAll.dp _ hs)) ry
    refine SeqAt.in_list_data r2 r1 (DtAll.pl _ hs) (Dt.pl d hd) ?_ ⟨.bl _, H, I, rfl, q⟩
    omega
theorem op_notInU (hu : X.A.units + 65 < cLine) : OpR X (compareOp .NotIn) (rInU true) := by
  intro pins s σ H x y v u Q I rx ry h
  unfold rInU at h
  obtain ⟨d, ds, hd, hs, hl, q⟩ := h
  obtain ⟨as, r1⟩ := Dp.reads I d x v (Dt.dp d hd) rx
  rcases hs with hs | ⟨p, xs, rfl, hp, hs⟩
  · obtain ⟨bs, r2⟩ := Dp.reads I (.tuple ds) y u (Dt.dp _ hs) ry
    refine SeqAt.notIn_tuple_data r2 r1 (by simpa [PyData.plain] using Dt.pl _ hs) (Dt.pl d hd) ?_ ⟨.bl _, H, I, rfl, q⟩
    omega
  · obtain ⟨bs, r2⟩ := Dp.reads I (.list ds) (.ref p) u (.lst (SqL.of hp) (DtAll.dp _ hs)) ry
    refine SeqAt.notIn_list_data r2 r1 (DtAll.pl _ hs) (Dt.pl d hd) ?_ ⟨.bl _, H, I, rfl, q⟩
    omega
theorem rEqU.mk {H : Hp} {x y : V} {d e : PyData} {Q : VK} (h : Dt H x d) (g : Dt H y e) (l : min d.depth e.depth ≤ 60) (k : Q (.bl (PyData.eqv d e)) H) : rEqU x y H Q := by
  unfold rEqU
  exact ⟨d, e, h, g, l, k⟩
theorem rNeU.mk {H : Hp} {x y : V} {d e : PyData} {Q : VK} (h : Dt H x d) (g : Dt H y e) (l : min d.depth e.depth ≤ 60) (k : Q (.bl (!PyData.eqv d e)) H) : rNeU x y H Q := by
  unfold rNeU
  exact ⟨d, e, h, g, l, k⟩
theorem rLtU.mk {H : Hp} {x y : V} {d e : PyData} {Q : VK} (h : Dt H x d) (g : Dt H y e) (l : d.depth ≤ 60) (a : PySem.W.alike d e = true) (n : d ≠ .none) (k : Q (.bl (PySem.W.dataLt d e)) H) : rLtU x y H Q := by
  unfold rLtU
  exact ⟨d, e, h, g, l, a, n, k⟩
theorem rInU.mk {neg : Bool} {H : Hp} {x y : V} {d : PyData} {ds : List PyData} {Q : VK} (h : Dt H x d) (g : SqU H y ds) (l : d.depth ≤ 60) (k : Q (.bl (if neg then !ds.any fun z => PyData.eqv z d else ds.any fun z => PyData.eqv z d)) H) : rInU neg x y H Q := by
  unfold rInU
  exact ⟨d, ds, h, g, l, k⟩
end
end HF
set_option Elab.async false
set_option linter.all false
set_option maxRecDepth 100000
set_option maxHeartbeats 4000000
namespace HF
open PySem PySem.Spec PyProof.Rows L2
section
variable {P : Program} {w : World} {A : Around} {E : Value → Shared → Prop} {s : Shared}
/-- an empty set's object -/
abbrev mtSet (w : World) : Obj := { cls := .type "set", dict := none, data := .set #[] 0 (.fresh 0 0 (!w.params.followText "set-order")) }
set_option maxHeartbeats 8000000 in
/-- set(t), t a tuple of tuples of ints -/
theorem set_of_tup {l : Addr} {items : Array Value} (ks : List (Addr × List Int)) {Q : Value → Shared → Prop} (hh : A.handled = none)
    (hl : s.heap.IsTuple l items) (hit : items.toList = ks.map fun q => Value.ref q.1) (hk : ∀ q ∈ ks, IsT P w s.heap q.2 q.1) (hfew : ks.length < 64) (hu : A.units + 3 < cLine)
    (h : ∀ (h' : Heap) (tk : Nat) L es ep t, SetTR P w h' s.heap.objs.size L es ep t → Got ks ks.length L →
      (∀ b o, s.heap.get? b = some o → h'.get? b = some o) → Q (.ref s.heap.objs.size) { s with heap := h', toks := tk }) :
    wpAny (model P w) A (call (.type "set") [.ref l]) Q E s := by
  have en : items.size = ks.length := by
    have q := congrArg List.length hit
    simpa using q
  have ⟨_, _, hm1⟩ := F.called_set.mro
  have hm2 := F.called_set.made
  have hm3 := F.called_set.sub
  refine wpAny_call (codeAny_of_tree ?_)
  refine wpAny_pure ⟨Code.quiet_builtin _ (by decide +kernel), codeAny_builtin F.entry_type_call ?_⟩
  rw [Around.under_plain (weight_type_call_type "set" [.ref l] []) rfl]
  have g1 := F.called_set.notType
  have g2 := F.called_set.canCreate
  have g3 := F.typeCall_set_1 (.ref l)
  repeat any_goals first | assumption | wp_step
  refine codeAny_mono (code_set_led1 (.ref l) (E := E) (Q₁ := fun ob s1 => ob = .ref s.heap.objs.size ∧ s1 = { s with heap := s.heap.push (mtSet w) }) ⟨rfl, rfl⟩) fun r s1 hr => ?_
  cases r with
  | error e => exact hr
  | ok fl =>
    cases fl with
    | ret ob =>
      obtain ⟨rfl, rfl⟩ := hr
      have hS : (s.heap.push (mtSet w)).get? s.heap.objs.size = some (mtSet w) := Heap.get?_push_size _ rfl
      have hT : Shared.TypeIs { s with heap := s.heap.push (mtSet w) } (.ref s.heap.objs.size) "set" := ⟨_, hS, rfl⟩
      have g4 := F.called_set.init.lookup
      have g5 := F.called_set.init.bind (.ref s.heap.objs.size)
      repeat any_goals first | assumption | wp_step
      refine codeAny_mono (codeAny_call_builtin (R := wants (fun r s2 => r = .none ∧ ∃ h' tk L es ep t, s2 = { s with heap := h', toks := tk } ∧ SetTR P w h' s.heap.objs.size L es ep t ∧
        Got ks ks.length L ∧ (∀ b o, s.heap.get? b = some o → h'.get? b = some o)) E) F.called_set.init.plain F.entry_set_init (check_set_init_1 hT ?_)) fun r2 s2 hr2 => ?_
      · obtain ⟨⟨oc, od, dt, sl⟩, hol, hcl, nl, hdl⟩ := hl
        simp only at hcl hdl
        subst hcl; subst hdl
        have hol' : (s.heap.push (mtSet w)).get? l = some { cls := .type "tuple", dict := od, data := .seq items nl, slots := sl } := Heap.get?_push_of_some _ hol
        have g6 := F.sub_tuple_set
        have g7 := F.sub_tuple_frozenset
        have g8 : (Value.type "tuple" == Value.type "dict") = false := by decide
        have hl1 : (s.heap.push (mtSet w)).IsTuple l items := ⟨_, hol', rfl, nl, rfl⟩
        unfold Builtin.«set.__init__» noKeywords Builtin.Frozenset.updateFrom
        generalize eP : pyIter = PI
        wp_walk
        subst eP
        refine wpAny_pyIter_tuple hl1 (wpAny_bind (wpAny_runValue ?_))
        have lS : l < s.heap.objs.size := Heap.lt_size hol
        have hh3 : A.in1.in1.in1.handled = none := by simp [hh]
        have z1 : (s.heap.push (mtSet w)).objs.size = s.heap.objs.size + 1 := Heap.size_push ..
        have nI : l ≠ (s.heap.push (mtSet w)).objs.size := by rw [z1]; exact Nat.ne_of_lt (Nat.lt_succ_of_lt lS)
        have nS : s.heap.objs.size ∉ [(s.heap.push (mtSet w)).objs.size, l] := by
          rw [z1]
          intro q
          simp only [List.mem_cons, List.not_mem_nil, or_false] at q
          rcases q with q | q
          · exact absurd q (Nat.ne_of_lt (Nat.lt_succ_self _))
          · exact absurd q (Nat.ne_of_gt lS)
        have val : ∀ (i : Nat) (v : Value), items[i]? = some v → ∃ q, ks[i]? = some q ∧ v = .ref q.1 := fun i v hv => by
          have q : items.toList[i]? = some v := by rw [Array.getElem?_toList]; exact hv
          rw [hit, List.getElem?_map] at q
          cases e : ks[i]? with
          | none => rw [e] at q; cases q
          | some z =>
            rw [e] at q
            exact ⟨z, rfl, (Option.some.inj q).symm⟩
        have away : ∀ b, s.heap.objs.size ≤ b → s.heap.get? b = none := fun b hb => by
          cases q : s.heap.get? b with
          | none => rfl
          | some o => exact absurd (Nat.lt_of_lt_of_le (Heap.lt_size q) hb) (Nat.lt_irrefl _)
        refine set_update_tups ((Walks.tuple hh3 _ l nI items).toS) s.heap.objs.size nS ks en hfew val s.heap hk (away _ (Nat.le_refl _))
          (fun b hb => away b (by rw [List.mem_singleton.mp hb, z1]; exact Nat.le_succ _)) hu (items.size - 0) 0 _ (by omega) (Nat.zero_le _)
          ⟨⟨_, Heap.get?_push_size _ rfl, rfl, rfl⟩, hl1.push _⟩ (fun b o e => Heap.get?_push_of_some _ (Heap.get?_push_of_some _ e)) ?c1 ?c2
        case c1 =>
          have q : ((s.heap.push (mtSet w)).push { cls := .type "tuple_iterator", data := .fields #[.ref l, .int 0 0] }).get? s.heap.objs.size = some (mtSet w) := Heap.get?_push_of_some _ hS
          exact ⟨[], #[], 0, _, setTR_fresh q, Got.zero ks⟩
        case c2 =>
          rintro ⟨h', g', d', tk', os'⟩ L es ep t hm hS' gt hkp
          have e1 : g' = s.gens := hm.gens
          have e2 : d' = s.drawn := hm.drawn
          have e3 : os' = s.os := hm.os
          subst e1 e2 e3
          rw [en] at gt
          exact wpAny_pure (wpAny_pure ⟨rfl, h', tk', L, es, ep, t, rfl, hS', gt, hkp⟩)
      · cases r2 with
        | error e => exact hr2
        | ok f2 =>
          cases f2 with
          | ret r =>
            obtain ⟨rfl, h', tk, L, es, ep, t, rfl, q1, q2, q3⟩ := hr2
            repeat any_goals first | assumption | wp_step
            exact h _ _ _ _ _ _ q1 q2 q3
          | _ => exact hr2.elim
    | _ => exact hr.elim
end
section
variable {X : Cx}
@[irreducible] def rSetTup (K : PySem.W.Frag) (P : Program) (w : World) : List V → Hp → VK → Prop := fun xs H Q => ∃ (l : Addr) (ks : List (Addr × List Int)), xs = [V.ref l] ∧
  SqT K H l (ks.map fun q => V.ref q.1) ∧ (∀ q ∈ ks, SqT K H q.1 (q.2.map V.int)) ∧ ks.length < 64 ∧
  ∀ a L, H a = none → (∀ q ∈ L, q ∈ ks) → (∀ q ∈ ks, q.2 ∈ L.map (·.2)) → Q (.ref a) (upd H a (SetTO P w a L))
theorem cr_setTup (hc : X.calm = true) (hu : X.A.units + 64 < cLine) : CallR X (.type "set") (rSetTup X.K X.prog X.w) := by
  intro pins s σ H xs us Q I r h
  unfold rSetTup at h
  obtain ⟨l, ks, rfl, hl, hk, hf, q⟩ := h
  rw [Vals.ref1 r]
  obtain ⟨its, rv, pl, hz⟩ := I.tuple hl
  have hn : H s.heap.objs.size = none := I.hok.fresh (Nat.le_refl _)
  refine set_of_tup (P := X.prog) (w := X.w) ks (I.ok.hd hc) (show s.heap.IsTuple l its.toArray from pl) (by simpa using refs_of_vals rv) (fun z hz => I.isT (hk z hz)) hf (by omega) fun h' tk L es ep t R g k => ?_
  refine ⟨.ref s.heap.objs.size, upd H s.heap.objs.size (SetTO X.prog X.w s.heap.objs.size L), I.laid (t' := tk) k (Nat.le_refl _) (setTO_new R.t0), rfl, q _ L hn (fun z hz => ?_) fun z hz => ?_⟩
  · exact List.mem_of_mem_take (g.sub z hz)
  · exact g.all z (by rw [List.take_length]; exact hz)
end
end HF
set_option Elab.async false
set_option linter.all false
set_option maxRecDepth 100000
set_option maxHeartbeats 4000000
namespace HF
open PySem PySem.Spec PyProof.Rows L2
/-! ### l.extend(t), t a tuple -/
section
variable {X : Cx}
theorem ext_tup (l : Addr) (us : Array Value) (n : Nat) (b : Addr) (ws : Array Value) (m : Nat) (dd : Option Addr) (sl : Array (Option Value))
    (h0 : ¬(!us.isEmpty && Builtin.List.listTooLong (us.size + ws.size)) = true) (h1 : us.size ≤ sizeLine) (h2 : us.size + ws.size ≤ sizeLine + 1) :
    Meets (Builtin.«list.extend» ⟨[.ref l, .ref b], []⟩) (fun _ R s => s.heap.get? l = some { cls := .type "list", dict := none, data := .seq us n, slots := #[] } ∧
      s.heap.get? b = some { cls := .type "tuple", dict := dd, data := .seq ws m, slots := sl } ∧
      R (.ok (.ret Value.none)) { s with heap := s.heap.update l (Obj.mapSeq fun x => x ++ ws), toks := s.toks }) :=
  .of_wp fun prog w A R s h => by
    obtain ⟨hp, g, d, tk, os⟩ := s
    obtain ⟨e1, e2, h⟩ := h
    have k1 := AutoSeq1.sub_tuple_tuple
    have k2 := AutoSeq1.sub_list_list
    have k3 := AutoSeq1.sub_tuple_list
    have k4 := AutoSeq1.sub_list_tuple
    have k5 := AutoSeq1.idx_int
    have z : (us ++ ws).size ≤ sizeLine + 1 := by rw [Array.size_append]; exact h2
    wp_walk using (wpAny_updateSeq e1 rfl (hz := h1) (_hz' := z)), AutoSeq1.wpAny_loadPart' e1, AutoSeq1.wpAny_loadPart' e2
    exact ⟨_, rfl, h⟩
def rExtT : V → List V → Hp → VK → Prop := fun x vs H Q => ∃ l b xs zs, x = .ref l ∧ vs = [.ref b] ∧ H l = some (.lst xs) ∧ H b = some (.tup zs) ∧ xs.length + zs.length ≤ sizeLine ∧ Q .non (upd H l (.lst (xs ++ zs)))
theorem mt_extT : MtM X "list.extend" rExtT := by
  intro pins s σ H x vs v us Q I rx rv h
  obtain ⟨l, b, xs, zs, rfl, rfl, e1, e2, hz, q⟩ := h
  cases rx
  obtain ⟨u, rfl, ru⟩ := rv.one
  cases ru
  obtain ⟨z, its, n, r, hl, o1⟩ := I.lstM e1
  obtain ⟨its2, r2, ⟨⟨oc, od, dt, sl⟩, ho, hc, m, hd⟩, z2⟩ := I.tuple (SqT.of e2)
  simp only at hc hd
  subst hc; subst hd
  have l2 := r2.length
  have sz : its.toArray.size + its2.toArray.size ≤ sizeLine := by rw [List.size_toArray, List.size_toArray]; omega
  have nl : ¬ (!its.toArray.isEmpty && Builtin.List.listTooLong (its.toArray.size + its2.toArray.size)) = true := by
    rw [notLongL sz, Bool.and_false]
    decide
  refine call_meets F.slot_list_extend ⟨_, o1, rfl⟩ F.entry_list_extend (F.args_list_extend_2 _ _) (ext_tup l its.toArray n b its2.toArray m od sl nl (by omega) (by omega)) ⟨o1, ho, ?_⟩
  exact ⟨.non, _, I.lset (its' := its ++ its2) e1 o1 (by simp) (r.append r2) (by rw [List.length_append]; omega), rfl, q⟩
end
end HF
set_option Elab.async false
set_option linter.all false
set_option maxRecDepth 100000
set_option maxHeartbeats 4000000
namespace HF
open PySem PySem.Spec PyProof.Rows L2
/-! ### sorted of data, of a dict's keys -/
section
variable {X : Cx} {β : Type}
abbrev EI : {α β : Type} → (α → β → Prop) → List α → List β → Prop := @PySem.W.EachIs
theorem ei_of {H : Hp} {enc : β → PyData} : ∀ {xs : List V} {us : List Value} {bs : List β}, Vals xs us → DtAll H xs (bs.map enc) → EI (fun u b => ∃ v, RelV v u ∧ Dt H v (enc b)) us bs
  | _, _, [], r, h => by
    obtain rfl := h.nilE
    cases r
    exact .nil
  | _, _, b :: bs, r, h => by
    obtain ⟨v, xs, rfl, h1, h2⟩ := DtAll.consE (d := enc b) (ds := bs.map enc) h
    cases r with
    | cons r1 r2 => exact .cons ⟨v, r1, h1⟩ (ei_of r2 h2)
theorem of_ei {H : Hp} {enc : β → PyData} : ∀ {us : List Value} {bs : List β}, EI (fun u b => ∃ v, RelV v u ∧ Dt H v (enc b)) us bs → ∃ xs, Vals xs us ∧ DtAll H xs (bs.map enc)
  | _, _, .nil => ⟨[], .nil, .nil⟩
  | _, _, .cons ⟨v, r, h⟩ t => by
    obtain ⟨xs, h1, h2⟩ := of_ei t
    exact ⟨v :: xs, .cons r h1, .cons h h2⟩
/-- the order of what is sorted -/
structure Srt (enc : β → PyData) : Prop where
  al : ∀ b c, PySem.W.alike (enc b) (enc c) = true
  tu : ∀ b, ∃ x r, enc b = .tuple (x :: r)
  dp : ∀ b, (enc b).depth ≤ 50
abbrev srt (enc : β → PyData) (bs : List β) : List β := bs.mergeSort (PySem.W.dataLe false enc)
def rSortU (enc : β → PyData) : List V → Hp → VK → Prop := fun vs H Q => ∃ (a : Addr) (xs : List V) (bs : List β), vs = [V.ref a] ∧ H a = some (.lst xs) ∧ DtAll H xs (bs.map enc) ∧
  ∀ ys p, H p = none → DtAll H ys ((srt enc bs).map enc) → Q (.ref p) (upd H p (.lst ys))
theorem cr_sortU {enc : β → PyData} (S : Srt enc) (hu : X.A.units + 64 < cLine) : CallR X (.builtin "sorted") (rSortU enc) := by
  intro pins s σ H vs us Q I r h
  obtain ⟨a, xs, bs, rfl, ha, hd, q⟩ := h
  obtain ⟨its, rv, hl, hz⟩ := I.list (SqL.of ha)
  rw [Vals.ref1 r]
  have e1 := ei_of rv hd
  refine PySem.W.sorted_data (bs := bs) (enc := enc) hl.isList e1 (e1.mono fun u b ⟨v, r1, h1⟩ => Dp.reads I (enc b) v u (Dt.dp _ h1) r1) (PySem.W.AllAlike.of S.al) (PySem.W.Sortable.tuples S.tu)
    (by have z := hd.len; rw [List.length_map] at z; omega) (fun b _ => by have := S.dp b; omega) fun out ho he => ?_
  obtain ⟨ys, rv2, hd2⟩ := of_ei he
  obtain ⟨ep, hs⟩ := PyProof.Rows.sortedAll_at s.heap its out.toArray
  have hlen : ys.length ≤ sizeLine := by
    have z1 := hd2.len
    have z2 := hd.len
    rw [List.length_map, List.length_mergeSort] at z1
    rw [List.length_map] at z2
    omega
  exact ⟨.ref _, upd H (s.heap.objs.size + 1) (.lst ys), I.laid (t' := s.toks) (fun _ _ => PyProof.Rows.sortedAll_old) (Nat.le_succ _) ⟨hlen, out, ep, rv2, hs⟩, rfl, q ys _ (I.hok.fresh (Nat.le_succ _)) hd2⟩
/-- the keys of a dict: encode a tuple of ints -/
def rSortD (enc : β → PyData) (key : β → List Key) : List V → Hp → VK → Prop := fun vs H Q => ∃ (a : Addr) (kvs : List (List Key × V)) (bs : List β), vs = [V.ref a] ∧ Rd H a (.dT kvs) ∧ kvs.map (·.1) = bs.map key ∧
  (∀ b c, H c = some (.tup ((key b).map kV)) → Dt H (.ref c) (enc b)) ∧
  ∀ ys p, H p = none → DtAll H ys ((srt enc bs).map enc) → Q (.ref p) (upd H p (.lst ys))
theorem keys_dt {H : Hp} {enc : β → PyData} {key : β → List Key} (hk : ∀ b c, H c = some (.tup ((key b).map kV)) → Dt H (.ref c) (enc b)) : ∀ {kvs : List (List Key × V)} {as : List Addr} {bs : List β}, IsKeys H kvs as → kvs.map (·.1) = bs.map key →
    DtAll H (as.map V.ref) (bs.map enc)
  | [], _, bs, h, e => by
    cases h
    cases bs with
    | nil => exact .nil
    | cons b r => cases e
  | kv :: kvs, _, bs, h, e => by
    cases h with
    | cons h1 h2 =>
      cases bs with
      | nil => cases e
      | cons b r =>
        rw [List.map_cons, List.map_cons] at e
        injection e with e1 e2
        exact .cons (hk b _ (by rw [← e1]; exact h1)) (keys_dt hk h2 e2)
theorem cr_sortD {enc : β → PyData} {key : β → List Key} (S : Srt enc) (hc : X.calm = true) (hu : X.A.units + 64 < cLine) : CallR X (.builtin "sorted") (rSortD enc key) := by
  intro pins s σ H vs us Q I r h
  obtain ⟨a, kvs, bs, rfl, hd, hkeys, hk, q⟩ := h
  rw [Vals.ref1 r]
  obtain ⟨z, hs, ks, pr, o, es, ep, ho, hx, hdt, he, hn⟩ := (show ObjOk X.prog X.w H s.heap a (.dT kvs) from hd.ok I.hok)
  have l1 : es.size = ks.length := size_of_entries he
  have l2 : kvs.length = ks.length := Paired.length pr
  have l3 : kvs.length = bs.length := by
    have e := congrArg List.length hkeys
    simpa using e
  refine Calls.call_function_entry PyProof.Rows.kind_sorted PyProof.Rows.plain_sorted PyProof.Rows.entry_sorted (PyProof.Rows.args_sorted1 _) ?_
  unfold Builtin.«sorted»
  refine wpAny_bind (m := checkCount "sorted" 1 1 _) (wpAny_pure ?_)
  refine wpAny_bind (PySem.W.kdu_collect (A := X.A.in1) (kdl_raw hs hx hdt) (I.ok.hd hc) ho (by omega) fun h' tk acc kp it => ?_)
  have ea : acc.toList = (ks.map fun x => x.2.1).map Value.ref := by
    have hl : acc.toList.length = ks.length := by rw [Array.length_toList, it.1]; exact l1
    apply List.ext_getElem?
    intro j
    rw [List.map_map, List.getElem?_map]
    cases hj : acc.toList[j]? with
    | none =>
      have h1 := List.getElem?_eq_none_iff.mp hj
      rw [List.getElem?_eq_none (by omega)]
      rfl
    | some v =>
      obtain ⟨en, hen, hv⟩ := it.2 j v (by rw [← Array.getElem?_toList]; exact hj)
      have qe := entry_at he j
      rw [hen] at qe
      cases hb : ks[j]? with
      | none => rw [hb] at qe; cases qe
      | some b =>
        rw [hb] at qe
        have e2 : en = entryOfKey (tupleKind (mixKind X.prog X.w)) b := Option.some.inj qe
        rw [hv, e2]
        rfl
  have I1 : Inv X pins σ H { s with heap := h', toks := tk } := I.kept kp
  have hdt2 : DtAll H ((ks.map fun x => x.2.1).map V.ref) (bs.map enc) := keys_dt hk (isKeys_of pr) hkeys
  have rv : Vals ((ks.map fun x => x.2.1).map V.ref) acc.toList := by rw [ea]; exact vals_refs _
  have e1 := ei_of rv hdt2
  refine wpAny_bind (wpAny_newList ?_ (by rw [ea, List.length_map, List.length_map]; omega))
  have hoL : (h'.push (seqObj "list" acc.toList.toArray 0)).get? h'.objs.size = some (seqObj "list" acc.toList.toArray 0) := Heap.get?_push_size _ rfl
  have I2 : Inv X pins σ H { s with heap := h'.push (seqObj "list" acc.toList.toArray 0), toks := tk } := I1.kept (t' := tk) fun b u e => Heap.get?_push_of_some _ e
  show wpAny _ _ _ _ _ { s with heap := h'.push (seqObj "list" acc.toList.toArray 0), toks := tk }
  refine wpAny_bind (wpAny_holding (PySem.W.list_sort_data (bs := bs) (enc := enc) hoL e1 (e1.mono fun u b z => ?er) (PySem.W.AllAlike.of S.al) (PySem.W.Sortable.tuples S.tu) (by omega) (fun b _ => ?hu) fun out ho' he' => ?hq))
  case er =>
    obtain ⟨v, r1, h1⟩ := z
    obtain ⟨as, ra⟩ := Dp.reads I1 (enc b) v u (Dt.dp _ h1) r1
    refine ⟨as, PyProof.Rows.Reads.keeps (fun _ _ e => Heap.get?_push_of_some _ e) ra, fun hm => ?_⟩
    obtain ⟨o', ho'⟩ := PyProof.On.reads_mem_get ra _ hm
    exact absurd (Heap.lt_size ho') (Nat.lt_irrefl _)
  case hu =>
    have := S.dp b
    show X.A.units + 1 + 1 + _ < _
    omega
  case hq =>
    obtain ⟨ys, rv2, hd2⟩ := of_ei he'
    obtain ⟨e', hs'⟩ := PyProof.Rows.sortedHeap_at (vs := acc.toList) (out := out.toArray) hoL
    have hlen : ys.length ≤ sizeLine := by
      have z1 := hd2.len
      rw [List.length_map, List.length_mergeSort] at z1
      omega
    refine wpAny_pure ⟨_, rfl, .ref h'.objs.size, upd H h'.objs.size (.lst ys), I1.laid (t' := tk) (fun b u e => ?_) (Nat.le_refl _) ⟨hlen, out, e', rv2, hs'⟩, rfl, q ys _ (I1.hok.fresh (Nat.le_refl _)) hd2⟩
    have hb : b < h'.objs.size := Heap.lt_size e
    rw [PyProof.Rows.sortedHeap_old (Nat.ne_of_lt hb) (by rw [size_push']; exact Nat.lt_succ_of_lt hb)]
    exact Heap.get?_push_of_some _ e
end
end HF
set_option Elab.async false
set_option linter.all false
set_option maxRecDepth 100000
set_option maxHeartbeats 4000000
namespace HF
open PySem PySem.Spec PyProof.Rows L2
/-! ### enumerate(t), t a tuple -/
theorem en_meets {v : Value} {o : Obj} {Ok : Heap → Prop} (B : Begins v o Ok) :
    Meets (Builtin.«enumerate.__new__» ⟨[.type "enumerate", v], []⟩) (fun _ R s => Ok s.heap ∧
      R (.ok (.ret (.ref (s.heap.push o).objs.size))) { s with heap := (s.heap.push o).push { cls := .type "enumerate", data := .fields #[.none, .bool false, .ref s.heap.objs.size, rawInt 0, .none, .none] } }) :=
  .of_wp fun prog w A R s h => by
    obtain ⟨hp, g, d, tk, os⟩ := s
    obtain ⟨h1, h⟩ := h
    have k1 := sub_enumerate
    have go : ∀ {A' : Around} {E : Value → Shared → Prop} {Q : Value → Shared → Prop}, Q (.ref hp.objs.size) ⟨hp.push o, g, d, tk, os⟩ →
        wpAny (model prog w) A' (pyIter v) Q E ⟨hp, g, d, tk, os⟩ := fun q => B.iter prog w _ _ ⟨hp, g, d, tk, os⟩ _ h1 q
    wp_walk using go
    refine wpAny_stack_any fun st => wpAny_pure ?_
    split
    · rename_i c _ _ _ _ _
      cases (c == Value.type "enumerate")
      all_goals
        wp_walk using go
        exact ⟨_, rfl, h⟩
    all_goals
      wp_walk using go
      exact ⟨_, rfl, h⟩
theorem en_begins {prog : Program} {w : World} {A : Around} {E : Value → Shared → Prop} {s : Shared} {v : Value} {o : Obj} {Ok : Heap → Prop} {Q : Value → Shared → Prop} (B : Begins v o Ok) (h1 : Ok s.heap)
    (h : ∀ h', IsEnum h' (s.heap.objs.size + 1) s.heap.objs.size 0 .none → h'.get? s.heap.objs.size = some o → (∀ b u, s.heap.get? b = some u → h'.get? b = some u) → Q (.ref (s.heap.objs.size + 1)) { s with heap := h' }) :
    wpAny (model prog w) A (call (.type "enumerate") [v]) Q E s := by
  refine callType_new F.called_enumerate (by decide) (F.typeCall_enumerate_1 _) (F.newCall_enumerate_1 _) (fun ob => F.args_object_init_2 ob _) F.entry_enumerate_new (en_meets B) ⟨h1, ?_⟩
  have z : (s.heap.push o).objs.size = s.heap.objs.size + 1 := Heap.size_push ..
  have e : ((s.heap.push o).push { cls := .type "enumerate", data := .fields #[.none, .bool false, .ref s.heap.objs.size, rawInt 0, .none, .none] }).get? (s.heap.objs.size + 1) =
      some { cls := .type "enumerate", data := .fields #[.none, .bool false, .ref s.heap.objs.size, rawInt 0, .none, .none] } := by
    have q := Heap.get?_push_size (s.heap.push o) (o := { cls := .type "enumerate", data := .fields #[.none, .bool false, .ref s.heap.objs.size, rawInt 0, .none, .none] }) rfl
    rw [z] at q
    exact q
  show _ ∧ _
  rw [z]
  exact ⟨⟨_, e, rfl⟩, h _ e (Heap.get?_push_of_some _ (Heap.get?_push_size _ B.free)) fun b u q => Heap.get?_push_of_some _ (Heap.get?_push_of_some _ q)⟩
/-- the tuple xs at a, each item in a new pair with its place -/
def ItE (a : Addr) (xs : List V) : It :=
  ⟨fun i H => H a = some (.tup xs) ∧ i < xs.length, fun i H v H' => ∃ T x, v = .ref T ∧ xs[i]? = some x ∧ H T = none ∧ H' = upd H T (.tup [.int (i : Nat), x]), fun i H => H a = some (.tup xs) ∧ xs.length = i⟩
theorem turn_enT {P : Program} {w : World} {K : PySem.W.Frag} {elts : List Expr} {kk : Nat} {tpos : Pos} (a e it : Addr) (xs : List V) :
    Turn P w K (.Tuple elts kk tpos) (ItE a xs) [e, it] e (fun i h => (∃ old, IsEnum h e it ((i : Nat) : Int) old) ∧ h.IsTupleIter it a i ∧ e ≠ it) where
  mem := by simp
  obj := fun i h st b hb => by
    obtain ⟨⟨old, he⟩, ⟨o, ho, hc, hd⟩, _⟩ := st
    rcases (show b = e ∨ b = it by simpa using hb) with z | z
    · subst z; exact ⟨_, he, fun v q => nomatch q⟩
    · subst z; exact ⟨o, ho, fun v q => by rw [hd] at q; cases q⟩
  keep := fun i h h' ⟨⟨old, he⟩, hi, hne⟩ k => ⟨⟨old, k e (by simp) _ he⟩, hi.at fun o q => k it (by simp) o q, hne⟩
  item := by
    intro X hP hw hK hc i pins s σ H E I hf st hg
    subst hP hw hK
    obtain ⟨⟨old, he⟩, hit, hne⟩ := st
    obtain ⟨ha, hi⟩ := hg
    obtain ⟨its, rv, p, hz⟩ := I.tuple (SqT.of ha)
    have hl := rv.length
    have nea : e ≠ a := fun z => by
      have q := (hf e (by simp)).1
      rw [z, ha] at q
      cases q
    have nia : a ≠ it := fun z => by
      have q := (hf it (by simp)).1
      rw [← z, ha] at q
      cases q
    have le : e < s.heap.objs.size := Heap.lt_size he
    have li : it < s.heap.objs.size := by obtain ⟨_, q, _⟩ := hit; exact Heap.lt_size q
    refine wpAny_pyNext_enum_itemD (Draws.tuple (by rw [Around.in1]; exact I.ok.hd hc) it a nia its.toArray) he ⟨hit, show s.heap.IsTuple a its.toArray from p⟩ (by rw [List.size_toArray]; omega) hne
      (by simp only [List.mem_cons, List.not_mem_nil, or_false, not_or]; exact ⟨hne, nea⟩) fun u h' tk hu ho ht hT hsz hk => ?_
    obtain ⟨x, hx, rx⟩ : ∃ x, xs[i]? = some x ∧ RelV x u := by
      obtain ⟨u', h1, h2⟩ := rv.get (i := i) (x := xs[i]) (by simp [hi])
      have e1 : some u' = some u := by rw [← h1]; simpa using hu
      cases e1
      exact ⟨_, by simp [hi], h2⟩
    refine ⟨_, rfl, wpAny_letOwnedTupleGo_enum (s := { s with heap := h', toks := tk + 1 }) ho fun h2 he2 sb => ?_⟩
    have hT2 : h2.get? s.heap.objs.size = some { cls := .type "tuple", data := .seq #[.int i tk, u] } := (sb.2 _ (Nat.ne_of_gt le)).trans hT
    have new : ObjOk X.prog X.w (upd H s.heap.objs.size (.tup [.int (i : Nat), x])) h2 s.heap.objs.size (.tup [.int (i : Nat), x]) :=
      ⟨by show 2 ≤ sizeLine; decide, [.int i tk, u], .cons ⟨_, rfl⟩ (.cons rx .nil), ⟨_, hT2, rfl, _, rfl⟩⟩
    have J : Inv X pins σ (upd H s.heap.objs.size (.tup [.int (i : Nat), x])) { s with heap := h2, toks := tk + 1 } :=
      I.turnedNew (ch := [e, it]) (fun b ob hb q => (sb.2 b fun z => hb (by simp [z])).trans (hk b ob (fun z => hb (by simp [z])) (fun z => hb (by simp [z])) q)) hf (Nat.le_refl _) new
    refine ⟨.ref s.heap.objs.size, _, J, rfl, ⟨_, x, rfl, hx, I.hok.fresh (Nat.le_refl _), rfl⟩, ⟨⟨u, ?_⟩, ht.1.at fun o q => (sb.2 it (Ne.symm hne)).trans q, hne⟩, fun b hb => ?_⟩
    · have e1 : ((i + 1 : Nat) : Int) = (i : Int) + 1 := by omega
      rw [e1]
      exact he2
    · have lb : b < s.heap.objs.size := by
        rcases (show b = e ∨ b = it by simpa using hb) with z | z
        · rw [z]; exact le
        · rw [z]; exact li
      rw [upd_ne (Nat.ne_of_lt lb)]
      exact (hf b hb).1
  done := by
    intro X hP hw hK hc i pins s σ H E I hf st hg
    subst hP hw hK
    obtain ⟨⟨old, he⟩, hit, hne⟩ := st
    obtain ⟨ha, hi⟩ := hg
    obtain ⟨its, rv, p, hz⟩ := I.tuple (SqT.of ha)
    have hl := rv.length
    obtain ⟨f0, f1, f2, f3, f4, f5⟩ := hf it (by simp)
    have nia : a ≠ it := fun z => by
      rw [← z, ha] at f0
      cases f0
    have e1 : its.toArray.size = i := by rw [List.size_toArray]; omega
    exact wpAny_pyNext_enum_endD (Draws.tuple (by rw [Around.in1]; exact I.ok.hd hc) it a nia its.toArray) he ⟨by rw [e1]; exact hit, show s.heap.IsTuple a its.toArray from p⟩ fun h' eb => ⟨rfl, I.turned (t' := s.toks) (fun b o hb q => eb b o hb q) f0 f1 f3 f4 f5⟩
  self := fun A i s Q E ⟨⟨_, he⟩, _⟩ h => wpAny_pyIter_enum he h
def iEnT (ta : TA) : TI := fun σ H R => ta σ H fun vs H1 => ∃ a xs, vs = [.ref a] ∧ H1 a = some (.tup xs) ∧ R (ItE a xs) H1
theorem pi_enT {X : Cx} {e : Expr} {ta : TA} {p pos tpos : Pos} {elts : List Expr} {kk : Nat} (hg : Gl X "enumerate") (hm : X.mg "enumerate" = none) (ha : PA X [e] ta)
    (hs : starEach [e] X.env = [(false, eval e X.env)] := by rfl) : PI X (.Tuple elts kk tpos) (.Call (.Name "enumerate" p) [e] [] pos) (iEnT ta) := by
  refine ⟨fun pins s σ H R I h => ?_⟩
  refine Call_ (ld_blt I hg hm boot_enumerate (PyProof.Rows.callWith_type1 (thn (ha.run pos pins s σ H _ I h) fun us s1 ⟨vs, H1, I1, r1, q1⟩ => ?_) hs rfl))
  obtain ⟨a, xs, rfl, hq, q⟩ := q1
  rw [Vals.ref1 r1]
  obtain ⟨its, rv, p', hz⟩ := I1.tuple (SqT.of hq)
  refine en_begins (begins_tuple a its.toArray) p' fun h' he hit hk => wpAny_pyIter_enum he ?_
  have J : Inv X pins σ H1 { s1 with heap := h' } := I1.kept (t' := s1.toks) hk
  refine ⟨s1.heap.objs.size + 1, [s1.heap.objs.size + 1, s1.heap.objs.size], _, _, H1, rfl, J, turn_enT a (s1.heap.objs.size + 1) s1.heap.objs.size xs, ⟨⟨.none, he⟩, ⟨_, hit, rfl, rfl⟩, Nat.succ_ne_self _⟩, fun b hb => ?_, q⟩
  have le : s1.heap.objs.size ≤ b := by
    rcases (show b = s1.heap.objs.size + 1 ∨ b = s1.heap.objs.size by simpa using hb) with z | z
    · rw [z]; exact Nat.le_succ _
    · rw [z]; exact Nat.le_refl _
  exact I1.fpOk le (I1.hok.fresh le)
theorem for_enT {a : Addr} {xs : List V} {g : TG} {tb : TS} {D : Ends} {σ : L2.St} {H : Hp} (Pv : Nat → L2.St → Hp → Prop) (h0 : Pv 0 σ H) (hl : ∀ i σ H, i ≤ xs.length → Pv i σ H → H a = some (.tup xs))
    (hs : ∀ i x T σ H, xs[i]? = some x → Pv i σ H → H T = none → g (.ref T) σ (upd H T (.tup [.int (i : Nat), x])) fun σ2 H2 => tb { D with nx := Pv (i + 1), ct := Pv (i + 1), bk := D.nx } σ2 H2) (hd : ∀ σ H, Pv xs.length σ H → D.nx σ H) :
    ∃ W : Nat → Nat → L2.St → Hp → Prop, (∃ m, W 0 m σ H) ∧ ∀ i m σ H, W i m σ H →
      ((ItE a xs).stop i H ∧ D.nx σ H) ∨ ((ItE a xs).go i H ∧ ∃ N : L2.St → Hp → Prop, (∀ σ' H', N σ' H' → ∃ m', m' < m ∧ W (i + 1) m' σ' H') ∧ ∀ x H', (ItE a xs).yld i H x H' → g x σ H' fun σ2 H2 => tb { D with nx := N, ct := N, bk := D.nx } σ2 H2) := by
  refine ⟨fun i m σ H => m = xs.length - i ∧ i ≤ xs.length ∧ Pv i σ H, ⟨xs.length, by simp, Nat.zero_le _, h0⟩, ?_⟩
  rintro i m σ H ⟨rfl, hi, p⟩
  have q := hl i σ H hi p
  by_cases c : i < xs.length
  · refine .inr ⟨⟨q, c⟩, Pv (i + 1), fun σ' H' p' => ⟨xs.length - (i + 1), by omega, rfl, c, p'⟩, ?_⟩
    rintro v H' ⟨T, x, rfl, hx, hT, rfl⟩
    exact hs i x T σ H hx p hT
  · have e : i = xs.length := by omega
    subst e
    exact .inl ⟨⟨q, rfl⟩, hd σ H p⟩
end HF
set_option Elab.async false
set_option linter.all false
set_option maxRecDepth 100000
set_option maxHeartbeats 4000000
namespace HF
open PySem PySem.Spec PyProof.Rows L2
/-! ### names' hashes -/
abbrev Nm := Int × Int
def nkey (n : Nm) : List Key := [.inl n.1, .inl n.2]
/-- a name of at most eight houses, numbers below a hundred -/
def Small (n : Nm) : Prop := 0 ≤ n.1 ∧ n.1 < 8 ∧ 0 ≤ n.2 ∧ n.2 < 100
def nhash (h n : Nat) : Int := reduceHash (Builtin.Tuple.tupleHashOf [hashInt (h : Int), hashInt (n : Int)])
theorem nhash_eq (P : Program) (w : World) {n : Nm} (s : Small n) : (tupleKind (mixKind P w)).hash (nkey n) = nhash n.1.toNat n.2.toNat := by
  obtain ⟨a, b⟩ := n
  obtain ⟨h1, h2, h3, h4⟩ := s
  have e1 : ((a.toNat : Nat) : Int) = a := Int.toNat_of_nonneg h1
  have e2 : ((b.toNat : Nat) : Int) = b := Int.toNat_of_nonneg h3
  show reduceHash (Builtin.Tuple.tupleHashOf [hashInt a, hashInt b]) = reduceHash (Builtin.Tuple.tupleHashOf [hashInt ((a.toNat : Nat) : Int), hashInt ((b.toNat : Nat) : Int)])
  rw [e1, e2]
/-- each residue met once -/
def apart (m : Nat) : List Nat → Nat → Bool
  | [], _ => true
  | x :: r, seen => !(seen.testBit (x % m)) && apart m r (seen ||| (1 <<< (x % m)))
def hnat (k : Nat) : Nat := ((nhash (k / 100) (k % 100)) + 2 ^ 64).toNat
def hnats : List Nat := (List.range 800).map hnat
theorem apart_ok (m : Nat) : ∀ (l : List Nat) (seen : Nat), apart m l seen = true → (∀ x ∈ l, seen.testBit (x % m) = false) ∧ l.Nodup
  | [], _, _ => ⟨fun _ h => (nomatch h), List.nodup_nil⟩
  | x :: r, seen, h => by
    unfold apart at h
    obtain ⟨h1, h2⟩ := Bool.and_eq_true_iff.mp h
    obtain ⟨k1, k2⟩ := apart_ok m r _ h2
    have e1 : seen.testBit (x % m) = false := by simpa using h1
    refine ⟨fun y hy => ?_, List.nodup_cons.mpr ⟨fun hx => ?_, k2⟩⟩
    · rcases List.mem_cons.mp hy with e | e
      · rw [e]; exact e1
      · have q := k1 y e
        rw [Nat.testBit_or, Bool.or_eq_false_iff] at q
        exact q.1
    · have q := k1 x hx
      rw [Nat.testBit_or, Bool.or_eq_false_iff] at q
      have z : (1 <<< (x % m)).testBit (x % m) = true := by
        rw [Nat.testBit_shiftLeft]
        simp
      rw [z] at q
      exact nomatch q.2
theorem hnats_apart : apart 4512 hnats 0 = true := by decide +kernel
theorem hnats_none : (hnats.contains (0xFCA86420 + 2 ^ 64)) = false := by decide +kernel
theorem hnats_low : (List.range 800).all (fun k => decide (-(2 ^ 64 : Int) ≤ nhash (k / 100) (k % 100))) = true := by decide +kernel
def nidx (n : Nm) : Nat := n.1.toNat * 100 + n.2.toNat
theorem nidx_lt {n : Nm} (s : Small n) : nidx n < 800 := by
  obtain ⟨h1, h2, h3, h4⟩ := s
  unfold nidx
  omega
theorem nidx_inj {a b : Nm} (sa : Small a) (sb : Small b) (h : nidx a = nidx b) : a = b := by
  obtain ⟨a1, a2⟩ := a
  obtain ⟨b1, b2⟩ := b
  obtain ⟨h1, h2, h3, h4⟩ := sa
  obtain ⟨g1, g2, g3, g4⟩ := sb
  unfold nidx at h
  simp only at h h1 h2 h3 h4 g1 g2 g3 g4
  have e1 : a1 = b1 := by omega
  have e2 : a2 = b2 := by omega
  rw [e1, e2]
theorem nhash_idx {n : Nm} (s : Small n) : nhash n.1.toNat n.2.toNat = nhash (nidx n / 100) (nidx n % 100) := by
  obtain ⟨h1, h2, h3, h4⟩ := s
  have e1 : nidx n / 100 = n.1.toNat := by unfold nidx; omega
  have e2 : nidx n % 100 = n.2.toNat := by unfold nidx; omega
  rw [e1, e2]
theorem hnat_inj {i j : Nat} (hi : i < 800) (hj : j < 800) (h : hnat i = hnat j) : i = j := by
  have nd := (apart_ok 4512 hnats 0 hnats_apart).2
  have e1 : hnats[i]'(by simp [hnats, hi]) = hnat i := by simp [hnats]
  have e2 : hnats[j]'(by simp [hnats, hj]) = hnat j := by simp [hnats]
  exact (List.getElem_inj nd).mp (by rw [e1, e2]; exact h)
theorem nhash_low {k : Nat} (h : k < 800) : -(2 ^ 64 : Int) ≤ nhash (k / 100) (k % 100) := by
  have q := List.all_eq_true.mp hnats_low k (List.mem_range.mpr h)
  exact of_decide_eq_true q
theorem nhash_inj {a b : Nm} (sa : Small a) (sb : Small b) (h : nhash a.1.toNat a.2.toNat = nhash b.1.toNat b.2.toNat) : a = b := by
  rw [nhash_idx sa, nhash_idx sb] at h
  refine nidx_inj sa sb (hnat_inj (nidx_lt sa) (nidx_lt sb) ?_)
  unfold hnat
  rw [h]
theorem nhash_none {n : Nm} (s : Small n) : nhash n.1.toNat n.2.toNat ≠ 0xFCA86420 := fun h => by
  rw [nhash_idx s] at h
  have e : hnat (nidx n) = 0xFCA86420 + 2 ^ 64 := by
    unfold hnat
    rw [h]
    decide
  have m : hnat (nidx n) ∈ hnats := List.mem_map.mpr ⟨_, List.mem_range.mpr (nidx_lt s), rfl⟩
  rw [e] at m
  have q := hnats_none
  rw [List.contains_iff_mem.mpr m] at q
  cases q

/-! ### None in d, d a dict of names -/
section
variable {X : Cx} {pins : List (Addr × Obj)} {σ : L2.St} {H : Hp} {s : Shared} {a : Addr} {kvs : List (List Key × V)} {A : Around} {E : Value → Shared → Prop}
theorem KT.keys {xs : List (List Key × Addr × Value)} {kvs : List (List Key × V)} (r : KT H kvs xs) : xs.map (·.1) = kvs.map (·.1) := by
  induction r with
  | nil => rfl
  | cons h t ih => rw [List.map_cons, List.map_cons, ih, h.1]
theorem dictGet_none {ns : List Nm} {Q : Option Value → Shared → Prop} (I : Inv X pins σ H s) (e : Rd H a (.dT kvs)) (hk : kvs.map (·.1) = ns.map nkey) (hs : ∀ n ∈ ns, Small n)
    (h : ∀ tk, Q none { s with toks := tk }) : wpAny (model X.prog X.w) A (dictGet a .none) Q E s := by
  obtain ⟨z, hd, xs, rel, ⟨o, es, ep, ho, hc, hdt, he, his, hn⟩⟩ := dt_rd I.hok e
  have ek := (KT.keys rel).trans hk
  have far : ∀ i : Nat, ((es[i]?).map (fun e : DictEntry => e.hash) == some (0xFCA86420 : Int)) = false := fun i => by
    rw [entry_at he i]
    cases q : xs[i]? with
    | none => rfl
    | some x =>
      have hx : x.1 ∈ xs.map (·.1) := List.mem_map.mpr ⟨x, List.mem_of_getElem? q, rfl⟩
      rw [ek] at hx
      obtain ⟨n, hnn, en⟩ := List.mem_map.mp hx
      have q2 : (tupleKind (mixKind X.prog X.w)).hash x.1 = nhash n.1.toNat n.2.toNat := by rw [← en]; exact nhash_eq X.prog X.w (hs n hnn)
      have q3 := nhash_none (hs n hnn)
      show (some ((tupleKind (mixKind X.prog X.w)).hash x.1) == some (0xFCA86420 : Int)) = false
      rw [q2]
      exact beq_eq_false_iff_ne.mpr fun z => q3 (Option.some.inj z)
  have nopl : placesWithHash es.size (fun i : Nat => (es[i]?).map (fun e : DictEntry => e.hash)) 0xFCA86420 = [] := by
    unfold placesWithHash
    rw [List.filter_eq_nil_iff]
    intro i _
    rw [far i]
    exact Bool.false_ne_true
  unfold dictGet
  try with_reducible refine wpAny_holding ?_
  refine wpAny_bind (PySem.W.pyHash_slot (T := "NoneType") rfl PySem.F.slot_NoneType_hash PySem.F.entry_NoneType_hash (PySem.F.args_NoneType_hash_1 _) (beq_builtin_none _) (.inl rfl)
    (wpAny_bind (wpAny_pure (wpAny_bind (wpAny_mkInt (wpAny_pure ⟨_, _, rfl, ?_⟩))))))
  refine wpAny_bind ?_
  unfold dictFind
  try with_reducible refine wpAny_holding ?_
  refine wpAny_bind (wpAny_dictEntries ho hdt ?_)
  dsimp only
  have er : reduceHash 0xFCA86420 = 0xFCA86420 := by decide
  rw [er, nopl, List.filterMap_nil, if_pos (by simp [carriedByValue])]
  unfold dictWalkPlain
  exact wpAny_bind (wpAny_pure (wpAny_pure (wpAny_pure (h _))))
theorem d_inNon {ns : List Nm} {Q : Value → Shared → Prop} (I : Inv X pins σ H s) (e : Rd H a (.dT kvs)) (hk : kvs.map (·.1) = ns.map nkey) (hs : ∀ n ∈ ns, Small n)
    (h : ∀ tk, Q (.bool false) { s with toks := tk }) : wpAny (model X.prog X.w) A (compareOp .In .none (.ref a)) Q E s := by
  obtain ⟨z, hd, xs, rel, dd⟩ := dt_rd I.hok e
  show wpAny _ _ (do return .bool (← contains (.ref a) .none)) Q E s
  refine wpAny_bind ?_
  unfold contains
  try with_reducible refine wpAny_holding ?_
  refine wpAny_bind (wpAny_specialOf dd.typeIs slot_dict_contains.lookup ?_)
  show wpAny _ _ (if (some (Value.builtin "dict.__contains__") == some Value.none) = true then _ else _) _ E s
  rw [if_neg (by rw [beq_builtin_none]; exact Bool.false_ne_true)]
  refine wpAny_bind (wpAny_callSpecialUnlessNone?_slot (name := Str.ofString "__contains__") dd.typeIs slot_dict_contains
    (wpAny_call_entry slot_dict_contains dd.typeIs entry_dict_contains ?_ (args_dict_contains _ _)))
  show wpAny _ _ (dictGet a .none >>= _) _ _ s
  refine wpAny_bind (dictGet_none I e hk hs fun tk => ?_)
  show wpAny _ _ (Builtin.Dict.pendingKey? a .none >>= _) _ _ _
  exact wpAny_bind (wpAny_pendingKey_other hd (wpAny_pure ⟨_, rfl, wpAny_truthy_bool (wpAny_pure (h _))⟩))
end
/-- y in d: a name, or None -/
def tInU (ty td : TE) : TE := fun σ H Q => ty σ H fun y H1 => td σ H1 fun x H2 => (∃ a o, x = .ref a ∧ DGet H2 a y o ∧ Q (.bl o.isSome) H2) ∨
  ∃ a kvs ns, x = .ref a ∧ y = .non ∧ Rd H2 a (.dT kvs) ∧ kvs.map (·.1) = List.map nkey ns ∧ (∀ n ∈ ns, Small n) ∧ Q (.bl false) H2
theorem pc_inU {X : Cx} {o i : Expr} {td ty : TE} (hu : X.A.units + 1 < cLine) (hi : PE X i ty) (ho : PE X o td) : PC X .In i o (tInU ty td) := by
  refine ⟨fun pins s σ H Q I h => ?_⟩
  refine thn (hi.run pins s σ H _ I h) fun iv s1 ⟨y, H1, I1, ry, q1⟩ => thn (ho.run pins s1 σ H1 _ I1 q1) fun u s2 ⟨x, H2, I2, rx, q2⟩ => ?_
  rcases q2 with ⟨a, ov, rfl, g, q2⟩ | ⟨a, kvs, ns, rfl, rfl, g, hk, hs, q2⟩
  · obtain rfl : u = Value.ref a := rx
    exact d_in hu I2 g ry fun s3 I3 => ⟨.bl ov.isSome, H2, I3, rfl, q2⟩
  · obtain rfl : u = Value.ref a := rx
    obtain rfl : iv = Value.none := ry
    exact d_inNon I2 g hk hs fun tk => ⟨.bl false, H2, I2.tok tk, rfl, q2⟩
/-! ### dict(d), d.update(e), d != {}, {name: v} -/
section
variable {X : Cx}
theorem storedAll_nil {K : Type} [DecidableEq K] : ∀ (xs acc : List (K × Addr × Value)), ((acc ++ xs).map (·.1)).Nodup → storedAllH acc xs = acc ++ xs
  | [], acc, _ => by simp [storedAllH]
  | x :: xs, acc, h => by
    have hx : atKey acc x.1 = none := by
      unfold atKey
      rw [Option.map_eq_none_iff, List.find?_eq_none]
      intro y hy e
      have e' : y.1 = x.1 := of_decide_eq_true e
      rw [List.map_append, List.nodup_append] at h
      exact h.2.2 y.1 (List.mem_map.mpr ⟨y, hy, rfl⟩) x.1 (List.mem_map.mpr ⟨x, List.mem_cons_self, rfl⟩) e'
    have e1 : storedH acc x.1 x.2.1 x.2.2 = acc ++ [x] := storedH_new hx _ _
    have ih := storedAll_nil xs (acc ++ [x]) (by rw [List.append_assoc]; exact h)
    unfold storedAllH at ih ⊢
    rw [List.foldl_cons, e1, ih, List.append_assoc]
    rfl
theorem nodup_maps {α β γ : Type} (g : α → β) (f : β → γ) : ∀ {ns : List α}, ns.Nodup → (∀ a ∈ ns, ∀ b ∈ ns, f (g a) = f (g b) → a = b) → ((ns.map g).map f).Nodup
  | [], _, _ => List.nodup_nil
  | n :: r, nd, h => by
    rw [List.nodup_cons] at nd
    rw [List.map_cons, List.map_cons, List.nodup_cons]
    refine ⟨fun hm => ?_, nodup_maps g f nd.2 fun a ha b hb => h a (List.mem_cons_of_mem _ ha) b (List.mem_cons_of_mem _ hb)⟩
    obtain ⟨y, hy, e⟩ := List.mem_map.mp hm
    obtain ⟨m, hm, rfl⟩ := List.mem_map.mp hy
    exact nd.1 (h m (List.mem_cons_of_mem _ hm) n List.mem_cons_self e ▸ hm)
theorem small_apart (P : Program) (w : World) {ns : List Nm} (nd : ns.Nodup) (hs : ∀ n ∈ ns, Small n) : ((ns.map nkey).map (tupleKind (mixKind P w)).hash).Nodup :=
  nodup_maps nkey _ nd fun a ha b hb e => nhash_inj (hs a ha) (hs b hb) ((nhash_eq P w (hs a ha)).symm.trans (e.trans (nhash_eq P w (hs b hb))))
def rDictD : List V → Hp → VK → Prop := fun xs H Q => ∃ (a : Addr) (kvs : List (List Key × V)) (ns : List Nm), xs = [.ref a] ∧ Rd H a (.dT kvs) ∧ kvs.map (·.1) = ns.map nkey ∧ ns.Nodup ∧ (∀ n ∈ ns, Small n) ∧
  ∀ p, H p = none → Q (.ref p) (upd H p (.dT kvs))
theorem cr_dictD (hu : X.A.units + 64 < cLine) : CallR X (.type "dict") rDictD := by
  intro pins s σ H xs us Q I r h
  obtain ⟨a, kvs, ns, rfl, hd, hk, nd, hs, q⟩ := h
  rw [Vals.ref1 r]
  obtain ⟨z, lo, ks, rel, dd⟩ := dt_rd I.hok hd
  have ek := (KT.keys rel).trans hk
  have hl : kvs.length = ks.length := Paired.length rel
  refine callType_codes (Q₁ := fun ob s1 => ob = .ref s.heap.objs.size ∧ s1 = { s with heap := s.heap.push { cls := .type "dict", data := .dict #[] } }) F.kt_called_dict (F.kt_typeCall_dict_1 _) F.entry_dict_init (kt_code_dict_new _ ⟨rfl, rfl⟩) ?_
  rintro ob s1 ⟨rfl, rfl⟩
  have hnew : (s.heap.push { cls := .type "dict", data := .dict #[] }).DictOfH (tupleKind (mixKind X.prog X.w)) s.heap.objs.size [] := Heap.DictOfH.new s.heap
  have hold : (s.heap.push { cls := .type "dict", data := .dict #[] }).DictOfH (tupleKind (mixKind X.prog X.w)) a ks := by
    obtain ⟨o, es, ep, h1, h2, h3, h4, h5, h6⟩ := id dd
    refine ⟨o, es, ep, Heap.get?_push_of_some _ h1, h2, h3, h4, fun x hx => ?_, h6⟩
    obtain ⟨o', its, n, g1, g2, g3, g4⟩ := h5 x hx
    exact ⟨o', its, n, Heap.get?_push_of_some _ g1, g2, g3, g4⟩
  have ne : s.heap.objs.size ≠ a := by
    obtain ⟨_, _, _, hg, _⟩ := id dd
    exact fun e => absurd (Heap.lt_size hg) (by rw [e]; exact Nat.lt_irrefl _)
  refine ⟨hnew.typeIs, F.args_dict_init_2 _ _, ?_⟩
  unfold Builtin.«dict.__init__»
  refine wpAny_bind ?_
  unfold Builtin.Dict.selfAndRest
  refine wpAny_bind (wpAny_notOrdered_dict hnew.typeIs ?_)
  refine wpAny_pure ?_
  show wpAny _ _ (Builtin.Dict.updateFrom "dict.__init__" s.heap.objs.size (.ref a) [] .none) _ _ _
  have hap : (ks.map fun x => (tupleKind (mixKind X.prog X.w)).hash x.1).Nodup := by
    have q := small_apart X.prog X.w nd hs
    rw [← ek, List.map_map] at q
    exact q
  have hty : ∀ x ∈ ks, ({ s with heap := s.heap.push { cls := .type "dict", data := .dict #[] } } : Shared).TypeIs (.ref x.2.1) "tuple" := fun x hx => by
    obtain ⟨_, _, _, _, _, _, _, his, _⟩ := hold
    obtain ⟨o', its, n, g1, g2, _⟩ := his x hx
    exact ⟨o', g1, g2⟩
  have room : X.A.in1.in1.units < cLine := by
    show X.A.units + 1 + 1 < cLine
    omega
  refine updateFrom_dictH (A := X.A.in1) (knd := tupleKind (mixKind X.prog X.w)) .none room ne lo hnew hold (.inr ⟨hty, hap⟩) (by rw [List.length_nil]; omega) fun h' hd' ho' hs' => ⟨rfl, ?_⟩
  have hn : (ks.map (·.1)).Nodup := by obtain ⟨_, _, _, _, _, _, _, _, hn⟩ := dd; exact hn
  rw [storedAll_nil ks [] (by simpa using hn), List.nil_append] at hd'
  have hfr : H s.heap.objs.size = none := I.hok.fresh (Nat.le_refl _)
  have big : (s.heap.objs.size == sysModules) = false := beq_eq_false_iff_ne.mpr (Nat.ne_of_gt I.big)
  have new : ObjOk X.prog X.w (upd H s.heap.objs.size (.dT kvs)) h' s.heap.objs.size (.dT kvs) := by
    obtain ⟨o, es, ep, h1, h2, h3, h4, h5, h6⟩ := hd'
    exact ⟨z, big, ks, KT.keeps rel fun b ys e => by rw [upd_ne (ne_of_none e hfr)]; exact e, o, es, ep, h1, h2, h3, h4, h6⟩
  exact ⟨.ref s.heap.objs.size, upd H s.heap.objs.size (.dT kvs), I.laid (t' := s.toks) (fun b u e => (hs'.2 b (Nat.ne_of_lt (Heap.lt_size e))).trans (Heap.get?_push_of_some _ e)) (Nat.le_refl _) new, rfl, q _ hfr⟩
/-- what d holds behind d.update(e) -/
def mergeT (kvs more : List (List Key × V)) : List (List Key × V) := more.foldl (fun acc kv => putK acc kv.1 kv.2) kvs
theorem KT.merge {H : Hp} : ∀ {more : List (List Key × V)} {ys : List (List Key × Addr × Value)} {kvs : List (List Key × V)} {xs : List (List Key × Addr × Value)}, KT H more ys → KT H kvs xs → KT H (mergeT kvs more) (storedAllH xs ys)
  | _, _, _, _, .nil, q => q
  | _, _, _, _, .cons h t, q => by
    obtain ⟨h1, h2, h3⟩ := h
    unfold mergeT storedAllH
    rw [List.foldl_cons, List.foldl_cons, ← h1]
    exact KT.merge t (KT.put q _ h2 h3)
theorem length_mergeT (more : List (List Key × V)) : ∀ kvs : List (List Key × V), (mergeT kvs more).length ≤ kvs.length + more.length := by
  induction more with
  | nil => intro kvs; exact Nat.le_refl _
  | cons kv r ih =>
    intro kvs
    have h1 := ih (putK kvs kv.1 kv.2)
    have h2 : (putK kvs kv.1 kv.2).length ≤ kvs.length + 1 := by
      unfold putK
      split
      · simp
      · simp
    rw [List.length_cons]
    show (mergeT (putK kvs kv.1 kv.2) r).length ≤ _
    omega
def rUpdD : V → List V → Hp → VK → Prop := fun x vs H Q => ∃ (a b : Addr) (kvs more : List (List Key × V)), x = .ref a ∧ vs = [.ref b] ∧ H a = some (.dT kvs) ∧ Rd H b (.dT more) ∧ a ≠ b ∧ kvs ≠ [] ∧ kvs.length + more.length ≤ sizeLine ∧
  Q .non (upd H a (.dT (mergeT kvs more)))
theorem mt_updD (hu : X.A.units + 64 < cLine) : MtR X "dict.update" rUpdD := by
  intro pins s σ H x vs v us Q I rx rv h
  obtain ⟨a, b, kvs, more, rfl, rfl, ha, hb, hne, hnn, hz, q⟩ := h
  cases rx
  obtain ⟨u, rfl, ru⟩ := rv.one
  cases ru
  obtain ⟨z1, lo1, xs, rel1, d1⟩ := dt_rd I.hok (.inl ha)
  obtain ⟨z2, lo2, ys, rel2, d2⟩ := dt_rd I.hok hb
  have l1 : kvs.length = xs.length := Paired.length rel1
  have l2 : more.length = ys.length := Paired.length rel2
  refine call_update_dictH (knd := tupleKind (mixKind X.prog X.w)) (by show X.A.units + 1 < cLine; omega) hne lo2 d1 d2 (.inl fun e => hnn (by rw [e] at l1; exact List.length_eq_zero_iff.mp l1)) (by omega) fun h' hd' ho' hs' => ?_
  have he : ∃ o, h'.get? a = some o := let ⟨o, _, _, e, _⟩ := hd'; ⟨o, e⟩
  have new : ObjOk X.prog X.w (upd H a (.dT (mergeT kvs more))) h' a (.dT (mergeT kvs more)) := by
    obtain ⟨o, es, ep, h1, h2, h3, h4, h5, h6⟩ := hd'
    refine ⟨Nat.le_trans (length_mergeT more kvs) hz, lo1, _, KT.keeps (KT.merge rel2 rel1) fun c ws e => ?_, o, es, ep, h1, h2, h3, h4, h6⟩
    rw [upd_ne fun e2 => by rw [e2, ha] at e; cases e]
    exact e
  exact ⟨.non, _, I.write (x := a) (e := a) (t' := s.toks) (by rw [ha]; trivial) (.inl rfl) (fun c u hc hq => (hs'.2 c hc).trans hq) he new, rfl, q⟩
/-- d != {} -/
def rNeMt : R2 := fun x y H Q => ∃ (a b : Addr) (kvs : List (List Key × V)), x = .ref a ∧ y = .ref b ∧ Rd H a (.dT kvs) ∧ H b = some (.dT []) ∧ Q (.bl (!kvs.isEmpty)) H
theorem op_neMt (hu : X.A.units + 64 < cLine) : OpR X (compareOp .NotEq) rNeMt := by
  intro pins s σ H x y v u Q I rx ry h
  obtain ⟨a, b, kvs, rfl, rfl, ha, hb, q⟩ := h
  cases rx
  cases ry
  obtain ⟨z1, lo1, xs, rel1, d1⟩ := dt_rd I.hok ha
  obtain ⟨z2, lo2, ys, rel2, d2⟩ := dt_rd I.hok (.inl hb)
  cases rel2
  have l1 : kvs.length = xs.length := Paired.length rel1
  obtain ⟨o1, es1, ep1, g1, g2, g3, g4, _⟩ := id d1
  obtain ⟨o2, es2, ep2, k1, k2, k3, k4, _⟩ := id d2
  have n1 : es1.size = kvs.length := by rw [size_of_entries g4, l1]
  have n2 : es2.size = 0 := by rw [size_of_entries k4]; rfl
  refine wpAny_richCompare_same_room (op := .NotEq) d1.typeIs d2.typeIs PySem.F.slot_dict_ne (wpAny_call_entry PySem.F.slot_dict_ne d1.typeIs PySem.F.entry_dict_ne ?_ (PySem.F.args_dict_ne_2 _ _)) (by omega)
  show wpAny _ _ (Builtin.Dict.dictSlotArgs "__ne__" ⟨[.ref a, .ref b], []⟩ >>= _) _ _ s
  refine wpAny_bind ?_
  unfold Builtin.Dict.dictSlotArgs
  refine wpAny_bind (wpAny_notOrdered_dict d1.typeIs (wpAny_pure ?_))
  refine wpAny_bind (wpAny_isInstance (T := "dict") d2.typeIs PySem.F.sub_dict_dict ?_)
  simp only [Bool.not_true, Bool.false_eq_true, if_false]
  refine wpAny_bind (wpAny_pure (wpAny_bind (wpAny_pure ?_)))
  have fin : ∀ r, r = kvs.isEmpty → wpAny (model X.prog X.w) X.A.in1 (ret (.bool (r == false))) (fun fin s' => ∃ v, fin = .done (.ret v) ∧ v ≠ .notImplemented ∧ EP X pins σ Q v s') X.xe s := fun r e =>
    wpAny_pure ⟨_, rfl, (fun z => nomatch z), .bl (!kvs.isEmpty), H, I, by rw [e]; cases kvs.isEmpty <;> rfl, q⟩
  refine wpAny_bind ?_
  unfold Builtin.Dict.samePairs Builtin.Dict.showsAll
  rw [if_neg (by rw [lo1]; exact Bool.false_ne_true), if_neg (by rw [lo2]; exact Bool.false_ne_true)]
  refine wpAny_bind (wpAny_pure (wpAny_bind (wpAny_pure ?_)))
  refine wpAny_bind (wpAny_dictEntries g1 g3 ?_)
  dsimp only
  refine wpAny_bind (wpAny_dictEntries k1 k3 ?_)
  rw [n1, n2]
  cases kvs with
  | nil =>
    rw [if_neg (by simp)]
    refine wpAny_bind (wpAny_dictEpoch g1 g3 ?_)
    refine wpAny_bind ?_
    rw [List.length_nil, Std.Legacy.Range.forIn_eq_forIn_range']
    exact wpAny_pure (wpAny_pure (fin _ rfl))
  | cons kv r =>
    rw [if_pos (by simp)]
    exact wpAny_bind (wpAny_rule (wpAny_pure (fin _ rfl)))
/-- {name: v} -/
def tDisp1 (tk tv : TE) : TE := fun σ H Q => ∀ p, H p = none → tk σ (upd H p (.dT [])) fun x H1 => tv σ H1 fun y H2 => H2 p = some (.dT []) ∧ ∃ (b : Addr) (n : Nm), x = .ref b ∧ H2 b = some (.tup ((nkey n).map kV)) ∧ Q (.ref p) (upd H2 p (.dT [(nkey n, y)]))
theorem pe_disp1 {k v : Expr} {tk tv : TE} {pos : Pos} (hu : X.A.units + 64 < cLine) (hk : PE X k tk) (hv : PE X v tv) : PE X (.Dict [some k] [v] pos) (tDisp1 tk tv) := by
  refine ⟨fun pins s σ H Q I q => ?_⟩
  have hn := I.hok.fresh (Nat.le_refl s.heap.objs.size)
  have I1 := I.laid (a := s.heap.objs.size) (o := .dT []) (h' := s.heap.push { cls := .type "dict", data := .dict #[] }) (t' := s.toks) (fun _ _ q => Heap.get?_push_of_some _ q) (Nat.le_refl _) (dt_empty s.heap I.big)
  have PP : PPs X pos [some k] [v] [(tk, tv)] := pps_cons hk hv pps_nil
  rw [arm_eval_Dict, zip_pairTrees [some k] [v] X.env pos rfl rfl, dictDisplay_pairs _ (by
    intro e
    have z := pairTrees_length [some k] [v] X.env pos rfl rfl
    rw [e] at z
    cases z) (by rw [pairTrees_length [some k] [v] X.env pos rfl rfl]; exact (by decide : 1 < 17))]
  have room : X.A.units < cLine := by omega
  refine wpAny_bind (wpAny_standAt (wpAny_bind (wpAny_subDictH (knd := tupleKind (mixKind X.prog X.w)) room (by rw [pairTrees_length [some k] [v] X.env pos rfl rfl]; exact (by decide : 1 ≤ 15)) ?_)))
  refine thn (PP.run pins _ σ _ (fun ps H2 => match ps with
    | [(x, y)] => H2 s.heap.objs.size = some (.dT []) ∧ ∃ (b : Addr) (n : Nm), x = .ref b ∧ H2 b = some (.tup ((nkey n).map kV)) ∧ Q (.ref s.heap.objs.size) (upd H2 s.heap.objs.size (.dT [(nkey n, y)]))
    | _ => False) I1 (q _ hn)) fun ws s2 ⟨ps, H2, I2, rel, q2⟩ => ?_
  match ps, q2 with
  | [(x, y)], ⟨e2, b, n, e3, e4, q3⟩ =>
    subst e3
    obtain ⟨u1, u2, rfl, rx, ry⟩ : ∃ u1 u2, ws = [(u1, u2)] ∧ RelV (.ref b) u1 ∧ RelV y u2 := by
      cases rel with
      | cons rr r0 =>
        cases r0
        exact ⟨_, _, rfl, rr.1, rr.2⟩
    cases (show u1 = Value.ref b from rx)
    obtain ⟨z, lo, xs, r1, dd⟩ := dt_rd I2.hok (.inl e2)
    cases r1
    refine ⟨[(nkey n, b, u2)], ⟨rfl, rfl, key_of I2.hok e4, trivial⟩, dd, fun h' tk hd' hs' => ?_⟩
    have he : ∃ o, h'.get? s.heap.objs.size = some o := let ⟨o, _, _, e, _⟩ := hd'; ⟨o, e⟩
    have e5 : storedAllH [] [(nkey n, b, u2)] = [(nkey n, b, u2)] := storedAll_nil _ [] (by simp)
    rw [e5] at hd'
    have new : ObjOk X.prog X.w (upd H2 s.heap.objs.size (.dT [(nkey n, y)])) h' s.heap.objs.size (.dT [(nkey n, y)]) := by
      obtain ⟨o, es, ep, h1, h2, h3, h4, h5, h6⟩ := hd'
      refine ⟨by show 1 ≤ sizeLine; decide, lo, _, .cons ⟨rfl, ?_, ry⟩ .nil, o, es, ep, h1, h2, h3, h4, h6⟩
      rw [upd_ne fun e6 => by rw [show b = s.heap.objs.size from e6, e2] at e4; cases e4]
      exact e4
    exact wpAny_pure ⟨.ref s.heap.objs.size, _, I2.write (x := s.heap.objs.size) (e := s.heap.objs.size) (t' := tk) (by rw [e2]; trivial) (.inl rfl) (fun c u hc hq => (hs'.2 c hc).trans hq) he new, rfl, q3⟩
end
end HF
set_option Elab.async false
set_option linter.all false
set_option maxRecDepth 100000
set_option maxHeartbeats 4000000
namespace HF
open PySem PySem.Spec PyProof.Rows L2
/-! ### a def that may be called: by its name, as a method -/
section
variable {X : Cx} {P : Program} {w : World} {K : PySem.W.Frag} {mg : Str → Option Value} {base : Heap}
structure Cal (P : Program) (w : World) (K : PySem.W.Frag) (mg : Str → Option Value) (base : Heap) (x : Str) (ps : List Str) (k : Nat) (sp : Sp) : Prop where
  ex : ∃ f fd, mg x = some (.ref f) ∧ PySem.W.keepIn K (.ref f) = true ∧ Binds K fd ps [] ∧ FnOk P w K mg base CX0 k f fd ps sp
structure CalM (P : Program) (w : World) (K : PySem.W.Frag) (mg : Str → Option Value) (base : Heap) (C : Addr) (m : Str) (ps : List Str) (k : Nat) (sp : Sp) : Prop where
  ex : ∃ f fd, Meth K C m f ∧ Binds K fd ps [] ∧ FnOk P w K mg base CX0 k f fd ps sp
theorem Cal.up {x : Str} {ps : List Str} {j k : Nat} {sp : Sp} (c : Cal P w K mg base x ps j sp) (h : j ≤ k) : Cal P w K mg base x ps k sp := by
  obtain ⟨f, fd, a, b, d, F⟩ := c.ex
  exact ⟨f, fd, a, b, d, F.mono h⟩
abbrev XCal (X : Cx) (x : Str) (ps : List Str) (k : Nat) (sp : Sp) : Prop := Cal X.prog X.w X.K X.mg X.base x ps k sp
abbrev XCalM (X : Cx) (C : Addr) (m : Str) (ps : List Str) (k : Nat) (sp : Sp) : Prop := CalM X.prog X.w X.K X.mg X.base C m ps k sp
/-- f(..) -/
theorem pe_cal {x : Str} {ps : List Str} {k : Nat} {sp : Sp} {p pos : Pos} {e : Expr} {es : List Expr} {t : TA} (c : XCal X x ps k sp) (hr : Room k X.A) (hx : Passes CX0 X E0) (ha : PA X (e :: es) t) (hg : Gl X x := by rfl)
    (hdb : (x == ("__debug__" : Str)) = false := by decide) (he : starEach (e :: es) X.env = (false, eval e X.env) :: starEach es X.env := by rfl) (hpl : (backTo pos (starEach es X.env)).any (·.1) = false := by rfl) :
    PE X (.Call (.Name x p) (e :: es) [] pos) (tCall sp [] E0 t) := by
  obtain ⟨f, fd, a, b, d, F⟩ := c.ex
  exact pe_call F hr hg a b d .nil hx ha hdb he hpl
theorem pe_calM {pl : Sem Bool} {o e : Expr} {es : List Expr} {ta : TE} {t : TA} {C : Addr} {m : Str} {ps : List Str} {k : Nat} {sp : Sp} {pos apos : Pos} (c : XCalM X C m ps k sp) (hr : Room k X.A) (hx : Passes CX0 X E0) (hC : Cls X.K C) (he : PE X o ta) (ha : PA X (e :: es) t)
    (hst : starEach (e :: es) X.env = (false, eval e X.env) :: starEach es X.env := by rfl) (hpl : (backTo pos (starEach es X.env)).any (·.1) = false := by rfl)
    (ht : eval (.Call (.Attribute o m apos) (e :: es) [] pos) X.env = (do
      let ov ← eval o X.env
      standAt apos.atName
      let (f, first) ← holding [ov] (getMethod ov m pl)
      callWith pos f first (backTo pos (starEach (e :: es) X.env)) (backToKw pos (keywordEach [] X.env))) := by rfl) :
    PE X (.Call (.Attribute o m apos) (e :: es) [] pos) (tMeth C m sp [] E0 ta t) := by
  obtain ⟨f, fd, a, b, F⟩ := c.ex
  exact pe_meth (pl := pl) he hC a F hr b .nil hx ha hst hpl ht
theorem pe_calM0 {pl : Sem Bool} {o : Expr} {ta : TE} {C : Addr} {m : Str} {ps : List Str} {k : Nat} {sp : Sp} {pos apos : Pos} (c : XCalM X C m ps k sp) (hr : Room k X.A) (hx : Passes CX0 X E0) (hC : Cls X.K C) (he : PE X o ta)
    (ht : eval (.Call (.Attribute o m apos) [] [] pos) X.env = (do
      let ov ← eval o X.env
      standAt apos.atName
      let (f, first) ← holding [ov] (getMethod ov m pl)
      callWith pos f first (backTo pos (starEach [] X.env)) (backToKw pos (keywordEach [] X.env))) := by rfl) :
    PE X (.Call (.Attribute o m apos) [] [] pos) (tMeth C m sp [] E0 ta tNil) := by
  obtain ⟨f, fd, a, b, F⟩ := c.ex
  exact pe_meth0 (pl := pl) he hC a F hr b .nil hx ht
/-- one of two readings -/
theorem PE.or {e : Expr} {t u : TE} (h : PE X e t) (h' : PE X e u) : PE X e (fun σ H Q => t σ H Q ∨ u σ H Q) :=
  ⟨fun pins s σ H Q I q => q.elim (h.run pins s σ H Q I) (h'.run pins s σ H Q I)⟩
end
/-! ### loops as folds -/
section
variable {J : It} {G : Hp → Prop} {Y : Nat → Hp → V → Hp → Prop} {α β : Type}
theorem for_fold {as : List α} (w : Walk J as.length G Y) {g : TG} {tb : TS} {D : Ends} {σ : L2.St} {H : Hp} (step : β → α → β) (b0 : β) (Rel : β → L2.St → Hp → Prop) (h0 : Rel b0 σ H) (hG : ∀ b σ H, Rel b σ H → G H)
    (hs : ∀ i al x b σ H H', as[i]? = some al → b = (as.take i).foldl step b0 → Rel b σ H → Y i H x H' → g x σ H' fun σ2 H2 => tb { D with nx := Rel (step b al), ct := Rel (step b al), bk := D.nx } σ2 H2)
    (hd : ∀ σ H, Rel (as.foldl step b0) σ H → D.nx σ H) :
    ∃ W : Nat → Nat → L2.St → Hp → Prop, (∃ m, W 0 m σ H) ∧ ∀ i m σ H, W i m σ H →
      (J.stop i H ∧ D.nx σ H) ∨ (J.go i H ∧ ∃ N : L2.St → Hp → Prop, (∀ σ' H', N σ' H' → ∃ m', m' < m ∧ W (i + 1) m' σ' H') ∧ ∀ x H', J.yld i H x H' → g x σ H' fun σ2 H2 => tb { D with nx := N, ct := N, bk := D.nx } σ2 H2) := by
  refine for_it w (fun i σ H => Rel ((as.take i).foldl step b0) σ H) (by simpa using h0) (fun i σ H _ p => hG _ σ H p) (fun i x σ H H' hi p y => ?_) (fun σ H p => hd σ H (by simpa using p))
  have e : as[i]? = some as[i] := by simp [hi]
  have e2 : (as.take (i + 1)).foldl step b0 = step ((as.take i).foldl step b0) as[i] := by
    rw [List.take_add_one, e, List.foldl_append]
    rfl
  have q := hs i as[i] x _ σ H H' e rfl p y
  rw [e2]
  exact q
/-- a comprehension over data, its target a name: the items kept by f, out of each made -/
theorem lc_data {as : List α} (w : Walk J as.length G Y) {j : Nat} {tt : TT} {te : TE} {vs : List Nat} {σ : L2.St} {H1 : Hp} {D : Addr} {Qd : Hp → Prop} (Im : α → V → Hp → Prop) (f : α → Bool) (out : α → PyData) (hz : as.length ≤ 100000) (hD : H1 D = none)
    (hw : ∀ x, wipe ((wipe σ vs).set j (some x)) vs = wipe σ vs) (hG : ∀ H, Ex H1 H → G H) (hY : ∀ i al x H H', as[i]? = some al → Ex H1 H → Y i H x H' → H' = H ∧ Im al x H)
    (ht : ∀ al x H, al ∈ as → Ex H1 H → Im al x H → ∀ R : Bool → Hp → Prop, R (f al) H → tt ((wipe σ vs).set j (some x)) H R)
    (he : ∀ al x H, al ∈ as → f al = true → Ex H1 H → Im al x H → ∀ R : V → Hp → Prop, (∀ y H', Ex H H' → Dt H' y (out al) → R y H') → te ((wipe σ vs).set j (some x)) H R)
    (hd : ∀ ys H', Ex H1 H' → H' D = some (.lst ys) → DtAll H' ys ((as.filter f).map out) → Qd H') :
    ∃ W : Nat → Nat → Hp → Prop, (∃ m, W 0 m (upd H1 D (.lst []))) ∧ ∀ i m H, W i m H →
      (J.stop i H ∧ Qd H) ∨ (J.go i H ∧ ∃ Nx : Hp → Prop, (∀ H', Nx H' → ∃ m', m' < m ∧ W (i + 1) m' H') ∧ ∀ x H', J.yld i H x H' → gName j x (wipe σ vs) H' fun σ2 H2 => wipe σ2 vs = wipe σ vs ∧ tt σ2 H2 fun b H3 =>
        if b = true then te σ2 H3 fun y H4 => ∃ acc, H4 D = some (.lst acc) ∧ acc.length < sizeLine ∧ Nx (upd H4 D (.lst (acc ++ [y]))) else Nx H3) := by
  refine lc_it w (fun i H => Ex H1 H ∧ ∃ ys, H D = some (.lst ys) ∧ DtAll H ys (((as.take i).filter f).map out)) ⟨Ex.new hD, [], upd_same, by simpa using DtAll.nil⟩ (fun i H _ p => hG H p.1) (fun i x H H' hi p y => ?_) (fun H p => ?_)
  · obtain ⟨e1, ys, h1, h2⟩ := p
    have e : as[i]? = some as[i] := by simp [hi]
    obtain ⟨rfl, im⟩ := hY i as[i] x H H' e e1 y
    have hm : as[i] ∈ as := List.getElem_mem hi
    have e3 : as.take (i + 1) = as.take i ++ [as[i]] := by
      rw [List.take_add_one, e]
      rfl
    refine ⟨hw x, ht as[i] x H' hm e1 im _ ?_⟩
    cases q : f as[i] with
    | true =>
      refine iteT (he as[i] x H' hm q e1 im _ fun y H4 e4 d4 => ⟨ys, e4 _ _ h1, ?_, ?_⟩)
      · have := h2.len
        rw [List.length_map] at this
        have h3 := List.length_filter_le f (as.take i)
        rw [List.length_take] at h3
        exact Nat.lt_of_le_of_lt (show ys.length ≤ 100000 by omega) (by decide)
      · have t : TX H4 (upd H4 D (.lst (ys ++ [y]))) := TX.updL (e4 _ _ h1)
        refine ⟨(e1.trans e4).mut hD, _, upd_same, ?_⟩
        rw [e3, List.filter_append, List.map_append]
        have e5 : ([as[i]].filter f).map out = [out as[i]] := by simp [List.filter_cons, q]
        rw [e5]
        exact ((h2.go e4.tx).snoc d4).go t
    | false =>
      refine iteF ⟨e1, ys, h1, ?_⟩
      rw [e3, List.filter_append, List.map_append]
      have e5 : ([as[i]].filter f).map out = [] := by simp [List.filter_cons, q]
      rw [e5, List.append_nil]
      exact h2
  · obtain ⟨e1, ys, h1, h2⟩ := p
    rw [List.take_length] at h2
    exact hd ys H e1 h1 h2
theorem walk_enT {a : Addr} {xs : List V} : Walk (ItE a xs) xs.length (fun H => H a = some (.tup xs)) (YPair (fun i => some (.int (i : Nat))) (fun i => xs[i]?)) :=
  ⟨fun _ _ hi q => ⟨q, hi⟩, fun _ q => ⟨q, rfl⟩, fun i H v H' _ _ ⟨T, x, h1, h2, h3, h4⟩ => ⟨T, .int (i : Nat), x, h1, h3, h4, rfl, h2⟩⟩
end
end HF
set_option Elab.async false
set_option linter.all false
set_option maxRecDepth 100000
set_option maxHeartbeats 0
namespace HF
open PySem PySem.Spec PyProof.Rows L2
def top (i : Nat) : Stmt := PySem.Challenge.pw_heldafar_k27_whole_ways_agree.main.body.getD i (.Pass ⟨0, 0, 0, 0⟩)
abbrev s_fields_by_name : Stmt := top 5
abbrev s_held_names : Stmt := top 6
abbrev s_spread : Stmt := top 7
abbrev s_reached : Stmt := top 8
abbrev s_all_starts : Stmt := top 10
abbrev s_better : Stmt := top 11
abbrev s_first_ways : Stmt := top 12
abbrev s_next_ways : Stmt := top 13
abbrev s_all_ways : Stmt := top 14
abbrev s_look_for : Stmt := top 15
abbrev s_wanted_for : Stmt := top 16
abbrev s_letters_named : Stmt := top 17
abbrev s_cut_for : Stmt := top 18
abbrev s_thing_at : Stmt := top 27
abbrev s_started : Stmt := top 28
abbrev s_gone_by : Stmt := top 29
abbrev s_wanted_holds : Stmt := top 30
abbrev s_are_things : Stmt := top 31
abbrev s_cut_holds : Stmt := top 32
abbrev s_is_closed : Stmt := top 33
abbrev s_pointed_holds : Stmt := top 34
abbrev sL_next : Stmt := top 38
abbrev sL_names : Stmt := top 39
abbrev sL_some : Stmt := top 40
abbrev sL_thing : Stmt := top 41
abbrev sL_letters : Stmt := top 42
abbrev sL_picture : Stmt := top 43
abbrev sL_fields : Stmt := top 44
abbrev sL_roots : Stmt := top 45
abbrev sL_reach : Stmt := top 46
abbrev sL_idle : Stmt := top 47
abbrev sL_let_by : Stmt := top 48
abbrev sLaw : Stmt := top 49
abbrev sRingWay_init : Stmt := inClass (top 21) 0
abbrev sRingWay_look_for : Stmt := inClass (top 21) 1
abbrev sRingWay_starts : Stmt := inClass (top 21) 2
abbrev sRingWay_come_to : Stmt := inClass (top 21) 3
abbrev sRingWay_cut : Stmt := inClass (top 21) 4
abbrev sTrack_pointing : Stmt := inClass (top 23) 0
abbrev sTrack_back : Stmt := inClass (top 23) 1
abbrev sTrack_seek : Stmt := inClass (top 23) 3
abbrev sMarks_first : Stmt := inClass (top 25) 0
abbrev sMarks_go_on : Stmt := inClass (top 25) 1
abbrev sMarks_sent : Stmt := inClass (top 25) 2
abbrev sMarks_seek : Stmt := inClass (top 25) 4
abbrev sTrial_from_outside : Stmt := inClass (top 36) 0
abbrev sTrial_pointed : Stmt := inClass (top 36) 1
abbrev sTrial_seek : Stmt := inClass (top 36) 2
def d_fields_by_name : He.DefD := ⟨("fields_by_name", none), "fields_by_name", "fields_by_name", defArgs s_fields_by_name, defBody s_fields_by_name, defScope s_fields_by_name, [], []⟩
def d_held_names : He.DefD := ⟨("held_names", none), "held_names", "held_names", defArgs s_held_names, defBody s_held_names, defScope s_held_names, [], []⟩
def d_spread : He.DefD := ⟨("spread", none), "spread", "spread", defArgs s_spread, defBody s_spread, defScope s_spread, [], []⟩
def d_reached : He.DefD := ⟨("reached", none), "reached", "reached", defArgs s_reached, defBody s_reached, defScope s_reached, [], []⟩
def d_all_starts : He.DefD := ⟨("all_starts", none), "all_starts", "all_starts", defArgs s_all_starts, defBody s_all_starts, defScope s_all_starts, [], []⟩
def d_better : He.DefD := ⟨("better", none), "better", "better", defArgs s_better, defBody s_better, defScope s_better, [], []⟩
def d_first_ways : He.DefD := ⟨("first_ways", none), "first_ways", "first_ways", defArgs s_first_ways, defBody s_first_ways, defScope s_first_ways, [], []⟩
def d_next_ways : He.DefD := ⟨("next_ways", none), "next_ways", "next_ways", defArgs s_next_ways, defBody s_next_ways, defScope s_next_ways, [], []⟩
def d_all_ways : He.DefD := ⟨("all_ways", none), "all_ways", "all_ways", defArgs s_all_ways, defBody s_all_ways, defScope s_all_ways, [], []⟩
def d_look_for : He.DefD := ⟨("look_for", none), "look_for", "look_for", defArgs s_look_for, defBody s_look_for, defScope s_look_for, [], []⟩
def d_wanted_for : He.DefD := ⟨("wanted_for", none), "wanted_for", "wanted_for", defArgs s_wanted_for, defBody s_wanted_for, defScope s_wanted_for, [], []⟩
def d_letters_named : He.DefD := ⟨("letters_named", none), "letters_named", "letters_named", defArgs s_letters_named, defBody s_letters_named, defScope s_letters_named, [], []⟩
def d_cut_for : He.DefD := ⟨("cut_for", none), "cut_for", "cut_for", defArgs s_cut_for, defBody s_cut_for, defScope s_cut_for, [], []⟩
def d_thing_at : He.DefD := ⟨("thing_at", none), "thing_at", "thing_at", defArgs s_thing_at, defBody s_thing_at, defScope s_thing_at, [], []⟩
def d_started : He.DefD := ⟨("started", none), "started", "started", defArgs s_started, defBody s_started, defScope s_started, [], []⟩
def d_gone_by : He.DefD := ⟨("gone_by", none), "gone_by", "gone_by", defArgs s_gone_by, defBody s_gone_by, defScope s_gone_by, [], []⟩
def d_wanted_holds : He.DefD := ⟨("wanted_holds", none), "wanted_holds", "wanted_holds", defArgs s_wanted_holds, defBody s_wanted_holds, defScope s_wanted_holds, [], []⟩
def d_are_things : He.DefD := ⟨("are_things", none), "are_things", "are_things", defArgs s_are_things, defBody s_are_things, defScope s_are_things, [], []⟩
def d_cut_holds : He.DefD := ⟨("cut_holds", none), "cut_holds", "cut_holds", defArgs s_cut_holds, defBody s_cut_holds, defScope s_cut_holds, [], []⟩
def d_is_closed : He.DefD := ⟨("is_closed", none), "is_closed", "is_closed", defArgs s_is_closed, defBody s_is_closed, defScope s_is_closed, [], []⟩
def d_pointed_holds : He.DefD := ⟨("pointed_holds", none), "pointed_holds", "pointed_holds", defArgs s_pointed_holds, defBody s_pointed_holds, defScope s_pointed_holds, [], []⟩
def d_law_next : He.DefD := ⟨("_law_next", none), "_law_next", "_law_next", defArgs sL_next, defBody sL_next, defScope sL_next, [], []⟩
def d_law_names : He.DefD := ⟨("_law_names", none), "_law_names", "_law_names", defArgs sL_names, defBody sL_names, defScope sL_names, [], []⟩
def d_law_some : He.DefD := ⟨("_law_some", none), "_law_some", "_law_some", defArgs sL_some, defBody sL_some, defScope sL_some, [], []⟩
def d_law_thing : He.DefD := ⟨("_law_thing", none), "_law_thing", "_law_thing", defArgs sL_thing, defBody sL_thing, defScope sL_thing, [], []⟩
def d_law_letters : He.DefD := ⟨("_law_letters", none), "_law_letters", "_law_letters", defArgs sL_letters, defBody sL_letters, defScope sL_letters, [], []⟩
def d_law_picture : He.DefD := ⟨("_law_picture", none), "_law_picture", "_law_picture", defArgs sL_picture, defBody sL_picture, defScope sL_picture, [], []⟩
def d_law_fields : He.DefD := ⟨("_law_fields", none), "_law_fields", "_law_fields", defArgs sL_fields, defBody sL_fields, defScope sL_fields, [], []⟩
def d_law_roots : He.DefD := ⟨("_law_roots", none), "_law_roots", "_law_roots", defArgs sL_roots, defBody sL_roots, defScope sL_roots, [], []⟩
def d_law_reach : He.DefD := ⟨("_law_reach", none), "_law_reach", "_law_reach", defArgs sL_reach, defBody sL_reach, defScope sL_reach, [], []⟩
def d_law_idle : He.DefD := ⟨("_law_idle", none), "_law_idle", "_law_idle", defArgs sL_idle, defBody sL_idle, defScope sL_idle, [], []⟩
def d_law_let_by : He.DefD := ⟨("_law_let_by", none), "_law_let_by", "_law_let_by", defArgs sL_let_by, defBody sL_let_by, defScope sL_let_by, [], []⟩
def d_law : He.DefD := ⟨("law", none), "law", "law", defArgs sLaw, defBody sLaw, defScope sLaw, [], []⟩
def dTrial_init : He.DefD := ⟨("Trial", some "__init__"), "__init__", "RingWay.__init__", defArgs sRingWay_init, defBody sRingWay_init, defScope sRingWay_init, [], []⟩
def dTrial_look_for : He.DefD := ⟨("Trial", some "look_for"), "look_for", "RingWay.look_for", defArgs sRingWay_look_for, defBody sRingWay_look_for, defScope sRingWay_look_for, [], []⟩
def dTrial_starts : He.DefD := ⟨("Trial", some "starts"), "starts", "RingWay.starts", defArgs sRingWay_starts, defBody sRingWay_starts, defScope sRingWay_starts, [], []⟩
def dTrial_come_to : He.DefD := ⟨("Trial", some "come_to"), "come_to", "RingWay.come_to", defArgs sRingWay_come_to, defBody sRingWay_come_to, defScope sRingWay_come_to, [], []⟩
def dTrial_cut : He.DefD := ⟨("Trial", some "cut"), "cut", "RingWay.cut", defArgs sRingWay_cut, defBody sRingWay_cut, defScope sRingWay_cut, [], []⟩
def dTrial_from_outside : He.DefD := ⟨("Trial", some "from_outside"), "from_outside", "Trial.from_outside", defArgs sTrial_from_outside, defBody sTrial_from_outside, defScope sTrial_from_outside, [], []⟩
def dTrial_pointed : He.DefD := ⟨("Trial", some "pointed"), "pointed", "Trial.pointed", defArgs sTrial_pointed, defBody sTrial_pointed, defScope sTrial_pointed, [], []⟩
def dTrial_seek : He.DefD := ⟨("Trial", some "seek"), "seek", "Trial.seek", defArgs sTrial_seek, defBody sTrial_seek, defScope sTrial_seek, [], []⟩
def dMarks_init : He.DefD := ⟨("Marks", some "__init__"), "__init__", "RingWay.__init__", defArgs sRingWay_init, defBody sRingWay_init, defScope sRingWay_init, [], []⟩
def dMarks_look_for : He.DefD := ⟨("Marks", some "look_for"), "look_for", "RingWay.look_for", defArgs sRingWay_look_for, defBody sRingWay_look_for, defScope sRingWay_look_for, [], []⟩
def dMarks_first : He.DefD := ⟨("Marks", some "first"), "first", "Marks.first", defArgs sMarks_first, defBody sMarks_first, defScope sMarks_first, [], []⟩
def dMarks_go_on : He.DefD := ⟨("Marks", some "go_on"), "go_on", "Marks.go_on", defArgs sMarks_go_on, defBody sMarks_go_on, defScope sMarks_go_on, [], []⟩
def dMarks_sent : He.DefD := ⟨("Marks", some "sent"), "sent", "Marks.sent", defArgs sMarks_sent, defBody sMarks_sent, defScope sMarks_sent, [], []⟩
def dMarks_seek : He.DefD := ⟨("Marks", some "seek"), "seek", "Marks.seek", defArgs sMarks_seek, defBody sMarks_seek, defScope sMarks_seek, [], []⟩
def dTrack_init : He.DefD := ⟨("Track", some "__init__"), "__init__", "RingWay.__init__", defArgs sRingWay_init, defBody sRingWay_init, defScope sRingWay_init, [], []⟩
def dTrack_look_for : He.DefD := ⟨("Track", some "look_for"), "look_for", "RingWay.look_for", defArgs sRingWay_look_for, defBody sRingWay_look_for, defScope sRingWay_look_for, [], []⟩
def dTrack_starts : He.DefD := ⟨("Track", some "starts"), "starts", "RingWay.starts", defArgs sRingWay_starts, defBody sRingWay_starts, defScope sRingWay_starts, [], []⟩
def dTrack_cut : He.DefD := ⟨("Track", some "cut"), "cut", "RingWay.cut", defArgs sRingWay_cut, defBody sRingWay_cut, defScope sRingWay_cut, [], []⟩
def dTrack_pointing : He.DefD := ⟨("Track", some "pointing"), "pointing", "Track.pointing", defArgs sTrack_pointing, defBody sTrack_pointing, defScope sTrack_pointing, [], []⟩
def dTrack_back : He.DefD := ⟨("Track", some "back"), "back", "Track.back", defArgs sTrack_back, defBody sTrack_back, defScope sTrack_back, [], []⟩
def dTrack_seek : He.DefD := ⟨("Track", some "seek"), "seek", "Track.seek", defArgs sTrack_seek, defBody sTrack_seek, defScope sTrack_seek, [], []⟩
def fn : List He.DefD := [d_fields_by_name, d_held_names, d_spread, d_reached, d_all_starts, d_better, d_first_ways, d_next_ways, d_all_ways, d_look_for, d_wanted_for, d_letters_named, d_cut_for, d_thing_at, d_started, d_gone_by, d_wanted_holds, d_are_things, d_cut_holds, d_is_closed, d_pointed_holds, d_law_next, d_law_names, d_law_some, d_law_thing, d_law_letters, d_law_picture, d_law_fields, d_law_roots, d_law_reach, d_law_idle, d_law_let_by, d_law, dTrial_init, dTrial_look_for, dTrial_starts, dTrial_come_to, dTrial_cut, dTrial_from_outside, dTrial_pointed, dTrial_seek, dMarks_init, dMarks_look_for, dMarks_first, dMarks_go_on, dMarks_sent, dMarks_seek, dTrack_init, dTrack_look_for, dTrack_starts, dTrack_cut, dTrack_pointing, dTrack_back, dTrack_seek]
def fa : List He.Fa := [.glo "fields_by_name", .glo "held_names", .glo "spread", .glo "reached", .glo "all_starts", .glo "better", .glo "first_ways", .glo "next_ways", .glo "all_ways", .glo "look_for", .glo "wanted_for", .glo "letters_named", .glo "cut_for", .glo "thing_at", .glo "started", .glo "gone_by", .glo "wanted_holds", .glo "are_things", .glo "cut_holds", .glo "is_closed", .glo "pointed_holds", .glo "_law_next", .glo "_law_names", .glo "_law_some", .glo "_law_thing", .glo "_law_letters", .glo "_law_picture", .glo "_law_fields", .glo "_law_roots", .glo "_law_reach", .glo "_law_idle", .glo "_law_let_by", .glo "law", .glo "Trial", .glo "Marks", .glo "Track", .free "len", .free "range", .free "list", .free "tuple", .free "sorted", .free "set", .free "dict", .free "enumerate", .free "isinstance", .free "int", .free "min", .cls "Trial", .mkr "Trial", .noat "Trial" "looked", .noat "Trial" "fields", .meth "Trial" "look_for", .meth "Trial" "starts", .meth "Trial" "come_to", .meth "Trial" "cut", .meth "Trial" "from_outside", .meth "Trial" "pointed", .meth "Trial" "seek", .cls "Marks", .mkr "Marks", .noat "Marks" "looked", .noat "Marks" "fields", .meth "Marks" "look_for", .meth "Marks" "first", .meth "Marks" "go_on", .meth "Marks" "sent", .meth "Marks" "seek", .cls "Track", .mkr "Track", .noat "Track" "looked", .noat "Track" "fields", .meth "Track" "look_for", .meth "Track" "starts", .meth "Track" "cut", .meth "Track" "pointing", .meth "Track" "back", .meth "Track" "seek"]
end HF
set_option Elab.async false
set_option linter.all false
set_option maxRecDepth 100000
set_option maxHeartbeats 4000000
namespace HF
open PySem PySem.Spec PyProof.Rows L2
/-! ### the picture as plain data, and how it stands -/
abbrev Flds := List (Option Nm)
structure Thing where
  name : Nm
  mark : Bool
  flds : Flds
structure House where
  hands : List (Option Nm)
  things : List Thing
structure Letter where
  fr : Int
  to : Int
  names : List Nm
structure Pic where
  houses : List House
  letters : List Letter
def dN (n : Nm) : PyData := .tuple [.int n.1, .int n.2]
def dO : Option Nm → PyData
  | none => .none
  | some n => dN n
def dFlds (fs : Flds) : PyData := .tuple (fs.map dO)
def dNs (ns : List Nm) : PyData := .tuple (ns.map dN)
def dThing (t : Thing) : PyData := .tuple [dN t.name, .str (if t.mark then "mark" else "thing"), dFlds t.flds]
def dHouse (h : House) : PyData := .tuple [.tuple (h.hands.map dO), .tuple (h.things.map dThing)]
def dLetter (l : Letter) : PyData := .tuple [.int l.fr, .int l.to, dNs l.names]
def dPic (p : Pic) : PyData := .tuple [.tuple (p.houses.map dHouse), .tuple (p.letters.map dLetter)]
inductive Start where
  | hand (h p : Nat)
  | letter (i p : Nat)
  | field (t : Nm) (f : Nat)
abbrev Steps := List (Nm × Nat)
def dStart : Start → PyData
  | .hand h p => .tuple [.str "hand", .int (h : Nat), .int (p : Nat)]
  | .letter i p => .tuple [.str "letter", .int (i : Nat), .int (p : Nat)]
  | .field t f => .tuple [.str "field", dN t, .int (f : Nat)]
def dStep (s : Nm × Nat) : PyData := .tuple [dN s.1, .int (s.2 : Nat)]
def dSteps (ss : Steps) : PyData := .tuple (ss.map dStep)
def dSN (s : Start × Nm) : PyData := .tuple [dStart s.1, dN s.2]
inductive Paper where
  | wanted (n : Nm) (st : Start) (ss : Steps)
  | cut (ns : List Nm) (ls : List (List Nm))
  | pointed (n : Nm) (ns : List Nm) (st : Start) (ss : Steps)
def dPaper : Paper → PyData
  | .wanted n st ss => .tuple [.str "wanted", dN n, dStart st, dSteps ss]
  | .cut ns ls => .tuple [.str "cut", dNs ns, .tuple (ls.map dNs)]
  | .pointed n ns st ss => .tuple [.str "pointed", dN n, dNs ns, dStart st, dSteps ss]
/-! names -/
theorem dN_eqv (a b : Nm) : PyData.eqv (dN a) (dN b) = decide (a = b) := by
  obtain ⟨a1, a2⟩ := a
  obtain ⟨b1, b2⟩ := b
  simp only [dN, PyData.eqv, PyData.eqvAll, Bool.and_true]
  by_cases h1 : a1 = b1
  · by_cases h2 : a2 = b2
    · simp [h1, h2]
    · simp [h1, h2]
  · simp [h1]
theorem dN_depth (n : Nm) : (dN n).depth = 1 := by simp [dN, PyData.depth, PyData.depthAll]
theorem dO_depth (o : Option Nm) : (dO o).depth ≤ 1 := by
  cases o with
  | none => simp [dO, PyData.depth]
  | some n => simp [dO, dN_depth]
theorem depthAll_le {α : Type} (enc : α → PyData) (k : Nat) : ∀ l : List α, (∀ a ∈ l, (enc a).depth ≤ k) → PyData.depthAll (l.map enc) ≤ k
  | [], _ => by simp [PyData.depthAll]
  | a :: r, h => by
    have h1 := h a List.mem_cons_self
    have h2 := depthAll_le enc k r fun b hb => h b (List.mem_cons_of_mem _ hb)
    simp only [List.map_cons, PyData.depthAll]
    omega
theorem dNs_depth (ns : List Nm) : (dNs ns).depth ≤ 2 := by
  have := depthAll_le dN 1 ns fun a _ => by rw [dN_depth]; exact Nat.le_refl _
  simp only [dNs, PyData.depth]
  omega
theorem nkey_kV (n : Nm) : (nkey n).map kV = [.int n.1, .int n.2] := rfl
theorem Dt.nm {H : Hp} {v : V} {n : Nm} (h : Dt H v (dN n)) : ∃ a, v = .ref a ∧ H a = some (.tup ((nkey n).map kV)) := by
  obtain ⟨a, x, y, rfl, ha, hx, hy⟩ := Dt.t2 h
  cases hx.intE
  cases hy.intE
  exact ⟨a, rfl, ha⟩
theorem Dt.of_key {H : Hp} (n : Nm) (a : Addr) (h : H a = some (.tup ((nkey n).map kV))) : Dt H (.ref a) (dN n) := .tup h (.cons (.int _) (.cons (.int _) .nil))
theorem nkey_inj {a b : Nm} (h : nkey a = nkey b) : a = b := by
  obtain ⟨a1, a2⟩ := a
  obtain ⟨b1, b2⟩ := b
  simp only [nkey, List.cons.injEq, Sum.inl.injEq, and_true] at h
  rw [h.1, h.2]
/-- the sort of names -/
theorem srtN : Srt dN := ⟨fun a b => by simp [dN, PySem.W.alike, PySem.W.alikeAll], fun n => ⟨_, _, rfl⟩, fun n => by rw [dN_depth]; decide⟩
/-! a dict of data by names -/
def KVs {β : Type} (H : Hp) (enc : β → PyData) (kvs : List (List Key × V)) (al : List (Nm × β)) : Prop := Paired (fun kv nb => kv.1 = nkey nb.1 ∧ Dt H kv.2 (enc nb.2)) kvs al
/-- a dict of names alone: what it holds does not matter -/
def KNs (kvs : List (List Key × V)) (ns : List Nm) : Prop := kvs.map (·.1) = ns.map nkey
section
variable {α β : Type} [DecidableEq α]
def aget (l : List (α × β)) (k : α) : Option β := (l.find? fun p => decide (p.1 = k)).map (·.2)
def aput (l : List (α × β)) (k : α) (v : β) : List (α × β) :=
  if (l.any fun p => decide (p.1 = k)) = true then l.map (fun p => if p.1 = k then (p.1, v) else p) else l ++ [(k, v)]
abbrev keys (l : List (α × β)) : List α := l.map (·.1)
end
section
variable {β : Type} {H H' : Hp} {enc : β → PyData}
theorem KVs.go {kvs : List (List Key × V)} {al : List (Nm × β)} (h : KVs H enc kvs al) (t : TX H H') : KVs H' enc kvs al := Paired.mapP h fun _ _ z => ⟨z.1, z.2.go t⟩
theorem KVs.len {kvs : List (List Key × V)} {al : List (Nm × β)} (h : KVs H enc kvs al) : kvs.length = al.length := Paired.length h
theorem KVs.ks {kvs : List (List Key × V)} {al : List (Nm × β)} (h : KVs H enc kvs al) : KNs kvs (keys al) := by
  unfold KVs at h
  induction h with
  | nil => rfl
  | @cons p q ps qs h1 t ih =>
    show (p :: ps).map (·.1) = (keys (q :: qs)).map nkey
    show p.1 :: ps.map (·.1) = nkey q.1 :: (keys qs).map nkey
    rw [h1.1, show ps.map (·.1) = (keys qs).map nkey from ih]
theorem KVs.get {kvs : List (List Key × V)} {al : List (Nm × β)} (h : KVs H enc kvs al) (n : Nm) :
    (∃ v b, valV kvs (nkey n) = some v ∧ aget al n = some b ∧ Dt H v (enc b)) ∨ (valV kvs (nkey n) = none ∧ aget al n = none) := by
  unfold KVs at h
  induction h with
  | nil => exact .inr ⟨rfl, rfl⟩
  | @cons p q ps qs h1 t ih =>
    obtain ⟨e1, d1⟩ := h1
    by_cases e : q.1 = n
    · refine .inl ⟨p.2, q.2, valV_pos (by rw [e1, e]), by simp [aget, List.find?_cons, e], d1⟩
    · have ne : ¬ p.1 = nkey n := fun z => e (nkey_inj (e1.symm.trans z))
      have e3 : aget (q :: qs) n = aget qs n := by simp [aget, List.find?_cons, e]
      rw [valV_neg ne, e3]
      exact ih
theorem KVs.getS {kvs : List (List Key × V)} {al : List (Nm × β)} (h : KVs H enc kvs al) {n : Nm} {b : β} (e : aget al n = some b) : ∃ v, valV kvs (nkey n) = some v ∧ Dt H v (enc b) := by
  rcases h.get n with ⟨v, b', h1, h2, h3⟩ | ⟨h1, h2⟩
  · rw [e] at h2; cases h2; exact ⟨v, h1, h3⟩
  · rw [e] at h2; cases h2
theorem KVs.isS {kvs : List (List Key × V)} {al : List (Nm × β)} (h : KVs H enc kvs al) (n : Nm) : (valV kvs (nkey n)).isSome = (aget al n).isSome := by
  rcases h.get n with ⟨v, b', h1, h2, h3⟩ | ⟨h1, h2⟩
  · rw [h1, h2]; rfl
  · rw [h1, h2]; rfl
theorem Paired.mapBoth {γ δ γ' δ' : Type} {F : γ → δ → Prop} {F' : γ' → δ' → Prop} (f : γ → γ') (g : δ → δ') : ∀ {l : List γ} {m : List δ}, Paired F l m → (∀ a b, F a b → F' (f a) (g b)) → Paired F' (l.map f) (m.map g)
  | _, _, .nil, _ => .nil
  | _, _, .cons h t, k => .cons (k _ _ h) (Paired.mapBoth f g t k)
theorem KVs.put {kvs : List (List Key × V)} {al : List (Nm × β)} (h : KVs H enc kvs al) (n : Nm) {v : V} {b : β} (d : Dt H v (enc b)) : KVs H enc (putK kvs (nkey n) v) (aput al n b) := by
  have e : (kvs.any fun kv => decide (kv.1 = nkey n)) = (al.any fun p => decide (p.1 = n)) := by
    have hk := h
    unfold KVs at hk
    induction hk with
    | nil => rfl
    | @cons p q ps qs h1 t ih =>
      rw [List.any_cons, List.any_cons, ih t]
      congr 1
      by_cases z : q.1 = n
      · rw [decide_eq_true z, decide_eq_true (by rw [h1.1, z])]
      · rw [decide_eq_false z, decide_eq_false fun y => z (nkey_inj (h1.1.symm.trans y))]
  unfold putK aput
  rw [e]
  split
  · refine Paired.mapBoth _ _ h fun p q hpq => ?_
    by_cases z : q.1 = n
    · rw [if_pos z, if_pos (by rw [hpq.1, z])]
      exact ⟨hpq.1, d⟩
    · rw [if_neg z, if_neg fun y => z (nkey_inj (hpq.1.symm.trans y))]
      exact hpq
  · exact Paired.snoc h ⟨rfl, d⟩
theorem KNs.mem {kvs : List (List Key × V)} {ns : List Nm} (h : KNs kvs ns) (n : Nm) : (valV kvs (nkey n)).isSome = true ↔ n ∈ ns := by
  rw [← valV_any, List.any_eq_true]
  constructor
  · rintro ⟨kv, hm, e⟩
    have e' : kv.1 = nkey n := of_decide_eq_true e
    have : nkey n ∈ kvs.map (·.1) := List.mem_map.mpr ⟨kv, hm, e'⟩
    rw [show kvs.map (·.1) = ns.map nkey from h] at this
    obtain ⟨m, hm, e2⟩ := List.mem_map.mp this
    rw [← nkey_inj e2]
    exact hm
  · intro hm
    have : nkey n ∈ kvs.map (·.1) := by rw [show kvs.map (·.1) = ns.map nkey from h]; exact List.mem_map.mpr ⟨n, hm, rfl⟩
    obtain ⟨kv, hk, e⟩ := List.mem_map.mp this
    exact ⟨kv, hk, decide_eq_true e⟩
theorem KNs.isS {kvs : List (List Key × V)} {ns : List Nm} (h : KNs kvs ns) (n : Nm) : (valV kvs (nkey n)).isSome = decide (n ∈ ns) := by
  by_cases hm : n ∈ ns
  · rw [(h.mem n).mpr hm, decide_eq_true hm]
  · rw [decide_eq_false hm]
    cases q : (valV kvs (nkey n)).isSome with
    | false => rfl
    | true => exact absurd ((h.mem n).mp q) hm
theorem KNs.len {kvs : List (List Key × V)} {ns : List Nm} (h : KNs kvs ns) : kvs.length = ns.length := by
  have := congrArg List.length (show kvs.map (·.1) = ns.map nkey from h)
  simpa using this
theorem KNs.put {kvs : List (List Key × V)} {ns : List Nm} (h : KNs kvs ns) {n : Nm} (hn : n ∉ ns) (v : V) : KNs (putK kvs (nkey n) v) (ns ++ [n]) := by
  have e : valV kvs (nkey n) = none := by
    cases q : valV kvs (nkey n) with
    | none => rfl
    | some x => exact absurd ((h.mem n).mp (by rw [q]; rfl)) hn
  show (putK kvs (nkey n) v).map (·.1) = (ns ++ [n]).map nkey
  rw [putK_new v e, List.map_append, List.map_append, show kvs.map (·.1) = ns.map nkey from h]
  rfl
/-- looking a name up -/
theorem dget_of {d a : Addr} {kvs : List (List Key × V)} {n : Nm} (hd : Rd H d (.dT kvs)) (ha : H a = some (.tup ((nkey n).map kV))) : DGet H d (.ref a) (valV kvs (nkey n)) := .inr ⟨kvs, nkey n, a, hd, rfl, ha, rfl⟩
theorem dput_of {d a : Addr} {kvs : List (List Key × V)} {n : Nm} (hd : H d = some (.dT kvs)) (ha : H a = some (.tup ((nkey n).map kV))) (v : V) (hl : kvs.length ≤ 100000) : DPut H d (.ref a) v (upd H d (.dT (putK kvs (nkey n) v))) :=
  DPut.t hd ha (Nat.lt_of_le_of_lt hl (by decide))
end
/-! ### the module's names that are free -/
structure Bl (mg : Str → Option Value) : Prop where
  len : mg "len" = none
  range : mg "range" = none
  list : mg "list" = none
  tuple : mg "tuple" = none
  sorted : mg "sorted" = none
  set : mg "set" = none
  dict : mg "dict" = none
  enumerate : mg "enumerate" = none
  isinstance : mg "isinstance" = none
  int : mg "int" = none
  min : mg "min" = none
abbrev FnP (K : PySem.W.Frag) (x qual : Str) (st : Stmt) (f : Addr) (fd : FuncData) : Prop := FunD K x qual (defArgs st) (defBody st) (defScope st) [] [] f fd
theorem lt16 {n : Nat} (h : n ≤ 100000) : n < sizeLine := Nat.lt_of_le_of_lt h (by decide)
theorem le16 {n : Nat} (h : n ≤ 100000) : n ≤ sizeLine := Nat.le_trans h (by decide)
theorem hu64_of {A : Around} {k : Nat} (hr : Room k A) : A.units + 64 < cLine := hr.units
end HF
set_option Elab.async false
set_option linter.all false
set_option maxRecDepth 100000
set_option maxHeartbeats 4000000
namespace HF
open PySem PySem.Spec PyProof.Rows L2
/-! ### association lists -/
section
variable {α β : Type} [DecidableEq α]
theorem aget_nil {k : α} : aget ([] : List (α × β)) k = none := rfl
theorem aget_cons {p : α × β} {r : List (α × β)} {k : α} : aget (p :: r) k = if p.1 = k then some p.2 else aget r k := by
  unfold aget
  rw [List.find?_cons]
  by_cases e : p.1 = k
  · simp [e]
  · simp [e]
theorem aget_none {l : List (α × β)} {k : α} : aget l k = none ↔ k ∉ keys l := by
  induction l with
  | nil => simp [aget_nil]
  | cons p r ih =>
    rw [aget_cons]
    by_cases e : p.1 = k
    · simp [e]
    · rw [if_neg e, ih]
      simp only [List.map_cons, List.mem_cons, not_or]
      exact ⟨fun h => ⟨fun q => e q.symm, h⟩, fun h => h.2⟩
theorem aget_isSome {l : List (α × β)} {k : α} : (aget l k).isSome = true ↔ k ∈ keys l := by
  cases h : aget l k with
  | none => simp [aget_none.mp h]
  | some v =>
    have : ¬ aget l k = none := by rw [h]; simp
    rw [aget_none] at this
    simp only [Option.isSome_some, true_iff]
    exact Classical.not_not.mp this
theorem aget_dec {l : List (α × β)} {k : α} : (aget l k).isSome = decide (k ∈ keys l) := by
  by_cases h : k ∈ keys l
  · rw [aget_isSome.mpr h, decide_eq_true h]
  · rw [aget_none.mpr h, decide_eq_false h]; rfl
theorem aget_some {l : List (α × β)} {k : α} (h : k ∈ keys l) : ∃ v, aget l k = some v := by
  cases q : aget l k with
  | none => exact absurd h (aget_none.mp q)
  | some v => exact ⟨v, rfl⟩
theorem aget_mem {l : List (α × β)} {k : α} {v : β} (h : aget l k = some v) : (k, v) ∈ l := by
  induction l with
  | nil => simp [aget_nil] at h
  | cons p r ih =>
    rw [aget_cons] at h
    by_cases e : p.1 = k
    · rw [if_pos e] at h
      cases h
      subst e
      simp
    · rw [if_neg e] at h
      exact List.mem_cons_of_mem _ (ih h)
theorem aget_key {l : List (α × β)} {k : α} {v : β} (h : aget l k = some v) : k ∈ keys l := List.mem_map.mpr ⟨_, aget_mem h, rfl⟩
theorem aget_of_mem {l : List (α × β)} {k : α} {v : β} (nd : (keys l).Nodup) (h : (k, v) ∈ l) : aget l k = some v := by
  induction l with
  | nil => simp at h
  | cons p r ih =>
    rw [aget_cons]
    simp only [List.map_cons, List.nodup_cons] at nd
    rcases List.mem_cons.mp h with e | h
    · subst e
      simp
    · have : ¬ p.1 = k := fun q => nd.1 (by rw [q]; exact List.mem_map.mpr ⟨_, h, rfl⟩)
      rw [if_neg this]
      exact ih nd.2 h
theorem any_keys {l : List (α × β)} {k : α} : (l.any fun p => decide (p.1 = k)) = true ↔ k ∈ keys l := by
  simp [List.any_eq_true, List.mem_map]
theorem aget_repl {l : List (α × β)} {k j : α} {v : β} : aget (l.map (fun p => if p.1 = k then (p.1, v) else p)) j = if j = k then (aget l j).map (fun _ => v) else aget l j := by
  induction l with
  | nil => simp [aget_nil]
  | cons p r ih =>
    rw [List.map_cons, aget_cons, aget_cons, ih]
    by_cases e : p.1 = k
    · rw [if_pos e]
      by_cases ej : p.1 = j
      · rw [if_pos ej, if_pos ej]
        have : j = k := ej.symm.trans e
        rw [if_pos this]
        rfl
      · rw [if_neg ej, if_neg ej]
    · rw [if_neg e]
      by_cases ej : p.1 = j
      · rw [if_pos ej, if_pos ej]
        have : ¬ j = k := fun q => e (ej.trans q)
        rw [if_neg this]
      · rw [if_neg ej, if_neg ej]
theorem aget_append {l r : List (α × β)} {k : α} : aget (l ++ r) k = (aget l k).or (aget r k) := by
  induction l with
  | nil => simp [aget_nil]
  | cons p t ih =>
    rw [List.cons_append, aget_cons, aget_cons, ih]
    by_cases e : p.1 = k
    · simp [e]
    · simp [e]
theorem aget_put {l : List (α × β)} {k j : α} {v : β} : aget (aput l k v) j = if j = k then some v else aget l j := by
  unfold aput
  split
  · rename_i h
    rw [aget_repl]
    by_cases e : j = k
    · subst e
      rw [if_pos rfl, if_pos rfl]
      have := aget_isSome.mpr (any_keys.mp h)
      cases q : aget l j with
      | none => rw [q] at this; cases this
      | some x => rfl
    · rw [if_neg e, if_neg e]
  · rename_i h
    rw [aget_append, aget_cons, aget_nil]
    by_cases e : j = k
    · subst e
      have : aget l j = none := aget_none.mpr fun q => h (any_keys.mpr q)
      simp [this]
    · have e' : ¬ k = j := fun q => e q.symm
      simp [e, e']
theorem put_new {l : List (α × β)} {k : α} {v : β} (h : k ∉ keys l) : aput l k v = l ++ [(k, v)] := by
  unfold aput
  rw [if_neg fun q => h (any_keys.mp q)]
theorem keys_put {l : List (α × β)} {k : α} {v : β} : keys (aput l k v) = if k ∈ keys l then keys l else keys l ++ [k] := by
  unfold aput
  by_cases h : k ∈ keys l
  · rw [if_pos (any_keys.mpr h), if_pos h]
    unfold keys
    rw [List.map_map]
    apply List.map_congr_left
    intro p _
    show (if p.1 = k then (p.1, v) else p).1 = p.1
    split <;> rfl
  · rw [if_neg fun q => h (any_keys.mp q), if_neg h]
    simp [keys]
theorem mem_keys_put {l : List (α × β)} {k j : α} {v : β} : j ∈ keys (aput l k v) ↔ j = k ∨ j ∈ keys l := by
  rw [keys_put]
  split
  · rename_i h
    exact ⟨.inr, fun q => q.elim (fun e => e ▸ h) id⟩
  · simp only [List.mem_append, List.mem_singleton]
    exact ⟨fun q => q.elim .inr .inl, fun q => q.elim .inr .inl⟩
theorem nodup_put {l : List (α × β)} {k : α} {v : β} (nd : (keys l).Nodup) : (keys (aput l k v)).Nodup := by
  rw [keys_put]
  split
  · exact nd
  · rename_i h
    refine List.nodup_append.mpr ⟨nd, by simp, fun a ha b hb e => ?_⟩
    have : b = k := by simpa using hb
    subst this
    exact h (e ▸ ha)
theorem aput_len {l : List (α × β)} {k : α} {v : β} : (aput l k v).length ≤ l.length + 1 := by
  unfold aput
  split
  · simp
  · simp
end
/-! ### sorting names -/
def nle (a b : Nm) : Bool := decide (a.1 < b.1 ∨ (a.1 = b.1 ∧ a.2 ≤ b.2))
theorem srt_nle (ns : List Nm) : srt dN ns = ns.mergeSort nle := by
  have e : PySem.W.dataLe false dN = nle := PySem.W.dataLe_ii (fun n : Nm => n.1) (fun n : Nm => n.2)
  unfold srt
  rw [e]
theorem nle_trans (a b c : Nm) : nle a b = true → nle b c = true → nle a c = true := by
  unfold nle
  simp only [decide_eq_true_eq]
  omega
theorem nle_total (a b : Nm) : (nle a b || nle b a) = true := by
  unfold nle
  rw [Bool.or_eq_true]
  simp only [decide_eq_true_eq]
  omega
theorem nle_anti {a b : Nm} (h : nle a b = true) (g : nle b a = true) : a = b := by
  unfold nle at h g
  simp only [decide_eq_true_eq] at h g
  obtain ⟨a1, a2⟩ := a
  obtain ⟨b1, b2⟩ := b
  simp only at h g
  have e1 : a1 = b1 := by omega
  have e2 : a2 = b2 := by omega
  rw [e1, e2]
theorem srt_perm (ns : List Nm) : (srt dN ns).Perm ns := List.mergeSort_perm ns _
theorem srt_mem {ns : List Nm} {n : Nm} : n ∈ srt dN ns ↔ n ∈ ns := (srt_perm ns).mem_iff
theorem srt_up (ns : List Nm) : (srt dN ns).Pairwise (fun a b => nle a b = true) := by
  rw [srt_nle]
  exact List.pairwise_mergeSort nle_trans nle_total ns
theorem srt_nodup {ns : List Nm} (nd : ns.Nodup) : (srt dN ns).Nodup := (srt_perm ns).nodup_iff.mpr nd
/-- the sorted list of a set is one -/
theorem sorted_one : ∀ {a b : List Nm}, a.Nodup → b.Nodup → a.Pairwise (fun x y => nle x y = true) → b.Pairwise (fun x y => nle x y = true) → (∀ n, n ∈ a ↔ n ∈ b) → a = b
  | [], [], _, _, _, _, _ => rfl
  | [], y :: s, _, _, _, _, h => absurd ((h y).mpr List.mem_cons_self) (by simp)
  | x :: r, [], _, _, _, _, h => absurd ((h x).mp List.mem_cons_self) (by simp)
  | x :: r, y :: s, n1, n2, p1, p2, h => by
    rw [List.nodup_cons] at n1 n2
    rw [List.pairwise_cons] at p1 p2
    have e : x = y := by
      rcases List.mem_cons.mp ((h x).mp List.mem_cons_self) with e | h1
      · exact e
      · rcases List.mem_cons.mp ((h y).mpr List.mem_cons_self) with e | h2
        · exact e.symm
        · exact nle_anti (p1.1 y h2) (p2.1 x h1)
    subst e
    congr 1
    refine sorted_one n1.2 n2.2 p1.2 p2.2 fun n => ⟨fun hn => ?_, fun hn => ?_⟩
    · rcases List.mem_cons.mp ((h n).mp (List.mem_cons_of_mem _ hn)) with e | q
      · subst e; exact absurd hn n1.1
      · exact q
    · rcases List.mem_cons.mp ((h n).mpr (List.mem_cons_of_mem _ hn)) with e | q
      · subst e; exact absurd hn n2.1
      · exact q
theorem srt_is {ks zs : List Nm} (n1 : ks.Nodup) (n2 : zs.Nodup) (p : zs.Pairwise (fun x y => nle x y = true)) (h : ∀ n, n ∈ ks ↔ n ∈ zs) : srt dN ks = zs :=
  sorted_one (srt_nodup n1) n2 (srt_up ks) p fun n => srt_mem.trans (h n)
/-! ### what can be come to -/
inductive Rch (ex : Nm → List Nm) (R : List Nm) : Nm → Prop
  | base {n : Nm} (h : n ∈ R) : Rch ex R n
  | step {a b : Nm} (h : Rch ex R a) (e : b ∈ ex a) : Rch ex R b
theorem Rch.mono {ex : Nm → List Nm} {R R' : List Nm} {n : Nm} (h : Rch ex R n) (s : ∀ m ∈ R, m ∈ R') : Rch ex R' n := by
  induction h with
  | base h => exact .base (s _ h)
  | step _ e ih => exact .step ih e
theorem Rch.trans {ex : Nm → List Nm} {R R' : List Nm} {n : Nm} (h : Rch ex R' n) (s : ∀ m ∈ R', Rch ex R m) : Rch ex R n := by
  induction h with
  | base h => exact s _ h
  | step _ e ih => exact .step ih e
theorem Rch.within {ex : Nm → List Nm} {R S : List Nm} {n : Nm} (h : Rch ex R n) (r : ∀ m ∈ R, m ∈ S) (c : ∀ a ∈ S, ∀ b ∈ ex a, b ∈ S) : n ∈ S := by
  induction h with
  | base h => exact r _ h
  | step _ e ih => exact c _ ih _ e
/-- a search under way: met what was gone from, w what waits, K0 what was met at first -/
structure Dfs (ex : Nm → List Nm) (S R K0 met w : List Nm) : Prop where
  ws : ∀ n ∈ w, n ∈ S
  ms : ∀ n ∈ met, n ∈ S
  nd : met.Nodup
  k0 : ∀ n ∈ K0, n ∈ met
  so : ∀ n ∈ met, n ∈ K0 ∨ Rch ex R n
  sw : ∀ n ∈ w, Rch ex R n
  ro : ∀ n ∈ R, n ∈ met ∨ n ∈ w
  cl : ∀ a ∈ met, ∀ b ∈ ex a, b ∈ met ∨ b ∈ w
section
variable {ex : Nm → List Nm} {S R K0 met w : List Nm}
theorem Dfs.init (h1 : ∀ n ∈ R, n ∈ S) (h2 : ∀ n ∈ K0, n ∈ S) (nd : K0.Nodup) (c : ∀ a ∈ K0, ∀ b ∈ ex a, b ∈ K0) : Dfs ex S R K0 K0 R :=
  ⟨h1, h2, nd, fun _ h => h, fun _ h => .inl h, fun _ h => .base h, fun _ h => .inr h, fun a ha b hb => .inl (c a ha b hb)⟩
theorem Dfs.skip {n : Nm} (d : Dfs ex S R K0 met (w ++ [n])) (h : n ∈ met) : Dfs ex S R K0 met w := by
  have f : ∀ m, m ∈ met ∨ m ∈ w ++ [n] → m ∈ met ∨ m ∈ w := fun m q => by
    rcases q with q | q
    · exact .inl q
    · rcases List.mem_append.mp q with q | q
      · exact .inr q
      · rw [List.mem_singleton.mp q]; exact .inl h
  exact ⟨fun m hm => d.ws m (List.mem_append_left _ hm), d.ms, d.nd, d.k0, d.so, fun m hm => d.sw m (List.mem_append_left _ hm), fun m hm => f m (d.ro m hm), fun a ha b hb => f b (d.cl a ha b hb)⟩
theorem Dfs.more {n : Nm} {w' : List Nm} (d : Dfs ex S R K0 met (w ++ [n])) (h : n ∉ met) (c : ∀ a ∈ S, ∀ b ∈ ex a, b ∈ S) (e : ∀ m, m ∈ w' ↔ m ∈ w ∨ m ∈ ex n) : Dfs ex S R K0 (met ++ [n]) w' := by
  have hn : n ∈ w ++ [n] := List.mem_append_right _ List.mem_cons_self
  have f : ∀ m, m ∈ met ∨ m ∈ w ++ [n] → m ∈ met ++ [n] ∨ m ∈ w' := fun m q => by
    rcases q with q | q
    · exact .inl (List.mem_append_left _ q)
    · rcases List.mem_append.mp q with q | q
      · exact .inr ((e m).mpr (.inl q))
      · rw [List.mem_singleton.mp q]; exact .inl (List.mem_append_right _ List.mem_cons_self)
  refine ⟨fun m hm => ?_, fun m hm => ?_, ?_, fun m hm => List.mem_append_left _ (d.k0 m hm), fun m hm => ?_, fun m hm => ?_, fun m hm => f m (d.ro m hm), fun a ha b hb => ?_⟩
  · rcases (e m).mp hm with q | q
    · exact d.ws m (List.mem_append_left _ q)
    · exact c n (d.ws n hn) m q
  · rcases List.mem_append.mp hm with q | q
    · exact d.ms m q
    · rw [List.mem_singleton.mp q]; exact d.ws n hn
  · refine List.nodup_append.mpr ⟨d.nd, by simp, fun a ha b hb z => ?_⟩
    rw [List.mem_singleton.mp hb] at z
    exact h (z ▸ ha)
  · rcases List.mem_append.mp hm with q | q
    · exact d.so m q
    · rw [List.mem_singleton.mp q]; exact .inr (d.sw n hn)
  · rcases (e m).mp hm with q | q
    · exact d.sw m (List.mem_append_left _ q)
    · exact .step (d.sw n hn) q
  · rcases List.mem_append.mp ha with q | q
    · exact f b (d.cl a q b hb)
    · rw [List.mem_singleton.mp q] at hb
      exact .inr ((e b).mpr (.inr hb))
theorem Dfs.done (d : Dfs ex S R K0 met []) (n : Nm) : n ∈ met ↔ n ∈ K0 ∨ Rch ex R n := by
  refine ⟨d.so n, fun h => ?_⟩
  rcases h with h | h
  · exact d.k0 n h
  · induction h with
    | base h => exact (d.ro _ h).elim id fun q => by cases q
    | step _ e ih => exact (d.cl _ ih _ e).elim id fun q => by cases q
/-- how many are still to be met -/
def unmet (S met : List Nm) : Nat := (S.filter fun n => decide (n ∉ met)).length
theorem unmet_le (S met : List Nm) : unmet S met ≤ S.length := List.length_filter_le _ _
theorem unmet_less {n : Nm} (hn : n ∈ S) (h : n ∉ met) : unmet S (met ++ [n]) < unmet S met := by
  unfold unmet
  induction S with
  | nil => cases hn
  | cons x r ih =>
    have le : ∀ r : List Nm, (r.filter fun m => decide (m ∉ met ++ [n])).length ≤ (r.filter fun m => decide (m ∉ met)).length := fun r => by
      induction r with
      | nil => exact Nat.le_refl _
      | cons y s ih2 =>
        rw [List.filter_cons, List.filter_cons]
        by_cases h1 : y ∈ met
        · have h2 : y ∈ met ++ [n] := List.mem_append_left _ h1
          rw [if_neg (by simp [h2]), if_neg (by simp [h1])]
          exact ih2
        · rw [if_pos (by simp [h1]) (c := decide (y ∉ met) = true)]
          split
          · simp only [List.length_cons]; omega
          · simp only [List.length_cons]; omega
    rw [List.filter_cons, List.filter_cons]
    by_cases e : x = n
    · subst e
      rw [if_neg (by simp), if_pos (by simp [h])]
      have := le r
      simp only [List.length_cons]
      omega
    · have hr : n ∈ r := by
        rcases List.mem_cons.mp hn with q | q
        · exact absurd q.symm e
        · exact q
      have i := ih hr
      by_cases h1 : x ∈ met
      · have h2 : x ∈ met ++ [n] := List.mem_append_left _ h1
        rw [if_neg (by simp [h2]), if_neg (by simp [h1])]
        exact i
      · have h2 : x ∉ met ++ [n] := fun q => (List.mem_append.mp q).elim h1 fun z => e (List.mem_singleton.mp z)
        rw [if_pos (by simpa using h2), if_pos (by simpa using h1)]
        simp only [List.length_cons]
        omega
end
/-- what a thing's fields point to -/
def chl (F : List (Nm × Flds)) (n : Nm) : List Nm := ((aget F n).getD []).filterMap id
/-- each field's name is a thing's; few of all -/
structure GrB (F : List (Nm × Flds)) : Prop where
  nd : (keys F).Nodup
  cl : ∀ n fs, aget F n = some fs → ∀ m, some m ∈ fs → m ∈ keys F
  few : F.length ≤ 40
  fls : ∀ n fs, aget F n = some fs → fs.length ≤ 4
  sm : ∀ n ∈ keys F, Small n
theorem mem_chl {F : List (Nm × Flds)} {a b : Nm} : b ∈ chl F a ↔ ∃ fs, aget F a = some fs ∧ some b ∈ fs := by
  unfold chl
  cases h : aget F a with
  | none => simp
  | some fs =>
    simp only [Option.getD_some, List.mem_filterMap, id_eq]
    constructor
    · rintro ⟨x, hx, e⟩
      subst e
      exact ⟨fs, rfl, hx⟩
    · rintro ⟨fs', e, hx⟩
      cases e
      exact ⟨_, hx, rfl⟩
theorem GrB.chlS {F : List (Nm × Flds)} (g : GrB F) : ∀ a ∈ keys F, ∀ b ∈ chl F a, b ∈ keys F := fun a _ b hb => by
  obtain ⟨fs, e, h⟩ := mem_chl.mp hb
  exact g.cl a fs e b h
theorem GrB.k40 {F : List (Nm × Flds)} (g : GrB F) : (keys F).length ≤ 40 := by
  have := g.few
  simpa [keys] using this
theorem GrB.klen {F : List (Nm × Flds)} (g : GrB F) : (keys F).length ≤ 400 := by
  have := g.k40
  omega
theorem GrB.sub40 {F : List (Nm × Flds)} (g : GrB F) {ns : List Nm} (nd : ns.Nodup) (h : ∀ n ∈ ns, n ∈ keys F) : ns.length ≤ 40 := Nat.le_trans (List.Nodup.length_le_of_subset nd h) g.k40
/-- all that can be come to, rising -/
noncomputable def cloL (F : List (Nm × Flds)) (R : List Nm) : List Nm := open Classical in (srt dN (keys F)).filter fun n => decide (Rch (chl F) R n)
theorem mem_cloL {F : List (Nm × Flds)} (g : GrB F) {R : List Nm} (hR : ∀ n ∈ R, n ∈ keys F) {n : Nm} : n ∈ cloL F R ↔ Rch (chl F) R n := by
  unfold cloL
  rw [List.mem_filter]
  exact ⟨fun h => @of_decide_eq_true _ (Classical.propDecidable _) h.2, fun h => ⟨srt_mem.mpr (h.within hR g.chlS), @decide_eq_true _ (Classical.propDecidable _) h⟩⟩
theorem cloL_nodup {F : List (Nm × Flds)} (g : GrB F) (R : List Nm) : (cloL F R).Nodup := (srt_nodup g.nd).filter _
theorem cloL_up (F : List (Nm × Flds)) (R : List Nm) : (cloL F R).Pairwise (fun x y => nle x y = true) := (srt_up _).filter _
theorem srt_clo {F : List (Nm × Flds)} (g : GrB F) {R ks : List Nm} (hR : ∀ n ∈ R, n ∈ keys F) (nd : ks.Nodup) (h : ∀ n, n ∈ ks ↔ Rch (chl F) R n) : srt dN ks = cloL F R :=
  srt_is nd (cloL_nodup g R) (cloL_up F R) fun n => (h n).trans (mem_cloL g hR).symm
theorem cloL_len {F : List (Nm × Flds)} (g : GrB F) (R : List Nm) : (cloL F R).length ≤ 400 := by
  have h1 := List.length_filter_le (fun n => @decide (Rch (chl F) R n) (Classical.propDecidable _)) (srt dN (keys F))
  have h2 := (srt_perm (keys F)).length_eq
  have h3 := g.klen
  unfold cloL
  omega
end HF
set_option Elab.async false
set_option linter.all false
set_option maxRecDepth 100000
set_option maxHeartbeats 4000000
namespace HF
open PySem PySem.Spec PyProof.Rows L2
section
variable {P : Program} {w : World} {K : PySem.W.Frag} {mg : Str → Option Value} {base : Heap} {f : Addr} {fd : FuncData}
/-! ### thing_at -/
def thingAt (ds : List PyData) (i : Int) : PyData := if 0 ≤ i ∧ i < ds.length then ds.getD i.toNat .none else .none
def spThingAt : Sp := fun vs H Q _ => ∃ v ds i, vs = [v, .int i] ∧ Dt H v (.tuple ds) ∧ ∀ u, Dt H u (thingAt ds i) → Q u H
theorem sc_s_thing_at : FnScope ["things", "place"] ["things", "place"] (defScope s_thing_at) := ⟨rfl, rfl, rfl, by decide +kernel, rfl, by decide +kernel, by decide +kernel⟩
theorem ok_thing_at (F : FnP K "thing_at" "thing_at" s_thing_at f fd) (B : Bl mg) : FnOk P w K mg base CX0 1 f fd ["things", "place"] spThingAt := by
  refine F.ok sc_s_thing_at (fun vs H Q E h => ?_) (fun cdv A outer s H vs Q E hr h => ?_)
  · obtain ⟨v, ds, i, rfl, _⟩ := h
    rfl
  · obtain ⟨v, ds, i, rfl, hv, k⟩ := h
    refine ⟨_, PSs.nox (pss_cons (ps_if (pt_chain op_le op_lt pe_int (pv 1) (pe_callB call_len_seq (by rfl) B.len (by decide +kernel) (pa_cons (pv 0) pa_nil)))
          (pss_one (ps_ret (pe_ix ix_tup (pv 0) (pv 1) (fun _ _ => rfl))))
          pss_nil)
          (pss_one (ps_ret pe_non))), ?_⟩
    obtain ⟨a, xs, rfl, ha, hx⟩ := hv.tupE
    have hl := hx.len
    refine ⟨_, rfl, _, _, rfl, rfl, _, rfl, ?_⟩
    by_cases h0 : 0 ≤ i
    · rw [decide_eq_true h0]
      refine iteT ⟨_, rfl, a, xs, rfl, .inr (SqT.of ha), _, _, rfl, rfl, _, rfl, ?_⟩
      by_cases h1 : i < (xs.length : Int)
      · rw [decide_eq_true h1]
        have hi : i.toNat < ds.length := by omega
        obtain ⟨u, hu, du⟩ := hx.get (List.getElem?_eq_getElem hi)
        refine iteT ⟨_, rfl, _, rfl, a, xs, i, u, rfl, rfl, SqT.of ha, ?_, k u ?_⟩
        · have e : ((i.toNat : Nat) : Int) = i := Int.toNat_of_nonneg h0
          rw [← e]
          exact atI_nat hu
        · unfold thingAt
          rw [if_pos ⟨h0, by omega⟩, List.getD_eq_getElem?_getD, List.getElem?_eq_getElem hi]
          exact du
      · rw [decide_eq_false h1]
        refine iteF (k _ ?_)
        unfold thingAt
        rw [if_neg fun z => h1 (by omega)]
        exact .non
    · rw [decide_eq_false h0]
      refine iteF ⟨_, rfl, iteF (k _ ?_)⟩
      unfold thingAt
      rw [if_neg fun z => h0 z.1]
      exact .non
end
end HF
set_option Elab.async false
set_option linter.all false
set_option maxRecDepth 100000
set_option maxHeartbeats 4000000
namespace HF
open PySem PySem.Spec PyProof.Rows L2
/-- few enough of everything -/
structure PicB (p : Pic) : Prop where
  hs : p.houses.length ≤ 8
  ths : ∀ h ∈ p.houses, h.things.length ≤ 40
  hns : ∀ h ∈ p.houses, h.hands.length ≤ 10
  fls : ∀ h ∈ p.houses, ∀ t ∈ h.things, t.flds.length ≤ 4
  ls : p.letters.length ≤ 10
  lns : ∀ l ∈ p.letters, l.names.length ≤ 10
def addThings (acc : List (Nm × Flds)) (ts : List Thing) : List (Nm × Flds) := ts.foldl (fun a t => aput a t.name t.flds) acc
def fieldsF (p : Pic) : List (Nm × Flds) := p.houses.foldl (fun a h => addThings a h.things) []
theorem addThings_len : ∀ (ts : List Thing) (acc : List (Nm × Flds)), (addThings acc ts).length ≤ acc.length + ts.length
  | [], acc => Nat.le_refl _
  | t :: r, acc => by
    have h1 := addThings_len r (aput acc t.name t.flds)
    have h2 := aput_len (l := acc) (k := t.name) (v := t.flds)
    show (addThings (aput acc t.name t.flds) r).length ≤ _
    rw [List.length_cons]
    omega
theorem fieldsF_len : ∀ (hs : List House) (acc : List (Nm × Flds)), (∀ h ∈ hs, h.things.length ≤ 40) → (hs.foldl (fun a h => addThings a h.things) acc).length ≤ acc.length + 40 * hs.length
  | [], acc, _ => Nat.le_refl _
  | h :: r, acc, hb => by
    have h1 := fieldsF_len r (addThings acc h.things) fun x hx => hb x (List.mem_cons_of_mem _ hx)
    have h2 := addThings_len h.things acc
    have h3 := hb h List.mem_cons_self
    rw [List.foldl_cons, List.length_cons]
    omega
section
variable {P : Program} {w : World} {K : PySem.W.Frag} {mg : Str → Option Value} {base : Heap} {f : Addr} {fd : FuncData}
def spFields : Sp := fun vs H Q _ => ∃ v pic, vs = [v] ∧ Dt H v (dPic pic) ∧ PicB pic ∧ ∀ d H' kvs, H d = none → Ex H H' → H' d = some (.dT kvs) → KVs H' dFlds kvs (fieldsF pic) → Q (.ref d) H'
theorem sc_s_fields_by_name : FnScope ["picture", "found", "hands", "things", "name", "sort", "fields"] ["picture"] (defScope s_fields_by_name) := ⟨rfl, rfl, rfl, by decide +kernel, rfl, by decide +kernel, by decide +kernel⟩
theorem ok_fields_by_name (F : FnP K "fields_by_name" "fields_by_name" s_fields_by_name f fd) : FnOk P w K mg base CX0 1 f fd ["picture"] spFields := by
  refine F.ok sc_s_fields_by_name (fun vs H Q E h => ?_) (fun cdv A outer s H vs Q E hr h => ?_)
  · obtain ⟨v, pic, rfl, _⟩ := h
    rfl
  · obtain ⟨v, pic, rfl, hv, hb, k⟩ := h
    have hu := hu_of hr
    refine ⟨_, PSs.nox (pss_cons (ps_set (i := 1) sc_s_fields_by_name.nd rfl (Or.inl rfl) pe_dnewT)
          (pss_cons (ps_for PassesOwn.never rfl (pi_tup (pe_ix ix_tup (pv 0) pe_int (fun _ _ => rfl))) (pg_tup rfl (pgs_cons (pg_name (i := 2) sc_s_fields_by_name.nd rfl (Or.inl rfl)) (pgs_cons (pg_name (i := 3) sc_s_fields_by_name.nd rfl (Or.inl rfl)) pgs_nil)))
          (pss_one (ps_for PassesOwn.never rfl (pi_tup (pv 3)) (pg_tup rfl (pgs_cons (pg_name (i := 4) sc_s_fields_by_name.nd rfl (Or.inl rfl)) (pgs_cons (pg_name (i := 5) sc_s_fields_by_name.nd rfl (Or.inl rfl)) (pgs_cons (pg_name (i := 6) sc_s_fields_by_name.nd rfl (Or.inl rfl)) pgs_nil))))
          (pss_one (ps_dput hu (pv 1) (pv 4) (pv 6) rfl)))))
          (pss_one (ps_ret (pv 1))))), ?_⟩
    intro d hd
    obtain ⟨a, v1, v2, rfl, ha, h1, h2⟩ := Dt.t2 hv
    obtain ⟨b, xs, rfl, hbx, hx⟩ := h1.tupE
    have nd : ∀ c o, H c = some o → c ≠ d := fun c o e => ne_of_none e hd
    refine ⟨_, rfl, a, [.ref b, v2], 0, .ref b, rfl, rfl, SqT.of (by rw [upd_ne (nd _ _ ha)]; exact ha), rfl, b, rfl, ⟨xs, SqT.of (by rw [upd_ne (nd _ _ hbx)]; exact hbx)⟩, ?_⟩
    have hl : xs.length = pic.houses.length := by rw [hx.len, List.length_map]
    refine for_fold (as := pic.houses) (hl ▸ walk_tup (K := K) (a := b) (xs := xs)) (fun a h => addThings a h.things) [] (fun acc σ H' => ∃ v2 v3 v4 v5 v6 kvs, σ = [some (.ref a), some (.ref d), v2, v3, v4, v5, v6] ∧ Ex H H' ∧ H' d = some (.dT kvs) ∧ KVs H' dFlds kvs acc)
      ⟨none, none, none, none, none, [], rfl, Ex.new hd, upd_same, .nil⟩ (fun _ σ H' ⟨_, _, _, _, _, _, _, e, _⟩ => SqT.of (e _ _ hbx)) ?_ ?_
    · rintro i hs x acc σ _ H1 hi hacc ⟨v2, v3, v4, v5, v6, kvs, rfl, e1, hd1, hk1⟩ ⟨rfl, hx1⟩
      obtain ⟨y, hy, dy⟩ := hx.get (i := i) (d := dHouse hs) (by rw [List.getElem?_map, hi]; rfl)
      rw [hx1] at hy
      cases hy
      obtain ⟨c, u1, u2, rfl, hc, g1, g2⟩ := Dt.t2 (dy.go e1.tx)
      obtain ⟨c2, ts, rfl, hc2, hts⟩ := g2.tupE
      have hm : hs ∈ pic.houses := List.mem_of_getElem? hi
      refine ⟨c, _, rfl, SqT.of hc, rfl, u1, _, rfl, .ref c2, _, rfl, rfl, ?_⟩
      refine ⟨_, rfl, c2, rfl, ⟨ts, SqT.of hc2⟩, ?_⟩
      have hl2 : ts.length = hs.things.length := by rw [hts.len, List.length_map]
      have bnd : acc.length ≤ 320 := by
        have q := fieldsF_len (pic.houses.take i) [] fun x hx => hb.ths x (List.mem_of_mem_take hx)
        rw [← hacc, List.length_nil, List.length_take] at q
        have := hb.hs
        omega
      refine for_fold (as := hs.things) (hl2 ▸ walk_tup (K := K) (a := c2) (xs := ts)) (fun a t => aput a t.name t.flds) acc (fun acc' σ H' => ∃ v4 v5 v6 kvs, σ = [some (.ref a), some (.ref d), some u1, some (.ref c2), v4, v5, v6] ∧ Ex H H' ∧ TX H1 H' ∧ H' d = some (.dT kvs) ∧ KVs H' dFlds kvs acc')
        ⟨_, _, _, kvs, rfl, e1, TX.refl _, hd1, hk1⟩ (fun _ σ H' ⟨_, _, _, _, _, _, t, _⟩ => SqT.of (t _ _ hc2)) ?_ ?_
      · rintro j th x acc' σ _ H2 hj hacc' ⟨v4, v5, v6, kvs', rfl, e2, t2, hd2, hk2⟩ ⟨rfl, hx2⟩
        obtain ⟨y, hy, dy⟩ := hts.get (i := j) (d := dThing th) (by rw [List.getElem?_map, hj]; rfl)
        rw [hx2] at hy
        cases hy
        obtain ⟨q, w1, w2, w3, rfl, hq, k1, k2, k3⟩ := Dt.t3 (dy.go t2)
        obtain ⟨n, rfl, hn⟩ := k1.nm
        refine ⟨q, _, rfl, SqT.of hq, rfl, .ref n, _, rfl, w2, _, rfl, w3, _, rfl, rfl, ?_⟩
        have bnd2 : acc'.length ≤ 360 := by
          have q := addThings_len (hs.things.take j) acc
          rw [show addThings acc (hs.things.take j) = acc' from hacc'.symm, List.length_take] at q
          have := hb.ths hs hm
          omega
        have lk : kvs'.length ≤ 100000 := by rw [hk2.len]; omega
        refine ⟨_, rfl, _, rfl, _, rfl, d, _, rfl, dput_of hd2 hn _ lk, ?_⟩
        have tx : TX H2 (upd H2 d (.dT (putK kvs' (nkey th.name) w3))) := TX.updD hd2
        exact ⟨_, _, _, _, rfl, e2.mut hd, t2.trans tx, upd_same, (hk2.put _ k3).go tx⟩
      · rintro σ H2 ⟨v4, v5, v6, kvs', rfl, e2, t2, hd2, hk2⟩
        exact ⟨_, _, _, _, _, kvs', rfl, e2, hd2, hk2⟩
    · rintro σ H' ⟨v2, v3, v4, v5, v6, kvs, rfl, e1, hd1, hk1⟩
      exact ⟨_, rfl, k d H' kvs hd e1 hd1 hk1⟩
end
end HF
set_option Elab.async false
set_option linter.all false
set_option maxRecDepth 100000
set_option maxHeartbeats 4000000
namespace HF
open PySem PySem.Spec PyProof.Rows L2
def heldF (p : Pic) : List Nm := p.letters.foldl (fun a l => a ++ l.names) (p.houses.foldl (fun a h => a ++ h.hands.filterMap id) [])
def lettersL (p : Pic) : List (List Nm) := p.letters.map (·.names)
theorem some_dO (l : List (Option Nm)) : (l.filter (·.isSome)).map dO = (l.filterMap id).map dN := by
  induction l with
  | nil => rfl
  | cons x r ih =>
    cases x with
    | none => simpa using ih
    | some n =>
      simp only [List.filter_cons, Option.isSome_some, if_true, List.map_cons, List.filterMap_cons, id_eq]
      rw [ih]
      rfl
theorem isnt_none {H : Hp} {o : Option Nm} {x : V} (h : Dt H x (dO o)) : (!decide (x = V.non)) = o.isSome := by
  cases o with
  | none => rw [h.noneE]; rfl
  | some n =>
    obtain ⟨a, rfl, _⟩ := Dt.nm h
    rfl
theorem app_len {α β : Type} (g : α → List β) (k : Nat) : ∀ (l : List α) (acc : List β), (∀ x ∈ l, (g x).length ≤ k) → (l.foldl (fun a x => a ++ g x) acc).length ≤ acc.length + k * l.length
  | [], acc, _ => Nat.le_refl _
  | x :: r, acc, h => by
    have h1 := app_len g k r (acc ++ g x) fun y hy => h y (List.mem_cons_of_mem _ hy)
    have h2 := h x List.mem_cons_self
    rw [List.length_append] at h1
    rw [List.foldl_cons, List.length_cons, Nat.mul_add]
    omega
theorem hands_len (p : Pic) (b : PicB p) (i : Nat) : ((p.houses.take i).foldl (fun a h => a ++ h.hands.filterMap id) ([] : List Nm)).length ≤ 80 := by
  have h1 := app_len (fun h : House => h.hands.filterMap id) 10 (p.houses.take i) [] fun h hh => Nat.le_trans (List.length_filterMap_le id h.hands) (b.hns h (List.mem_of_mem_take hh))
  rw [List.length_take, List.length_nil] at h1
  have := b.hs
  omega
theorem held_len (p : Pic) (b : PicB p) : (heldF p).length ≤ 180 := by
  have h2 := hands_len p b p.houses.length
  rw [List.take_length] at h2
  have h1 := app_len (fun l : Letter => l.names) 10 p.letters (p.houses.foldl (fun a h => a ++ h.hands.filterMap id) []) b.lns
  have := b.ls
  unfold heldF
  omega
section
variable {P : Program} {w : World} {K : PySem.W.Frag} {mg : Str → Option Value} {base : Heap} {f : Addr} {fd : FuncData}
def spHeld : Sp := fun vs H Q _ => ∃ v pic, vs = [v] ∧ Dt H v (dPic pic) ∧ PicB pic ∧ ∀ l H' xs, H l = none → Ex H H' → H' l = some (.lst xs) → DtAll H' xs ((heldF pic).map dN) → Q (.ref l) H'
theorem sc_s_held_names : FnScope ["picture", "found", "hands", "things", "sender", "to", "names", "name"] ["picture"] (defScope s_held_names) := ⟨rfl, rfl, rfl, by decide +kernel, rfl, by decide +kernel, by decide +kernel⟩
theorem ok_held_names (F : FnP K "held_names" "held_names" s_held_names f fd) : FnOk P w K mg base CX0 1 f fd ["picture"] spHeld := by
  refine F.ok sc_s_held_names (fun vs H Q E h => ?_) (fun cdv A outer s H vs Q E hr h => ?_)
  · obtain ⟨v, pic, rfl, _⟩ := h
    rfl
  · obtain ⟨v, pic, rfl, hv, hb, k⟩ := h
    have hu := hu_of hr
    refine ⟨_, PSs.nox (pss_cons (ps_set (i := 1) sc_s_held_names.nd rfl (Or.inl rfl) (pe_lst pa_nil))
          (pss_cons (ps_for PassesOwn.never rfl (pi_tup (pe_ix ix_tup (pv 0) pe_int (fun _ _ => rfl))) (pg_tup rfl (pgs_cons (pg_name (i := 2) sc_s_held_names.nd rfl (Or.inl rfl)) (pgs_cons (pg_name (i := 3) sc_s_held_names.nd rfl (Or.inl rfl)) pgs_nil)))
          (pss_one (ps_expr (pe_bm PySem.F.plainAttrs_list PySem.F.slot_list_extend PySem.F.type_list_extend mt_extend (pv 1) (pa_cons (pe_lc (own := [("name", 7)]) (g := gName 7) rfl sc_s_held_names.nd (pi_tup (pv 2)) (blkOk_by (N := ["picture", "found", "hands", "things", "sender", "to", "names", "name"]) (sc := defScope s_held_names) (by decide +kernel)) (fun _ _ _ _ _ => (pg_name (i := 7) sc_s_held_names.nd rfl (Or.inl rfl))) (fun _ _ _ _ _ => (pts_one (pt_cmpR op_notN (pv 7) pe_non (nomark _)))) (fun _ _ _ _ _ => (pv 7))) pa_nil)))))
          (pss_cons (ps_for PassesOwn.never rfl (pi_tup (pe_ix ix_tup (pv 0) pe_int (fun _ _ => rfl))) (pg_tup rfl (pgs_cons (pg_name (i := 4) sc_s_held_names.nd rfl (Or.inl rfl)) (pgs_cons (pg_name (i := 5) sc_s_held_names.nd rfl (Or.inl rfl)) (pgs_cons (pg_name (i := 6) sc_s_held_names.nd rfl (Or.inl rfl)) pgs_nil))))
          (pss_one (ps_expr (pe_bm PySem.F.plainAttrs_list PySem.F.slot_list_extend PySem.F.type_list_extend mt_extT (pv 1) (pa_cons (pv 6) pa_nil)))))
          (pss_one (ps_ret (pv 1)))))), ?_⟩
    refine ⟨le16 (by show 0 ≤ 100000; decide), fun l hl => ?_⟩
    obtain ⟨a, v1, v2, rfl, ha, h1, h2⟩ := Dt.t2 hv
    obtain ⟨b, xs, rfl, hbx, hx⟩ := h1.tupE
    obtain ⟨b2, xs2, rfl, hbx2, hx2⟩ := h2.tupE
    have e0 : Ex H (upd H l (.lst [])) := Ex.new hl
    refine ⟨_, rfl, a, _, 0, .ref b, rfl, rfl, SqT.of (e0 _ _ ha), rfl, b, rfl, ⟨xs, SqT.of (e0 _ _ hbx)⟩, ?_⟩
    have lx : xs.length = pic.houses.length := by rw [hx.len, List.length_map]
    refine for_fold (as := pic.houses) (lx ▸ walk_tup (K := K) (a := b) (xs := xs)) (fun a h => a ++ h.hands.filterMap id) [] (fun acc σ H' => ∃ v2 v3 v4 v5 v6 v7 ys, σ = [some (.ref a), some (.ref l), v2, v3, v4, v5, v6, v7] ∧ Ex H H' ∧ H' l = some (.lst ys) ∧ DtAll H' ys (acc.map dN))
      ⟨none, none, none, none, none, none, [], rfl, e0, upd_same, .nil⟩ (fun _ σ H' ⟨_, _, _, _, _, _, _, _, e, _⟩ => SqT.of (e _ _ hbx)) ?_ ?_
    · rintro i hs x acc σ _ H1 hi hacc ⟨v2, v3, v4, v5, v6, v7, ys, rfl, e1, hl1, hy1⟩ ⟨rfl, hxi⟩
      obtain ⟨y, hy, dy⟩ := hx.get (i := i) (d := dHouse hs) (by rw [List.getElem?_map, hi]; rfl)
      rw [hxi] at hy
      cases hy
      obtain ⟨c, u1, u2, rfl, hc, g1, g2⟩ := Dt.t2 (dy.go e1.tx)
      obtain ⟨c1, zs, rfl, hc1, hzs⟩ := g1.tupE
      have lz : zs.length = hs.hands.length := by rw [hzs.len, List.length_map]
      refine ⟨c, _, rfl, SqT.of hc, rfl, .ref c1, _, rfl, u2, _, rfl, rfl, ?_⟩
      refine ⟨_, rfl, .inl ⟨rfl, _, SqL.of hl1⟩, _, rfl, c1, rfl, ⟨zs, SqT.of hc1⟩, fun D hD => ?_⟩
      have hz := hb.hns hs (List.mem_of_getElem? hi)
      refine lc_data (as := hs.hands) (H1 := H1) (lz ▸ walk_tup (K := K) (a := c1) (xs := zs)) (fun o x H => Dt H x (dO o)) (·.isSome) dO (by omega) hD ?_ (fun H' e => SqT.of (e _ _ hc1)) ?_ ?_ ?_ ?_
      · exact fun _ => rfl
      · rintro j o x H2 H3 hj e ⟨rfl, hx3⟩
        obtain ⟨y, hy, dy⟩ := hzs.get (i := j) (d := dO o) (by rw [List.getElem?_map, hj]; rfl)
        rw [hx3] at hy
        cases hy
        exact ⟨rfl, dy.go e.tx⟩
      · intro o x H2 _ _ im R r
        exact ⟨_, rfl, rfl, _, rfl, by rw [isnt_none im]; exact r⟩
      · intro o x H2 _ _ _ im R r
        exact ⟨_, rfl, r _ _ (Ex.refl _) im⟩
      · intro zs2 H2 e2 hD2 hz2
        have nl : l ≠ D := ne_of_none hl1 hD
        have hl2 : H2 l = some (.lst ys) := e2 _ _ hl1
        have b1 := hands_len pic hb i
        rw [hacc.symm] at b1
        have l1 := hy1.len
        have l2 := hz2.len
        rw [List.length_map] at l1
        rw [some_dO, List.length_map] at l2
        have l3 := List.length_filterMap_le id hs.hands
        refine ⟨l, D, ys, zs2, rfl, rfl, hl2, hD2, le16 (by omega), ?_⟩
        have t2 : TX H2 (upd H2 l (.lst (ys ++ zs2))) := TX.updL hl2
        refine ⟨_, _, _, _, _, _, _, rfl, (e1.trans e2).mut hl, upd_same, ?_⟩
        rw [List.map_append, ← some_dO]
        exact ((hy1.go e2.tx).append hz2).go t2
    · rintro σ H1 ⟨v2, v3, v4, v5, v6, v7, ys, rfl, e1, hl1, hy1⟩
      refine ⟨_, rfl, a, _, 1, .ref b2, rfl, rfl, SqT.of (e1 _ _ ha), rfl, b2, rfl, ⟨xs2, SqT.of (e1 _ _ hbx2)⟩, ?_⟩
      have lx2 : xs2.length = pic.letters.length := by rw [hx2.len, List.length_map]
      refine for_fold (as := pic.letters) (lx2 ▸ walk_tup (K := K) (a := b2) (xs := xs2)) (fun a l => a ++ l.names) _ (fun acc σ H' => ∃ v2 v3 v4 v5 v6 v7 ys, σ = [some (.ref a), some (.ref l), v2, v3, v4, v5, v6, v7] ∧ Ex H H' ∧ H' l = some (.lst ys) ∧ DtAll H' ys (acc.map dN))
        ⟨_, _, _, _, _, _, ys, rfl, e1, hl1, hy1⟩ (fun _ σ H' ⟨_, _, _, _, _, _, _, _, e, _⟩ => SqT.of (e _ _ hbx2)) ?_ ?_
      · rintro i lt x acc σ _ H2 hi hacc ⟨v2, v3, v4, v5, v6, v7, ys, rfl, e2, hl2, hy2⟩ ⟨rfl, hxi⟩
        obtain ⟨y, hy, dy⟩ := hx2.get (i := i) (d := dLetter lt) (by rw [List.getElem?_map, hi]; rfl)
        rw [hxi] at hy
        cases hy
        obtain ⟨c, u1, u2, u3, rfl, hc, g1, g2, g3⟩ := Dt.t3 (dy.go e2.tx)
        obtain ⟨c1, zs, rfl, hc1, hzs⟩ := g3.tupE
        refine ⟨c, _, rfl, SqT.of hc, rfl, u1, _, rfl, u2, _, rfl, .ref c1, _, rfl, rfl, ?_⟩
        refine ⟨_, rfl, .inl ⟨rfl, _, SqL.of hl2⟩, _, rfl, l, c1, ys, zs, rfl, rfl, hl2, hc1, ?_, ?_⟩
        · have b1 := hands_len pic hb pic.houses.length
          rw [List.take_length] at b1
          have b2 := app_len (fun l : Letter => l.names) 10 (pic.letters.take i) (pic.houses.foldl (fun a h => a ++ h.hands.filterMap id) []) fun l hl => hb.lns l (List.mem_of_mem_take hl)
          rw [← hacc, List.length_take] at b2
          have b3 := hb.ls
          have b4 := hb.lns lt (List.mem_of_getElem? hi)
          have l1 := hy2.len
          have l2 := hzs.len
          rw [List.length_map] at l1 l2
          exact le16 (by omega)
        · have t2 : TX H2 (upd H2 l (.lst (ys ++ zs))) := TX.updL hl2
          refine ⟨_, _, _, _, _, _, _, rfl, e2.mut hl, upd_same, ?_⟩
          rw [List.map_append]
          exact (hy2.append hzs).go t2
      · rintro σ H2 ⟨v2, v3, v4, v5, v6, v7, ys, rfl, e2, hl2, hy2⟩
        exact ⟨_, rfl, k l H2 ys hl e2 hl2 hy2⟩
/-! ### letters_named -/
def spLettersNamed : Sp := fun vs H Q _ => ∃ v pic, vs = [v] ∧ Dt H v (dPic pic) ∧ PicB pic ∧ ∀ u H', Ex H H' → Dt H' u (.tuple ((lettersL pic).map dNs)) → Q u H'
theorem sc_s_letters_named : FnScope ["picture", "letter"] ["picture"] (defScope s_letters_named) := ⟨rfl, rfl, rfl, by decide +kernel, rfl, by decide +kernel, by decide +kernel⟩
theorem ok_letters_named (F : FnP K "letters_named" "letters_named" s_letters_named f fd) (B : Bl mg) : FnOk P w K mg base CX0 1 f fd ["picture"] spLettersNamed := by
  refine F.ok sc_s_letters_named (fun vs H Q E h => ?_) (fun cdv A outer s H vs Q E hr h => ?_)
  · obtain ⟨v, pic, rfl, _⟩ := h
    rfl
  · obtain ⟨v, pic, rfl, hv, hb, k⟩ := h
    have hu := hu_of hr
    refine ⟨_, PSs.nox (pss_one (ps_ret (pe_callTy call_tuple_of (by rfl) B.tuple (by decide +kernel) (pa_cons (pe_lc (own := [("letter", 1)]) (g := gName 1) (tt := tYes) rfl sc_s_letters_named.nd (pi_tup (pe_ix ix_tup (pv 0) pe_int (fun _ _ => rfl))) (blkOk_by (N := ["picture", "letter"]) (sc := defScope s_letters_named) (by decide +kernel)) (fun _ _ _ _ _ => (pg_name (i := 1) sc_s_letters_named.nd rfl (Or.inl rfl))) (fun _ _ _ _ _ => pts_nil) (fun _ _ _ _ _ => (pe_ix (r := rIxT K) ix_tup (pv 1) pe_int (fun _ _ => rfl)))) pa_nil)))), ?_⟩
    obtain ⟨a, v1, v2, rfl, ha, h1, h2⟩ := Dt.t2 hv
    obtain ⟨b2, xs2, rfl, hbx2, hx2⟩ := h2.tupE
    have lx2 : xs2.length = pic.letters.length := by rw [hx2.len, List.length_map]
    refine ⟨_, rfl, a, _, 1, .ref b2, rfl, rfl, SqT.of ha, rfl, b2, rfl, ⟨xs2, SqT.of hbx2⟩, fun D hD => ?_⟩
    have bl := hb.ls
    refine lc_data (as := pic.letters) (H1 := H) (lx2 ▸ walk_tup (K := K) (a := b2) (xs := xs2)) (fun l x H => Dt H x (dLetter l)) (fun _ => true) (fun l => dNs l.names) (by omega) hD ?_ (fun H' e => SqT.of (e _ _ hbx2)) ?_ ?_ ?_ ?_
    · exact fun _ => rfl
    · rintro j lt x H2 H3 hj e ⟨rfl, hx3⟩
      obtain ⟨y, hy, dy⟩ := hx2.get (i := j) (d := dLetter lt) (by rw [List.getElem?_map, hj]; rfl)
      rw [hx3] at hy
      cases hy
      exact ⟨rfl, dy.go e.tx⟩
    · intro o x H2 _ _ im R r
      exact r
    · intro lt x H2 _ _ _ im R r
      obtain ⟨c, u1, u2, u3, rfl, hc, g1, g2, g3⟩ := Dt.t3 im
      exact ⟨_, rfl, c, _, 2, u3, rfl, rfl, SqT.of hc, rfl, r _ _ (Ex.refl _) g3⟩
    · intro zs H2 e2 hD2 hz2
      refine ⟨D, zs, rfl, .inl ⟨SqL.of hD2, fun q hq => k _ _ (e2.trans (Ex.new hq)) ?_⟩⟩
      have e3 : (pic.letters.filter fun _ => true).map (fun l => dNs l.names) = (lettersL pic).map dNs := by
        unfold lettersL
        rw [List.map_map, List.filter_eq_self.mpr fun _ _ => rfl]
        rfl
      rw [e3] at hz2
      exact .tup upd_same (hz2.go (TX.updN hq))
end
end HF
set_option Elab.async false
set_option linter.all false
set_option maxRecDepth 100000
set_option maxHeartbeats 4000000
namespace HF
open PySem PySem.Spec PyProof.Rows L2
/-! ### lists of data compared -/
section
variable {X : Cx}
@[irreducible] def rEqP (K : PySem.W.Frag) : R2 := fun x y H Q => ∃ d e, Dp K H x d ∧ Dp K H y e ∧ d.plain = true ∧ e.plain = true ∧ min d.depth e.depth ≤ 60 ∧ Q (.bl (PyData.eqv d e)) H
@[irreducible] def rNeP (K : PySem.W.Frag) : R2 := fun x y H Q => ∃ d e, Dp K H x d ∧ Dp K H y e ∧ d.plain = true ∧ e.plain = true ∧ min d.depth e.depth ≤ 60 ∧ Q (.bl (!PyData.eqv d e)) H
theorem op_eqP (hu : X.A.units + 64 < cLine) : OpR X (compareOp .Eq) (rEqP X.K) := by
  intro pins s σ H x y v u Q I rx ry h
  unfold rEqP at h
  obtain ⟨d, e, hd, he, pd, pe, hl, q⟩ := h
  obtain ⟨as, r1⟩ := Dp.reads I d x v hd rx
  obtain ⟨bs, r2⟩ := Dp.reads I e y u he ry
  exact SeqAt.eq_plain r1 r2 pd pe (by omega) ⟨.bl _, H, I, rfl, q⟩
theorem op_neP (hu : X.A.units + 64 < cLine) : OpR X (compareOp .NotEq) (rNeP X.K) := by
  intro pins s σ H x y v u Q I rx ry h
  unfold rNeP at h
  obtain ⟨d, e, hd, he, pd, pe, hl, q⟩ := h
  obtain ⟨as, r1⟩ := Dp.reads I d x v hd rx
  obtain ⟨bs, r2⟩ := Dp.reads I e y u he ry
  exact SeqAt.ne_plain r1 r2 pd pe (by omega) ⟨.bl _, H, I, rfl, q⟩
end
theorem rEqP.mk {K : PySem.W.Frag} {H : Hp} {x y : V} {d e : PyData} {Q : VK} (h : Dp K H x d) (g : Dp K H y e) (p : d.plain = true) (q : e.plain = true) (l : min d.depth e.depth ≤ 60) (k : Q (.bl (PyData.eqv d e)) H) : rEqP K x y H Q := by
  unfold rEqP
  exact ⟨d, e, h, g, p, q, l, k⟩
theorem rNeP.mk {K : PySem.W.Frag} {H : Hp} {x y : V} {d e : PyData} {Q : VK} (h : Dp K H x d) (g : Dp K H y e) (p : d.plain = true) (q : e.plain = true) (l : min d.depth e.depth ≤ 60) (k : Q (.bl (!PyData.eqv d e)) H) : rNeP K x y H Q := by
  unfold rNeP
  exact ⟨d, e, h, g, p, q, l, k⟩
theorem dpL {K : PySem.W.Frag} {H : Hp} {p : Addr} {xs : List V} {ds : List PyData} (h : H p = some (.lst xs)) (t : DtAll H xs ds) : Dp K H (.ref p) (.list ds) := .lst (SqL.of h) (DtAll.dp _ t)
/-- l != [] , l == [] -/
theorem neMt {K : PySem.W.Frag} {H : Hp} {p q : Addr} {xs : List V} {ds : List PyData} {Q : VK} (hp : H p = some (.lst xs)) (ht : DtAll H xs ds) (hq : H q = some (.lst [])) (k : Q (.bl (!ds.isEmpty)) H) : rNeP K (.ref p) (.ref q) H Q := by
  unfold rNeP
  refine ⟨.list ds, .list [], dpL hp ht, dpL hq .nil, by simpa [PyData.plain] using DtAll.pl _ ht, rfl, ?_, ?_⟩
  · have : (PyData.list []).depth = 1 := by simp [PyData.depth, PyData.depthAll]
    omega
  · have e : PyData.eqv (.list ds) (.list []) = ds.isEmpty := by cases ds <;> simp [PyData.eqv, PyData.eqvAll]
    rw [e]
    exact k
theorem eqMt {K : PySem.W.Frag} {H : Hp} {p q : Addr} {xs : List V} {ds : List PyData} {Q : VK} (hp : H p = some (.lst xs)) (ht : DtAll H xs ds) (hq : H q = some (.lst [])) (k : Q (.bl ds.isEmpty) H) : rEqP K (.ref p) (.ref q) H Q := by
  unfold rEqP
  refine ⟨.list ds, .list [], dpL hp ht, dpL hq .nil, by simpa [PyData.plain] using DtAll.pl _ ht, rfl, ?_, ?_⟩
  · have : (PyData.list []).depth = 1 := by simp [PyData.depth, PyData.depthAll]
    omega
  · have e : PyData.eqv (.list ds) (.list []) = ds.isEmpty := by cases ds <;> simp [PyData.eqv, PyData.eqvAll]
    rw [e]
    exact k
theorem DtAll.splitE {H : Hp} : ∀ {ds : List PyData} {xs : List V} {es : List PyData}, DtAll H xs (ds ++ es) → ∃ a b, xs = a ++ b ∧ DtAll H a ds ∧ DtAll H b es
  | [], xs, _, h => ⟨[], xs, rfl, .nil, h⟩
  | d :: ds, _, es, h => by
    obtain ⟨v, r, rfl, h1, h2⟩ := DtAll.consE (d := d) (ds := ds ++ es) h
    obtain ⟨a, b, rfl, h3, h4⟩ := DtAll.splitE h2
    exact ⟨v :: a, b, rfl, .cons h1 h3, h4⟩
theorem DtAll.snocE {H : Hp} {xs : List V} {ds : List PyData} {d : PyData} (h : DtAll H xs (ds ++ [d])) : ∃ a v, xs = a ++ [v] ∧ DtAll H a ds ∧ Dt H v d := by
  obtain ⟨a, b, rfl, h1, h2⟩ := h.splitE
  obtain ⟨v, r, rfl, h3, h4⟩ := h2.consE
  obtain rfl := h4.nilE
  exact ⟨a, v, rfl, h1, h3⟩
/-- l.pop() -/
theorem popped {H : Hp} {l : Addr} {a : List V} {v : V} {Q : VK} (h : H l = some (.lst (a ++ [v]))) (k : Q v (upd H l (.lst a))) : rPop (.ref l) [] H Q := by
  refine ⟨l, a ++ [v], v, rfl, rfl, h, by simp, ?_⟩
  rw [List.dropLast_concat]
  exact k
/-- l.pop(0) -/
theorem popped0 {H : Hp} {l : Addr} {a : List V} {v : V} {Q : VK} (h : H l = some (.lst (v :: a))) (k : Q v (upd H l (.lst a))) : rPopAt (.ref l) [.int 0] H Q := by
  refine ⟨l, v :: a, 0, 0, v, rfl, rfl, h, by decide, by decide, ?_, rfl, k⟩
  unfold seqIndex?
  simp
theorem filt_isEmpty (ns : List Nm) : (ns.map dN).isEmpty = ns.isEmpty := by cases ns <;> rfl
/-- the children, as a comprehension makes them -/
theorem comp_chl {F : List (Nm × Flds)} {n : Nm} {fs : Flds} (h : aget F n = some fs) : (fs.filter (·.isSome)).map dO = (chl F n).map dN := by
  unfold chl
  rw [h]
  exact some_dO fs
theorem chl_len {F : List (Nm × Flds)} (g : GrB F) (n : Nm) : (chl F n).length ≤ 4 := by
  unfold chl
  cases h : aget F n with
  | none => simp
  | some fs => exact Nat.le_trans (List.length_filterMap_le _ _) (g.fls n fs h)
end HF
set_option Elab.async false
set_option linter.all false
set_option maxRecDepth 100000
set_option maxHeartbeats 4000000
namespace HF
open PySem PySem.Spec PyProof.Rows L2
/-! ### tuples put together -/
section
variable {X : Cx}
@[irreducible] def rCatU : R2 := fun x y H Q => ∃ ds es, Dt H x (.tuple ds) ∧ Dt H y (.tuple es) ∧ ds.length + es.length ≤ 100000 ∧ ∀ z H', Ex H H' → Dt H' z (.tuple (ds ++ es)) → Q z H'
theorem op_catU : OpR X (binaryOp .Add) rCatU := by
  intro pins s σ H x y v u Q I rx ry h
  unfold rCatU at h
  obtain ⟨ds, es, hd, he, hl, q⟩ := h
  obtain ⟨a, xs, rfl, ha, hxs⟩ := hd.tupE
  obtain ⟨b, ys, rfl, hb, hys⟩ := he.tupE
  have l1 := hxs.len
  have l2 := hys.len
  refine op_catA pins s σ H _ _ v u Q I rx ry ⟨a, b, xs, ys, rfl, rfl, SqT.of ha, SqT.of hb, Nat.le_trans (by omega : xs.length + ys.length ≤ 100000) (by decide), fun e => ?_, fun _ e => ?_, fun _ _ p hp => ?_⟩
  · subst e
    cases ds with
    | nil => exact q _ _ (Ex.refl _) he
    | cons d r => simp at l1
  · subst e
    cases es with
    | nil => rw [List.append_nil] at q; exact q _ _ (Ex.refl _) hd
    | cons d r => simp at l2
  · have e1 : Ex H (upd H p (.tup (xs ++ ys))) := Ex.new hp
    exact q _ _ e1 (.tup upd_same ((hxs.append hys).go e1.tx))
end
theorem rCatU.mk {H : Hp} {x y : V} {ds es : List PyData} {Q : VK} (h : Dt H x (.tuple ds)) (g : Dt H y (.tuple es)) (l : ds.length + es.length ≤ 100000) (k : ∀ z H', Ex H H' → Dt H' z (.tuple (ds ++ es)) → Q z H') : rCatU x y H Q := by
  unfold rCatU
  exact ⟨ds, es, h, g, l, k⟩
/-! ### for i, x in enumerate(..) as a fold -/
section
variable {J : It} {G : Hp → Prop} {α β : Type}
theorem for_en {as : List α} {xs : List V} (w : Walk J xs.length G (YPair (fun i => some (.int (i : Nat))) (fun i => xs[i]?))) (lx : xs.length = as.length) {g : TG} {tb : TS} {D : Ends} {σ : L2.St} {H : Hp} (step : β → α × Nat → β) (b0 : β) (Rel : β → L2.St → Hp → Prop) (h0 : Rel b0 σ H) (hG : ∀ b σ H, Rel b σ H → G H)
    (hs : ∀ i al x T b σ H, as[i]? = some al → xs[i]? = some x → b = (as.zipIdx.take i).foldl step b0 → Rel b σ H → H T = none → g (.ref T) σ (upd H T (.tup [.int (i : Nat), x])) fun σ2 H2 => tb { D with nx := Rel (step b (al, i)), ct := Rel (step b (al, i)), bk := D.nx } σ2 H2)
    (hd : ∀ σ H, Rel (as.zipIdx.foldl step b0) σ H → D.nx σ H) :
    ∃ W : Nat → Nat → L2.St → Hp → Prop, (∃ m, W 0 m σ H) ∧ ∀ i m σ H, W i m σ H →
      (J.stop i H ∧ D.nx σ H) ∨ (J.go i H ∧ ∃ N : L2.St → Hp → Prop, (∀ σ' H', N σ' H' → ∃ m', m' < m ∧ W (i + 1) m' σ' H') ∧ ∀ x H', J.yld i H x H' → g x σ H' fun σ2 H2 => tb { D with nx := N, ct := N, bk := D.nx } σ2 H2) := by
  have lz : xs.length = as.zipIdx.length := by rw [List.length_zipIdx, lx]
  refine for_fold (as := as.zipIdx) (lz ▸ w) step b0 Rel h0 hG ?_ hd
  rintro i ⟨al, j⟩ v b σ H H' hi hb hr ⟨T, x, y, rfl, hT, rfl, e1, e2⟩
  rw [List.getElem?_zipIdx] at hi
  obtain ⟨z, hz, e⟩ := Option.map_eq_some_iff.mp hi
  simp only [Nat.zero_add, Prod.mk.injEq] at e
  obtain ⟨rfl, rfl⟩ := e
  cases e1
  exact hs i z y T b σ H hz e2 hb hr hT
theorem app_fold {γ : Type} (g : α → List γ) : ∀ (l : List α) (acc : List γ), l.foldl (fun a x => a ++ g x) acc = acc ++ l.flatMap g
  | [], acc => by simp
  | x :: r, acc => by
    rw [List.foldl_cons, app_fold g r, List.flatMap_cons, List.append_assoc]
theorem app_fold_id {γ : Type} (g : α → List γ) (l : List α) : l.foldl (fun a x => a ++ g x) [] = l.flatMap g := by rw [app_fold, List.nil_append]
end
section
variable {J : It} {G : Hp → Prop} {Y : Nat → Hp → V → Hp → Prop} {α : Type}
/-- a comprehension over data, its target any: what the slots then are is Sg -/
theorem lc_gen {as : List α} (w : Walk J as.length G Y) {g : TG} {tt : TT} {te : TE} {vs : List Nat} {σ : L2.St} {H1 : Hp} {D : Addr} {Qd : Hp → Prop} (Im : α → V → Hp → Prop) (Sg : α → L2.St → Hp → Prop) (f : α → Bool) (out : α → PyData) (hz : as.length ≤ 100000) (hD : H1 D = none)
    (hG : ∀ H, Ex H1 H → G H) (hY : ∀ i al x H H', as[i]? = some al → Ex H1 H → Y i H x H' → Ex H H' ∧ Im al x H')
    (hg : ∀ al x H, al ∈ as → Ex H1 H → Im al x H → ∀ R : L2.St → Hp → Prop, (∀ σ2, wipe σ2 vs = wipe σ vs → Sg al σ2 H → R σ2 H) → g x (wipe σ vs) H R)
    (ht : ∀ al σ2 H, al ∈ as → Ex H1 H → Sg al σ2 H → ∀ R : Bool → Hp → Prop, R (f al) H → tt σ2 H R)
    (he : ∀ al σ2 H, al ∈ as → f al = true → Ex H1 H → Sg al σ2 H → ∀ R : V → Hp → Prop, (∀ y H', Ex H H' → Dt H' y (out al) → R y H') → te σ2 H R)
    (hd : ∀ ys H', Ex H1 H' → H' D = some (.lst ys) → DtAll H' ys ((as.filter f).map out) → Qd H') :
    ∃ W : Nat → Nat → Hp → Prop, (∃ m, W 0 m (upd H1 D (.lst []))) ∧ ∀ i m H, W i m H →
      (J.stop i H ∧ Qd H) ∨ (J.go i H ∧ ∃ Nx : Hp → Prop, (∀ H', Nx H' → ∃ m', m' < m ∧ W (i + 1) m' H') ∧ ∀ x H', J.yld i H x H' → g x (wipe σ vs) H' fun σ2 H2 => wipe σ2 vs = wipe σ vs ∧ tt σ2 H2 fun b H3 =>
        if b = true then te σ2 H3 fun y H4 => ∃ acc, H4 D = some (.lst acc) ∧ acc.length < sizeLine ∧ Nx (upd H4 D (.lst (acc ++ [y]))) else Nx H3) := by
  refine lc_it w (fun i H => Ex H1 H ∧ ∃ ys, H D = some (.lst ys) ∧ DtAll H ys (((as.take i).filter f).map out)) ⟨Ex.new hD, [], upd_same, by simpa using DtAll.nil⟩ (fun i H _ p => hG H p.1) (fun i x H H' hi p y => ?_) (fun H p => ?_)
  · obtain ⟨e0, ys, h1, h2⟩ := p
    have e : as[i]? = some as[i] := by simp [hi]
    obtain ⟨e01, im⟩ := hY i as[i] x H H' e e0 y
    have e1 := e0.trans e01
    have h1 := e01 _ _ h1
    have h2 := h2.go e01.tx
    have hm : as[i] ∈ as := List.getElem_mem hi
    have e3 : as.take (i + 1) = as.take i ++ [as[i]] := by
      rw [List.take_add_one, e]
      rfl
    refine hg as[i] x H' hm e1 im _ fun σ2 hw sg => ⟨hw, ht as[i] σ2 H' hm e1 sg _ ?_⟩
    cases q : f as[i] with
    | true =>
      refine iteT (he as[i] σ2 H' hm q e1 sg _ fun y H4 e4 d4 => ⟨ys, e4 _ _ h1, ?_, ?_⟩)
      · have := h2.len
        rw [List.length_map] at this
        have h3 := List.length_filter_le f (as.take i)
        rw [List.length_take] at h3
        exact Nat.lt_of_le_of_lt (show ys.length ≤ 100000 by omega) (by decide)
      · have t : TX H4 (upd H4 D (.lst (ys ++ [y]))) := TX.updL (e4 _ _ h1)
        refine ⟨(e1.trans e4).mut hD, _, upd_same, ?_⟩
        rw [e3, List.filter_append, List.map_append]
        have e5 : ([as[i]].filter f).map out = [out as[i]] := by simp [List.filter_cons, q]
        rw [e5]
        exact ((h2.go e4.tx).snoc d4).go t
    | false =>
      refine iteF ⟨e1, ys, h1, ?_⟩
      rw [e3, List.filter_append, List.map_append]
      have e5 : ([as[i]].filter f).map out = [] := by simp [List.filter_cons, q]
      rw [e5, List.append_nil]
      exact h2
  · obtain ⟨e1, ys, h1, h2⟩ := p
    rw [List.take_length] at h2
    exact hd ys H e1 h1 h2
end
/-- a list that grows by one -/
theorem appended {H : Hp} {l : Addr} {xs : List V} {v : V} {Q : VK} (h : H l = some (.lst xs)) (hl : xs.length ≤ 100000) (k : Q .non (upd H l (.lst (xs ++ [v])))) : rAppend (.ref l) [v] H Q :=
  ⟨l, xs, v, rfl, rfl, h, Nat.lt_of_le_of_lt hl (by decide), k⟩
theorem Ch.back {H H' : Hp} {p : Addr} {o : HO} (c : Ch p H H') (h : H p = some o) : Ex H (upd H' p o) := fun a u ha => by
  by_cases e : a = p
  · subst e
    rw [h] at ha
    cases ha
    exact upd_same
  · rw [upd_ne e]
    exact c a u e ha
end HF
set_option Elab.async false
set_option linter.all false
set_option maxRecDepth 100000
set_option maxHeartbeats 4000000
namespace HF
open PySem PySem.Spec PyProof.Rows L2
/-- m references in a row -/
abbrev refs (m : Nat) (ad : Nat → Addr) : List V := (List.range m).map fun i => V.ref (ad i)
theorem refs_len (m : Nat) (ad : Nat → Addr) : (refs m ad).length = m := by simp [refs]
theorem refs_get {m i : Nat} (ad : Nat → Addr) (h : i < m) : (refs m ad)[i]? = some (.ref (ad i)) := by simp [refs, h]
theorem refs_succ {m : Nat} (ad : Nat → Addr) (q : Addr) : refs (m + 1) (fun i => if i = m then q else ad i) = refs m ad ++ [.ref q] := by
  unfold refs
  rw [List.range_succ, List.map_append]
  congr 1
  · apply List.map_congr_left
    intro i hi
    rw [List.mem_range] at hi
    show V.ref (if i = m then q else ad i) = V.ref (ad i)
    rw [if_neg (by omega)]
  · simp
section
variable {J : It} {G : Hp → Prop} {Y : Nat → Hp → V → Hp → Prop} {α : Type}
/-- a comprehension that makes a new object of each item -/
theorem lc_fresh {as : List α} (w : Walk J as.length G Y) {g : TG} {te : TE} {vs : List Nat} {σ : L2.St} {H1 : Hp} {D : Addr} {Qd : Hp → Prop} (Im : α → V → Hp → Prop) (Sg : α → L2.St → Hp → Prop) (Ob : α → HO → Hp → Prop) (hz : as.length ≤ 100000) (hD : H1 D = none)
    (hOb : ∀ al o H H', Ob al o H → TX H H' → Ob al o H')
    (hG : ∀ H, Ex H1 H → G H) (hY : ∀ i al x H H', as[i]? = some al → Ex H1 H → Y i H x H' → Ex H H' ∧ Im al x H')
    (hg : ∀ al x H, al ∈ as → Ex H1 H → Im al x H → ∀ R : L2.St → Hp → Prop, (∀ σ2, wipe σ2 vs = wipe σ vs → Sg al σ2 H → R σ2 H) → g x (wipe σ vs) H R)
    (he : ∀ al σ2 H, al ∈ as → Ex H1 H → Sg al σ2 H → ∀ R : V → Hp → Prop, (∀ q o H', H q = none → Ex H H' → H' q = some o → Ob al o H' → R (.ref q) H') → te σ2 H R)
    (hd : ∀ ad H', Ex H1 H' → H' D = some (.lst (refs as.length ad)) → (∀ i < as.length, H1 (ad i) = none ∧ ad i ≠ D) → (∀ i < as.length, ∀ j < as.length, ad i = ad j → i = j) → (∀ i al, as[i]? = some al → ∃ o, H' (ad i) = some o ∧ Ob al o H') → Qd H') :
    ∃ W : Nat → Nat → Hp → Prop, (∃ m, W 0 m (upd H1 D (.lst []))) ∧ ∀ i m H, W i m H →
      (J.stop i H ∧ Qd H) ∨ (J.go i H ∧ ∃ Nx : Hp → Prop, (∀ H', Nx H' → ∃ m', m' < m ∧ W (i + 1) m' H') ∧ ∀ x H', J.yld i H x H' → g x (wipe σ vs) H' fun σ2 H2 => wipe σ2 vs = wipe σ vs ∧ tYes σ2 H2 fun b H3 =>
        if b = true then te σ2 H3 fun y H4 => ∃ acc, H4 D = some (.lst acc) ∧ acc.length < sizeLine ∧ Nx (upd H4 D (.lst (acc ++ [y]))) else Nx H3) := by
  refine lc_it w (fun i H => Ex H1 H ∧ ∃ ad, H D = some (.lst (refs i ad)) ∧ (∀ j < i, H1 (ad j) = none ∧ ad j ≠ D) ∧ (∀ j < i, ∀ k < i, ad j = ad k → j = k) ∧ (∀ j al, j < i → as[j]? = some al → ∃ o, H (ad j) = some o ∧ Ob al o H))
    ⟨Ex.new hD, fun _ => 0, upd_same, fun j h => absurd h (Nat.not_lt_zero _), fun j h => absurd h (Nat.not_lt_zero _), fun j al h => absurd h (Nat.not_lt_zero _)⟩ (fun i H _ p => hG H p.1) (fun i x H H' hi p y => ?_) (fun H p => ?_)
  · obtain ⟨e0, ad, h1, h2, h3, h4⟩ := p
    have e : as[i]? = some as[i] := by simp [hi]
    obtain ⟨e01, im⟩ := hY i as[i] x H H' e e0 y
    have e1 := e0.trans e01
    have h1 := e01 _ _ h1
    have h4 : ∀ j al, j < i → as[j]? = some al → ∃ o, H' (ad j) = some o ∧ Ob al o H' := fun j al hj ha => by
      obtain ⟨o, q1, q2⟩ := h4 j al hj ha
      exact ⟨o, e01 _ _ q1, hOb _ _ _ _ q2 e01.tx⟩
    have hm : as[i] ∈ as := List.getElem_mem hi
    refine hg as[i] x H' hm e1 im _ fun σ2 hw sg => ⟨hw, ?_⟩
    refine he as[i] σ2 H' hm e1 sg _ fun q o H4 hq e4 ho ob => ⟨refs i ad, e4 _ _ h1, ?_, ?_⟩
    · rw [refs_len]
      exact Nat.lt_of_le_of_lt (show i ≤ 100000 by omega) (by decide)
    · have hq1 : H1 q = none := e1.back hq
      have nqD : q ≠ D := fun z => by rw [z, h1] at hq; cases hq
      have adq : ∀ j < i, ad j ≠ q := fun j hj z => by
        have ej : as[j]? = some as[j] := by simp [Nat.lt_trans hj hi]
        obtain ⟨o, q1, _⟩ := h4 j _ hj ej
        rw [z, hq] at q1
        cases q1
      have t : TX H4 (upd H4 D (.lst (refs i ad ++ [.ref q]))) := TX.updL (e4 _ _ h1)
      refine ⟨(e1.trans e4).mut hD, fun j => if j = i then q else ad j, by rw [refs_succ]; exact upd_same, fun j hj => ?_, fun j hj k hk => ?_, fun j al hj ha => ?_⟩
      · by_cases z : j = i
        · simp only [z, if_true]
          exact ⟨hq1, nqD⟩
        · simp only [z, if_false]
          exact h2 j (by omega)
      · by_cases z : j = i
        · by_cases z2 : k = i
          · exact fun _ => z.trans z2.symm
          · simp only [z, z2, if_true, if_false]
            exact fun y => absurd y.symm (adq k (by omega))
        · by_cases z2 : k = i
          · simp only [z, z2, if_true, if_false]
            exact fun y => absurd y (adq j (by omega))
          · simp only [z, z2, if_false]
            exact h3 j (by omega) k (by omega)
      · by_cases z : j = i
        · subst z
          rw [e] at ha
          cases ha
          simp only [if_true]
          rw [upd_ne nqD]
          exact ⟨o, ho, hOb _ _ _ _ ob t⟩
        · simp only [z, if_false]
          obtain ⟨o2, q1, q2⟩ := h4 j al (by omega) ha
          rw [upd_ne (h2 j (by omega)).2]
          exact ⟨o2, e4 _ _ q1, hOb _ _ _ _ q2 (e4.tx.trans t)⟩
  · obtain ⟨e1, ad, h1, h2, h3, h4⟩ := p
    exact hd ad H e1 h1 h2 h3 fun i al ha => h4 i al (List.getElem?_eq_some_iff.mp ha).1 ha
end
end HF
set_option Elab.async false
set_option linter.all false
set_option maxRecDepth 100000
set_option maxHeartbeats 4000000
namespace HF
open PySem PySem.Spec PyProof.Rows L2
section
variable {P : Program} {w : World} {K : PySem.W.Frag} {mg : Str → Option Value} {base : Heap} {f : Addr} {fd : FuncData}
theorem exRd {H H' : Hp} {a : Addr} {u : HO} (e : Ex H H') (h : Rd H a u) : Rd H' a u := by
  rcases h with h | ⟨o, h⟩
  · exact .inl (e _ _ h)
  · exact .inr ⟨o, e _ _ h⟩
/-- the list of names at l, all things' -/
structure NmL (H : Hp) (l : Addr) (ns : List Nm) : Prop where
  ex : ∃ xs, H l = some (.lst xs) ∧ DtAll H xs (ns.map dN)
theorem NmL.len {H : Hp} {l : Addr} {ns : List Nm} (h : NmL H l ns) : ∃ xs, H l = some (.lst xs) ∧ DtAll H xs (ns.map dN) ∧ xs.length = ns.length := by
  obtain ⟨xs, h1, h2⟩ := h.ex
  exact ⟨xs, h1, h2, by rw [h2.len, List.length_map]⟩
/-- the fields of things stand in the dict at d -/
structure FdD (H : Hp) (d : Addr) (F : List (Nm × Flds)) : Prop where
  ex : ∃ kvs, Rd H d (.dT kvs) ∧ KVs H dFlds kvs F
theorem FdD.go {H H' : Hp} {d : Addr} {F : List (Nm × Flds)} (h : FdD H d F) (e : Ex H H') : FdD H' d F := by
  obtain ⟨kvs, h1, h2⟩ := h.ex
  exact ⟨kvs, exRd e h1, h2.go e.tx⟩
/-- the fields of a name that is a thing's -/
theorem FdD.get {H : Hp} {d a : Addr} {F : List (Nm × Flds)} {n : Nm} {fs : Flds} (h : FdD H d F) (hn : H a = some (.tup ((nkey n).map kV))) (e : aget F n = some fs) : ∃ v, DGet H d (.ref a) (some v) ∧ Dt H v (dFlds fs) := by
  obtain ⟨kvs, h1, h2⟩ := h.ex
  obtain ⟨v, h3, h4⟩ := h2.getS e
  refine ⟨v, ?_, h4⟩
  have q := dget_of h1 hn
  rw [h3] at q
  exact q
theorem FdD.isD {H : Hp} {d : Addr} {F : List (Nm × Flds)} (h : FdD H d F) : IsD H d := by
  obtain ⟨kvs, h1, _⟩ := h.ex
  exact .inr ⟨kvs, h1⟩
/-- name in fields -/
theorem FdD.has {H : Hp} {d a : Addr} {F : List (Nm × Flds)} {n : Nm} (h : FdD H d F) (hn : H a = some (.tup ((nkey n).map kV))) : ∃ o, DGet H d (.ref a) o ∧ o.isSome = decide (n ∈ keys F) := by
  obtain ⟨kvs, h1, h2⟩ := h.ex
  refine ⟨_, dget_of h1 hn, ?_⟩
  rw [h2.ks.isS n]
def spSpread : Sp := fun vs H Q _ => ∃ d l F R, vs = [.ref d, .ref l] ∧ FdD H d F ∧ GrB F ∧ NmL H l R ∧ (∀ n ∈ R, n ∈ keys F) ∧ R.length ≤ 1000 ∧
  ∀ m H' kms ks, H m = none → Ex H H' → H' m = some (.dT kms) → KNs kms ks → ks.Nodup → (∀ n, n ∈ ks ↔ Rch (chl F) R n) → Q (.ref m) H'
theorem sc_s_spread : FnScope ["fields", "names", "met", "waiting", "name", "other"] ["fields", "names"] (defScope s_spread) := ⟨rfl, rfl, rfl, by decide +kernel, rfl, by decide +kernel, by decide +kernel⟩
theorem ok_spread (F : FnP K "spread" "spread" s_spread f fd) (B : Bl mg) : FnOk P w K mg base CX0 1 f fd ["fields", "names"] spSpread := by
  refine F.ok sc_s_spread (fun vs H Q E h => ?_) (fun cdv A outer s H vs Q E hr h => ?_)
  · obtain ⟨d, l, F, R, rfl, _⟩ := h
    rfl
  · obtain ⟨d, l, F, R, rfl, hd, g, hl, hR, hR2, k⟩ := h
    have hu := hu_of hr
    have hu64 := hr.units
    refine ⟨_, PSs.nox (pss_cons (ps_set (i := 2) sc_s_spread.nd rfl (Or.inl rfl) pe_dnewT)
          (pss_cons (ps_set (i := 3) sc_s_spread.nd rfl (Or.inl rfl) (pe_callTy call_list_of (by rfl) B.list (by decide +kernel) (pa_cons (pv 1) pa_nil)))
          (pss_cons (ps_while PassesOwn.never (pt_cmpR (op_neP hu64) (pv 3) (pe_lst pa_nil) (nomark _))
          (pss_cons (ps_set (i := 4) sc_s_spread.nd rfl (Or.inl rfl) (pe_bm0 PySem.F.plainAttrs_list PySem.F.slot_list_pop PySem.F.type_list_pop mt_pop (pv 3)))
          (pss_one (ps_if (pt_cmp (pc_dnotin hu (pv 4) (pv 2)))
          (pss_cons (ps_dput hu (pv 2) (pv 4) pe_bl rfl)
          (pss_one (ps_expr (pe_bm PySem.F.plainAttrs_list PySem.F.slot_list_extend PySem.F.type_list_extend mt_extend (pv 3) (pa_cons (pe_lc (own := [("other", 5)]) (g := gName 5) rfl sc_s_spread.nd (pi_tup (pe_dget2 hu (pv 0) (pv 4) (pe_tup pa_nil) ⟨by rfl, by rfl, by rfl, by rfl⟩)) (blkOk_by (N := ["fields", "names", "met", "waiting", "name", "other"]) (sc := defScope s_spread) (by decide +kernel)) (fun _ _ _ _ _ => (pg_name (i := 5) sc_s_spread.nd rfl (Or.inl rfl))) (fun _ _ _ _ _ => (pts_one (pt_cmpR op_notN (pv 5) pe_non (nomark _)))) (fun _ _ _ _ _ => (pv 5))) pa_nil)))))
          pss_nil))))
          (pss_one (ps_ret (pv 2)))))), ?_⟩
    intro md hmd
    have e1 : Ex H (upd H md (.dT [])) := Ex.new hmd
    obtain ⟨xs, hx1, hx2, hx3⟩ := hl.len
    refine ⟨_, rfl, l, xs, rfl, .inl (SqL.of (e1 _ _ hx1)), fun wl hwl => ?_⟩
    have e2 : Ex H (upd (upd H md (.dT [])) wl (.lst xs)) := e1.trans (Ex.new hwl)
    have hmw : md ≠ wl := ne_of_none upd_same hwl
    refine ⟨fun m σ H' => ∃ met wt kms ys v4 v5, σ = [some (.ref d), some (.ref l), some (.ref md), some (.ref wl), v4, v5] ∧ Ex H H' ∧ H' md = some (.dT kms) ∧ KNs kms met ∧ H' wl = some (.lst ys) ∧ DtAll H' ys (wt.map dN) ∧
      Dfs (chl F) (keys F) R [] met wt ∧ m = 5 * unmet (keys F) met + wt.length ∧ m ≤ 3000, ⟨5 * unmet (keys F) [] + R.length, [], R, [], xs, none, none, rfl, e2, by rw [upd_ne hmw]; exact upd_same, rfl, upd_same, hx2.go e2.tx,
      Dfs.init hR (fun _ h => by cases h) List.nodup_nil (fun _ h => by cases h), rfl, ?_⟩, ?_⟩
    · have := unmet_le (keys F) []
      have := g.klen
      omega
    · rintro m σ H1 ⟨met, wt, kms, ys, v4, v5, rfl, e3, hm1, hk1, hw1, hy1, df, rfl, hm⟩
      refine ⟨_, rfl, le16 (by show 0 ≤ 100000; decide), fun q hq => neMt (Ex.new hq _ _ hw1) (hy1.go (TX.updN hq)) upd_same ⟨_, rfl, ?_⟩⟩
      rw [filt_isEmpty]
      have e4 : Ex H1 (upd H1 q (.lst [])) := Ex.new hq
      generalize hH2 : upd H1 q (.lst []) = H2 at e4
      have hm2 := e4 _ _ hm1
      have hw2 := e4 _ _ hw1
      have hy2 := hy1.go e4.tx
      have e5 := e3.trans e4
      rcases List.eq_nil_or_concat wt with rfl | ⟨wt, n, rfl⟩
      · refine iteF ⟨_, rfl, k md H2 kms met hmd e5 hm2 hk1 df.nd fun n => ?_⟩
        rw [df.done n]
        simp
      · have ne : (!(wt ++ [n]).isEmpty) = true := by simp
        rw [List.concat_eq_append] at *
        rw [ne]
        refine iteT ⟨fun σ' H' => ∃ met' wt' kms ys v4 v5, σ' = [some (.ref d), some (.ref l), some (.ref md), some (.ref wl), v4, v5] ∧ Ex H H' ∧ H' md = some (.dT kms) ∧ KNs kms met' ∧ H' wl = some (.lst ys) ∧ DtAll H' ys (wt'.map dN) ∧
          Dfs (chl F) (keys F) R [] met' wt' ∧ 5 * unmet (keys F) met' + wt'.length < 5 * unmet (keys F) met + (wt ++ [n]).length, fun σ' H' ⟨a1, a2, a3, a4, a5, a6, b1, b2, b3, b4, b5, b6, b7, b8⟩ => ⟨_, b8, a1, a2, a3, a4, a5, a6, b1, b2, b3, b4, b5, b6, b7, rfl, Nat.le_of_lt (Nat.lt_of_lt_of_le b8 hm)⟩, ?_⟩
        rw [List.map_append] at hy2
        obtain ⟨ys, y, rfl, hy3, dn⟩ := hy2.snocE
        have hn : n ∈ keys F := df.ws n (List.mem_append_right _ List.mem_cons_self)
        refine ⟨_, rfl, .inl ⟨rfl, _, SqL.of hw2⟩, popped hw2 ?_⟩
        have t3 : TX H2 (upd H2 wl (.lst ys)) := TX.updL hw2
        have e6 : Ex H (upd H2 wl (.lst ys)) := e5.mut (e1.back hwl)
        have hm3 : (upd H2 wl (.lst ys)) md = some (.dT kms) := by rw [upd_ne hmw]; exact hm2
        have hw3 : (upd H2 wl (.lst ys)) wl = some (.lst ys) := upd_same
        have hy4 := hy3.go t3
        have dn4 := dn.go t3
        generalize upd H2 wl (.lst ys) = H3 at t3 e6 hm3 hw3 hy4 dn4
        obtain ⟨a, rfl, ha⟩ := dn4.nm
        refine ⟨_, rfl, _, rfl, md, _, rfl, dget_of (.inl hm3) ha, _, rfl, ?_⟩
        rw [hk1.isS n]
        by_cases hmt : n ∈ met
        · rw [decide_eq_true hmt]
          refine iteF ⟨met, wt, kms, ys, _, _, rfl, e6, hm3, hk1, hw3, hy4, df.skip hmt, ?_⟩
          rw [List.length_append, List.length_singleton]
          omega
        · rw [decide_eq_false hmt]
          obtain ⟨fs, hfs⟩ := aget_some hn
          have lm : kms.length ≤ 400 := by
            rw [hk1.len]
            have h1 := df.nd
            have h2 := df.ms
            exact Nat.le_trans (List.Nodup.length_le_of_subset h1 h2) g.klen
          refine iteT ⟨_, rfl, _, rfl, md, _, rfl, dput_of hm3 ha _ (by omega), ?_⟩
          have t4 : TX H3 (upd H3 md (.dT (putK kms (nkey n) (.bl true)))) := TX.updD hm3
          have e7 : Ex H (upd H3 md (.dT (putK kms (nkey n) (.bl true)))) := e6.mut hmd
          have hm4 : (upd H3 md (.dT (putK kms (nkey n) (.bl true)))) md = some (.dT (putK kms (nkey n) (.bl true))) := upd_same
          have hw4 : (upd H3 md (.dT (putK kms (nkey n) (.bl true)))) wl = some (.lst ys) := by rw [upd_ne hmw.symm]; exact hw3
          have hy5 := hy4.go t4
          have ha4 := t4 _ _ ha
          generalize upd H3 md (.dT (putK kms (nkey n) (.bl true))) = H4 at t4 e7 hm4 hw4 hy5 ha4
          refine ⟨_, rfl, .inl ⟨rfl, _, SqL.of hw4⟩, _, rfl, d, rfl, (hd.go e7).isD, _, rfl, le16 (by show 0 ≤ 100000; decide), fun q2 hq2 => ?_⟩
          have e8 : Ex H4 (upd H4 q2 (.tup [])) := Ex.new hq2
          generalize upd H4 q2 (.tup []) = H5 at e8
          obtain ⟨v, hv1, hv2⟩ := (hd.go (e7.trans e8)).get (e8 _ _ ha4) hfs
          obtain ⟨c, zs, rfl, hc, hzs⟩ := Dt.tupE hv2
          refine ⟨_, hv1, c, rfl, ⟨zs, SqT.of hc⟩, fun D hD => ?_⟩
          have lz : zs.length = fs.length := by rw [hzs.len, List.length_map]
          have lf := g.fls n fs hfs
          refine lc_data (as := fs) (H1 := H5) (lz ▸ walk_tup (K := K) (a := c) (xs := zs)) (fun o x H => Dt H x (dO o)) (·.isSome) dO (by omega) hD ?_ (fun H' e => SqT.of (e _ _ hc)) ?_ ?_ ?_ ?_
          · exact fun _ => rfl
          · rintro j o x H2 H3 hj e ⟨rfl, hx3⟩
            obtain ⟨y, hy, dy⟩ := hzs.get (i := j) (d := dO o) (by rw [List.getElem?_map, hj]; rfl)
            rw [hx3] at hy
            cases hy
            exact ⟨rfl, dy.go e.tx⟩
          · intro o x H2 _ _ im R r
            exact ⟨_, rfl, rfl, _, rfl, by rw [isnt_none im]; exact r⟩
          · intro o x H2 _ _ _ im R r
            exact ⟨_, rfl, r _ _ (Ex.refl _) im⟩
          · intro zs2 H6 e9 hD6 hz6
            rw [comp_chl hfs] at hz6
            have hw6 := e9 _ _ (e8 _ _ hw4)
            have l1 := hy5.len
            have l2 := hz6.len
            rw [List.length_map] at l1 l2
            have l3 := chl_len g n
            have l4 : wt.length ≤ 3000 := by
              rw [List.length_append] at hm
              omega
            refine ⟨wl, D, ys, zs2, rfl, rfl, hw6, hD6, le16 (by omega), ?_⟩
            have t7 : TX H6 (upd H6 wl (.lst (ys ++ zs2))) := TX.updL hw6
            refine ⟨met ++ [n], wt ++ chl F n, _, _, _, _, rfl, ((e7.trans e8).trans e9).mut (e1.back hwl), by rw [upd_ne hmw]; exact e9 _ _ (e8 _ _ hm4), hk1.put hmt _, upd_same, ?_, df.more hmt g.chlS fun m => List.mem_append, ?_⟩
            · rw [List.map_append]
              exact ((hy5.go (e8.trans e9).tx).append hz6).go t7
            · have := unmet_less hn hmt
              rw [List.length_append, List.length_append, List.length_singleton]
              omega
/-! ### reached -/
def spReached : Sp := fun vs H Q _ => ∃ v pic, vs = [v] ∧ Dt H v (dPic pic) ∧ PicB pic ∧ GrB (fieldsF pic) ∧ (∀ n ∈ heldF pic, n ∈ keys (fieldsF pic)) ∧ ∀ u H', Ex H H' → Dt H' u (dNs (cloL (fieldsF pic) (heldF pic))) → Q u H'
structure CReach (P : Program) (w : World) (K : PySem.W.Frag) (mg : Str → Option Value) (base : Heap) : Prop where
  fields_by_name : Cal P w K mg base "fields_by_name" ["picture"] 1 spFields
  held_names : Cal P w K mg base "held_names" ["picture"] 1 spHeld
  spread : Cal P w K mg base "spread" ["fields", "names"] 1 spSpread
theorem sc_s_reached : FnScope ["picture"] ["picture"] (defScope s_reached) := ⟨rfl, rfl, rfl, by decide +kernel, rfl, by decide +kernel, by decide +kernel⟩
theorem ok_reached (F : FnP K "reached" "reached" s_reached f fd) (B : Bl mg) (C : CReach P w K mg base) : FnOk P w K mg base CX0 2 f fd ["picture"] spReached := by
  refine F.ok sc_s_reached (fun vs H Q E h => ?_) (fun cdv A outer s H vs Q E hr h => ?_)
  · obtain ⟨v, pic, rfl, _⟩ := h
    rfl
  · obtain ⟨v, pic, rfl, hv, hb, g, hin, k⟩ := h
    have hu := hu_of hr
    have hu64 := hr.units
    refine ⟨_, PSs.nox (pss_one (ps_ret (pe_callTy call_tuple_of (by rfl) B.tuple (by decide +kernel) (pa_cons (pe_callB (cr_sortD (key := nkey) srtN rfl hu64) (by rfl) B.sorted (by decide +kernel) (pa_cons (pe_cal C.spread (hr.mono (by decide)) pass0 (pa_cons (pe_cal C.fields_by_name (hr.mono (by decide)) pass0 (pa_cons (pv 0) pa_nil)) (pa_cons (pe_cal C.held_names (hr.mono (by decide)) pass0 (pa_cons (pv 0) pa_nil)) pa_nil))) pa_nil)) pa_nil)))), ?_⟩
    refine ⟨_, rfl, v, pic, rfl, hv, hb, fun d H1 kvs hd e1 hd1 hk1 => ?_⟩
    refine ⟨_, rfl, v, pic, rfl, hv.go e1.tx, hb, fun l H2 xs hl e2 hl2 hx2 => ?_⟩
    refine ⟨d, l, fieldsF pic, heldF pic, rfl, ⟨kvs, .inl (e2 _ _ hd1), hk1.go e2.tx⟩, g, ⟨xs, hl2, hx2⟩, hin, by have := held_len pic hb; omega, fun m H3 kms ks hm e3 hm3 hk3 nd hs => ?_⟩
    refine ⟨m, kms, ks, rfl, .inl hm3, hk3, fun b c hc => Dt.of_key b c hc, fun ys p hp hy => ?_⟩
    rw [srt_clo g hin nd hs] at hy
    refine ⟨p, ys, rfl, .inl ⟨SqL.of upd_same, fun q hq => ?_⟩⟩
    have e4 : Ex H3 (upd (upd H3 p (.lst ys)) q (.tup ys)) := (Ex.new hp).trans (Ex.new hq)
    exact k _ _ (((e1.trans e2).trans e3).trans e4) (.tup upd_same (hy.go e4.tx))
end
end HF
set_option Elab.async false
set_option linter.all false
set_option maxRecDepth 100000
set_option maxHeartbeats 4000000
namespace HF
open PySem PySem.Spec PyProof.Rows L2
/-! ### starts and ways -/
def startName (p : Pic) : Start → Option Nm
  | .hand h i => (p.houses[h]?).bind fun x => (x.hands[i]?).bind id
  | .letter i j => (p.letters[i]?).bind fun l => l.names[j]?
  | .field _ _ => none
def PathF (F : List (Nm × Flds)) : Nm → Steps → Nm → Prop
  | m, [], n => m = n
  | m, (a, f) :: r, n => a = m ∧ ∃ fs b, aget F a = some fs ∧ fs[f]? = some (some b) ∧ PathF F b r n
theorem thingAt_get {ds : List PyData} {i : Nat} {d : PyData} (h : ds[i]? = some d) : thingAt ds (i : Int) = d := by
  have hi := (List.getElem?_eq_some_iff.mp h).1
  unfold thingAt
  rw [if_pos ⟨by omega, by omega⟩, List.getD_eq_getElem?_getD, Int.toNat_natCast, h]
  rfl
structure CPap (P : Program) (w : World) (K : PySem.W.Frag) (mg : Str → Option Value) (base : Heap) : Prop where
  thing_at : Cal P w K mg base "thing_at" ["things", "place"] 1 spThingAt
section
variable {P : Program} {w : World} {K : PySem.W.Frag} {mg : Str → Option Value} {base : Heap} {f : Addr} {fd : FuncData}
theorem str_depth (x : Str) : (PyData.str x).depth = 0 := by simp [PyData.depth]
theorem eqv_str (x y : Str) : PyData.eqv (.str x) (.str y) = (x == y) := by simp [PyData.eqv]
/-- x == 'a', x != 'a' of texts -/
theorem eqStr {H : Hp} {x y : Str} {Q : VK} (k : Q (.bl (x == y)) H) : rEqU (.str x) (.str y) H Q := .mk (.str _) (.str _) (by rw [str_depth]; exact Nat.zero_le _) (by rw [eqv_str]; exact k)
theorem neStr {H : Hp} {x y : Str} {Q : VK} (k : Q (.bl (!(x == y))) H) : rNeU (.str x) (.str y) H Q := .mk (.str _) (.str _) (by rw [str_depth]; exact Nat.zero_le _) (by rw [eqv_str]; exact k)
theorem neNm {H : Hp} {x y : V} {a b : Nm} {Q : VK} (h : Dt H x (dN a)) (g : Dt H y (dN b)) (k : Q (.bl (!decide (a = b))) H) : rNeU x y H Q := .mk h g (by rw [dN_depth, dN_depth]; decide) (by rw [dN_eqv]; exact k)
theorem eqNm {H : Hp} {x y : V} {a b : Nm} {Q : VK} (h : Dt H x (dN a)) (g : Dt H y (dN b)) (k : Q (.bl (decide (a = b))) H) : rEqU x y H Q := .mk h g (by rw [dN_depth, dN_depth]; decide) (by rw [dN_eqv]; exact k)
theorem isN_nm {H : Hp} {x : V} {a : Nm} (h : Dt H x (dN a)) : decide (x = V.non) = false := by
  obtain ⟨b, rfl, _⟩ := h.nm
  exact decide_eq_false fun z => nomatch z
def spStarted : Sp := fun vs H Q _ => ∃ v u pic st n, vs = [v, u] ∧ Dt H v (dPic pic) ∧ Dt H u (dStart st) ∧ startName pic st = some n ∧ ∀ r, Dt H r (dN n) → Q r H
theorem sc_s_started : FnScope ["picture", "start", "house", "letter"] ["picture", "start"] (defScope s_started) := ⟨rfl, rfl, rfl, by decide +kernel, rfl, by decide +kernel, by decide +kernel⟩
theorem ok_started (F : FnP K "started" "started" s_started f fd) (C : CPap P w K mg base) : FnOk P w K mg base CX0 2 f fd ["picture", "start"] spStarted := by
  refine F.ok sc_s_started (fun vs H Q E h => ?_) (fun cdv A outer s H vs Q E hr h => ?_)
  · obtain ⟨v, u, pic, st, n, rfl, _⟩ := h
    rfl
  · obtain ⟨v, u, pic, st, n, rfl, hv, hs, hn, k⟩ := h
    have hu := hu_of hr
    have hu64 := hr.units
    refine ⟨_, PSs.nox (pss_cons (ps_if (pt_cmpR (op_eqU hu64) (pe_ix ix_tup (pv 1) pe_int (fun _ _ => rfl)) pe_str (nomark _))
          (pss_cons (ps_set (i := 2) sc_s_started.nd rfl (Or.inl rfl) (pe_cal C.thing_at (hr.mono (by decide)) pass0 (pa_cons (pe_ix ix_tup (pv 0) pe_int (fun _ _ => rfl)) (pa_cons (pe_ix ix_tup (pv 1) pe_int (fun _ _ => rfl)) pa_nil))))
          (pss_cons (ps_if (pt_cmpR op_isN (pv 2) pe_non (nomark _))
          (pss_one (ps_ret pe_non))
          pss_nil)
          (pss_one (ps_ret (pe_cal C.thing_at (hr.mono (by decide)) pass0 (pa_cons (pe_ix ix_tup (pv 2) pe_int (fun _ _ => rfl)) (pa_cons (pe_ix ix_tup (pv 1) pe_int (fun _ _ => rfl)) pa_nil)))))))
          pss_nil)
          (pss_cons (ps_set (i := 3) sc_s_started.nd rfl (Or.inl rfl) (pe_cal C.thing_at (hr.mono (by decide)) pass0 (pa_cons (pe_ix ix_tup (pv 0) pe_int (fun _ _ => rfl)) (pa_cons (pe_ix ix_tup (pv 1) pe_int (fun _ _ => rfl)) pa_nil))))
          (pss_cons (ps_if (pt_cmpR op_isN (pv 3) pe_non (nomark _))
          (pss_one (ps_ret pe_non))
          pss_nil)
          (pss_one (ps_ret (pe_cal C.thing_at (hr.mono (by decide)) pass0 (pa_cons (pe_ix ix_tup (pv 3) pe_int (fun _ _ => rfl)) (pa_cons (pe_ix ix_tup (pv 1) pe_int (fun _ _ => rfl)) pa_nil)))))))), ?_⟩
    obtain ⟨a, v1, v2, rfl, ha, h1, h2⟩ := Dt.t2 hv
    cases st with
    | hand i p =>
      obtain ⟨b, y1, y2, y3, rfl, hb, g1, g2, g3⟩ := Dt.t3 hs
      cases g1.strE; cases g2.intE; cases g3.intE
      refine ⟨_, rfl, b, _, 0, _, rfl, rfl, SqT.of hb, rfl, eqStr ⟨_, rfl, ?_⟩⟩
      refine iteT ?_
      obtain ⟨hs, e1, e2⟩ := Option.bind_eq_some_iff.mp (show (pic.houses[i]?).bind (fun x => (x.hands[p]?).bind id) = some n from hn)
      obtain ⟨o, e3, e4⟩ := Option.bind_eq_some_iff.mp e2
      cases (show o = some n from e4)
      refine ⟨_, rfl, a, _, 0, v1, rfl, rfl, SqT.of ha, rfl, _, rfl, b, _, 1, _, rfl, rfl, SqT.of hb, rfl, v1, _, (i : Int), rfl, h1, fun u hu' => ?_⟩
      rw [thingAt_get (d := dHouse hs) (by rw [List.getElem?_map, e1]; rfl)] at hu'
      obtain ⟨c, w1, w2, rfl, hc, k1, k2⟩ := Dt.t2 hu'
      refine ⟨_, rfl, rfl, _, rfl, ?_⟩
      refine iteF ⟨_, rfl, c, _, 0, w1, rfl, rfl, SqT.of hc, rfl, _, rfl, b, _, 2, _, rfl, rfl, SqT.of hb, rfl, w1, _, (p : Int), rfl, k1, fun r hr' => k r ?_⟩
      rw [thingAt_get (d := dN n) (by rw [List.getElem?_map, e3]; rfl)] at hr'
      exact hr'
    | letter i p =>
      obtain ⟨b, y1, y2, y3, rfl, hb, g1, g2, g3⟩ := Dt.t3 hs
      cases g1.strE; cases g2.intE; cases g3.intE
      refine ⟨_, rfl, b, _, 0, _, rfl, rfl, SqT.of hb, rfl, eqStr ⟨_, rfl, ?_⟩⟩
      refine iteF ?_
      obtain ⟨l, e1, e2⟩ := Option.bind_eq_some_iff.mp (show (pic.letters[i]?).bind (fun l => l.names[p]?) = some n from hn)
      refine ⟨_, rfl, a, _, 1, v2, rfl, rfl, SqT.of ha, rfl, _, rfl, b, _, 1, _, rfl, rfl, SqT.of hb, rfl, v2, _, (i : Int), rfl, h2, fun u hu' => ?_⟩
      rw [thingAt_get (d := dLetter l) (by rw [List.getElem?_map, e1]; rfl)] at hu'
      obtain ⟨c, w1, w2, w3, rfl, hc, k1, k2, k3⟩ := Dt.t3 hu'
      refine ⟨_, rfl, rfl, _, rfl, ?_⟩
      refine iteF ⟨_, rfl, c, _, 2, w3, rfl, rfl, SqT.of hc, rfl, _, rfl, b, _, 2, _, rfl, rfl, SqT.of hb, rfl, w3, _, (p : Int), rfl, k3, fun r hr' => k r ?_⟩
      rw [thingAt_get (d := dN n) (by rw [List.getElem?_map, e2]; rfl)] at hr'
      exact hr'
    | field t g => cases hn
/-! ### gone_by -/
def spGoneBy : Sp := fun vs H Q _ => ∃ d x y F m ss n, vs = [.ref d, x, y] ∧ FdD H d F ∧ Dt H x (dN m) ∧ Dt H y (dSteps ss) ∧ PathF F m ss n ∧ ∀ r H', Ex H H' → Dt H' r (dN n) → Q r H'
theorem sc_s_gone_by : FnScope ["fields", "here", "steps", "name", "field"] ["fields", "here", "steps"] (defScope s_gone_by) := ⟨rfl, rfl, rfl, by decide +kernel, rfl, by decide +kernel, by decide +kernel⟩
theorem ok_gone_by (F : FnP K "gone_by" "gone_by" s_gone_by f fd) (C : CPap P w K mg base) : FnOk P w K mg base CX0 2 f fd ["fields", "here", "steps"] spGoneBy := by
  refine F.ok sc_s_gone_by (fun vs H Q E h => ?_) (fun cdv A outer s H vs Q E hr h => ?_)
  · obtain ⟨d, x, y, F, m, ss, n, rfl, _⟩ := h
    rfl
  · obtain ⟨d, x, y, F, m, ss, n, rfl, hd, hx, hy, hp, k⟩ := h
    have hu := hu_of hr
    have hu64 := hr.units
    refine ⟨_, PSs.nox (pss_cons (ps_for PassesOwn.never rfl (pi_tup (pv 2)) (pg_tup rfl (pgs_cons (pg_name (i := 3) sc_s_gone_by.nd rfl (Or.inl rfl)) (pgs_cons (pg_name (i := 4) sc_s_gone_by.nd rfl (Or.inl rfl)) pgs_nil)))
          (pss_cons (ps_if (PW.pt (pw_or (pt_cmpR op_isN (pv 1) pe_non (nomark _)) (pw_or (pt_cmpR (op_neU hu64) (pv 3) (pv 1) (nomark _)) (pw_or1 (pt_cmp (pc_dnotin hu (pv 3) (pv 0)))))))
          (pss_one (ps_ret pe_non))
          pss_nil)
          (pss_one (ps_set (i := 1) sc_s_gone_by.nd rfl (Or.inl rfl) (pe_cal C.thing_at (hr.mono (by decide)) pass0 (pa_cons (pe_dget hu (pv 0) (pv 3) (fun _ _ => rfl)) (pa_cons (pv 4) pa_nil)))))))
          (pss_one (ps_ret (pv 1)))), ?_⟩
    obtain ⟨a, xs, rfl, ha, hxs⟩ := hy.tupE
    have lx : xs.length = ss.length := by rw [hxs.len, List.length_map]
    refine ⟨_, rfl, a, rfl, ⟨xs, SqT.of ha⟩, ?_⟩
    refine for_it (walk_tup (K := K) (a := a) (xs := xs)) (fun i σ H' => ∃ x v3 v4 m, σ = [some (.ref d), some x, some (.ref a), v3, v4] ∧ H' = H ∧ Dt H x (dN m) ∧ PathF F m (ss.drop i) n)
      ⟨x, none, none, m, rfl, rfl, hx, hp⟩ (fun i σ H' _ ⟨_, _, _, _, _, e, _⟩ => by rw [e]; exact SqT.of ha) ?_ ?_
    · rintro i z σ H1 _ hi ⟨x, v3, v4, m, rfl, rfl, hx, hp⟩ ⟨rfl, hz⟩
      have hi2 : i < ss.length := by omega
      have e1 : ss[i]? = some ss[i] := by simp [hi2]
      have e2 : ss.drop i = ss[i] :: ss.drop (i + 1) := List.drop_eq_getElem_cons hi2
      rw [e2] at hp
      generalize ss[i] = st at e1 hp
      obtain ⟨t, g⟩ := st
      obtain ⟨rfl, fs, b, hfs, hb, hp⟩ := hp
      obtain ⟨y, hy, dy⟩ := hxs.get (i := i) (d := dStep (t, g)) (by rw [List.getElem?_map, e1]; rfl)
      rw [hz] at hy
      cases hy
      obtain ⟨c, w1, w2, rfl, hc, k1, k2⟩ := Dt.t2 dy
      obtain ⟨tn, rfl, htn⟩ := k1.nm
      cases k2.intE
      refine ⟨c, _, rfl, SqT.of hc, rfl, _, _, rfl, _, _, rfl, rfl, ?_⟩
      refine ⟨_, rfl, rfl, _, rfl, ?_⟩
      rw [isN_nm hx]
      refine iteF ⟨_, rfl, _, rfl, neNm (Dt.of_key t tn htn) hx ⟨_, rfl, ?_⟩⟩
      rw [decide_eq_true rfl]
      obtain ⟨o, ho, hos⟩ := hd.has htn
      refine iteF ⟨_, rfl, _, rfl, d, o, rfl, ho, _, rfl, ?_⟩
      rw [hos, decide_eq_true (aget_key hfs)]
      obtain ⟨fv, hfv, dfv⟩ := hd.get htn hfs
      refine iteF ⟨_, rfl, _, rfl, d, fv, rfl, hfv, _, rfl, fv, _, (g : Int), rfl, dfv, fun r hr' => ?_⟩
      rw [thingAt_get (d := dN b) (by rw [List.getElem?_map, hb]; rfl)] at hr'
      exact ⟨r, _, _, b, rfl, rfl, hr', hp⟩
    · rintro σ H1 ⟨x, v3, v4, m, rfl, rfl, hx, hp⟩
      rw [lx, List.drop_length] at hp
      cases (show m = n from hp)
      exact ⟨_, rfl, k x _ (Ex.refl _) hx⟩
/-! ### wanted_holds -/
def spWanted : Sp := fun vs H Q _ => ∃ v u pic n st ss m, vs = [v, u] ∧ Dt H v (dPic pic) ∧ PicB pic ∧ Dt H u (dPaper (.wanted n st ss)) ∧ startName pic st = some m ∧ PathF (fieldsF pic) m ss n ∧ ∀ H', Ex H H' → Q (.bl true) H'
structure CWant (P : Program) (w : World) (K : PySem.W.Frag) (mg : Str → Option Value) (base : Heap) : Prop where
  fields_by_name : Cal P w K mg base "fields_by_name" ["picture"] 1 spFields
  started : Cal P w K mg base "started" ["picture", "start"] 2 spStarted
  gone_by : Cal P w K mg base "gone_by" ["fields", "here", "steps"] 2 spGoneBy
theorem inStr {H : Hp} {x : Str} {a : Addr} {xs : List Str} {neg : Bool} {Q : VK} (ha : H a = some (.tup (xs.map V.str))) (k : Q (.bl (if neg then !xs.any fun z => z == x else xs.any fun z => z == x)) H) : rInU neg (.str x) (.ref a) H Q := by
  have hd : ∀ l : List Str, DtAll H (l.map V.str) (l.map PyData.str) := fun l => by
    induction l with
    | nil => exact .nil
    | cons b r ih => exact .cons (.str b) ih
  refine .mk (ds := xs.map PyData.str) (.str x) (.inl (.tup ha (hd xs))) (by rw [str_depth]; decide) ?_
  have e : ((xs.map PyData.str).any fun z => PyData.eqv z (.str x)) = xs.any fun z => z == x := by
    rw [List.any_map]
    congr 1
  rw [e]
  exact k
theorem sc_s_wanted_holds : FnScope ["picture", "paper", "word", "name", "start", "steps", "found"] ["picture", "paper"] (defScope s_wanted_holds) := ⟨rfl, rfl, rfl, by decide +kernel, rfl, by decide +kernel, by decide +kernel⟩
theorem ok_wanted_holds (F : FnP K "wanted_holds" "wanted_holds" s_wanted_holds f fd) (C : CWant P w K mg base) : FnOk P w K mg base CX0 3 f fd ["picture", "paper"] spWanted := by
  refine F.ok sc_s_wanted_holds (fun vs H Q E h => ?_) (fun cdv A outer s H vs Q E hr h => ?_)
  · obtain ⟨v, u, pic, n, st, ss, m, rfl, _⟩ := h
    rfl
  · obtain ⟨v, u, pic, n, st, ss, m, rfl, hv, hpb, hp, hst, hpath, k⟩ := h
    have hu := hu_of hr
    have hu64 := hr.units
    have hu65 : (A.deeper (envOfC "wanted_holds" (defScope s_wanted_holds) s.heap.objs.size f cdv)).units + 65 < cLine := by
      have := hr.un
      omega
    refine ⟨_, PSs.nox (pss_cons (ps_asg (pv 1) (pg_tup rfl (pgs_cons (pg_name (i := 2) sc_s_wanted_holds.nd rfl (Or.inl rfl)) (pgs_cons (pg_name (i := 3) sc_s_wanted_holds.nd rfl (Or.inl rfl)) (pgs_cons (pg_name (i := 4) sc_s_wanted_holds.nd rfl (Or.inl rfl)) (pgs_cons (pg_name (i := 5) sc_s_wanted_holds.nd rfl (Or.inl rfl)) pgs_nil))))))
          (pss_cons (ps_if (PW.pt (pw_or (pt_cmpR (op_neU hu64) (pv 2) pe_str (nomark _)) (pw_or1 (pt_cmpR (op_notInU hu65) (pe_ix ix_tup (pv 4) pe_int (fun _ _ => rfl)) (pe_tup (pa_cons pe_str (pa_cons pe_str pa_nil))) rfl))))
          (pss_one (ps_ret pe_bl))
          pss_nil)
          (pss_cons (ps_set (i := 6) sc_s_wanted_holds.nd rfl (Or.inl rfl) (pe_cal C.gone_by (hr.mono (by decide)) pass0 (pa_cons (pe_cal C.fields_by_name (hr.mono (by decide)) pass0 (pa_cons (pv 0) pa_nil)) (pa_cons (pe_cal C.started (hr.mono (by decide)) pass0 (pa_cons (pv 0) (pa_cons (pv 4) pa_nil))) (pa_cons (pv 5) pa_nil)))))
          (pss_one (ps_ret (pe_and (pe_cmpR op_notN (pv 6) pe_non (nomark _)) (pe_one (pe_cmpR (op_eqU hu64) (pv 6) (pv 3) (nomark _))))))))), ?_⟩
    obtain ⟨a, x1, x2, x3, x4, rfl, ha, g1, g2, g3, g4⟩ := Dt.t4 hp
    cases g1.strE
    refine ⟨_, rfl, a, _, rfl, SqT.of ha, rfl, _, _, rfl, _, _, rfl, _, _, rfl, _, _, rfl, rfl, ?_⟩
    refine ⟨_, rfl, neStr ⟨_, rfl, ?_⟩⟩
    refine iteF ?_
    have key : ∃ b x y z, x3 = .ref b ∧ H b = some (.tup [.str x, y, z]) ∧ (x = "hand" ∨ x = "letter") := by
      cases st with
      | hand i p =>
        obtain ⟨b, y1, y2, y3, rfl, hb, k1, k2, k3⟩ := Dt.t3 g3
        cases k1.strE
        exact ⟨b, _, _, _, rfl, hb, .inl rfl⟩
      | letter i p =>
        obtain ⟨b, y1, y2, y3, rfl, hb, k1, k2, k3⟩ := Dt.t3 g3
        cases k1.strE
        exact ⟨b, _, _, _, rfl, hb, .inr rfl⟩
      | field t g => cases hst
    obtain ⟨b, x, y, z, rfl, hbz, hx⟩ := key
    refine ⟨_, rfl, b, _, 0, _, rfl, rfl, SqT.of hbz, rfl, le16 (by show 2 ≤ 100000; decide), fun q hq => ?_⟩
    have e1 : Ex H (upd H q (.tup [.str "hand", .str "letter"])) := Ex.new hq
    refine inStr (xs := ["hand", "letter"]) upd_same ⟨_, rfl, ?_⟩
    have e2 : ((["hand", "letter"] : List Str).any fun z => z == x) = true := by
      rcases hx with rfl | rfl
      · decide
      · decide
    rw [e2]
    refine iteF ?_
    generalize upd H q (.tup [.str "hand", .str "letter"]) = H1 at e1
    refine ⟨_, rfl, v, pic, rfl, hv.go e1.tx, hpb, fun d H2 kvs hd e2 hd2 hk2 => ?_⟩
    have e3 := e1.trans e2
    refine ⟨_, rfl, _, rfl, v, _, pic, st, m, rfl, hv.go e3.tx, g3.go e3.tx, hst, fun r hr' => ?_⟩
    refine ⟨_, rfl, d, r, x4, fieldsF pic, m, ss, n, rfl, ⟨kvs, .inl hd2, hk2⟩, hr', g4.go e3.tx, hpath, fun r2 H3 e4 dr => ?_⟩
    have e5 := e3.trans e4
    refine ⟨_, rfl, rfl, _, rfl, ?_⟩
    rw [isN_nm dr]
    refine ⟨_, rfl, _, rfl, eqNm dr (g2.go e5.tx) ?_⟩
    rw [decide_eq_true rfl]
    exact k _ e5
end
end HF
set_option Elab.async false
set_option linter.all false
set_option maxRecDepth 100000
set_option maxHeartbeats 4000000
namespace HF
open PySem PySem.Spec PyProof.Rows L2
/-- names of things, rising, one at least -/
structure SubT (F : List (Nm × Flds)) (ns : List Nm) : Prop where
  ne : ns ≠ []
  nd : ns.Nodup
  up : ns.Pairwise (fun x y => nle x y = true)
  sub : ∀ n ∈ ns, n ∈ keys F
/-- x in names, x a name or none -/
def oin (ns : List Nm) : Option Nm → Bool
  | none => false
  | some n => decide (n ∈ ns)
theorem any_dN (ns : List Nm) (o : Option Nm) : ((ns.map dN).any fun z => PyData.eqv z (dO o)) = oin ns o := by
  induction ns with
  | nil => cases o <;> rfl
  | cons a r ih =>
    rw [List.map_cons, List.any_cons, ih]
    cases o with
    | none =>
      show (PyData.eqv (dN a) .none || false) = false
      simp [dN, PyData.eqv]
    | some n =>
      show (PyData.eqv (dN a) (dN n) || decide (n ∈ r)) = decide (n ∈ a :: r)
      rw [dN_eqv]
      by_cases e : a = n
      · simp [e]
      · have : ¬ n = a := fun z => e z.symm
        simp [e, this]
theorem inNmsO {neg : Bool} {H : Hp} {x y : V} {o : Option Nm} {ns : List Nm} {Q : VK} (h : Dt H x (dO o)) (g : SqU H y (ns.map dN)) (k : Q (.bl (if neg then !oin ns o else oin ns o)) H) : rInU neg x y H Q := by
  refine .mk h g (Nat.le_trans (dO_depth o) (by decide)) ?_
  rw [any_dN]
  exact k
theorem inNms {neg : Bool} {H : Hp} {x y : V} {n : Nm} {ns : List Nm} {Q : VK} (h : Dt H x (dN n)) (g : SqU H y (ns.map dN)) (k : Q (.bl (if neg then !decide (n ∈ ns) else decide (n ∈ ns))) H) : rInU neg x y H Q :=
  inNmsO (o := some n) h g k
/-- the tuples of a tuple of names -/
theorem nm_keys {H : Hp} : ∀ {ns : List Nm} {xs : List V}, DtAll H xs (ns.map dN) → ∃ ks : List (Addr × List Int), xs = ks.map (fun q => V.ref q.1) ∧ ks.map (·.2) = ns.map (fun n => [n.1, n.2]) ∧ ∀ q ∈ ks, H q.1 = some (.tup (q.2.map V.int))
  | [], xs, h => by
    obtain rfl := h.nilE
    exact ⟨[], rfl, rfl, (fun _ z => nomatch z)⟩
  | n :: r, xs, h => by
    obtain ⟨v, xs, rfl, h1, h2⟩ := DtAll.consE (d := dN n) (ds := r.map dN) h
    obtain ⟨ks, rfl, e, hk⟩ := nm_keys h2
    obtain ⟨a, rfl, ha⟩ := h1.nm
    refine ⟨(a, [n.1, n.2]) :: ks, rfl, by rw [List.map_cons, List.map_cons, e], fun q hq => ?_⟩
    rcases List.mem_cons.mp hq with rfl | hq
    · exact ha
    · exact hk q hq
theorem code2 (x y : Int) : TS.code 100 [x, y] = x * 100 + y := by
  have e1 : (100 : Int) ^ 1 = 100 := by decide
  have e0 : (100 : Int) ^ 0 = 1 := by decide
  show x * 100 ^ 1 + (y * 100 ^ 0 + 0) = x * 100 + y
  rw [e1, e0, Int.mul_one, Int.add_zero]
theorem code_nle {a b : Nm} (h : TS.code 100 [a.1, a.2] ≤ TS.code 100 [b.1, b.2]) (sa : Small a) (sb : Small b) : nle a b = true := by
  rw [code2, code2] at h
  obtain ⟨a1, a2, a3, a4⟩ := sa
  obtain ⟨b1, b2, b3, b4⟩ := sb
  unfold nle
  rw [decide_eq_true_eq]
  omega
/-- what a sorted set of names is -/
theorem sorted_set {H : Hp} {ns : List Nm} {ks L L' : List (Addr × List Int)} (nd : ns.Nodup) (up : ns.Pairwise (fun x y => nle x y = true)) (sm : ∀ n ∈ ns, Small n) (e : ks.map (·.2) = ns.map (fun n => [n.1, n.2])) (hk : ∀ q ∈ ks, H q.1 = some (.tup (q.2.map V.int)))
    (h1 : ∀ q ∈ L, q ∈ ks) (h2 : ∀ q ∈ ks, q.2 ∈ L.map (·.2)) (pm : L'.Perm L) (nd2 : (L'.map (·.2)).Nodup) (pw : L'.Pairwise (fun q r => TS.code 100 q.2 ≤ TS.code 100 r.2)) : DtAll H (L'.map fun q => V.ref q.1) (ns.map dN) := by
  have val : ∀ q ∈ L', ∃ n ∈ ns, q.2 = [n.1, n.2] := fun q hq => by
    have : q.2 ∈ ks.map (·.2) := List.mem_map.mpr ⟨q, h1 q (pm.mem_iff.mp hq), rfl⟩
    rw [e] at this
    obtain ⟨n, hn, e⟩ := List.mem_map.mp this
    exact ⟨n, hn, e.symm⟩
  have pick : ∀ L' : List (Addr × List Int), (∀ q ∈ L', ∃ n ∈ ns, q.2 = [n.1, n.2]) → (∀ q ∈ L', H q.1 = some (.tup (q.2.map V.int))) → ∃ ms : List Nm, (∀ n ∈ ms, n ∈ ns) ∧ L'.map (·.2) = ms.map (fun n => [n.1, n.2]) ∧ DtAll H (L'.map fun q => V.ref q.1) (ms.map dN) := fun L' => by
    induction L' with
    | nil => exact fun _ _ => ⟨[], (fun _ z => nomatch z), rfl, .nil⟩
    | cons q r ih =>
      intro h3 h4
      obtain ⟨ms, i1, i2, i3⟩ := ih (fun x hx => h3 x (List.mem_cons_of_mem _ hx)) fun x hx => h4 x (List.mem_cons_of_mem _ hx)
      obtain ⟨n, hn, en⟩ := h3 q List.mem_cons_self
      have hq := h4 q List.mem_cons_self
      rw [en] at hq
      refine ⟨n :: ms, fun m hm => ?_, ?_, .cons ?_ i3⟩
      · rcases List.mem_cons.mp hm with rfl | hm
        · exact hn
        · exact i1 m hm
      · rw [List.map_cons, List.map_cons, i2, en]
      · exact Dt.of_key n q.1 hq
  obtain ⟨ms, m1, m2, m3⟩ := pick L' val fun q hq => hk q (h1 q (pm.mem_iff.mp hq))
  have em : ms = ns := by
    rw [m2] at nd2
    refine sorted_one (nodup_of_map nd2) nd ?_ up fun n => ⟨m1 n, fun hn => ?_⟩
    · have pw2 : (L'.map (·.2)).Pairwise (fun q r => TS.code 100 q ≤ TS.code 100 r) := List.pairwise_map.mpr pw
      rw [m2, List.pairwise_map] at pw2
      exact pw2.imp_of_mem fun ha hb h => code_nle h (sm _ (m1 _ ha)) (sm _ (m1 _ hb))
    · have z : [n.1, n.2] ∈ ks.map (·.2) := by rw [e]; exact List.mem_map.mpr ⟨n, hn, rfl⟩
      obtain ⟨q, hq, eq⟩ := List.mem_map.mp z
      have z2 := h2 q hq
      have z3 : q.2 ∈ L'.map (·.2) := ((pm.map (·.2)).mem_iff).mpr z2
      rw [m2, eq] at z3
      obtain ⟨m, hm, e3⟩ := List.mem_map.mp z3
      have : m = n := by
        obtain ⟨m1, m2⟩ := m
        obtain ⟨n1, n2⟩ := n
        simp only [List.cons.injEq, and_true] at e3
        rw [e3.1, e3.2]
      exact this ▸ hm
  rw [← em]
  exact m3
theorem GrB.sm' {F : List (Nm × Flds)} (g : GrB F) {ns : List Nm} (s : ∀ n ∈ ns, n ∈ keys F) : ∀ n ∈ ns, Small n := fun n hn => g.sm n (s n hn)
theorem eqv_mt (ds : List PyData) : PyData.eqv (.tuple ds) (.tuple []) = ds.isEmpty := by cases ds <;> simp [PyData.eqv, PyData.eqvAll]
section
variable {P : Program} {w : World} {K : PySem.W.Frag} {mg : Str → Option Value} {base : Heap} {f : Addr} {fd : FuncData}
theorem setNms {H : Hp} {l : Addr} {ks : List (Addr × List Int)} {Q : VK} (h1 : SqT K H l (ks.map fun q => V.ref q.1)) (h2 : ∀ q ∈ ks, SqT K H q.1 (q.2.map V.int)) (h3 : ks.length < 64)
    (k : ∀ a L H', Ex H H' → H' a = some (SetTO P w a L) → (∀ q ∈ L, q ∈ ks) → (∀ q ∈ ks, q.2 ∈ L.map (·.2)) → Q (.ref a) H') : rSetTup K P w [.ref l] H Q := by
  unfold rSetTup
  exact ⟨l, ks, rfl, h1, h2, h3, fun a L ha h4 h5 => k a L _ (Ex.new ha) upd_same h4 h5⟩
def spAre : Sp := fun vs H Q _ => ∃ d x F ns, vs = [.ref d, x] ∧ FdD H d F ∧ GrB F ∧ Dt H x (dNs ns) ∧ SubT F ns ∧ ∀ H', Ex H H' → Q (.bl true) H'
theorem sc_s_are_things : FnScope ["fields", "names", "name"] ["fields", "names"] (defScope s_are_things) := ⟨rfl, rfl, rfl, by decide +kernel, rfl, by decide +kernel, by decide +kernel⟩
theorem ok_are_things (F : FnP K "are_things" "are_things" s_are_things f fd) (B : Bl mg) : FnOk P w K mg base CX0 1 f fd ["fields", "names"] spAre := by
  refine F.ok sc_s_are_things (fun vs H Q E h => ?_) (fun cdv A outer s H vs Q E hr h => ?_)
  · obtain ⟨d, x, F, ns, rfl, _⟩ := h
    rfl
  · obtain ⟨d, x, F, ns, rfl, hd, g, hx, sb, k⟩ := h
    have hu := hu_of hr
    have hu64 := hr.units
    refine ⟨_, PSs.nox (pss_cons (ps_if (PW.pt (pw_or (pt_cmpR (op_eqU hu64) (pv 1) (pe_tup pa_nil) (nomark _)) (pw_or1 (pt_cmpR (op_neP hu64) (pe_callTy call_list_of (by rfl) B.list (by decide +kernel) (pa_cons (pv 1) pa_nil)) (pe_callB (cr_sortedT rfl) (by rfl) B.sorted (by decide +kernel) (pa_cons (pe_callTy (cr_setTup rfl hu64) (by rfl) B.set (by decide +kernel) (pa_cons (pv 1) pa_nil)) pa_nil)) (nomark _)))))
          (pss_one (ps_ret pe_bl))
          pss_nil)
          (pss_cons (ps_for PassesOwn.never rfl (pi_tup (pv 1)) (pg_name (i := 2) sc_s_are_things.nd rfl (Or.inl rfl))
          (pss_one (ps_if (pt_cmp (pc_dnotin hu (pv 2) (pv 0)))
          (pss_one (ps_ret pe_bl))
          pss_nil)))
          (pss_one (ps_ret pe_bl)))), ?_⟩
    obtain ⟨a, xs, rfl, ha, hxs⟩ := Dt.tupE (ds := ns.map dN) hx
    refine ⟨_, rfl, le16 (by show 0 ≤ 100000; decide), fun q hq => ?_⟩
    have e1 : Ex H (upd H q (.tup [])) := Ex.new hq
    refine .mk (hx.go e1.tx) (.tup upd_same .nil) ?_ ?_
    · have : (PyData.tuple []).depth = 1 := by simp [PyData.depth, PyData.depthAll]
      omega
    generalize upd H q (.tup []) = H1 at e1
    have e0 : PyData.eqv (dNs ns) (.tuple []) = false := by
      unfold dNs
      rw [eqv_mt]
      cases ns with
      | nil => exact absurd rfl sb.ne
      | cons a r => rfl
    rw [e0]
    refine ⟨_, rfl, ?_⟩
    refine iteF ?_
    have lx : xs.length = ns.length := by rw [hxs.len, List.length_map]
    refine ⟨_, rfl, a, xs, rfl, .inr (SqT.of (e1 _ _ ha)), fun wl hwl => ?_⟩
    have e2 : Ex H (upd H1 wl (.lst xs)) := e1.trans (Ex.new hwl)
    have hw2 : (upd H1 wl (.lst xs)) wl = some (.lst xs) := upd_same
    generalize upd H1 wl (.lst xs) = H2 at e2 hw2
    obtain ⟨ks, rfl, eks, hks⟩ := nm_keys (hxs.go e2.tx)
    have lk : ks.length < 64 := by
      have := g.sub40 sb.nd sb.sub
      rw [List.length_map] at lx
      omega
    refine ⟨_, rfl, setNms (P := P) (w := w) (SqT.of (e2 _ _ ha)) (fun q hq => SqT.of (hks q hq)) lk fun sa L H3 e3 hs3 hL1 hL2 => ?_⟩
    have hks3 := fun q hq => e3 _ _ (hks q hq)
    have hw3 := e3 _ _ hw2
    have e4 := e2.trans e3
    refine ⟨sa, L, 2, 100, rfl, hs3, fun q hq => SqT.of (hks3 q (hL1 q hq)), by decide, fun q hq => ?_, fun L' p pm nd2 _ pw hp => ?_⟩
    · have z : q.2 ∈ ks.map (·.2) := List.mem_map.mpr ⟨q, hL1 q hq, rfl⟩
      rw [eks] at z
      obtain ⟨n, hn, en⟩ := List.mem_map.mp z
      have sn := g.sm' sb.sub n hn
      rw [← en]
      refine ⟨rfl, fun m hm => ?_⟩
      obtain ⟨s1, s2, s3, s4⟩ := sn
      simp only [List.mem_cons, List.not_mem_nil, or_false] at hm
      rcases hm with rfl | rfl
      · omega
      · omega
    · have e5 : Ex H3 (upd H3 p (.lst (L'.map fun q => V.ref q.1))) := Ex.new hp
      have hs := sorted_set sb.nd sb.up (g.sm' sb.sub) eks hks3 hL1 hL2 pm nd2 pw
      have hxs5 := ((hxs.go e4.tx).go e5.tx)
      refine .mk (dpL (e5 _ _ hw3) hxs5) (dpL upd_same (hs.go e5.tx)) ?_ ?_ ?_ ?_
      · simpa [PyData.plain] using DtAll.pl _ hxs
      · simpa [PyData.plain] using DtAll.pl _ hxs
      · have := dNs_depth ns
        have z : (PyData.list (ns.map dN)).depth = (dNs ns).depth := by simp [dNs, PyData.depth]
        omega
      rw [PySem.SeqAt.eqv_refl_plain _ (by simpa [PyData.plain] using DtAll.pl _ hxs)]
      have e6 := e4.trans e5
      generalize upd H3 p (.lst (L'.map fun q => V.ref q.1)) = H4 at e6
      refine ⟨_, rfl, ?_⟩
      refine iteF ?_
      refine ⟨_, rfl, a, rfl, ⟨_, SqT.of (e6 _ _ ha)⟩, ?_⟩
      refine for_it (walk_tup (K := K) (a := a) (xs := ks.map fun q => V.ref q.1)) (fun i σ H' => ∃ v2, σ = [some (.ref d), some (.ref a), v2] ∧ H' = H4) ⟨none, rfl, rfl⟩ (fun i σ H' _ ⟨_, _, e⟩ => by rw [e]; exact SqT.of (e6 _ _ ha)) ?_ ?_
      · rintro i x σ _ H5 hi ⟨v2, rfl, rfl⟩ ⟨rfl, hxi⟩
        obtain ⟨dd, hdd, dx⟩ := (hxs.go e6.tx).getV hxi
        rw [List.getElem?_map] at hdd
        obtain ⟨n, hn, rfl⟩ := Option.map_eq_some_iff.mp hdd
        obtain ⟨b, rfl, hb⟩ := dx.nm
        obtain ⟨o, ho, hos⟩ := (hd.go e6).has hb
        refine ⟨_, rfl, _, rfl, d, o, rfl, ho, _, rfl, ?_⟩
        rw [hos, decide_eq_true (sb.sub n (List.mem_of_getElem? hn))]
        exact iteF ⟨_, rfl, rfl⟩
      · rintro σ _ ⟨v2, rfl, rfl⟩
        exact k _ e6
end
end HF
set_option Elab.async false
set_option linter.all false
set_option maxRecDepth 100000
set_option maxHeartbeats 4000000
namespace HF
open PySem PySem.Spec PyProof.Rows L2
theorem dNss_depth (ls : List (List Nm)) : (PyData.tuple (ls.map dNs)).depth ≤ 3 := by
  have := depthAll_le dNs 2 ls fun a _ => dNs_depth a
  simp only [PyData.depth]
  omega
structure CutOk (pic : Pic) (ns : List Nm) : Prop where
  sub : SubT (fieldsF pic) ns
  held : ∀ n ∈ heldF pic, n ∉ ns
  out : ∀ a ∈ keys (fieldsF pic), a ∉ ns → ∀ b ∈ chl (fieldsF pic) a, b ∉ ns
section
variable {P : Program} {w : World} {K : PySem.W.Frag} {mg : Str → Option Value} {base : Heap} {f : Addr} {fd : FuncData}
/-! ### is_closed -/
def spClosed : Sp := fun vs H Q _ => ∃ d x F ns, vs = [.ref d, x] ∧ FdD H d F ∧ Dt H x (dNs ns) ∧ (∀ n ∈ ns, n ∈ keys F) ∧ (∀ a ∈ ns, ∀ b ∈ chl F a, b ∈ ns) ∧ ∀ H', Ex H H' → Q (.bl true) H'
theorem sc_s_is_closed : FnScope ["fields", "names", "thing", "name"] ["fields", "names"] (defScope s_is_closed) := ⟨rfl, rfl, rfl, by decide +kernel, rfl, by decide +kernel, by decide +kernel⟩
theorem ok_is_closed (F : FnP K "is_closed" "is_closed" s_is_closed f fd) : FnOk P w K mg base CX0 1 f fd ["fields", "names"] spClosed := by
  refine F.ok sc_s_is_closed (fun vs H Q E h => ?_) (fun cdv A outer s H vs Q E hr h => ?_)
  · obtain ⟨d, x, F, ns, rfl, _⟩ := h
    rfl
  · obtain ⟨d, x, F, ns, rfl, hd, hx, sub, cl, k⟩ := h
    have hu := hu_of hr
    have hu64 := hr.units
    have hu65 : (A.deeper (envOfC "is_closed" (defScope s_is_closed) s.heap.objs.size f cdv)).units + 65 < cLine := by
      have := hr.un
      omega
    refine ⟨_, PSs.nox (pss_cons (ps_for PassesOwn.never rfl (pi_tup (pv 1)) (pg_name (i := 2) sc_s_is_closed.nd rfl (Or.inl rfl))
          (pss_one (ps_for PassesOwn.never rfl (pi_tup (pe_dget hu (pv 0) (pv 2) (fun _ _ => rfl))) (pg_name (i := 3) sc_s_is_closed.nd rfl (Or.inl rfl))
          (pss_one (ps_if (PW.pt (pw_and (pt_cmpR op_notN (pv 3) pe_non (nomark _)) (pw_and1 (pt_cmpR (op_notInU hu65) (pv 3) (pv 1) rfl))))
          (pss_one (ps_ret pe_bl))
          pss_nil)))))
          (pss_one (ps_ret pe_bl))), ?_⟩
    obtain ⟨a, xs, rfl, ha, hxs⟩ := Dt.tupE (ds := ns.map dN) hx
    refine ⟨_, rfl, a, rfl, ⟨_, SqT.of ha⟩, ?_⟩
    refine for_it (walk_tup (K := K) (a := a) (xs := xs)) (fun i σ H' => ∃ v2 v3, σ = [some (.ref d), some (.ref a), v2, v3] ∧ H' = H) ⟨none, none, rfl, rfl⟩ (fun i σ H' _ ⟨_, _, _, e⟩ => by rw [e]; exact SqT.of ha) ?_ ?_
    · rintro i x σ _ H5 hi ⟨v2, v3, rfl, rfl⟩ ⟨rfl, hxi⟩
      obtain ⟨dd, hdd, dx⟩ := hxs.getV hxi
      rw [List.getElem?_map] at hdd
      obtain ⟨n, hn, rfl⟩ := Option.map_eq_some_iff.mp hdd
      have hn := List.mem_of_getElem? hn
      obtain ⟨b, rfl, hb⟩ := dx.nm
      obtain ⟨fs, hfs⟩ := aget_some (sub n hn)
      obtain ⟨fv, hfv, dfv⟩ := hd.get hb hfs
      obtain ⟨c, zs, rfl, hc, hzs⟩ := Dt.tupE dfv
      refine ⟨_, rfl, _, rfl, d, .ref c, rfl, hfv, c, rfl, ⟨_, SqT.of hc⟩, ?_⟩
      refine for_it (walk_tup (K := K) (a := c) (xs := zs)) (fun i σ H' => ∃ v3, σ = [some (.ref d), some (.ref a), some (.ref b), v3] ∧ H' = H5) ⟨_, rfl, rfl⟩ (fun i σ H' _ ⟨_, _, e⟩ => by rw [e]; exact SqT.of hc) ?_ ?_
      · rintro j y σ _ H6 hj ⟨v3, rfl, rfl⟩ ⟨rfl, hyj⟩
        obtain ⟨dd, hdd, dy⟩ := hzs.getV hyj
        rw [List.getElem?_map] at hdd
        obtain ⟨o, ho, rfl⟩ := Option.map_eq_some_iff.mp hdd
        refine ⟨_, rfl, rfl, _, rfl, ?_⟩
        rw [isnt_none dy]
        cases o with
        | none => exact iteF ⟨_, rfl, rfl⟩
        | some m =>
          refine iteT ⟨_, rfl, _, rfl, inNms dy (.inl hx) ⟨_, rfl, ?_⟩⟩
          have hm : m ∈ ns := cl n hn m (mem_chl.mpr ⟨fs, hfs, List.mem_of_getElem? ho⟩)
          rw [decide_eq_true hm]
          exact iteF ⟨_, rfl, rfl⟩
      · rintro σ _ ⟨v3, rfl, rfl⟩
        exact ⟨_, _, rfl, rfl⟩
    · rintro σ _ ⟨v2, v3, rfl, rfl⟩
      exact k _ (Ex.refl _)
/-! ### cut_holds -/
def spCutHolds : Sp := fun vs H Q _ => ∃ v u pic ns, vs = [v, u] ∧ Dt H v (dPic pic) ∧ PicB pic ∧ GrB (fieldsF pic) ∧ Dt H u (dPaper (.cut ns (lettersL pic))) ∧ CutOk pic ns ∧ ∀ H', Ex H H' → Q (.bl true) H'
structure CCut (P : Program) (w : World) (K : PySem.W.Frag) (mg : Str → Option Value) (base : Heap) : Prop where
  fields_by_name : Cal P w K mg base "fields_by_name" ["picture"] 1 spFields
  are_things : Cal P w K mg base "are_things" ["fields", "names"] 1 spAre
  held_names : Cal P w K mg base "held_names" ["picture"] 1 spHeld
theorem sc_s_cut_holds : FnScope ["picture", "paper", "word", "names", "letters", "fields", "name", "thing", "letter"] ["picture", "paper"] (defScope s_cut_holds) := ⟨rfl, rfl, rfl, by decide +kernel, rfl, by decide +kernel, by decide +kernel⟩
theorem ok_cut_holds (F : FnP K "cut_holds" "cut_holds" s_cut_holds f fd) (B : Bl mg) (C : CCut P w K mg base) : FnOk P w K mg base CX0 2 f fd ["picture", "paper"] spCutHolds := by
  refine F.ok sc_s_cut_holds (fun vs H Q E h => ?_) (fun cdv A outer s H vs Q E hr h => ?_)
  · obtain ⟨v, u, pic, ns, rfl, _⟩ := h
    rfl
  · obtain ⟨v, u, pic, ns, rfl, hv, hb, g, hp, ct, k⟩ := h
    have hu := hu_of hr
    have hu64 := hr.units
    have hu65 : (A.deeper (envOfC "cut_holds" (defScope s_cut_holds) s.heap.objs.size f cdv)).units + 65 < cLine := by
      have := hr.un
      omega
    refine ⟨_, PSs.nox (pss_cons (ps_asg (pv 1) (pg_tup rfl (pgs_cons (pg_name (i := 2) sc_s_cut_holds.nd rfl (Or.inl rfl)) (pgs_cons (pg_name (i := 3) sc_s_cut_holds.nd rfl (Or.inr rfl)) (pgs_cons (pg_name (i := 4) sc_s_cut_holds.nd rfl (Or.inl rfl)) pgs_nil)))))
          (pss_cons (ps_set (i := 5) sc_s_cut_holds.nd rfl (Or.inl rfl) (pe_cal C.fields_by_name (hr.mono (by decide)) pass0 (pa_cons (pv 0) pa_nil)))
          (pss_cons (ps_if (PW.pt (pw_or (pt_cmpR (op_neU hu64) (pv 2) pe_str (nomark _)) (pw_or1 (pt_not (pt_val (pe_cal C.are_things (hr.mono (by decide)) pass0 (pa_cons (pv 5) (pa_cons (pv 3) pa_nil))))))))
          (pss_one (ps_ret pe_bl))
          pss_nil)
          (pss_cons (ps_if (pt_cmpR (op_neU hu64) (pv 4) (pe_callTy call_tuple_of (by rfl) B.tuple (by decide +kernel) (pa_cons (pe_lc (own := [("letter", 8)]) (g := gName 8) (tt := tYes) rfl sc_s_cut_holds.nd (pi_tup (pe_ix ix_tup (pv 0) pe_int (fun _ _ => rfl))) (blkOk_by (N := ["picture", "paper", "word", "names", "letters", "fields", "name", "thing", "letter"]) (sc := defScope s_cut_holds) (by decide +kernel)) (fun _ _ _ _ _ => (pg_name (i := 8) sc_s_cut_holds.nd rfl (Or.inl rfl))) (fun _ _ _ _ _ => pts_nil) (fun _ _ _ _ _ => (pe_ix (r := rIxT K) ix_tup (pv 8) pe_int (fun _ _ => rfl)))) pa_nil)) (nomark _))
          (pss_one (ps_ret pe_bl))
          pss_nil)
          (pss_cons (ps_for PassesOwn.never rfl (pi_list (pe_cal C.held_names (hr.mono (by decide)) pass0 (pa_cons (pv 0) pa_nil))) (pg_name (i := 6) sc_s_cut_holds.nd rfl (Or.inl rfl))
          (pss_one (ps_if (pt_cmpR (op_inU hu65) (pv 6) (pv 3) rfl)
          (pss_one (ps_ret pe_bl))
          pss_nil)))
          (pss_cons (ps_lock (ps_for PassesOwn.never rfl (pi_keys (pv 5)) (pg_name (i := 7) sc_s_cut_holds.nd rfl (Or.inl rfl))
          (pss_one (ps_if (PW.pt (pw_and (pt_cmpR (op_notInU hu65) (pv 7) (pv 3) rfl) (pw_and1 (pt_cmpR (op_neP hu64) (pe_lc (own := [("name", 6)]) (g := gName 6) rfl sc_s_cut_holds.nd (pi_tup (pe_dget hu (pv 5) (pv 7) (fun _ _ => rfl))) (blkOk_by (N := ["picture", "paper", "word", "names", "letters", "fields", "name", "thing", "letter"]) (sc := defScope s_cut_holds) (by decide +kernel)) (fun _ _ _ _ _ => (pg_name (i := 6) sc_s_cut_holds.nd rfl (Or.inl rfl))) (fun _ _ _ _ _ => (pts_one (pt_cmpR (op_inU hu65) (pv 6) (pv 3) rfl))) (fun _ _ _ _ _ => (pv 6))) (pe_lst pa_nil) (nomark _)))))
          (pss_one (ps_ret pe_bl))
          pss_nil))))
          (pss_one (ps_ret pe_bl)))))))), ?_⟩
    obtain ⟨a, x1, x2, x3, rfl, ha, g1, g2, g3⟩ := Dt.t3 hp
    cases g1.strE
    refine ⟨_, rfl, a, _, rfl, SqT.of ha, rfl, _, _, rfl, _, _, rfl, _, _, rfl, rfl, ?_⟩
    refine ⟨_, rfl, v, pic, rfl, hv, hb, fun d H1 kvs hd e1 hd1 hk1 => ?_⟩
    refine ⟨_, rfl, neStr ⟨_, rfl, ?_⟩⟩
    refine iteF ?_
    refine ⟨_, rfl, _, rfl, d, x2, fieldsF pic, ns, rfl, ⟨kvs, .inl hd1, hk1⟩, g, g2.go e1.tx, ct.sub, fun H2 e2 => ?_⟩
    refine ⟨_, rfl, ?_⟩
    refine iteF ?_
    have e3 := e1.trans e2
    obtain ⟨pa, v1, v2, rfl, hpa, h1, h2⟩ := Dt.t2 hv
    obtain ⟨b2, xs2, rfl, hbx2, hx2⟩ := h2.tupE
    have lx2 : xs2.length = pic.letters.length := by rw [hx2.len, List.length_map]
    refine ⟨_, rfl, _, rfl, pa, _, 1, .ref b2, rfl, rfl, SqT.of (e3 _ _ hpa), rfl, b2, rfl, ⟨xs2, SqT.of (e3 _ _ hbx2)⟩, fun D hD => ?_⟩
    have bl := hb.ls
    refine lc_data (as := pic.letters) (H1 := H2) (lx2 ▸ walk_tup (K := K) (a := b2) (xs := xs2)) (fun l x H => Dt H x (dLetter l)) (fun _ => true) (fun l => dNs l.names) (by omega) hD ?_ (fun H' e => SqT.of (e _ _ (e3 _ _ hbx2))) ?_ ?_ ?_ ?_
    · exact fun _ => rfl
    · rintro j lt x H2 H3 hj e ⟨rfl, hx3⟩
      obtain ⟨y, hy, dy⟩ := hx2.get (i := j) (d := dLetter lt) (by rw [List.getElem?_map, hj]; rfl)
      rw [hx3] at hy
      cases hy
      exact ⟨rfl, dy.go (e3.trans e).tx⟩
    · intro o x H2 _ _ im R r
      exact r
    · intro lt x H2 _ _ _ im R r
      obtain ⟨c, u1, u2, u3, rfl, hc, g1, g2, g3⟩ := Dt.t3 im
      exact ⟨_, rfl, c, _, 2, u3, rfl, rfl, SqT.of hc, rfl, r _ _ (Ex.refl _) g3⟩
    intro zs H3 e4 hD3 hz3
    have e5 := e3.trans e4
    rw [show (pic.letters.filter fun _ => true).map (fun l => dNs l.names) = (lettersL pic).map dNs by
      unfold lettersL
      rw [List.map_map, List.filter_eq_self.mpr fun _ _ => rfl]
      rfl] at hz3
    refine ⟨D, zs, rfl, .inl ⟨SqL.of hD3, fun q hq => ?_⟩⟩
    have e6 : Ex H (upd H3 q (.tup zs)) := e5.trans (Ex.new hq)
    have e7 : Ex H1 (upd H3 q (.tup zs)) := (e2.trans e4).trans (Ex.new hq)
    refine .mk (g3.go e6.tx) (.tup upd_same (hz3.go (TX.updN hq))) ?_ ?_
    · have := dNss_depth (lettersL pic)
      omega
    rw [PySem.SeqAt.eqv_refl_plain _ (Dt.pl _ g3)]
    generalize upd H3 q (.tup zs) = H4 at e6 e7
    refine ⟨_, rfl, ?_⟩
    refine iteF ?_
    refine ⟨_, rfl, _, pic, rfl, hv.go e6.tx, hb, fun l H5 ys hl e8 hl5 hy5 => ?_⟩
    have e9 := e6.trans e8
    have e10 := e7.trans e8
    have lys : ys.length = (heldF pic).length := by rw [hy5.len, List.length_map]
    refine ⟨l, rfl, ⟨_, SqL.of hl5⟩, ?_⟩
    refine for_it (walk_list (K := K) (a := l) (xs := ys)) (fun i σ H' => ∃ v6 v7 v8, σ = [some (.ref pa), some (.ref a), some (.str "cut"), some x2, some x3, some (.ref d), v6, v7, v8] ∧ H' = H5) ⟨_, _, _, rfl, rfl⟩ (fun i σ H' _ ⟨_, _, _, _, e⟩ => by rw [e]; exact SqL.of hl5) ?_ ?_
    · rintro i x σ _ H6 hi ⟨v6, v7, v8, rfl, rfl⟩ ⟨rfl, hxi⟩
      obtain ⟨dd, hdd, dx⟩ := hy5.getV hxi
      rw [List.getElem?_map] at hdd
      obtain ⟨n, hn, rfl⟩ := Option.map_eq_some_iff.mp hdd
      have hn := List.mem_of_getElem? hn
      refine ⟨_, rfl, _, rfl, inNms dx (.inl (g2.go e9.tx)) ⟨_, rfl, ?_⟩⟩
      rw [decide_eq_false (ct.held n hn)]
      exact iteF ⟨_, _, _, rfl, rfl⟩
    rintro σ H5 ⟨v6, v7, v8, rfl, rfl⟩
    have hd5 := e10 _ _ hd1
    refine ⟨d, .dT kvs, hd5, trivial, fun od => ?_⟩
    have e11 : Ex H (upd H5 d (.frz od (.dT kvs))) := e9.mut hd
    have hk11 := (hk1.go e10.tx).go (TX.updD hd5 (o := .frz od (.dT kvs)))
    have hd11 : (upd H5 d (.frz od (.dT kvs))) d = some (.frz od (.dT kvs)) := upd_same
    generalize upd H5 d (.frz od (.dT kvs)) = H7 at e11 hk11 hd11
    refine ⟨_, rfl, d, od, rfl, .inr ⟨kvs, hd11, ?_⟩⟩
    refine for_it (walk_keysT (d := d) (o := od) (kvs := kvs)) (fun i σ H' => ∃ v6 v7 v8, σ = [some (.ref pa), some (.ref a), some (.str "cut"), some x2, some x3, some (.ref d), v6, v7, v8] ∧ Ex H7 H') ⟨_, _, _, rfl, Ex.refl _⟩ (fun i σ H' _ ⟨_, _, _, _, e⟩ => e _ _ hd11) ?_ ?_
    · rintro i x σ _ H8 hi ⟨v6, v7, v8, rfl, e12⟩ ⟨rfl, kk, fv, qa, hkv, rfl, hqa⟩
      have e13 := e11.trans e12
      have hks := hk11.ks
      have hkk : (kvs.map (·.1))[i]? = some kk := by rw [List.getElem?_map, hkv]; rfl
      rw [show kvs.map (·.1) = (keys (fieldsF pic)).map nkey from hks, List.getElem?_map] at hkk
      obtain ⟨n, hn, rfl⟩ := Option.map_eq_some_iff.mp hkk
      have hn := List.mem_of_getElem? hn
      refine ⟨_, rfl, _, rfl, inNms (Dt.of_key n qa hqa) (.inl (g2.go e13.tx)) ⟨_, rfl, ?_⟩⟩
      by_cases hmn : n ∈ ns
      · rw [decide_eq_true hmn]
        exact iteF ⟨_, _, _, rfl, e12⟩
      rw [decide_eq_false hmn]
      have hfd : FdD H8 d (fieldsF pic) := ⟨kvs, .inr ⟨od, e12 _ _ hd11⟩, hk11.go e12.tx⟩
      obtain ⟨fs, hfs⟩ := aget_some hn
      obtain ⟨fv, hfv, dfv⟩ := hfd.get hqa hfs
      obtain ⟨c, zs, rfl, hc, hzs⟩ := Dt.tupE dfv
      have lz : zs.length = fs.length := by rw [hzs.len, List.length_map]
      have lf := g.fls n fs hfs
      refine iteT ⟨_, rfl, _, rfl, d, .ref c, rfl, hfv, c, rfl, ⟨zs, SqT.of hc⟩, fun D hD => ?_⟩
      refine lc_data (as := fs) (H1 := H8) (lz ▸ walk_tup (K := K) (a := c) (xs := zs)) (fun o x H => Dt H x (dO o)) (oin ns) dO (by omega) hD ?_ (fun H' e => SqT.of (e _ _ hc)) ?_ ?_ ?_ ?_
      · exact fun _ => rfl
      · rintro j o x H2 H3 hj e ⟨rfl, hx3⟩
        obtain ⟨y, hy, dy⟩ := hzs.get (i := j) (d := dO o) (by rw [List.getElem?_map, hj]; rfl)
        rw [hx3] at hy
        cases hy
        exact ⟨rfl, dy.go e.tx⟩
      · intro o x H2 _ e im R r
        exact ⟨_, rfl, _, rfl, inNmsO im (.inl (g2.go (e13.trans e).tx)) ⟨_, rfl, r⟩⟩
      · intro o x H2 _ _ _ im R r
        exact ⟨_, rfl, r _ _ (Ex.refl _) im⟩
      · intro zs2 H9 e14 hD9 hz9
        have z0 : fs.filter (oin ns) = [] := by
          refine List.filter_eq_nil_iff.mpr fun o ho => ?_
          cases o with
          | none => simp [oin]
          | some m =>
            have := ct.out n hn hmn m (mem_chl.mpr ⟨fs, hfs, ho⟩)
            simp [oin, this]
        rw [z0] at hz9
        refine ⟨le16 (by show 0 ≤ 100000; decide), fun q hq => neMt (Ex.new hq _ _ hD9) (hz9.go (TX.updN hq)) upd_same ⟨_, rfl, ?_⟩⟩
        exact iteF ⟨_, _, _, rfl, (e12.trans e14).trans (Ex.new hq)⟩
    · rintro σ H8 ⟨v6, v7, v8, rfl, e12⟩
      exact ⟨e12 _ _ hd11, k _ ((e11.trans e12).mut hd)⟩
end
end HF
set_option Elab.async false
set_option linter.all false
set_option maxRecDepth 100000
set_option maxHeartbeats 4000000
namespace HF
open PySem PySem.Spec PyProof.Rows L2
/-- a start outside of some names, and the name it has -/
def StartIn (pic : Pic) (ns : List Nm) (m : Nm) : Start → Prop
  | .field t f => t ∉ ns ∧ ∃ fs, aget (fieldsF pic) t = some fs ∧ fs[f]? = some (some m)
  | st => startName pic st = some m
structure PtdOk (pic : Pic) (n : Nm) (ns : List Nm) (st : Start) (ss : Steps) (m : Nm) : Prop where
  sub : SubT (fieldsF pic) ns
  mem : n ∈ ns
  cl : ∀ a ∈ ns, ∀ b ∈ chl (fieldsF pic) a, b ∈ ns
  st : StartIn pic ns m st
  hm : m ∈ ns
  ins : ∀ s ∈ ss, s.1 ∈ ns
  path : PathF (fieldsF pic) m ss n
section
variable {P : Program} {w : World} {K : PySem.W.Frag} {mg : Str → Option Value} {base : Heap} {f : Addr} {fd : FuncData}
def spPtd : Sp := fun vs H Q _ => ∃ v u pic n ns st ss m, vs = [v, u] ∧ Dt H v (dPic pic) ∧ PicB pic ∧ GrB (fieldsF pic) ∧ Dt H u (dPaper (.pointed n ns st ss)) ∧ PtdOk pic n ns st ss m ∧ ∀ H', Ex H H' → Q (.bl true) H'
structure CPtd (P : Program) (w : World) (K : PySem.W.Frag) (mg : Str → Option Value) (base : Heap) : Prop where
  fields_by_name : Cal P w K mg base "fields_by_name" ["picture"] 1 spFields
  are_things : Cal P w K mg base "are_things" ["fields", "names"] 1 spAre
  is_closed : Cal P w K mg base "is_closed" ["fields", "names"] 1 spClosed
  thing_at : Cal P w K mg base "thing_at" ["things", "place"] 1 spThingAt
  started : Cal P w K mg base "started" ["picture", "start"] 2 spStarted
  gone_by : Cal P w K mg base "gone_by" ["fields", "here", "steps"] 2 spGoneBy
theorem sc_s_pointed_holds : FnScope ["picture", "paper", "word", "name", "names", "start", "steps", "fields", "here", "thing", "field"] ["picture", "paper"] (defScope s_pointed_holds) := ⟨rfl, rfl, rfl, by decide +kernel, rfl, by decide +kernel, by decide +kernel⟩
theorem ok_pointed_holds (F : FnP K "pointed_holds" "pointed_holds" s_pointed_holds f fd) (C : CPtd P w K mg base) : FnOk P w K mg base CX0 3 f fd ["picture", "paper"] spPtd := by
  refine F.ok sc_s_pointed_holds (fun vs H Q E h => ?_) (fun cdv A outer s H vs Q E hr h => ?_)
  · obtain ⟨v, u, pic, n, ns, st, ss, m, rfl, _⟩ := h
    rfl
  · obtain ⟨v, u, pic, n, ns, st, ss, m, rfl, hv, hb, g, hp, pt, k⟩ := h
    have hu := hu_of hr
    have hu64 := hr.units
    have hu65 : (A.deeper (envOfC "pointed_holds" (defScope s_pointed_holds) s.heap.objs.size f cdv)).units + 65 < cLine := by
      have := hr.un
      omega
    refine ⟨_, PSs.nox (pss_cons (ps_asg (pv 1) (pg_tup rfl (pgs_cons (pg_name (i := 2) sc_s_pointed_holds.nd rfl (Or.inl rfl)) (pgs_cons (pg_name (i := 3) sc_s_pointed_holds.nd rfl (Or.inl rfl)) (pgs_cons (pg_name (i := 4) sc_s_pointed_holds.nd rfl (Or.inl rfl)) (pgs_cons (pg_name (i := 5) sc_s_pointed_holds.nd rfl (Or.inl rfl)) (pgs_cons (pg_name (i := 6) sc_s_pointed_holds.nd rfl (Or.inl rfl)) pgs_nil)))))))
          (pss_cons (ps_set (i := 7) sc_s_pointed_holds.nd rfl (Or.inl rfl) (pe_cal C.fields_by_name (hr.mono (by decide)) pass0 (pa_cons (pv 0) pa_nil)))
          (pss_cons (ps_if (PW.pt (pw_or (pt_cmpR (op_neU hu64) (pv 2) pe_str (nomark _)) (pw_or (pt_not (pt_val (pe_cal C.are_things (hr.mono (by decide)) pass0 (pa_cons (pv 7) (pa_cons (pv 4) pa_nil))))) (pw_or (pt_cmpR (op_notInU hu65) (pv 3) (pv 4) rfl) (pw_or1 (pt_not (pt_val (pe_cal C.is_closed (hr.mono (by decide)) pass0 (pa_cons (pv 7) (pa_cons (pv 4) pa_nil))))))))))
          (pss_one (ps_ret pe_bl))
          pss_nil)
          (pss_cons (ps_if (pt_cmpR (op_eqU hu64) (pe_ix ix_tup (pv 5) pe_int (fun _ _ => rfl)) pe_str (nomark _))
          (pss_cons (ps_if (PW.pt (pw_or (pt_cmpR (op_inU hu65) (pe_ix ix_tup (pv 5) pe_int (fun _ _ => rfl)) (pv 4) rfl) (pw_or1 (pt_cmp (pc_dnotin hu (pe_ix ix_tup (pv 5) pe_int (fun _ _ => rfl)) (pv 7))))))
          (pss_one (ps_ret pe_bl))
          pss_nil)
          (pss_one (ps_set (i := 8) sc_s_pointed_holds.nd rfl (Or.inl rfl) (pe_cal C.thing_at (hr.mono (by decide)) pass0 (pa_cons (pe_dget hu (pv 7) (pe_ix ix_tup (pv 5) pe_int (fun _ _ => rfl)) (fun _ _ => rfl)) (pa_cons (pe_ix ix_tup (pv 5) pe_int (fun _ _ => rfl)) pa_nil))))))
          (pss_one (ps_if (pt_cmpR (op_inU hu65) (pe_ix ix_tup (pv 5) pe_int (fun _ _ => rfl)) (pe_tup (pa_cons pe_str (pa_cons pe_str pa_nil))) rfl)
          (pss_one (ps_set (i := 8) sc_s_pointed_holds.nd rfl (Or.inl rfl) (pe_cal C.started (hr.mono (by decide)) pass0 (pa_cons (pv 0) (pa_cons (pv 5) pa_nil)))))
          (pss_one (ps_ret pe_bl)))))
          (pss_cons (ps_for PassesOwn.never rfl (pi_tup (pv 6)) (pg_tup rfl (pgs_cons (pg_name (i := 9) sc_s_pointed_holds.nd rfl (Or.inl rfl)) (pgs_cons (pg_name (i := 10) sc_s_pointed_holds.nd rfl (Or.inl rfl)) pgs_nil)))
          (pss_one (ps_if (pt_cmpR (op_notInU hu65) (pv 9) (pv 4) rfl)
          (pss_one (ps_ret pe_bl))
          pss_nil)))
          (pss_one (ps_ret (pe_and (pe_cmpR (op_inU hu65) (pv 8) (pv 4) rfl) (pe_one (pe_cmpR (op_eqU hu64) (pe_cal C.gone_by (hr.mono (by decide)) pass0 (pa_cons (pv 7) (pa_cons (pv 8) (pa_cons (pv 6) pa_nil)))) (pv 3) (nomark _))))))))))), ?_⟩
    obtain ⟨a, x1, x2, x3, x4, x5, rfl, ha, g1, g2, g3, g4, g5⟩ := Dt.t5 hp
    cases g1.strE
    refine ⟨_, rfl, a, _, rfl, SqT.of ha, rfl, _, _, rfl, _, _, rfl, _, _, rfl, _, _, rfl, _, _, rfl, rfl, ?_⟩
    refine ⟨_, rfl, v, pic, rfl, hv, hb, fun d H1 kvs hd e1 hd1 hk1 => ?_⟩
    refine ⟨_, rfl, neStr ⟨_, rfl, ?_⟩⟩
    refine iteF ?_
    refine ⟨_, rfl, _, rfl, d, x3, fieldsF pic, ns, rfl, ⟨kvs, .inl hd1, hk1⟩, g, g3.go e1.tx, pt.sub, fun H2 e2 => ?_⟩
    refine ⟨_, rfl, ?_⟩
    refine iteF ?_
    have e3 := e1.trans e2
    refine ⟨_, rfl, _, rfl, inNms (g2.go e3.tx) (.inl (g3.go e3.tx)) ⟨_, rfl, ?_⟩⟩
    rw [decide_eq_true pt.mem]
    refine iteF ?_
    refine ⟨_, rfl, _, rfl, d, x3, fieldsF pic, ns, rfl, ⟨kvs, .inl (e2 _ _ hd1), hk1.go e2.tx⟩, g3.go e3.tx, pt.sub.sub, pt.cl, fun H3 e4 => ?_⟩
    refine ⟨_, rfl, ?_⟩
    refine iteF ?_
    have e5 := e3.trans e4
    have hd3 : H3 d = some (.dT kvs) := e4 _ _ (e2 _ _ hd1)
    have hk3 : KVs H3 dFlds kvs (fieldsF pic) := hk1.go (e2.trans e4).tx
    have hfd3 : FdD H3 d (fieldsF pic) := ⟨kvs, .inl hd3, hk3⟩
    have ps := pt.st
    have key : (∃ b x y z, x4 = .ref b ∧ H b = some (.tup [.str x, y, z]) ∧ (x = "hand" ∨ x = "letter") ∧ startName pic st = some m) ∨ ∃ t i b y z, st = .field t i ∧ x4 = .ref b ∧ H b = some (.tup [.str "field", y, z]) ∧ Dt H y (dN t) ∧ z = .int (i : Nat) := by
      cases st with
      | hand i p =>
        obtain ⟨b, y1, y2, y3, rfl, hb, k1, k2, k3⟩ := Dt.t3 g4
        cases k1.strE
        exact .inl ⟨b, _, _, _, rfl, hb, .inl rfl, ps⟩
      | letter i p =>
        obtain ⟨b, y1, y2, y3, rfl, hb, k1, k2, k3⟩ := Dt.t3 g4
        cases k1.strE
        exact .inl ⟨b, _, _, _, rfl, hb, .inr rfl, ps⟩
      | field t i =>
        obtain ⟨b, y1, y2, y3, rfl, hb, k1, k2, k3⟩ := Dt.t3 g4
        cases k1.strE
        exact .inr ⟨t, i, b, _, _, rfl, rfl, hb, k2, k3.intE⟩
    rcases key with ⟨b, x, y, z, rfl, hbz, hx, hsn⟩ | ⟨t, i, b, y, z, rfl, rfl, hbz, hy, rfl⟩
    · have hbz3 := e5 _ _ hbz
      refine ⟨_, rfl, b, _, 0, _, rfl, rfl, SqT.of hbz3, rfl, eqStr ⟨_, rfl, ?_⟩⟩
      have e0 : (x == ("field" : Str)) = false := by
        rcases hx with rfl | rfl
        · decide
        · decide
      rw [e0]
      refine iteF ?_
      refine ⟨_, rfl, b, _, 0, _, rfl, rfl, SqT.of hbz3, rfl, le16 (by show 2 ≤ 100000; decide), fun q hq => ?_⟩
      have e6 : Ex H3 (upd H3 q (.tup [.str "hand", .str "letter"])) := Ex.new hq
      refine inStr (xs := ["hand", "letter"]) upd_same ⟨_, rfl, ?_⟩
      have e7 : ((["hand", "letter"] : List Str).any fun z => z == x) = true := by
        rcases hx with rfl | rfl
        · decide
        · decide
      rw [e7]
      refine iteT ?_
      generalize upd H3 q (.tup [.str "hand", .str "letter"]) = H4 at e6
      have e8 := e5.trans e6
      refine ⟨_, rfl, _, rfl, v, _, pic, st, m, rfl, hv.go e8.tx, g4.go e8.tx, hsn, fun hr hr' => ?_⟩
      have hfd4 := hfd3.go e6
      obtain ⟨sa, ssv, rfl, hsa, hss⟩ := Dt.tupE (ds := ss.map dStep) g5
      have lss : ssv.length = ss.length := by rw [hss.len, List.length_map]
      have hsa4 := e8 _ _ hsa
      refine ⟨_, rfl, sa, rfl, ⟨_, SqT.of hsa4⟩, ?_⟩
      refine for_it (walk_tup (K := K) (a := sa) (xs := ssv)) (fun i σ H' => ∃ v9 v10, σ = [some v, some (.ref a), some (.str "pointed"), some x2, some x3, some (.ref b), some (.ref sa), some (.ref d), some hr, v9, v10] ∧ H' = H4) ⟨_, _, rfl, rfl⟩ (fun i σ H' _ ⟨_, _, _, e⟩ => by rw [e]; exact SqT.of hsa4) ?_ ?_
      · rintro i z σ _ H1 hi ⟨v9, v10, rfl, rfl⟩ ⟨rfl, hz⟩
        have hi2 : i < ss.length := by omega
        have e1 : ss[i]? = some ss[i] := by simp [hi2]
        generalize ss[i] = st at e1
        obtain ⟨t, g⟩ := st
        obtain ⟨y, hy, dy⟩ := (hss.go e8.tx).get (i := i) (d := dStep (t, g)) (by rw [List.getElem?_map, e1]; rfl)
        rw [hz] at hy
        cases hy
        obtain ⟨c, w1, w2, rfl, hc, k1, k2⟩ := Dt.t2 dy
        refine ⟨c, _, rfl, SqT.of hc, rfl, _, _, rfl, _, _, rfl, rfl, ?_⟩
        refine ⟨_, rfl, _, rfl, inNms k1 (.inl (g3.go e8.tx)) ⟨_, rfl, ?_⟩⟩
        have hm : t ∈ ns := pt.ins (t, g) (List.mem_of_getElem? e1)
        rw [decide_eq_true hm]
        exact iteF ⟨_, _, rfl, rfl⟩
      · rintro σ H4 ⟨v9, v10, rfl, rfl⟩
        refine ⟨_, rfl, _, rfl, inNms hr' (.inl (g3.go e8.tx)) ⟨_, rfl, ?_⟩⟩
        rw [decide_eq_true pt.hm]
        refine ⟨_, rfl, _, rfl, _, rfl, d, hr, .ref sa, fieldsF pic, m, ss, n, rfl, hfd4, hr', g5.go e8.tx, pt.path, fun r2 H5 e9 dr => ?_⟩
        refine ⟨_, rfl, eqNm dr (g2.go (e8.trans e9).tx) ?_⟩
        rw [decide_eq_true rfl]
        exact k _ (e8.trans e9)
    · have hbz3 := e5 _ _ hbz
      have hy3 := hy.go e5.tx
      obtain ⟨tn, rfl, htn⟩ := hy3.nm
      refine ⟨_, rfl, b, _, 0, _, rfl, rfl, SqT.of hbz3, rfl, eqStr ⟨_, rfl, ?_⟩⟩
      refine iteT ?_
      obtain ⟨h1, fs, hfs, hfi⟩ := ps
      refine ⟨_, rfl, b, _, 1, _, rfl, rfl, SqT.of hbz3, rfl, _, rfl, inNms hy3 (.inl (g3.go e5.tx)) ⟨_, rfl, ?_⟩⟩
      rw [decide_eq_false h1]
      refine iteF ?_
      obtain ⟨o, ho, hos⟩ := hfd3.has htn
      refine ⟨_, rfl, b, _, 1, _, rfl, rfl, SqT.of hbz3, rfl, _, rfl, d, o, rfl, ho, _, rfl, ?_⟩
      rw [hos, decide_eq_true (aget_key hfs)]
      refine iteF ?_
      obtain ⟨fv, hfv, dfv⟩ := hfd3.get htn hfs
      refine ⟨_, rfl, _, rfl, b, _, 1, _, rfl, rfl, SqT.of hbz3, rfl, d, fv, rfl, hfv, _, rfl, b, _, 2, _, rfl, rfl, SqT.of hbz3, rfl, fv, _, (i : Int), rfl, dfv, fun hr hr' => ?_⟩
      rw [thingAt_get (d := dN m) (by rw [List.getElem?_map, hfi]; rfl)] at hr'
      have e8 := e5
      have hfd4 := hfd3
      obtain ⟨sa, ssv, rfl, hsa, hss⟩ := Dt.tupE (ds := ss.map dStep) g5
      have lss : ssv.length = ss.length := by rw [hss.len, List.length_map]
      have hsa4 := e8 _ _ hsa
      refine ⟨_, rfl, sa, rfl, ⟨_, SqT.of hsa4⟩, ?_⟩
      refine for_it (walk_tup (K := K) (a := sa) (xs := ssv)) (fun i σ H' => ∃ v9 v10, σ = [some v, some (.ref a), some (.str "pointed"), some x2, some x3, some (.ref b), some (.ref sa), some (.ref d), some hr, v9, v10] ∧ H' = H3) ⟨_, _, rfl, rfl⟩ (fun i σ H' _ ⟨_, _, _, e⟩ => by rw [e]; exact SqT.of hsa4) ?_ ?_
      · rintro i z σ _ H1 hi ⟨v9, v10, rfl, rfl⟩ ⟨rfl, hz⟩
        have hi2 : i < ss.length := by omega
        have e1 : ss[i]? = some ss[i] := by simp [hi2]
        generalize ss[i] = st at e1
        obtain ⟨t, g⟩ := st
        obtain ⟨y, hy, dy⟩ := (hss.go e8.tx).get (i := i) (d := dStep (t, g)) (by rw [List.getElem?_map, e1]; rfl)
        rw [hz] at hy
        cases hy
        obtain ⟨c, w1, w2, rfl, hc, k1, k2⟩ := Dt.t2 dy
        refine ⟨c, _, rfl, SqT.of hc, rfl, _, _, rfl, _, _, rfl, rfl, ?_⟩
        refine ⟨_, rfl, _, rfl, inNms k1 (.inl (g3.go e8.tx)) ⟨_, rfl, ?_⟩⟩
        have hm : t ∈ ns := pt.ins (t, g) (List.mem_of_getElem? e1)
        rw [decide_eq_true hm]
        exact iteF ⟨_, _, rfl, rfl⟩
      · rintro σ H3 ⟨v9, v10, rfl, rfl⟩
        refine ⟨_, rfl, _, rfl, inNms hr' (.inl (g3.go e8.tx)) ⟨_, rfl, ?_⟩⟩
        rw [decide_eq_true pt.hm]
        refine ⟨_, rfl, _, rfl, _, rfl, d, hr, .ref sa, fieldsF pic, m, ss, n, rfl, hfd4, hr', g5.go e8.tx, pt.path, fun r2 H5 e9 dr => ?_⟩
        refine ⟨_, rfl, eqNm dr (g2.go (e8.trans e9).tx) ?_⟩
        rw [decide_eq_true rfl]
        exact k _ (e8.trans e9)
end
end HF
set_option Elab.async false
set_option linter.all false
set_option maxRecDepth 100000
set_option maxHeartbeats 4000000
namespace HF
open PySem PySem.Spec PyProof.Rows L2
def hStarts (i : Nat) (oj : Option Nm × Nat) : List (Start × Nm) := match oj.1 with
  | none => []
  | some n => [(.hand i oj.2, n)]
def lStarts (i : Nat) (nj : Nm × Nat) : List (Start × Nm) := [(.letter i nj.2, nj.1)]
def houseSt (hi : House × Nat) : List (Start × Nm) := hi.1.hands.zipIdx.flatMap (hStarts hi.2)
def letterSt (li : Letter × Nat) : List (Start × Nm) := li.1.names.zipIdx.flatMap (lStarts li.2)
/-- each hand that has a name and each name of a letter -/
def startsF (p : Pic) : List (Start × Nm) := p.houses.zipIdx.flatMap houseSt ++ p.letters.zipIdx.flatMap letterSt
theorem flat_len {α γ : Type} (g : α → List γ) (k : Nat) : ∀ l : List α, (∀ x ∈ l, (g x).length ≤ k) → (l.flatMap g).length ≤ k * l.length
  | [], _ => by simp
  | x :: r, h => by
    have h1 := flat_len g k r fun y hy => h y (List.mem_cons_of_mem _ hy)
    have h2 := h x List.mem_cons_self
    rw [List.flatMap_cons, List.length_append, List.length_cons, Nat.mul_add]
    omega
theorem hStarts_len (i : Nat) (oj : Option Nm × Nat) : (hStarts i oj).length ≤ 1 := by
  unfold hStarts
  split <;> simp
theorem zip_mem {α : Type} {l : List α} {p : α × Nat} (h : p ∈ l.zipIdx) : l[p.2]? = some p.1 := by
  obtain ⟨i, hi⟩ := List.getElem?_of_mem h
  rw [List.getElem?_zipIdx] at hi
  obtain ⟨z, hz, e⟩ := Option.map_eq_some_iff.mp hi
  subst e
  simpa using hz
theorem houseSt_len {p : Pic} (b : PicB p) {x : House × Nat} (h : x ∈ p.houses.zipIdx) : (houseSt x).length ≤ 10 := by
  have h1 := b.hns x.1 (List.mem_of_getElem? (zip_mem h))
  have h2 := flat_len (hStarts x.2) 1 x.1.hands.zipIdx fun y _ => hStarts_len _ _
  rw [List.length_zipIdx] at h2
  unfold houseSt
  omega
theorem letterSt_len {p : Pic} (b : PicB p) {x : Letter × Nat} (h : x ∈ p.letters.zipIdx) : (letterSt x).length ≤ 10 := by
  have h1 := b.lns x.1 (List.mem_of_getElem? (zip_mem h))
  have h2 := flat_len (lStarts x.2) 1 x.1.names.zipIdx fun y _ => Nat.le_refl _
  rw [List.length_zipIdx] at h2
  unfold letterSt
  omega
theorem takeH {p : Pic} (b : PicB p) (i : Nat) : ((p.houses.zipIdx.take i).flatMap houseSt).length ≤ 80 := by
  have h1 := flat_len houseSt 10 (p.houses.zipIdx.take i) fun x hx => houseSt_len b (List.mem_of_mem_take hx)
  have h2 := b.hs
  rw [List.length_take, List.length_zipIdx] at h1
  omega
theorem takeL {p : Pic} (b : PicB p) (i : Nat) : ((p.letters.zipIdx.take i).flatMap letterSt).length ≤ 100 := by
  have h1 := flat_len letterSt 10 (p.letters.zipIdx.take i) fun x hx => letterSt_len b (List.mem_of_mem_take hx)
  have h2 := b.ls
  rw [List.length_take, List.length_zipIdx] at h1
  omega
theorem startsF_len {p : Pic} (b : PicB p) : (startsF p).length ≤ 180 := by
  have h1 := takeH b p.houses.zipIdx.length
  have h2 := takeL b p.letters.zipIdx.length
  rw [List.take_length] at h1 h2
  unfold startsF
  rw [List.length_append]
  omega
theorem take_flat_len {α γ : Type} (g : α → List γ) (l : List α) (i : Nat) : ((l.take i).flatMap g).length ≤ (l.flatMap g).length := by
  have : l.flatMap g = (l.take i).flatMap g ++ (l.drop i).flatMap g := by rw [← List.flatMap_append, List.take_append_drop]
  rw [this, List.length_append]
  omega
section
variable {P : Program} {w : World} {K : PySem.W.Frag} {mg : Str → Option Value} {base : Heap} {f : Addr} {fd : FuncData}
def spStarts : Sp := fun vs H Q _ => ∃ v pic, vs = [v] ∧ Dt H v (dPic pic) ∧ PicB pic ∧ ∀ l H' xs, H l = none → Ex H H' → H' l = some (.lst xs) → DtAll H' xs ((startsF pic).map dSN) → Q (.ref l) H'
theorem sc_s_all_starts : FnScope ["picture", "found", "house", "told", "place", "name", "letter"] ["picture"] (defScope s_all_starts) := ⟨rfl, rfl, rfl, by decide +kernel, rfl, by decide +kernel, by decide +kernel⟩
theorem ok_all_starts (F : FnP K "all_starts" "all_starts" s_all_starts f fd) (B : Bl mg) : FnOk P w K mg base CX0 1 f fd ["picture"] spStarts := by
  refine F.ok sc_s_all_starts (fun vs H Q E h => ?_) (fun cdv A outer s H vs Q E hr h => ?_)
  · obtain ⟨v, pic, rfl, _⟩ := h
    rfl
  · obtain ⟨v, pic, rfl, hv, hb, k⟩ := h
    have hu := hu_of hr
    refine ⟨_, PSs.nox (pss_cons (ps_set (i := 1) sc_s_all_starts.nd rfl (Or.inl rfl) (pe_lst pa_nil))
          (pss_cons (ps_for PassesOwn.never rfl (pi_enT (by rfl) B.enumerate (pa_cons (pe_ix ix_tup (pv 0) pe_int (fun _ _ => rfl)) pa_nil)) (pg_tup rfl (pgs_cons (pg_name (i := 2) sc_s_all_starts.nd rfl (Or.inl rfl)) (pgs_cons (pg_name (i := 3) sc_s_all_starts.nd rfl (Or.inl rfl)) pgs_nil)))
          (pss_one (ps_for PassesOwn.never rfl (pi_enT (by rfl) B.enumerate (pa_cons (pe_ix ix_tup (pv 3) pe_int (fun _ _ => rfl)) pa_nil)) (pg_tup rfl (pgs_cons (pg_name (i := 4) sc_s_all_starts.nd rfl (Or.inl rfl)) (pgs_cons (pg_name (i := 5) sc_s_all_starts.nd rfl (Or.inl rfl)) pgs_nil)))
          (pss_one (ps_if (pt_cmpR op_notN (pv 5) pe_non (nomark _))
          (pss_one (ps_expr (pe_bm PySem.F.plainAttrs_list PySem.F.slot_list_append PySem.F.type_list_append mt_append (pv 1) (pa_cons (pe_tup (pa_cons (pe_tup (pa_cons pe_str (pa_cons (pv 2) (pa_cons (pv 4) pa_nil)))) (pa_cons (pv 5) pa_nil))) pa_nil))))
          pss_nil)))))
          (pss_cons (ps_for PassesOwn.never rfl (pi_enT (by rfl) B.enumerate (pa_cons (pe_ix ix_tup (pv 0) pe_int (fun _ _ => rfl)) pa_nil)) (pg_tup rfl (pgs_cons (pg_name (i := 6) sc_s_all_starts.nd rfl (Or.inl rfl)) (pgs_cons (pg_name (i := 3) sc_s_all_starts.nd rfl (Or.inl rfl)) pgs_nil)))
          (pss_one (ps_for PassesOwn.never rfl (pi_enT (by rfl) B.enumerate (pa_cons (pe_ix ix_tup (pv 3) pe_int (fun _ _ => rfl)) pa_nil)) (pg_tup rfl (pgs_cons (pg_name (i := 4) sc_s_all_starts.nd rfl (Or.inl rfl)) (pgs_cons (pg_name (i := 5) sc_s_all_starts.nd rfl (Or.inl rfl)) pgs_nil)))
          (pss_one (ps_expr (pe_bm PySem.F.plainAttrs_list PySem.F.slot_list_append PySem.F.type_list_append mt_append (pv 1) (pa_cons (pe_tup (pa_cons (pe_tup (pa_cons pe_str (pa_cons (pv 6) (pa_cons (pv 4) pa_nil)))) (pa_cons (pv 5) pa_nil))) pa_nil)))))))
          (pss_one (ps_ret (pv 1)))))), ?_⟩
    refine ⟨le16 (by show 0 ≤ 100000; decide), fun l hl => ?_⟩
    obtain ⟨a, v1, v2, rfl, ha, h1, h2⟩ := Dt.t2 hv
    obtain ⟨b, xs, rfl, hbx, hx⟩ := h1.tupE
    obtain ⟨b2, xs2, rfl, hbx2, hx2⟩ := h2.tupE
    have e0 : Ex H (upd H l (.lst [])) := Ex.new hl
    have lx : xs.length = pic.houses.length := by rw [hx.len, List.length_map]
    have lx2 : xs2.length = pic.letters.length := by rw [hx2.len, List.length_map]
    refine ⟨_, rfl, a, _, 0, .ref b, rfl, rfl, SqT.of (e0 _ _ ha), rfl, b, xs, rfl, e0 _ _ hbx, ?_⟩
    refine for_en (as := pic.houses) (walk_enT (a := b) (xs := xs)) lx (fun a h => a ++ houseSt h) [] (fun acc σ H' => ∃ v2 v3 v4 v5 v6 ys, σ = [some (.ref a), some (.ref l), v2, v3, v4, v5, v6] ∧ Ex H H' ∧ H' l = some (.lst ys) ∧ DtAll H' ys (acc.map dSN))
      ⟨none, none, none, none, none, [], rfl, e0, upd_same, .nil⟩ (fun _ σ H' ⟨_, _, _, _, _, _, _, e, _⟩ => e _ _ hbx) ?_ ?_
    · rintro i hs x T acc σ H1 hi hxi hacc ⟨v2, v3, v4, v5, v6, ys, rfl, e1, hl1, hy1⟩ hT
      obtain ⟨y, hy, dy⟩ := hx.get (i := i) (d := dHouse hs) (by rw [List.getElem?_map, hi]; rfl)
      rw [hxi] at hy
      cases hy
      refine ⟨T, _, rfl, SqT.of upd_same, rfl, _, _, rfl, _, _, rfl, rfl, ?_⟩
      have e2 : Ex H1 (upd H1 T (.tup [.int (i : Nat), x])) := Ex.new hT
      have e3 := e1.trans e2
      have hl2 := e2 _ _ hl1
      have hy2 := hy1.go e2.tx
      have dy2 := dy.go e3.tx
      generalize upd H1 T (.tup [.int (i : Nat), x]) = H2 at e2 e3 hl2 hy2 dy2
      obtain ⟨c, u1, u2, rfl, hc, g1, g2⟩ := Dt.t2 dy2
      obtain ⟨c1, zs, rfl, hc1, hzs⟩ := g1.tupE
      have lz : zs.length = hs.hands.length := by rw [hzs.len, List.length_map]
      refine ⟨_, rfl, c, _, 0, _, rfl, rfl, SqT.of hc, rfl, c1, zs, rfl, hc1, ?_⟩
      have bh := hb.hns hs (List.mem_of_getElem? hi)
      have ba : acc.length ≤ 80 := by
        rw [hacc, app_fold_id]
        exact takeH hb i
      refine for_en (as := hs.hands) (walk_enT (a := c1) (xs := zs)) lz (fun a h => a ++ hStarts i h) acc (fun acc σ H' => ∃ v4 v5 v6 ys, σ = [some (.ref a), some (.ref l), some (.int (i : Nat)), some (.ref c), v4, v5, v6] ∧ Ex H H' ∧ TX H2 H' ∧ H' l = some (.lst ys) ∧ DtAll H' ys (acc.map dSN))
        ⟨_, _, _, ys, rfl, e3, TX.refl _, hl2, hy2⟩ (fun _ σ H' ⟨_, _, _, _, _, _, t, _⟩ => t _ _ hc1) ?_ ?_
      · rintro j o x T acc2 σ H3 hj hxj hacc2 ⟨v4, v5, v6, ys, rfl, e4, t4, hl3, hy3⟩ hT
        obtain ⟨y, hy, dy⟩ := hzs.get (i := j) (d := dO o) (by rw [List.getElem?_map, hj]; rfl)
        rw [hxj] at hy
        cases hy
        refine ⟨T, _, rfl, SqT.of upd_same, rfl, _, _, rfl, _, _, rfl, rfl, ?_⟩
        have e5 : Ex H3 (upd H3 T (.tup [.int (j : Nat), x])) := Ex.new hT
        have e6 := e4.trans e5
        have t6 := t4.trans e5.tx
        have hl4 := e5 _ _ hl3
        have hy4 := hy3.go e5.tx
        have dy4 := dy.go t6
        generalize upd H3 T (.tup [.int (j : Nat), x]) = H4 at e5 e6 t6 hl4 hy4 dy4
        refine ⟨_, rfl, rfl, _, rfl, ?_⟩
        rw [isnt_none dy4]
        cases o with
        | none =>
          refine iteF ⟨_, _, _, ys, rfl, e6, t6, hl4, ?_⟩
          show DtAll H4 ys ((acc2 ++ []).map dSN)
          rw [List.append_nil]
          exact hy4
        | some n =>
          have ba2 : acc2.length ≤ 100 := by
            rw [hacc2, app_fold, List.length_append]
            have h1 := take_flat_len (hStarts i) hs.hands.zipIdx j
            have h2 := flat_len (hStarts i) 1 hs.hands.zipIdx fun y _ => hStarts_len _ _
            rw [List.length_zipIdx] at h2
            omega
          have ly := hy4.len
          rw [List.length_map] at ly
          refine iteT ⟨_, rfl, .inl ⟨rfl, _, SqL.of hl4⟩, _, rfl, _, rfl, le16 (by show 3 ≤ 100000; decide), fun q hq => ⟨_, rfl, le16 (by show 2 ≤ 100000; decide), fun q2 hq2 => ?_⟩⟩
          have e7 : Ex H4 (upd (upd H4 q (.tup [.str "hand", .int (i : Nat), .int (j : Nat)])) q2 (.tup [.ref q, x])) := (Ex.new hq).trans (Ex.new hq2)
          have dq : Dt (upd (upd H4 q (.tup [.str "hand", .int (i : Nat), .int (j : Nat)])) q2 (.tup [.ref q, x])) (.ref q2) (dSN (.hand i j, n)) :=
            .tup upd_same (.cons (.tup (Ex.new hq2 _ _ upd_same) (.cons (.str _) (.cons (.int _) (.cons (.int _) .nil)))) (.cons (dy4.go e7.tx) .nil))
          refine ⟨l, ys, _, rfl, rfl, e7 _ _ hl4, lt16 (by omega), ?_⟩
          have t8 : TX _ (upd (upd (upd H4 q (.tup [.str "hand", .int (i : Nat), .int (j : Nat)])) q2 (.tup [.ref q, x])) l (.lst (ys ++ [.ref q2]))) := TX.updL (e7 _ _ hl4)
          refine ⟨_, _, _, _, rfl, (e6.trans e7).mut hl, (t6.trans e7.tx).trans t8, upd_same, ?_⟩
          show DtAll _ _ ((acc2 ++ [(Start.hand i j, n)]).map dSN)
          rw [List.map_append]
          exact ((hy4.go e7.tx).snoc dq).go t8
      · rintro σ H3 ⟨v4, v5, v6, ys, rfl, e4, t4, hl3, hy3⟩
        rw [app_fold] at hy3
        exact ⟨_, _, _, _, _, ys, rfl, e4, hl3, hy3⟩
    · rintro σ H1 ⟨v2, v3, v4, v5, v6, ys, rfl, e1, hl1, hy1⟩
      rw [app_fold_id] at hy1
      refine ⟨_, rfl, a, _, 1, .ref b2, rfl, rfl, SqT.of (e1 _ _ ha), rfl, b2, xs2, rfl, e1 _ _ hbx2, ?_⟩
      refine for_en (as := pic.letters) (walk_enT (a := b2) (xs := xs2)) lx2 (fun a h => a ++ letterSt h) _ (fun acc σ H' => ∃ v2 v3 v4 v5 v6 ys, σ = [some (.ref a), some (.ref l), v2, v3, v4, v5, v6] ∧ Ex H H' ∧ H' l = some (.lst ys) ∧ DtAll H' ys (acc.map dSN))
        ⟨_, _, _, _, _, ys, rfl, e1, hl1, hy1⟩ (fun _ σ H' ⟨_, _, _, _, _, _, _, e, _⟩ => e _ _ hbx2) ?_ ?_
      · rintro i lt x T acc σ H1 hi hxi hacc ⟨v2, v3, v4, v5, v6, ys, rfl, e1, hl1, hy1⟩ hT
        obtain ⟨y, hy, dy⟩ := hx2.get (i := i) (d := dLetter lt) (by rw [List.getElem?_map, hi]; rfl)
        rw [hxi] at hy
        cases hy
        refine ⟨T, _, rfl, SqT.of upd_same, rfl, _, _, rfl, _, _, rfl, rfl, ?_⟩
        have e2 : Ex H1 (upd H1 T (.tup [.int (i : Nat), x])) := Ex.new hT
        have e3 := e1.trans e2
        have hl2 := e2 _ _ hl1
        have hy2 := hy1.go e2.tx
        have dy2 := dy.go e3.tx
        generalize upd H1 T (.tup [.int (i : Nat), x]) = H2 at e2 e3 hl2 hy2 dy2
        obtain ⟨c, u1, u2, u3, rfl, hc, g1, g2, g3⟩ := Dt.t3 dy2
        obtain ⟨c1, zs, rfl, hc1, hzs⟩ := Dt.tupE (ds := lt.names.map dN) g3
        have lz : zs.length = lt.names.length := by rw [hzs.len, List.length_map]
        refine ⟨_, rfl, c, _, 2, _, rfl, rfl, SqT.of hc, rfl, c1, zs, rfl, hc1, ?_⟩
        have bh := hb.lns lt (List.mem_of_getElem? hi)
        have ba : acc.length ≤ 180 := by
          rw [hacc, app_fold, List.length_append]
          have h1 := takeH hb pic.houses.zipIdx.length
          rw [List.take_length] at h1
          have h2 := takeL hb i
          omega
        refine for_en (as := lt.names) (walk_enT (a := c1) (xs := zs)) lz (fun a h => a ++ lStarts i h) acc (fun acc σ H' => ∃ v2 v4 v5 ys, σ = [some (.ref a), some (.ref l), v2, some (.ref c), v4, v5, some (.int (i : Nat))] ∧ Ex H H' ∧ TX H2 H' ∧ H' l = some (.lst ys) ∧ DtAll H' ys (acc.map dSN))
          ⟨_, _, _, ys, rfl, e3, TX.refl _, hl2, hy2⟩ (fun _ σ H' ⟨_, _, _, _, _, _, t, _⟩ => t _ _ hc1) ?_ ?_
        · rintro j n x T acc2 σ H3 hj hxj hacc2 ⟨v2, v4, v5, ys, rfl, e4, t4, hl3, hy3⟩ hT
          obtain ⟨y, hy, dy⟩ := hzs.get (i := j) (d := dN n) (by rw [List.getElem?_map, hj]; rfl)
          rw [hxj] at hy
          cases hy
          refine ⟨T, _, rfl, SqT.of upd_same, rfl, _, _, rfl, _, _, rfl, rfl, ?_⟩
          have e5 : Ex H3 (upd H3 T (.tup [.int (j : Nat), x])) := Ex.new hT
          have e6 := e4.trans e5
          have t6 := t4.trans e5.tx
          have hl4 := e5 _ _ hl3
          have hy4 := hy3.go e5.tx
          have dy4 := dy.go t6
          generalize upd H3 T (.tup [.int (j : Nat), x]) = H4 at e5 e6 t6 hl4 hy4 dy4
          have ba2 : acc2.length ≤ 200 := by
            rw [hacc2, app_fold, List.length_append]
            have h1 := take_flat_len (lStarts i) lt.names.zipIdx j
            have h2 := flat_len (lStarts i) 1 lt.names.zipIdx fun y _ => Nat.le_refl _
            rw [List.length_zipIdx] at h2
            omega
          have ly := hy4.len
          rw [List.length_map] at ly
          refine ⟨_, rfl, .inl ⟨rfl, _, SqL.of hl4⟩, _, rfl, _, rfl, le16 (by show 3 ≤ 100000; decide), fun q hq => ⟨_, rfl, le16 (by show 2 ≤ 100000; decide), fun q2 hq2 => ?_⟩⟩
          have e7 : Ex H4 (upd (upd H4 q (.tup [.str "letter", .int (i : Nat), .int (j : Nat)])) q2 (.tup [.ref q, x])) := (Ex.new hq).trans (Ex.new hq2)
          have dq : Dt (upd (upd H4 q (.tup [.str "letter", .int (i : Nat), .int (j : Nat)])) q2 (.tup [.ref q, x])) (.ref q2) (dSN (.letter i j, n)) :=
            .tup upd_same (.cons (.tup (Ex.new hq2 _ _ upd_same) (.cons (.str _) (.cons (.int _) (.cons (.int _) .nil)))) (.cons (dy4.go e7.tx) .nil))
          refine ⟨l, ys, _, rfl, rfl, e7 _ _ hl4, lt16 (by omega), ?_⟩
          have t8 : TX _ (upd (upd (upd H4 q (.tup [.str "letter", .int (i : Nat), .int (j : Nat)])) q2 (.tup [.ref q, x])) l (.lst (ys ++ [.ref q2]))) := TX.updL (e7 _ _ hl4)
          refine ⟨_, _, _, _, rfl, (e6.trans e7).mut hl, (t6.trans e7.tx).trans t8, upd_same, ?_⟩
          show DtAll _ _ ((acc2 ++ [(Start.letter i j, n)]).map dSN)
          rw [List.map_append]
          exact ((hy4.go e7.tx).snoc dq).go t8
        · rintro σ H3 ⟨v2, v4, v5, ys, rfl, e4, t4, hl3, hy3⟩
          rw [app_fold] at hy3
          exact ⟨_, _, _, _, _, ys, rfl, e4, hl3, hy3⟩
      · rintro σ H3 ⟨v2, v3, v4, v5, v6, ys, rfl, e4, hl3, hy3⟩
        rw [app_fold] at hy3
        exact ⟨_, rfl, k l H3 ys hl e4 hl3 hy3⟩
end
end HF
set_option Elab.async false
set_option linter.all false
set_option maxRecDepth 100000
set_option maxHeartbeats 4000000
namespace HF
open PySem PySem.Spec PyProof.Rows L2
/-! ### ways: a start's number, and steps -/
abbrev Way := Nat × Steps
def dWay (a : Way) : PyData := .tuple [.int (a.1 : Nat), dSteps a.2]
def dWayO : Option Way → PyData
  | none => .none
  | some a => dWay a
def bettr (a : Way) : Option Way → Bool
  | none => true
  | some b => PySem.W.dataLt (dWay a) (dWay b)
theorem alike_steps : ∀ ss ts : Steps, PySem.W.alikeAll (ss.map dStep) (ts.map dStep) = true
  | [], _ => by simp [PySem.W.alikeAll]
  | _ :: _, [] => by simp [PySem.W.alikeAll]
  | a :: r, b :: s => by
    rw [List.map_cons, List.map_cons]
    simp [PySem.W.alikeAll, dStep, dN, PySem.W.alike, alike_steps r s]
theorem alike_way (a b : Way) : PySem.W.alike (dWay a) (dWay b) = true := by
  simp [dWay, dSteps, PySem.W.alike, PySem.W.alikeAll, alike_steps]
theorem dStep_depth (s : Nm × Nat) : (dStep s).depth = 2 := by simp [dStep, dN, PyData.depth, PyData.depthAll]
theorem dSteps_depth (ss : Steps) : (dSteps ss).depth ≤ 3 := by
  have := depthAll_le dStep 2 ss fun a _ => by rw [dStep_depth]; exact Nat.le_refl _
  simp only [dSteps, PyData.depth]
  omega
theorem dWay_depth (a : Way) : (dWay a).depth ≤ 10 := by
  have := dSteps_depth a.2
  simp only [dWay, PyData.depth, PyData.depthAll]
  omega
def firstStep (acc : List (Nm × Way)) (si : (Start × Nm) × Nat) : List (Nm × Way) := if si.1.2 ∈ keys acc then acc else aput acc si.1.2 (si.2, [])
def firstWays (S : List (Start × Nm)) : List (Nm × Way) := S.zipIdx.foldl firstStep []
def nextStep (met : List Nm) (name : Nm) (a : Way) (acc : List (Nm × Way)) (x : Option Nm × Nat) : List (Nm × Way) := match x.1 with
  | none => acc
  | some m => if m ∈ met then acc else if bettr (a.1, a.2 ++ [(name, x.2)]) (aget acc m) = true then aput acc m (a.1, a.2 ++ [(name, x.2)]) else acc
def nextOf (F : List (Nm × Flds)) (met : List Nm) (acc : List (Nm × Way)) (p : Nm × Way) : List (Nm × Way) := ((aget F p.1).getD []).zipIdx.foldl (nextStep met p.1 p.2) acc
def nextWays (F : List (Nm × Flds)) (W : List (Nm × Way)) (met : List Nm) : List (Nm × Way) := W.foldl (nextOf F met) []
theorem firstStep_len (acc : List (Nm × Way)) (si : (Start × Nm) × Nat) : (firstStep acc si).length ≤ acc.length + 1 := by
  unfold firstStep
  split
  · omega
  · exact aput_len
theorem nextStep_len (met : List Nm) (name : Nm) (a : Way) (acc : List (Nm × Way)) (x : Option Nm × Nat) : (nextStep met name a acc x).length ≤ acc.length + 1 := by
  unfold nextStep
  split
  · omega
  · split
    · omega
    · split
      · exact aput_len
      · omega
theorem fold_len {α β : Type} (st : List β → α → List β) (k : Nat) : ∀ (l : List α) (acc : List β), (∀ a ∈ l, ∀ acc, (st acc a).length ≤ acc.length + k) → (l.foldl st acc).length ≤ acc.length + k * l.length
  | [], acc, _ => Nat.le_refl _
  | a :: r, acc, h => by
    have h1 := fold_len st k r (st acc a) fun b hb => h b (List.mem_cons_of_mem _ hb)
    have h2 := h a List.mem_cons_self acc
    rw [List.foldl_cons, List.length_cons, Nat.mul_add]
    omega
theorem nextOf_len {F : List (Nm × Flds)} (g : GrB F) (met : List Nm) (acc : List (Nm × Way)) (p : Nm × Way) : (nextOf F met acc p).length ≤ acc.length + 4 := by
  have h1 := fold_len (nextStep met p.1 p.2) 1 ((aget F p.1).getD []).zipIdx acc fun a _ acc => nextStep_len met p.1 p.2 acc a
  rw [List.length_zipIdx] at h1
  have h2 : ((aget F p.1).getD []).length ≤ 4 := by
    cases h : aget F p.1 with
    | none => simp
    | some fs => exact g.fls _ fs h
  unfold nextOf
  omega
section
variable {P : Program} {w : World} {K : PySem.W.Frag} {mg : Str → Option Value} {base : Heap} {f : Addr} {fd : FuncData}
def spBetter : Sp := fun vs H Q _ => ∃ u v a o, vs = [u, v] ∧ Dt H u (dWay a) ∧ Dt H v (dWayO o) ∧ Q (.bl (bettr a o)) H
theorem sc_s_better : FnScope ["one", "other"] ["one", "other"] (defScope s_better) := ⟨rfl, rfl, rfl, by decide +kernel, rfl, by decide +kernel, by decide +kernel⟩
theorem ok_better (F : FnP K "better" "better" s_better f fd) : FnOk P w K mg base CX0 1 f fd ["one", "other"] spBetter := by
  refine F.ok sc_s_better (fun vs H Q E h => ?_) (fun cdv A outer s H vs Q E hr h => ?_)
  · obtain ⟨u, v, a, o, rfl, _⟩ := h
    rfl
  · obtain ⟨u, v, a, o, rfl, hu1, hv1, k⟩ := h
    have hu64 := hr.units
    refine ⟨_, PSs.nox (pss_one (ps_ret (pe_or (pe_cmpR op_isN (pv 1) pe_non (nomark _)) (pe_one (pe_cmpR (op_ltU hu64) (pv 0) (pv 1) (nomark _)))))), ?_⟩
    cases o with
    | none =>
      cases hv1.noneE
      exact ⟨_, rfl, rfl, _, rfl, iteT k⟩
    | some b =>
      obtain ⟨c, x, y, rfl, _⟩ := Dt.t2 (show Dt H v (.tuple [.int (b.1 : Nat), dSteps b.2]) from hv1)
      refine ⟨_, rfl, rfl, _, rfl, iteF ⟨_, rfl, _, rfl, ?_⟩⟩
      have := dWay_depth a
      exact .mk hu1 hv1 (by omega) (alike_way a b) (fun z => nomatch z) k
/-! ### first_ways -/
def spFirst : Sp := fun vs H Q _ => ∃ l xs S, vs = [.ref l] ∧ H l = some (.lst xs) ∧ DtAll H xs (S.map dSN) ∧ S.length ≤ 1000 ∧ ∀ d H' kvs, H d = none → Ex H H' → H' d = some (.dT kvs) → KVs H' dWay kvs (firstWays S) → Q (.ref d) H'
theorem sc_s_first_ways : FnScope ["starts", "found", "number", "start"] ["starts"] (defScope s_first_ways) := ⟨rfl, rfl, rfl, by decide +kernel, rfl, by decide +kernel, by decide +kernel⟩
theorem ok_first_ways (F : FnP K "first_ways" "first_ways" s_first_ways f fd) (B : Bl mg) : FnOk P w K mg base CX0 1 f fd ["starts"] spFirst := by
  refine F.ok sc_s_first_ways (fun vs H Q E h => ?_) (fun cdv A outer s H vs Q E hr h => ?_)
  · obtain ⟨l, xs, S, rfl, _⟩ := h
    rfl
  · obtain ⟨l, xs, S, rfl, hl, hx, hS, k⟩ := h
    have hu := hu_of hr
    refine ⟨_, PSs.nox (pss_cons (ps_set (i := 1) sc_s_first_ways.nd rfl (Or.inl rfl) pe_dnewT)
          (pss_cons (ps_for PassesOwn.never rfl (pi_enum (by rfl) B.enumerate (pa_cons (pv 0) pa_nil)) (pg_tup rfl (pgs_cons (pg_name (i := 2) sc_s_first_ways.nd rfl (Or.inl rfl)) (pgs_cons (pg_name (i := 3) sc_s_first_ways.nd rfl (Or.inl rfl)) pgs_nil)))
          (pss_one (ps_if (pt_cmp (pc_dnotin hu (pe_ix ix_tup (pv 3) pe_int (fun _ _ => rfl)) (pv 1)))
          (pss_one (ps_dput hu (pv 1) (pe_ix ix_tup (pv 3) pe_int (fun _ _ => rfl)) (pe_tup (pa_cons (pv 2) (pa_cons (pe_tup pa_nil) pa_nil))) rfl))
          pss_nil)))
          (pss_one (ps_ret (pv 1))))), ?_⟩
    intro d hd
    have e0 : Ex H (upd H d (.dT [])) := Ex.new hd
    have lx : xs.length = S.length := by rw [hx.len, List.length_map]
    refine ⟨_, rfl, l, xs, rfl, SqL.of (e0 _ _ hl), ?_⟩
    refine for_en (as := S) (walk_enum (K := K) (a := l) (xs := xs)) lx firstStep [] (fun acc σ H' => ∃ v2 v3 kvs, σ = [some (.ref l), some (.ref d), v2, v3] ∧ Ex H H' ∧ H' d = some (.dT kvs) ∧ KVs H' dWay kvs acc)
      ⟨none, none, [], rfl, e0, upd_same, .nil⟩ (fun _ σ H' ⟨_, _, _, _, e, _⟩ => SqL.of (e _ _ hl)) ?_ ?_
    · rintro i s x T acc σ H1 hi hxi hacc ⟨v2, v3, kvs, rfl, e1, hd1, hk1⟩ hT
      obtain ⟨y, hy, dy⟩ := hx.get (i := i) (d := dSN s) (by rw [List.getElem?_map, hi]; rfl)
      rw [hxi] at hy
      cases hy
      refine ⟨T, _, rfl, SqT.of upd_same, rfl, _, _, rfl, _, _, rfl, rfl, ?_⟩
      have e2 : Ex H1 (upd H1 T (.tup [.int (i : Nat), x])) := Ex.new hT
      have e3 := e1.trans e2
      have hd2 := e2 _ _ hd1
      have hk2 := hk1.go e2.tx
      have dy2 := dy.go e3.tx
      generalize upd H1 T (.tup [.int (i : Nat), x]) = H2 at e2 e3 hd2 hk2 dy2
      obtain ⟨st, n⟩ := s
      obtain ⟨c, u1, u2, rfl, hc, g1, g2⟩ := Dt.t2 dy2
      obtain ⟨b, rfl, hb⟩ := g2.nm
      refine ⟨_, rfl, c, _, 1, _, rfl, rfl, SqT.of hc, rfl, _, rfl, d, _, rfl, dget_of (.inl hd2) hb, _, rfl, ?_⟩
      rw [hk2.ks.isS n]
      have bl : kvs.length ≤ 1000 := by
        rw [hk2.len, hacc]
        have h1 := fold_len firstStep 1 (S.zipIdx.take i) [] fun a _ acc => firstStep_len acc a
        rw [List.length_take, List.length_zipIdx, List.length_nil] at h1
        omega
      by_cases hm : n ∈ keys acc
      · rw [decide_eq_true hm]
        have es : firstStep acc ((st, n), i) = acc := by unfold firstStep; rw [if_pos hm]
        rw [es]
        exact iteF ⟨_, _, kvs, rfl, e3, hd2, hk2⟩
      · rw [decide_eq_false hm]
        have es : firstStep acc ((st, n), i) = aput acc n (i, []) := by unfold firstStep; rw [if_neg hm]
        rw [es]
        refine iteT ⟨_, rfl, le16 (by show 0 ≤ 100000; decide), fun q hq => ⟨le16 (by show 2 ≤ 100000; decide), fun q2 hq2 => ?_⟩⟩
        have e7 : Ex H2 (upd (upd H2 q (.tup [])) q2 (.tup [.int (i : Nat), .ref q])) := (Ex.new hq).trans (Ex.new hq2)
        have dq : Dt (upd (upd H2 q (.tup [])) q2 (.tup [.int (i : Nat), .ref q])) (.ref q2) (dWay (i, [])) :=
          .tup upd_same (.cons (.int _) (.cons (.tup (Ex.new hq2 _ _ upd_same) .nil) .nil))
        generalize upd (upd H2 q (.tup [])) q2 (.tup [.int (i : Nat), .ref q]) = H3 at e7 dq
        have hd3 := e7 _ _ hd2
        have hb3 := e7 _ _ hb
        have hk3 := hk2.go e7.tx
        refine ⟨_, rfl, _, rfl, c, _, 1, _, rfl, rfl, SqT.of (e7 _ _ hc), rfl, d, _, rfl, dput_of hd3 hb3 _ (by omega), ?_⟩
        have t4 : TX H3 (upd H3 d (.dT (putK kvs (nkey n) (.ref q2)))) := TX.updD hd3
        exact ⟨_, _, _, rfl, (e3.trans e7).mut hd, upd_same, (hk3.put n dq).go t4⟩
    · rintro σ H3 ⟨v2, v3, kvs, rfl, e4, hd3, hk3⟩
      exact ⟨_, rfl, k d H3 kvs hd e4 hd3 hk3⟩
/-! ### next_ways -/
def spNext : Sp := fun vs H Q _ => ∃ d wv mt F W wkvs mkvs met, vs = [.ref d, .ref wv, .ref mt] ∧ FdD H d F ∧ GrB F ∧ H wv = some (.dT wkvs) ∧ KVs H dWay wkvs W ∧ (keys W).Nodup ∧ (∀ n ∈ keys W, n ∈ keys F) ∧ (∀ p ∈ W, p.2.2.length ≤ 1000) ∧ d ≠ wv ∧ mt ≠ wv ∧ Rd H mt (.dT mkvs) ∧ KNs mkvs met ∧
  ∀ q H' kvs, H q = none → Ex H H' → H' q = some (.dT kvs) → KVs H' dWay kvs (nextWays F W met) → Q (.ref q) H'
structure CNext (P : Program) (w : World) (K : PySem.W.Frag) (mg : Str → Option Value) (base : Heap) : Prop where
  better : Cal P w K mg base "better" ["one", "other"] 1 spBetter
theorem sc_s_next_ways : FnScope ["fields", "ways", "met", "found", "name", "number", "steps", "field", "other", "way"] ["fields", "ways", "met"] (defScope s_next_ways) := ⟨rfl, rfl, rfl, by decide +kernel, rfl, by decide +kernel, by decide +kernel⟩
theorem ok_next_ways (F : FnP K "next_ways" "next_ways" s_next_ways f fd) (B : Bl mg) (C : CNext P w K mg base) : FnOk P w K mg base CX0 2 f fd ["fields", "ways", "met"] spNext := by
  refine F.ok sc_s_next_ways (fun vs H Q E h => ?_) (fun cdv A outer s H vs Q E hr h => ?_)
  · obtain ⟨d, wv, mt, F, W, wkvs, mkvs, met, rfl, _⟩ := h
    rfl
  · obtain ⟨d, wv, mt, F, W, wkvs, mkvs, met, rfl, hd, g, hw, hkw, ndw, hwF, hwl, ndv, nmv, hm, hkm, k⟩ := h
    have hu := hu_of hr
    refine ⟨_, PSs.nox (pss_cons (ps_set (i := 3) sc_s_next_ways.nd rfl (Or.inl rfl) pe_dnewT)
          (pss_cons (ps_lock (ps_for PassesOwn.never rfl (pi_keys (pv 1)) (pg_name (i := 4) sc_s_next_ways.nd rfl (Or.inl rfl))
          (pss_cons (ps_asg (pe_dget hu (pv 1) (pv 4) (fun _ _ => rfl)) (pg_tup rfl (pgs_cons (pg_name (i := 5) sc_s_next_ways.nd rfl (Or.inl rfl)) (pgs_cons (pg_name (i := 6) sc_s_next_ways.nd rfl (Or.inl rfl)) pgs_nil))))
          (pss_one (ps_for PassesOwn.never rfl (pi_enT (by rfl) B.enumerate (pa_cons (pe_dget hu (pv 0) (pv 4) (fun _ _ => rfl)) pa_nil)) (pg_tup rfl (pgs_cons (pg_name (i := 7) sc_s_next_ways.nd rfl (Or.inl rfl)) (pgs_cons (pg_name (i := 8) sc_s_next_ways.nd rfl (Or.inl rfl)) pgs_nil)))
          (pss_one (ps_if (PW.pt (pw_and (pt_cmpR op_notN (pv 8) pe_non (nomark _)) (pw_and1 (pt_cmp (pc_dnotin hu (pv 8) (pv 2))))))
          (pss_cons (ps_set (i := 9) sc_s_next_ways.nd rfl (Or.inl rfl) (pe_tup (pa_cons (pv 5) (pa_cons (pe_op op_catU (pv 6) (pe_tup (pa_cons (pe_tup (pa_cons (pv 4) (pa_cons (pv 7) pa_nil))) pa_nil))) pa_nil))))
          (pss_one (ps_if (pt_val (pe_cal C.better (hr.mono (by decide)) pass0 (pa_cons (pv 9) (pa_cons (pe_dget1 hu (pv 3) (pv 8) ⟨by rfl, by rfl, by rfl, by rfl⟩) pa_nil))))
          (pss_one (ps_dput hu (pv 3) (pv 8) (pv 9) rfl))
          pss_nil)))
          pss_nil)))))))
          (pss_one (ps_ret (pv 3))))), ?_⟩
    intro q hq
    have e1 : Ex H (upd H q (.dT [])) := Ex.new hq
    have nqw : q ≠ wv := fun z => by rw [z, hw] at hq; cases hq
    have hw1 := e1 _ _ hw
    have hq1 : (upd H q (.dT [])) q = some (.dT []) := upd_same
    generalize hH1 : upd H q (.dT []) = H1 at e1 hw1 hq1
    refine ⟨wv, .dT wkvs, hw1, trivial, fun od => ?_⟩
    have hw2 : (upd H1 wv (.frz od (.dT wkvs))) wv = some (.frz od (.dT wkvs)) := upd_same
    have c2 : Ch wv H1 (upd H1 wv (.frz od (.dT wkvs))) := Ch.up
    have hq2 := c2 q _ nqw hq1
    have t2 : TX H1 (upd H1 wv (.frz od (.dT wkvs))) := TX.updD hw1
    generalize upd H1 wv (.frz od (.dT wkvs)) = H2 at hw2 c2 hq2 t2
    have t02 : TX H H2 := e1.tx.trans t2
    have hkw2 := hkw.go t02
    have rd2 : ∀ x u, x ≠ wv → Rd H x u → Rd H2 x u := fun x u n h => by
      rcases exRd e1 h with h | ⟨o, h⟩
      · exact .inl (c2 _ _ n h)
      · exact .inr ⟨o, c2 _ _ n h⟩
    have hd2 : FdD H2 d F := by
      obtain ⟨kvs, h1, h2⟩ := hd.ex
      exact ⟨kvs, rd2 _ _ ndv h1, h2.go t02⟩
    have hm2 : Rd H2 mt (.dT mkvs) := rd2 _ _ nmv hm
    have hq0 : ∀ x u, H x = some u → x ≠ q := fun x u h z => by rw [z, hq] at h; cases h
    have rdq : ∀ x u, Rd H x u → x ≠ q := fun x u h => by
      rcases h with h | ⟨o, h⟩
      · exact hq0 _ _ h
      · exact hq0 _ _ h
    have ndq : d ≠ q := by
      obtain ⟨kvs, h1, h2⟩ := hd.ex
      exact rdq _ _ h1
    have nmq : mt ≠ q := rdq _ _ hm
    have keep : ∀ H', Ch q H2 H' → FdD H' d F ∧ Rd H' mt (.dT mkvs) ∧ H' wv = some (.frz od (.dT wkvs)) ∧ TX H2 H' := fun H' c => by
      have t : TX H2 H' := c.tx fun xs z => by rw [hq2] at z; cases z
      have rd : ∀ x u, x ≠ q → Rd H2 x u → Rd H' x u := fun x u n h => by
        rcases h with h | ⟨o, h⟩
        · exact .inl (c _ _ n h)
        · exact .inr ⟨o, c _ _ n h⟩
      obtain ⟨kvs, h1, h2⟩ := hd2.ex
      exact ⟨⟨kvs, rd _ _ ndq h1, h2.go t⟩, rd _ _ nmq hm2, c _ _ nqw.symm hw2, t⟩
    have lw : wkvs.length = W.length := hkw.len
    refine ⟨_, rfl, wv, od, rfl, .inr ⟨wkvs, hw2, ?_⟩⟩
    refine for_fold (as := W) (lw ▸ walk_keysT (d := wv) (o := od) (kvs := wkvs)) (nextOf F met) [] (fun acc σ H' => ∃ v4 v5 v6 v7 v8 v9 kvs, σ = [some (.ref d), some (.ref wv), some (.ref mt), some (.ref q), v4, v5, v6, v7, v8, v9] ∧ Ch q H2 H' ∧ H' q = some (.dT kvs) ∧ KVs H' dWay kvs acc)
      ⟨none, none, none, none, none, none, [], rfl, Ch.refl, hq2, .nil⟩ (fun _ σ H' ⟨_, _, _, _, _, _, _, _, c, _⟩ => (keep H' c).2.2.1) ?_ ?_
    · rintro i ⟨n, a⟩ x acc σ _ H3 hi hacc ⟨v4, v5, v6, v7, v8, v9, kvs, rfl, c3, hq3, hk3⟩ ⟨rfl, kk, wvv, nb, hkv, rfl, hnb⟩
      obtain ⟨hd3, hm3, hw3, t3⟩ := keep H3 c3
      have hks := hkw2.ks
      have hkk : (wkvs.map (·.1))[i]? = some kk := by rw [List.getElem?_map, hkv]; rfl
      rw [show wkvs.map (·.1) = (keys W).map nkey from hks, List.getElem?_map, List.getElem?_map, hi] at hkk
      cases hkk
      have hmem : (n, a) ∈ W := List.mem_of_getElem? hi
      obtain ⟨wv2, hwv2, dwv2⟩ := (hkw2.go t3).getS (aget_of_mem ndw hmem)
      have hg3 := dget_of (.inr ⟨od, hw3⟩) hnb
      rw [hwv2] at hg3
      refine ⟨_, rfl, _, rfl, wv, wv2, rfl, hg3, ?_⟩
      obtain ⟨num, steps⟩ := a
      obtain ⟨c, u1, u2, rfl, hc, g1, g2⟩ := Dt.t2 dwv2
      cases g1.intE
      refine ⟨c, _, rfl, SqT.of hc, rfl, _, _, rfl, _, _, rfl, rfl, ?_⟩
      have hn : n ∈ keys F := hwF n (List.mem_map.mpr ⟨_, hmem, rfl⟩)
      obtain ⟨fs, hfs⟩ := aget_some hn
      obtain ⟨fv, hfv, dfv⟩ := hd3.get hnb hfs
      obtain ⟨fa, zs, rfl, hfa, hzs⟩ := Dt.tupE dfv
      have lz : zs.length = fs.length := by rw [hzs.len, List.length_map]
      refine ⟨_, rfl, _, rfl, d, .ref fa, rfl, hfv, fa, zs, rfl, hfa, ?_⟩
      have lf := g.fls n fs hfs
      have ls : steps.length ≤ 1000 := hwl _ hmem
      have es : nextOf F met acc (n, (num, steps)) = fs.zipIdx.foldl (nextStep met n (num, steps)) acc := by
        show ((aget F n).getD []).zipIdx.foldl _ _ = _
        rw [hfs]
        rfl
      rw [es]
      have la : acc.length ≤ 4 * W.length := by
        rw [hacc]
        have h1 := fold_len (nextOf F met) 4 (W.take i) [] fun a _ acc => nextOf_len g met acc a
        rw [List.length_take, List.length_nil] at h1
        omega
      have lW : W.length ≤ 40 := by
        have := g.sub40 ndw hwF
        rw [List.length_map] at this
        exact this
      refine for_en (as := fs) (walk_enT (a := fa) (xs := zs)) lz (nextStep met n (num, steps)) acc (fun acc σ H' => ∃ v7 v8 v9 kvs, σ = [some (.ref d), some (.ref wv), some (.ref mt), some (.ref q), some (.ref nb), some (.int (num : Nat)), some u2, v7, v8, v9] ∧ Ch q H2 H' ∧ TX H3 H' ∧ H' q = some (.dT kvs) ∧ KVs H' dWay kvs acc)
        ⟨_, _, _, kvs, rfl, c3, TX.refl _, hq3, hk3⟩ (fun _ σ H' ⟨_, _, _, _, _, _, t, _⟩ => t _ _ hfa) ?_ ?_
      · rintro j o x T acc2 σ H4 hj hxj hacc2 ⟨v7, v8, v9, kvs, rfl, c4, t4, hq4, hk4⟩ hT
        obtain ⟨y, hy, dy⟩ := hzs.get (i := j) (d := dO o) (by rw [List.getElem?_map, hj]; rfl)
        rw [hxj] at hy
        cases hy
        refine ⟨T, _, rfl, SqT.of upd_same, rfl, _, _, rfl, _, _, rfl, rfl, ?_⟩
        have e5 : Ex H4 (upd H4 T (.tup [.int (j : Nat), x])) := Ex.new hT
        have c5 : Ch q H2 (upd H4 T (.tup [.int (j : Nat), x])) := c4.trans e5.toCh
        have t5 := t4.trans e5.tx
        have hq5 := e5 _ _ hq4
        have hk5 := hk4.go e5.tx
        have dy5 := dy.go t5
        generalize upd H4 T (.tup [.int (j : Nat), x]) = H5 at e5 c5 t5 hq5 hk5 dy5
        obtain ⟨hd5, hm5, hw5, t25⟩ := keep H5 c5
        refine ⟨_, rfl, rfl, _, rfl, ?_⟩
        rw [isnt_none dy5]
        cases o with
        | none => exact iteF ⟨_, _, _, kvs, rfl, c5, t5, hq5, hk5⟩
        | some m =>
          obtain ⟨b, rfl, hb⟩ := Dt.nm dy5
          refine iteT ⟨_, rfl, _, rfl, mt, _, rfl, dget_of hm5 hb, _, rfl, ?_⟩
          rw [hkm.isS m]
          by_cases hmm : m ∈ met
          · rw [decide_eq_true hmm]
            have es : nextStep met n (num, steps) acc2 (some m, j) = acc2 := by unfold nextStep; simp [hmm]
            rw [es]
            exact iteF ⟨_, _, _, kvs, rfl, c5, t5, hq5, hk5⟩
          rw [decide_eq_false hmm]
          have es : nextStep met n (num, steps) acc2 (some m, j) = if bettr (num, steps ++ [(n, j)]) (aget acc2 m) = true then aput acc2 m (num, steps ++ [(n, j)]) else acc2 := by unfold nextStep; simp [hmm]
          rw [es]
          have la2 : acc2.length ≤ 200 := by
            rw [hacc2]
            have h1 := fold_len (nextStep met n (num, steps)) 1 (fs.zipIdx.take j) acc fun a _ acc => nextStep_len met n (num, steps) acc a
            rw [List.length_take, List.length_zipIdx] at h1
            omega
          refine iteT ⟨_, rfl, _, rfl, _, rfl, _, rfl, le16 (by show 2 ≤ 100000; decide), fun p hp => ⟨le16 (by show 1 ≤ 100000; decide), fun p2 hp2 => ?_⟩⟩
          have e6 : Ex H5 (upd (upd H5 p (.tup [.ref nb, .int (j : Nat)])) p2 (.tup [.ref p])) := (Ex.new hp).trans (Ex.new hp2)
          have d6 : Dt (upd (upd H5 p (.tup [.ref nb, .int (j : Nat)])) p2 (.tup [.ref p])) (.ref p2) (.tuple ([(n, j)].map dStep)) :=
            .tup upd_same (.cons (.tup (Ex.new hp2 _ _ upd_same) (.cons ((Dt.of_key n nb hnb).go (t5.trans e6.tx)) (.cons (.int _) .nil))) .nil)
          generalize upd (upd H5 p (.tup [.ref nb, .int (j : Nat)])) p2 (.tup [.ref p]) = H6 at e6 d6
          refine rCatU.mk (g2.go (t5.trans e6.tx)) d6 (by rw [List.length_map, List.length_map]; show steps.length + 1 ≤ 100000; omega) fun z H7 e7 dz => ?_
          rw [← List.map_append] at dz
          refine ⟨le16 (by show 2 ≤ 100000; decide), fun p3 hp3 => ?_⟩
          have e8 : Ex H5 (upd H7 p3 (.tup [.int (num : Nat), z])) := (e6.trans e7).trans (Ex.new hp3)
          have d8 : Dt (upd H7 p3 (.tup [.int (num : Nat), z])) (.ref p3) (dWay (num, steps ++ [(n, j)])) := .tup upd_same (.cons (.int _) (.cons (dz.go (TX.updN hp3)) .nil))
          generalize upd H7 p3 (.tup [.int (num : Nat), z]) = H8 at e8 d8
          have hk8 := hk5.go e8.tx
          have hq8 := e8 _ _ hq5
          have hb8 := e8 _ _ hb
          refine ⟨_, rfl, _, rfl, q, rfl, .inr ⟨kvs, .inl hq8⟩, _, rfl, _, dget_of (.inl hq8) hb8, _, _, (num, steps ++ [(n, j)]), aget acc2 m, rfl, d8, ?_, ?_⟩
          · rcases hk8.get m with ⟨v, bw, h1, h2, h3⟩ | ⟨h1, h2⟩
            · rw [h1, h2]
              exact h3
            · rw [h1, h2]
              exact .non
          refine ⟨_, rfl, ?_⟩
          cases hbt : bettr (num, steps ++ [(n, j)]) (aget acc2 m) with
          | false => exact iteF ⟨_, _, _, kvs, rfl, c5.trans e8.toCh, t5.trans e8.tx, hq8, hk8⟩
          | true =>
            have lk := hk8.len
            refine iteT ⟨_, rfl, _, rfl, _, rfl, q, _, rfl, dput_of hq8 hb8 _ (by omega), ?_⟩
            have t9 : TX H8 (upd H8 q (.dT (putK kvs (nkey m) (.ref p3)))) := TX.updD hq8
            exact ⟨_, _, _, _, rfl, (c5.trans e8.toCh).trans Ch.up, (t5.trans e8.tx).trans t9, upd_same, (hk8.put m d8).go t9⟩
      · rintro σ H4 ⟨v7, v8, v9, kvs, rfl, c4, t4, hq4, hk4⟩
        exact ⟨_, _, _, _, _, _, kvs, rfl, c4, hq4, hk4⟩
    · rintro σ H3 ⟨v4, v5, v6, v7, v8, v9, kvs, rfl, c3, hq3, hk3⟩
      obtain ⟨hd3, hm3, hw3, t3⟩ := keep H3 c3
      refine ⟨hw3, _, rfl, k q _ kvs hq (fun x u hx => ?_) (by rw [upd_ne nqw]; exact hq3) (hk3.go ?_)⟩
      · by_cases z : x = wv
        · subst z
          rw [hw] at hx
          cases hx
          exact upd_same
        · rw [upd_ne z]
          exact c3 _ _ (hq0 _ _ hx) (c2 _ _ z (e1 _ _ hx))
      · exact TX.up fun xs z => by rw [hw3] at z; cases z
end
end HF
set_option Elab.async false
set_option linter.all false
set_option maxRecDepth 100000
set_option maxHeartbeats 4000000
namespace HF
open PySem PySem.Spec PyProof.Rows L2
/-! ### folds -/
theorem fold_hit {α β : Type} {P : β → Prop} {st : β → α → β} {x : α} : ∀ {l : List α} {b : β}, x ∈ l → (∀ b, P (st b x)) → (∀ b y, P b → P (st b y)) → P (l.foldl st b)
  | [], _, h, _, _ => nomatch h
  | y :: r, b, h, h1, h2 => by
    have keep : ∀ (l : List α) (b : β), P b → P (l.foldl st b) := fun l => by
      induction l with
      | nil => exact fun _ h => h
      | cons z r ih => exact fun b h => ih _ (h2 b z h)
    rcases List.mem_cons.mp h with rfl | h
    · exact keep r _ (h1 b)
    · exact fold_hit (l := r) h h1 h2
theorem fold_keep {α β : Type} {P : β → Prop} {st : β → α → β} : ∀ {l : List α} {b : β}, P b → (∀ b y, y ∈ l → P b → P (st b y)) → P (l.foldl st b)
  | [], _, h, _ => h
  | y :: r, b, h, h2 => fold_keep (l := r) (h2 b y List.mem_cons_self h) fun b z hz => h2 b z (List.mem_cons_of_mem _ hz)
theorem zip_of {α : Type} {l : List α} {i : Nat} {x : α} (h : l[i]? = some x) : (x, i) ∈ l.zipIdx := by
  have : l.zipIdx[i]? = some (x, i) := by rw [List.getElem?_zipIdx, h]; simp
  exact List.mem_of_getElem? this
/-! ### unmet -/
theorem unmet_anti {S m m' : List Nm} (h : ∀ n ∈ m, n ∈ m') : unmet S m' ≤ unmet S m := by
  unfold unmet
  induction S with
  | nil => exact Nat.le_refl _
  | cons y s ih =>
    rw [List.filter_cons, List.filter_cons]
    by_cases h1 : y ∈ m
    · rw [if_neg (by simp [h y h1]), if_neg (by simp [h1])]
      exact ih
    · rw [if_pos (by simp [h1]) (c := decide (y ∉ m) = true)]
      split
      · simp only [List.length_cons]; omega
      · simp only [List.length_cons]; omega
theorem unmet_lt {S m m' : List Nm} (h : ∀ n ∈ m, n ∈ m') {n : Nm} (hn : n ∈ S) (h1 : n ∉ m) (h2 : n ∈ m') : unmet S m' < unmet S m := by
  have q := unmet_less hn h1
  have r : unmet S m' ≤ unmet S (m ++ [n]) := unmet_anti fun x hx => by
    rcases List.mem_append.mp hx with hx | hx
    · exact h x hx
    · rw [List.mem_singleton.mp hx]; exact h2
  omega
/-! ### paths -/
theorem PathF.snoc {F : List (Nm × Flds)} {n b : Nm} {fs : Flds} {f : Nat} (h1 : aget F n = some fs) (h2 : fs[f]? = some (some b)) : ∀ {ss : Steps} {m : Nm}, PathF F m ss n → PathF F m (ss ++ [(n, f)]) b
  | [], m, h => by
    have e : m = n := h
    subst e
    exact ⟨rfl, fs, b, h1, h2, rfl⟩
  | (a, g) :: r, m, h => by
    obtain ⟨e, fs', b', h3, h4, h5⟩ := h
    exact ⟨e, fs', b', h3, h4, PathF.snoc h1 h2 h5⟩
theorem chl_of {F : List (Nm × Flds)} {n b : Nm} {fs : Flds} {f : Nat} (h1 : aget F n = some fs) (h2 : fs[f]? = some (some b)) : b ∈ chl F n := mem_chl.mpr ⟨fs, h1, List.mem_of_getElem? h2⟩
/-! ### first ways -/
section
variable {S : List (Start × Nm)}
theorem firstStep_key {acc : List (Nm × Way)} {x : (Start × Nm) × Nat} {n : Nm} : n ∈ keys (firstStep acc x) ↔ n ∈ keys acc ∨ n = x.1.2 := by
  unfold firstStep
  split
  · rename_i h
    exact ⟨.inl, fun q => q.elim id fun e => e ▸ h⟩
  · rw [mem_keys_put]
    exact ⟨fun q => q.elim .inr .inl, fun q => q.elim .inr .inl⟩
theorem first_nodup : (keys (firstWays S)).Nodup := fold_keep (P := fun acc => (keys acc).Nodup) List.nodup_nil fun b y _ h => by
  unfold firstStep
  split
  · exact h
  · exact nodup_put h
theorem first_sub {n : Nm} (h : n ∈ keys (firstWays S)) : ∃ st, (st, n) ∈ S := by
  revert h
  refine fold_keep (P := fun acc => n ∈ keys acc → ∃ st, (st, n) ∈ S) (fun h => nomatch h) fun b y hy h q => ?_
  rcases firstStep_key.mp q with q | q
  · exact h q
  · have := List.mem_of_getElem? (zip_mem hy)
    exact ⟨y.1.1, by rw [q]; exact this⟩
theorem first_all {st : Start} {n : Nm} (h : (st, n) ∈ S) : n ∈ keys (firstWays S) := by
  obtain ⟨i, hi⟩ := List.getElem?_of_mem h
  exact fold_hit (P := fun acc => n ∈ keys acc) (zip_of hi) (fun b => firstStep_key.mpr (.inr rfl)) fun b y q => firstStep_key.mpr (.inl q)
theorem first_get {n : Nm} {a : Way} (h : aget (firstWays S) n = some a) : (∃ st, S[a.1]? = some (st, n)) ∧ a.2 = [] := by
  revert h
  refine fold_keep (P := fun acc => aget acc n = some a → (∃ st, S[a.1]? = some (st, n)) ∧ a.2 = []) (fun h => nomatch h) fun b y hy h q => ?_
  unfold firstStep at q
  split at q
  · exact h q
  · rw [aget_put] at q
    split at q
    · rename_i e
      cases q
      refine ⟨⟨y.1.1, ?_⟩, rfl⟩
      have := zip_mem hy
      rw [e]
      exact this
    · exact h q
end
/-! ### next ways -/
section
variable {F : List (Nm × Flds)} {W : List (Nm × Way)} {met : List Nm}
theorem nextStep_nodup {name : Nm} {a : Way} {acc : List (Nm × Way)} {x : Option Nm × Nat} (h : (keys acc).Nodup) : (keys (nextStep met name a acc x)).Nodup := by
  unfold nextStep
  split
  · exact h
  · split
    · exact h
    · split
      · exact nodup_put h
      · exact h
theorem nextStep_mono {name : Nm} {a : Way} {acc : List (Nm × Way)} {x : Option Nm × Nat} {n : Nm} (h : n ∈ keys acc) : n ∈ keys (nextStep met name a acc x) := by
  unfold nextStep
  split
  · exact h
  · split
    · exact h
    · split
      · exact mem_keys_put.mpr (.inr h)
      · exact h
theorem next_nodup : (keys (nextWays F W met)).Nodup := fold_keep (P := fun acc => (keys acc).Nodup) List.nodup_nil fun b y _ h => fold_keep (P := fun acc => (keys acc).Nodup) h fun b y _ h => nextStep_nodup h
/-- how each way came -/
theorem next_get {m : Nm} {b : Way} (h : aget (nextWays F W met) m = some b) : m ∉ met ∧ ∃ p ∈ W, ∃ fs f, aget F p.1 = some fs ∧ fs[f]? = some (some m) ∧ b = (p.2.1, p.2.2 ++ [(p.1, f)]) := by
  revert h
  refine fold_keep (P := fun acc => aget acc m = some b → m ∉ met ∧ ∃ p ∈ W, ∃ fs f, aget F p.1 = some fs ∧ fs[f]? = some (some m) ∧ b = (p.2.1, p.2.2 ++ [(p.1, f)])) (fun h => nomatch h) fun acc p hp h => ?_
  unfold nextOf
  cases hf : aget F p.1 with
  | none => exact h
  | some fs =>
    refine fold_keep (P := fun acc => aget acc m = some b → m ∉ met ∧ ∃ p ∈ W, ∃ fs f, aget F p.1 = some fs ∧ fs[f]? = some (some m) ∧ b = (p.2.1, p.2.2 ++ [(p.1, f)])) h fun acc x hx h q => ?_
    obtain ⟨o, f⟩ := x
    unfold nextStep at q
    cases o with
    | none => exact h q
    | some n =>
      simp only at q
      split at q
      · exact h q
      · split at q
        · rw [aget_put] at q
          split at q
          · rename_i h1 _ e
            cases q
            refine ⟨e ▸ h1, p, hp, fs, f, hf, ?_, rfl⟩
            rw [e]
            exact zip_mem hx
          · exact h q
        · exact h q
theorem next_all {p : Nm × Way} (hp : p ∈ W) {m : Nm} (hm : m ∈ chl F p.1) (hn : m ∉ met) : m ∈ keys (nextWays F W met) := by
  obtain ⟨fs, hfs, hfm⟩ := mem_chl.mp hm
  obtain ⟨f, hf⟩ := List.getElem?_of_mem hfm
  refine fold_hit (P := fun acc => m ∈ keys acc) hp (fun acc => ?_) fun acc y h => fold_keep (P := fun acc => m ∈ keys acc) h fun b y _ h => nextStep_mono h
  unfold nextOf
  rw [hfs]
  refine fold_hit (P := fun acc => m ∈ keys acc) (zip_of hf) (fun acc => ?_) fun acc y h => nextStep_mono h
  unfold nextStep
  simp only
  rw [if_neg hn]
  split
  · exact mem_keys_put.mpr (.inl rfl)
  · rename_i q
    cases e : aget acc m with
    | none => rw [e] at q; exact absurd rfl q
    | some v => exact aget_key e
end
/-! ### put together -/
def mergeA {β : Type} (al bl : List (Nm × β)) : List (Nm × β) := bl.foldl (fun a p => aput a p.1 p.2) al
section
variable {β : Type} {al bl : List (Nm × β)}
theorem merge_key {n : Nm} : n ∈ keys (mergeA al bl) ↔ n ∈ keys al ∨ n ∈ keys bl := by
  unfold mergeA
  induction bl generalizing al with
  | nil => simp
  | cons p r ih =>
    rw [List.foldl_cons, ih, mem_keys_put]
    simp only [List.map_cons, List.mem_cons]
    constructor
    · rintro ((h | h) | h)
      · exact .inr (.inl h)
      · exact .inl h
      · exact .inr (.inr h)
    · rintro (h | h | h)
      · exact .inl (.inr h)
      · exact .inl (.inl h)
      · exact .inr h
theorem merge_nodup (h : (keys al).Nodup) : (keys (mergeA al bl)).Nodup := fold_keep (P := fun acc => (keys acc).Nodup) h fun _ _ _ h => nodup_put h
theorem merge_get {n : Nm} {b : β} (nd : (keys bl).Nodup) (h : aget (mergeA al bl) n = some b) : aget al n = some b ∨ aget bl n = some b := by
  unfold mergeA at h
  induction bl generalizing al with
  | nil => exact .inl h
  | cons p r ih =>
    rw [List.foldl_cons] at h
    simp only [List.map_cons, List.nodup_cons] at nd
    rw [aget_cons]
    rcases ih nd.2 h with q | q
    · rw [aget_put] at q
      split at q
      · rename_i e
        rw [if_pos e.symm]
        exact .inr q
      · exact .inl q
    · have : ¬ p.1 = n := fun z => nd.1 (z ▸ aget_key q)
      rw [if_neg this]
      exact .inr q
theorem KVs.merge {H : Hp} {enc : β → PyData} {kvs more : List (List Key × V)} (h : KVs H enc kvs al) (g : KVs H enc more bl) : KVs H enc (mergeT kvs more) (mergeA al bl) := by
  unfold mergeT mergeA
  unfold KVs at g
  induction g generalizing kvs al with
  | nil => exact h
  | @cons p q ps qs h1 t ih =>
    rw [List.foldl_cons, List.foldl_cons]
    refine ih ?_
    rw [h1.1]
    exact h.put q.1 h1.2
end
/-! ### layer by layer -/
def layers (F : List (Nm × Flds)) : Nat → List (Nm × Way) → List (Nm × Way) → List (Nm × Way)
  | 0, _, M => M
  | j + 1, W, M => if W.isEmpty = true then M else layers F j (nextWays F W (keys M)) (mergeA M (nextWays F W (keys M)))
/-- what holds ahead of each layer, at most j of them left -/
structure Lay (F : List (Nm × Flds)) (S : List (Start × Nm)) (j : Nat) (W M : List (Nm × Way)) : Prop where
  nw : (keys W).Nodup
  nm : (keys M).Nodup
  sm : ∀ n ∈ keys M, n ∈ keys F
  wm : ∀ n ∈ keys W, n ∈ keys M
  len : ∀ p ∈ W, p.2.2.length + j ≤ 300
  few : 2 * unmet (keys F) (keys M) + (if W.isEmpty = true then 0 else 1) ≤ j
  ok : ∀ n a, aget M n = some a → ∃ st m, S[a.1]? = some (st, m) ∧ PathF F m a.2 n
  okw : ∀ n a, aget W n = some a → ∃ st m, S[a.1]? = some (st, m) ∧ PathF F m a.2 n
  cl : ∀ a ∈ keys M, a ∉ keys W → ∀ b ∈ chl F a, b ∈ keys M
  all : ∀ x ∈ S, x.2 ∈ keys M
theorem Lay.next {F : List (Nm × Flds)} {S : List (Start × Nm)} {j : Nat} {W M : List (Nm × Way)} (g : GrB F) (h : Lay F S (j + 1) W M) (ne : W ≠ []) : Lay F S j (nextWays F W (keys M)) (mergeA M (nextWays F W (keys M))) := by
  have gets : ∀ n ∈ keys (nextWays F W (keys M)), n ∉ keys M ∧ n ∈ keys F := fun n hn => by
    obtain ⟨a, ha⟩ := aget_some hn
    obtain ⟨h1, p, hp, fs, f, h2, h3, h4⟩ := next_get ha
    exact ⟨h1, g.cl _ fs h2 n (List.mem_of_getElem? h3)⟩
  have okn : ∀ n a, aget (nextWays F W (keys M)) n = some a → ∃ st m, S[a.1]? = some (st, m) ∧ PathF F m a.2 n := fun n a ha => by
    obtain ⟨h1, p, hp, fs, f, h2, h3, rfl⟩ := next_get ha
    obtain ⟨st, m, h5, h6⟩ := h.okw p.1 p.2 (aget_of_mem h.nw hp)
    exact ⟨st, m, h5, PathF.snoc h2 h3 h6⟩
  have me : (if W.isEmpty = true then 0 else 1) = 1 := by
    cases W with
    | nil => exact absurd rfl ne
    | cons a r => rfl
  have few := h.few
  rw [me] at few
  refine ⟨next_nodup, merge_nodup h.nm, fun n hn => ?_, fun n hn => merge_key.mpr (.inr hn), fun p hp => ?_, ?_, fun n a ha => ?_, okn, fun a ha hna b hb => ?_, fun x hx => merge_key.mpr (.inl (h.all x hx))⟩
  · rcases merge_key.mp hn with q | q
    · exact h.sm n q
    · exact (gets n q).2
  · obtain ⟨h1, q, hq, fs, f, h2, h3, h4⟩ := next_get (aget_of_mem next_nodup hp)
    have := h.len q hq
    rw [h4]
    simp only [List.length_append, List.length_singleton]
    omega
  · cases e : nextWays F W (keys M) with
    | nil =>
      show 2 * unmet (keys F) (keys M) + 0 ≤ j
      omega
    | cons p r =>
      have hp : p.1 ∈ keys (nextWays F W (keys M)) := by rw [e]; exact List.mem_map.mpr ⟨p, List.mem_cons_self, rfl⟩
      rw [← e]
      have lt : unmet (keys F) (keys (mergeA M (nextWays F W (keys M)))) < unmet (keys F) (keys M) := unmet_lt (fun n hn => merge_key.mpr (.inl hn)) (gets _ hp).2 (gets _ hp).1 (merge_key.mpr (.inr hp))
      split <;> omega
  · rcases merge_get next_nodup ha with q | q
    · exact h.ok n a q
    · exact okn n a q
  · rcases merge_key.mp ha with q | q
    · by_cases z : a ∈ keys W
      · obtain ⟨p, hp, rfl⟩ := List.mem_map.mp z
        by_cases y : b ∈ keys M
        · exact merge_key.mpr (.inl y)
        · exact merge_key.mpr (.inr (next_all hp hb y))
      · exact merge_key.mpr (.inl (h.cl a q z b hb))
    · exact absurd q hna
theorem Lay.init {F : List (Nm × Flds)} {S : List (Start × Nm)} (g : GrB F) (hS : ∀ x ∈ S, x.2 ∈ keys F) : Lay F S 200 (firstWays S) (firstWays S) := by
  have okf : ∀ n a, aget (firstWays S) n = some a → ∃ st m, S[a.1]? = some (st, m) ∧ PathF F m a.2 n := fun n a h => by
    obtain ⟨⟨st, h1⟩, h2⟩ := first_get h
    exact ⟨st, n, h1, by rw [h2]; exact rfl⟩
  refine ⟨first_nodup, first_nodup, fun n hn => ?_, fun _ h => h, fun p hp => ?_, ?_, okf, okf, fun a h1 h2 => absurd h1 h2, fun x hx => first_all (st := x.1) hx⟩
  · obtain ⟨st, h⟩ := first_sub hn
    exact hS _ h
  · obtain ⟨_, h⟩ := first_get (aget_of_mem first_nodup hp)
    rw [h]
    decide
  · have h1 := unmet_le (keys F) (keys (firstWays S))
    have h2 := g.k40
    split <;> omega
/-- what the layers give in the end -/
structure LayO (F : List (Nm × Flds)) (S : List (Start × Nm)) (M : List (Nm × Way)) : Prop where
  nm : (keys M).Nodup
  sm : ∀ n ∈ keys M, n ∈ keys F
  ok : ∀ n a, aget M n = some a → ∃ st m, S[a.1]? = some (st, m) ∧ PathF F m a.2 n
  cl : ∀ a ∈ keys M, ∀ b ∈ chl F a, b ∈ keys M
  all : ∀ x ∈ S, x.2 ∈ keys M
theorem Lay.fin {F : List (Nm × Flds)} {S : List (Start × Nm)} {j : Nat} {M : List (Nm × Way)} (h : Lay F S j [] M) : LayO F S M :=
  ⟨h.nm, h.sm, h.ok, fun a ha => h.cl a ha (fun z => nomatch z), h.all⟩
theorem Lay.out {F : List (Nm × Flds)} {S : List (Start × Nm)} (g : GrB F) : ∀ (j : Nat) {W M : List (Nm × Way)}, Lay F S j W M → LayO F S (layers F j W M)
  | 0, W, M, h => by
    have e : W = [] := by
      cases W with
      | nil => rfl
      | cons a r =>
        have := h.few
        simp at this
    subst e
    exact h.fin
  | j + 1, W, M, h => by
    unfold layers
    split
    · rename_i e
      have e : W = [] := by simpa using e
      subst e
      exact h.fin
    · rename_i e
      exact Lay.out g j (h.next g fun z => by rw [z] at e; exact e rfl)
/-- all ways: to each name that can be come to one -/
def allWays (p : Pic) : List (Nm × Way) := layers (fieldsF p) 200 (firstWays (startsF p)) (firstWays (startsF p))
theorem LayO.rch {F : List (Nm × Flds)} {S : List (Start × Nm)} {M : List (Nm × Way)} (h : LayO F S M) {n : Nm} (r : Rch (chl F) (S.map (·.2)) n) : n ∈ keys M := by
  induction r with
  | base hb =>
    obtain ⟨x, hx, rfl⟩ := List.mem_map.mp hb
    exact h.all x hx
  | step _ e ih => exact h.cl _ ih _ e
end HF
set_option Elab.async false
set_option linter.all false
set_option maxRecDepth 100000
set_option maxHeartbeats 4000000
namespace HF
open PySem PySem.Spec PyProof.Rows L2
/-! ### how one of some names is come to from outside -/
abbrev SW := Start × Steps
def dSW (a : SW) : PyData := .tuple [dStart a.1, dSteps a.2]
abbrev PAcc := List (Nm × SW) × List Nm
def pFirst (acc : PAcc) (x : Start × Nm) : PAcc := if x.2 ∈ keys acc.1 then acc else (aput acc.1 x.2 (x.1, []), acc.2 ++ [x.2])
def pIn (one : Nm) (a : SW) (acc : PAcc) (x : Option Nm × Nat) : PAcc := match x.1 with
  | none => acc
  | some m => if m ∈ keys acc.1 then acc else (aput acc.1 m (a.1, a.2 ++ [(one, x.2)]), acc.2 ++ [m])
def pStep (F : List (Nm × Flds)) (W : List (Nm × SW)) (one : Nm) (r : List Nm) : PAcc := match aget W one with
  | none => (W, r)
  | some a => ((aget F one).getD []).zipIdx.foldl (pIn one a) (W, r)
def pLoop (F : List (Nm × Flds)) (name : Nm) : Nat → PAcc → List (Nm × SW)
  | 0, acc => acc.1
  | j + 1, acc => if name ∈ keys acc.1 then acc.1 else match acc.2 with
    | [] => acc.1
    | one :: r => pLoop F name j (pStep F acc.1 one r)
theorem keys_put_new {β : Type} {l : List (Nm × β)} {k : Nm} {v : β} (h : k ∉ keys l) : keys (aput l k v) = keys l ++ [k] := by
  rw [keys_put, if_neg h]
/-- ahead of each turn, at most j of them left -/
structure PtL (F : List (Nm × Flds)) (S : List (Start × Nm)) (ks : List Nm) (j : Nat) (W : List (Nm × SW)) (wt : List Nm) : Prop where
  nd : (keys W).Nodup
  sub : ∀ n ∈ keys W, n ∈ ks
  wsub : ∀ n ∈ wt, n ∈ keys W
  len : ∀ n a, aget W n = some a → a.2.length + j ≤ 300
  few : 2 * unmet (keys F) (keys W) + wt.length ≤ j
  ok : ∀ n a, aget W n = some a → ∃ m, (a.1, m) ∈ S ∧ PathF F m a.2 n ∧ ∀ s ∈ a.2, s.1 ∈ ks
  cl : ∀ a ∈ keys W, a ∉ wt → ∀ b ∈ chl F a, b ∈ keys W
  all : ∀ x ∈ S, x.2 ∈ keys W
structure PIn (F : List (Nm × Flds)) (S : List (Start × Nm)) (ks : List Nm) (j : Nat) (W : List (Nm × SW)) (r : List Nm) (acc : PAcc) : Prop where
  nd : (keys acc.1).Nodup
  sub : ∀ n ∈ keys acc.1, n ∈ ks
  wsub : ∀ n ∈ acc.2, n ∈ keys acc.1
  len : ∀ n a, aget acc.1 n = some a → a.2.length + j ≤ 300
  few : 2 * unmet (keys F) (keys acc.1) + acc.2.length ≤ j
  ok : ∀ n a, aget acc.1 n = some a → ∃ m, (a.1, m) ∈ S ∧ PathF F m a.2 n ∧ ∀ s ∈ a.2, s.1 ∈ ks
  mo : ∀ n ∈ keys W, n ∈ keys acc.1
  mr : ∀ n ∈ r, n ∈ acc.2
  new : ∀ n ∈ keys acc.1, n ∈ keys W ∨ n ∈ acc.2
section
variable {F : List (Nm × Flds)} {S : List (Start × Nm)} {ks : List Nm}
theorem PtL.init (g : GrB F) (hk : ∀ n ∈ ks, n ∈ keys F) (hS : ∀ x ∈ S, x.2 ∈ ks) : PtL F S ks 200 (S.foldl pFirst ([], [])).1 (S.foldl pFirst ([], [])).2 := by
  have main : (keys (S.foldl pFirst ([], [])).1).Nodup ∧ (∀ n ∈ keys (S.foldl pFirst ([], [])).1, n ∈ ks) ∧ (S.foldl pFirst ([], [])).2 = keys (S.foldl pFirst ([], [])).1 ∧
      (∀ n a, aget (S.foldl pFirst ([], [])).1 n = some a → a.2 = [] ∧ (a.1, n) ∈ S) := by
    refine fold_keep (P := fun acc : PAcc => (keys acc.1).Nodup ∧ (∀ n ∈ keys acc.1, n ∈ ks) ∧ acc.2 = keys acc.1 ∧ (∀ n a, aget acc.1 n = some a → a.2 = [] ∧ (a.1, n) ∈ S)) ⟨List.nodup_nil, fun n h => (nomatch h), rfl, fun n a h => (nomatch h)⟩ fun acc x hx h => ?_
    obtain ⟨h1, h2, h3, h4⟩ := h
    unfold pFirst
    split
    · exact ⟨h1, h2, h3, h4⟩
    · rename_i hn
      refine ⟨nodup_put h1, fun n q => ?_, ?_, fun n a q => ?_⟩
      · rcases mem_keys_put.mp q with rfl | q
        · exact hS x hx
        · exact h2 n q
      · rw [keys_put_new hn, h3]
      · simp only at q
        rw [aget_put] at q
        split at q
        · rename_i e
          cases q
          rw [e]
          exact ⟨rfl, hx⟩
        · exact h4 n a q
  obtain ⟨h1, h2, h3, h4⟩ := main
  refine ⟨h1, h2, fun n h => h3 ▸ h, fun n a h => ?_, ?_, fun n a h => ?_, fun a ha hn => absurd (h3 ▸ ha) hn, fun x hx => ?_⟩
  · rw [(h4 n a h).1]
    decide
  · rw [h3]
    have q1 := g.sub40 h1 fun n hn => hk n (h2 n hn)
    have q2 := unmet_le (keys F) (keys (S.foldl pFirst ([], [])).1)
    have q3 := g.k40
    omega
  · obtain ⟨e, hm⟩ := h4 n a h
    rw [e]
    exact ⟨n, hm, rfl, fun s hs => nomatch hs⟩
  · refine fold_hit (P := fun acc : PAcc => x.2 ∈ keys acc.1) hx (fun acc => ?_) fun acc y h => ?_
    · unfold pFirst
      split
      · assumption
      · exact mem_keys_put.mpr (.inl rfl)
    · unfold pFirst
      split
      · exact h
      · exact mem_keys_put.mpr (.inr h)
theorem pIn_mono {one : Nm} {a : SW} {acc : PAcc} {x : Option Nm × Nat} {n : Nm} (h : n ∈ keys acc.1) : n ∈ keys (pIn one a acc x).1 := by
  unfold pIn
  split
  · exact h
  · split
    · exact h
    · exact mem_keys_put.mpr (.inr h)
theorem PtL.next {j : Nat} {W : List (Nm × SW)} {one : Nm} {r : List Nm} (g : GrB F) (hk : ∀ n ∈ ks, n ∈ keys F) (hc : ∀ a ∈ ks, ∀ b ∈ chl F a, b ∈ ks) (h : PtL F S ks (j + 1) W (one :: r)) : PtL F S ks j (pStep F W one r).1 (pStep F W one r).2 := by
  have ho : one ∈ keys W := h.wsub one List.mem_cons_self
  obtain ⟨a, ha⟩ := aget_some ho
  obtain ⟨fs, hfs⟩ := aget_some (hk one (h.sub one ho))
  have es : pStep F W one r = fs.zipIdx.foldl (pIn one a) (W, r) := by
    unfold pStep
    rw [ha, hfs]
    rfl
  have hlen := h.len one a ha
  obtain ⟨m0, hm0, hp0, hs0⟩ := h.ok one a ha
  have few := h.few
  rw [List.length_cons] at few
  have main : PIn F S ks j W r (fs.zipIdx.foldl (pIn one a) (W, r)) := by
    refine fold_keep (P := fun acc : PAcc => PIn F S ks j W r acc) ⟨h.nd, h.sub, fun n hn => h.wsub n (List.mem_cons_of_mem _ hn), fun n b hb => ?_, by show 2 * unmet (keys F) (keys W) + r.length ≤ j; omega, h.ok, fun _ h => h, fun _ h => h, fun _ h => .inl h⟩ fun acc x hx q => ?_
    · have := h.len n b hb
      omega
    · obtain ⟨o, f⟩ := x
      unfold pIn
      cases o with
      | none => exact q
      | some m =>
        simp only
        split
        · exact q
        · rename_i hm
          have hmc : m ∈ chl F one := chl_of hfs (zip_mem hx)
          have hmk : m ∈ ks := hc one (h.sub one ho) m hmc
          have hmF := hk m hmk
          refine ⟨nodup_put q.nd, fun n hn => ?_, fun n hn => ?_, fun n b hb => ?_, ?_, fun n b hb => ?_, fun n hn => mem_keys_put.mpr (.inr (q.mo n hn)), fun n hn => List.mem_append_left _ (q.mr n hn), fun n hn => ?_⟩
          · rcases mem_keys_put.mp hn with rfl | hn
            · exact hmk
            · exact q.sub n hn
          · rcases List.mem_append.mp hn with hn | hn
            · exact mem_keys_put.mpr (.inr (q.wsub n hn))
            · exact mem_keys_put.mpr (.inl (List.mem_singleton.mp hn))
          · simp only at hb
            rw [aget_put] at hb
            split at hb
            · cases hb
              simp only [List.length_append, List.length_singleton]
              omega
            · exact q.len n b hb
          · have lt : unmet (keys F) (keys (aput acc.1 m (a.1, a.2 ++ [(one, f)]))) < unmet (keys F) (keys acc.1) := unmet_lt (fun n hn => mem_keys_put.mpr (.inr hn)) hmF hm (mem_keys_put.mpr (.inl rfl))
            have := q.few
            simp only [List.length_append, List.length_singleton]
            omega
          · simp only at hb
            rw [aget_put] at hb
            split at hb
            · rename_i e
              cases hb
              refine ⟨m0, hm0, ?_, fun s hs => ?_⟩
              · rw [e]
                exact PathF.snoc hfs (zip_mem hx) hp0
              · rcases List.mem_append.mp hs with hs | hs
                · exact hs0 s hs
                · rw [List.mem_singleton.mp hs]
                  exact h.sub one ho
            · exact q.ok n b hb
          · rcases mem_keys_put.mp hn with rfl | hn
            · exact .inr (List.mem_append_right _ (List.mem_singleton.mpr rfl))
            · rcases q.new n hn with hn | hn
              · exact .inl hn
              · exact .inr (List.mem_append_left _ hn)
  rw [es]
  refine ⟨main.nd, main.sub, main.wsub, main.len, main.few, main.ok, fun b hb hn c hcb => ?_, fun x hx => main.mo _ (h.all x hx)⟩
  rcases main.new b hb with hbW | q
  · by_cases e : b = one
    · subst e
      obtain ⟨fs', hfs', hcm⟩ := mem_chl.mp hcb
      rw [hfs] at hfs'
      cases hfs'
      obtain ⟨f, hf⟩ := List.getElem?_of_mem hcm
      refine fold_hit (P := fun acc : PAcc => c ∈ keys acc.1) (zip_of hf) (fun acc => ?_) fun acc y h => pIn_mono h
      unfold pIn
      simp only
      split
      · assumption
      · exact mem_keys_put.mpr (.inl rfl)
    · have : b ∉ one :: r := fun z => by
        rcases List.mem_cons.mp z with z | z
        · exact e z
        · exact hn (main.mr b z)
      exact main.mo _ (h.cl b hbW this c hcb)
  · exact absurd q hn
/-- while the name isn't met something waits -/
theorem PtL.waits {j : Nat} {W : List (Nm × SW)} {wt : List Nm} {name : Nm} (h : PtL F S ks j W wt) (hr : Rch (chl F) (S.map (·.2)) name) (hn : name ∉ keys W) : wt ≠ [] := fun e => by
  subst e
  refine hn ?_
  clear hn
  induction hr with
  | base hb =>
    obtain ⟨x, hx, rfl⟩ := List.mem_map.mp hb
    exact h.all x hx
  | step _ e ih => exact h.cl _ ih (fun z => nomatch z) _ e
/-- what the loop gives -/
theorem PtL.out {name : Nm} (g : GrB F) (hk : ∀ n ∈ ks, n ∈ keys F) (hc : ∀ a ∈ ks, ∀ b ∈ chl F a, b ∈ ks) (hr : Rch (chl F) (S.map (·.2)) name) : ∀ (j : Nat) {W : List (Nm × SW)} {wt : List Nm}, PtL F S ks j W wt →
    ∃ a m, aget (pLoop F name j (W, wt)) name = some a ∧ (a.1, m) ∈ S ∧ PathF F m a.2 name ∧ ∀ s ∈ a.2, s.1 ∈ ks
  | 0, W, wt, h => by
    by_cases hn : name ∈ keys W
    · obtain ⟨a, ha⟩ := aget_some hn
      obtain ⟨m, h1, h2, h3⟩ := h.ok name a ha
      exact ⟨a, m, ha, h1, h2, h3⟩
    · have h1 := h.waits hr hn
      have h2 := h.few
      exact absurd (List.eq_nil_of_length_eq_zero (by omega)) h1
  | j + 1, W, wt, h => by
    unfold pLoop
    split
    · rename_i hn
      obtain ⟨a, ha⟩ := aget_some hn
      obtain ⟨m, h1, h2, h3⟩ := h.ok name a ha
      exact ⟨a, m, ha, h1, h2, h3⟩
    · rename_i hn
      cases wt with
      | nil => exact absurd rfl (h.waits hr hn)
      | cons one r => exact PtL.out g hk hc hr j (h.next g hk hc)
theorem pFirst_len (acc : PAcc) (x : Start × Nm) : (pFirst acc x).1.length ≤ acc.1.length + 1 ∧ (pFirst acc x).2.length ≤ acc.2.length + 1 := by
  unfold pFirst
  split
  · omega
  · refine ⟨aput_len, by simp⟩
theorem pIn_len (one : Nm) (a : SW) (acc : PAcc) (x : Option Nm × Nat) : (pIn one a acc x).1.length ≤ acc.1.length + 1 ∧ (pIn one a acc x).2.length ≤ acc.2.length + 1 := by
  unfold pIn
  split
  · omega
  · split
    · omega
    · refine ⟨aput_len, by simp⟩
theorem fold_len2 {α β γ : Type} (st : List β × List γ → α → List β × List γ) : ∀ (l : List α) (acc : List β × List γ), (∀ a acc, (st acc a).1.length ≤ acc.1.length + 1 ∧ (st acc a).2.length ≤ acc.2.length + 1) → (l.foldl st acc).1.length ≤ acc.1.length + l.length ∧ (l.foldl st acc).2.length ≤ acc.2.length + l.length
  | [], acc, _ => ⟨Nat.le_refl _, Nat.le_refl _⟩
  | a :: r, acc, h => by
    obtain ⟨h1, h2⟩ := fold_len2 st r (st acc a) h
    obtain ⟨h3, h4⟩ := h a acc
    rw [List.foldl_cons, List.length_cons]
    omega
end
/-- the pointed paper -/
def pointedD (F : List (Nm × Flds)) (S : List (Start × Nm)) (ks : List Nm) (name : Nm) : PyData := match aget (pLoop F name 200 (S.foldl pFirst ([], []))) name with
  | none => .none
  | some a => dPaper (.pointed name (srt dN ks) a.1 a.2)
end HF
set_option Elab.async false
set_option linter.all false
set_option maxRecDepth 100000
set_option maxHeartbeats 4000000
namespace HF
open PySem PySem.Spec PyProof.Rows L2
theorem zip_flat {α γ δ : Type} (g : α × Nat → List γ) (f : γ → δ) (k : α → List δ) (h : ∀ x, (g x).map f = k x.1) : ∀ (l : List α) (n : Nat), ((l.zipIdx n).flatMap g).map f = l.flatMap k
  | [], _ => rfl
  | x :: r, n => by
    rw [List.zipIdx_cons, List.flatMap_cons, List.flatMap_cons, List.map_append, zip_flat g f k h r, h]
theorem flat_toList {α : Type} (l : List (Option α)) : l.flatMap (·.toList) = l.filterMap id := by
  induction l with
  | nil => rfl
  | cons x r ih =>
    rw [List.flatMap_cons, ih]
    cases x <;> rfl
/-- the starts' names are the names held -/
theorem starts_held (p : Pic) : (startsF p).map (·.2) = heldF p := by
  unfold startsF heldF
  rw [app_fold_id, app_fold, List.map_append]
  congr 1
  · refine zip_flat houseSt _ _ (fun x => ?_) _ _
    unfold houseSt
    rw [zip_flat (hStarts x.2) (·.2) (·.toList) (fun y => ?_), flat_toList]
    unfold hStarts
    obtain ⟨o, i⟩ := y
    cases o <;> rfl
  · refine zip_flat letterSt _ _ (fun x => ?_) _ _
    unfold letterSt
    rw [zip_flat (lStarts x.2) (·.2) (fun n => [n]) (fun y => rfl)]
    simp
/-- all that a walk asks of a picture -/
structure PicOk (p : Pic) : Prop where
  b : PicB p
  g : GrB (fieldsF p)
  held : ∀ n ∈ heldF p, n ∈ keys (fieldsF p)
  hs : ∀ n ∈ keys (fieldsF p), 0 ≤ n.1 ∧ n.1 < (p.houses.length : Int)
  lt : ∀ l ∈ p.letters, 0 ≤ l.to ∧ l.to < (p.houses.length : Int)
theorem PicOk.st {p : Pic} (o : PicOk p) : ∀ x ∈ startsF p, x.2 ∈ keys (fieldsF p) := fun x hx => o.held _ (by rw [← starts_held]; exact List.mem_map.mpr ⟨x, hx, rfl⟩)
theorem PicOk.lay {p : Pic} (o : PicOk p) : LayO (fieldsF p) (startsF p) (allWays p) := Lay.out o.g 200 (Lay.init o.g o.st)
section
variable {P : Program} {w : World} {K : PySem.W.Frag} {mg : Str → Option Value} {base : Heap} {f : Addr} {fd : FuncData}
def spAllWays : Sp := fun vs H Q _ => ∃ v pic, vs = [v] ∧ Dt H v (dPic pic) ∧ PicOk pic ∧ ∀ t H' m l mkvs xs, Ex H H' → H' t = some (.tup [.ref m, .ref l]) → H' m = some (.dT mkvs) → KVs H' dWay mkvs (allWays pic) → H' l = some (.lst xs) → DtAll H' xs ((startsF pic).map dSN) → Q (.ref t) H'
structure CAll (P : Program) (w : World) (K : PySem.W.Frag) (mg : Str → Option Value) (base : Heap) : Prop where
  fields_by_name : Cal P w K mg base "fields_by_name" ["picture"] 1 spFields
  all_starts : Cal P w K mg base "all_starts" ["picture"] 1 spStarts
  first_ways : Cal P w K mg base "first_ways" ["starts"] 1 spFirst
  next_ways : Cal P w K mg base "next_ways" ["fields", "ways", "met"] 2 spNext
theorem sc_s_all_ways : FnScope ["picture", "fields", "starts", "ways", "met"] ["picture"] (defScope s_all_ways) := ⟨rfl, rfl, rfl, by decide +kernel, rfl, by decide +kernel, by decide +kernel⟩
theorem ok_all_ways (F : FnP K "all_ways" "all_ways" s_all_ways f fd) (B : Bl mg) (C : CAll P w K mg base) : FnOk P w K mg base CX0 3 f fd ["picture"] spAllWays := by
  refine F.ok sc_s_all_ways (fun vs H Q E h => ?_) (fun cdv A outer s H vs Q E hr h => ?_)
  · obtain ⟨v, pic, rfl, _⟩ := h
    rfl
  · obtain ⟨v, pic, rfl, hv, ok, k⟩ := h
    have hu := hu_of hr
    have hu64 := hr.units
    refine ⟨_, PSs.nox (pss_cons (ps_set (i := 1) sc_s_all_ways.nd rfl (Or.inl rfl) (pe_cal C.fields_by_name (hr.mono (by decide)) pass0 (pa_cons (pv 0) pa_nil)))
          (pss_cons (ps_set (i := 2) sc_s_all_ways.nd rfl (Or.inl rfl) (pe_cal C.all_starts (hr.mono (by decide)) pass0 (pa_cons (pv 0) pa_nil)))
          (pss_cons (ps_set (i := 3) sc_s_all_ways.nd rfl (Or.inl rfl) (pe_cal C.first_ways (hr.mono (by decide)) pass0 (pa_cons (pv 2) pa_nil)))
          (pss_cons (ps_set (i := 4) sc_s_all_ways.nd rfl (Or.inl rfl) (pe_callTy (cr_dictD hu64) (by rfl) B.dict (by decide +kernel) (pa_cons (pv 3) pa_nil)))
          (pss_cons (ps_while PassesOwn.never (pt_cmpR (op_neMt hu64) (pv 3) pe_dnewT (nomark _))
          (pss_cons (ps_set (i := 3) sc_s_all_ways.nd rfl (Or.inl rfl) (pe_cal C.next_ways (hr.mono (by decide)) pass0 (pa_cons (pv 1) (pa_cons (pv 3) (pa_cons (pv 4) pa_nil)))))
          (pss_one (ps_expr (pe_bm PySem.F.plainAttrs_dict PySem.F.slot_dict_update PySem.F.type_dict_update (mt_updD hu64) (pv 4) (pa_cons (pv 3) pa_nil))))))
          (pss_one (ps_ret (pe_tup (pa_cons (pv 4) (pa_cons (pv 2) pa_nil)))))))))), ?_⟩
    refine ⟨_, rfl, v, pic, rfl, hv, ok.b, fun d H1 dkvs hd e1 hd1 hk1 => ?_⟩
    refine ⟨_, rfl, v, pic, rfl, hv.go e1.tx, ok.b, fun l H2 xs hl e2 hl2 hx2 => ?_⟩
    have bs := startsF_len ok.b
    refine ⟨_, rfl, l, xs, startsF pic, rfl, hl2, hx2, by omega, fun wv H3 wkvs hwv e3 hw3 hk3 => ?_⟩
    have L0 := Lay.init ok.g ok.st
    refine ⟨_, rfl, wv, wkvs, keys (firstWays (startsF pic)), rfl, .inl hw3, hk3.ks, L0.nw, fun n hn => ok.g.sm n (L0.sm n hn), fun mt hmt => ?_⟩
    have e4 : Ex H3 (upd H3 mt (.dT wkvs)) := Ex.new hmt
    have hm4 : (upd H3 mt (.dT wkvs)) mt = some (.dT wkvs) := upd_same
    have e04 : Ex H (upd H3 mt (.dT wkvs)) := ((e1.trans e2).trans e3).trans e4
    have hmt0 : H mt = none := ((e1.trans e2).trans e3).back hmt
    have ndm : d ≠ mt := fun z => by
      rw [← z, (e2.trans e3) _ _ hd1] at hmt
      cases hmt
    have nlm : l ≠ mt := fun z => by
      rw [← z, e3 _ _ hl2] at hmt
      cases hmt
    have nwm : wv ≠ mt := fun z => by
      rw [← z, hw3] at hmt
      cases hmt
    have hd4 := e4 _ _ (e3 _ _ (e2 _ _ hd1))
    have hk4 := hk1.go ((e2.trans e3).trans e4).tx
    have hl4 := e4 _ _ (e3 _ _ hl2)
    have hx4 := hx2.go (e3.trans e4).tx
    have hw4 := e4 _ _ hw3
    have hkw4 := hk3.go e4.tx
    generalize upd H3 mt (.dT wkvs) = H4 at e04 hd4 hk4 hl4 hx4 hw4 hkw4 hm4
    refine ⟨fun j σ H' => ∃ W M wv wkvs mkvs, σ = [some v, some (.ref d), some (.ref l), some (.ref wv), some (.ref mt)] ∧ Ex H H' ∧ H' d = some (.dT dkvs) ∧ KVs H' dFlds dkvs (fieldsF pic) ∧ H' l = some (.lst xs) ∧ DtAll H' xs ((startsF pic).map dSN) ∧
        H' wv = some (.dT wkvs) ∧ KVs H' dWay wkvs W ∧ wv ≠ mt ∧ wv ≠ d ∧ H' mt = some (.dT mkvs) ∧ KVs H' dWay mkvs M ∧ Lay (fieldsF pic) (startsF pic) j W M ∧ layers (fieldsF pic) j W M = allWays pic,
      ⟨200, _, _, wv, wkvs, wkvs, rfl, e04, hd4, hk4, hl4, hx4, hw4, hkw4, nwm, ?_, hm4, hkw4, L0, rfl⟩, ?_⟩
    · intro z
      rw [z, (e2 _ _ hd1)] at hwv
      cases hwv
    · rintro j σ H5 ⟨W, M, wv, wkvs, mkvs, rfl, e5, hd5, hk5, hl5, hx5, hw5, hkw5, nwm, nwd, hm5, hkm5, Ly, hR⟩
      refine ⟨_, rfl, fun q hq => ⟨wv, q, wkvs, rfl, rfl, .inl (Ex.new hq _ _ hw5), upd_same, _, rfl, ?_⟩⟩
      have e6 : Ex H5 (upd H5 q (.dT [])) := Ex.new hq
      generalize upd H5 q (.dT []) = H6 at e6
      have e06 := e5.trans e6
      have lw := hkw5.len
      cases W with
      | nil =>
        have : wkvs = [] := List.eq_nil_of_length_eq_zero (by rw [lw]; rfl)
        subst this
        refine iteF ⟨_, rfl, _, rfl, le16 (by show 2 ≤ 100000; decide), fun t ht => ?_⟩
        have e7 : Ex H6 (upd H6 t (.tup [.ref mt, .ref l])) := Ex.new ht
        have hMR : M = allWays pic := by
          rw [← hR]
          cases j <;> rfl
        rw [hMR] at hkm5
        have e8 := e6.trans e7
        exact k t _ mt l mkvs xs (e06.trans e7) upd_same (e8 _ _ hm5) (hkm5.go e8.tx) (e8 _ _ hl5) (hx5.go e8.tx)
      | cons p r =>
        have ew : (!wkvs.isEmpty) = true := by
          cases wkvs with
          | nil => simp at lw
          | cons a b => rfl
        rw [ew]
        cases j with
        | zero =>
          have := Ly.few
          simp at this
        | succ j =>
        have Ly2 := Ly.next ok.g (fun z => nomatch z)
        have hR2 : layers (fieldsF pic) j (nextWays (fieldsF pic) (p :: r) (keys M)) (mergeA M (nextWays (fieldsF pic) (p :: r) (keys M))) = allWays pic := by
          rw [← hR]
          rfl
        have hw6 := e6 _ _ hw5
        have hm6 := e6 _ _ hm5
        refine iteT ⟨fun σ' H' => ∃ W M wv wkvs mkvs, σ' = [some v, some (.ref d), some (.ref l), some (.ref wv), some (.ref mt)] ∧ Ex H H' ∧ H' d = some (.dT dkvs) ∧ KVs H' dFlds dkvs (fieldsF pic) ∧ H' l = some (.lst xs) ∧ DtAll H' xs ((startsF pic).map dSN) ∧
          H' wv = some (.dT wkvs) ∧ KVs H' dWay wkvs W ∧ wv ≠ mt ∧ wv ≠ d ∧ H' mt = some (.dT mkvs) ∧ KVs H' dWay mkvs M ∧ Lay (fieldsF pic) (startsF pic) j W M ∧ layers (fieldsF pic) j W M = allWays pic, fun σ' H' h => ⟨j, Nat.lt_succ_self j, h⟩, ?_⟩
        refine ⟨_, rfl, _, rfl, _, rfl, d, wv, mt, fieldsF pic, p :: r, wkvs, mkvs, keys M, rfl, ⟨dkvs, .inl (e6 _ _ hd5), hk5.go e6.tx⟩, ok.g, hw6, hkw5.go e6.tx, Ly.nw, fun n hn => Ly.sm n (Ly.wm n hn), fun p hp => by have := Ly.len p hp; omega, nwd.symm, nwm.symm, .inl hm6, hkm5.ks, fun q2 H7 nkvs hq2 e7 hq7 hkq7 => ?_⟩
        have e07 := e06.trans e7
        have e57 := e6.trans e7
        have nmq : mt ≠ q2 := fun z => by
          rw [← z, hm6] at hq2
          cases hq2
        have ndq : d ≠ q2 := fun z => by
          rw [← z, e6 _ _ hd5] at hq2
          cases hq2
        have hm7 := e7 _ _ hm6
        have lm := hkm5.len
        have lq := hkq7.len
        have b1 : M.length ≤ 40 := by
          have := ok.g.sub40 Ly.nm Ly.sm
          rw [List.length_map] at this
          exact this
        have b2 : (nextWays (fieldsF pic) (p :: r) (keys M)).length ≤ 40 := by
          have := ok.g.sub40 Ly2.nw fun n hn => Ly2.sm n (Ly2.wm n hn)
          rw [List.length_map] at this
          exact this
        have mne : mkvs ≠ [] := fun z => by
          rw [z] at lm
          have hp := Ly.wm p.1 List.mem_cons_self
          have : M = [] := List.eq_nil_of_length_eq_zero lm.symm
          rw [this] at hp
          cases hp
        refine ⟨_, rfl, .inr (.inr (.inl ⟨rfl, .inr ⟨_, hm7⟩⟩)), _, rfl, mt, q2, mkvs, nkvs, rfl, rfl, hm7, .inl hq7, nmq, mne, le16 (by omega), ?_⟩
        have t8 : TX H7 (upd H7 mt (.dT (mergeT mkvs nkvs))) := TX.updD hm7
        exact ⟨_, _, q2, nkvs, _, rfl, e07.mut hmt0, by rw [upd_ne ndm]; exact e57 _ _ hd5, hk5.go (e57.tx.trans t8), by rw [upd_ne nlm]; exact e57 _ _ hl5, hx5.go (e57.tx.trans t8),
          by rw [upd_ne nmq.symm]; exact hq7, hkq7.go t8, nmq.symm, ndq.symm, upd_same, ((hkm5.go e57.tx).merge hkq7).go t8, Ly2, hR2⟩
end
end HF
set_option Elab.async false
set_option linter.all false
set_option maxRecDepth 100000
set_option maxHeartbeats 4000000
namespace HF
open PySem PySem.Spec PyProof.Rows L2
/-- the wanted paper by the ways -/
def wantedD (p : Pic) (n : Nm) : PyData := match aget (allWays p) n with
  | none => .none
  | some a => match (startsF p)[a.1]? with
    | none => .none
    | some s => dPaper (.wanted n s.1 a.2)
/-- the names that can't be come to, rising -/
noncomputable def freeL (p : Pic) : List Nm := (srt dN (keys (fieldsF p))).filter fun n => !decide (n ∈ cloL (fieldsF p) (heldF p))
noncomputable def cutD (p : Pic) : PyData := if (freeL p).isEmpty = true then .none else dPaper (.cut (freeL p) (lettersL p))
section
variable {P : Program} {w : World} {K : PySem.W.Frag} {mg : Str → Option Value} {base : Heap} {f : Addr} {fd : FuncData}
def spLookFor : Sp := fun vs H Q _ => ∃ v x pic n, vs = [v, x] ∧ Dt H v (dPic pic) ∧ PicB pic ∧ Dt H x (dN n) ∧ n ∈ keys (fieldsF pic) ∧ ∀ H', Ex H H' → Q .non H'
structure CLook (P : Program) (w : World) (K : PySem.W.Frag) (mg : Str → Option Value) (base : Heap) : Prop where
  fields_by_name : Cal P w K mg base "fields_by_name" ["picture"] 1 spFields
theorem sc_s_look_for : FnScope ["picture", "name"] ["picture", "name"] (defScope s_look_for) := ⟨rfl, rfl, rfl, by decide +kernel, rfl, by decide +kernel, by decide +kernel⟩
theorem ok_look_for (F : FnP K "look_for" "look_for" s_look_for f fd) (C : CLook P w K mg base) : FnOk P w K mg base CX0 2 f fd ["picture", "name"] spLookFor := by
  refine F.ok sc_s_look_for (fun vs H Q E h => ?_) (fun cdv A outer s H vs Q E hr h => ?_)
  · obtain ⟨v, x, pic, n, rfl, _⟩ := h
    rfl
  · obtain ⟨v, x, pic, n, rfl, hv, hb, hx, hn, k⟩ := h
    have hu := hu_of hr
    refine ⟨_, PSs.nox (pss_one (ps_if (pt_cmp (pc_dnotin hu (pv 1) (pe_cal C.fields_by_name (hr.mono (by decide)) pass0 (pa_cons (pv 0) pa_nil))))
          (pss_one ps_never)
          pss_nil)), ?_⟩
    refine ⟨_, rfl, _, rfl, v, pic, rfl, hv, hb, fun d H1 kvs hd e1 hd1 hk1 => ?_⟩
    obtain ⟨a, rfl, ha⟩ := hx.nm
    refine ⟨d, _, rfl, dget_of (.inl hd1) (e1 _ _ ha), _, rfl, ?_⟩
    rw [hk1.ks.isS n, decide_eq_true hn]
    exact iteF (k _ e1)
/-! ### wanted_for -/
def spWantedFor : Sp := fun vs H Q _ => ∃ v x pic n, vs = [v, x] ∧ Dt H v (dPic pic) ∧ PicOk pic ∧ Dt H x (dN n) ∧ n ∈ keys (fieldsF pic) ∧ ∀ r H', Ex H H' → Dt H' r (wantedD pic n) → Q r H'
structure CWF (P : Program) (w : World) (K : PySem.W.Frag) (mg : Str → Option Value) (base : Heap) : Prop where
  look_for : Cal P w K mg base "look_for" ["picture", "name"] 2 spLookFor
  all_ways : Cal P w K mg base "all_ways" ["picture"] 3 spAllWays
theorem sc_s_wanted_for : FnScope ["picture", "name", "ways", "starts", "number", "steps"] ["picture", "name"] (defScope s_wanted_for) := ⟨rfl, rfl, rfl, by decide +kernel, rfl, by decide +kernel, by decide +kernel⟩
theorem ok_wanted_for (F : FnP K "wanted_for" "wanted_for" s_wanted_for f fd) (C : CWF P w K mg base) : FnOk P w K mg base CX0 4 f fd ["picture", "name"] spWantedFor := by
  refine F.ok sc_s_wanted_for (fun vs H Q E h => ?_) (fun cdv A outer s H vs Q E hr h => ?_)
  · obtain ⟨v, x, pic, n, rfl, _⟩ := h
    rfl
  · obtain ⟨v, x, pic, n, rfl, hv, ok, hx, hn, k⟩ := h
    have hu := hu_of hr
    refine ⟨_, PSs.nox (pss_cons (ps_expr (pe_cal C.look_for (hr.mono (by decide)) pass0 (pa_cons (pv 0) (pa_cons (pv 1) pa_nil))))
          (pss_cons (ps_asg (pe_cal C.all_ways (hr.mono (by decide)) pass0 (pa_cons (pv 0) pa_nil)) (pg_tup rfl (pgs_cons (pg_name (i := 2) sc_s_wanted_for.nd rfl (Or.inl rfl)) (pgs_cons (pg_name (i := 3) sc_s_wanted_for.nd rfl (Or.inl rfl)) pgs_nil))))
          (pss_cons (ps_if (pt_cmp (pc_dnotin hu (pv 1) (pv 2)))
          (pss_one (ps_ret pe_non))
          pss_nil)
          (pss_cons (ps_asg (pe_dget hu (pv 2) (pv 1) (fun _ _ => rfl)) (pg_tup rfl (pgs_cons (pg_name (i := 4) sc_s_wanted_for.nd rfl (Or.inl rfl)) (pgs_cons (pg_name (i := 5) sc_s_wanted_for.nd rfl (Or.inl rfl)) pgs_nil))))
          (pss_one (ps_ret (pe_tup (pa_cons pe_str (pa_cons (pv 1) (pa_cons (pe_ix ix_tup (pe_ix ix_list (pv 3) (pv 4) (fun _ _ => rfl)) pe_int (fun _ _ => rfl)) (pa_cons (pv 5) pa_nil))))))))))), ?_⟩
    refine ⟨_, rfl, _, rfl, v, x, pic, n, rfl, hv, ok.b, hx, hn, fun H1 e1 => ?_⟩
    refine ⟨_, rfl, v, pic, rfl, hv.go e1.tx, ok, fun t H2 m l mkvs xs e2 ht hm hkm hl hxs => ?_⟩
    have e12 := e1.trans e2
    obtain ⟨a, rfl, ha⟩ := hx.nm
    have ha2 := e12 _ _ ha
    refine ⟨t, _, rfl, SqT.of ht, rfl, _, _, rfl, _, _, rfl, rfl, ?_⟩
    refine ⟨_, rfl, _, rfl, m, _, rfl, dget_of (.inl hm) ha2, _, rfl, ?_⟩
    rw [hkm.isS n]
    unfold wantedD at k
    cases hw : aget (allWays pic) n with
    | none =>
      rw [hw] at k
      exact iteT (k _ _ e12 .non)
    | some b =>
      rw [hw] at k
      obtain ⟨st, nm, hst, hpath⟩ := ok.lay.ok n b hw
      simp only [hst] at k
      obtain ⟨wv, hwv, dwv⟩ := hkm.getS hw
      have hg := dget_of (.inl hm) ha2
      rw [hwv] at hg
      obtain ⟨num, steps⟩ := b
      obtain ⟨c, u1, u2, rfl, hc, g1, g2⟩ := Dt.t2 dwv
      cases g1.intE
      refine iteF ⟨_, rfl, _, rfl, m, _, rfl, hg, ?_⟩
      refine ⟨c, _, rfl, SqT.of hc, rfl, _, _, rfl, _, _, rfl, rfl, ?_⟩
      obtain ⟨y, hy, dy⟩ := hxs.get (i := num) (d := dSN (st, nm)) (by rw [List.getElem?_map, hst]; rfl)
      obtain ⟨sa, s1, s2, rfl, hsa, h1, h2⟩ := Dt.t2 dy
      refine ⟨_, rfl, _, rfl, _, rfl, l, xs, (num : Nat), .ref sa, rfl, rfl, SqL.of hl, atI_nat hy, sa, _, 0, _, rfl, rfl, SqT.of hsa, rfl, _, rfl, le16 (by show 4 ≤ 100000; decide), fun q hq => ?_⟩
      have e3 : Ex H2 (upd H2 q (.tup [.str "wanted", .ref a, s1, u2])) := Ex.new hq
      exact k _ _ (e12.trans e3) (.tup upd_same (.cons (.str _) (.cons (hx.go (e12.trans e3).tx) (.cons (h1.go e3.tx) (.cons (g2.go e3.tx) .nil)))))
/-! ### cut_for -/
def spCutFor : Sp := fun vs H Q _ => ∃ v pic, vs = [v] ∧ Dt H v (dPic pic) ∧ PicOk pic ∧ ∀ r H', Ex H H' → Dt H' r (cutD pic) → Q r H'
structure CCF (P : Program) (w : World) (K : PySem.W.Frag) (mg : Str → Option Value) (base : Heap) : Prop where
  reached : Cal P w K mg base "reached" ["picture"] 2 spReached
  fields_by_name : Cal P w K mg base "fields_by_name" ["picture"] 1 spFields
  letters_named : Cal P w K mg base "letters_named" ["picture"] 1 spLettersNamed
theorem sc_s_cut_for : FnScope ["picture", "come", "names", "name"] ["picture"] (defScope s_cut_for) := ⟨rfl, rfl, rfl, by decide +kernel, rfl, by decide +kernel, by decide +kernel⟩
theorem ok_cut_for (F : FnP K "cut_for" "cut_for" s_cut_for f fd) (B : Bl mg) (C : CCF P w K mg base) : FnOk P w K mg base CX0 3 f fd ["picture"] spCutFor := by
  refine F.ok sc_s_cut_for (fun vs H Q E h => ?_) (fun cdv A outer s H vs Q E hr h => ?_)
  · obtain ⟨v, pic, rfl, _⟩ := h
    rfl
  · obtain ⟨v, pic, rfl, hv, ok, k⟩ := h
    have hu := hu_of hr
    have hu64 := hr.units
    have hu65 : (A.deeper (envOfC "cut_for" (defScope s_cut_for) s.heap.objs.size f cdv)).units + 65 < cLine := by
      have := hr.un
      omega
    refine ⟨_, PSs.nox (pss_cons (ps_set (i := 1) sc_s_cut_for.nd rfl (Or.inr rfl) (pe_cal C.reached (hr.mono (by decide)) pass0 (pa_cons (pv 0) pa_nil)))
          (pss_cons (ps_setLc (i := 2) (own := [("name", 3)]) (g := gName 3) rfl sc_s_cut_for.nd rfl rfl (sw_true rfl rfl rfl (by decide +kernel)) (pi_list (pe_callB (cr_sortD (key := nkey) srtN rfl hu64) (by rfl) B.sorted (by decide +kernel) (pa_cons (pe_cal C.fields_by_name (hr.mono (by decide)) pass0 (pa_cons (pv 0) pa_nil)) pa_nil))) (blkOk_by (N := ["picture", "come", "names", "name"]) (sc := defScope s_cut_for) (by decide +kernel)) (fun _ _ _ _ _ => (pg_name (i := 3) sc_s_cut_for.nd rfl (Or.inl rfl))) (fun _ _ _ _ _ => (pts_one (pt_cmpR (op_notInU hu65) (pv 3) (pv 1) rfl))) (fun _ _ _ _ _ => (pv 3)))
          (pss_cons (ps_if (pt_cmpR (op_eqP hu64) (pv 2) (pe_lst pa_nil) (nomark _))
          (pss_one (ps_ret pe_non))
          pss_nil)
          (pss_one (ps_ret (pe_tup (pa_cons pe_str (pa_cons (pe_callTy call_tuple_of (by rfl) B.tuple (by decide +kernel) (pa_cons (pv 2) pa_nil)) (pa_cons (pe_cal C.letters_named (hr.mono (by decide)) pass0 (pa_cons (pv 0) pa_nil)) pa_nil))))))))), ?_⟩
    refine ⟨_, rfl, v, pic, rfl, hv, ok.b, ok.g, ok.held, fun u H1 e1 hu1 => ?_⟩
    refine ⟨_, rfl, v, pic, rfl, hv.go e1.tx, ok.b, fun d H2 dkvs hd e2 hd2 hk2 => ?_⟩
    refine ⟨d, dkvs, keys (fieldsF pic), rfl, .inl hd2, hk2.ks, fun b c hc => Dt.of_key b c hc, fun ys p hp hy => ?_⟩
    have e3 : Ex H2 (upd H2 p (.lst ys)) := Ex.new hp
    have hp3 : (upd H2 p (.lst ys)) p = some (.lst ys) := upd_same
    generalize upd H2 p (.lst ys) = H3 at e3 hp3
    have e03 := (e1.trans e2).trans e3
    have hy3 := hy.go e3.tx
    have hu3 := hu1.go (e2.trans e3).tx
    have ly : ys.length = (srt dN (keys (fieldsF pic))).length := by rw [hy.len, List.length_map]
    have l40 : (srt dN (keys (fieldsF pic))).length ≤ 40 := by
      rw [(srt_perm _).length_eq]
      exact ok.g.k40
    refine ⟨p, rfl, ⟨ys, SqL.of hp3⟩, fun D hD => ?_⟩
    refine lc_data (as := srt dN (keys (fieldsF pic))) (H1 := H3) (ly ▸ walk_list (K := K) (a := p) (xs := ys)) (fun n x H => Dt H x (dN n)) (fun n => !decide (n ∈ cloL (fieldsF pic) (heldF pic))) dN (by omega) hD ?_ (fun H' e => SqL.of (e _ _ hp3)) ?_ ?_ ?_ ?_
    · exact fun _ => rfl
    · rintro j n x H2 H3 hj e ⟨rfl, hx3⟩
      obtain ⟨y, hy, dy⟩ := hy3.get (i := j) (d := dN n) (by rw [List.getElem?_map, hj]; rfl)
      rw [hx3] at hy
      cases hy
      exact ⟨rfl, dy.go e.tx⟩
    · intro n x H2 _ e im R r
      exact ⟨_, rfl, _, rfl, inNms im (.inl (hu3.go e.tx)) ⟨_, rfl, r⟩⟩
    · intro n x H2 _ _ _ im R r
      exact ⟨_, rfl, r _ _ (Ex.refl _) im⟩
    · intro zs H4 e4 hD4 hz4
      have e04 := e03.trans e4
      refine ⟨_, rfl, le16 (by show 0 ≤ 100000; decide), fun q hq => eqMt (Ex.new hq _ _ hD4) (hz4.go (TX.updN hq)) upd_same ⟨_, rfl, ?_⟩⟩
      have e5 : Ex H4 (upd H4 q (.lst [])) := Ex.new hq
      generalize upd H4 q (.lst []) = H5 at e5
      have e05 := e04.trans e5
      rw [filt_isEmpty]
      unfold cutD at k
      change ∀ r H', Ex H H' → Dt H' r (if (freeL pic).isEmpty = true then .none else dPaper (.cut (freeL pic) (lettersL pic))) → Q r H' at k
      change DtAll H4 zs ((freeL pic).map dN) at hz4
      show (if (freeL pic).isEmpty = true then _ else _)
      cases hE : (freeL pic).isEmpty with
      | true =>
        rw [hE] at k
        exact iteT (k _ _ e05 .non)
      | false =>
        rw [hE] at k
        refine iteF ⟨_, rfl, D, zs, rfl, .inl ⟨SqL.of (e5 _ _ hD4), fun q2 hq2 => ?_⟩⟩
        have e6 : Ex H5 (upd H5 q2 (.tup zs)) := Ex.new hq2
        have hq6 : (upd H5 q2 (.tup zs)) q2 = some (.tup zs) := upd_same
        generalize upd H5 q2 (.tup zs) = H6 at e6 hq6
        refine ⟨_, rfl, v, pic, rfl, hv.go (e05.trans e6).tx, ok.b, fun u2 H7 e7 hu7 => ?_⟩
        refine ⟨le16 (by show 3 ≤ 100000; decide), fun q3 hq3 => ?_⟩
        have e8 : Ex H7 (upd H7 q3 (.tup [.str "cut", .ref q2, u2])) := Ex.new hq3
        have e68 := e7.trans e8
        exact k _ _ ((e05.trans e6).trans e68) (.tup upd_same (.cons (.str _) (.cons (.tup (e68 _ _ hq6) (hz4.go ((e5.trans e6).trans e68).tx)) (.cons (hu7.go e8.tx) .nil))))
end
end HF
set_option Elab.async false
set_option linter.all false
set_option maxRecDepth 100000
set_option maxHeartbeats 4000000
namespace HF
open PySem PySem.Spec PyProof.Rows L2
theorem cr_or {X : Cx} {v : Value} {r1 r2 : List V → Hp → VK → Prop} (h1 : CallR X v r1) (h2 : CallR X v r2) : CallR X v (fun vs H Q => r1 vs H Q ∨ r2 vs H Q) :=
  fun pins s σ H xs us Q I r h => h.elim (h1 pins s σ H xs us Q I r) (h2 pins s σ H xs us Q I r)
/-- what the class is -/
structure RwC (K : PySem.W.Frag) (C : Addr) : Prop where
  cls : Cls K C
  nl : NoAttr K C "looked"
  nf : NoAttr K C "fields"
/-- a way's object that looks at a picture -/
structure RwO (C : Addr) (H : Hp) (a : Addr) (pic : Pic) : Prop where
  un : ∃ dx p d kvs, H a = some (.ins C dx [("looked", p), ("fields", .ref d)]) ∧ Dt H p (dPic pic) ∧ H d = some (.dT kvs) ∧ KVs H dFlds kvs (fieldsF pic)
theorem RwO.ex {C : Addr} {H : Hp} {a : Addr} {pic : Pic} (h : RwO C H a pic) : ∃ dx p d, H a = some (.ins C dx [("looked", p), ("fields", .ref d)]) ∧ Dt H p (dPic pic) ∧ FdD H d (fieldsF pic) := by
  obtain ⟨dx, p, d, kvs, h1, h2, h3, h4⟩ := h.un
  exact ⟨dx, p, d, h1, h2, kvs, .inl h3, h4⟩
theorem RwO.go {C : Addr} {H H' : Hp} {a : Addr} {pic : Pic} (h : RwO C H a pic) (e : Ex H H') : RwO C H' a pic := by
  obtain ⟨dx, p, d, kvs, h1, h2, h3, h4⟩ := h.un
  exact ⟨dx, p, d, kvs, e _ _ h1, h2.go e.tx, e _ _ h3, h4.go e.tx⟩
section
variable {P : Program} {w : World} {K : PySem.W.Frag} {mg : Str → Option Value} {base : Heap} {f : Addr} {fd : FuncData} {C : Addr}
def spInit (C : Addr) : Sp := fun vs H Q _ => ∃ a dx v pic, vs = [.ref a, v] ∧ H a = some (.ins C dx []) ∧ Dt H v (dPic pic) ∧ PicB pic ∧ ∀ H' d kvs, Ch a H H' → H' a = some (.ins C dx [("looked", v), ("fields", .ref d)]) → H d = none → H' d = some (.dT kvs) → KVs H' dFlds kvs (fieldsF pic) → Q .non H'
theorem sc_sRingWay_init : FnScope ["self", "picture", "hands", "things", "name", "sort", "fields"] ["self", "picture"] (defScope sRingWay_init) := ⟨rfl, rfl, rfl, by decide +kernel, rfl, by decide +kernel, by decide +kernel⟩
theorem ok_init (F : FnP K "__init__" "RingWay.__init__" sRingWay_init f fd) (c' : RwC K C) : FnOk P w K mg base CX0 1 f fd ["self", "picture"] (spInit C) := by
  refine F.ok sc_sRingWay_init (fun vs H Q E h => ?_) (fun cdv A outer s H vs Q E hr h => ?_)
  · obtain ⟨a, dx, v, pic, rfl, _⟩ := h
    rfl
  · obtain ⟨a, dx, v, pic, rfl, hobj, hv, hb, k⟩ := h
    have hu := hu_of hr
    refine ⟨_, PSs.nox (pss_cons (ps_fld (pv 0) (pv 1) rfl)
          (pss_cons (ps_fld (pv 0) pe_dnewT rfl)
          (pss_one (ps_for PassesOwn.never rfl (pi_tup (pe_ix ix_tup (pv 1) pe_int (fun _ _ => rfl))) (pg_tup rfl (pgs_cons (pg_name (i := 2) sc_sRingWay_init.nd rfl (Or.inl rfl)) (pgs_cons (pg_name (i := 3) sc_sRingWay_init.nd rfl (Or.inl rfl)) pgs_nil)))
          (pss_one (ps_for PassesOwn.never rfl (pi_tup (pv 3)) (pg_tup rfl (pgs_cons (pg_name (i := 4) sc_sRingWay_init.nd rfl (Or.inl rfl)) (pgs_cons (pg_name (i := 5) sc_sRingWay_init.nd rfl (Or.inl rfl)) (pgs_cons (pg_name (i := 6) sc_sRingWay_init.nd rfl (Or.inl rfl)) pgs_nil))))
          (pss_one (ps_dput hu (pe_fld (pv 0) rfl) (pv 4) (pv 6) rfl)))))))), ?_⟩
    refine ⟨_, rfl, _, rfl, a, C, dx, [], rfl, hobj, c'.cls, c'.nl, by decide, ?_⟩
    have n0 : ∀ xs, H a ≠ some (.tup xs) := fun xs z => by rw [hobj] at z; cases z
    have c1 : Ch a H (upd H a (.ins C dx [("looked", v)])) := Ch.up
    have ho1 : (upd H a (.ins C dx [("looked", v)])) a = some (.ins C dx [("looked", v)]) := upd_same
    change ∀ d, (upd H a (.ins C dx [("looked", v)])) d = none → _
    intro d hd
    have nad : a ≠ d := ne_of_none ho1 hd
    have hd0 : H d = none := by rw [upd_ne nad.symm] at hd; exact hd
    refine ⟨_, rfl, a, C, dx, _, rfl, Ex.new hd _ _ ho1, c'.cls, c'.nf, (show 1 < 1000 by decide), ?_⟩
    have c3 : Ch a H (upd (upd (upd H a (.ins C dx [("looked", v)])) d (.dT [])) a (.ins C dx [("looked", v), ("fields", .ref d)])) := (c1.trans (Ex.new hd).toCh).trans Ch.up
    have ho3 : (upd (upd (upd H a (.ins C dx [("looked", v)])) d (.dT [])) a (.ins C dx [("looked", v), ("fields", .ref d)])) a = some (.ins C dx [("looked", v), ("fields", .ref d)]) := upd_same
    have hd3 : (upd (upd (upd H a (.ins C dx [("looked", v)])) d (.dT [])) a (.ins C dx [("looked", v), ("fields", .ref d)])) d = some (.dT []) := by
      rw [upd_ne nad.symm]
      exact upd_same
    obtain ⟨pa, v1, v2, rfl, hpa, h1, h2⟩ := Dt.t2 hv
    obtain ⟨b, xs, rfl, hbx, hx⟩ := h1.tupE
    have nn : ∀ x o, H x = some o → (∀ C dx fs, o ≠ .ins C dx fs) → x ≠ a := fun x o h hn z => by
      subst z
      rw [hobj] at h
      cases h
      exact hn _ _ _ rfl
    have tx : ∀ H', Ch a H H' → TX H H' := fun H' c => c.tx n0
    have lx : xs.length = pic.houses.length := by rw [hx.len, List.length_map]
    refine ⟨_, rfl, pa, _, 0, .ref b, rfl, rfl, SqT.of (tx _ c3 _ _ hpa), rfl, b, rfl, ⟨xs, SqT.of (tx _ c3 _ _ hbx)⟩, ?_⟩
    refine for_fold (as := pic.houses) (lx ▸ walk_tup (K := K) (a := b) (xs := xs)) (fun a h => addThings a h.things) [] (fun acc σ H' => ∃ v2 v3 v4 v5 v6 kvs, σ = [some (.ref a), some (.ref pa), v2, v3, v4, v5, v6] ∧ Ch a H H' ∧ H' a = some (.ins C dx [("looked", .ref pa), ("fields", .ref d)]) ∧ H' d = some (.dT kvs) ∧ KVs H' dFlds kvs acc)
      ⟨none, none, none, none, none, [], rfl, c3, ho3, hd3, .nil⟩ (fun _ σ H' ⟨_, _, _, _, _, _, _, e, _⟩ => SqT.of (tx _ e _ _ hbx)) ?_ ?_
    · rintro i hs x acc σ _ H1 hi hacc ⟨v2, v3, v4, v5, v6, kvs, rfl, e1, ho1, hd1, hk1⟩ ⟨rfl, hx1⟩
      obtain ⟨y, hy, dy⟩ := hx.get (i := i) (d := dHouse hs) (by rw [List.getElem?_map, hi]; rfl)
      rw [hx1] at hy
      cases hy
      obtain ⟨c, u1, u2, rfl, hc, g1, g2⟩ := Dt.t2 (dy.go (tx _ e1))
      obtain ⟨c2, ts, rfl, hc2, hts⟩ := g2.tupE
      have hm : hs ∈ pic.houses := List.mem_of_getElem? hi
      refine ⟨c, _, rfl, SqT.of hc, rfl, u1, _, rfl, .ref c2, _, rfl, rfl, ?_⟩
      refine ⟨_, rfl, c2, rfl, ⟨ts, SqT.of hc2⟩, ?_⟩
      have hl2 : ts.length = hs.things.length := by rw [hts.len, List.length_map]
      have bnd : acc.length ≤ 320 := by
        have q := fieldsF_len (pic.houses.take i) [] fun x hx => hb.ths x (List.mem_of_mem_take hx)
        rw [← hacc, List.length_nil, List.length_take] at q
        have := hb.hs
        omega
      refine for_fold (as := hs.things) (hl2 ▸ walk_tup (K := K) (a := c2) (xs := ts)) (fun a t => aput a t.name t.flds) acc (fun acc' σ H' => ∃ v4 v5 v6 kvs, σ = [some (.ref a), some (.ref pa), some u1, some (.ref c2), v4, v5, v6] ∧ Ch a H H' ∧ H' a = some (.ins C dx [("looked", .ref pa), ("fields", .ref d)]) ∧ TX H1 H' ∧ H' d = some (.dT kvs) ∧ KVs H' dFlds kvs acc')
        ⟨_, _, _, kvs, rfl, e1, ho1, TX.refl _, hd1, hk1⟩ (fun _ σ H' ⟨_, _, _, _, _, _, _, t, _⟩ => SqT.of (t _ _ hc2)) ?_ ?_
      · rintro j th x acc' σ _ H2 hj hacc' ⟨v4, v5, v6, kvs', rfl, e2, ho2, t2, hd2, hk2⟩ ⟨rfl, hx2⟩
        obtain ⟨y, hy, dy⟩ := hts.get (i := j) (d := dThing th) (by rw [List.getElem?_map, hj]; rfl)
        rw [hx2] at hy
        cases hy
        obtain ⟨q, w1, w2, w3, rfl, hq, k1, k2, k3⟩ := Dt.t3 (dy.go t2)
        obtain ⟨n, rfl, hn⟩ := k1.nm
        refine ⟨q, _, rfl, SqT.of hq, rfl, .ref n, _, rfl, w2, _, rfl, w3, _, rfl, rfl, ?_⟩
        have bnd2 : acc'.length ≤ 360 := by
          have q := addThings_len (hs.things.take j) acc
          rw [show addThings acc (hs.things.take j) = acc' from hacc'.symm, List.length_take] at q
          have := hb.ths hs hm
          omega
        have lk : kvs'.length ≤ 100000 := by rw [hk2.len]; omega
        refine ⟨_, rfl, _, rfl, a, C, dx, _, .ref d, rfl, ho2, c'.cls, c'.nf, rfl, _, rfl, d, _, rfl, dput_of hd2 hn _ lk, ?_⟩
        have t3 : TX H2 (upd H2 d (.dT (putK kvs' (nkey th.name) w3))) := TX.updD hd2
        exact ⟨_, _, _, _, rfl, fun x o n h => by rw [upd_ne (ne_of_none h hd0)]; exact e2 x o n h, by rw [upd_ne nad]; exact ho2, t2.trans t3, upd_same, (hk2.put _ k3).go t3⟩
      · rintro σ H2 ⟨v4, v5, v6, kvs', rfl, e2, ho2, t2, hd2, hk2⟩
        exact ⟨_, _, _, _, _, kvs', rfl, e2, ho2, hd2, hk2⟩
    · rintro σ H' ⟨v2, v3, v4, v5, v6, kvs, rfl, e1, ho1, hd1, hk1⟩
      exact k H' d kvs e1 ho1 hd0 hd1 hk1
def spLookM (C : Addr) : Sp := fun vs H Q _ => ∃ a x pic n, vs = [.ref a, x] ∧ RwO C H a pic ∧ Dt H x (dN n) ∧ n ∈ keys (fieldsF pic) ∧ Q .non H
theorem sc_sRingWay_look_for : FnScope ["self", "name"] ["self", "name"] (defScope sRingWay_look_for) := ⟨rfl, rfl, rfl, by decide +kernel, rfl, by decide +kernel, by decide +kernel⟩
theorem ok_look_m (F : FnP K "look_for" "RingWay.look_for" sRingWay_look_for f fd) (c' : RwC K C) : FnOk P w K mg base CX0 1 f fd ["self", "name"] (spLookM C) := by
  refine F.ok sc_sRingWay_look_for (fun vs H Q E h => ?_) (fun cdv A outer s H vs Q E hr h => ?_)
  · obtain ⟨a, x, pic, n, rfl, _⟩ := h
    rfl
  · obtain ⟨a, x, pic, n, rfl, hobj, hx, hn, k⟩ := h
    have hu := hu_of hr
    refine ⟨_, PSs.nox (pss_one (ps_if (pt_cmp (pc_dnotin hu (pv 1) (pe_fld (pv 0) rfl)))
          (pss_one ps_never)
          pss_nil)), ?_⟩
    obtain ⟨dx, p, d, ho, hp, hd⟩ := hobj.ex
    obtain ⟨b, rfl, hb⟩ := hx.nm
    obtain ⟨o, hg, hs⟩ := hd.has hb
    refine ⟨_, rfl, _, rfl, a, C, dx, _, .ref d, rfl, ho, c'.cls, c'.nf, rfl, d, o, rfl, hg, _, rfl, ?_⟩
    rw [hs, decide_eq_true hn]
    exact iteF k
/-! ### come_to -/
def spComeTo (C : Addr) : Sp := fun vs H Q _ => ∃ a l pic R, vs = [.ref a, .ref l] ∧ RwO C H a pic ∧ PicOk pic ∧ NmL H l R ∧ (∀ n ∈ R, n ∈ keys (fieldsF pic)) ∧ R.length ≤ 1000 ∧
  ∀ m H' kms ks, H m = none → Ex H H' → H' m = some (.dT kms) → KNs kms ks → ks.Nodup → (∀ n, n ∈ ks ↔ Rch (chl (fieldsF pic)) R n) → Q (.ref m) H'
theorem sc_sRingWay_come_to : FnScope ["self", "names", "found", "waiting", "name", "other"] ["self", "names"] (defScope sRingWay_come_to) := ⟨rfl, rfl, rfl, by decide +kernel, rfl, by decide +kernel, by decide +kernel⟩
theorem ok_come_to (F : FnP K "come_to" "RingWay.come_to" sRingWay_come_to f fd) (B : Bl mg) (c' : RwC K C) : FnOk P w K mg base CX0 1 f fd ["self", "names"] (spComeTo C) := by
  refine F.ok sc_sRingWay_come_to (fun vs H Q E h => ?_) (fun cdv A outer s H vs Q E hr h => ?_)
  · obtain ⟨a, l, pic, R, rfl, _⟩ := h
    rfl
  · obtain ⟨a, l, pic, R, rfl, hobj, ok, hl, hR, hR2, k⟩ := h
    have hu := hu_of hr
    have hu64 := hr.units
    have g := ok.g
    refine ⟨_, PSs.nox (pss_cons (ps_set (i := 2) sc_sRingWay_come_to.nd rfl (Or.inl rfl) pe_dnewT)
          (pss_cons (ps_set (i := 3) sc_sRingWay_come_to.nd rfl (Or.inl rfl) (pe_callTy call_list_of (by rfl) B.list (by decide +kernel) (pa_cons (pv 1) pa_nil)))
          (pss_cons (ps_while PassesOwn.never (pt_cmpR op_gt (pe_callB call_len_seq (by rfl) B.len (by decide +kernel) (pa_cons (pv 3) pa_nil)) pe_int (nomark _))
          (pss_cons (ps_set (i := 4) sc_sRingWay_come_to.nd rfl (Or.inl rfl) (pe_bm0 PySem.F.plainAttrs_list PySem.F.slot_list_pop PySem.F.type_list_pop mt_pop (pv 3)))
          (pss_one (ps_if (pt_cmp (pc_dnotin hu (pv 4) (pv 2)))
          (pss_cons (ps_dput hu (pv 2) (pv 4) pe_bl rfl)
          (pss_one (ps_expr (pe_bm PySem.F.plainAttrs_list PySem.F.slot_list_extend PySem.F.type_list_extend mt_extend (pv 3) (pa_cons (pe_lc (own := [("other", 5)]) (g := gName 5) rfl sc_sRingWay_come_to.nd (pi_tup (pe_dget hu (pe_fld (pv 0) rfl) (pv 4) (fun _ _ => rfl))) (blkOk_by (N := ["self", "names", "found", "waiting", "name", "other"]) (sc := defScope sRingWay_come_to) (by decide +kernel)) (fun _ _ _ _ _ => (pg_name (i := 5) sc_sRingWay_come_to.nd rfl (Or.inl rfl))) (fun _ _ _ _ _ => (pts_one (pt_cmpR op_notN (pv 5) pe_non (nomark _)))) (fun _ _ _ _ _ => (pv 5))) pa_nil)))))
          pss_nil))))
          (pss_one (ps_ret (pv 2)))))), ?_⟩
    intro md hmd
    have e1 : Ex H (upd H md (.dT [])) := Ex.new hmd
    obtain ⟨xs, hx1, hx2, hx3⟩ := hl.len
    refine ⟨_, rfl, l, xs, rfl, .inl (SqL.of (e1 _ _ hx1)), fun wl hwl => ?_⟩
    have e2 : Ex H (upd (upd H md (.dT [])) wl (.lst xs)) := e1.trans (Ex.new hwl)
    have hmw : md ≠ wl := ne_of_none upd_same hwl
    refine ⟨fun m σ H' => ∃ met wt kms ys v4 v5, σ = [some (.ref a), some (.ref l), some (.ref md), some (.ref wl), v4, v5] ∧ Ex H H' ∧ H' md = some (.dT kms) ∧ KNs kms met ∧ H' wl = some (.lst ys) ∧ DtAll H' ys (wt.map dN) ∧
      Dfs (chl (fieldsF pic)) (keys (fieldsF pic)) R [] met wt ∧ m = 5 * unmet (keys (fieldsF pic)) met + wt.length ∧ m ≤ 3000, ⟨5 * unmet (keys (fieldsF pic)) [] + R.length, [], R, [], xs, none, none, rfl, e2, by rw [upd_ne hmw]; exact upd_same, rfl, upd_same, hx2.go e2.tx,
      Dfs.init hR (fun _ h => by cases h) List.nodup_nil (fun _ h => by cases h), rfl, ?_⟩, ?_⟩
    · have := unmet_le (keys (fieldsF pic)) []
      have := g.klen
      omega
    · rintro m σ H2 ⟨met, wt, kms, ys, v4, v5, rfl, e5, hm2, hk1, hw2, hy2, df, rfl, hm⟩
      have lw := hy2.len
      rw [List.length_map] at lw
      refine ⟨_, rfl, wl, ys, rfl, .inl (SqL.of hw2), _, _, rfl, rfl, _, rfl, ?_⟩
      rcases List.eq_nil_or_concat wt with rfl | ⟨wt, n, rfl⟩
      · have : ys = [] := List.eq_nil_of_length_eq_zero (by rw [lw]; rfl)
        subst this
        refine iteF ⟨_, rfl, k md H2 kms met hmd e5 hm2 hk1 df.nd fun n => ?_⟩
        rw [df.done n]
        simp
      · rw [List.concat_eq_append] at *
        have ne : decide ((0 : Int) < (ys.length : Nat)) = true := by
          rw [List.length_append, List.length_singleton] at lw
          rw [decide_eq_true_eq]
          omega
        rw [ne]
        refine iteT ⟨fun σ' H' => ∃ met' wt' kms ys v4 v5, σ' = [some (.ref a), some (.ref l), some (.ref md), some (.ref wl), v4, v5] ∧ Ex H H' ∧ H' md = some (.dT kms) ∧ KNs kms met' ∧ H' wl = some (.lst ys) ∧ DtAll H' ys (wt'.map dN) ∧
          Dfs (chl (fieldsF pic)) (keys (fieldsF pic)) R [] met' wt' ∧ 5 * unmet (keys (fieldsF pic)) met' + wt'.length < 5 * unmet (keys (fieldsF pic)) met + (wt ++ [n]).length, fun σ' H' ⟨a1, a2, a3, a4, a5, a6, b1, b2, b3, b4, b5, b6, b7, b8⟩ => ⟨_, b8, a1, a2, a3, a4, a5, a6, b1, b2, b3, b4, b5, b6, b7, rfl, Nat.le_of_lt (Nat.lt_of_lt_of_le b8 hm)⟩, ?_⟩
        rw [List.map_append] at hy2
        obtain ⟨ys, y, rfl, hy3, dn⟩ := hy2.snocE
        have hn : n ∈ keys (fieldsF pic) := df.ws n (List.mem_append_right _ List.mem_cons_self)
        refine ⟨_, rfl, .inl ⟨rfl, _, SqL.of hw2⟩, popped hw2 ?_⟩
        have t3 : TX H2 (upd H2 wl (.lst ys)) := TX.updL hw2
        have e6 : Ex H (upd H2 wl (.lst ys)) := e5.mut (e1.back hwl)
        have hm3 : (upd H2 wl (.lst ys)) md = some (.dT kms) := by rw [upd_ne hmw]; exact hm2
        have hw3 : (upd H2 wl (.lst ys)) wl = some (.lst ys) := upd_same
        have hy4 := hy3.go t3
        have dn4 := dn.go t3
        generalize upd H2 wl (.lst ys) = H3 at t3 e6 hm3 hw3 hy4 dn4
        obtain ⟨b, rfl, ha⟩ := dn4.nm
        refine ⟨_, rfl, _, rfl, md, _, rfl, dget_of (.inl hm3) ha, _, rfl, ?_⟩
        rw [hk1.isS n]
        by_cases hmt : n ∈ met
        · rw [decide_eq_true hmt]
          refine iteF ⟨met, wt, kms, ys, _, _, rfl, e6, hm3, hk1, hw3, hy4, df.skip hmt, ?_⟩
          rw [List.length_append, List.length_singleton]
          omega
        · rw [decide_eq_false hmt]
          obtain ⟨fs, hfs⟩ := aget_some hn
          have lm : kms.length ≤ 400 := by
            rw [hk1.len]
            exact Nat.le_trans (List.Nodup.length_le_of_subset df.nd df.ms) g.klen
          refine iteT ⟨_, rfl, _, rfl, md, _, rfl, dput_of hm3 ha _ (by omega), ?_⟩
          have t4 : TX H3 (upd H3 md (.dT (putK kms (nkey n) (.bl true)))) := TX.updD hm3
          have e7 : Ex H (upd H3 md (.dT (putK kms (nkey n) (.bl true)))) := e6.mut hmd
          have hm4 : (upd H3 md (.dT (putK kms (nkey n) (.bl true)))) md = some (.dT (putK kms (nkey n) (.bl true))) := upd_same
          have hw4 : (upd H3 md (.dT (putK kms (nkey n) (.bl true)))) wl = some (.lst ys) := by rw [upd_ne hmw.symm]; exact hw3
          have hy5 := hy4.go t4
          have ha4 := t4 _ _ ha
          generalize upd H3 md (.dT (putK kms (nkey n) (.bl true))) = H4 at t4 e7 hm4 hw4 hy5 ha4
          obtain ⟨dx, p, d, ho, hp, hd⟩ := (hobj.go e7).ex
          obtain ⟨v, hv1, hv2⟩ := hd.get ha4 hfs
          obtain ⟨c, zs, rfl, hc, hzs⟩ := Dt.tupE hv2
          refine ⟨_, rfl, .inl ⟨rfl, _, SqL.of hw4⟩, _, rfl, a, C, dx, _, .ref d, rfl, ho, c'.cls, c'.nf, rfl, _, rfl, d, .ref c, rfl, hv1, c, rfl, ⟨zs, SqT.of hc⟩, fun D hD => ?_⟩
          have lz : zs.length = fs.length := by rw [hzs.len, List.length_map]
          have lf := g.fls n fs hfs
          refine lc_data (as := fs) (H1 := H4) (lz ▸ walk_tup (K := K) (a := c) (xs := zs)) (fun o x H => Dt H x (dO o)) (·.isSome) dO (by omega) hD ?_ (fun H' e => SqT.of (e _ _ hc)) ?_ ?_ ?_ ?_
          · exact fun _ => rfl
          · rintro j o x H2 H3 hj e ⟨rfl, hx3⟩
            obtain ⟨y, hy, dy⟩ := hzs.get (i := j) (d := dO o) (by rw [List.getElem?_map, hj]; rfl)
            rw [hx3] at hy
            cases hy
            exact ⟨rfl, dy.go e.tx⟩
          · intro o x H2 _ _ im R r
            exact ⟨_, rfl, rfl, _, rfl, by rw [isnt_none im]; exact r⟩
          · intro o x H2 _ _ _ im R r
            exact ⟨_, rfl, r _ _ (Ex.refl _) im⟩
          · intro zs2 H6 e9 hD6 hz6
            rw [comp_chl hfs] at hz6
            have hw6 := e9 _ _ hw4
            have l1 := hy5.len
            have l2 := hz6.len
            rw [List.length_map] at l1 l2
            have l3 := chl_len g n
            have l4 : wt.length ≤ 3000 := by
              rw [List.length_append] at hm
              omega
            refine ⟨wl, D, ys, zs2, rfl, rfl, hw6, hD6, le16 (by omega), ?_⟩
            have t7 : TX H6 (upd H6 wl (.lst (ys ++ zs2))) := TX.updL hw6
            refine ⟨met ++ [n], wt ++ chl (fieldsF pic) n, _, _, _, _, rfl, (e7.trans e9).mut (e1.back hwl), by rw [upd_ne hmw]; exact e9 _ _ hm4, hk1.put hmt _, upd_same, ?_, df.more hmt g.chlS fun m => List.mem_append, ?_⟩
            · rw [List.map_append]
              exact ((hy5.go e9.tx).append hz6).go t7
            · have := unmet_less hn hmt
              rw [List.length_append, List.length_append, List.length_singleton]
              omega
end
end HF
set_option Elab.async false
set_option linter.all false
set_option maxRecDepth 100000
set_option maxHeartbeats 4000000
namespace HF
open PySem PySem.Spec PyProof.Rows L2
section
variable {P : Program} {w : World} {K : PySem.W.Frag} {mg : Str → Option Value} {base : Heap} {f : Addr} {fd : FuncData} {C : Addr}
def spStartsM (C : Addr) : Sp := fun vs H Q _ => ∃ a pic, vs = [.ref a] ∧ RwO C H a pic ∧ PicB pic ∧ ∀ l H' xs, H l = none → Ex H H' → H' l = some (.lst xs) → DtAll H' xs ((startsF pic).map dSN) → Q (.ref l) H'
theorem sc_sRingWay_starts : FnScope ["self", "found", "house", "hands", "things", "place", "name", "number", "letter"] ["self"] (defScope sRingWay_starts) := ⟨rfl, rfl, rfl, by decide +kernel, rfl, by decide +kernel, by decide +kernel⟩
theorem ok_starts_m (F : FnP K "starts" "RingWay.starts" sRingWay_starts f fd) (B : Bl mg) (c' : RwC K C) : FnOk P w K mg base CX0 1 f fd ["self"] (spStartsM C) := by
  refine F.ok sc_sRingWay_starts (fun vs H Q E h => ?_) (fun cdv A outer s H vs Q E hr h => ?_)
  · obtain ⟨o, pic, rfl, _⟩ := h
    rfl
  · obtain ⟨o, pic, rfl, hobj, hb, k⟩ := h
    have hu := hu_of hr
    refine ⟨_, PSs.nox (pss_cons (ps_set (i := 1) sc_sRingWay_starts.nd rfl (Or.inl rfl) (pe_lst pa_nil))
          (pss_cons (ps_for PassesOwn.never rfl (pi_enT (by rfl) B.enumerate (pa_cons (pe_ix ix_tup (pe_fld (pv 0) rfl) pe_int (fun _ _ => rfl)) pa_nil)) (pg_tup rfl (pgs_cons (pg_name (i := 2) sc_sRingWay_starts.nd rfl (Or.inl rfl)) (pgs_cons (pg_tup rfl (pgs_cons (pg_name (i := 3) sc_sRingWay_starts.nd rfl (Or.inl rfl)) (pgs_cons (pg_name (i := 4) sc_sRingWay_starts.nd rfl (Or.inl rfl)) pgs_nil))) pgs_nil)))
          (pss_one (ps_for PassesOwn.never rfl (pi_enT (by rfl) B.enumerate (pa_cons (pv 3) pa_nil)) (pg_tup rfl (pgs_cons (pg_name (i := 5) sc_sRingWay_starts.nd rfl (Or.inl rfl)) (pgs_cons (pg_name (i := 6) sc_sRingWay_starts.nd rfl (Or.inl rfl)) pgs_nil)))
          (pss_one (ps_if (pt_cmpR op_notN (pv 6) pe_non (nomark _))
          (pss_one (ps_expr (pe_bm PySem.F.plainAttrs_list PySem.F.slot_list_append PySem.F.type_list_append mt_append (pv 1) (pa_cons (pe_tup (pa_cons (pe_tup (pa_cons pe_str (pa_cons (pv 2) (pa_cons (pv 5) pa_nil)))) (pa_cons (pv 6) pa_nil))) pa_nil))))
          pss_nil)))))
          (pss_cons (ps_for PassesOwn.never rfl (pi_enT (by rfl) B.enumerate (pa_cons (pe_ix ix_tup (pe_fld (pv 0) rfl) pe_int (fun _ _ => rfl)) pa_nil)) (pg_tup rfl (pgs_cons (pg_name (i := 7) sc_sRingWay_starts.nd rfl (Or.inl rfl)) (pgs_cons (pg_name (i := 8) sc_sRingWay_starts.nd rfl (Or.inl rfl)) pgs_nil)))
          (pss_one (ps_for PassesOwn.never rfl (pi_enT (by rfl) B.enumerate (pa_cons (pe_ix ix_tup (pv 8) pe_int (fun _ _ => rfl)) pa_nil)) (pg_tup rfl (pgs_cons (pg_name (i := 5) sc_sRingWay_starts.nd rfl (Or.inl rfl)) (pgs_cons (pg_name (i := 6) sc_sRingWay_starts.nd rfl (Or.inl rfl)) pgs_nil)))
          (pss_one (ps_expr (pe_bm PySem.F.plainAttrs_list PySem.F.slot_list_append PySem.F.type_list_append mt_append (pv 1) (pa_cons (pe_tup (pa_cons (pe_tup (pa_cons pe_str (pa_cons (pv 7) (pa_cons (pv 5) pa_nil)))) (pa_cons (pv 6) pa_nil))) pa_nil)))))))
          (pss_one (ps_ret (pv 1)))))), ?_⟩
    refine ⟨le16 (by show 0 ≤ 100000; decide), fun l hl => ?_⟩
    obtain ⟨dx, p0, d0, ho, hv, hd0⟩ := hobj.ex
    obtain ⟨a, v1, v2, rfl, ha, h1, h2⟩ := Dt.t2 hv
    obtain ⟨b, xs, rfl, hbx, hx⟩ := h1.tupE
    obtain ⟨b2, xs2, rfl, hbx2, hx2⟩ := h2.tupE
    have e0 : Ex H (upd H l (.lst [])) := Ex.new hl
    have lx : xs.length = pic.houses.length := by rw [hx.len, List.length_map]
    have lx2 : xs2.length = pic.letters.length := by rw [hx2.len, List.length_map]
    refine ⟨_, rfl, o, C, dx, _, .ref a, rfl, e0 _ _ ho, c'.cls, c'.nl, rfl, a, _, 0, .ref b, rfl, rfl, SqT.of (e0 _ _ ha), rfl, b, xs, rfl, e0 _ _ hbx, ?_⟩
    refine for_en (as := pic.houses) (walk_enT (a := b) (xs := xs)) lx (fun a h => a ++ houseSt h) [] (fun acc σ H' => ∃ v2 v3 v4 v5 v6 v7 v8 ys, σ = [some (.ref o), some (.ref l), v2, v3, v4, v5, v6, v7, v8] ∧ Ex H H' ∧ H' l = some (.lst ys) ∧ DtAll H' ys (acc.map dSN))
      ⟨none, none, none, none, none, none, none, [], rfl, e0, upd_same, .nil⟩ (fun _ σ H' ⟨_, _, _, _, _, _, _, _, _, e, _⟩ => e _ _ hbx) ?_ ?_
    · rintro i hs x T acc σ H1 hi hxi hacc ⟨v2, v3, v4, v5, v6, v7, v8, ys, rfl, e1, hl1, hy1⟩ hT
      obtain ⟨y, hy, dy⟩ := hx.get (i := i) (d := dHouse hs) (by rw [List.getElem?_map, hi]; rfl)
      rw [hxi] at hy
      cases hy
      have e2 : Ex H1 (upd H1 T (.tup [.int (i : Nat), x])) := Ex.new hT
      have e3 := e1.trans e2
      have hl2 := e2 _ _ hl1
      have hy2 := hy1.go e2.tx
      obtain ⟨c, u1, u2, rfl, hc, g1, g2⟩ := Dt.t2 (dy.go e3.tx)
      refine ⟨T, _, rfl, SqT.of upd_same, rfl, _, _, rfl, _, _, rfl, c, _, rfl, SqT.of hc, rfl, _, _, rfl, _, _, rfl, rfl, rfl, ?_⟩
      generalize upd H1 T (.tup [.int (i : Nat), .ref c]) = H2 at e2 e3 hl2 hy2 hc g1 g2
      obtain ⟨c1, zs, rfl, hc1, hzs⟩ := g1.tupE
      have lz : zs.length = hs.hands.length := by rw [hzs.len, List.length_map]
      refine ⟨_, rfl, c1, zs, rfl, hc1, ?_⟩
      have bh := hb.hns hs (List.mem_of_getElem? hi)
      have ba : acc.length ≤ 80 := by
        rw [hacc, app_fold_id]
        exact takeH hb i
      refine for_en (as := hs.hands) (walk_enT (a := c1) (xs := zs)) lz (fun a h => a ++ hStarts i h) acc (fun acc σ H' => ∃ v5 v6 v7 v8 ys, σ = [some (.ref o), some (.ref l), some (.int (i : Nat)), some (.ref c1), some u2, v5, v6, v7, v8] ∧ Ex H H' ∧ TX H2 H' ∧ H' l = some (.lst ys) ∧ DtAll H' ys (acc.map dSN))
        ⟨_, _, _, _, ys, rfl, e3, TX.refl _, hl2, hy2⟩ (fun _ σ H' ⟨_, _, _, _, _, _, _, t, _⟩ => t _ _ hc1) ?_ ?_
      · rintro j on x T acc2 σ H3 hj hxj hacc2 ⟨v5, v6, v7, v8, ys, rfl, e4, t4, hl3, hy3⟩ hT
        obtain ⟨y, hy, dy⟩ := hzs.get (i := j) (d := dO on) (by rw [List.getElem?_map, hj]; rfl)
        rw [hxj] at hy
        cases hy
        refine ⟨T, _, rfl, SqT.of upd_same, rfl, _, _, rfl, _, _, rfl, rfl, ?_⟩
        have e5 : Ex H3 (upd H3 T (.tup [.int (j : Nat), x])) := Ex.new hT
        have e6 := e4.trans e5
        have t6 := t4.trans e5.tx
        have hl4 := e5 _ _ hl3
        have hy4 := hy3.go e5.tx
        have dy4 := dy.go t6
        generalize upd H3 T (.tup [.int (j : Nat), x]) = H4 at e5 e6 t6 hl4 hy4 dy4
        refine ⟨_, rfl, rfl, _, rfl, ?_⟩
        rw [isnt_none dy4]
        cases on with
        | none =>
          refine iteF ⟨_, _, _, _, ys, rfl, e6, t6, hl4, ?_⟩
          show DtAll H4 ys ((acc2 ++ []).map dSN)
          rw [List.append_nil]
          exact hy4
        | some n =>
          have ba2 : acc2.length ≤ 100 := by
            rw [hacc2, app_fold, List.length_append]
            have h1 := take_flat_len (hStarts i) hs.hands.zipIdx j
            have h2 := flat_len (hStarts i) 1 hs.hands.zipIdx fun y _ => hStarts_len _ _
            rw [List.length_zipIdx] at h2
            omega
          have ly := hy4.len
          rw [List.length_map] at ly
          refine iteT ⟨_, rfl, .inl ⟨rfl, _, SqL.of hl4⟩, _, rfl, _, rfl, le16 (by show 3 ≤ 100000; decide), fun q hq => ⟨_, rfl, le16 (by show 2 ≤ 100000; decide), fun q2 hq2 => ?_⟩⟩
          have e7 : Ex H4 (upd (upd H4 q (.tup [.str "hand", .int (i : Nat), .int (j : Nat)])) q2 (.tup [.ref q, x])) := (Ex.new hq).trans (Ex.new hq2)
          have dq : Dt (upd (upd H4 q (.tup [.str "hand", .int (i : Nat), .int (j : Nat)])) q2 (.tup [.ref q, x])) (.ref q2) (dSN (.hand i j, n)) :=
            .tup upd_same (.cons (.tup (Ex.new hq2 _ _ upd_same) (.cons (.str _) (.cons (.int _) (.cons (.int _) .nil)))) (.cons (dy4.go e7.tx) .nil))
          refine ⟨l, ys, _, rfl, rfl, e7 _ _ hl4, lt16 (by omega), ?_⟩
          have t8 : TX _ (upd (upd (upd H4 q (.tup [.str "hand", .int (i : Nat), .int (j : Nat)])) q2 (.tup [.ref q, x])) l (.lst (ys ++ [.ref q2]))) := TX.updL (e7 _ _ hl4)
          refine ⟨_, _, _, _, _, rfl, (e6.trans e7).mut hl, (t6.trans e7.tx).trans t8, upd_same, ?_⟩
          show DtAll _ _ ((acc2 ++ [(Start.hand i j, n)]).map dSN)
          rw [List.map_append]
          exact ((hy4.go e7.tx).snoc dq).go t8
      · rintro σ H3 ⟨v5, v6, v7, v8, ys, rfl, e4, t4, hl3, hy3⟩
        rw [app_fold] at hy3
        exact ⟨_, _, _, _, _, _, _, ys, rfl, e4, hl3, hy3⟩
    · rintro σ H1 ⟨v2, v3, v4, v5, v6, v7, v8, ys, rfl, e1, hl1, hy1⟩
      rw [app_fold_id] at hy1
      refine ⟨_, rfl, o, C, dx, _, .ref a, rfl, e1 _ _ ho, c'.cls, c'.nl, rfl, a, _, 1, .ref b2, rfl, rfl, SqT.of (e1 _ _ ha), rfl, b2, xs2, rfl, e1 _ _ hbx2, ?_⟩
      refine for_en (as := pic.letters) (walk_enT (a := b2) (xs := xs2)) lx2 (fun a h => a ++ letterSt h) _ (fun acc σ H' => ∃ v2 v3 v4 v5 v6 v7 v8 ys, σ = [some (.ref o), some (.ref l), v2, v3, v4, v5, v6, v7, v8] ∧ Ex H H' ∧ H' l = some (.lst ys) ∧ DtAll H' ys (acc.map dSN))
        ⟨_, _, _, _, _, _, _, ys, rfl, e1, hl1, hy1⟩ (fun _ σ H' ⟨_, _, _, _, _, _, _, _, _, e, _⟩ => e _ _ hbx2) ?_ ?_
      · rintro i lt x T acc σ H1 hi hxi hacc ⟨v2, v3, v4, v5, v6, v7, v8, ys, rfl, e1, hl1, hy1⟩ hT
        obtain ⟨y, hy, dy⟩ := hx2.get (i := i) (d := dLetter lt) (by rw [List.getElem?_map, hi]; rfl)
        rw [hxi] at hy
        cases hy
        refine ⟨T, _, rfl, SqT.of upd_same, rfl, _, _, rfl, _, _, rfl, rfl, ?_⟩
        have e2 : Ex H1 (upd H1 T (.tup [.int (i : Nat), x])) := Ex.new hT
        have e3 := e1.trans e2
        have hl2 := e2 _ _ hl1
        have hy2 := hy1.go e2.tx
        have dy2 := dy.go e3.tx
        generalize upd H1 T (.tup [.int (i : Nat), x]) = H2 at e2 e3 hl2 hy2 dy2
        obtain ⟨c, u1, u2, u3, rfl, hc, g1, g2, g3⟩ := Dt.t3 dy2
        obtain ⟨c1, zs, rfl, hc1, hzs⟩ := Dt.tupE (ds := lt.names.map dN) g3
        have lz : zs.length = lt.names.length := by rw [hzs.len, List.length_map]
        refine ⟨_, rfl, c, _, 2, _, rfl, rfl, SqT.of hc, rfl, c1, zs, rfl, hc1, ?_⟩
        have bh := hb.lns lt (List.mem_of_getElem? hi)
        have ba : acc.length ≤ 180 := by
          rw [hacc, app_fold, List.length_append]
          have h1 := takeH hb pic.houses.zipIdx.length
          rw [List.take_length] at h1
          have h2 := takeL hb i
          omega
        refine for_en (as := lt.names) (walk_enT (a := c1) (xs := zs)) lz (fun a h => a ++ lStarts i h) acc (fun acc σ H' => ∃ v2 v3 v4 v5 v6 ys, σ = [some (.ref o), some (.ref l), v2, v3, v4, v5, v6, some (.int (i : Nat)), some (.ref c)] ∧ Ex H H' ∧ TX H2 H' ∧ H' l = some (.lst ys) ∧ DtAll H' ys (acc.map dSN))
          ⟨_, _, _, _, _, ys, rfl, e3, TX.refl _, hl2, hy2⟩ (fun _ σ H' ⟨_, _, _, _, _, _, _, _, t, _⟩ => t _ _ hc1) ?_ ?_
        · rintro j n x T acc2 σ H3 hj hxj hacc2 ⟨v2, v3, v4, v5, v6, ys, rfl, e4, t4, hl3, hy3⟩ hT
          obtain ⟨y, hy, dy⟩ := hzs.get (i := j) (d := dN n) (by rw [List.getElem?_map, hj]; rfl)
          rw [hxj] at hy
          cases hy
          refine ⟨T, _, rfl, SqT.of upd_same, rfl, _, _, rfl, _, _, rfl, rfl, ?_⟩
          have e5 : Ex H3 (upd H3 T (.tup [.int (j : Nat), x])) := Ex.new hT
          have e6 := e4.trans e5
          have t6 := t4.trans e5.tx
          have hl4 := e5 _ _ hl3
          have hy4 := hy3.go e5.tx
          have dy4 := dy.go t6
          generalize upd H3 T (.tup [.int (j : Nat), x]) = H4 at e5 e6 t6 hl4 hy4 dy4
          have ba2 : acc2.length ≤ 200 := by
            rw [hacc2, app_fold, List.length_append]
            have h1 := take_flat_len (lStarts i) lt.names.zipIdx j
            have h2 := flat_len (lStarts i) 1 lt.names.zipIdx fun y _ => Nat.le_refl _
            rw [List.length_zipIdx] at h2
            omega
          have ly := hy4.len
          rw [List.length_map] at ly
          refine ⟨_, rfl, .inl ⟨rfl, _, SqL.of hl4⟩, _, rfl, _, rfl, le16 (by show 3 ≤ 100000; decide), fun q hq => ⟨_, rfl, le16 (by show 2 ≤ 100000; decide), fun q2 hq2 => ?_⟩⟩
          have e7 : Ex H4 (upd (upd H4 q (.tup [.str "letter", .int (i : Nat), .int (j : Nat)])) q2 (.tup [.ref q, x])) := (Ex.new hq).trans (Ex.new hq2)
          have dq : Dt (upd (upd H4 q (.tup [.str "letter", .int (i : Nat), .int (j : Nat)])) q2 (.tup [.ref q, x])) (.ref q2) (dSN (.letter i j, n)) :=
            .tup upd_same (.cons (.tup (Ex.new hq2 _ _ upd_same) (.cons (.str _) (.cons (.int _) (.cons (.int _) .nil)))) (.cons (dy4.go e7.tx) .nil))
          refine ⟨l, ys, _, rfl, rfl, e7 _ _ hl4, lt16 (by omega), ?_⟩
          have t8 : TX _ (upd (upd (upd H4 q (.tup [.str "letter", .int (i : Nat), .int (j : Nat)])) q2 (.tup [.ref q, x])) l (.lst (ys ++ [.ref q2]))) := TX.updL (e7 _ _ hl4)
          refine ⟨_, _, _, _, _, _, rfl, (e6.trans e7).mut hl, (t6.trans e7.tx).trans t8, upd_same, ?_⟩
          show DtAll _ _ ((acc2 ++ [(Start.letter i j, n)]).map dSN)
          rw [List.map_append]
          exact ((hy4.go e7.tx).snoc dq).go t8
        · rintro σ H3 ⟨v2, v3, v4, v5, v6, ys, rfl, e4, t4, hl3, hy3⟩
          rw [app_fold] at hy3
          exact ⟨_, _, _, _, _, _, _, ys, rfl, e4, hl3, hy3⟩
      · rintro σ H3 ⟨v2, v3, v4, v5, v6, v7, v8, ys, rfl, e4, hl3, hy3⟩
        rw [app_fold] at hy3
        exact ⟨_, rfl, k l H3 ys hl e4 hl3 hy3⟩
/-! ### cut -/
/-- names in a list, or the keys of a dict -/
def NmsAt (H : Hp) (x : V) (ns : List Nm) : Prop := (∃ l xs, x = .ref l ∧ H l = some (.lst xs) ∧ DtAll H xs (ns.map dN)) ∨ ∃ d kvs, x = .ref d ∧ Rd H d (.dT kvs) ∧ KNs kvs ns
def rSortN : List V → Hp → VK → Prop := fun vs H Q => ∃ x ns, vs = [x] ∧ NmsAt H x ns ∧ ∀ ys p, H p = none → DtAll H ys ((srt dN ns).map dN) → Q (.ref p) (upd H p (.lst ys))
theorem cr_sortN {X : Cx} (hc : X.calm = true) (hu : X.A.units + 64 < cLine) : CallR X (.builtin "sorted") rSortN := by
  intro pins s σ H vs us Q I r h
  obtain ⟨x, ns, rfl, hx, q⟩ := h
  rcases hx with ⟨l, xs, rfl, hl1, hx1⟩ | ⟨d, kvs, rfl, hd, hk⟩
  · exact cr_sortU srtN hu pins s σ H _ us Q I r ⟨l, xs, ns, rfl, hl1, hx1, q⟩
  · exact cr_sortD (key := nkey) srtN hc hu pins s σ H _ us Q I r ⟨d, kvs, ns, rfl, hd, hk, fun b c hc => Dt.of_key b c hc, q⟩
def spCutM (C : Addr) : Sp := fun vs H Q _ => ∃ a x pic ns, vs = [.ref a, x] ∧ RwO C H a pic ∧ PicB pic ∧ NmsAt H x ns ∧ ∀ r H', Ex H H' → Dt H' r (dPaper (.cut (srt dN ns) (lettersL pic))) → Q r H'
theorem sc_sRingWay_cut : FnScope ["self", "names", "letter"] ["self", "names"] (defScope sRingWay_cut) := ⟨rfl, rfl, rfl, by decide +kernel, rfl, by decide +kernel, by decide +kernel⟩
theorem ok_cut_m (F : FnP K "cut" "RingWay.cut" sRingWay_cut f fd) (B : Bl mg) (c' : RwC K C) : FnOk P w K mg base CX0 1 f fd ["self", "names"] (spCutM C) := by
  refine F.ok sc_sRingWay_cut (fun vs H Q E h => ?_) (fun cdv A outer s H vs Q E hr h => ?_)
  · obtain ⟨a, x, pic, ns, rfl, _⟩ := h
    rfl
  · obtain ⟨o, x, pic, ns, rfl, hobj, hb, hx, k⟩ := h
    have hu := hu_of hr
    have hu64 := hr.units
    refine ⟨_, PSs.nox (pss_one (ps_ret (pe_tup (pa_cons pe_str (pa_cons (pe_callTy call_tuple_of (by rfl) B.tuple (by decide +kernel) (pa_cons (pe_callB (cr_sortN rfl hu64) (by rfl) B.sorted (by decide +kernel) (pa_cons (pv 1) pa_nil)) pa_nil)) (pa_cons (pe_callTy call_tuple_of (by rfl) B.tuple (by decide +kernel) (pa_cons (pe_lc (own := [("letter", 2)]) (g := gName 2) (tt := tYes) rfl sc_sRingWay_cut.nd (pi_tup (pe_ix ix_tup (pe_fld (pv 0) rfl) pe_int (fun _ _ => rfl))) (blkOk_by (N := ["self", "names", "letter"]) (sc := defScope sRingWay_cut) (by decide +kernel)) (fun _ _ _ _ _ => (pg_name (i := 2) sc_sRingWay_cut.nd rfl (Or.inl rfl))) (fun _ _ _ _ _ => pts_nil) (fun _ _ _ _ _ => (pe_ix (r := rIxT K) ix_tup (pv 2) pe_int (fun _ _ => rfl)))) pa_nil)) pa_nil)))))), ?_⟩
    refine ⟨_, rfl, _, ns, rfl, hx, fun ys p hp hy => ?_⟩
    refine ⟨p, ys, rfl, .inl ⟨SqL.of upd_same, fun q hq => ?_⟩⟩
    have e1 : Ex H (upd (upd H p (.lst ys)) q (.tup ys)) := (Ex.new hp).trans (Ex.new hq)
    have hq1 : (upd (upd H p (.lst ys)) q (.tup ys)) q = some (.tup ys) := upd_same
    generalize upd (upd H p (.lst ys)) q (.tup ys) = H1 at e1 hq1
    have hy1 := hy.go e1.tx
    obtain ⟨dx, p0, d0, ho, hv, hd0⟩ := (hobj.go e1).ex
    obtain ⟨a, v1, v2, rfl, ha, h1, h2⟩ := Dt.t2 hv
    obtain ⟨b2, xs2, rfl, hbx2, hx2⟩ := h2.tupE
    have lx2 : xs2.length = pic.letters.length := by rw [hx2.len, List.length_map]
    refine ⟨_, rfl, o, C, dx, _, .ref a, rfl, ho, c'.cls, c'.nl, rfl, a, _, 1, .ref b2, rfl, rfl, SqT.of ha, rfl, b2, rfl, ⟨xs2, SqT.of hbx2⟩, fun D hD => ?_⟩
    have bl := hb.ls
    refine lc_data (as := pic.letters) (H1 := H1) (lx2 ▸ walk_tup (K := K) (a := b2) (xs := xs2)) (fun l x H => Dt H x (dLetter l)) (fun _ => true) (fun l => dNs l.names) (by omega) hD ?_ (fun H' e => SqT.of (e _ _ hbx2)) ?_ ?_ ?_ ?_
    · exact fun _ => rfl
    · rintro j lt x H2 H3 hj e ⟨rfl, hx3⟩
      obtain ⟨y, hy, dy⟩ := hx2.get (i := j) (d := dLetter lt) (by rw [List.getElem?_map, hj]; rfl)
      rw [hx3] at hy
      cases hy
      exact ⟨rfl, dy.go e.tx⟩
    · intro o x H2 _ _ im R r
      exact r
    · intro lt x H2 _ _ _ im R r
      obtain ⟨c, u1, u2, u3, rfl, hc, g1, g2, g3⟩ := Dt.t3 im
      exact ⟨_, rfl, c, _, 2, u3, rfl, rfl, SqT.of hc, rfl, r _ _ (Ex.refl _) g3⟩
    · intro zs H2 e2 hD2 hz2
      rw [show (pic.letters.filter fun _ => true).map (fun l => dNs l.names) = (lettersL pic).map dNs by
        unfold lettersL
        rw [List.map_map, List.filter_eq_self.mpr fun _ _ => rfl]
        rfl] at hz2
      refine ⟨D, zs, rfl, .inl ⟨SqL.of hD2, fun q2 hq2 => ⟨le16 (by show 3 ≤ 100000; decide), fun q3 hq3 => ?_⟩⟩⟩
      have e3 : Ex H2 (upd (upd H2 q2 (.tup zs)) q3 (.tup [.str "cut", .ref q, .ref q2])) := (Ex.new hq2).trans (Ex.new hq3)
      exact k _ _ ((e1.trans e2).trans e3) (.tup upd_same (.cons (.str _) (.cons (.tup (e3 _ _ (e2 _ _ hq1)) (hy1.go (e2.trans e3).tx)) (.cons (.tup (Ex.new hq3 _ _ upd_same) (hz2.go e3.tx)) .nil))))
end
end HF
set_option Elab.async false
set_option linter.all false
set_option maxRecDepth 100000
set_option maxHeartbeats 4000000
namespace HF
open PySem PySem.Spec PyProof.Rows L2
/-! ### Trial -/
/-- each field of t that has one of some names -/
def outF (ks : List Nm) (t : Nm) (x : Option Nm × Nat) : List (Start × Nm) := match x.1 with
  | none => []
  | some m => if m ∈ ks then [(.field t x.2, m)] else []
def outT (F : List (Nm × Flds)) (ks : List Nm) (t : Nm) : List (Start × Nm) := if t ∈ ks then [] else ((aget F t).getD []).zipIdx.flatMap (outF ks t)
def outsideF (p : Pic) (ks : List Nm) : List (Start × Nm) := (startsF p).filter (fun s => decide (s.2 ∈ ks)) ++ (srt dN (keys (fieldsF p))).flatMap (outT (fieldsF p) ks)
theorem outF_len (ks : List Nm) (t : Nm) (x : Option Nm × Nat) : (outF ks t x).length ≤ 1 := by
  unfold outF
  split
  · exact Nat.zero_le _
  · split <;> simp
theorem outT_len {F : List (Nm × Flds)} (g : GrB F) (ks : List Nm) (t : Nm) : (outT F ks t).length ≤ 4 := by
  unfold outT
  split
  · exact Nat.zero_le _
  · have h1 := flat_len (outF ks t) 1 ((aget F t).getD []).zipIdx fun y _ => outF_len ks t y
    rw [List.length_zipIdx] at h1
    have h2 : ((aget F t).getD []).length ≤ 4 := by
      cases h : aget F t with
      | none => simp
      | some fs => exact g.fls _ fs h
    omega
theorem outside_len {p : Pic} (ok : PicOk p) (ks : List Nm) : (outsideF p ks).length ≤ 400 := by
  have h1 := startsF_len ok.b
  have h2 := List.length_filter_le (fun s : Start × Nm => decide (s.2 ∈ ks)) (startsF p)
  have h3 := flat_len (outT (fieldsF p) ks) 4 (srt dN (keys (fieldsF p))) fun t _ => outT_len ok.g ks t
  have h4 := ok.g.k40
  rw [(srt_perm _).length_eq] at h3
  unfold outsideF
  rw [List.length_append]
  omega
section
variable {P : Program} {w : World} {K : PySem.W.Frag} {mg : Str → Option Value} {base : Heap} {f : Addr} {fd : FuncData} {C : Addr}
structure MOut (P : Program) (w : World) (K : PySem.W.Frag) (mg : Str → Option Value) (base : Heap) (C : Addr) : Prop where
  cls : Cls K C
  starts : CalM P w K mg base C "starts" ["self"] 1 (spStartsM C)
def spOutside (C : Addr) : Sp := fun vs H Q _ => ∃ a m pic kms ks, vs = [.ref a, .ref m] ∧ RwO C H a pic ∧ PicOk pic ∧ Rd H m (.dT kms) ∧ KNs kms ks ∧ (∀ n ∈ ks, n ∈ keys (fieldsF pic)) ∧
  ∀ l H' xs, H l = none → Ex H H' → H' l = some (.lst xs) → DtAll H' xs ((outsideF pic ks).map dSN) → Q (.ref l) H'
theorem sc_sTrial_from_outside : FnScope ["self", "names", "found", "thing", "field", "name", "start"] ["self", "names"] (defScope sTrial_from_outside) := ⟨rfl, rfl, rfl, by decide +kernel, rfl, by decide +kernel, by decide +kernel⟩
theorem ok_from_outside (F : FnP K "from_outside" "Trial.from_outside" sTrial_from_outside f fd) (B : Bl mg) (M : MOut P w K mg base C) (c' : RwC K C) : FnOk P w K mg base CX0 2 f fd ["self", "names"] (spOutside C) := by
  refine F.ok sc_sTrial_from_outside (fun vs H Q E h => ?_) (fun cdv A outer s H vs Q E hr h => ?_)
  · obtain ⟨a, m, pic, kms, ks, rfl, _⟩ := h
    rfl
  · obtain ⟨a, m, pic, kms, ks, rfl, hobj, ok, hm, hkm, hks, k⟩ := h
    have hu := hu_of hr
    have hu64 := hr.units
    have hu65 : (A.deeper (envOfC "Trial.from_outside" (defScope sTrial_from_outside) s.heap.objs.size f cdv)).units + 65 < cLine := by
      have := hr.un
      omega
    refine ⟨_, PSs.nox (pss_cons (ps_setLc (i := 2) (own := [("start", 6), ("name", 5)]) (g := gTup K 2 (gCons (gName 6) (gCons (gName 5) gNil))) rfl sc_sTrial_from_outside.nd rfl rfl (sw_true rfl rfl rfl (by decide +kernel)) (pi_list (pe_calM0 M.starts (hr.mono (by decide)) pass0 M.cls (pv 0))) (blkOk_by (N := ["self", "names", "found", "thing", "field", "name", "start"]) (sc := defScope sTrial_from_outside) (by decide +kernel)) (fun _ _ _ _ _ => (pg_tup rfl (pgs_cons (pg_name (i := 6) sc_sTrial_from_outside.nd rfl (Or.inl rfl)) (pgs_cons (pg_name (i := 5) sc_sTrial_from_outside.nd rfl (Or.inl rfl)) pgs_nil)))) (fun _ _ _ _ _ => (pts_one (pt_cmp (pc_inU hu (pv 5) (pv 1))))) (fun _ _ _ _ _ => (pe_tup (pa_cons (pv 6) (pa_cons (pv 5) pa_nil)))))
          (pss_cons (ps_for PassesOwn.never rfl (pi_list (pe_callB (cr_sortN rfl hu64) (by rfl) B.sorted (by decide +kernel) (pa_cons (pe_fld (pv 0) rfl) pa_nil))) (pg_name (i := 3) sc_sTrial_from_outside.nd rfl (Or.inl rfl))
          (pss_one (ps_if (pt_cmp (pc_dnotin hu (pv 3) (pv 1)))
          (pss_one (ps_for PassesOwn.never rfl (pi_enT (by rfl) B.enumerate (pa_cons (pe_dget hu (pe_fld (pv 0) rfl) (pv 3) (fun _ _ => rfl)) pa_nil)) (pg_tup rfl (pgs_cons (pg_name (i := 4) sc_sTrial_from_outside.nd rfl (Or.inl rfl)) (pgs_cons (pg_name (i := 5) sc_sTrial_from_outside.nd rfl (Or.inl rfl)) pgs_nil)))
          (pss_one (ps_if (pt_cmp (pc_inU hu (pv 5) (pv 1)))
          (pss_one (ps_expr (pe_bm PySem.F.plainAttrs_list PySem.F.slot_list_append PySem.F.type_list_append mt_append (pv 2) (pa_cons (pe_tup (pa_cons (pe_tup (pa_cons pe_str (pa_cons (pv 3) (pa_cons (pv 4) pa_nil)))) (pa_cons (pv 5) pa_nil))) pa_nil))))
          pss_nil))))
          pss_nil)))
          (pss_one (ps_ret (pv 2))))), ?_⟩
    obtain ⟨dx, p, d, ho, hp, hd⟩ := hobj.ex
    refine ⟨_, rfl, a, dx, _, rfl, ho, rfl, a, pic, rfl, hobj, ok.b, fun l0 H1 xs hl0 e1 hl1 hx1 => ?_⟩
    refine ⟨l0, rfl, ⟨xs, SqL.of hl1⟩, fun D hD => ?_⟩
    have bs := startsF_len ok.b
    have lx : xs.length = (startsF pic).length := by rw [hx1.len, List.length_map]
    have hm1 := exRd e1 hm
    refine lc_gen (as := startsF pic) (H1 := H1) (lx ▸ walk_list (K := K) (a := l0) (xs := xs)) (fun s x H => Dt H x (dSN s)) (fun s σ H => ∃ u v, σ = [some (.ref a), some (.ref m), none, none, none, some v, some u] ∧ Dt H u (dStart s.1) ∧ Dt H v (dN s.2)) (fun s => decide (s.2 ∈ ks)) dSN (by omega) hD (fun H' e => SqL.of (e _ _ hl1)) ?_ ?_ ?_ ?_ ?_
    · rintro j s x H2 H3 hj e ⟨rfl, hx3⟩
      obtain ⟨y, hy, dy⟩ := hx1.get (i := j) (d := dSN s) (by rw [List.getElem?_map, hj]; rfl)
      rw [hx3] at hy
      cases hy
      exact ⟨Ex.refl _, dy.go e.tx⟩
    · intro s x H2 _ e im R r
      obtain ⟨c, u, v, rfl, hc, h1, h2⟩ := Dt.t2 im
      exact ⟨c, _, rfl, SqT.of hc, rfl, _, _, rfl, _, _, rfl, rfl, r _ rfl ⟨u, v, rfl, h1, h2⟩⟩
    · rintro s σ2 H2 _ e ⟨u, v, rfl, h1, h2⟩ R r
      obtain ⟨b, rfl, hb⟩ := h2.nm
      refine ⟨_, rfl, _, rfl, .inl ⟨m, _, rfl, dget_of (exRd e hm1) hb, _, rfl, ?_⟩⟩
      rw [hkm.isS]
      exact r
    · rintro s σ2 H2 _ _ e ⟨u, v, rfl, h1, h2⟩ R r
      refine ⟨_, rfl, _, rfl, le16 (by show 2 ≤ 100000; decide), fun q hq => r _ _ (Ex.new hq) ?_⟩
      exact .tup upd_same (.cons (h1.go (TX.updN hq)) (.cons (h2.go (TX.updN hq)) .nil))
    · intro zs H2 e2 hD2 hz2
      have e12 := e1.trans e2
      have hD0 : H D = none := e1.back hD
      have ho2 := e12 _ _ ho
      have bs2 := List.length_filter_le (fun s : Start × Nm => decide (s.2 ∈ ks)) (startsF pic)
      obtain ⟨dkvs, hdr, hdk⟩ := hd.ex
      refine ⟨_, rfl, a, C, dx, _, .ref d, rfl, ho2, c'.cls, c'.nf, rfl, _, keys (fieldsF pic), rfl, .inr ⟨d, dkvs, rfl, exRd e12 hdr, hdk.ks⟩, fun ys p2 hp2 hy => ?_⟩
      have e3 : Ex H2 (upd H2 p2 (.lst ys)) := Ex.new hp2
      have hp3 : (upd H2 p2 (.lst ys)) p2 = some (.lst ys) := upd_same
      generalize upd H2 p2 (.lst ys) = H3 at e3 hp3
      have e13 := e12.trans e3
      have ly : ys.length = (srt dN (keys (fieldsF pic))).length := by rw [hy.len, List.length_map]
      have lk : (srt dN (keys (fieldsF pic))).length ≤ 40 := by
        rw [(srt_perm _).length_eq]
        exact ok.g.k40
      have nDp : D ≠ p2 := ne_of_none hD2 hp2
      refine ⟨p2, rfl, ⟨ys, SqL.of hp3⟩, ?_⟩
      refine for_fold (as := srt dN (keys (fieldsF pic))) (ly ▸ walk_list (K := K) (a := p2) (xs := ys)) (fun acc t => acc ++ outT (fieldsF pic) ks t) ((startsF pic).filter (fun s => decide (s.2 ∈ ks))) (fun acc σ H' => ∃ v3 v4 v5 v6 zs, σ = [some (.ref a), some (.ref m), some (.ref D), v3, v4, v5, v6] ∧ Ch D H3 H' ∧ TX H3 H' ∧ H' D = some (.lst zs) ∧ DtAll H' zs (acc.map dSN))
        ⟨_, _, _, _, zs, rfl, Ch.refl, TX.refl _, e3 _ _ hD2, hz2.go e3.tx⟩ (fun _ σ H' ⟨_, _, _, _, _, _, c, _⟩ => SqL.of (c _ _ nDp.symm hp3)) ?_ ?_
      · rintro i t x acc σ _ H4 hi hacc ⟨v3, v4, v5, v6, zs, rfl, c4, t4, hD4, hz4⟩ ⟨rfl, hxi⟩
        obtain ⟨y, hyi, dy⟩ := (hy.go (e3.tx.trans t4)).get (i := i) (d := dN t) (by rw [List.getElem?_map, hi]; rfl)
        rw [hxi] at hyi
        cases hyi
        obtain ⟨tb, rfl, htb⟩ := dy.nm
        have ht : t ∈ keys (fieldsF pic) := srt_mem.mp (List.mem_of_getElem? hi)
        have e4 : Ex H H4 := e13.ch hD0 c4
        refine ⟨_, rfl, _, rfl, m, _, rfl, dget_of (exRd e4 hm) htb, _, rfl, ?_⟩
        rw [hkm.isS t]
        by_cases htk : t ∈ ks
        · rw [decide_eq_true htk]
          have es : outT (fieldsF pic) ks t = [] := by unfold outT; rw [if_pos htk]
          rw [es, List.append_nil]
          exact iteF ⟨_, _, _, _, zs, rfl, c4, t4, hD4, hz4⟩
        rw [decide_eq_false htk]
        have la : acc.length ≤ 400 := by
          rw [hacc, app_fold, List.length_append]
          have h3 := flat_len (outT (fieldsF pic) ks) 4 ((srt dN (keys (fieldsF pic))).take i) fun t _ => outT_len ok.g ks t
          rw [List.length_take] at h3
          omega
        obtain ⟨fs, hfs⟩ := aget_some ht
        have es : outT (fieldsF pic) ks t = fs.zipIdx.flatMap (outF ks t) := by unfold outT; rw [if_neg htk, hfs]; rfl
        rw [es]
        obtain ⟨fv, hfv, dfv⟩ := (hd.go e4).get htb hfs
        obtain ⟨fa, ws, rfl, hfa, hws⟩ := Dt.tupE dfv
        have lw : ws.length = fs.length := by rw [hws.len, List.length_map]
        have lf := ok.g.fls t fs hfs
        refine iteT ⟨_, rfl, a, C, dx, _, .ref d, rfl, e4 _ _ ho, c'.cls, c'.nf, rfl, _, rfl, d, .ref fa, rfl, hfv, fa, ws, rfl, hfa, ?_⟩
        refine for_en (as := fs) (walk_enT (a := fa) (xs := ws)) lw (fun acc x => acc ++ outF ks t x) acc (fun acc σ H' => ∃ v4 v5 v6 zs, σ = [some (.ref a), some (.ref m), some (.ref D), some (.ref tb), v4, v5, v6] ∧ Ch D H3 H' ∧ TX H4 H' ∧ H' D = some (.lst zs) ∧ DtAll H' zs (acc.map dSN))
          ⟨_, _, _, zs, rfl, c4, TX.refl _, hD4, hz4⟩ (fun _ σ H' ⟨_, _, _, _, _, _, t, _⟩ => t _ _ hfa) ?_ ?_
        · rintro j o x T acc2 σ H5 hj hxj hacc2 ⟨v4, v5, v6, zs, rfl, c5, t5, hD5, hz5⟩ hT
          obtain ⟨y, hyj, dy⟩ := hws.get (i := j) (d := dO o) (by rw [List.getElem?_map, hj]; rfl)
          rw [hxj] at hyj
          cases hyj
          refine ⟨T, _, rfl, SqT.of upd_same, rfl, _, _, rfl, _, _, rfl, rfl, ?_⟩
          have e6 : Ex H5 (upd H5 T (.tup [.int (j : Nat), x])) := Ex.new hT
          have c6 := c5.trans e6.toCh
          have t6 := t5.trans e6.tx
          have hD6 := e6 _ _ hD5
          have hz6 := hz5.go e6.tx
          have dy6 := dy.go t6
          generalize upd H5 T (.tup [.int (j : Nat), x]) = H6 at e6 c6 t6 hD6 hz6 dy6
          have e06 : Ex H H6 := e13.ch hD0 c6
          have la2 : acc2.length ≤ 500 := by
            rw [hacc2, app_fold, List.length_append]
            have h1 := take_flat_len (outF ks t) fs.zipIdx j
            have h2 := flat_len (outF ks t) 1 fs.zipIdx fun y _ => outF_len ks t y
            rw [List.length_zipIdx] at h2
            omega
          have lz := hz6.len
          rw [List.length_map] at lz
          cases o with
          | none =>
            cases dy6.noneE
            have es : outF ks t ((none : Option Nm), j) = [] := rfl
            refine ⟨_, rfl, _, rfl, .inr ⟨m, kms, ks, rfl, rfl, exRd e06 hm, hkm, fun n hn => ok.g.sm n (hks n hn), _, rfl, iteF ?_⟩⟩
            rw [es, List.append_nil]
            exact ⟨_, _, _, zs, rfl, c6, t6, hD6, hz6⟩
          | some n =>
            obtain ⟨nb, rfl, hnb⟩ := Dt.nm dy6
            refine ⟨_, rfl, _, rfl, .inl ⟨m, _, rfl, dget_of (exRd e06 hm) hnb, _, rfl, ?_⟩⟩
            rw [hkm.isS n]
            by_cases hn : n ∈ ks
            · rw [decide_eq_true hn]
              have es : outF ks t (some n, j) = [(.field t j, n)] := by unfold outF; simp [hn]
              rw [es]
              refine iteT ⟨_, rfl, .inl ⟨rfl, _, SqL.of hD6⟩, _, rfl, _, rfl, le16 (by show 3 ≤ 100000; decide), fun q hq => ⟨_, rfl, le16 (by show 2 ≤ 100000; decide), fun q2 hq2 => ?_⟩⟩
              have e7 : Ex H6 (upd (upd H6 q (.tup [.str "field", .ref tb, .int (j : Nat)])) q2 (.tup [.ref q, .ref nb])) := (Ex.new hq).trans (Ex.new hq2)
              have dt7 := (Dt.of_key t tb htb).go (t6.trans e7.tx)
              have dq : Dt (upd (upd H6 q (.tup [.str "field", .ref tb, .int (j : Nat)])) q2 (.tup [.ref q, .ref nb])) (.ref q2) (dSN (.field t j, n)) :=
                .tup upd_same (.cons (.tup (Ex.new hq2 _ _ upd_same) (.cons (.str _) (.cons dt7 (.cons (.int _) .nil)))) (.cons (dy6.go e7.tx) .nil))
              refine ⟨D, zs, _, rfl, rfl, e7 _ _ hD6, lt16 (by omega), ?_⟩
              have t8 : TX _ (upd (upd (upd H6 q (.tup [.str "field", .ref tb, .int (j : Nat)])) q2 (.tup [.ref q, .ref nb])) D (.lst (zs ++ [.ref q2]))) := TX.updL (e7 _ _ hD6)
              refine ⟨_, _, _, _, rfl, (c6.trans e7.toCh).trans Ch.up, (t6.trans e7.tx).trans t8, upd_same, ?_⟩
              rw [List.map_append]
              exact ((hz6.go e7.tx).snoc dq).go t8
            · rw [decide_eq_false hn]
              have es : outF ks t (some n, j) = [] := by unfold outF; simp [hn]
              rw [es, List.append_nil]
              exact iteF ⟨_, _, _, zs, rfl, c6, t6, hD6, hz6⟩
        · rintro σ H5 ⟨v4, v5, v6, zs, rfl, c5, t5, hD5, hz5⟩
          rw [app_fold] at hz5
          exact ⟨_, _, _, _, zs, rfl, c5, t4.trans t5, hD5, hz5⟩
      · rintro σ H4 ⟨v3, v4, v5, v6, zs, rfl, c4, t4, hD4, hz4⟩
        rw [app_fold] at hz4
        exact ⟨_, rfl, k D H4 zs hD0 (e13.ch hD0 c4) hD4 hz4⟩
end
end HF
set_option Elab.async false
set_option linter.all false
set_option maxRecDepth 100000
set_option maxHeartbeats 4000000
namespace HF
open PySem PySem.Spec PyProof.Rows L2
section
variable {P : Program} {w : World} {K : PySem.W.Frag} {mg : Str → Option Value} {base : Heap} {f : Addr} {fd : FuncData} {C : Addr}
def spPointed (C : Addr) : Sp := fun vs H Q _ => ∃ a x m l pic kms ks xs S name, vs = [.ref a, x, .ref m, .ref l] ∧ RwO C H a pic ∧ PicOk pic ∧ Dt H x (dN name) ∧ Rd H m (.dT kms) ∧ KNs kms ks ∧ (∀ n ∈ ks, n ∈ keys (fieldsF pic)) ∧ (∀ a ∈ ks, ∀ b ∈ chl (fieldsF pic) a, b ∈ ks) ∧
  H l = some (.lst xs) ∧ DtAll H xs (S.map dSN) ∧ S.length ≤ 1000 ∧ (∀ s ∈ S, s.2 ∈ ks) ∧ Rch (chl (fieldsF pic)) (S.map (·.2)) name ∧ ∀ r H', Ex H H' → Dt H' r (pointedD (fieldsF pic) S ks name) → Q r H'
theorem sc_sTrial_pointed : FnScope ["self", "name", "names", "outside", "ways", "waiting", "start", "one", "steps", "field", "other"] ["self", "name", "names", "outside"] (defScope sTrial_pointed) := ⟨rfl, rfl, rfl, by decide +kernel, rfl, by decide +kernel, by decide +kernel⟩
theorem ok_pointed (F : FnP K "pointed" "Trial.pointed" sTrial_pointed f fd) (B : Bl mg) (c' : RwC K C) : FnOk P w K mg base CX0 1 f fd ["self", "name", "names", "outside"] (spPointed C) := by
  refine F.ok sc_sTrial_pointed (fun vs H Q E h => ?_) (fun cdv A outer s H vs Q E hr h => ?_)
  · obtain ⟨a, x, m, l, pic, kms, ks, xs, S, name, rfl, _⟩ := h
    rfl
  · obtain ⟨a, x, m, l, pic, kms, ks, xs, S, name, rfl, hobj, ok, hx, hm, hkm, hks, hcl, hl, hxs, hS, hSk, hrch, k⟩ := h
    have hu := hu_of hr
    have hu64 := hr.units
    refine ⟨_, PSs.nox (pss_cons (ps_set (i := 4) sc_sTrial_pointed.nd rfl (Or.inl rfl) pe_dnewT)
          (pss_cons (ps_set (i := 5) sc_sTrial_pointed.nd rfl (Or.inl rfl) (pe_lst pa_nil))
          (pss_cons (ps_for PassesOwn.never rfl (pi_list (pv 3)) (pg_tup rfl (pgs_cons (pg_name (i := 6) sc_sTrial_pointed.nd rfl (Or.inl rfl)) (pgs_cons (pg_name (i := 7) sc_sTrial_pointed.nd rfl (Or.inl rfl)) pgs_nil)))
          (pss_one (ps_if (pt_cmp (pc_dnotin hu (pv 7) (pv 4)))
          (pss_cons (ps_dput hu (pv 4) (pv 7) (pe_tup (pa_cons (pv 6) (pa_cons (pe_tup pa_nil) pa_nil))) rfl)
          (pss_one (ps_expr (pe_bm PySem.F.plainAttrs_list PySem.F.slot_list_append PySem.F.type_list_append mt_append (pv 5) (pa_cons (pv 7) pa_nil)))))
          pss_nil)))
          (pss_cons (ps_while PassesOwn.never (pt_cmp (pc_dnotin hu (pv 1) (pv 4)))
          (pss_cons (ps_set (i := 7) sc_sTrial_pointed.nd rfl (Or.inl rfl) (pe_bm PySem.F.plainAttrs_list PySem.F.slot_list_pop PySem.F.type_list_pop mt_popAt (pv 5) (pa_cons pe_int pa_nil)))
          (pss_cons (ps_asg (pe_dget hu (pv 4) (pv 7) (fun _ _ => rfl)) (pg_tup rfl (pgs_cons (pg_name (i := 6) sc_sTrial_pointed.nd rfl (Or.inl rfl)) (pgs_cons (pg_name (i := 8) sc_sTrial_pointed.nd rfl (Or.inl rfl)) pgs_nil))))
          (pss_one (ps_for PassesOwn.never rfl (pi_enT (by rfl) B.enumerate (pa_cons (pe_dget hu (pe_fld (pv 0) rfl) (pv 7) (fun _ _ => rfl)) pa_nil)) (pg_tup rfl (pgs_cons (pg_name (i := 9) sc_sTrial_pointed.nd rfl (Or.inl rfl)) (pgs_cons (pg_name (i := 10) sc_sTrial_pointed.nd rfl (Or.inl rfl)) pgs_nil)))
          (pss_one (ps_if (PW.pt (pw_and (pt_cmpR op_notN (pv 10) pe_non (nomark _)) (pw_and1 (pt_cmp (pc_dnotin hu (pv 10) (pv 4))))))
          (pss_cons (ps_dput hu (pv 4) (pv 10) (pe_tup (pa_cons (pv 6) (pa_cons (pe_op op_catU (pv 8) (pe_tup (pa_cons (pe_tup (pa_cons (pv 7) (pa_cons (pv 9) pa_nil))) pa_nil))) pa_nil))) rfl)
          (pss_one (ps_expr (pe_bm PySem.F.plainAttrs_list PySem.F.slot_list_append PySem.F.type_list_append mt_append (pv 5) (pa_cons (pv 10) pa_nil)))))
          pss_nil)))))))
          (pss_cons (ps_asg (pe_dget hu (pv 4) (pv 1) (fun _ _ => rfl)) (pg_tup rfl (pgs_cons (pg_name (i := 6) sc_sTrial_pointed.nd rfl (Or.inl rfl)) (pgs_cons (pg_name (i := 8) sc_sTrial_pointed.nd rfl (Or.inl rfl)) pgs_nil))))
          (pss_one (ps_ret (pe_tup (pa_cons pe_str (pa_cons (pv 1) (pa_cons (pe_callTy call_tuple_of (by rfl) B.tuple (by decide +kernel) (pa_cons (pe_callB (cr_sortN rfl hu64) (by rfl) B.sorted (by decide +kernel) (pa_cons (pv 2) pa_nil)) pa_nil)) (pa_cons (pv 6) (pa_cons (pv 8) pa_nil))))))))))))), ?_⟩
    intro wd hwd
    have e1 : Ex H (upd H wd (.dT [])) := Ex.new hwd
    have hw1 : (upd H wd (.dT [])) wd = some (.dT []) := upd_same
    generalize upd H wd (.dT []) = H1 at e1 hw1
    refine ⟨le16 (by show 0 ≤ 100000; decide), fun wl hwl => ?_⟩
    have e2 : Ex H1 (upd H1 wl (.lst [])) := Ex.new hwl
    have hl2 : (upd H1 wl (.lst [])) wl = some (.lst []) := upd_same
    have hw2 := e2 _ _ hw1
    have ndl : wd ≠ wl := ne_of_none hw1 hwl
    have hwl0 : H wl = none := e1.back hwl
    have e02 := e1.trans e2
    generalize upd H1 wl (.lst []) = H2 at e2 e02 hl2 hw2
    have lx : xs.length = S.length := by rw [hxs.len, List.length_map]
    refine ⟨_, rfl, l, rfl, ⟨xs, SqL.of (e02 _ _ hl)⟩, ?_⟩
    refine for_fold (as := S) (lx ▸ walk_list (K := K) (a := l) (xs := xs)) pFirst (([], []) : PAcc) (fun acc σ H' => ∃ v6 v7 kvs ys, σ = [some (.ref a), some x, some (.ref m), some (.ref l), some (.ref wd), some (.ref wl), v6, v7, none, none, none] ∧ Ex H H' ∧ H' wd = some (.dT kvs) ∧ KVs H' dSW kvs acc.1 ∧ H' wl = some (.lst ys) ∧ DtAll H' ys (acc.2.map dN))
      ⟨none, none, [], [], rfl, e02, hw2, .nil, hl2, .nil⟩ (fun _ σ H' ⟨_, _, _, _, _, e, _⟩ => SqL.of (e _ _ hl)) ?_ ?_
    · rintro i sn z acc σ _ H3 hi hacc ⟨v6, v7, kvs, ys, rfl, e3, hw3, hk3, hl3, hy3⟩ ⟨rfl, hzi⟩
      obtain ⟨y, hyi, dy⟩ := hxs.get (i := i) (d := dSN sn) (by rw [List.getElem?_map, hi]; rfl)
      rw [hzi] at hyi
      cases hyi
      obtain ⟨st, n⟩ := sn
      obtain ⟨c, u1, u2, rfl, hc, g1, g2⟩ := Dt.t2 (dy.go e3.tx)
      obtain ⟨nb, rfl, hnb⟩ := g2.nm
      refine ⟨c, _, rfl, SqT.of hc, rfl, _, _, rfl, _, _, rfl, rfl, ?_⟩
      have lb := fold_len2 pFirst (S.take i) (([], []) : PAcc) fun a acc => pFirst_len acc a
      rw [← hacc, List.length_take] at lb
      have lb1 : acc.1.length ≤ 1000 := by have := lb.1; simp only [List.length_nil] at this; omega
      have lb2 : acc.2.length ≤ 1000 := by have := lb.2; simp only [List.length_nil] at this; omega
      have lk := hk3.len
      have ly := hy3.len
      rw [List.length_map] at ly
      refine ⟨_, rfl, _, rfl, wd, _, rfl, dget_of (.inl hw3) hnb, _, rfl, ?_⟩
      rw [hk3.ks.isS n]
      by_cases hn : n ∈ keys acc.1
      · rw [decide_eq_true hn]
        have es : pFirst acc (st, n) = acc := by unfold pFirst; rw [if_pos hn]
        rw [es]
        exact iteF ⟨_, _, kvs, ys, rfl, e3, hw3, hk3, hl3, hy3⟩
      · rw [decide_eq_false hn]
        have es : pFirst acc (st, n) = (aput acc.1 n (st, []), acc.2 ++ [n]) := by unfold pFirst; rw [if_neg hn]
        rw [es]
        refine iteT ⟨_, rfl, le16 (by show 0 ≤ 100000; decide), fun q hq => ⟨le16 (by show 2 ≤ 100000; decide), fun q2 hq2 => ?_⟩⟩
        have e4 : Ex H3 (upd (upd H3 q (.tup [])) q2 (.tup [u1, .ref q])) := (Ex.new hq).trans (Ex.new hq2)
        have dq : Dt (upd (upd H3 q (.tup [])) q2 (.tup [u1, .ref q])) (.ref q2) (dSW (st, [])) :=
          .tup upd_same (.cons (g1.go e4.tx) (.cons (.tup (Ex.new hq2 _ _ upd_same) .nil) .nil))
        generalize upd (upd H3 q (.tup [])) q2 (.tup [u1, .ref q]) = H4 at e4 dq
        have hw4 := e4 _ _ hw3
        have hnb4 := e4 _ _ hnb
        refine ⟨_, rfl, _, rfl, wd, _, rfl, dput_of hw4 hnb4 _ (by omega), ?_⟩
        have t5 : TX H4 (upd H4 wd (.dT (putK kvs (nkey n) (.ref q2)))) := TX.updD hw4
        have e5 : Ex H (upd H4 wd (.dT (putK kvs (nkey n) (.ref q2)))) := (e3.trans e4).mut hwd
        have hw5 : (upd H4 wd (.dT (putK kvs (nkey n) (.ref q2)))) wd = some (.dT (putK kvs (nkey n) (.ref q2))) := upd_same
        have hl5 : (upd H4 wd (.dT (putK kvs (nkey n) (.ref q2)))) wl = some (.lst ys) := by rw [upd_ne ndl.symm]; exact e4 _ _ hl3
        have hk5 := ((hk3.go e4.tx).put n dq).go t5
        have hy5 := hy3.go (e4.tx.trans t5)
        have g5 := g2.go (e4.tx.trans t5)
        generalize upd H4 wd (.dT (putK kvs (nkey n) (.ref q2))) = H5 at t5 e5 hw5 hl5 hk5 hy5 g5
        refine ⟨_, rfl, .inl ⟨rfl, _, SqL.of hl5⟩, _, rfl, wl, ys, _, rfl, rfl, hl5, lt16 (by omega), ?_⟩
        have t6 : TX H5 (upd H5 wl (.lst (ys ++ [.ref nb]))) := TX.updL hl5
        refine ⟨_, _, _, _, rfl, e5.mut hwl0, by rw [upd_ne ndl]; exact hw5, hk5.go t6, upd_same, ?_⟩
        rw [List.map_append]
        exact (hy5.snoc g5).go t6
    · rintro σ H3 ⟨v6, v7, kvs, ys, rfl, e3, hw3, hk3, hl3, hy3⟩
      have L0 := PtL.init (S := S) (ks := ks) ok.g hks hSk
      have hout := PtL.out (name := name) ok.g hks hcl hrch 200 L0
      generalize hacc : S.foldl pFirst (([], []) : PAcc) = acc at hk3 hy3 L0 hout
      refine ⟨fun j σ H' => ∃ W wt v6 v7 v8 v9 v10 kvs ys, σ = [some (.ref a), some x, some (.ref m), some (.ref l), some (.ref wd), some (.ref wl), v6, v7, v8, v9, v10] ∧ Ex H H' ∧ H' wd = some (.dT kvs) ∧ KVs H' dSW kvs W ∧ H' wl = some (.lst ys) ∧ DtAll H' ys (wt.map dN) ∧
          PtL (fieldsF pic) S ks j W wt ∧ pLoop (fieldsF pic) name j (W, wt) = pLoop (fieldsF pic) name 200 acc, ⟨200, acc.1, acc.2, v6, v7, none, none, none, kvs, ys, rfl, e3, hw3, hk3, hl3, hy3, L0, rfl⟩, ?_⟩
      rintro j σ H4 ⟨W, wt, v6, v7, v8, v9, v10, kvs, ys, rfl, e4, hw4, hk4, hl4, hy4, Lj, hR⟩
      obtain ⟨xb, rfl, hxb⟩ := hx.nm
      have hxb4 := e4 _ _ hxb
      refine ⟨_, rfl, _, rfl, wd, _, rfl, dget_of (.inl hw4) hxb4, _, rfl, ?_⟩
      rw [hk4.ks.isS name]
      by_cases hn : name ∈ keys W
      · rw [decide_eq_true hn]
        have hRW : pLoop (fieldsF pic) name 200 acc = W := by
          rw [← hR]
          cases j with
          | zero => rfl
          | succ j => unfold pLoop; rw [if_pos hn]
        obtain ⟨b, mm, hb, hb1, hb2, hb3⟩ := hout
        rw [hRW] at hb
        obtain ⟨bv, hbv, dbv⟩ := hk4.getS hb
        have hg := dget_of (.inl hw4) hxb4
        rw [hbv] at hg
        obtain ⟨c, u1, u2, rfl, hc, g1, g2⟩ := Dt.t2 dbv
        refine iteF ⟨_, rfl, _, rfl, wd, _, rfl, hg, ?_⟩
        refine ⟨c, _, rfl, SqT.of hc, rfl, _, _, rfl, _, _, rfl, rfl, ?_⟩
        refine ⟨_, rfl, _, rfl, _, ks, rfl, .inr ⟨m, kms, rfl, exRd e4 hm, hkm⟩, fun zs p hp hz => ?_⟩
        refine ⟨p, zs, rfl, .inl ⟨SqL.of upd_same, fun q hq => ?_⟩⟩
        have e5 : Ex H4 (upd (upd H4 p (.lst zs)) q (.tup zs)) := (Ex.new hp).trans (Ex.new hq)
        have hq5 : (upd (upd H4 p (.lst zs)) q (.tup zs)) q = some (.tup zs) := upd_same
        generalize upd (upd H4 p (.lst zs)) q (.tup zs) = H5 at e5 hq5
        refine ⟨_, rfl, _, rfl, le16 (by show 5 ≤ 100000; decide), fun q2 hq2 => ?_⟩
        have e6 : Ex H5 (upd H5 q2 (.tup [.str "pointed", .ref xb, .ref q, u1, u2])) := Ex.new hq2
        refine k _ _ ((e4.trans e5).trans e6) ?_
        unfold pointedD
        rw [hacc, hRW, hb]
        exact .tup upd_same (.cons (.str _) (.cons ((hx.go (e4.trans e5).tx).go e6.tx) (.cons (.tup (e6 _ _ hq5) (hz.go (e5.trans e6).tx)) (.cons (g1.go (e5.trans e6).tx) (.cons (g2.go (e5.trans e6).tx) .nil)))))
      · rw [decide_eq_false hn]
        cases j with
        | zero =>
          have h1 := Lj.waits hrch hn
          have h2 := Lj.few
          exact absurd (List.eq_nil_of_length_eq_zero (by omega)) h1
        | succ j =>
        cases wt with
        | nil => exact absurd rfl (Lj.waits hrch hn)
        | cons one r =>
        have Lj2 := Lj.next ok.g hks hcl
        have hR2 : pLoop (fieldsF pic) name j (pStep (fieldsF pic) W one r) = pLoop (fieldsF pic) name 200 acc := by
          rw [← hR]
          conv => rhs; unfold pLoop
          rw [if_neg hn]
        refine iteT ⟨fun σ' H' => ∃ W wt v6 v7 v8 v9 v10 kvs ys, σ' = [some (.ref a), some (.ref xb), some (.ref m), some (.ref l), some (.ref wd), some (.ref wl), v6, v7, v8, v9, v10] ∧ Ex H H' ∧ H' wd = some (.dT kvs) ∧ KVs H' dSW kvs W ∧ H' wl = some (.lst ys) ∧ DtAll H' ys (wt.map dN) ∧
          PtL (fieldsF pic) S ks j W wt ∧ pLoop (fieldsF pic) name j (W, wt) = pLoop (fieldsF pic) name 200 acc, fun σ' H' h => ⟨j, Nat.lt_succ_self j, h⟩, ?_⟩
        obtain ⟨y, ys, rfl, dn, hy5⟩ := DtAll.consE (d := dN one) (ds := r.map dN) hy4
        refine ⟨_, rfl, .inl ⟨rfl, _, SqL.of hl4⟩, popped0 hl4 ?_⟩
        have t5 : TX H4 (upd H4 wl (.lst ys)) := TX.updL hl4
        have e5 : Ex H (upd H4 wl (.lst ys)) := e4.mut hwl0
        have hw5 : (upd H4 wl (.lst ys)) wd = some (.dT kvs) := by rw [upd_ne ndl]; exact hw4
        have hl5 : (upd H4 wl (.lst ys)) wl = some (.lst ys) := upd_same
        have hk5 := hk4.go t5
        have hy6 := hy5.go t5
        have dn5 := dn.go t5
        generalize upd H4 wl (.lst ys) = H5 at t5 e5 hw5 hl5 hk5 hy6 dn5
        obtain ⟨ob, rfl, hob⟩ := dn5.nm
        have ho : one ∈ keys W := Lj.wsub one List.mem_cons_self
        obtain ⟨b, hb⟩ := aget_some ho
        obtain ⟨fs, hfs⟩ := aget_some (hks one (Lj.sub one ho))
        have es : pStep (fieldsF pic) W one r = fs.zipIdx.foldl (pIn one b) (W, r) := by
          unfold pStep
          rw [hb, hfs]
          rfl
        obtain ⟨bv, hbv, dbv⟩ := hk5.getS hb
        have hg := dget_of (.inl hw5) hob
        rw [hbv] at hg
        have hlenb := Lj.len one b hb
        obtain ⟨st, ss⟩ := b
        obtain ⟨c, u1, u2, rfl, hc, g1, g2⟩ := Dt.t2 dbv
        refine ⟨_, rfl, _, rfl, wd, _, rfl, hg, ?_⟩
        refine ⟨c, _, rfl, SqT.of hc, rfl, _, _, rfl, _, _, rfl, rfl, ?_⟩
        obtain ⟨dx, p, d, hoj, hp, hd⟩ := (hobj.go e5).ex
        obtain ⟨fv, hfv, dfv⟩ := hd.get hob hfs
        obtain ⟨fa, ws, rfl, hfa, hws⟩ := Dt.tupE dfv
        have lw : ws.length = fs.length := by rw [hws.len, List.length_map]
        have lf := ok.g.fls one fs hfs
        have lW : W.length ≤ 40 := by
          have := ok.g.sub40 Lj.nd fun n hn => hks n (Lj.sub n hn)
          rw [List.length_map] at this
          exact this
        have lr : r.length ≤ 300 := by
          have := Lj.few
          have h2 := Lj.len one (st, ss) hb
          rw [List.length_cons] at this
          omega
        refine ⟨_, rfl, a, C, dx, _, .ref d, rfl, hoj, c'.cls, c'.nf, rfl, _, rfl, d, .ref fa, rfl, hfv, fa, ws, rfl, hfa, ?_⟩
        refine for_en (as := fs) (walk_enT (a := fa) (xs := ws)) lw (pIn one (st, ss)) ((W, r) : PAcc) (fun acc2 σ H' => ∃ v9 v10 kvs ys, σ = [some (.ref a), some (.ref xb), some (.ref m), some (.ref l), some (.ref wd), some (.ref wl), some u1, some (.ref ob), some u2, v9, v10] ∧ Ex H H' ∧ TX H5 H' ∧ H' wd = some (.dT kvs) ∧ KVs H' dSW kvs acc2.1 ∧ H' wl = some (.lst ys) ∧ DtAll H' ys (acc2.2.map dN))
          ⟨_, _, kvs, ys, rfl, e5, TX.refl _, hw5, hk5, hl5, hy6⟩ (fun _ σ H' ⟨_, _, _, _, _, _, t, _⟩ => t _ _ hfa) ?_ ?_
        · rintro i o z T acc2 σ H6 hi hzi hacc2 ⟨v9, v10, kvs, ys, rfl, e6, t6, hw6, hk6, hl6, hy6⟩ hT
          obtain ⟨y, hyi, dy⟩ := hws.get (i := i) (d := dO o) (by rw [List.getElem?_map, hi]; rfl)
          rw [hzi] at hyi
          cases hyi
          refine ⟨T, _, rfl, SqT.of upd_same, rfl, _, _, rfl, _, _, rfl, rfl, ?_⟩
          have e7 : Ex H6 (upd H6 T (.tup [.int (i : Nat), z])) := Ex.new hT
          have e07 := e6.trans e7
          have t7 := t6.trans e7.tx
          have hw7 := e7 _ _ hw6
          have hl7 := e7 _ _ hl6
          have hk7 := hk6.go e7.tx
          have hy7 := hy6.go e7.tx
          have dy7 := dy.go t7
          generalize upd H6 T (.tup [.int (i : Nat), z]) = H7 at e7 e07 t7 hw7 hl7 hk7 hy7 dy7
          have lb := fold_len2 (pIn one (st, ss)) (fs.zipIdx.take i) ((W, r) : PAcc) fun a acc => pIn_len one (st, ss) acc a
          rw [← hacc2, List.length_take, List.length_zipIdx] at lb
          have lb1 : acc2.1.length ≤ 1000 := by have := lb.1; simp only at this; omega
          have lb2 : acc2.2.length ≤ 1000 := by have := lb.2; simp only at this; omega
          have lk := hk7.len
          have ly := hy7.len
          rw [List.length_map] at ly
          refine ⟨_, rfl, rfl, _, rfl, ?_⟩
          rw [isnt_none dy7]
          cases o with
          | none => exact iteF ⟨_, _, kvs, ys, rfl, e07, t7, hw7, hk7, hl7, hy7⟩
          | some n =>
            obtain ⟨nb, rfl, hnb⟩ := Dt.nm dy7
            refine iteT ⟨_, rfl, _, rfl, wd, _, rfl, dget_of (.inl hw7) hnb, _, rfl, ?_⟩
            rw [hk7.ks.isS n]
            by_cases hnn : n ∈ keys acc2.1
            · rw [decide_eq_true hnn]
              have es : pIn one (st, ss) acc2 (some n, i) = acc2 := by unfold pIn; simp only; rw [if_pos hnn]
              rw [es]
              exact iteF ⟨_, _, kvs, ys, rfl, e07, t7, hw7, hk7, hl7, hy7⟩
            · rw [decide_eq_false hnn]
              have es : pIn one (st, ss) acc2 (some n, i) = (aput acc2.1 n (st, ss ++ [(one, i)]), acc2.2 ++ [n]) := by unfold pIn; simp only; rw [if_neg hnn]
              rw [es]
              refine iteT ⟨_, rfl, _, rfl, _, rfl, _, rfl, le16 (by show 2 ≤ 100000; decide), fun p1 hp1 => ⟨le16 (by show 1 ≤ 100000; decide), fun p2 hp2 => ?_⟩⟩
              have e8 : Ex H7 (upd (upd H7 p1 (.tup [.ref ob, .int (i : Nat)])) p2 (.tup [.ref p1])) := (Ex.new hp1).trans (Ex.new hp2)
              have d8 : Dt (upd (upd H7 p1 (.tup [.ref ob, .int (i : Nat)])) p2 (.tup [.ref p1])) (.ref p2) (.tuple ([(one, i)].map dStep)) :=
                .tup upd_same (.cons (.tup (Ex.new hp2 _ _ upd_same) (.cons (dn5.go (t7.trans e8.tx)) (.cons (.int _) .nil))) .nil)
              generalize upd (upd H7 p1 (.tup [.ref ob, .int (i : Nat)])) p2 (.tup [.ref p1]) = H8 at e8 d8
              refine rCatU.mk (g2.go (t7.trans e8.tx)) d8 (by rw [List.length_map, List.length_map]; simp only at hlenb; show ss.length + 1 ≤ 100000; omega) fun z H9 e9 dz => ?_
              rw [← List.map_append] at dz
              refine ⟨le16 (by show 2 ≤ 100000; decide), fun p3 hp3 => ?_⟩
              have e10 : Ex H7 (upd H9 p3 (.tup [u1, z])) := (e8.trans e9).trans (Ex.new hp3)
              have d10 : Dt (upd H9 p3 (.tup [u1, z])) (.ref p3) (dSW (st, ss ++ [(one, i)])) := .tup upd_same (.cons (g1.go (t7.trans e10.tx)) (.cons (dz.go (TX.updN hp3)) .nil))
              generalize upd H9 p3 (.tup [u1, z]) = H10 at e10 d10
              have hw10 := e10 _ _ hw7
              have hnb10 := e10 _ _ hnb
              refine ⟨_, rfl, _, rfl, wd, _, rfl, dput_of hw10 hnb10 _ (by omega), ?_⟩
              have t11 : TX H10 (upd H10 wd (.dT (putK kvs (nkey n) (.ref p3)))) := TX.updD hw10
              have e11 : Ex H (upd H10 wd (.dT (putK kvs (nkey n) (.ref p3)))) := (e07.trans e10).mut hwd
              have hw11 : (upd H10 wd (.dT (putK kvs (nkey n) (.ref p3)))) wd = some (.dT (putK kvs (nkey n) (.ref p3))) := upd_same
              have hl11 : (upd H10 wd (.dT (putK kvs (nkey n) (.ref p3)))) wl = some (.lst ys) := by rw [upd_ne ndl.symm]; exact e10 _ _ hl7
              have hk11 := ((hk7.go e10.tx).put n d10).go t11
              have t711 := e10.tx.trans t11
              have hy11 := hy7.go t711
              have dy11 := dy7.go t711
              have t511 := t7.trans t711
              generalize upd H10 wd (.dT (putK kvs (nkey n) (.ref p3))) = H11 at t11 e11 hw11 hl11 hk11 hy11 dy11 t711 t511
              refine ⟨_, rfl, .inl ⟨rfl, _, SqL.of hl11⟩, _, rfl, wl, ys, _, rfl, rfl, hl11, lt16 (by omega), ?_⟩
              have t12 : TX H11 (upd H11 wl (.lst (ys ++ [.ref nb]))) := TX.updL hl11
              refine ⟨_, _, _, _, rfl, e11.mut hwl0, t511.trans t12, by rw [upd_ne ndl]; exact hw11, hk11.go t12, upd_same, ?_⟩
              rw [List.map_append]
              exact (hy11.snoc dy11).go t12
        · rintro σ H6 ⟨v9, v10, kvs, ys, rfl, e6, t6, hw6, hk6, hl6, hy6⟩
          rw [← es] at hk6 hy6
          exact ⟨_, _, _, _, _, _, _, kvs, ys, rfl, e6, hw6, hk6, hl6, hy6, Lj2, hR2⟩
end
end HF
set_option Elab.async false
set_option linter.all false
set_option maxRecDepth 100000
set_option maxHeartbeats 4000000
namespace HF
open PySem PySem.Spec PyProof.Rows L2
theorem outF_congr {ks ks' : List Nm} (h : ∀ n, n ∈ ks ↔ n ∈ ks') (t : Nm) (x : Option Nm × Nat) : outF ks t x = outF ks' t x := by
  unfold outF
  split
  · rfl
  · rename_i m _
    by_cases q : m ∈ ks
    · rw [if_pos q, if_pos ((h m).mp q)]
    · rw [if_neg q, if_neg fun z => q ((h m).mpr z)]
theorem outside_congr (p : Pic) {ks ks' : List Nm} (h : ∀ n, n ∈ ks ↔ n ∈ ks') : outsideF p ks = outsideF p ks' := by
  unfold outsideF
  congr 1
  · apply List.filter_congr
    intro s _
    rw [decide_eq_decide]
    exact h s.2
  · congr 1
    funext t
    unfold outT
    by_cases q : t ∈ ks
    · rw [if_pos q, if_pos ((h t).mp q)]
    · rw [if_neg q, if_neg fun z => q ((h t).mpr z)]
      congr 1
      funext x
      exact outF_congr h t x
theorem srt_self {zs : List Nm} (n2 : zs.Nodup) (p : zs.Pairwise (fun x y => nle x y = true)) : srt dN zs = zs := srt_is n2 n2 p fun _ => Iff.rfl
/-- what one thing leads to, rising -/
noncomputable abbrev ledTo (p : Pic) (n : Nm) : List Nm := cloL (fieldsF p) [n]
noncomputable abbrev outS (p : Pic) (n : Nm) : List (Start × Nm) := outsideF p (ledTo p n)
noncomputable def stayL (p : Pic) (n : Nm) : List Nm := open Classical in (ledTo p n).filter fun m => !decide (Rch (chl (fieldsF p)) ((outS p n).map (·.2)) m)
noncomputable def trialD (p : Pic) (n : Nm) : PyData := open Classical in if Rch (chl (fieldsF p)) ((outS p n).map (·.2)) n then pointedD (fieldsF p) (outS p n) (ledTo p n) n else dPaper (.cut (stayL p n) (lettersL p))
theorem one_keys {p : Pic} {n : Nm} (hn : n ∈ keys (fieldsF p)) : ∀ m ∈ [n], m ∈ keys (fieldsF p) := fun m hm => by rw [List.mem_singleton.mp hm]; exact hn
theorem outside_in {p : Pic} {ks : List Nm} : ∀ s ∈ outsideF p ks, s.2 ∈ ks := fun s hs => by
  unfold outsideF at hs
  rcases List.mem_append.mp hs with q | q
  · exact of_decide_eq_true (List.mem_filter.mp q).2
  · obtain ⟨t, ht, q⟩ := List.mem_flatMap.mp q
    unfold outT at q
    split at q
    · cases q
    · obtain ⟨x, hx, q⟩ := List.mem_flatMap.mp q
      unfold outF at q
      split at q
      · cases q
      · split at q
        · rw [List.mem_singleton.mp q]; assumption
        · cases q
section
variable {P : Program} {w : World} {K : PySem.W.Frag} {mg : Str → Option Value} {base : Heap} {f : Addr} {fd : FuncData} {C : Addr}
structure MTrial (P : Program) (w : World) (K : PySem.W.Frag) (mg : Str → Option Value) (base : Heap) (C : Addr) : Prop where
  cls : Cls K C
  look_for : CalM P w K mg base C "look_for" ["self", "name"] 1 (spLookM C)
  come_to : CalM P w K mg base C "come_to" ["self", "names"] 1 (spComeTo C)
  from_outside : CalM P w K mg base C "from_outside" ["self", "names"] 2 (spOutside C)
  pointed : CalM P w K mg base C "pointed" ["self", "name", "names", "outside"] 1 (spPointed C)
  cut : CalM P w K mg base C "cut" ["self", "names"] 1 (spCutM C)
def spTrial (C : Addr) : Sp := fun vs H Q _ => ∃ a x pic n, vs = [.ref a, x] ∧ RwO C H a pic ∧ PicOk pic ∧ Dt H x (dN n) ∧ n ∈ keys (fieldsF pic) ∧ ∀ r H', Ex H H' → Dt H' r (trialD pic n) → Q r H'
theorem sc_sTrial_seek : FnScope ["self", "name", "names", "outside", "taken", "start", "one"] ["self", "name"] (defScope sTrial_seek) := ⟨rfl, rfl, rfl, by decide +kernel, rfl, by decide +kernel, by decide +kernel⟩
theorem ok_trial_seek (F : FnP K "seek" "Trial.seek" sTrial_seek f fd) (M : MTrial P w K mg base C) : FnOk P w K mg base CX0 3 f fd ["self", "name"] (spTrial C) := by
  refine F.ok sc_sTrial_seek (fun vs H Q E h => ?_) (fun cdv A outer s H vs Q E hr h => ?_)
  · obtain ⟨a, x, pic, n, rfl, _⟩ := h
    rfl
  · obtain ⟨a, x, pic, n, rfl, hobj, ok, hx, hn, k⟩ := h
    have hu := hu_of hr
    refine ⟨_, PSs.nox (pss_cons (ps_expr (pe_calM M.look_for (hr.mono (by decide)) pass0 M.cls (pv 0) (pa_cons (pv 1) pa_nil)))
          (pss_cons (ps_set (i := 2) sc_sTrial_seek.nd rfl (Or.inl rfl) (pe_calM M.come_to (hr.mono (by decide)) pass0 M.cls (pv 0) (pa_cons (pe_lst (pa_cons (pv 1) pa_nil)) pa_nil)))
          (pss_cons (ps_set (i := 3) sc_sTrial_seek.nd rfl (Or.inl rfl) (pe_calM M.from_outside (hr.mono (by decide)) pass0 M.cls (pv 0) (pa_cons (pv 2) pa_nil)))
          (pss_cons (ps_set (i := 4) sc_sTrial_seek.nd rfl (Or.inr rfl) (pe_calM M.come_to (hr.mono (by decide)) pass0 M.cls (pv 0) (pa_cons (pe_lc (own := [("start", 5), ("one", 6)]) (g := gTup K 2 (gCons (gName 5) (gCons (gName 6) gNil))) (tt := tYes) rfl sc_sTrial_seek.nd (pi_list (pv 3)) (blkOk_by (N := ["self", "name", "names", "outside", "taken", "start", "one"]) (sc := defScope sTrial_seek) (by decide +kernel)) (fun _ _ _ _ _ => (pg_tup rfl (pgs_cons (pg_name (i := 5) sc_sTrial_seek.nd rfl (Or.inl rfl)) (pgs_cons (pg_name (i := 6) sc_sTrial_seek.nd rfl (Or.inl rfl)) pgs_nil)))) (fun _ _ _ _ _ => pts_nil) (fun _ _ _ _ _ => (pv 6))) pa_nil)))
          (pss_cons (ps_if (pt_cmp (pc_din hu (pv 1) (pv 4)))
          (pss_one (ps_ret (pe_calM M.pointed (hr.mono (by decide)) pass0 M.cls (pv 0) (pa_cons (pv 1) (pa_cons (pv 2) (pa_cons (pv 3) pa_nil))))))
          pss_nil)
          (pss_one (ps_ret (pe_calM M.cut (hr.mono (by decide)) pass0 M.cls (pv 0) (pa_cons (pe_lock (pe_lc (own := [("one", 6)]) (g := gName 6) rfl sc_sTrial_seek.nd (pi_keys (pv 2)) (blkOk_by (N := ["self", "name", "names", "outside", "taken", "start", "one"]) (sc := defScope sTrial_seek) (by decide +kernel)) (fun _ _ _ _ _ => (pg_name (i := 6) sc_sTrial_seek.nd rfl (Or.inl rfl))) (fun _ _ _ _ _ => (pts_one (pt_cmp (pc_dnotin hu (pv 6) (pv 4))))) (fun _ _ _ _ _ => (pv 6)))) pa_nil))))))))), ?_⟩
    obtain ⟨dx, p, d, ho, hp, hd⟩ := hobj.ex
    refine ⟨_, rfl, a, dx, _, rfl, ho, rfl, _, rfl, a, x, pic, n, rfl, hobj, hx, hn, ?_⟩
    refine ⟨_, rfl, a, dx, _, rfl, ho, rfl, _, rfl, le16 (by show 1 ≤ 100000; decide), fun l1 hl1 => ?_⟩
    have e1 : Ex H (upd H l1 (.lst [x])) := Ex.new hl1
    have hl11 : (upd H l1 (.lst [x])) l1 = some (.lst [x]) := upd_same
    generalize upd H l1 (.lst [x]) = H1 at e1 hl11
    have hx1 := hx.go e1.tx
    have o1 := one_keys hn
    refine ⟨a, l1, pic, [n], rfl, hobj.go e1, ok, ⟨[x], hl11, .cons hx1 .nil⟩, o1, (by show 1 ≤ 1000; decide), fun m H2 kms ks hm e2 hm2 hkm nd hks => ?_⟩
    have e02 := e1.trans e2
    have hkc : ∀ q, q ∈ ks ↔ q ∈ ledTo pic n := fun q => (hks q).trans (mem_cloL ok.g o1).symm
    have hkF : ∀ q ∈ ks, q ∈ keys (fieldsF pic) := fun q hq => ((hks q).mp hq).within o1 ok.g.chlS
    have hkC : ∀ a ∈ ks, ∀ b ∈ chl (fieldsF pic) a, b ∈ ks := fun a ha b hb => (hks b).mpr (.step ((hks a).mp ha) hb)
    have hS : outsideF pic ks = outS pic n := outside_congr pic hkc
    have hsrt : srt dN ks = ledTo pic n := srt_clo ok.g o1 nd hks
    refine ⟨_, rfl, a, dx, _, rfl, e02 _ _ ho, rfl, _, rfl, a, m, pic, kms, ks, rfl, hobj.go e02, ok, .inl hm2, hkm, hkF, fun l2 H3 xs hl2 e3 hl3 hxs => ?_⟩
    rw [hS] at hxs
    have e03 := e02.trans e3
    have hm3 := e3 _ _ hm2
    have lS : (outS pic n).length ≤ 400 := outside_len ok (ledTo pic n)
    have inS : ∀ s ∈ outS pic n, s.2 ∈ ks := fun s hs => (hkc _).mpr (outside_in s hs)
    have lx : xs.length = (outS pic n).length := by rw [hxs.len, List.length_map]
    refine ⟨_, rfl, a, dx, _, rfl, e03 _ _ ho, rfl, _, rfl, l2, rfl, ⟨xs, SqL.of hl3⟩, fun D hD => ?_⟩
    refine lc_gen (as := outS pic n) (H1 := H3) (lx ▸ walk_list (K := K) (a := l2) (xs := xs)) (fun s x H => Dt H x (dSN s)) (fun s σ H => ∃ u v, σ = [some (.ref a), some x, some (.ref m), some (.ref l2), none, some u, some v] ∧ Dt H u (dStart s.1) ∧ Dt H v (dN s.2)) (fun _ => true) (fun s => dN s.2) (by omega) hD (fun H' e => SqL.of (e _ _ hl3)) ?_ ?_ ?_ ?_ ?_
    · rintro j s x H2 H3 hj e ⟨rfl, hx3⟩
      obtain ⟨y, hy, dy⟩ := hxs.get (i := j) (d := dSN s) (by rw [List.getElem?_map, hj]; rfl)
      rw [hx3] at hy
      cases hy
      exact ⟨Ex.refl _, dy.go e.tx⟩
    · intro s x H2 _ e im R r
      obtain ⟨c, u, v, rfl, hc, h1, h2⟩ := Dt.t2 im
      exact ⟨c, _, rfl, SqT.of hc, rfl, _, _, rfl, _, _, rfl, rfl, r _ rfl ⟨u, v, rfl, h1, h2⟩⟩
    · rintro s σ2 H2 _ e _ R r
      exact r
    · rintro s σ2 H2 _ _ e ⟨u, v, rfl, h1, h2⟩ R r
      exact ⟨_, rfl, r _ _ (Ex.refl _) h2⟩
    · intro zs H4 e4 hD4 hz4
      have e34 := e3.trans e4
      have e04 := e03.trans e4
      have hm4 := e4 _ _ hm3
      rw [show ((outS pic n).filter fun _ => true).map (fun s => dN s.2) = ((outS pic n).map (·.2)).map dN by
        rw [List.map_map, List.filter_eq_self.mpr fun _ _ => rfl]
        rfl] at hz4
      have inR : ∀ q ∈ (outS pic n).map (·.2), q ∈ keys (fieldsF pic) := fun q hq => by
        obtain ⟨s, hs, rfl⟩ := List.mem_map.mp hq
        exact hkF _ (inS s hs)
      refine ⟨a, D, pic, (outS pic n).map (·.2), rfl, hobj.go e04, ok, ⟨zs, hD4, hz4⟩, inR, by rw [List.length_map]; omega, fun t H5 kts ts ht e5 ht5 hkt ndt hts => ?_⟩
      have e05 := e04.trans e5
      have hm5 := e5 _ _ hm4
      obtain ⟨nb, rfl, hnb⟩ := hx.nm
      have hnb5 := e05 _ _ hnb
      refine ⟨_, rfl, _, rfl, t, _, rfl, dget_of (.inl ht5) hnb5, _, rfl, ?_⟩
      rw [hkt.isS n]
      unfold trialD at k
      by_cases hr : Rch (chl (fieldsF pic)) ((outS pic n).map (·.2)) n
      · rw [if_pos hr] at k
        rw [decide_eq_true ((hts n).mpr hr)]
        refine iteT ⟨_, rfl, a, dx, _, rfl, e05 _ _ ho, rfl, _, rfl, _, rfl, _, rfl, a, .ref nb, m, l2, pic, kms, ks, xs, outS pic n, n, rfl, hobj.go e05, ok, hx.go e05.tx, .inl hm5, hkm, hkF, hkC, (e4.trans e5) _ _ hl3, hxs.go (e4.trans e5).tx, by omega, inS, hr, fun r H6 e6 dr => ?_⟩
        refine k r H6 (e05.trans e6) ?_
        have : pointedD (fieldsF pic) (outS pic n) ks n = pointedD (fieldsF pic) (outS pic n) (ledTo pic n) n := by
          unfold pointedD
          rw [hsrt, srt_self (cloL_nodup ok.g _) (cloL_up _ _)]
        rw [← this]
        exact dr
      · rw [if_neg hr] at k
        rw [decide_eq_false fun z => hr ((hts n).mp z)]
        refine iteF ⟨_, rfl, a, dx, _, rfl, e05 _ _ ho, rfl, m, .dT kms, hm5, trivial, fun od => ?_⟩
        have c6 : Ch m H5 (upd H5 m (.frz od (.dT kms))) := Ch.up
        have hm6 : (upd H5 m (.frz od (.dT kms))) m = some (.frz od (.dT kms)) := upd_same
        have ntm : t ≠ m := fun z => by rw [← z] at hm4; rw [hm4] at ht; cases ht
        have ht6 := c6 _ _ ntm ht5
        generalize upd H5 m (.frz od (.dT kms)) = H6 at c6 hm6 ht6
        refine ⟨_, rfl, m, od, rfl, .inr ⟨kms, hm6, fun D2 hD2 => ?_⟩⟩
        have lk : kms.length = ks.length := hkm.len
        have lk2 : ks.length ≤ 40 := ok.g.sub40 nd hkF
        refine lc_gen (as := ks) (H1 := H6) (lk ▸ walk_keysT (d := m) (o := od) (kvs := kms)) (fun q x H => ∃ b, x = .ref b ∧ H b = some (.tup ((nkey q).map kV))) (fun q σ H => ∃ b, σ = [some (.ref a), some (.ref nb), some (.ref m), some (.ref l2), some (.ref t), none, some (.ref b)] ∧ H b = some (.tup ((nkey q).map kV))) (fun q => !decide (q ∈ ts)) dN (by omega) hD2 (fun H' e => e _ _ hm6) ?_ ?_ ?_ ?_ ?_
        · rintro j q x H2 H3 hj e ⟨rfl, kk, fv, qa, hkv, rfl, hqa⟩
          have hkk : (kms.map (·.1))[j]? = some kk := by rw [List.getElem?_map, hkv]; rfl
          rw [show kms.map (·.1) = ks.map nkey from hkm, List.getElem?_map, hj] at hkk
          cases hkk
          exact ⟨Ex.refl _, qa, rfl, hqa⟩
        · rintro q x H2 _ e ⟨b, rfl, hb⟩ R r
          exact r _ rfl ⟨b, rfl, hb⟩
        · rintro q σ2 H2 _ e ⟨b, rfl, hb⟩ R r
          refine ⟨_, rfl, _, rfl, t, _, rfl, dget_of (.inl (e _ _ ht6)) hb, _, rfl, ?_⟩
          rw [hkt.isS q]
          exact r
        · rintro q σ2 H2 _ _ e ⟨b, rfl, hb⟩ R r
          exact ⟨_, rfl, r _ _ (Ex.refl _) (Dt.of_key q b hb)⟩
        · intro ys H7 e7 hD7 hy7
          have hm7 := e7 _ _ hm6
          refine ⟨hm7, ?_⟩
          have e8 : Ex H5 (upd H7 m (.dT kms)) := (c6.trans e7.toCh).back hm5
          have nDm : D2 ≠ m := fun z => by rw [z, hm6] at hD2; cases hD2
          have hD8 : (upd H7 m (.dT kms)) D2 = some (.lst ys) := by rw [upd_ne nDm]; exact hD7
          have t8 : TX H7 (upd H7 m (.dT kms)) := TX.up fun xs z => by rw [hm7] at z; cases z
          have e08 := e05.trans e8
          refine ⟨a, .ref D2, pic, ks.filter fun q => !decide (q ∈ ts), rfl, hobj.go e08, ok.b, .inl ⟨D2, ys, rfl, hD8, hy7.go t8⟩, fun r H9 e9 dr => ?_⟩
          have es : srt dN (ks.filter fun q => !decide (q ∈ ts)) = stayL pic n := by
            unfold stayL
            refine srt_is (nd.filter _) ((cloL_nodup ok.g _).filter _) ((cloL_up _ _).filter _) fun q => ?_
            rw [List.mem_filter, List.mem_filter, hkc q]
            refine and_congr_right fun _ => ?_
            by_cases z : q ∈ ts
            · have z2 := (hts q).mp z
              simp [z, z2]
            · have z2 : ¬ Rch (chl (fieldsF pic)) ((outS pic n).map (·.2)) q := fun y => z ((hts q).mpr y)
              simp [z, z2]
          rw [es] at dr
          exact k r H9 (e08.trans e9) dr
end
end HF
set_option Elab.async false
set_option linter.all false
set_option maxRecDepth 100000
set_option maxHeartbeats 4000000
namespace HF
open PySem PySem.Spec PyProof.Rows L2
/-! ### Track -/
def ptIn (t : Nm) (x : Option Nm × Nat) (m : Nm) : Steps := if x.1 = some m then [(t, x.2)] else []
def ptT (F : List (Nm × Flds)) (t : Nm) (m : Nm) : Steps := ((aget F t).getD []).zipIdx.flatMap fun x => ptIn t x m
/-- the things and fields that have a name -/
def pointL (F : List (Nm × Flds)) (m : Nm) : Steps := (srt dN (keys F)).flatMap fun t => ptT F t m
theorem fun_fold {α γ δ : Type} (g : α → δ → List γ) : ∀ (l : List α) (b : δ → List γ) (m : δ), (l.foldl (fun b x => fun m => b m ++ g x m) b) m = b m ++ l.flatMap fun x => g x m
  | [], b, m => by simp
  | x :: r, b, m => by
    rw [List.foldl_cons, fun_fold g r, List.flatMap_cons, List.append_assoc]
theorem snoc_fold {α : Type} (l : List α) : l.foldl (fun b n => b ++ [n]) [] = l := by
  rw [app_fold_id (fun n : α => [n])]
  simp
theorem ptT_len {F : List (Nm × Flds)} (g : GrB F) (t m : Nm) : (ptT F t m).length ≤ 4 := by
  have h1 := flat_len (fun x => ptIn t x m) 1 ((aget F t).getD []).zipIdx fun y _ => by unfold ptIn; split <;> simp
  rw [List.length_zipIdx] at h1
  have h2 : ((aget F t).getD []).length ≤ 4 := by
    cases h : aget F t with
    | none => simp
    | some fs => exact g.fls _ fs h
  unfold ptT
  omega
/-- the lists of things that point, at ad -/
def PLs (H : Hp) (kvs : List (List Key × V)) (ks : List Nm) (ad : Nm → Addr) (L : Nm → Steps) : Prop :=
  kvs = ks.map (fun n => (nkey n, V.ref (ad n))) ∧ ∀ n ∈ ks, ∃ xs, H (ad n) = some (.lst xs) ∧ DtAll H xs ((L n).map dStep)
theorem PLs.go {H H' : Hp} {kvs : List (List Key × V)} {ks : List Nm} {ad : Nm → Addr} {L : Nm → Steps} (h : PLs H kvs ks ad L) (e : Ex H H') : PLs H' kvs ks ad L := by
  refine ⟨h.1, fun n hn => ?_⟩
  obtain ⟨xs, h1, h2⟩ := h.2 n hn
  exact ⟨xs, e _ _ h1, h2.go e.tx⟩
theorem PLs.ks {H : Hp} {kvs : List (List Key × V)} {ks : List Nm} {ad : Nm → Addr} {L : Nm → Steps} (h : PLs H kvs ks ad L) : KNs kvs ks := by
  unfold KNs
  rw [h.1, List.map_map]
  rfl
theorem valV_map_ad {ks : List Nm} {ad : Nm → Addr} {n : Nm} (hn : n ∈ ks) : valV (ks.map fun n => (nkey n, V.ref (ad n))) (nkey n) = some (.ref (ad n)) := by
  induction ks with
  | nil => cases hn
  | cons a r ih =>
    rw [List.map_cons]
    by_cases e : a = n
    · subst e
      exact valV_pos rfl
    · rw [valV_neg fun z => e (nkey_inj z)]
      rcases List.mem_cons.mp hn with z | z
      · exact absurd z.symm e
      · exact ih z
section
variable {P : Program} {w : World} {K : PySem.W.Frag} {mg : Str → Option Value} {base : Heap} {f : Addr} {fd : FuncData} {C : Addr}
def spPointing (C : Addr) : Sp := fun vs H Q _ => ∃ a pic, vs = [.ref a] ∧ RwO C H a pic ∧ PicOk pic ∧ ∀ q H' kvs ad, H q = none → Ex H H' → H' q = some (.dT kvs) → PLs H' kvs (keys (fieldsF pic)) ad (pointL (fieldsF pic)) → Q (.ref q) H'
theorem sc_sTrack_pointing : FnScope ["self", "found", "name", "thing", "field"] ["self"] (defScope sTrack_pointing) := ⟨rfl, rfl, rfl, by decide +kernel, rfl, by decide +kernel, by decide +kernel⟩
theorem ok_pointing (F : FnP K "pointing" "Track.pointing" sTrack_pointing f fd) (B : Bl mg) (c' : RwC K C) : FnOk P w K mg base CX0 1 f fd ["self"] (spPointing C) := by
  refine F.ok sc_sTrack_pointing (fun vs H Q E h => ?_) (fun cdv A outer s H vs Q E hr h => ?_)
  · obtain ⟨a, pic, rfl, _⟩ := h
    rfl
  · obtain ⟨a, pic, rfl, hobj, ok, k⟩ := h
    have hu := hu_of hr
    have hu64 := hr.units
    refine ⟨_, PSs.nox (pss_cons (ps_set (i := 1) sc_sTrack_pointing.nd rfl (Or.inl rfl) pe_dnewT)
          (pss_cons (ps_lock (ps_for PassesOwn.never rfl (pi_keys (pe_fld (pv 0) rfl)) (pg_name (i := 2) sc_sTrack_pointing.nd rfl (Or.inl rfl))
          (pss_one (ps_dput hu (pv 1) (pv 2) (pe_lst pa_nil) rfl))))
          (pss_cons (ps_for PassesOwn.never rfl (pi_list (pe_callB (cr_sortN rfl hu64) (by rfl) B.sorted (by decide +kernel) (pa_cons (pe_fld (pv 0) rfl) pa_nil))) (pg_name (i := 3) sc_sTrack_pointing.nd rfl (Or.inl rfl))
          (pss_one (ps_for PassesOwn.never rfl (pi_enT (by rfl) B.enumerate (pa_cons (pe_dget hu (pe_fld (pv 0) rfl) (pv 3) (fun _ _ => rfl)) pa_nil)) (pg_tup rfl (pgs_cons (pg_name (i := 4) sc_sTrack_pointing.nd rfl (Or.inl rfl)) (pgs_cons (pg_name (i := 2) sc_sTrack_pointing.nd rfl (Or.inl rfl)) pgs_nil)))
          (pss_one (ps_if (pt_cmpR op_notN (pv 2) pe_non (nomark _))
          (pss_one (ps_expr (pe_bm PySem.F.plainAttrs_list PySem.F.slot_list_append PySem.F.type_list_append mt_append (pe_dget hu (pv 1) (pv 2) (fun _ _ => rfl)) (pa_cons (pe_tup (pa_cons (pv 3) (pa_cons (pv 4) pa_nil))) pa_nil))))
          pss_nil)))))
          (pss_one (ps_ret (pv 1)))))), ?_⟩
    obtain ⟨dx, p, d, dkvs, ho, hp, hd, hdk⟩ := hobj.un
    intro wd hwd
    have e1 : Ex H (upd H wd (.dT [])) := Ex.new hwd
    have hw1 : (upd H wd (.dT [])) wd = some (.dT []) := upd_same
    generalize upd H wd (.dT []) = H1 at e1 hw1
    have hd1 := e1 _ _ hd
    have nwd : wd ≠ d := fun z => by rw [z, hd] at hwd; cases hwd
    have nad : a ≠ d := fun z => by rw [z, hd] at ho; cases ho
    refine ⟨d, .dT dkvs, hd1, trivial, fun od => ?_⟩
    have c2 : Ch d H1 (upd H1 d (.frz od (.dT dkvs))) := Ch.up
    have hd2 : (upd H1 d (.frz od (.dT dkvs))) d = some (.frz od (.dT dkvs)) := upd_same
    have hw2 := c2 _ _ nwd hw1
    have ho2 := c2 _ _ nad (e1 _ _ ho)
    generalize upd H1 d (.frz od (.dT dkvs)) = H2 at c2 hd2 hw2 ho2
    have lk : dkvs.length = (keys (fieldsF pic)).length := by rw [hdk.len, List.length_map]
    have c02 : Ch d H H2 := e1.toCh.trans c2
    refine ⟨_, rfl, a, C, dx, _, .ref d, rfl, ho2, c'.cls, c'.nf, rfl, d, od, rfl, .inr ⟨dkvs, hd2, ?_⟩⟩
    have k40 := ok.g.k40
    refine for_fold (as := keys (fieldsF pic)) (lk ▸ walk_keysT (d := d) (o := od) (kvs := dkvs)) (fun b n => b ++ [n]) ([] : List Nm) (fun b σ H' => ∃ v2 ad kvs, σ = [some (.ref a), some (.ref wd), v2, none, none] ∧ Ch d H H' ∧ H' d = some (.frz od (.dT dkvs)) ∧ H' wd = some (.dT kvs) ∧ PLs H' kvs b ad (fun _ => []) ∧ (∀ n ∈ b, H (ad n) = none ∧ ad n ≠ wd) ∧ (∀ n ∈ b, ∀ m ∈ b, ad n = ad m → n = m))
      ⟨none, fun _ => 0, [], rfl, c02, hd2, hw2, ⟨rfl, fun n h => nomatch h⟩, fun n h => (nomatch h), fun n h => (nomatch h)⟩ (fun _ σ H' ⟨_, _, _, _, _, z, _⟩ => z) ?_ ?_
    · rintro i n x b σ _ H3 hi hb ⟨v2, ad, kvs, rfl, c3, hd3, hw3, hpl, hfr, hin⟩ ⟨rfl, kk, fv, qa, hkv, rfl, hqa⟩
      rw [snoc_fold] at hb
      have hkk : (dkvs.map (·.1))[i]? = some kk := by rw [List.getElem?_map, hkv]; rfl
      rw [show dkvs.map (·.1) = (keys (fieldsF pic)).map nkey from hdk.ks, List.getElem?_map, hi] at hkk
      cases hkk
      have lb : b.length ≤ 40 := by rw [hb, List.length_take]; omega
      have hnb : n ∉ b := fun z => by
        rw [hb] at z
        obtain ⟨j, hj⟩ := List.getElem?_of_mem z
        rw [List.getElem?_take] at hj
        split at hj
        · have hj2 : j < (keys (fieldsF pic)).length := (List.getElem?_eq_some_iff.mp hj).1
          have hi2 : i < (keys (fieldsF pic)).length := (List.getElem?_eq_some_iff.mp hi).1
          have e1 := (List.getElem?_eq_some_iff.mp hj).2
          have e2 := (List.getElem?_eq_some_iff.mp hi).2
          exact List.pairwise_iff_getElem.mp ok.g.nd j i hj2 hi2 (by assumption) (e1.trans e2.symm)
        · cases hj
      refine ⟨le16 (by show 0 ≤ 100000; decide), fun q hq => ?_⟩
      have e4 : Ex H3 (upd H3 q (.lst [])) := Ex.new hq
      have hq4 : (upd H3 q (.lst [])) q = some (.lst []) := upd_same
      have nqw : q ≠ wd := fun z => by rw [z, hw3] at hq; cases hq
      have nqd : q ≠ d := fun z => by rw [z, hd3] at hq; cases hq
      have hq0 : H q = none := by
        cases z : H q with
        | none => rfl
        | some o => rw [c3 q o nqd z] at hq; cases hq
      generalize upd H3 q (.lst []) = H4 at e4 hq4
      have hw4 := e4 _ _ hw3
      have hqa4 := e4 _ _ hqa
      have lkv : kvs.length = b.length := hpl.ks.len
      refine ⟨_, rfl, _, rfl, wd, _, rfl, dput_of hw4 hqa4 _ (by omega), ?_⟩
      have t5 : TX H4 (upd H4 wd (.dT (putK kvs (nkey n) (.ref q)))) := TX.updD hw4
      have vn : valV kvs (nkey n) = none := by
        cases z : valV kvs (nkey n) with
        | none => rfl
        | some x => exact absurd ((hpl.ks.mem n).mp (by rw [z]; rfl)) hnb
      have adq : ∀ m ∈ b, ad m ≠ q := fun m hm z => by
        obtain ⟨xs, h1, h2⟩ := hpl.2 m hm
        rw [z, hq] at h1
        cases h1
      have hadm : ∀ m ∈ b, (if m = n then q else ad m) = ad m := fun m hm => if_neg fun z : m = n => hnb (z ▸ hm)
      refine ⟨_, fun m => if m = n then q else ad m, _, rfl, fun x o nx h => by rw [upd_ne (ne_of_none h hwd)]; exact e4 _ _ (c3 _ _ nx h), by rw [upd_ne nwd.symm]; exact e4 _ _ hd3, upd_same, ⟨?_, fun m hm => ?_⟩, fun m hm => ?_, fun m hm m' hm' => ?_⟩
      · rw [putK_new _ vn, List.map_append, hpl.1]
        congr 1
        · apply List.map_congr_left
          intro m hm
          show (nkey m, V.ref (ad m)) = (nkey m, V.ref (if m = n then q else ad m))
          rw [hadm m hm]
        · simp
      · rcases List.mem_append.mp hm with hm | hm
        · obtain ⟨xs, h1, h2⟩ := hpl.2 m hm
          simp only
          rw [hadm m hm, upd_ne (hfr m hm).2]
          exact ⟨xs, e4 _ _ h1, h2.go (e4.tx.trans t5)⟩
        · obtain rfl := List.mem_singleton.mp hm
          simp only [if_true]
          rw [upd_ne nqw]
          exact ⟨[], hq4, .nil⟩
      · rcases List.mem_append.mp hm with hm | hm
        · simp only
          rw [hadm m hm]
          exact hfr m hm
        · obtain rfl := List.mem_singleton.mp hm
          simp only [if_true]
          exact ⟨hq0, nqw⟩
      · show (if m = n then q else ad m) = (if m' = n then q else ad m') → m = m'
        rcases List.mem_append.mp hm with h1m | h1m
        · rcases List.mem_append.mp hm' with h2m | h2m
          · rw [hadm m h1m, hadm m' h2m]
            exact hin m h1m m' h2m
          · rw [hadm m h1m, if_pos (List.mem_singleton.mp h2m)]
            exact fun z => absurd z (adq m h1m)
        · rcases List.mem_append.mp hm' with h2m | h2m
          · rw [hadm m' h2m, if_pos (List.mem_singleton.mp h1m)]
            exact fun z => absurd z.symm (adq m' h2m)
          · exact fun _ => (List.mem_singleton.mp h1m).trans (List.mem_singleton.mp h2m).symm
    · rintro σ H3 ⟨v2, ad, kvs, rfl, c3, hd3, hw3, hpl, hfr, hin⟩
      rw [snoc_fold] at hpl hfr hin
      refine ⟨hd3, ?_⟩
      have e4 : Ex H (upd H3 d (.dT dkvs)) := c3.back hd
      have t4 : TX H3 (upd H3 d (.dT dkvs)) := TX.up fun xs z => by rw [hd3] at z; cases z
      have hw4 : (upd H3 d (.dT dkvs)) wd = some (.dT kvs) := by rw [upd_ne nwd]; exact hw3
      have hpl4 : PLs (upd H3 d (.dT dkvs)) kvs (keys (fieldsF pic)) ad (fun _ => []) := by
        refine ⟨hpl.1, fun n hn => ?_⟩
        obtain ⟨xs, h1, h2⟩ := hpl.2 n hn
        exact ⟨xs, by rw [upd_ne fun z => by rw [z, hd3] at h1; cases h1]; exact h1, h2.go t4⟩
      generalize upd H3 d (.dT dkvs) = H4 at e4 hw4 hpl4
      refine ⟨_, rfl, a, C, dx, _, .ref d, rfl, e4 _ _ ho, c'.cls, c'.nf, rfl, _, keys (fieldsF pic), rfl, .inr ⟨d, dkvs, rfl, .inl (e4 _ _ hd), hdk.ks⟩, fun ys p2 hp2 hy => ?_⟩
      have e5 : Ex H4 (upd H4 p2 (.lst ys)) := Ex.new hp2
      have hp5 : (upd H4 p2 (.lst ys)) p2 = some (.lst ys) := upd_same
      generalize upd H4 p2 (.lst ys) = H5 at e5 hp5
      have e05 := e4.trans e5
      have ly : ys.length = (srt dN (keys (fieldsF pic))).length := by rw [hy.len, List.length_map]
      have lks : (srt dN (keys (fieldsF pic))).length ≤ 40 := by
        rw [(srt_perm _).length_eq]
        exact k40
      have adp : ∀ n ∈ keys (fieldsF pic), ad n ≠ p2 := fun n hn z => by
        obtain ⟨xs, h1, h2⟩ := hpl4.2 n hn
        rw [z, hp2] at h1
        cases h1
      refine ⟨p2, rfl, ⟨ys, SqL.of hp5⟩, ?_⟩
      refine for_fold (as := srt dN (keys (fieldsF pic))) (ly ▸ walk_list (K := K) (a := p2) (xs := ys)) (fun b t => fun m => b m ++ ptT (fieldsF pic) t m) (fun _ => []) (fun L σ H' => ∃ v2 v3 v4, σ = [some (.ref a), some (.ref wd), v2, v3, v4] ∧ Ex H H' ∧ TX H5 H' ∧ H' p2 = some (.lst ys) ∧ H' wd = some (.dT kvs) ∧ PLs H' kvs (keys (fieldsF pic)) ad L)
        ⟨_, _, _, rfl, e05, TX.refl _, hp5, e5 _ _ hw4, hpl4.go e5⟩ (fun _ σ H' ⟨_, _, _, _, _, _, c, _⟩ => SqL.of c) ?_ ?_
      · rintro i t x L σ _ H6 hi hL ⟨v2, v3, v4, rfl, e6, t6, hp6, hw6, hpl6⟩ ⟨rfl, hxi⟩
        obtain ⟨y, hyi, dy⟩ := (hy.go (e5.tx.trans t6)).get (i := i) (d := dN t) (by rw [List.getElem?_map, hi]; rfl)
        rw [hxi] at hyi
        cases hyi
        obtain ⟨tb, rfl, htb⟩ := dy.nm
        have ht : t ∈ keys (fieldsF pic) := srt_mem.mp (List.mem_of_getElem? hi)
        obtain ⟨fs, hfs⟩ := aget_some ht
        have hfd : FdD H6 d (fieldsF pic) := ⟨dkvs, .inl (e6 _ _ hd), hdk.go e6.tx⟩
        obtain ⟨fv, hfv, dfv⟩ := hfd.get htb hfs
        obtain ⟨fa, ws, rfl, hfa, hws⟩ := Dt.tupE dfv
        have lw : ws.length = fs.length := by rw [hws.len, List.length_map]
        have lf := ok.g.fls t fs hfs
        have es : ∀ m, ptT (fieldsF pic) t m = fs.zipIdx.flatMap fun x => ptIn t x m := fun m => by unfold ptT; rw [hfs]; rfl
        have lL : ∀ m, (L m).length ≤ 160 := fun m => by
          rw [hL, fun_fold, List.nil_append]
          have h3 := flat_len (fun t => ptT (fieldsF pic) t m) 4 ((srt dN (keys (fieldsF pic))).take i) fun t _ => ptT_len ok.g t m
          rw [List.length_take] at h3
          omega
        refine ⟨_, rfl, a, C, dx, _, .ref d, rfl, e6 _ _ ho, c'.cls, c'.nf, rfl, _, rfl, d, .ref fa, rfl, hfv, fa, ws, rfl, hfa, ?_⟩
        refine for_en (as := fs) (walk_enT (a := fa) (xs := ws)) lw (fun b x => fun m => b m ++ ptIn t x m) L (fun L σ H' => ∃ v2 v4, σ = [some (.ref a), some (.ref wd), v2, some (.ref tb), v4] ∧ Ex H H' ∧ TX H6 H' ∧ H' p2 = some (.lst ys) ∧ H' wd = some (.dT kvs) ∧ PLs H' kvs (keys (fieldsF pic)) ad L)
          ⟨_, _, rfl, e6, TX.refl _, hp6, hw6, hpl6⟩ (fun _ σ H' ⟨_, _, _, _, t, _⟩ => t _ _ hfa) ?_ ?_
        · rintro j o z T L2 σ H7 hj hzj hL2 ⟨v2, v4, rfl, e7, t7, hp7, hw7, hpl7⟩ hT
          obtain ⟨y, hyj, dy2⟩ := hws.get (i := j) (d := dO o) (by rw [List.getElem?_map, hj]; rfl)
          rw [hzj] at hyj
          cases hyj
          refine ⟨T, _, rfl, SqT.of upd_same, rfl, _, _, rfl, _, _, rfl, rfl, ?_⟩
          have e8 : Ex H7 (upd H7 T (.tup [.int (j : Nat), z])) := Ex.new hT
          have e08 := e7.trans e8
          have t8 := t7.trans e8.tx
          have hp8 := e8 _ _ hp7
          have hw8 := e8 _ _ hw7
          have hpl8 := hpl7.go e8
          have dy8 := dy2.go t8
          generalize upd H7 T (.tup [.int (j : Nat), z]) = H8 at e8 e08 t8 hp8 hw8 hpl8 dy8
          refine ⟨_, rfl, rfl, _, rfl, ?_⟩
          rw [isnt_none dy8]
          cases o with
          | none =>
            have e0 : (fun m => L2 m ++ ptIn t ((none : Option Nm), j) m) = L2 := by
              funext m
              simp [ptIn]
            show (if false = true then _ else _)
            rw [if_neg Bool.false_ne_true]
            refine ⟨_, _, rfl, e08, t8, hp8, hw8, ?_⟩
            rw [e0]
            exact hpl8
          | some m =>
            obtain ⟨mb, rfl, hmb⟩ := Dt.nm dy8
            have hm : m ∈ keys (fieldsF pic) := ok.g.cl t fs hfs m (List.mem_of_getElem? hj)
            obtain ⟨zs, hz1, hz2⟩ := hpl8.2 m hm
            have lz := hz2.len
            rw [List.length_map] at lz
            have lL2 : (L2 m).length ≤ 200 := by
              rw [hL2, fun_fold, List.length_append]
              have h1 := take_flat_len (fun x => ptIn t x m) fs.zipIdx j
              rw [← es m] at h1
              have h2 := ptT_len ok.g t m
              have h3 := lL m
              omega
            have hg : DGet H8 wd (.ref mb) (some (.ref (ad m))) := by
              have q := dget_of (.inl hw8) hmb
              rw [hpl8.1, valV_map_ad hm] at q
              exact q
            have nwa : wd ≠ ad m := (hfr m hm).2.symm
            refine iteT ⟨_, rfl, _, rfl, wd, .ref (ad m), rfl, hg, .inl ⟨rfl, _, SqL.of hz1⟩, _, rfl, _, rfl, le16 (by show 2 ≤ 100000; decide), fun q hq => ?_⟩
            have e9 : Ex H8 (upd H8 q (.tup [.ref tb, .int (j : Nat)])) := Ex.new hq
            have dq : Dt (upd H8 q (.tup [.ref tb, .int (j : Nat)])) (.ref q) (dStep (t, j)) := .tup upd_same (.cons (dy.go (t8.trans e9.tx)) (.cons (.int _) .nil))
            refine ⟨ad m, zs, _, rfl, rfl, e9 _ _ hz1, lt16 (by omega), ?_⟩
            have t10 : TX _ (upd (upd H8 q (.tup [.ref tb, .int (j : Nat)])) (ad m) (.lst (zs ++ [.ref q]))) := TX.updL (e9 _ _ hz1)
            refine ⟨_, _, rfl, (e08.trans e9).mut (hfr m hm).1, (t8.trans e9.tx).trans t10, by rw [upd_ne (adp m hm).symm]; exact e9 _ _ hp8, by rw [upd_ne nwa]; exact e9 _ _ hw8, hpl8.1, fun n hn => ?_⟩
            by_cases e : n = m
            · subst e
              refine ⟨_, upd_same, ?_⟩
              show DtAll _ _ ((L2 n ++ ptIn t (some n, j) n).map dStep)
              have : ptIn t (some n, j) n = [(t, j)] := by simp [ptIn]
              rw [this, List.map_append]
              exact ((hz2.go e9.tx).snoc dq).go t10
            · obtain ⟨xs, h1, h2⟩ := hpl8.2 n hn
              have : ptIn t (some m, j) n = [] := by
                have : ¬ m = n := fun z => e z.symm
                simp [ptIn, this]
              show ∃ xs, _ ∧ DtAll _ xs ((L2 n ++ ptIn t (some m, j) n).map dStep)
              rw [this, List.append_nil, upd_ne fun z => e (hin n hn m hm z)]
              exact ⟨xs, e9 _ _ h1, h2.go (e9.tx.trans t10)⟩
        · rintro σ H7 ⟨v2, v4, rfl, e7, t7, hp7, hw7, hpl7⟩
          have : (fs.zipIdx.foldl (fun b x => fun m => b m ++ ptIn t x m) L) = fun m => L m ++ ptT (fieldsF pic) t m := by
            funext m
            rw [fun_fold, es m]
          rw [this] at hpl7
          exact ⟨_, _, _, rfl, e7, t6.trans t7, hp7, hw7, hpl7⟩
      · rintro σ H6 ⟨v2, v3, v4, rfl, e6, t6, hp6, hw6, hpl6⟩
        have : ((srt dN (keys (fieldsF pic))).foldl (fun b t => fun m => b m ++ ptT (fieldsF pic) t m) (fun _ => [])) = pointL (fieldsF pic) := by
          funext m
          rw [fun_fold, List.nil_append]
          rfl
        rw [this] at hpl6
        exact ⟨_, rfl, k wd H6 kvs ad hwd e6 hw6 hpl6⟩
end
end HF
set_option Elab.async false
set_option linter.all false
set_option maxRecDepth 100000
set_option maxHeartbeats 4000000
namespace HF
open PySem PySem.Spec PyProof.Rows L2
/-! ### going back -/
abbrev BAcc := List (Nm × Steps) × List Nm
def bIn (one : Nm) (acc : BAcc) (x : Nm × Nat) : BAcc := if x.1 ∈ keys acc.1 then acc else (aput acc.1 x.1 (x :: (aget acc.1 one).getD []), acc.2 ++ [x.1])
def bStep (F : List (Nm × Flds)) (W : List (Nm × Steps)) (one : Nm) (r : List Nm) : BAcc := (pointL F one).foldl (bIn one) (W, r)
def bLoop (F : List (Nm × Flds)) : Nat → BAcc → List (Nm × Steps)
  | 0, acc => acc.1
  | j + 1, acc => match acc.2 with
    | [] => acc.1
    | one :: r => bLoop F j (bStep F acc.1 one r)
def backF (F : List (Nm × Flds)) (name : Nm) : List (Nm × Steps) := bLoop F 200 ([(name, [])], [name])
theorem mem_pointL {F : List (Nm × Flds)} {m : Nm} {x : Nm × Nat} : x ∈ pointL F m ↔ ∃ fs, aget F x.1 = some fs ∧ fs[x.2]? = some (some m) := by
  obtain ⟨t, i⟩ := x
  unfold pointL
  rw [List.mem_flatMap]
  constructor
  · rintro ⟨t', ht', h⟩
    unfold ptT at h
    obtain ⟨y, hy, h⟩ := List.mem_flatMap.mp h
    unfold ptIn at h
    split at h
    · rename_i e
      have := List.mem_singleton.mp h
      cases this
      cases hf : aget F t with
      | none => rw [hf] at hy; cases hy
      | some fs =>
        rw [hf] at hy
        refine ⟨fs, rfl, ?_⟩
        rw [← e]
        exact zip_mem hy
    · cases h
  · rintro ⟨fs, hf, hi⟩
    refine ⟨t, srt_mem.mpr (aget_key hf), ?_⟩
    unfold ptT
    rw [hf]
    exact List.mem_flatMap.mpr ⟨(some m, i), zip_of hi, by unfold ptIn; simp⟩
structure BL (F : List (Nm × Flds)) (name : Nm) (j : Nat) (W : List (Nm × Steps)) (wt : List Nm) : Prop where
  nd : (keys W).Nodup
  sub : ∀ n ∈ keys W, n ∈ keys F
  wsub : ∀ n ∈ wt, n ∈ keys W
  len : ∀ n a, aget W n = some a → a.length + j ≤ 300
  few : 2 * unmet (keys F) (keys W) + wt.length ≤ j
  ok : ∀ n a, aget W n = some a → PathF F n a name
  cl : ∀ a ∈ keys W, a ∉ wt → ∀ x ∈ pointL F a, x.1 ∈ keys W
  nm : name ∈ keys W
structure BIn (F : List (Nm × Flds)) (name : Nm) (j : Nat) (W : List (Nm × Steps)) (one : Nm) (a : Steps) (r : List Nm) (acc : BAcc) : Prop where
  nd : (keys acc.1).Nodup
  sub : ∀ n ∈ keys acc.1, n ∈ keys F
  wsub : ∀ n ∈ acc.2, n ∈ keys acc.1
  len : ∀ n a, aget acc.1 n = some a → a.length + j ≤ 300
  few : 2 * unmet (keys F) (keys acc.1) + acc.2.length ≤ j
  ok : ∀ n a, aget acc.1 n = some a → PathF F n a name
  same : aget acc.1 one = some a
  mo : ∀ n ∈ keys W, n ∈ keys acc.1
  mr : ∀ n ∈ r, n ∈ acc.2
  new : ∀ n ∈ keys acc.1, n ∈ keys W ∨ n ∈ acc.2
section
variable {F : List (Nm × Flds)} {name : Nm}
theorem BL.init (g : GrB F) (hn : name ∈ keys F) : BL F name 200 [(name, [])] [name] := by
  have ga : ∀ n a, aget [(name, ([] : Steps))] n = some a → n = name ∧ a = [] := fun n a h => by
    rw [aget_cons] at h
    split at h
    · rename_i e
      cases h
      exact ⟨e.symm, rfl⟩
    · cases h
  refine ⟨by simp [keys], fun n h => ?_, fun n h => by simpa [keys] using h, fun n a h => ?_, ?_, fun n a h => ?_, fun a ha hn => absurd (by simpa [keys] using ha) hn, by simp [keys]⟩
  · have : n = name := by simpa [keys] using h
    rw [this]
    exact hn
  · rw [(ga n a h).2]
    decide
  · have h1 := unmet_le (keys F) (keys [(name, ([] : Steps))])
    have h2 := g.k40
    simp only [List.length_singleton]
    omega
  · obtain ⟨rfl, rfl⟩ := ga n a h
    exact rfl
theorem bIn_mono {one : Nm} {acc : BAcc} {x : Nm × Nat} {n : Nm} (h : n ∈ keys acc.1) : n ∈ keys (bIn one acc x).1 := by
  unfold bIn
  split
  · exact h
  · exact mem_keys_put.mpr (.inr h)
theorem BL.main {j : Nat} {W : List (Nm × Steps)} {one : Nm} {r : List Nm} (h : BL F name (j + 1) W (one :: r)) {a : Steps} (ha : aget W one = some a) (l : List (Nm × Nat)) (hl : ∀ x ∈ l, x ∈ pointL F one) : BIn F name j W one a r (l.foldl (bIn one) (W, r)) := by
  have hlen := h.len one a ha
  have hpa := h.ok one a ha
  have few := h.few
  rw [List.length_cons] at few
  refine fold_keep (P := fun acc : BAcc => BIn F name j W one a r acc) ⟨h.nd, h.sub, fun n hn => h.wsub n (List.mem_cons_of_mem _ hn), fun n b hb => ?_, by show 2 * unmet (keys F) (keys W) + r.length ≤ j; omega, h.ok, ha, fun _ h => h, fun _ h => h, fun _ h => .inl h⟩ fun acc x hx q => ?_
  · have := h.len n b hb
    omega
  · obtain ⟨fs, hfs, hfi⟩ := mem_pointL.mp (hl x hx)
    unfold bIn
    split
    · exact q
    · rename_i hm
      have hmF : x.1 ∈ keys F := aget_key hfs
      rw [q.same, Option.getD_some]
      refine ⟨nodup_put q.nd, fun n hn => ?_, fun n hn => ?_, fun n b hb => ?_, ?_, fun n b hb => ?_, ?_, fun n hn => mem_keys_put.mpr (.inr (q.mo n hn)), fun n hn => List.mem_append_left _ (q.mr n hn), fun n hn => ?_⟩
      · rcases mem_keys_put.mp hn with rfl | hn
        · exact hmF
        · exact q.sub n hn
      · rcases List.mem_append.mp hn with hn | hn
        · exact mem_keys_put.mpr (.inr (q.wsub n hn))
        · exact mem_keys_put.mpr (.inl (List.mem_singleton.mp hn))
      · simp only at hb
        rw [aget_put] at hb
        split at hb
        · cases hb
          simp only [List.length_cons]
          omega
        · exact q.len n b hb
      · have lt : unmet (keys F) (keys (aput acc.1 x.1 (x :: a))) < unmet (keys F) (keys acc.1) := unmet_lt (fun n hn => mem_keys_put.mpr (.inr hn)) hmF hm (mem_keys_put.mpr (.inl rfl))
        have := q.few
        simp only [List.length_append, List.length_singleton]
        omega
      · simp only at hb
        rw [aget_put] at hb
        split at hb
        · rename_i e
          cases hb
          rw [e]
          exact ⟨rfl, fs, one, hfs, hfi, hpa⟩
        · exact q.ok n b hb
      · simp only
        rw [aget_put, if_neg fun z : one = x.1 => hm (z ▸ aget_key q.same)]
        exact q.same
      · rcases mem_keys_put.mp hn with rfl | hn
        · exact .inr (List.mem_append_right _ (List.mem_singleton.mpr rfl))
        · rcases q.new n hn with hn | hn
          · exact .inl hn
          · exact .inr (List.mem_append_left _ hn)
theorem BL.next {j : Nat} {W : List (Nm × Steps)} {one : Nm} {r : List Nm} (h : BL F name (j + 1) W (one :: r)) : BL F name j (bStep F W one r).1 (bStep F W one r).2 := by
  have ho : one ∈ keys W := h.wsub one List.mem_cons_self
  obtain ⟨a, ha⟩ := aget_some ho
  have main := h.main ha (pointL F one) fun _ z => z
  refine ⟨main.nd, main.sub, main.wsub, main.len, main.few, main.ok, fun b hb hn x hx => ?_, main.mo _ h.nm⟩
  rcases main.new b hb with hbW | q
  · by_cases e : b = one
    · subst e
      refine fold_hit (P := fun acc : BAcc => x.1 ∈ keys acc.1) hx (fun acc => ?_) fun acc y h => bIn_mono h
      unfold bIn
      split
      · assumption
      · exact mem_keys_put.mpr (.inl rfl)
    · have : b ∉ one :: r := fun z => by
        rcases List.mem_cons.mp z with z | z
        · exact e z
        · exact hn (main.mr b z)
      exact main.mo _ (h.cl b hbW this x hx)
  · exact absurd q hn
/-- what the loop gives -/
structure BOut (F : List (Nm × Flds)) (name : Nm) (W : List (Nm × Steps)) : Prop where
  nd : (keys W).Nodup
  sub : ∀ n ∈ keys W, n ∈ keys F
  ok : ∀ n a, aget W n = some a → PathF F n a name
  cl : ∀ a ∈ keys W, ∀ x ∈ pointL F a, x.1 ∈ keys W
  nm : name ∈ keys W
theorem BL.fin {j : Nat} {W : List (Nm × Steps)} (h : BL F name j W []) : BOut F name W := ⟨h.nd, h.sub, h.ok, fun a ha => h.cl a ha (fun z => nomatch z), h.nm⟩
theorem BL.out : ∀ (j : Nat) {W : List (Nm × Steps)} {wt : List Nm}, BL F name j W wt → BOut F name (bLoop F j (W, wt))
  | 0, W, wt, h => by
    have : wt = [] := List.eq_nil_of_length_eq_zero (by have := h.few; omega)
    subst this
    exact h.fin
  | j + 1, W, [], h => h.fin
  | j + 1, W, one :: r, h => BL.out j h.next
theorem back_ok (g : GrB F) (hn : name ∈ keys F) : BOut F name (backF F name) := BL.out 200 (BL.init g hn)
theorem bIn_len (one : Nm) (acc : BAcc) (x : Nm × Nat) : (bIn one acc x).1.length ≤ acc.1.length + 1 ∧ (bIn one acc x).2.length ≤ acc.2.length + 1 := by
  unfold bIn
  split
  · omega
  · refine ⟨aput_len, by simp⟩
theorem pointL_len (g : GrB F) (m : Nm) : (pointL F m).length ≤ 160 := by
  have h3 := flat_len (fun t => ptT F t m) 4 (srt dN (keys F)) fun t _ => ptT_len g t m
  have h4 := g.k40
  rw [(srt_perm _).length_eq] at h3
  unfold pointL
  omega
/-- what leads back holds no other way -/
theorem BOut.rch {W : List (Nm × Steps)} (h : BOut F name W) {R : List Nm} (hR : ∀ n ∈ R, n ∉ keys W) {n : Nm} (r : Rch (chl F) R n) : n ∉ keys W := by
  induction r with
  | base hb => exact hR _ hb
  | step ha e ih =>
    intro hb
    obtain ⟨fs, hfs, hfm⟩ := mem_chl.mp e
    obtain ⟨i, hi⟩ := List.getElem?_of_mem hfm
    exact ih (h.cl _ hb (_, i) (mem_pointL.mpr ⟨fs, hfs, hi⟩))
end
end HF
set_option Elab.async false
set_option linter.all false
set_option maxRecDepth 100000
set_option maxHeartbeats 4000000
namespace HF
open PySem PySem.Spec PyProof.Rows L2
/-- the wanted paper by the first start gone back to, or the cut -/
def trackD (p : Pic) (n : Nm) : PyData := match (startsF p).find? (fun s => decide (s.2 ∈ keys (backF (fieldsF p) n))) with
  | some s => dPaper (.wanted n s.1 ((aget (backF (fieldsF p) n) s.2).getD []))
  | none => dPaper (.cut (srt dN (keys (backF (fieldsF p) n))) (lettersL p))
section
variable {P : Program} {w : World} {K : PySem.W.Frag} {mg : Str → Option Value} {base : Heap} {f : Addr} {fd : FuncData} {C : Addr}
structure MBack (P : Program) (w : World) (K : PySem.W.Frag) (mg : Str → Option Value) (base : Heap) (C : Addr) : Prop where
  cls : Cls K C
  look_for : CalM P w K mg base C "look_for" ["self", "name"] 1 (spLookM C)
  pointing : CalM P w K mg base C "pointing" ["self"] 1 (spPointing C)
def spBack (C : Addr) : Sp := fun vs H Q _ => ∃ a x pic n, vs = [.ref a, x] ∧ RwO C H a pic ∧ PicOk pic ∧ Dt H x (dN n) ∧ n ∈ keys (fieldsF pic) ∧ ∀ q H' kvs, H q = none → Ex H H' → H' q = some (.dT kvs) → KVs H' dSteps kvs (backF (fieldsF pic) n) → Q (.ref q) H'
theorem sc_sTrack_back : FnScope ["self", "name", "pointing", "found", "waiting", "one", "thing", "field"] ["self", "name"] (defScope sTrack_back) := ⟨rfl, rfl, rfl, by decide +kernel, rfl, by decide +kernel, by decide +kernel⟩
theorem ok_back (F : FnP K "back" "Track.back" sTrack_back f fd) (B : Bl mg) (M : MBack P w K mg base C) : FnOk P w K mg base CX0 2 f fd ["self", "name"] (spBack C) := by
  refine F.ok sc_sTrack_back (fun vs H Q E h => ?_) (fun cdv A outer s H vs Q E hr h => ?_)
  · obtain ⟨a, x, pic, n, rfl, _⟩ := h
    rfl
  · obtain ⟨a, x, pic, name, rfl, hobj, ok, hx, hn, k⟩ := h
    have hu := hu_of hr
    have hu64 := hr.units
    refine ⟨_, PSs.nox (pss_cons (ps_expr (pe_calM M.look_for (hr.mono (by decide)) pass0 M.cls (pv 0) (pa_cons (pv 1) pa_nil)))
          (pss_cons (ps_set (i := 2) sc_sTrack_back.nd rfl (Or.inl rfl) (pe_calM0 M.pointing (hr.mono (by decide)) pass0 M.cls (pv 0)))
          (pss_cons (ps_set (i := 3) sc_sTrack_back.nd rfl (Or.inl rfl) (pe_disp1 hu64 (pv 1) (pe_tup pa_nil)))
          (pss_cons (ps_set (i := 4) sc_sTrack_back.nd rfl (Or.inl rfl) (pe_lst (pa_cons (pv 1) pa_nil)))
          (pss_cons (ps_while PassesOwn.never (pt_cmpR op_gt (pe_callB call_len_seq (by rfl) B.len (by decide +kernel) (pa_cons (pv 4) pa_nil)) pe_int (nomark _))
          (pss_cons (ps_set (i := 5) sc_sTrack_back.nd rfl (Or.inl rfl) (pe_bm PySem.F.plainAttrs_list PySem.F.slot_list_pop PySem.F.type_list_pop mt_popAt (pv 4) (pa_cons pe_int pa_nil)))
          (pss_one (ps_for PassesOwn.never rfl (pi_list (pe_dget hu (pv 2) (pv 5) (fun _ _ => rfl))) (pg_tup rfl (pgs_cons (pg_name (i := 6) sc_sTrack_back.nd rfl (Or.inl rfl)) (pgs_cons (pg_name (i := 7) sc_sTrack_back.nd rfl (Or.inl rfl)) pgs_nil)))
          (pss_one (ps_if (pt_cmp (pc_dnotin hu (pv 6) (pv 3)))
          (pss_cons (ps_dput hu (pv 3) (pv 6) (pe_op op_catU (pe_tup (pa_cons (pe_tup (pa_cons (pv 6) (pa_cons (pv 7) pa_nil))) pa_nil)) (pe_dget hu (pv 3) (pv 5) (fun _ _ => rfl))) rfl)
          (pss_one (ps_expr (pe_bm PySem.F.plainAttrs_list PySem.F.slot_list_append PySem.F.type_list_append mt_append (pv 4) (pa_cons (pv 6) pa_nil)))))
          pss_nil))))))
          (pss_one (ps_ret (pv 3)))))))), ?_⟩
    obtain ⟨dx, p, d, ho, hp, hd⟩ := hobj.ex
    refine ⟨_, rfl, a, dx, _, rfl, ho, rfl, _, rfl, a, x, pic, name, rfl, hobj, hx, hn, ?_⟩
    refine ⟨_, rfl, a, dx, _, rfl, ho, rfl, a, pic, rfl, hobj, ok, fun pd H1 pkvs ad hpd e1 hpd1 hpl1 => ?_⟩
    obtain ⟨xb, rfl, hxb⟩ := hx.nm
    intro wd hwd
    have e2 : Ex H1 (upd H1 wd (.dT [])) := Ex.new hwd
    have hwd0 : H wd = none := e1.back hwd
    have npw : pd ≠ wd := ne_of_none hpd1 hwd
    have hpd2 := e2 _ _ hpd1
    have hpl2 := hpl1.go e2
    have e02 := e1.trans e2
    have hw2 : (upd H1 wd (.dT [])) wd = some (.dT []) := upd_same
    generalize upd H1 wd (.dT []) = H2 at e2 hpd2 hpl2 e02 hw2
    refine ⟨_, rfl, le16 (by show 0 ≤ 100000; decide), fun q hq => ?_⟩
    have e3 : Ex H2 (upd H2 q (.tup [])) := Ex.new hq
    have dq : Dt (upd H2 q (.tup [])) (.ref q) (dSteps []) := .tup upd_same .nil
    have hw3 := e3 _ _ hw2
    have hpd3 := e3 _ _ hpd2
    have hpl3 := hpl2.go e3
    have e03 := e02.trans e3
    generalize upd H2 q (.tup []) = H3 at e3 dq hw3 hpd3 hpl3 e03
    refine ⟨hw3, xb, name, rfl, e03 _ _ hxb, ?_⟩
    have t4 : TX H3 (upd H3 wd (.dT [(nkey name, .ref q)])) := TX.updD hw3
    have e04 : Ex H (upd H3 wd (.dT [(nkey name, .ref q)])) := e03.mut hwd0
    have hw4 : (upd H3 wd (.dT [(nkey name, .ref q)])) wd = some (.dT [(nkey name, .ref q)]) := upd_same
    have hpd4 : (upd H3 wd (.dT [(nkey name, .ref q)])) pd = some (.dT pkvs) := by rw [upd_ne npw]; exact hpd3
    have adw : ∀ n ∈ keys (fieldsF pic), ad n ≠ wd := fun n hn z => by
      obtain ⟨xs, h1, h2⟩ := hpl3.2 n hn
      rw [z, hw3] at h1
      cases h1
    have hpl4 : PLs (upd H3 wd (.dT [(nkey name, .ref q)])) pkvs (keys (fieldsF pic)) ad (pointL (fieldsF pic)) := by
      refine ⟨hpl3.1, fun n hn => ?_⟩
      obtain ⟨xs, h1, h2⟩ := hpl3.2 n hn
      exact ⟨xs, by rw [upd_ne (adw n hn)]; exact h1, h2.go t4⟩
    have hk4 : KVs (upd H3 wd (.dT [(nkey name, .ref q)])) dSteps [(nkey name, .ref q)] [(name, [])] := .cons ⟨rfl, dq.go t4⟩ .nil
    have hx4 := hx.go e04.tx
    generalize upd H3 wd (.dT [(nkey name, .ref q)]) = H4 at t4 e04 hw4 hpd4 hpl4 hk4 hx4
    refine ⟨_, rfl, le16 (by show 1 ≤ 100000; decide), fun wl hwl => ?_⟩
    have e5 : Ex H4 (upd H4 wl (.lst [.ref xb])) := Ex.new hwl
    have hl5 : (upd H4 wl (.lst [.ref xb])) wl = some (.lst [.ref xb]) := upd_same
    have hwl0 : H wl = none := e04.back hwl
    have ndl : wd ≠ wl := ne_of_none hw4 hwl
    have npl : pd ≠ wl := ne_of_none hpd4 hwl
    have adl : ∀ n ∈ keys (fieldsF pic), ad n ≠ wl := fun n hn z => by
      obtain ⟨xs, h1, h2⟩ := hpl4.2 n hn
      rw [z, hwl] at h1
      cases h1
    have e05 := e04.trans e5
    have hw5 := e5 _ _ hw4
    have hpd5 := e5 _ _ hpd4
    have hpl5 := hpl4.go e5
    have hk5 := hk4.go e5.tx
    have hy5 : DtAll (upd H4 wl (.lst [.ref xb])) [.ref xb] ([name].map dN) := .cons (hx4.go e5.tx) .nil
    generalize upd H4 wl (.lst [.ref xb]) = H5 at e5 hl5 e05 hw5 hpd5 hpl5 hk5 hy5
    refine ⟨fun j σ H' => ∃ W wt v5 v6 v7 kvs ys, σ = [some (.ref a), some (.ref xb), some (.ref pd), some (.ref wd), some (.ref wl), v5, v6, v7] ∧ Ex H H' ∧ H' pd = some (.dT pkvs) ∧ PLs H' pkvs (keys (fieldsF pic)) ad (pointL (fieldsF pic)) ∧ H' wd = some (.dT kvs) ∧ KVs H' dSteps kvs W ∧ H' wl = some (.lst ys) ∧ DtAll H' ys (wt.map dN) ∧
        BL (fieldsF pic) name j W wt ∧ bLoop (fieldsF pic) j (W, wt) = backF (fieldsF pic) name, ⟨200, _, _, none, none, none, _, _, rfl, e05, hpd5, hpl5, hw5, hk5, hl5, hy5, BL.init ok.g hn, rfl⟩, ?_⟩
    rintro j σ H6 ⟨W, wt, v5, v6, v7, kvs, ys, rfl, e6, hpd6, hpl6, hw6, hk6, hl6, hy6, Bj, hR⟩
    have lw := hy6.len
    rw [List.length_map] at lw
    refine ⟨_, rfl, wl, ys, rfl, .inl (SqL.of hl6), _, _, rfl, rfl, _, rfl, ?_⟩
    cases wt with
    | nil =>
      have : ys = [] := List.eq_nil_of_length_eq_zero (by rw [lw]; rfl)
      subst this
      have hRW : W = backF (fieldsF pic) name := by
        rw [← hR]
        cases j <;> rfl
      refine iteF ⟨_, rfl, k wd H6 kvs hwd0 e6 hw6 ?_⟩
      rw [← hRW]
      exact hk6
    | cons one r =>
      have ne : decide ((0 : Int) < (ys.length : Nat)) = true := by
        rw [List.length_cons] at lw
        rw [decide_eq_true_eq]
        omega
      rw [ne]
      cases j with
      | zero =>
        have := Bj.few
        rw [List.length_cons] at this
        omega
      | succ j =>
      have Bj2 := Bj.next
      have hR2 : bLoop (fieldsF pic) j (bStep (fieldsF pic) W one r) = backF (fieldsF pic) name := by
        rw [← hR]
        rfl
      refine iteT ⟨fun σ' H' => ∃ W wt v5 v6 v7 kvs ys, σ' = [some (.ref a), some (.ref xb), some (.ref pd), some (.ref wd), some (.ref wl), v5, v6, v7] ∧ Ex H H' ∧ H' pd = some (.dT pkvs) ∧ PLs H' pkvs (keys (fieldsF pic)) ad (pointL (fieldsF pic)) ∧ H' wd = some (.dT kvs) ∧ KVs H' dSteps kvs W ∧ H' wl = some (.lst ys) ∧ DtAll H' ys (wt.map dN) ∧
        BL (fieldsF pic) name j W wt ∧ bLoop (fieldsF pic) j (W, wt) = backF (fieldsF pic) name, fun σ' H' h => ⟨j, Nat.lt_succ_self j, h⟩, ?_⟩
      obtain ⟨y, ys, rfl, dn, hy7⟩ := DtAll.consE (d := dN one) (ds := r.map dN) hy6
      refine ⟨_, rfl, .inl ⟨rfl, _, SqL.of hl6⟩, popped0 hl6 ?_⟩
      have t7 : TX H6 (upd H6 wl (.lst ys)) := TX.updL hl6
      have e7 : Ex H (upd H6 wl (.lst ys)) := e6.mut hwl0
      have hw7 : (upd H6 wl (.lst ys)) wd = some (.dT kvs) := by rw [upd_ne ndl]; exact hw6
      have hpd7 : (upd H6 wl (.lst ys)) pd = some (.dT pkvs) := by rw [upd_ne npl]; exact hpd6
      have hl7 : (upd H6 wl (.lst ys)) wl = some (.lst ys) := upd_same
      have hpl7 : PLs (upd H6 wl (.lst ys)) pkvs (keys (fieldsF pic)) ad (pointL (fieldsF pic)) := by
        refine ⟨hpl6.1, fun n hn => ?_⟩
        obtain ⟨xs, h1, h2⟩ := hpl6.2 n hn
        exact ⟨xs, by rw [upd_ne (adl n hn)]; exact h1, h2.go t7⟩
      have hk7 := hk6.go t7
      have hy8 := hy7.go t7
      have dn7 := dn.go t7
      generalize upd H6 wl (.lst ys) = H7 at t7 e7 hw7 hpd7 hl7 hpl7 hk7 hy8 dn7
      obtain ⟨ob, rfl, hob⟩ := dn7.nm
      have hoW : one ∈ keys W := Bj.wsub one List.mem_cons_self
      have hoF := Bj.sub one hoW
      obtain ⟨b, hb⟩ := aget_some hoW
      obtain ⟨ps, hps, dps⟩ := hpl7.2 one hoF
      have lp : ps.length = (pointL (fieldsF pic) one).length := by rw [dps.len, List.length_map]
      have lp2 := pointL_len ok.g one
      have hg : DGet H7 pd (.ref ob) (some (.ref (ad one))) := by
        have q := dget_of (.inl hpd7) hob
        rw [hpl7.1, valV_map_ad hoF] at q
        exact q
      have lW : W.length ≤ 40 := by
        have := ok.g.sub40 Bj.nd Bj.sub
        rw [List.length_map] at this
        exact this
      have lr : r.length ≤ 300 := by
        have := Bj.few
        have h2 := Bj.len one b hb
        rw [List.length_cons] at this
        omega
      refine ⟨_, rfl, _, rfl, pd, .ref (ad one), rfl, hg, ad one, rfl, ⟨ps, SqL.of hps⟩, ?_⟩
      refine for_fold (as := pointL (fieldsF pic) one) (lp ▸ walk_list (K := K) (a := ad one) (xs := ps)) (bIn one) ((W, r) : BAcc) (fun acc2 σ H' => ∃ v6 v7 kvs ys, σ = [some (.ref a), some (.ref xb), some (.ref pd), some (.ref wd), some (.ref wl), some (.ref ob), v6, v7] ∧ Ex H H' ∧ TX H7 H' ∧ H' pd = some (.dT pkvs) ∧ PLs H' pkvs (keys (fieldsF pic)) ad (pointL (fieldsF pic)) ∧ H' (ad one) = some (.lst ps) ∧ H' wd = some (.dT kvs) ∧ KVs H' dSteps kvs acc2.1 ∧ H' wl = some (.lst ys) ∧ DtAll H' ys (acc2.2.map dN))
        ⟨_, _, kvs, ys, rfl, e7, TX.refl _, hpd7, hpl7, hps, hw7, hk7, hl7, hy8⟩ (fun _ σ H' ⟨_, _, _, _, _, _, _, _, _, z, _⟩ => SqL.of z) ?_ ?_
      · rintro i x z acc2 σ _ H8 hi hacc2 ⟨v6, v7, kvs, ys, rfl, e8, t8, hpd8, hpl8, hps8, hw8, hk8, hl8, hy8⟩ ⟨rfl, hzi⟩
        obtain ⟨y, hyi, dy⟩ := (dps.go t8).get (i := i) (d := dStep x) (by rw [List.getElem?_map, hi]; rfl)
        rw [hzi] at hyi
        cases hyi
        obtain ⟨t, g⟩ := x
        obtain ⟨c, u1, u2, rfl, hc, g1, g2⟩ := Dt.t2 dy
        obtain ⟨tb, rfl, htb⟩ := g1.nm
        cases g2.intE
        refine ⟨c, _, rfl, SqT.of hc, rfl, _, _, rfl, _, _, rfl, rfl, ?_⟩
        have lb := fold_len2 (bIn one) ((pointL (fieldsF pic) one).take i) ((W, r) : BAcc) fun a acc => bIn_len one acc a
        rw [← hacc2, List.length_take] at lb
        have lb1 : acc2.1.length ≤ 1000 := by have := lb.1; simp only at this; omega
        have lb2 : acc2.2.length ≤ 1000 := by have := lb.2; simp only at this; omega
        have lk := hk8.len
        have ly := hy8.len
        rw [List.length_map] at ly
        refine ⟨_, rfl, _, rfl, wd, _, rfl, dget_of (.inl hw8) htb, _, rfl, ?_⟩
        rw [hk8.ks.isS t]
        have Bi := Bj.main hb ((pointL (fieldsF pic) one).take i) fun x hx => List.mem_of_mem_take hx
        rw [← hacc2] at Bi
        by_cases hm : t ∈ keys acc2.1
        · rw [decide_eq_true hm]
          have es : bIn one acc2 (t, g) = acc2 := by unfold bIn; rw [if_pos hm]
          rw [es]
          exact iteF ⟨_, _, kvs, ys, rfl, e8, t8, hpd8, hpl8, hps8, hw8, hk8, hl8, hy8⟩
        · rw [decide_eq_false hm]
          have es : bIn one acc2 (t, g) = (aput acc2.1 t ((t, g) :: b), acc2.2 ++ [t]) := by unfold bIn; rw [if_neg hm, Bi.same]; rfl
          rw [es]
          refine iteT ⟨_, rfl, _, rfl, le16 (by show 2 ≤ 100000; decide), fun p1 hp1 => ⟨le16 (by show 1 ≤ 100000; decide), fun p2 hp2 => ?_⟩⟩
          have e9 : Ex H8 (upd (upd H8 p1 (.tup [.ref tb, .int (g : Nat)])) p2 (.tup [.ref p1])) := (Ex.new hp1).trans (Ex.new hp2)
          have d9 : Dt (upd (upd H8 p1 (.tup [.ref tb, .int (g : Nat)])) p2 (.tup [.ref p1])) (.ref p2) (.tuple ([(t, g)].map dStep)) :=
            .tup upd_same (.cons (.tup (Ex.new hp2 _ _ upd_same) (.cons (g1.go e9.tx) (.cons (.int _) .nil))) .nil)
          generalize upd (upd H8 p1 (.tup [.ref tb, .int (g : Nat)])) p2 (.tup [.ref p1]) = H9 at e9 d9
          have hk9 := hk8.go e9.tx
          have hw9 := e9 _ _ hw8
          have hob9 := (t8.trans e9.tx) _ _ hob
          obtain ⟨bv, hbv, dbv⟩ := hk9.getS Bi.same
          have hg9 := dget_of (.inl hw9) hob9
          rw [hbv] at hg9
          have lbb := Bi.len one b Bi.same
          refine ⟨_, rfl, _, rfl, wd, bv, rfl, hg9, ?_⟩
          refine rCatU.mk d9 (show Dt H9 bv (.tuple (b.map dStep)) from dbv) (by rw [List.length_map, List.length_map]; show 1 + b.length ≤ 100000; omega) fun z H10 e10 dz => ?_
          rw [← List.map_append] at dz
          have e810 := e9.trans e10
          have hw10 := e10 _ _ hw9
          have htb10 := e810 _ _ htb
          refine ⟨_, rfl, _, rfl, wd, _, rfl, dput_of hw10 htb10 _ (by omega), ?_⟩
          have t11 : TX H10 (upd H10 wd (.dT (putK kvs (nkey t) z))) := TX.updD hw10
          have e11 : Ex H (upd H10 wd (.dT (putK kvs (nkey t) z))) := (e8.trans e810).mut hwd0
          have hw11 : (upd H10 wd (.dT (putK kvs (nkey t) z))) wd = some (.dT (putK kvs (nkey t) z)) := upd_same
          have hl11 : (upd H10 wd (.dT (putK kvs (nkey t) z))) wl = some (.lst ys) := by rw [upd_ne ndl.symm]; exact e810 _ _ hl8
          have hpd11 : (upd H10 wd (.dT (putK kvs (nkey t) z))) pd = some (.dT pkvs) := by rw [upd_ne npw]; exact e810 _ _ hpd8
          have hps11 : (upd H10 wd (.dT (putK kvs (nkey t) z))) (ad one) = some (.lst ps) := by rw [upd_ne (adw one hoF)]; exact e810 _ _ hps8
          have hpl11 : PLs (upd H10 wd (.dT (putK kvs (nkey t) z))) pkvs (keys (fieldsF pic)) ad (pointL (fieldsF pic)) := by
            refine ⟨hpl8.1, fun n hn => ?_⟩
            obtain ⟨xs, h1, h2⟩ := hpl8.2 n hn
            exact ⟨xs, by rw [upd_ne (adw n hn)]; exact e810 _ _ h1, h2.go (e810.tx.trans t11)⟩
          have hk11 := ((hk8.go e810.tx).put t (b := (t, g) :: b) dz).go t11
          have t811 := e810.tx.trans t11
          have hy11 := hy8.go t811
          have g11 := g1.go t811
          have t711 := t8.trans t811
          generalize upd H10 wd (.dT (putK kvs (nkey t) z)) = H11 at t11 e11 hw11 hl11 hpd11 hps11 hpl11 hk11 hy11 g11 t811 t711
          refine ⟨_, rfl, .inl ⟨rfl, _, SqL.of hl11⟩, _, rfl, wl, ys, _, rfl, rfl, hl11, lt16 (by omega), ?_⟩
          have t12 : TX H11 (upd H11 wl (.lst (ys ++ [.ref tb]))) := TX.updL hl11
          refine ⟨_, _, _, _, rfl, e11.mut hwl0, t711.trans t12, by rw [upd_ne npl]; exact hpd11, ⟨hpl11.1, fun n hn => ?_⟩, by rw [upd_ne (adl one hoF)]; exact hps11, by rw [upd_ne ndl]; exact hw11, hk11.go t12, upd_same, ?_⟩
          · obtain ⟨xs, h1, h2⟩ := hpl11.2 n hn
            exact ⟨xs, by rw [upd_ne (adl n hn)]; exact h1, h2.go t12⟩
          · rw [List.map_append]
            exact (hy11.snoc g11).go t12
      · rintro σ H8 ⟨v6, v7, kvs, ys, rfl, e8, t8, hpd8, hpl8, hps8, hw8, hk8, hl8, hy8⟩
        exact ⟨_, _, _, _, _, kvs, ys, rfl, e8, hpd8, hpl8, hw8, hk8, hl8, hy8, Bj2, hR2⟩
end
end HF
set_option Elab.async false
set_option linter.all false
set_option maxRecDepth 100000
set_option maxHeartbeats 4000000
namespace HF
open PySem PySem.Spec PyProof.Rows L2
theorem find_at {α : Type} {p : α → Bool} {l : List α} {i : Nat} {x : α} (h : l[i]? = some x) (hp : p x = true) (hn : ∀ y ∈ l.take i, p y = false) : l.find? p = some x := by
  have hi := (List.getElem?_eq_some_iff.mp h).1
  have e : l = l.take i ++ l[i] :: l.drop (i + 1) := by rw [← List.drop_eq_getElem_cons hi, List.take_append_drop]
  have e2 : l[i] = x := (List.getElem?_eq_some_iff.mp h).2
  rw [e, List.find?_append, List.find?_eq_none.mpr fun y hy => by rw [hn y hy]; decide, e2]
  simp [List.find?_cons, hp]
section
variable {P : Program} {w : World} {K : PySem.W.Frag} {mg : Str → Option Value} {base : Heap} {f : Addr} {fd : FuncData} {C : Addr}
structure MTrack (P : Program) (w : World) (K : PySem.W.Frag) (mg : Str → Option Value) (base : Heap) (C : Addr) : Prop where
  cls : Cls K C
  back : CalM P w K mg base C "back" ["self", "name"] 2 (spBack C)
  starts : CalM P w K mg base C "starts" ["self"] 1 (spStartsM C)
  cut : CalM P w K mg base C "cut" ["self", "names"] 1 (spCutM C)
def spTrack (C : Addr) : Sp := fun vs H Q _ => ∃ a x pic n, vs = [.ref a, x] ∧ RwO C H a pic ∧ PicOk pic ∧ Dt H x (dN n) ∧ n ∈ keys (fieldsF pic) ∧ ∀ r H', Ex H H' → Dt H' r (trackD pic n) → Q r H'
theorem sc_sTrack_seek : FnScope ["self", "name", "found", "start", "one"] ["self", "name"] (defScope sTrack_seek) := ⟨rfl, rfl, rfl, by decide +kernel, rfl, by decide +kernel, by decide +kernel⟩
theorem ok_track_seek (F : FnP K "seek" "Track.seek" sTrack_seek f fd) (M : MTrack P w K mg base C) : FnOk P w K mg base CX0 3 f fd ["self", "name"] (spTrack C) := by
  refine F.ok sc_sTrack_seek (fun vs H Q E h => ?_) (fun cdv A outer s H vs Q E hr h => ?_)
  · obtain ⟨a, x, pic, n, rfl, _⟩ := h
    rfl
  · obtain ⟨a, x, pic, name, rfl, hobj, ok, hx, hn, k⟩ := h
    have hu := hu_of hr
    refine ⟨_, PSs.nox (pss_cons (ps_set (i := 2) sc_sTrack_seek.nd rfl (Or.inl rfl) (pe_calM M.back (hr.mono (by decide)) pass0 M.cls (pv 0) (pa_cons (pv 1) pa_nil)))
          (pss_cons (ps_for PassesOwn.never rfl (pi_list (pe_calM0 M.starts (hr.mono (by decide)) pass0 M.cls (pv 0))) (pg_tup rfl (pgs_cons (pg_name (i := 3) sc_sTrack_seek.nd rfl (Or.inl rfl)) (pgs_cons (pg_name (i := 4) sc_sTrack_seek.nd rfl (Or.inl rfl)) pgs_nil)))
          (pss_one (ps_if (pt_cmp (pc_din hu (pv 4) (pv 2)))
          (pss_one (ps_ret (pe_tup (pa_cons pe_str (pa_cons (pv 1) (pa_cons (pv 3) (pa_cons (pe_dget hu (pv 2) (pv 4) (fun _ _ => rfl)) pa_nil)))))))
          pss_nil)))
          (pss_one (ps_ret (pe_calM M.cut (hr.mono (by decide)) pass0 M.cls (pv 0) (pa_cons (pv 2) pa_nil)))))), ?_⟩
    obtain ⟨dx, p, d, ho, hp, hd⟩ := hobj.ex
    refine ⟨_, rfl, a, dx, _, rfl, ho, rfl, _, rfl, a, x, pic, name, rfl, hobj, ok, hx, hn, fun wd H1 kvs hwd e1 hw1 hk1 => ?_⟩
    refine ⟨_, rfl, a, dx, _, rfl, e1 _ _ ho, rfl, a, pic, rfl, hobj.go e1, ok.b, fun l H2 xs hl e2 hl2 hx2 => ?_⟩
    have e02 := e1.trans e2
    have hw2 := e2 _ _ hw1
    have hk2 := hk1.go e2.tx
    have lx : xs.length = (startsF pic).length := by rw [hx2.len, List.length_map]
    unfold trackD at k
    refine ⟨l, rfl, ⟨xs, SqL.of hl2⟩, ?_⟩
    refine for_it (walk_list (K := K) (a := l) (xs := xs)) (fun i σ H' => ∃ v3 v4, σ = [some (.ref a), some x, some (.ref wd), v3, v4] ∧ H' = H2 ∧ ∀ y ∈ (startsF pic).take i, decide (y.2 ∈ keys (backF (fieldsF pic) name)) = false) ⟨none, none, rfl, rfl, fun y hy => by simp at hy⟩ (fun i σ H' _ ⟨_, _, _, e, _⟩ => by rw [e]; exact SqL.of hl2) ?_ ?_
    · rintro i z σ _ H3 hi ⟨v3, v4, rfl, rfl, hno⟩ ⟨rfl, hzi⟩
      obtain ⟨dd, hdd, dz⟩ := hx2.getV hzi
      rw [List.getElem?_map] at hdd
      obtain ⟨s, hs, rfl⟩ := Option.map_eq_some_iff.mp hdd
      obtain ⟨c, u1, u2, rfl, hc, g1, g2⟩ := Dt.t2 dz
      obtain ⟨sb, rfl, hsb⟩ := g2.nm
      refine ⟨c, _, rfl, SqT.of hc, rfl, _, _, rfl, _, _, rfl, rfl, ?_⟩
      have hg := dget_of (.inl hw2) hsb
      refine ⟨_, rfl, _, rfl, wd, _, rfl, hg, _, rfl, ?_⟩
      rw [hk2.ks.isS s.2]
      by_cases hm : s.2 ∈ keys (backF (fieldsF pic) name)
      · rw [decide_eq_true hm]
        rw [find_at hs (decide_eq_true hm) hno] at k
        obtain ⟨ss, hss⟩ := aget_some hm
        obtain ⟨v, hv, dv⟩ := hk2.getS hss
        rw [hv] at hg
        refine iteT ⟨_, rfl, _, rfl, _, rfl, _, rfl, wd, v, rfl, hg, le16 (by show 4 ≤ 100000; decide), fun q hq => ?_⟩
        have e3 : Ex H3 (upd H3 q (.tup [.str "wanted", x, u1, v])) := Ex.new hq
        refine k _ _ (e02.trans e3) ?_
        simp only [hss, Option.getD_some]
        exact .tup upd_same (.cons (.str _) (.cons (hx.go (e02.trans e3).tx) (.cons (g1.go e3.tx) (.cons (dv.go e3.tx) .nil))))
      · rw [decide_eq_false hm]
        refine iteF ⟨_, _, rfl, rfl, fun y hy => ?_⟩
        rw [List.take_add_one, hs] at hy
        rcases List.mem_append.mp hy with hy | hy
        · exact hno y hy
        · have : y = s := by simpa using hy
          rw [this]
          exact decide_eq_false hm
    · rintro σ H3 ⟨v3, v4, rfl, rfl, hno⟩
      have : (startsF pic).find? (fun s => decide (s.2 ∈ keys (backF (fieldsF pic) name))) = none := by
        refine List.find?_eq_none.mpr fun y hy => ?_
        have h1 := hno y (by rw [lx, List.take_length]; exact hy)
        rw [h1]
        decide
      rw [this] at k
      refine ⟨_, rfl, a, dx, _, rfl, e02 _ _ ho, rfl, _, rfl, a, .ref wd, pic, keys (backF (fieldsF pic) name), rfl, hobj.go e02, ok.b, .inr ⟨wd, kvs, rfl, .inl hw2, hk2.ks⟩, fun r H4 e4 dr => ?_⟩
      exact k r H4 (e02.trans e4) dr
end
end HF
set_option Elab.async false
set_option linter.all false
set_option maxRecDepth 100000
set_option maxHeartbeats 4000000
namespace HF
open PySem PySem.Spec PyProof.Rows L2
/-! ### Marks -/
/-- m lists of names, each its own, new since H0 -/
structure LLs (H0 H : Hp) (p : Addr) (m : Nat) (ad : Nat → Addr) (L : Nat → List Nm) : Prop where
  here : H p = some (.lst (refs m ad))
  fr : ∀ i < m, H0 (ad i) = none ∧ ad i ≠ p
  inj : ∀ i < m, ∀ j < m, ad i = ad j → i = j
  ls : ∀ i < m, ∃ xs, H (ad i) = some (.lst xs) ∧ DtAll H xs ((L i).map dN)
theorem LLs.go {H0 H H' : Hp} {p : Addr} {m : Nat} {ad : Nat → Addr} {L : Nat → List Nm} (h : LLs H0 H p m ad L) (e : Ex H H') : LLs H0 H' p m ad L :=
  ⟨e _ _ h.here, h.fr, h.inj, fun i hi => by
    obtain ⟨xs, h1, h2⟩ := h.ls i hi
    exact ⟨xs, e _ _ h1, h2.go e.tx⟩⟩
theorem LLs.old {H00 H0 H : Hp} {p : Addr} {m : Nat} {ad : Nat → Addr} {L : Nat → List Nm} (h : LLs H0 H p m ad L) (e : Ex H00 H0) : LLs H00 H p m ad L :=
  ⟨h.here, fun i hi => ⟨e.back (h.fr i hi).1, (h.fr i hi).2⟩, h.inj, h.ls⟩
/-- one of them grows -/
theorem LLs.ext {H0 H : Hp} {p : Addr} {m : Nat} {ad : Nat → Addr} {L : Nat → List Nm} (h : LLs H0 H p m ad L) {i : Nat} (hi : i < m) {xs zs : List V} {ns : List Nm} (h1 : H (ad i) = some (.lst xs)) (hx : DtAll H xs ((L i).map dN)) (hz : DtAll H zs (ns.map dN)) :
    LLs H0 (upd H (ad i) (.lst (xs ++ zs))) p m ad (fun j => L j ++ if i = j then ns else []) := by
  have t : TX H (upd H (ad i) (.lst (xs ++ zs))) := TX.updL h1
  refine ⟨by rw [upd_ne (h.fr i hi).2.symm]; exact h.here, h.fr, h.inj, fun j hj => ?_⟩
  by_cases e : i = j
  · subst e
    simp only [if_true]
    rw [List.map_append]
    exact ⟨_, upd_same, (hx.append hz).go t⟩
  · simp only [e, if_false]
    rw [List.append_nil, upd_ne fun z => e (h.inj j hj i hi z).symm]
    obtain ⟨ys, q1, q2⟩ := h.ls j hj
    exact ⟨ys, q1, q2.go t⟩
def firstH (p : Pic) (i : Nat) : List Nm := match p.houses[i]? with
  | none => []
  | some h => h.hands.filterMap id
def toH (l : Letter) (i : Nat) : List Nm := if l.to.toNat = i then l.names else []
/-- for each house what its hands and the letters to it point to -/
def firstM (p : Pic) (i : Nat) : List Nm := firstH p i ++ p.letters.flatMap fun l => toH l i
section
variable {P : Program} {w : World} {K : PySem.W.Frag} {mg : Str → Option Value} {base : Heap} {f : Addr} {fd : FuncData} {C : Addr}
def spFirstM (C : Addr) : Sp := fun vs H Q _ => ∃ a pic, vs = [.ref a] ∧ RwO C H a pic ∧ PicOk pic ∧ ∀ p H' ad, H p = none → Ex H H' → LLs H H' p pic.houses.length ad (firstM pic) → Q (.ref p) H'
theorem sc_sMarks_first : FnScope ["self", "had", "sender", "to", "names", "hands", "things", "name"] ["self"] (defScope sMarks_first) := ⟨rfl, rfl, rfl, by decide +kernel, rfl, by decide +kernel, by decide +kernel⟩
theorem ok_first (F : FnP K "first" "Marks.first" sMarks_first f fd) (c' : RwC K C) : FnOk P w K mg base CX0 1 f fd ["self"] (spFirstM C) := by
  refine F.ok sc_sMarks_first (fun vs H Q E h => ?_) (fun cdv A outer s H vs Q E hr h => ?_)
  · obtain ⟨a, pic, rfl, _⟩ := h
    rfl
  · obtain ⟨a, pic, rfl, hobj, ok, k⟩ := h
    have hu := hu_of hr
    have hb := ok.b
    refine ⟨_, PSs.nox (pss_cons (ps_setLc (i := 1) (own := [("hands", 5), ("things", 6)]) (g := gTup K 2 (gCons (gName 5) (gCons (gName 6) gNil))) (tt := tYes) rfl sc_sMarks_first.nd rfl rfl (sw_true rfl rfl rfl (by decide +kernel)) (pi_tup (pe_ix ix_tup (pe_fld (pv 0) rfl) pe_int (fun _ _ => rfl))) (blkOk_by (N := ["self", "had", "sender", "to", "names", "hands", "things", "name"]) (sc := defScope sMarks_first) (by decide +kernel)) (fun _ _ _ _ _ => (pg_tup rfl (pgs_cons (pg_name (i := 5) sc_sMarks_first.nd rfl (Or.inl rfl)) (pgs_cons (pg_name (i := 6) sc_sMarks_first.nd rfl (Or.inl rfl)) pgs_nil)))) (fun _ _ _ _ _ => pts_nil) (fun _ _ _ _ _ => (pe_lc (wi := iTup K (tVar 5)) (own := [("name", 7)]) (g := gName 7) rfl sc_sMarks_first.nd (pi_tup (pv 5)) (blkOk_by (N := ["self", "had", "sender", "to", "names", "hands", "things", "name"]) (sc := { kind := .function, names := [(".0", .local), ("hands", .local), ("things", .local)], isGenerator := false, isCoroutine := false }) (by decide +kernel)) (fun _ _ _ _ _ => (pg_name (i := 7) sc_sMarks_first.nd rfl (Or.inl rfl))) (fun _ _ _ _ _ => (pts_one (pt_cmpR op_notN (pv 7) pe_non (nomark _)))) (fun _ _ _ _ _ => (pv 7)))))
          (pss_cons (ps_for PassesOwn.never rfl (pi_tup (pe_ix ix_tup (pe_fld (pv 0) rfl) pe_int (fun _ _ => rfl))) (pg_tup rfl (pgs_cons (pg_name (i := 2) sc_sMarks_first.nd rfl (Or.inl rfl)) (pgs_cons (pg_name (i := 3) sc_sMarks_first.nd rfl (Or.inl rfl)) (pgs_cons (pg_name (i := 4) sc_sMarks_first.nd rfl (Or.inl rfl)) pgs_nil))))
          (pss_one (ps_expr (pe_bm PySem.F.plainAttrs_list PySem.F.slot_list_extend PySem.F.type_list_extend mt_extT (pe_ix ix_list (pv 1) (pv 3) (fun _ _ => rfl)) (pa_cons (pv 4) pa_nil)))))
          (pss_one (ps_ret (pv 1))))), ?_⟩
    obtain ⟨dx, p, d, ho, hv, hd⟩ := hobj.ex
    obtain ⟨pa, v1, v2, rfl, hpa, h1, h2⟩ := Dt.t2 hv
    obtain ⟨b, xs, rfl, hbx, hx⟩ := h1.tupE
    obtain ⟨b2, xs2, rfl, hbx2, hx2⟩ := h2.tupE
    have lx : xs.length = pic.houses.length := by rw [hx.len, List.length_map]
    have lx2 : xs2.length = pic.letters.length := by rw [hx2.len, List.length_map]
    have bh := hb.hs
    refine ⟨_, rfl, a, C, dx, _, .ref pa, rfl, ho, c'.cls, c'.nl, rfl, pa, _, 0, .ref b, rfl, rfl, SqT.of hpa, rfl, b, rfl, ⟨xs, SqT.of hbx⟩, fun D hD => ?_⟩
    refine lc_fresh (as := pic.houses) (H1 := H) (lx ▸ walk_tup (K := K) (a := b) (xs := xs)) (fun h x H => Dt H x (dHouse h)) (fun h σ H => ∃ u v, σ = [some (.ref a), none, none, none, none, some u, some v, none] ∧ Dt H u (.tuple (h.hands.map dO)))
      (fun h o H => ∃ zs, o = .lst zs ∧ DtAll H zs ((h.hands.filterMap id).map dN)) (by omega) hD (fun h o H H' ⟨zs, e, hz⟩ t => ⟨zs, e, hz.go t⟩) (fun H' e => SqT.of (e _ _ hbx)) ?_ ?_ ?_ ?_
    · rintro j h x H2 H3 hj e ⟨rfl, hx3⟩
      obtain ⟨y, hy, dy⟩ := hx.get (i := j) (d := dHouse h) (by rw [List.getElem?_map, hj]; rfl)
      rw [hx3] at hy
      cases hy
      exact ⟨Ex.refl _, dy.go e.tx⟩
    · intro h x H2 _ e im R r
      obtain ⟨c, u, v, rfl, hc, h1, h2⟩ := Dt.t2 im
      exact ⟨c, _, rfl, SqT.of hc, rfl, _, _, rfl, _, _, rfl, rfl, r _ rfl ⟨u, v, rfl, h1⟩⟩
    · rintro h σ2 H2 hmem e ⟨u, v, rfl, h1⟩ R r
      obtain ⟨c, zs, rfl, hc, hzs⟩ := h1.tupE
      have lz : zs.length = h.hands.length := by rw [hzs.len, List.length_map]
      have hh := hb.hns h hmem
      refine ⟨_, rfl, c, rfl, ⟨zs, SqT.of hc⟩, fun D2 hD2 => ?_⟩
      refine lc_data (as := h.hands) (H1 := H2) (lz ▸ walk_tup (K := K) (a := c) (xs := zs)) (fun o x H => Dt H x (dO o)) (·.isSome) dO (by omega) hD2 ?_ (fun H' e => SqT.of (e _ _ hc)) ?_ ?_ ?_ ?_
      · exact fun _ => rfl
      · rintro j o x H2 H3 hj e ⟨rfl, hx3⟩
        obtain ⟨y, hy, dy⟩ := hzs.get (i := j) (d := dO o) (by rw [List.getElem?_map, hj]; rfl)
        rw [hx3] at hy
        cases hy
        exact ⟨rfl, dy.go e.tx⟩
      · intro o x H2 _ _ im R r
        exact ⟨_, rfl, rfl, _, rfl, by rw [isnt_none im]; exact r⟩
      · intro o x H2 _ _ _ im R r
        exact ⟨_, rfl, r _ _ (Ex.refl _) im⟩
      · intro ys H3 e3 hD3 hy3
        rw [some_dO] at hy3
        exact r D2 _ H3 hD2 e3 hD3 ⟨ys, rfl, hy3⟩
    · intro ad H1 e1 hD1 hfr hinj hls
      have L1 : LLs H H1 D pic.houses.length ad (firstH pic) := ⟨hD1, hfr, hinj, fun i hi => by
        have ei : pic.houses[i]? = some pic.houses[i] := by simp [hi]
        obtain ⟨o, q1, zs, rfl, q2⟩ := hls i _ ei
        refine ⟨zs, q1, ?_⟩
        unfold firstH
        rw [ei]
        exact q2⟩
      refine ⟨_, rfl, a, C, dx, _, .ref pa, rfl, e1 _ _ ho, c'.cls, c'.nl, rfl, pa, _, 1, .ref b2, rfl, rfl, SqT.of (e1 _ _ hpa), rfl, b2, rfl, ⟨xs2, SqT.of (e1 _ _ hbx2)⟩, ?_⟩
      refine for_fold (as := pic.letters) (lx2 ▸ walk_tup (K := K) (a := b2) (xs := xs2)) (fun L l => fun i => L i ++ toH l i) (firstH pic) (fun L σ H' => ∃ v2 v3 v4 v5 v6 v7, σ = [some (.ref a), some (.ref D), v2, v3, v4, v5, v6, v7] ∧ Ex H H' ∧ LLs H H' D pic.houses.length ad L)
        ⟨_, _, _, _, _, _, rfl, e1, L1⟩ (fun _ σ H' ⟨_, _, _, _, _, _, _, e, _⟩ => SqT.of (e _ _ hbx2)) ?_ ?_
      · rintro i lt x L σ _ H2 hi hL ⟨v2, v3, v4, v5, v6, v7, rfl, e2, LL2⟩ ⟨rfl, hxi⟩
        obtain ⟨y, hy, dy⟩ := hx2.get (i := i) (d := dLetter lt) (by rw [List.getElem?_map, hi]; rfl)
        rw [hxi] at hy
        cases hy
        obtain ⟨c, u1, u2, u3, rfl, hc, g1, g2, g3⟩ := Dt.t3 (dy.go e2.tx)
        cases g2.intE
        obtain ⟨c1, zs, rfl, hc1, hzs⟩ := Dt.tupE (ds := lt.names.map dN) g3
        have hm := List.mem_of_getElem? hi
        obtain ⟨to1, to2⟩ := ok.lt lt hm
        have hto : lt.to.toNat < pic.houses.length := by omega
        have eto : ((lt.to.toNat : Nat) : Int) = lt.to := Int.toNat_of_nonneg to1
        obtain ⟨ys, q1, q2⟩ := LL2.ls _ hto
        have l1 := q2.len
        have l2 := hzs.len
        rw [List.length_map] at l1 l2
        have hh := hb.lns lt hm
        have lL : (L lt.to.toNat).length ≤ 200 := by
          rw [hL, fun_fold, List.length_append]
          have z1 := flat_len (fun l => toH l lt.to.toNat) 10 (pic.letters.take i) fun l hl => by
            unfold toH
            split
            · exact hb.lns l (List.mem_of_mem_take hl)
            · exact Nat.zero_le _
          rw [List.length_take] at z1
          have z2 := hb.ls
          have z3 : (firstH pic lt.to.toNat).length ≤ 10 := by
            unfold firstH
            split
            · exact Nat.zero_le _
            · rename_i h hh
              exact Nat.le_trans (List.length_filterMap_le _ _) (hb.hns h (List.mem_of_getElem? hh))
          omega
        refine ⟨c, _, rfl, SqT.of hc, rfl, _, _, rfl, _, _, rfl, _, _, rfl, rfl, ?_⟩
        refine ⟨_, rfl, _, rfl, D, _, lt.to, .ref (ad lt.to.toNat), rfl, rfl, SqL.of LL2.here, by rw [← eto]; exact atI_nat (refs_get ad hto), .inl ⟨rfl, _, SqL.of q1⟩, _, rfl, ad lt.to.toNat, c1, ys, zs, rfl, rfl, q1, hc1, le16 (by omega), ?_⟩
        exact ⟨_, _, _, _, _, _, rfl, e2.mut (LL2.fr _ hto).1, LL2.ext hto q1 q2 hzs⟩
      · rintro σ H2 ⟨v2, v3, v4, v5, v6, v7, rfl, e2, LL2⟩
        have : pic.letters.foldl (fun L l => fun i => L i ++ toH l i) (firstH pic) = firstM pic := by
          funext i
          rw [fun_fold]
          rfl
        rw [this] at LL2
        exact ⟨_, rfl, k D H2 ad hD e2 LL2⟩
end
end HF
set_option Elab.async false
set_option linter.all false
set_option maxRecDepth 100000
set_option maxHeartbeats 4000000
namespace HF
open PySem PySem.Spec PyProof.Rows L2
/-- where a house goes on within its own things -/
def exH (F : List (Nm × Flds)) (h : Int) (n : Nm) : List Nm := if n.1 = h then chl F n else []
def dTr (h : Int) (n : Nm) : PyData := .tuple [.int h, .int n.1, dN n]
theorem exH_S {F : List (Nm × Flds)} (g : GrB F) (h : Int) : ∀ a ∈ keys F, ∀ b ∈ exH F h a, b ∈ keys F := fun a ha b hb => by
  unfold exH at hb
  split at hb
  · exact g.chlS a ha b hb
  · cases hb
theorem eqInt {H : Hp} {x y : Int} {Q : VK} (k : Q (.bl (decide (x = y))) H) : rEqU (.int x) (.int y) H Q := by
  refine .mk (.int _) (.int _) (by simp [PyData.depth]) ?_
  have : PyData.eqv (.int x) (.int y) = decide (x = y) := by
    show (x == y) = decide (x = y)
    rfl
  rw [this]
  exact k
section
variable {P : Program} {w : World} {K : PySem.W.Frag} {mg : Str → Option Value} {base : Heap} {f : Addr} {fd : FuncData} {C : Addr}
def spGoOn (C : Addr) : Sp := fun vs H Q _ => ∃ a h l kd pic H0 xs R kms K0, vs = [.ref a, .int h, .ref l, .ref kd] ∧ RwO C H0 a pic ∧ Ex H0 H ∧ H0 kd = none ∧ PicOk pic ∧ H l = some (.lst xs) ∧ DtAll H xs (R.map dN) ∧ (∀ n ∈ R, n ∈ keys (fieldsF pic)) ∧ R.length ≤ 1000 ∧
  H kd = some (.dT kms) ∧ KNs kms K0 ∧ K0.Nodup ∧ (∀ n ∈ K0, n ∈ keys (fieldsF pic)) ∧ (∀ a ∈ K0, ∀ b ∈ exH (fieldsF pic) h a, b ∈ K0) ∧
  ∀ (lf : Addr) (H' : Hp) (ws : List V) (kms' : List (List Key × V)) (met fr : List Nm), H lf = none → Ch kd H H' → H' lf = some (.lst ws) → DtAll H' ws (fr.map (dTr h)) → H' kd = some (.dT kms') → KNs kms' met → met.Nodup → (∀ n ∈ met, n ∈ keys (fieldsF pic)) → (∀ n, n ∈ met ↔ n ∈ K0 ∨ Rch (exH (fieldsF pic) h) R n) →
    (∀ n, n ∈ fr ↔ n ∈ met ∧ n ∉ K0 ∧ n.1 ≠ h) → fr.Nodup → Q (.ref lf) H'
theorem sc_sMarks_go_on : FnScope ["self", "house", "names", "known", "fresh", "waiting", "name", "other"] ["self", "house", "names", "known"] (defScope sMarks_go_on) := ⟨rfl, rfl, rfl, by decide +kernel, rfl, by decide +kernel, by decide +kernel⟩
theorem ok_go_on (F : FnP K "go_on" "Marks.go_on" sMarks_go_on f fd) (B : Bl mg) (c' : RwC K C) : FnOk P w K mg base CX0 1 f fd ["self", "house", "names", "known"] (spGoOn C) := by
  refine F.ok sc_sMarks_go_on (fun vs H Q E h => ?_) (fun cdv A outer s H vs Q E hr h => ?_)
  · obtain ⟨a, h, l, kd, pic, H0, xs, R, kms, K0, rfl, _⟩ := h
    rfl
  · obtain ⟨a, h, l, kd, pic, H0, xs, R, kms, K0, rfl, hobj, e0, hkd0, ok, hl, hxs, hR, hR2, hkd, hkn, ndK, hK, hKc, k⟩ := h
    have hu := hu_of hr
    have hu64 := hr.units
    have g := ok.g
    refine ⟨_, PSs.nox (pss_cons (ps_set (i := 4) sc_sMarks_go_on.nd rfl (Or.inl rfl) (pe_lst pa_nil))
          (pss_cons (ps_set (i := 5) sc_sMarks_go_on.nd rfl (Or.inl rfl) (pe_callTy call_list_of (by rfl) B.list (by decide +kernel) (pa_cons (pv 2) pa_nil)))
          (pss_cons (ps_while PassesOwn.never (pt_cmpR op_gt (pe_callB call_len_seq (by rfl) B.len (by decide +kernel) (pa_cons (pv 5) pa_nil)) pe_int (nomark _))
          (pss_cons (ps_set (i := 6) sc_sMarks_go_on.nd rfl (Or.inl rfl) (pe_bm0 PySem.F.plainAttrs_list PySem.F.slot_list_pop PySem.F.type_list_pop mt_pop (pv 5)))
          (pss_one (ps_if (pt_cmp (pc_dnotin hu (pv 6) (pv 3)))
          (pss_cons (ps_dput hu (pv 3) (pv 6) pe_bl rfl)
          (pss_one (ps_if (pt_cmpR (op_eqU hu64) (pe_ix ix_tup (pv 6) pe_int (fun _ _ => rfl)) (pv 1) (nomark _))
          (pss_one (ps_expr (pe_bm PySem.F.plainAttrs_list PySem.F.slot_list_extend PySem.F.type_list_extend mt_extend (pv 5) (pa_cons (pe_lc (own := [("other", 7)]) (g := gName 7) rfl sc_sMarks_go_on.nd (pi_tup (pe_dget hu (pe_fld (pv 0) rfl) (pv 6) (fun _ _ => rfl))) (blkOk_by (N := ["self", "house", "names", "known", "fresh", "waiting", "name", "other"]) (sc := defScope sMarks_go_on) (by decide +kernel)) (fun _ _ _ _ _ => (pg_name (i := 7) sc_sMarks_go_on.nd rfl (Or.inl rfl))) (fun _ _ _ _ _ => (pts_one (pt_cmpR op_notN (pv 7) pe_non (nomark _)))) (fun _ _ _ _ _ => (pv 7))) pa_nil))))
          (pss_one (ps_expr (pe_bm PySem.F.plainAttrs_list PySem.F.slot_list_append PySem.F.type_list_append mt_append (pv 4) (pa_cons (pe_tup (pa_cons (pv 1) (pa_cons (pe_ix ix_tup (pv 6) pe_int (fun _ _ => rfl)) (pa_cons (pv 6) pa_nil)))) pa_nil)))))))
          pss_nil))))
          (pss_one (ps_ret (pv 4)))))), ?_⟩
    refine ⟨le16 (by show 0 ≤ 100000; decide), fun lf hlf => ?_⟩
    have e1 : Ex H (upd H lf (.lst [])) := Ex.new hlf
    have hf1 : (upd H lf (.lst [])) lf = some (.lst []) := upd_same
    generalize upd H lf (.lst []) = H1 at e1 hf1
    refine ⟨_, rfl, l, xs, rfl, .inl (SqL.of (e1 _ _ hl)), fun wl hwl => ?_⟩
    have e2 : Ex H1 (upd H1 wl (.lst xs)) := Ex.new hwl
    have hw2 : (upd H1 wl (.lst xs)) wl = some (.lst xs) := upd_same
    have hf2 := e2 _ _ hf1
    have hkd2 := e2 _ _ (e1 _ _ hkd)
    have nfw : lf ≠ wl := ne_of_none hf1 hwl
    have hwl0 : H wl = none := e1.back hwl
    have nkw : kd ≠ wl := ne_of_none hkd hwl0
    have nkf : kd ≠ lf := ne_of_none hkd hlf
    have e02 := e1.trans e2
    generalize upd H1 wl (.lst xs) = H2 at e2 hw2 hf2 hkd2 e02
    have mt : ∀ {H'}, Ch kd H H' → TX H H' := fun c => c.tx fun xs z => by rw [hkd] at z; cases z
    have ob : ∀ {H'}, Ch kd H H' → RwO C H' a pic := fun c => hobj.go fun x o hx => c x o (ne_of_none hx hkd0) (e0 x o hx)
    refine ⟨fun m σ H' => ∃ met wt fr kms ys ws v6 v7, σ = [some (.ref a), some (.int h), some (.ref l), some (.ref kd), some (.ref lf), some (.ref wl), v6, v7] ∧ Ch kd H H' ∧ H' kd = some (.dT kms) ∧ KNs kms met ∧ H' wl = some (.lst ys) ∧ DtAll H' ys (wt.map dN) ∧ H' lf = some (.lst ws) ∧ DtAll H' ws (fr.map (dTr h)) ∧
      Dfs (exH (fieldsF pic) h) (keys (fieldsF pic)) R K0 met wt ∧ (∀ n, n ∈ fr ↔ n ∈ met ∧ n ∉ K0 ∧ n.1 ≠ h) ∧ fr.Nodup ∧ m = 5 * unmet (keys (fieldsF pic)) met + wt.length ∧ m ≤ 3000,
      ⟨_, K0, R, [], kms, xs, [], none, none, rfl, e02.toCh, hkd2, hkn, hw2, hxs.go e02.tx, hf2, .nil, Dfs.init hR hK ndK hKc, fun n => ⟨fun z => (nomatch z), fun z => absurd z.1 z.2.1⟩, List.nodup_nil, rfl, ?_⟩, ?_⟩
    · have := unmet_le (keys (fieldsF pic)) K0
      have := g.klen
      omega
    · rintro m σ H3 ⟨met, wt, fr, kms, ys, ws, v6, v7, rfl, c3, hk3, hkn3, hw3, hy3, hf3, hws3, df, hfr, ndf, rfl, hm⟩
      have lw := hy3.len
      rw [List.length_map] at lw
      refine ⟨_, rfl, wl, ys, rfl, .inl (SqL.of hw3), _, _, rfl, rfl, _, rfl, ?_⟩
      rcases List.eq_nil_or_concat wt with rfl | ⟨wt, n, rfl⟩
      · have : ys = [] := List.eq_nil_of_length_eq_zero (by rw [lw]; rfl)
        subst this
        exact iteF ⟨_, rfl, k lf H3 ws kms met fr hlf c3 hf3 hws3 hk3 hkn3 df.nd df.ms df.done hfr ndf⟩
      · rw [List.concat_eq_append] at *
        have ne : decide ((0 : Int) < (ys.length : Nat)) = true := by
          rw [List.length_append, List.length_singleton] at lw
          rw [decide_eq_true_eq]
          omega
        rw [ne]
        refine iteT ⟨fun σ' H' => ∃ met' wt' fr kms ys ws v6 v7, σ' = [some (.ref a), some (.int h), some (.ref l), some (.ref kd), some (.ref lf), some (.ref wl), v6, v7] ∧ Ch kd H H' ∧ H' kd = some (.dT kms) ∧ KNs kms met' ∧ H' wl = some (.lst ys) ∧ DtAll H' ys (wt'.map dN) ∧ H' lf = some (.lst ws) ∧ DtAll H' ws (fr.map (dTr h)) ∧
          Dfs (exH (fieldsF pic) h) (keys (fieldsF pic)) R K0 met' wt' ∧ (∀ n, n ∈ fr ↔ n ∈ met' ∧ n ∉ K0 ∧ n.1 ≠ h) ∧ fr.Nodup ∧ 5 * unmet (keys (fieldsF pic)) met' + wt'.length < 5 * unmet (keys (fieldsF pic)) met + (wt ++ [n]).length,
          fun σ' H' ⟨a1, a2, a3, a4, a5, a6, a7, a8, b1, b2, b3, b4, b5, b6, b7, b8, b9, b10, b11, b12⟩ => ⟨_, b12, a1, a2, a3, a4, a5, a6, a7, a8, b1, b2, b3, b4, b5, b6, b7, b8, b9, b10, b11, rfl, Nat.le_of_lt (Nat.lt_of_lt_of_le b12 hm)⟩, ?_⟩
        rw [List.map_append] at hy3
        obtain ⟨ys, y, rfl, hy4, dn⟩ := hy3.snocE
        have hn : n ∈ keys (fieldsF pic) := df.ws n (List.mem_append_right _ List.mem_cons_self)
        refine ⟨_, rfl, .inl ⟨rfl, _, SqL.of hw3⟩, popped hw3 ?_⟩
        have t4 : TX H3 (upd H3 wl (.lst ys)) := TX.updL hw3
        have upw : ∀ {H3 H4 : Hp} {o : HO}, Ch kd H H3 → Ch kd H (upd H3 wl o) := fun c x o nx hx => by rw [upd_ne (ne_of_none hx hwl0)]; exact c x o nx hx
        have upf : ∀ {H3 : Hp} {o : HO}, Ch kd H H3 → Ch kd H (upd H3 lf o) := fun c x o nx hx => by rw [upd_ne (ne_of_none hx hlf)]; exact c x o nx hx
        have c4 : Ch kd H (upd H3 wl (.lst ys)) := fun x o nx hx => by rw [upd_ne (ne_of_none hx hwl0)]; exact c3 x o nx hx
        have hk4 : (upd H3 wl (.lst ys)) kd = some (.dT kms) := by rw [upd_ne nkw]; exact hk3
        have hf4 : (upd H3 wl (.lst ys)) lf = some (.lst ws) := by rw [upd_ne nfw]; exact hf3
        have hw4 : (upd H3 wl (.lst ys)) wl = some (.lst ys) := upd_same
        have hy5 := hy4.go t4
        have hws4 := hws3.go t4
        have dn4 := dn.go t4
        generalize upd H3 wl (.lst ys) = H4 at t4 c4 hk4 hf4 hw4 hy5 hws4 dn4
        obtain ⟨b, rfl, ha⟩ := dn4.nm
        refine ⟨_, rfl, _, rfl, kd, _, rfl, dget_of (.inl hk4) ha, _, rfl, ?_⟩
        rw [hkn3.isS n]
        by_cases hmt : n ∈ met
        · rw [decide_eq_true hmt]
          refine iteF ⟨met, wt, fr, kms, ys, ws, _, _, rfl, c4, hk4, hkn3, hw4, hy5, hf4, hws4, df.skip hmt, hfr, ndf, ?_⟩
          rw [List.length_append, List.length_singleton]
          omega
        · rw [decide_eq_false hmt]
          obtain ⟨fs, hfs⟩ := aget_some hn
          have lm : kms.length ≤ 400 := by
            rw [hkn3.len]
            exact Nat.le_trans (List.Nodup.length_le_of_subset df.nd df.ms) g.klen
          refine iteT ⟨_, rfl, _, rfl, kd, _, rfl, dput_of hk4 ha _ (by omega), ?_⟩
          have t5 : TX H4 (upd H4 kd (.dT (putK kms (nkey n) (.bl true)))) := TX.updD hk4
          have c5 : Ch kd H (upd H4 kd (.dT (putK kms (nkey n) (.bl true)))) := c4.trans Ch.up
          have hk5 : (upd H4 kd (.dT (putK kms (nkey n) (.bl true)))) kd = some (.dT (putK kms (nkey n) (.bl true))) := upd_same
          have hw5 : (upd H4 kd (.dT (putK kms (nkey n) (.bl true)))) wl = some (.lst ys) := by rw [upd_ne nkw.symm]; exact hw4
          have hf5 : (upd H4 kd (.dT (putK kms (nkey n) (.bl true)))) lf = some (.lst ws) := by rw [upd_ne nkf.symm]; exact hf4
          have hy6 := hy5.go t5
          have hws5 := hws4.go t5
          have ha5 := t5 _ _ ha
          have dn5 := dn4.go t5
          generalize upd H4 kd (.dT (putK kms (nkey n) (.bl true))) = H5 at t5 c5 hk5 hw5 hf5 hy6 hws5 ha5 dn5
          have hkn5 : KNs (putK kms (nkey n) (.bl true)) (met ++ [n]) := hkn3.put hmt _
          have hnK : n ∉ K0 := fun z => hmt (df.k0 n z)
          have l1 := hy6.len
          rw [List.length_map] at l1
          have l4 : wt.length ≤ 3000 := by
            rw [List.length_append] at hm
            omega
          have um := unmet_less hn hmt
          refine ⟨_, rfl, b, _, 0, .int n.1, rfl, rfl, SqT.of ha5, rfl, _, rfl, eqInt ⟨_, rfl, ?_⟩⟩
          by_cases hh : n.1 = h
          · rw [decide_eq_true hh]
            obtain ⟨dx, p, d, ho, hp, hd⟩ := (ob c5).ex
            obtain ⟨v, hv1, hv2⟩ := hd.get ha5 hfs
            obtain ⟨c, zs, rfl, hc, hzs⟩ := Dt.tupE hv2
            have ee : exH (fieldsF pic) h n = chl (fieldsF pic) n := by unfold exH; rw [if_pos hh]
            refine iteT ⟨_, rfl, .inl ⟨rfl, _, SqL.of hw5⟩, _, rfl, a, C, dx, _, .ref d, rfl, ho, c'.cls, c'.nf, rfl, _, rfl, d, .ref c, rfl, hv1, c, rfl, ⟨zs, SqT.of hc⟩, fun D hD => ?_⟩
            have lz : zs.length = fs.length := by rw [hzs.len, List.length_map]
            have lf := g.fls n fs hfs
            refine lc_data (as := fs) (H1 := H5) (lz ▸ walk_tup (K := K) (a := c) (xs := zs)) (fun o x H => Dt H x (dO o)) (·.isSome) dO (by omega) hD ?_ (fun H' e => SqT.of (e _ _ hc)) ?_ ?_ ?_ ?_
            · exact fun _ => rfl
            · rintro j o x H2 H3 hj e ⟨rfl, hx3⟩
              obtain ⟨y, hy, dy⟩ := hzs.get (i := j) (d := dO o) (by rw [List.getElem?_map, hj]; rfl)
              rw [hx3] at hy
              cases hy
              exact ⟨rfl, dy.go e.tx⟩
            · intro o x H2 _ _ im R r
              exact ⟨_, rfl, rfl, _, rfl, by rw [isnt_none im]; exact r⟩
            · intro o x H2 _ _ _ im R r
              exact ⟨_, rfl, r _ _ (Ex.refl _) im⟩
            · intro zs2 H6 e9 hD6 hz6
              rw [comp_chl hfs] at hz6
              have hw6 := e9 _ _ hw5
              have l2 := hz6.len
              rw [List.length_map] at l2
              have l3 := chl_len g n
              refine ⟨wl, D, ys, zs2, rfl, rfl, hw6, hD6, le16 (by omega), ?_⟩
              have t7 : TX H6 (upd H6 wl (.lst (ys ++ zs2))) := TX.updL hw6
              refine ⟨met ++ [n], wt ++ chl (fieldsF pic) n, fr, _, _, ws, _, _, rfl, fun x o nx hx => by rw [upd_ne (ne_of_none hx hwl0)]; exact e9 _ _ (c5 x o nx hx), by rw [upd_ne nkw]; exact e9 _ _ hk5, hkn5, upd_same, ?_, by rw [upd_ne nfw]; exact e9 _ _ hf5, hws5.go (e9.tx.trans t7), df.more hmt (exH_S g h) fun m => by rw [ee]; exact List.mem_append, fun q => ?_, ndf, ?_⟩
              · rw [List.map_append]
                exact ((hy6.go e9.tx).append hz6).go t7
              · rw [hfr q]
                constructor
                · exact fun z => ⟨List.mem_append_left _ z.1, z.2⟩
                · intro z
                  rcases List.mem_append.mp z.1 with y | y
                  · exact ⟨y, z.2⟩
                  · rw [List.mem_singleton.mp y] at z
                    exact absurd hh z.2.2
              · rw [List.length_append, List.length_append, List.length_singleton]
                omega
          · rw [decide_eq_false hh]
            have ee : exH (fieldsF pic) h n = [] := by unfold exH; rw [if_neg hh]
            have lws := hws5.len
            rw [List.length_map] at lws
            have lfr : fr.length ≤ 40 := g.sub40 ndf fun q hq => df.ms q ((hfr q).mp hq).1
            refine iteF ⟨_, rfl, .inl ⟨rfl, _, SqL.of hf5⟩, _, rfl, _, rfl, b, _, 0, .int n.1, rfl, rfl, SqT.of ha5, rfl, _, rfl, le16 (by show 3 ≤ 100000; decide), fun q hq => ?_⟩
            have e6 : Ex H5 (upd H5 q (.tup [.int h, .int n.1, .ref b])) := Ex.new hq
            have dq : Dt (upd H5 q (.tup [.int h, .int n.1, .ref b])) (.ref q) (dTr h n) := .tup upd_same (.cons (.int _) (.cons (.int _) (.cons (dn5.go e6.tx) .nil)))
            refine ⟨lf, ws, _, rfl, rfl, e6 _ _ hf5, lt16 (by omega), ?_⟩
            have t7 : TX _ (upd (upd H5 q (.tup [.int h, .int n.1, .ref b])) lf (.lst (ws ++ [.ref q]))) := TX.updL (e6 _ _ hf5)
            refine ⟨met ++ [n], wt, fr ++ [n], _, ys, _, _, _, rfl, fun x o nx hx => by rw [upd_ne (ne_of_none hx hlf)]; exact e6 _ _ (c5 x o nx hx), by rw [upd_ne nkf]; exact e6 _ _ hk5, hkn5, by rw [upd_ne nfw.symm]; exact e6 _ _ hw5, hy6.go (e6.tx.trans t7), upd_same, ?_, df.more hmt (exH_S g h) fun m => by rw [ee]; simp, fun q => ?_, ?_, ?_⟩
            · rw [List.map_append]
              exact ((hws5.go e6.tx).snoc dq).go t7
            · rw [List.mem_append, List.mem_append, hfr q]
              constructor
              · rintro (z | z)
                · exact ⟨.inl z.1, z.2⟩
                · rw [List.mem_singleton.mp z]
                  exact ⟨.inr (List.mem_singleton.mpr rfl), hnK, hh⟩
              · rintro ⟨z | z, z2⟩
                · exact .inl ⟨z, z2⟩
                · exact .inr z
            · refine List.nodup_append.mpr ⟨ndf, by simp, fun q hq q2 hq2 z => ?_⟩
              rw [List.mem_singleton.mp hq2] at z
              exact hmt (((hfr n).mp (z ▸ hq)).1)
            · rw [List.length_append, List.length_singleton]
              omega
end
end HF
set_option Elab.async false
set_option linter.all false
set_option maxRecDepth 100000
set_option maxHeartbeats 4000000
namespace HF
open PySem PySem.Spec PyProof.Rows L2
/-! ### marks, round by round -/
def tot : Nat → (Nat → Nat) → Nat
  | 0, _ => 0
  | m + 1, f => tot m f + f m
theorem tot_le {f g : Nat → Nat} : ∀ {m : Nat}, (∀ i < m, f i ≤ g i) → tot m f ≤ tot m g
  | 0, _ => Nat.le_refl _
  | m + 1, h => by
    have h1 := tot_le (m := m) fun i hi => h i (by omega)
    have h2 := h m (by omega)
    show tot m f + f m ≤ tot m g + g m
    omega
theorem tot_lt {f g : Nat → Nat} : ∀ {m i : Nat}, (∀ i < m, f i ≤ g i) → i < m → f i < g i → tot m f < tot m g
  | 0, _, _, h, _ => absurd h (Nat.not_lt_zero _)
  | m + 1, i, h, hi, hl => by
    have h2 := h m (by omega)
    show tot m f + f m < tot m g + g m
    by_cases e : i = m
    · subst e
      have h1 := tot_le (m := i) fun i hi => h i (by omega)
      omega
    · have h1 := tot_lt (m := m) (i := i) (fun i hi => h i (by omega)) (by omega) hl
      omega
theorem tot_bd {f : Nat → Nat} {k : Nat} : ∀ {m : Nat}, (∀ i < m, f i ≤ k) → tot m f ≤ k * m
  | 0, _ => by simp [tot]
  | m + 1, h => by
    have h1 := tot_bd (m := m) fun i hi => h i (by omega)
    have h2 := h m (by omega)
    rw [Nat.mul_add]
    show tot m f + f m ≤ _
    omega
/-- ahead of each round -/
structure Mk (F : List (Nm × Flds)) (R : List Nm) (m : Nat) (Hd Kn : Nat → List Nm) : Prop where
  nd : ∀ i < m, (Kn i).Nodup
  ks : ∀ i < m, ∀ n ∈ Kn i, n ∈ keys F
  hs : ∀ i < m, ∀ n ∈ Hd i, n ∈ keys F
  kr : ∀ i < m, ∀ n ∈ Kn i, Rch (chl F) R n
  hr : ∀ i < m, ∀ n ∈ Hd i, Rch (chl F) R n
  cl : ∀ i < m, ∀ a ∈ Kn i, ∀ b ∈ exH F (i : Int) a, b ∈ Kn i
  ro : ∀ i < m, ∀ j < m, ∀ n ∈ Kn i, n.1 = (j : Int) → j ≠ i → n ∈ Kn j ∨ n ∈ Hd j
  rt : ∀ r ∈ R, ∃ i < m, r ∈ Kn i ∨ r ∈ Hd i
  len : ∀ i < m, (Hd i).length ≤ 1000
/-- what a house has behind its going on -/
def Went (F : List (Nm × Flds)) (h : Int) (Hdi Kni Kn'i : List Nm) : Prop := Kn'i.Nodup ∧ (∀ n ∈ Kn'i, n ∈ keys F) ∧ ∀ n, n ∈ Kn'i ↔ n ∈ Kni ∨ Rch (exH F h) Hdi n
def FrOk (m : Nat) (Kn Kn' : Nat → List Nm) (fr : List (Nat × Nm)) : Prop := ∀ x, x ∈ fr ↔ x.1 < m ∧ x.2 ∈ Kn' x.1 ∧ x.2 ∉ Kn x.1 ∧ x.2.1 ≠ (x.1 : Int)
def hadOf (fr : List (Nat × Nm)) (j : Nat) : List Nm := fr.flatMap fun x => if x.2.1.toNat = j then [x.2] else []
theorem mem_hadOf {fr : List (Nat × Nm)} {j : Nat} {n : Nm} : n ∈ hadOf fr j ↔ ∃ i, (i, n) ∈ fr ∧ n.1.toNat = j := by
  unfold hadOf
  rw [List.mem_flatMap]
  constructor
  · rintro ⟨x, hx, h⟩
    split at h
    · have := List.mem_singleton.mp h
      subst this
      exact ⟨x.1, hx, by assumption⟩
    · cases h
  · rintro ⟨i, hi, e⟩
    exact ⟨(i, n), hi, by rw [if_pos e]; exact List.mem_singleton.mpr rfl⟩
section
variable {F : List (Nm × Flds)} {R : List Nm} {m : Nat} {Hd Kn Kn' : Nat → List Nm} {fr : List (Nat × Nm)}
theorem exH_sub {h : Int} {a b : Nm} (hb : b ∈ exH F h a) : b ∈ chl F a := by
  unfold exH at hb
  split at hb
  · exact hb
  · cases hb
theorem Mk.wentR (k : Mk F R m Hd Kn) {i : Nat} (hi : i < m) (w : Went F (i : Int) (Hd i) (Kn i) (Kn' i)) : ∀ n ∈ Kn' i, Rch (chl F) R n := fun n hn => by
  rcases (w.2.2 n).mp hn with h | h
  · exact k.kr i hi n h
  · induction h with
    | base hb => exact k.hr i hi _ hb
    | @step a b ha e ih => exact .step (ih ((w.2.2 a).mpr (.inr ha))) (exH_sub e)
theorem Mk.wentC (k : Mk F R m Hd Kn) {i : Nat} (hi : i < m) (w : Went F (i : Int) (Hd i) (Kn i) (Kn' i)) : ∀ a ∈ Kn' i, ∀ b ∈ exH F (i : Int) a, b ∈ Kn' i := fun a ha b hb => by
  rcases (w.2.2 a).mp ha with h | h
  · exact (w.2.2 b).mpr (.inl (k.cl i hi a h b hb))
  · exact (w.2.2 b).mpr (.inr (.step h hb))
theorem Mk.next (k : Mk F R m Hd Kn) (w : ∀ i < m, Went F (i : Int) (Hd i) (Kn i) (Kn' i)) (f : FrOk m Kn Kn' fr) (fl : fr.length ≤ 1000) : Mk F R m (hadOf fr) Kn' := by
  have hin : ∀ i < m, ∀ n ∈ Hd i, n ∈ Kn' i := fun i hi n hn => ((w i hi).2.2 n).mpr (.inr (.base hn))
  have kin : ∀ i < m, ∀ n ∈ Kn i, n ∈ Kn' i := fun i hi n hn => ((w i hi).2.2 n).mpr (.inl hn)
  have old : ∀ j, ∀ n ∈ hadOf fr j, ∃ i < m, n ∈ Kn' i := fun j n hn => by
    obtain ⟨i, h1, _⟩ := mem_hadOf.mp hn
    obtain ⟨h2, h3, _⟩ := (f (i, n)).mp h1
    exact ⟨i, h2, h3⟩
  refine ⟨fun i hi => (w i hi).1, fun i hi => (w i hi).2.1, fun j hj n hn => ?_, fun i hi => k.wentR hi (w i hi), fun j hj n hn => ?_, fun i hi => k.wentC hi (w i hi), fun i hi j hj n hn e ne => ?_, fun r hr => ?_, fun j hj => ?_⟩
  · obtain ⟨i, h1, h2⟩ := old j n hn
    exact (w i h1).2.1 n h2
  · obtain ⟨i, h1, h2⟩ := old j n hn
    exact k.wentR h1 (w i h1) n h2
  · by_cases hk : n ∈ Kn i
    · rcases k.ro i hi j hj n hk e ne with h | h
      · exact .inl (kin j hj n h)
      · exact .inl (hin j hj n h)
    · refine .inr (mem_hadOf.mpr ⟨i, (f (i, n)).mpr ⟨hi, hn, hk, fun z => ne ?_⟩, by rw [e]; rfl⟩)
      have : (j : Int) = (i : Int) := e.symm.trans z
      omega
  · obtain ⟨i, hi, h⟩ := k.rt r hr
    rcases h with h | h
    · exact ⟨i, hi, .inl (kin i hi r h)⟩
    · exact ⟨i, hi, .inl (hin i hi r h)⟩
  · unfold hadOf
    have := flat_len (fun x : Nat × Nm => if x.2.1.toNat = j then [x.2] else []) 1 fr fun x _ => by split <;> simp
    omega
/-- no fresh name: each has come to all of its own that can be come to -/
theorem Mk.done (k : Mk F R m Hd Kn) (w : ∀ i < m, Went F (i : Int) (Hd i) (Kn i) (Kn' i)) (f : FrOk m Kn Kn' []) (hR : ∀ r ∈ R, r ∈ keys F) (hF : ∀ n ∈ keys F, 0 ≤ n.1 ∧ n.1 < (m : Int)) (g : GrB F) {n : Nm} (hn : n ∈ keys F) : n ∈ Kn' n.1.toNat ↔ Rch (chl F) R n := by
  have idx : ∀ n ∈ keys F, n.1.toNat < m ∧ ((n.1.toNat : Nat) : Int) = n.1 := fun n hn => by
    have := hF n hn
    omega
  have hin : ∀ i < m, ∀ n ∈ Hd i, n ∈ Kn' i := fun i hi n hn => ((w i hi).2.2 n).mpr (.inr (.base hn))
  have kin : ∀ i < m, ∀ n ∈ Kn i, n ∈ Kn' i := fun i hi n hn => ((w i hi).2.2 n).mpr (.inl hn)
  have rou : ∀ i < m, ∀ n ∈ Kn' i, n ∈ Kn' n.1.toNat := fun i hi n hn => by
    obtain ⟨h1, h2⟩ := idx n ((w i hi).2.1 n hn)
    by_cases e : n.1.toNat = i
    · rw [e]; exact hn
    · by_cases hk : n ∈ Kn i
      · rcases k.ro i hi _ h1 n hk h2.symm e with h | h
        · exact kin _ h1 n h
        · exact hin _ h1 n h
      · have := (f (i, n)).mpr ⟨hi, hn, hk, fun z => e (by
          have : n.1 = (i : Int) := z
          omega)⟩
        cases this
  refine ⟨fun h => k.wentR (idx n hn).1 (w _ (idx n hn).1) n h, fun h => ?_⟩
  clear hn
  induction h with
  | @base r hb =>
    obtain ⟨i, hi, h⟩ := k.rt r hb
    rcases h with h | h
    · exact rou i hi r (kin i hi r h)
    · exact rou i hi r (hin i hi r h)
  | @step a b ha e ih =>
    have haF : a ∈ keys F := ha.within hR g.chlS
    obtain ⟨h1, h2⟩ := idx a haF
    have : b ∈ exH F ((a.1.toNat : Nat) : Int) a := by
      unfold exH
      rw [if_pos h2.symm]
      exact e
    exact rou _ h1 b (k.wentC h1 (w _ h1) a ih b this)
theorem Mk.less (w : ∀ i < m, Went F (i : Int) (Hd i) (Kn i) (Kn' i)) (f : FrOk m Kn Kn' fr) (ne : fr ≠ []) : tot m (fun i => unmet (keys F) (Kn' i)) < tot m (fun i => unmet (keys F) (Kn i)) := by
  cases fr with
  | nil => exact absurd rfl ne
  | cons x r =>
    obtain ⟨h1, h2, h3, _⟩ := (f x).mp List.mem_cons_self
    have kin : ∀ i < m, ∀ n ∈ Kn i, n ∈ Kn' i := fun i hi n hn => ((w i hi).2.2 n).mpr (.inl hn)
    exact tot_lt (fun i hi => unmet_anti (kin i hi)) h1 (unmet_lt (kin _ h1) ((w _ h1).2.1 _ h2) h3 h2)
end
theorem Mk.init {p : Pic} (ok : PicOk p) : Mk (fieldsF p) (heldF p) p.houses.length (firstM p) (fun _ => []) := by
  have sub : ∀ i, ∀ n ∈ firstM p i, n ∈ heldF p := fun i n hn => by
    unfold firstM at hn
    unfold heldF
    rw [app_fold_id, app_fold]
    rcases List.mem_append.mp hn with h | h
    · refine List.mem_append_left _ ?_
      unfold firstH at h
      split at h
      · cases h
      · rename_i hh e
        exact List.mem_flatMap.mpr ⟨hh, List.mem_of_getElem? e, h⟩
    · refine List.mem_append_right _ ?_
      obtain ⟨l, hl, h⟩ := List.mem_flatMap.mp h
      unfold toH at h
      split at h
      · exact List.mem_flatMap.mpr ⟨l, hl, h⟩
      · cases h
  refine ⟨fun i hi => List.nodup_nil, fun i hi n h => (nomatch h), fun i hi n h => ok.held n (sub i n h), fun i hi n h => (nomatch h), fun i hi n h => .base (sub i n h), fun i hi n h => (nomatch h), fun i hi j hj n h => (nomatch h), fun r hr => ?_, fun i hi => ?_⟩
  · unfold heldF at hr
    rw [app_fold_id, app_fold] at hr
    rcases List.mem_append.mp hr with h | h
    · obtain ⟨hh, h1, h2⟩ := List.mem_flatMap.mp h
      obtain ⟨i, hi⟩ := List.getElem?_of_mem h1
      refine ⟨i, (List.getElem?_eq_some_iff.mp hi).1, .inr ?_⟩
      unfold firstM firstH
      rw [hi]
      exact List.mem_append_left _ h2
    · obtain ⟨l, h1, h2⟩ := List.mem_flatMap.mp h
      have := ok.lt l h1
      refine ⟨l.to.toNat, by omega, .inr ?_⟩
      unfold firstM
      refine List.mem_append_right _ (List.mem_flatMap.mpr ⟨l, h1, ?_⟩)
      unfold toH
      rw [if_pos rfl]
      exact h2
  · unfold firstM
    rw [List.length_append]
    have z1 := flat_len (fun l => toH l i) 10 p.letters fun l hl => by
      unfold toH
      split
      · exact ok.b.lns l hl
      · exact Nat.zero_le _
    have z2 := ok.b.ls
    have z3 : (firstH p i).length ≤ 10 := by
      unfold firstH
      split
      · exact Nat.zero_le _
      · rename_i h hh
        exact Nat.le_trans (List.length_filterMap_le _ _) (ok.b.hns h (List.mem_of_getElem? hh))
    omega
end HF
set_option Elab.async false
set_option linter.all false
set_option maxRecDepth 100000
set_option maxHeartbeats 4000000
namespace HF
open PySem PySem.Spec PyProof.Rows L2
def dT3 (x : Nat × Nm) : PyData := dTr (x.1 : Int) x.2
theorem srt3 : Srt dT3 := ⟨fun a b => by simp [dT3, dTr, dN, PySem.W.alike, PySem.W.alikeAll], fun n => ⟨_, _, rfl⟩, fun n => by simp [dT3, dTr, dN, PyData.depth, PyData.depthAll]⟩
/-- m dicts of names, each its own, new since H0 -/
structure KLs (H0 H : Hp) (p : Addr) (m : Nat) (kd : Nat → Addr) (Kn : Nat → List Nm) : Prop where
  here : H p = some (.lst (refs m kd))
  fr : ∀ i < m, H0 (kd i) = none
  inj : ∀ i < m, ∀ j < m, kd i = kd j → i = j
  ls : ∀ i < m, ∃ kms, H (kd i) = some (.dT kms) ∧ KNs kms (Kn i)
theorem KLs.go {H0 H H' : Hp} {p : Addr} {m : Nat} {kd : Nat → Addr} {Kn : Nat → List Nm} (h : KLs H0 H p m kd Kn) (e : Ex H H') : KLs H0 H' p m kd Kn :=
  ⟨e _ _ h.here, h.fr, h.inj, fun i hi => by
    obtain ⟨kms, h1, h2⟩ := h.ls i hi
    exact ⟨kms, e _ _ h1, h2⟩⟩
/-- a list is changed that is none of these -/
theorem KLs.updL {H0 H : Hp} {p q : Addr} {m : Nat} {kd : Nat → Addr} {Kn : Nat → List Nm} {xs ys : List V} (h : KLs H0 H p m kd Kn) (hq : H q = some (.lst xs)) (ne : p ≠ q) : KLs H0 (upd H q (.lst ys)) p m kd Kn :=
  ⟨by rw [upd_ne ne]; exact h.here, h.fr, h.inj, fun i hi => by
    obtain ⟨kms, h1, h2⟩ := h.ls i hi
    exact ⟨kms, by rw [upd_ne fun z => by rw [z, hq] at h1; cases h1]; exact h1, h2⟩⟩
theorem LLs.updL {H0 H : Hp} {p q : Addr} {m : Nat} {ad : Nat → Addr} {L : Nat → List Nm} {xs ys : List V} (h : LLs H0 H p m ad L) (hq : H q = some (.lst xs)) (ne : p ≠ q) (na : ∀ i < m, ad i ≠ q) : LLs H0 (upd H q (.lst ys)) p m ad L :=
  ⟨by rw [upd_ne ne]; exact h.here, h.fr, h.inj, fun i hi => by
    obtain ⟨xs, h1, h2⟩ := h.ls i hi
    exact ⟨xs, by rw [upd_ne (na i hi)]; exact h1, h2.go (TX.updL hq)⟩⟩
theorem LLs.ch {H0 H H' : Hp} {p k : Addr} {m : Nat} {ad : Nat → Addr} {L : Nat → List Nm} {kms : List (List Key × V)} (h : LLs H0 H p m ad L) (hk : H k = some (.dT kms)) (c : Ch k H H') : LLs H0 H' p m ad L :=
  ⟨c _ _ (fun z => by have := h.here; rw [z, hk] at this; cases this) h.here, h.fr, h.inj, fun i hi => by
    obtain ⟨xs, h1, h2⟩ := h.ls i hi
    exact ⟨xs, c _ _ (fun z => by rw [z, hk] at h1; cases h1) h1, h2.go (c.tx fun xs z => by rw [hk] at z; cases z)⟩⟩
section
variable {P : Program} {w : World} {K : PySem.W.Frag} {mg : Str → Option Value} {base : Heap} {f : Addr} {fd : FuncData} {C : Addr}
structure MSent (P : Program) (w : World) (K : PySem.W.Frag) (mg : Str → Option Value) (base : Heap) (C : Addr) : Prop where
  cls : Cls K C
  first : CalM P w K mg base C "first" ["self"] 1 (spFirstM C)
  go_on : CalM P w K mg base C "go_on" ["self", "house", "names", "known"] 1 (spGoOn C)
def spSent (C : Addr) : Sp := fun vs H Q _ => ∃ a pic, vs = [.ref a] ∧ RwO C H a pic ∧ PicOk pic ∧ ∀ t H' tv kp kd Kn, Ex H H' → H' t = some (.tup [tv, .ref kp]) → KLs H H' kp pic.houses.length kd Kn → (∀ n ∈ keys (fieldsF pic), n ∈ Kn n.1.toNat ↔ Rch (chl (fieldsF pic)) (heldF pic) n) → Q (.ref t) H'
theorem sc_sMarks_sent : FnScope ["self", "had", "known", "told", "fresh", "house", "names", "sender", "to", "name"] ["self"] (defScope sMarks_sent) := ⟨rfl, rfl, rfl, by decide +kernel, rfl, by decide +kernel, by decide +kernel⟩
theorem ok_sent (F : FnP K "sent" "Marks.sent" sMarks_sent f fd) (B : Bl mg) (M : MSent P w K mg base C) : FnOk P w K mg base CX0 2 f fd ["self"] (spSent C) := by
  refine F.ok sc_sMarks_sent (fun vs H Q E h => ?_) (fun cdv A outer s H vs Q E hr h => ?_)
  · obtain ⟨a, pic, rfl, _⟩ := h
    rfl
  · obtain ⟨a, pic, rfl, hobj, ok, k⟩ := h
    have hu := hu_of hr
    have hu64 := hr.units
    refine ⟨_, PSs.nox (pss_cons (ps_set (i := 1) sc_sMarks_sent.nd rfl (Or.inl rfl) (pe_calM0 M.first (hr.mono (by decide)) pass0 M.cls (pv 0)))
          (pss_cons (ps_setLc (i := 2) (own := [("names", 6)]) (g := gName 6) (tt := tYes) rfl sc_sMarks_sent.nd rfl rfl (sw_true rfl rfl rfl (by decide +kernel)) (pi_list (pv 1)) (blkOk_by (N := ["self", "had", "known", "told", "fresh", "house", "names", "sender", "to", "name"]) (sc := defScope sMarks_sent) (by decide +kernel)) (fun _ _ _ _ _ => (pg_name (i := 6) sc_sMarks_sent.nd rfl (Or.inl rfl))) (fun _ _ _ _ _ => pts_nil) (fun _ _ _ _ _ => pe_dnewT))
          (pss_cons (ps_set (i := 3) sc_sMarks_sent.nd rfl (Or.inl rfl) (pe_lst pa_nil))
          (pss_one (ps_while PassesOwn.never (pt_val pe_bl)
          (pss_cons (ps_set (i := 4) sc_sMarks_sent.nd rfl (Or.inl rfl) (pe_lst pa_nil))
          (pss_cons (ps_for PassesOwn.never rfl (pi_enum (by rfl) B.enumerate (pa_cons (pv 1) pa_nil)) (pg_tup rfl (pgs_cons (pg_name (i := 5) sc_sMarks_sent.nd rfl (Or.inl rfl)) (pgs_cons (pg_name (i := 6) sc_sMarks_sent.nd rfl (Or.inl rfl)) pgs_nil)))
          (pss_one (ps_expr (pe_bm PySem.F.plainAttrs_list PySem.F.slot_list_extend PySem.F.type_list_extend mt_extend (pv 4) (pa_cons (pe_calM M.go_on (hr.mono (by decide)) pass0 M.cls (pv 0) (pa_cons (pv 5) (pa_cons (pv 6) (pa_cons (pe_ix ix_list (pv 2) (pv 5) (fun _ _ => rfl)) pa_nil)))) pa_nil)))))
          (pss_cons (ps_if (pt_cmpR (op_eqU hu64) (pe_callB call_len_seq (by rfl) B.len (by decide +kernel) (pa_cons (pv 4) pa_nil)) pe_int (nomark _))
          (pss_one (ps_ret (pe_tup (pa_cons (pv 3) (pa_cons (pv 2) pa_nil)))))
          pss_nil)
          (pss_cons (ps_expr (pe_bm PySem.F.plainAttrs_list PySem.F.slot_list_append PySem.F.type_list_append mt_append (pv 3) (pa_cons (pe_callB (cr_sortU srt3 hu64) (by rfl) B.sorted (by decide +kernel) (pa_cons (pv 4) pa_nil)) pa_nil)))
          (pss_cons (ps_setLc (i := 1) (own := [("names", 6)]) (g := gName 6) (tt := tYes) rfl sc_sMarks_sent.nd rfl rfl (sw_true rfl rfl rfl (by decide +kernel)) (pi_list (pv 1)) (blkOk_by (N := ["self", "had", "known", "told", "fresh", "house", "names", "sender", "to", "name"]) (sc := defScope sMarks_sent) (by decide +kernel)) (fun _ _ _ _ _ => (pg_name (i := 6) sc_sMarks_sent.nd rfl (Or.inl rfl))) (fun _ _ _ _ _ => pts_nil) (fun _ _ _ _ _ => (pe_lst pa_nil)))
          (pss_one (ps_for PassesOwn.never rfl (pi_list (pv 4)) (pg_tup rfl (pgs_cons (pg_name (i := 7) sc_sMarks_sent.nd rfl (Or.inl rfl)) (pgs_cons (pg_name (i := 8) sc_sMarks_sent.nd rfl (Or.inl rfl)) (pgs_cons (pg_name (i := 9) sc_sMarks_sent.nd rfl (Or.inl rfl)) pgs_nil))))
          (pss_one (ps_expr (pe_bm PySem.F.plainAttrs_list PySem.F.slot_list_append PySem.F.type_list_append mt_append (pe_ix ix_list (pv 1) (pv 8) (fun _ _ => rfl)) (pa_cons (pv 9) pa_nil)))))))))))))))), ?_⟩
    obtain ⟨dx, p, d, ho, hv, hd⟩ := hobj.ex
    have m8 := ok.b.hs
    refine ⟨_, rfl, a, dx, _, rfl, ho, rfl, a, pic, rfl, hobj, ok, fun hp H1 ad hhp e1 LL1 => ?_⟩
    refine ⟨_, rfl, hp, rfl, ⟨_, SqL.of LL1.here⟩, fun kp hkp => ?_⟩
    have lr : (refs pic.houses.length ad).length = (List.range pic.houses.length).length := by rw [refs_len, List.length_range]
    refine lc_fresh (as := List.range pic.houses.length) (H1 := H1) (lr ▸ walk_list (K := K) (a := hp) (xs := refs pic.houses.length ad)) (fun _ _ _ => True) (fun _ σ _ => ∃ v, σ = [some (.ref a), some (.ref hp), none, none, none, none, some v, none, none, none])
      (fun _ o _ => o = .dT []) (by rw [List.length_range]; omega) hkp (fun _ _ _ _ h _ => h) (fun H' e => SqL.of (e _ _ LL1.here)) ?_ ?_ ?_ ?_
    · rintro j i x H2 H3 hj e ⟨rfl, hx3⟩
      exact ⟨Ex.refl _, trivial⟩
    · intro i x H2 _ e im R r
      exact r _ rfl ⟨x, rfl⟩
    · rintro i σ2 H2 _ e ⟨v, rfl⟩ R r
      intro q hq
      exact r q _ _ hq (Ex.new hq) upd_same rfl
    intro kd H2 e2 hkp2 hfr hinj hls
    rw [List.length_range] at hkp2 hfr hinj
    have e02 := e1.trans e2
    have KK2 : KLs H H2 kp pic.houses.length kd (fun _ => []) := ⟨hkp2, fun i hi => e1.back (hfr i hi).1, hinj, fun i hi => by
      obtain ⟨o, q1, rfl⟩ := hls i i (by rw [List.getElem?_range hi])
      exact ⟨[], q1, rfl⟩⟩
    have LL2 := LL1.go e2
    have nhk : hp ≠ kp := ne_of_none LL1.here hkp
    have adk : ∀ i < pic.houses.length, ad i ≠ kp := fun i hi z => by
      obtain ⟨xs, h1, h2⟩ := LL1.ls i hi
      rw [z, hkp] at h1
      cases h1
    refine ⟨le16 (by show 0 ≤ 100000; decide), fun tp htp => ?_⟩
    have e3 : Ex H2 (upd H2 tp (.lst [])) := Ex.new htp
    have ht3 : (upd H2 tp (.lst [])) tp = some (.lst []) := upd_same
    have htp0 : H tp = none := e02.back htp
    have nht : hp ≠ tp := ne_of_none LL2.here htp
    have nkt : kp ≠ tp := ne_of_none KK2.here htp
    have adt : ∀ i < pic.houses.length, ad i ≠ tp := fun i hi z => by
      obtain ⟨xs, h1, h2⟩ := LL2.ls i hi
      rw [z, htp] at h1
      cases h1
    have LL3 := LL2.go e3
    have KK3 := KK2.go e3
    have e03 := e02.trans e3
    have hkp0 : H kp = none := e1.back hkp
    generalize upd H2 tp (.lst []) = H3 at e3 ht3 LL3 KK3 e03
    refine ⟨fun z σ H' => ∃ hp ad Hd Kn ts v4 v5 v6 v7 v8 v9, σ = [some (.ref a), some (.ref hp), some (.ref kp), some (.ref tp), v4, v5, v6, v7, v8, v9] ∧ Ex H H' ∧ LLs H H' hp pic.houses.length ad Hd ∧ hp ≠ kp ∧ hp ≠ tp ∧ (∀ i < pic.houses.length, ad i ≠ kp ∧ ad i ≠ tp) ∧ KLs H H' kp pic.houses.length kd Kn ∧ H' tp = some (.lst ts) ∧
        Mk (fieldsF pic) (heldF pic) pic.houses.length Hd Kn ∧ z = tot pic.houses.length (fun i => unmet (keys (fieldsF pic)) (Kn i)) ∧ ts.length + z ≤ 400,
      ⟨_, hp, ad, firstM pic, _, [], none, none, none, none, none, none, rfl, e03, LL3, nhk, nht, fun i hi => ⟨adk i hi, adt i hi⟩, KK3, ht3, Mk.init ok, rfl, ?_⟩, ?_⟩
    · have := tot_bd (m := pic.houses.length) (f := fun i => unmet (keys (fieldsF pic)) []) (k := 40) fun i _ => Nat.le_trans (unmet_le _ _) ok.g.k40
      rw [List.length_nil]
      omega
    rintro z σ H4 ⟨hp, ad, Hd, Kn, ts, v4, v5, v6, v7, v8, v9, rfl, e4, LL4, nhk, nht, hadk, KK4, ht4, mk, rfl, hz⟩
    refine ⟨_, rfl, ?_⟩
    refine iteT ⟨fun σ' H' => ∃ hp ad Hd Kn' ts' v4 v5 v6 v7 v8 v9, σ' = [some (.ref a), some (.ref hp), some (.ref kp), some (.ref tp), v4, v5, v6, v7, v8, v9] ∧ Ex H H' ∧ LLs H H' hp pic.houses.length ad Hd ∧ hp ≠ kp ∧ hp ≠ tp ∧ (∀ i < pic.houses.length, ad i ≠ kp ∧ ad i ≠ tp) ∧ KLs H H' kp pic.houses.length kd Kn' ∧ H' tp = some (.lst ts') ∧
        Mk (fieldsF pic) (heldF pic) pic.houses.length Hd Kn' ∧ tot pic.houses.length (fun i => unmet (keys (fieldsF pic)) (Kn' i)) < tot pic.houses.length (fun i => unmet (keys (fieldsF pic)) (Kn i)) ∧ ts'.length ≤ ts.length + 1,
      fun σ' H' ⟨a1, a2, a3, a4, a5, b1, b2, b3, b4, b5, b6, c1, c2, c3, c4, c5, c6, c7, c8, c9, c10, c11⟩ => ⟨_, c10, a1, a2, a3, a4, a5, b1, b2, b3, b4, b5, b6, c1, c2, c3, c4, c5, c6, c7, c8, c9, rfl, by omega⟩, ?_⟩
    refine ⟨le16 (by show 0 ≤ 100000; decide), fun lf hlf => ?_⟩
    have e5 : Ex H4 (upd H4 lf (.lst [])) := Ex.new hlf
    have hf5 : (upd H4 lf (.lst [])) lf = some (.lst []) := upd_same
    have hlf0 : H lf = none := e4.back hlf
    have nhl : hp ≠ lf := ne_of_none LL4.here hlf
    have nkl : kp ≠ lf := ne_of_none KK4.here hlf
    have ntl : tp ≠ lf := ne_of_none ht4 hlf
    have adl : ∀ i < pic.houses.length, ad i ≠ lf := fun i hi z => by
      obtain ⟨xs, h1, h2⟩ := LL4.ls i hi
      rw [z, hlf] at h1
      cases h1
    have e05 := e4.trans e5
    have LL5 := LL4.go e5
    have KK5 := KK4.go e5
    have ht5 := e5 _ _ ht4
    generalize upd H4 lf (.lst []) = H5 at e5 hf5 e05 LL5 KK5 ht5
    refine ⟨_, rfl, hp, refs pic.houses.length ad, rfl, SqL.of LL5.here, ?_⟩
    refine for_it (walk_enum (K := K) (a := hp) (xs := refs pic.houses.length ad)) (fun i σ H' => ∃ Kn' fr ws v5 v6, σ = [some (.ref a), some (.ref hp), some (.ref kp), some (.ref tp), some (.ref lf), v5, v6, v7, v8, v9] ∧ Ex H H' ∧ LLs H H' hp pic.houses.length ad Hd ∧ KLs H H' kp pic.houses.length kd Kn' ∧ H' tp = some (.lst ts) ∧ H' lf = some (.lst ws) ∧ DtAll H' ws (fr.map dT3) ∧
        (∀ j < i, Went (fieldsF pic) (j : Int) (Hd j) (Kn j) (Kn' j)) ∧ (∀ j, i ≤ j → Kn' j = Kn j) ∧ (∀ x, x ∈ fr ↔ x.1 < i ∧ x.2 ∈ Kn' x.1 ∧ x.2 ∉ Kn x.1 ∧ x.2.1 ≠ (x.1 : Int)) ∧ fr.length ≤ 40 * i)
      ⟨Kn, [], [], _, _, rfl, e05, LL5, KK5, ht5, hf5, .nil, fun j h => absurd h (Nat.not_lt_zero _), fun _ _ => rfl, fun x => ⟨fun z => (nomatch z), fun z => absurd z.1 (Nat.not_lt_zero _)⟩, Nat.zero_le _⟩ (fun i σ H' _ ⟨_, _, _, _, _, _, _, L, _⟩ => SqL.of L.here) ?_ ?_
    · rintro i x σ H6 H7 hi ⟨Kn', fr, ws, v5, v6, rfl, e6, LL6, KK6, ht6, hf6, hws6, hwent, hsame, hfr, hfl⟩ ⟨T, x1, x2, rfl, hT, rfl, q1, q2⟩
      rw [refs_len] at hi
      cases q1
      have q2 : (refs pic.houses.length ad)[i]? = some x2 := q2
      rw [refs_get ad hi] at q2
      cases q2
      refine ⟨T, _, rfl, SqT.of upd_same, rfl, _, _, rfl, _, _, rfl, rfl, ?_⟩
      have e7 : Ex H6 (upd H6 T (.tup [.int (i : Nat), .ref (ad i)])) := Ex.new hT
      have e07 := e6.trans e7
      have LL7 := LL6.go e7
      have KK7 := KK6.go e7
      have ht7 := e7 _ _ ht6
      have hf7 := e7 _ _ hf6
      have hws7 := hws6.go e7.tx
      generalize upd H6 T (.tup [.int (i : Nat), .ref (ad i)]) = H7 at e7 e07 LL7 KK7 ht7 hf7 hws7
      obtain ⟨xs, hx1, hx2⟩ := LL7.ls i hi
      obtain ⟨kms, hk1, hk2⟩ := KK7.ls i hi
      rw [hsame i (Nat.le_refl _)] at hk2
      have lH := mk.len i hi
      refine ⟨_, rfl, .inl ⟨rfl, _, SqL.of hf7⟩, _, rfl, a, dx, _, rfl, e07 _ _ ho, rfl, _, rfl, _, rfl, _, rfl, _, rfl, kp, _, (i : Nat), .ref (kd i), rfl, rfl, SqL.of KK7.here, atI_nat (refs_get kd hi), a, (i : Nat), ad i, kd i, pic, H, xs, Hd i, kms, Kn i, rfl, hobj, e07, KK7.fr i hi, ok, hx1, hx2, mk.hs i hi, lH, hk1, hk2, mk.nd i hi, mk.ks i hi, mk.cl i hi, ?_⟩
      intro l2 H8 ws2 kms2 met fr2 hl2 c8 hl28 hws8 hk8 hkn8 ndm hmk hmet hfr2 ndf
      have ne7 : ∀ {q xs}, H7 q = some (.lst xs) → q ≠ kd i := fun h z => by rw [z, hk1] at h; cases h
      have hf8 := c8 _ _ (ne7 hf7) hf7
      have nl2f : l2 ≠ lf := fun z => by rw [z, hf7] at hl2; cases hl2
      have t8 : TX H7 H8 := c8.tx fun xs z => by rw [hk1] at z; cases z
      have lw := hws7.len
      have lw2 := hws8.len
      rw [List.length_map] at lw lw2
      have lf2 : fr2.length ≤ 40 := ok.g.sub40 ndf fun q hq => hmk q ((hfr2 q).mp hq).1
      refine ⟨lf, l2, ws, ws2, rfl, rfl, hf8, hl28, le16 (by omega), ?_⟩
      have LL8 := LL7.ch hk1 c8
      have t9 : TX H8 (upd H8 lf (.lst (ws ++ ws2))) := TX.updL hf8
      have KK8 : KLs H H8 kp pic.houses.length kd (fun j => if j = i then met else Kn' j) := ⟨c8 _ _ (ne7 KK7.here) KK7.here, KK7.fr, KK7.inj, fun j hj => by
        by_cases e : j = i
        · subst e
          simp only [if_true]
          exact ⟨kms2, hk8, hkn8⟩
        · simp only [e, if_false]
          obtain ⟨kms3, y1, y2⟩ := KK7.ls j hj
          exact ⟨kms3, c8 _ _ (fun z => e (KK7.inj j hj i hi z)) y1, y2⟩⟩
      refine ⟨_, fr ++ fr2.map fun n => (i, n), _, _, _, rfl, ?_, LL8.updL hf8 nhl adl, KK8.updL hf8 nkl, by rw [upd_ne ntl]; exact c8 _ _ (ne7 ht7) ht7, upd_same, ?_, fun j hj => ?_, fun j hj => ?_, fun x => ?_, ?_⟩
      · refine Ex.mut (fun q o hq => c8 _ _ (fun z => ?_) (e07 _ _ hq)) hlf0
        rw [z, KK7.fr i hi] at hq
        cases hq
      · rw [List.map_append, List.map_map]
        exact ((hws7.go t8).append hws8).go t9
      · by_cases e : j = i
        · subst e
          simp only [if_true]
          exact ⟨ndm, hmk, hmet⟩
        · simp only [e, if_false]
          exact hwent j (by omega)
      · have : ¬ j = i := by omega
        simp only [this, if_false]
        exact hsame j (by omega)
      · obtain ⟨x1, x2⟩ := x
        rw [List.mem_append, hfr]
        by_cases e : x1 = i
        · subst e
          simp only [if_true]
          constructor
          · rintro (y | y)
            · exact absurd y.1 (Nat.lt_irrefl _)
            · obtain ⟨n, hn, e⟩ := List.mem_map.mp y
              cases e
              obtain ⟨y1, y2, y3⟩ := (hfr2 x2).mp hn
              exact ⟨Nat.lt_succ_self _, y1, y2, y3⟩
          · rintro ⟨y1, y2, y3, y4⟩
            exact .inr (List.mem_map.mpr ⟨x2, (hfr2 x2).mpr ⟨y2, y3, y4⟩, rfl⟩)
        · simp only [e, if_false]
          constructor
          · rintro (y | y)
            · exact ⟨Nat.lt_succ_of_lt y.1, y.2⟩
            · obtain ⟨n, hn, e2⟩ := List.mem_map.mp y
              cases e2
              exact absurd rfl e
          · rintro ⟨y1, y2⟩
            exact .inl ⟨by omega, y2⟩
      · rw [List.length_append, List.length_map]
        omega
    rintro σ H6 ⟨Kn', fr, ws, v5, v6, rfl, e6, LL6, KK6, ht6, hf6, hws6, hwent, hsame, hfr, hfl⟩
    rw [refs_len] at hwent hfr hfl
    have lw := hws6.len
    rw [List.length_map] at lw
    refine ⟨_, rfl, lf, ws, rfl, .inl (SqL.of hf6), eqInt ⟨_, rfl, ?_⟩⟩
    have hfrok : FrOk pic.houses.length Kn Kn' fr := hfr
    cases fr with
    | nil =>
      have : ws = [] := List.eq_nil_of_length_eq_zero (by rw [lw]; rfl)
      subst this
      refine iteT ⟨_, rfl, _, rfl, le16 (by show 2 ≤ 100000; decide), fun t ht => ?_⟩
      have e7 : Ex H6 (upd H6 t (.tup [.ref tp, .ref kp])) := Ex.new ht
      exact k t _ (.ref tp) kp kd Kn' (e6.trans e7) upd_same (KK6.go e7) fun n hn => mk.done hwent hfrok ok.held ok.hs ok.g hn
    | cons f0 fr =>
      have ne : decide ((ws.length : Int) = 0) = false := by
        rw [decide_eq_false_iff_not]
        rw [List.length_cons] at lw
        omega
      rw [ne]
      have hlt := Mk.less hwent hfrok (fun z => nomatch z)
      have mk2 := mk.next hwent hfrok (by omega)
      refine iteF ⟨_, rfl, .inl ⟨rfl, _, SqL.of ht6⟩, _, rfl, lf, ws, f0 :: fr, rfl, hf6, hws6, fun ys q hq hy => ?_⟩
      have e7 : Ex H6 (upd H6 q (.lst ys)) := Ex.new hq
      have ht7 := e7 _ _ ht6
      refine ⟨tp, ts, _, rfl, rfl, ht7, lt16 (by omega), ?_⟩
      have t8 : TX (upd H6 q (.lst ys)) (upd (upd H6 q (.lst ys)) tp (.lst (ts ++ [.ref q]))) := TX.updL ht7
      have e8 : Ex H (upd (upd H6 q (.lst ys)) tp (.lst (ts ++ [.ref q]))) := (e6.trans e7).mut htp0
      have LL8 := (LL6.go e7).updL (ys := ts ++ [.ref q]) ht7 nht (fun i hi => (hadk i hi).2)
      have KK8 := (KK6.go e7).updL (ys := ts ++ [.ref q]) ht7 nkt
      have ht8 : (upd (upd H6 q (.lst ys)) tp (.lst (ts ++ [.ref q]))) tp = some (.lst (ts ++ [.ref q])) := upd_same
      have hf8 : (upd (upd H6 q (.lst ys)) tp (.lst (ts ++ [.ref q]))) lf = some (.lst ws) := by rw [upd_ne ntl.symm]; exact e7 _ _ hf6
      have hws8 := hws6.go (e7.tx.trans t8)
      generalize upd (upd H6 q (.lst ys)) tp (.lst (ts ++ [.ref q])) = H8 at e8 LL8 KK8 ht8 hf8 hws8
      refine ⟨_, rfl, hp, rfl, ⟨_, SqL.of LL8.here⟩, fun hp2 hhp2 => ?_⟩
      have lr : (refs pic.houses.length ad).length = (List.range pic.houses.length).length := by rw [refs_len, List.length_range]
      refine lc_fresh (as := List.range pic.houses.length) (H1 := H8) (lr ▸ walk_list (K := K) (a := hp) (xs := refs pic.houses.length ad)) (fun _ _ _ => True) (fun _ σ _ => ∃ v, σ = [some (.ref a), some (.ref hp), some (.ref kp), some (.ref tp), some (.ref lf), v5, some v, v7, v8, v9])
        (fun _ o _ => o = .lst []) (by rw [List.length_range]; omega) hhp2 (fun _ _ _ _ h _ => h) (fun H' e => SqL.of (e _ _ LL8.here)) ?_ ?_ ?_ ?_
      · rintro j i x H2 H3 hj e ⟨rfl, hx3⟩
        exact ⟨Ex.refl _, trivial⟩
      · intro i x H2 _ e im R r
        exact r _ rfl ⟨x, rfl⟩
      · rintro i σ2 H2 _ e ⟨v, rfl⟩ R r
        exact ⟨le16 (by show 0 ≤ 100000; decide), fun q hq => r q _ _ hq (Ex.new hq) upd_same rfl⟩
      intro ad2 H9 e9 hhp9 hfr9 hinj9 hls9
      rw [List.length_range] at hhp9 hfr9 hinj9
      have L9 : LLs H H9 hp2 pic.houses.length ad2 (fun _ => []) := ⟨hhp9, fun i hi => ⟨e8.back (hfr9 i hi).1, (hfr9 i hi).2⟩, hinj9, fun i hi => by
        obtain ⟨o, y1, rfl⟩ := hls9 i i (by rw [List.getElem?_range hi])
        exact ⟨[], y1, .nil⟩⟩
      have n2 : ∀ {q o}, H8 q = some o → hp2 ≠ q ∧ ∀ i < pic.houses.length, ad2 i ≠ q := fun h => ⟨fun z => (by rw [← z, hhp2] at h; cases h), fun i hi z => (by rw [← z, (hfr9 i hi).1] at h; cases h)⟩
      have hf9 := e9 _ _ hf8
      refine ⟨_, rfl, lf, rfl, ⟨ws, SqL.of hf9⟩, ?_⟩
      have lwf : ws.length = (f0 :: fr).length := lw
      refine for_fold (as := f0 :: fr) (lwf ▸ walk_list (K := K) (a := lf) (xs := ws)) (fun L x => fun j => L j ++ if x.2.1.toNat = j then [x.2] else []) (fun _ => []) (fun L σ H' => ∃ v5 v6 v7 v8 v9, σ = [some (.ref a), some (.ref hp2), some (.ref kp), some (.ref tp), some (.ref lf), v5, v6, v7, v8, v9] ∧ Ex H H' ∧ LLs H H' hp2 pic.houses.length ad2 L ∧ KLs H H' kp pic.houses.length kd Kn' ∧ H' tp = some (.lst (ts ++ [.ref q])) ∧ H' lf = some (.lst ws) ∧ TX H9 H')
        ⟨_, _, _, _, _, rfl, e8.trans e9, L9, KK8.go e9, e9 _ _ ht8, hf9, TX.refl _⟩ (fun _ σ H' ⟨_, _, _, _, _, _, _, _, _, _, z, _⟩ => SqL.of z) ?_ ?_
      · rintro i x y L σ _ H10 hi hL ⟨v5, v6, v7, v8, v9, rfl, e10, L10, K10, ht10, hf10, t10⟩ ⟨rfl, hyi⟩
        obtain ⟨y2, hy2, dy⟩ := (hws8.go (e9.tx.trans t10)).get (i := i) (d := dT3 x) (by rw [List.getElem?_map, hi]; rfl)
        rw [hyi] at hy2
        cases hy2
        obtain ⟨x1, n⟩ := x
        obtain ⟨c, u1, u2, u3, rfl, hc, g1, g2, g3⟩ := Dt.t3 dy
        cases g1.intE
        cases g2.intE
        refine ⟨c, _, rfl, SqT.of hc, rfl, _, _, rfl, _, _, rfl, _, _, rfl, rfl, ?_⟩
        obtain ⟨z1, z2, z3, z4⟩ := (hfrok (x1, n)).mp (List.mem_of_getElem? hi)
        have hnF := (hwent x1 z1).2.1 n z2
        obtain ⟨w1, w2⟩ := ok.hs n hnF
        have hto : n.1.toNat < pic.houses.length := by omega
        have eto : ((n.1.toNat : Nat) : Int) = n.1 := Int.toNat_of_nonneg w1
        obtain ⟨xs, y1, y2⟩ := L10.ls _ hto
        have l1 := y2.len
        rw [List.length_map] at l1
        have lL : (L n.1.toNat).length ≤ 1000 := by
          rw [hL, fun_fold, List.nil_append]
          have h1 := flat_len (fun x : Nat × Nm => if x.2.1.toNat = n.1.toNat then [x.2] else []) 1 ((f0 :: fr).take i) fun x _ => by split <;> simp
          rw [List.length_take] at h1
          omega
        have h9 := n2 (q := lf) hf8
        refine ⟨_, rfl, _, rfl, hp2, _, n.1, .ref (ad2 n.1.toNat), rfl, rfl, SqL.of L10.here, by rw [← eto]; exact atI_nat (refs_get ad2 hto), .inl ⟨rfl, _, SqL.of y1⟩, _, rfl, ad2 n.1.toNat, xs, _, rfl, rfl, y1, lt16 (by omega), ?_⟩
        refine ⟨_, _, _, _, _, rfl, e10.mut (L10.fr _ hto).1, L10.ext hto y1 y2 (.cons g3 .nil), K10.updL y1 (fun z => (n2 KK8.here).2 _ hto z.symm), by rw [upd_ne fun z => (n2 ht8).2 _ hto z.symm]; exact ht10, by rw [upd_ne fun z => (n2 hf8).2 _ hto z.symm]; exact hf10, t10.trans (TX.updL y1)⟩
      · rintro σ H10 ⟨v5, v6, v7, v8, v9, rfl, e10, L10, K10, ht10, hf10, t10⟩
        have eL : (f0 :: fr).foldl (fun L x => fun j => L j ++ if x.2.1.toNat = j then [x.2] else []) (fun _ => []) = hadOf (f0 :: fr) := by
          funext j
          rw [fun_fold (fun (x : Nat × Nm) (j : Nat) => if x.2.1.toNat = j then [x.2] else []), List.nil_append]
          rfl
        rw [eL] at L10
        exact ⟨hp2, ad2, _, Kn', _, _, _, _, _, _, _, rfl, e10, L10, (n2 KK8.here).1, (n2 ht8).1, fun i hi => ⟨(n2 KK8.here).2 i hi, (n2 ht8).2 i hi⟩, K10, ht10, mk2, hlt, by rw [List.length_append]; exact Nat.le_refl _⟩
end
end HF
set_option Elab.async false
set_option linter.all false
set_option maxRecDepth 100000
set_option maxHeartbeats 4000000
namespace HF
open PySem PySem.Spec PyProof.Rows L2
noncomputable def marksD (p : Pic) (n : Nm) : PyData := open Classical in if Rch (chl (fieldsF p)) (heldF p) n then wantedD p n else cutD p
section
variable {P : Program} {w : World} {K : PySem.W.Frag} {mg : Str → Option Value} {base : Heap} {f : Addr} {fd : FuncData} {Cl : Addr}
structure MMarks (P : Program) (w : World) (K : PySem.W.Frag) (mg : Str → Option Value) (base : Heap) (C : Addr) : Prop where
  cls : Cls K C
  look_for : CalM P w K mg base C "look_for" ["self", "name"] 1 (spLookM C)
  sent : CalM P w K mg base C "sent" ["self"] 2 (spSent C)
structure CMarks (P : Program) (w : World) (K : PySem.W.Frag) (mg : Str → Option Value) (base : Heap) : Prop where
  wanted_for : Cal P w K mg base "wanted_for" ["picture", "name"] 4 spWantedFor
  cut_for : Cal P w K mg base "cut_for" ["picture"] 3 spCutFor
def spMarks (C : Addr) : Sp := fun vs H Q _ => ∃ a x pic n, vs = [.ref a, x] ∧ RwO C H a pic ∧ PicOk pic ∧ Dt H x (dN n) ∧ n ∈ keys (fieldsF pic) ∧ ∀ r H', Ex H H' → Dt H' r (marksD pic n) → Q r H'
theorem sc_sMarks_seek : FnScope ["self", "name"] ["self", "name"] (defScope sMarks_seek) := ⟨rfl, rfl, rfl, by decide +kernel, rfl, by decide +kernel, by decide +kernel⟩
theorem ok_marks_seek (F : FnP K "seek" "Marks.seek" sMarks_seek f fd) (M : MMarks P w K mg base Cl) (C : CMarks P w K mg base) (c' : RwC K Cl) : FnOk P w K mg base CX0 5 f fd ["self", "name"] (spMarks Cl) := by
  refine F.ok sc_sMarks_seek (fun vs H Q E h => ?_) (fun cdv A outer s H vs Q E hr h => ?_)
  · obtain ⟨a, x, pic, n, rfl, _⟩ := h
    rfl
  · obtain ⟨a, x, pic, n, rfl, hobj, ok, hx, hn, k⟩ := h
    have hu := hu_of hr
    refine ⟨_, PSs.nox (pss_cons (ps_expr (pe_calM M.look_for (hr.mono (by decide)) pass0 M.cls (pv 0) (pa_cons (pv 1) pa_nil)))
          (pss_cons (ps_if (pt_cmp (pc_din hu (pv 1) (pe_ix ix_list (pe_ix ix_tup (pe_calM0 M.sent (hr.mono (by decide)) pass0 M.cls (pv 0)) pe_int (fun _ _ => rfl)) (pe_ix ix_tup (pv 1) pe_int (fun _ _ => rfl)) (fun _ _ => rfl))))
          (pss_one (ps_ret (pe_cal C.wanted_for (hr.mono (by decide)) pass0 (pa_cons (pe_fld (pv 0) rfl) (pa_cons (pv 1) pa_nil)))))
          pss_nil)
          (pss_one (ps_ret (pe_cal C.cut_for (hr.mono (by decide)) pass0 (pa_cons (pe_fld (pv 0) rfl) pa_nil)))))), ?_⟩
    obtain ⟨dx, p, d, ho, hp, hd⟩ := hobj.ex
    obtain ⟨b, rfl, hb⟩ := hx.nm
    refine ⟨_, rfl, a, dx, _, rfl, ho, rfl, _, rfl, a, .ref b, pic, n, rfl, hobj, hx, hn, ?_⟩
    refine ⟨_, rfl, _, rfl, a, dx, _, rfl, ho, rfl, a, pic, rfl, hobj, ok, fun t H1 tv kp kd Kn e1 ht KK hiff => ?_⟩
    obtain ⟨w1, w2⟩ := ok.hs n hn
    have hto : n.1.toNat < pic.houses.length := by omega
    have eto : ((n.1.toNat : Nat) : Int) = n.1 := Int.toNat_of_nonneg w1
    obtain ⟨kms, q1, q2⟩ := KK.ls _ hto
    have hb1 := e1 _ _ hb
    refine ⟨t, _, 1, .ref kp, rfl, rfl, SqT.of ht, rfl, _, rfl, b, _, 0, .int n.1, rfl, rfl, SqT.of hb1, rfl, kp, _, n.1, .ref (kd n.1.toNat), rfl, rfl, SqL.of KK.here, by rw [← eto]; exact atI_nat (refs_get kd hto), kd n.1.toNat, _, rfl, dget_of (.inl q1) hb1, _, rfl, ?_⟩
    rw [q2.isS n]
    unfold marksD at k
    by_cases hr : Rch (chl (fieldsF pic)) (heldF pic) n
    · rw [decide_eq_true ((hiff n hn).mpr hr)]
      rw [if_pos hr] at k
      exact iteT ⟨_, rfl, a, Cl, dx, _, p, rfl, e1 _ _ ho, c'.cls, c'.nl, rfl, _, rfl, p, .ref b, pic, n, rfl, hp.go e1.tx, ok, hx.go e1.tx, hn, fun r H2 e2 dr => k r H2 (e1.trans e2) dr⟩
    · rw [decide_eq_false fun z => hr ((hiff n hn).mp z)]
      rw [if_neg hr] at k
      exact iteF ⟨_, rfl, a, Cl, dx, _, p, rfl, e1 _ _ ho, c'.cls, c'.nl, rfl, p, pic, rfl, hp.go e1.tx, ok, fun r H2 e2 dr => k r H2 (e1.trans e2) dr⟩
end
end HF
set_option Elab.async false
set_option linter.all false
set_option maxRecDepth 100000
set_option maxHeartbeats 4000000
namespace HF
open PySem PySem.Spec PyProof.Rows L2
/-! ### the law's drawing -/
/-- the state: the script, how far, what is left of a great cell, the seed -/
structure Sta (K : PySem.W.Frag) (H0 H : Hp) (p : Addr) : Prop where
  ch : Ch p H0 H
  ex : ∃ (sc : Addr) (ns : List Int) (idx acc seed : Int), H p = some (.lst [.ref sc, .int idx, .int acc, .int seed]) ∧ (∀ H', Ch p H0 H' → SqL K H' sc (ns.map V.int)) ∧ 0 ≤ idx
theorem Sta.go {K : PySem.W.Frag} {H0 H H' : Hp} {p : Addr} (h : Sta K H0 H p) (e : Ex H H') : Sta K H0 H' p := by
  obtain ⟨sc, ns, idx, acc, seed, h1, h2, h3⟩ := h.ex
  exact ⟨h.ch.trans e.toCh, sc, ns, idx, acc, seed, e _ _ h1, h2, h3⟩
theorem Sta.isL {K : PySem.W.Frag} {H0 H : Hp} {p : Addr} (h : Sta K H0 H p) : ∃ xs, H p = some (.lst xs) := by
  obtain ⟨sc, ns, idx, acc, seed, h1, h2, h3⟩ := h.ex
  exact ⟨_, h1⟩
theorem Sta.tx {K : PySem.W.Frag} {H0 H H' : Hp} {p : Addr} (h : Sta K H0 H p) (c : Ch p H H') : TX H H' := by
  obtain ⟨xs, h1⟩ := h.isL
  exact c.tx fun ys z => by rw [h1] at z; cases z
theorem Sta.new {K : PySem.W.Frag} {H0 H : Hp} {p D : Addr} (h : Sta K H0 H p) (hD : H D = none) : H0 D = none ∧ D ≠ p := by
  obtain ⟨xs, h1⟩ := h.isL
  have n : D ≠ p := fun z => by rw [z, h1] at hD; cases hD
  refine ⟨?_, n⟩
  cases q : H0 D with
  | none => rfl
  | some o => rw [h.ch D o n q] at hD; cases hD
theorem Sta.upd {K : PySem.W.Frag} {H0 H : Hp} {p D : Addr} {o : HO} (h : Sta K H0 H p) (hD : H0 D = none ∧ D ≠ p) : Sta K H0 (upd H D o) p := by
  obtain ⟨sc, ns, idx, acc, seed, h1, h2, h3⟩ := h.ex
  exact ⟨fun a u n ha => by rw [upd_ne (ne_of_none ha hD.1)]; exact h.ch a u n ha, sc, ns, idx, acc, seed, by rw [upd_ne hD.2.symm]; exact h1, h2, h3⟩
section
variable {P : Program} {w : World} {K : PySem.W.Frag} {mg : Str → Option Value} {base : Heap} {f : Addr} {fd : FuncData}
def spDraw (K : PySem.W.Frag) : Sp := fun vs H Q _ => ∃ H0 p b, vs = [.ref p, .int b] ∧ Sta K H0 H p ∧ 0 < b ∧ b < 1073741824 ∧ ∀ r H', 0 ≤ r → r < b → Ch p H H' → Sta K H0 H' p → Q (.int r) H'
theorem sc_sL_next : FnScope ["_law_state", "_law_below", "_law_found", "_law_cell"] ["_law_state", "_law_below"] (defScope sL_next) := ⟨rfl, rfl, rfl, by decide +kernel, rfl, by decide +kernel, by decide +kernel⟩
theorem ok_draw (F : FnP K "_law_next" "_law_next" sL_next f fd) (B : Bl mg) : FnOk P w K mg base CX0 1 f fd ["_law_state", "_law_below"] (spDraw K) := by
  refine F.ok sc_sL_next (fun vs H Q E h => ?_) (fun cdv A outer s H vs Q E hr h => ?_)
  · obtain ⟨H0, p, b, rfl, _⟩ := h
    rfl
  · obtain ⟨H0, p, b, rfl, hst, hb0, hb1, k⟩ := h
    have hu := hu_of hr
    refine ⟨_, PSs.nox (pss_cons (ps_if (pt_cmpR op_gt (pe_ix ix_list (pv 0) pe_int (fun _ _ => rfl)) pe_int (nomark _))
          (pss_cons (ps_set (i := 2) sc_sL_next.nd rfl (Or.inl rfl) (pe_op op_modN (pe_ix ix_list (pv 0) pe_int (fun _ _ => rfl)) (pv 1)))
          (pss_cons (ps_asg (pe_op op_fdivN (pe_ix ix_list (pv 0) pe_int (fun _ _ => rfl)) (pv 1)) (pg_sub (pv 0) pe_int set_list))
          (pss_one (ps_ret (pv 2)))))
          pss_nil)
          (pss_cons (ps_set (i := 3) sc_sL_next.nd rfl (Or.inl rfl) pe_int)
          (pss_cons (ps_if (pt_cmpR op_lt (pe_ix ix_list (pv 0) pe_int (fun _ _ => rfl)) (pe_callB call_len_seq (by rfl) B.len (by decide +kernel) (pa_cons (pe_ix ix_list (pv 0) pe_int (fun _ _ => rfl)) pa_nil)) (nomark _))
          (pss_one (ps_set (i := 3) sc_sL_next.nd rfl (Or.inl rfl) (pe_ix ix_list (pe_ix ix_list (pv 0) pe_int (fun _ _ => rfl)) (pe_ix ix_list (pv 0) pe_int (fun _ _ => rfl)) (fun _ _ => rfl))))
          pss_nil)
          (pss_cons (ps_asg (pe_op op_add (pe_ix ix_list (pv 0) pe_int (fun _ _ => rfl)) pe_int) (pg_sub (pv 0) pe_int set_list))
          (pss_cons (ps_if (pt_cmpR op_ge (pv 3) (pe_op op_pow pe_int pe_int) (nomark _))
          (pss_cons (ps_asg (pe_op op_fdivN (pv 3) (pv 1)) (pg_sub (pv 0) pe_int set_list))
          (pss_one (ps_ret (pe_op op_modN (pv 3) (pv 1)))))
          pss_nil)
          (pss_cons (ps_asg (pe_op op_modN (pe_op op_add (pe_op op_add (pe_op op_mul (pe_ix ix_list (pv 0) pe_int (fun _ _ => rfl)) pe_int) (pe_op op_modN (pv 3) pe_int)) (pe_op op_mul pe_int (pe_ix ix_list (pv 0) pe_int (fun _ _ => rfl)))) pe_int) (pg_sub (pv 0) pe_int set_list))
          (pss_one (ps_ret (pe_op op_modN (pe_op op_fdivN (pe_op op_modN (pe_op op_mul (pe_ix ix_list (pv 0) pe_int (fun _ _ => rfl)) pe_int) pe_int) pe_int) (pv 1)))))))))), ?_⟩
    obtain ⟨sc, ns, idx, acc, seed, h1, h2, h3⟩ := hst.ex
    have put : ∀ {H' : Hp} {i : Int} {a : Int} {d : Int} (o : HO), Ch p H H' → 0 ≤ i → o = .lst [.ref sc, .int i, .int a, .int d] → Ch p H (upd H' p o) ∧ Sta K H0 (upd H' p o) p := fun o c hi e => by
      subst e
      exact ⟨c.trans Ch.up, (hst.ch.trans c).trans Ch.up, sc, ns, _, _, _, upd_same, h2, hi⟩
    have bn : b ≠ 0 := by omega
    have nz : ∀ j : Int, j ≠ 0 → j ≠ 0 := fun _ h => h
    have bs : b.natAbs < 1073741824 := by omega
    have fm : ∀ x : Int, 0 ≤ x.fmod b ∧ x.fmod b < b := fun x => ⟨Int.fmod_nonneg_of_pos x hb0, Int.fmod_lt_of_pos x hb0⟩
    refine ⟨_, rfl, p, _, 2, .int acc, rfl, rfl, SqL.of h1, rfl, _, _, rfl, rfl, _, rfl, ?_⟩
    by_cases ha : (0 : Int) < acc
    · rw [decide_eq_true ha]
      refine iteT ⟨_, rfl, p, _, 2, .int acc, rfl, rfl, SqL.of h1, rfl, _, rfl, _, _, rfl, rfl, bn, ?_⟩
      refine ⟨_, rfl, p, _, 2, .int acc, rfl, rfl, SqL.of h1, rfl, _, rfl, _, _, rfl, rfl, ⟨bn, bs⟩, ?_⟩
      refine ⟨_, rfl, p, _, 2, 2, rfl, rfl, h1, rfl, ?_⟩
      obtain ⟨q1, q2⟩ := put (H' := H) (i := idx) (a := acc.fdiv b) (d := seed) _ Ch.refl h3 rfl
      exact ⟨_, rfl, k _ _ (fm acc).1 (fm acc).2 q1 q2⟩
    · rw [decide_eq_false ha]
      refine iteF ?_
      have hsc := h2 H hst.ch
      refine ⟨_, rfl, p, _, 1, .int idx, rfl, rfl, SqL.of h1, rfl, _, rfl, p, _, 0, .ref sc, rfl, rfl, SqL.of h1, rfl, sc, ns.map V.int, rfl, .inl hsc, _, _, rfl, rfl, _, rfl, ?_⟩
      by_cases hi : idx < ((ns.map V.int).length : Nat)
      · rw [decide_eq_true hi]
        have hj : idx.toNat < ns.length := by
          rw [List.length_map] at hi
          omega
        have ej : ((idx.toNat : Nat) : Int) = idx := Int.toNat_of_nonneg h3
        have hcell : (ns.map V.int)[idx.toNat]? = some (.int ns[idx.toNat]) := by rw [List.getElem?_map, List.getElem?_eq_getElem hj]; rfl
        have hat : atI (ns.map V.int) idx = some (.int ns[idx.toNat]) := by
          have q := atI_nat hcell
          rw [ej] at q
          exact q
        refine iteT ⟨_, rfl, p, _, 0, .ref sc, rfl, rfl, SqL.of h1, rfl, _, rfl, p, _, 1, .int idx, rfl, rfl, SqL.of h1, rfl, sc, _, idx, .int ns[idx.toNat], rfl, rfl, hsc, hat, ?_⟩
        generalize ns[idx.toNat] = cell
        refine ⟨_, rfl, p, _, 1, .int idx, rfl, rfl, SqL.of h1, rfl, _, _, rfl, rfl, _, rfl, p, _, 1, 1, rfl, rfl, h1, rfl, ?_⟩
        obtain ⟨q1, q2⟩ := put (H' := H) (i := idx + 1) (a := acc) (d := seed) _ Ch.refl (by omega) rfl
        have h5 : (upd H p (.lst [.ref sc, .int (idx + 1), .int acc, .int seed])) p = some (.lst [.ref sc, .int (idx + 1), .int acc, .int seed]) := upd_same
        change _ at h5
        refine ⟨_, rfl, _, _, rfl, rfl, ⟨by decide, by decide, by decide⟩, _, _, rfl, rfl, _, rfl, ?_⟩
        cases hge : decide ((10 : Int) ^ (18 : Int).toNat ≤ cell) with
        | true =>
          refine iteT ⟨_, rfl, _, rfl, _, _, rfl, rfl, ⟨bn, bs⟩, ?_⟩
          refine ⟨_, rfl, p, _, 2, 2, rfl, rfl, h5, rfl, ?_⟩
          obtain ⟨q3, q4⟩ := put (i := idx + 1) (a := cell.fdiv b) (d := seed) _ q1 (by omega) rfl
          exact ⟨_, rfl, _, rfl, _, _, rfl, rfl, bn, k _ _ (fm cell).1 (fm cell).2 q3 q4⟩
        | false =>
          refine iteF ⟨_, rfl, p, _, 3, .int seed, rfl, rfl, SqL.of h5, rfl, _, _, rfl, rfl, .inr ⟨by decide, by decide⟩, _, rfl, _, _, rfl, rfl, nz _ (by decide), _, _, rfl, rfl, _, rfl, p, _, 1, .int (idx + 1), rfl, rfl, SqL.of h5, rfl, _, _, rfl, rfl, .inl ⟨by decide, by decide⟩, _, _, rfl, rfl, _, _, rfl, rfl, nz _ (by decide), ?_⟩
          refine ⟨_, rfl, p, _, 3, 3, rfl, rfl, h5, rfl, ?_⟩
          obtain ⟨q3, q4⟩ := put (i := idx + 1) (a := acc) (d := (seed * 48271 + cell.fmod 2147483629 + 7 * (idx + 1)).fmod 2147483647) _ q1 (by omega) rfl
          have h6 : (upd (upd H p (.lst [.ref sc, .int (idx + 1), .int acc, .int seed])) p (.lst [.ref sc, .int (idx + 1), .int acc, .int ((seed * 48271 + cell.fmod 2147483629 + 7 * (idx + 1)).fmod 2147483647)])) p = some (.lst [.ref sc, .int (idx + 1), .int acc, .int ((seed * 48271 + cell.fmod 2147483629 + 7 * (idx + 1)).fmod 2147483647)]) := upd_same
          exact ⟨_, rfl, p, _, 3, .int _, rfl, rfl, SqL.of h6, rfl, _, _, rfl, rfl, .inr ⟨by decide, by decide⟩, _, _, rfl, rfl, nz _ (by decide), _, _, rfl, rfl, ⟨by decide, by decide⟩, _, rfl, _, _, rfl, rfl, bn, k _ _ (fm _).1 (fm _).2 q3 q4⟩
      · rw [decide_eq_false hi]
        refine iteF ?_
        refine ⟨_, rfl, p, _, 1, .int idx, rfl, rfl, SqL.of h1, rfl, _, _, rfl, rfl, _, rfl, p, _, 1, 1, rfl, rfl, h1, rfl, ?_⟩
        obtain ⟨q1, q2⟩ := put (H' := H) (i := idx + 1) (a := acc) (d := seed) _ Ch.refl (by omega) rfl
        have h5 : (upd H p (.lst [.ref sc, .int (idx + 1), .int acc, .int seed])) p = some (.lst [.ref sc, .int (idx + 1), .int acc, .int seed]) := upd_same
        change _ at h5
        refine ⟨_, rfl, _, _, rfl, rfl, ⟨by decide, by decide, by decide⟩, _, _, rfl, rfl, _, rfl, ?_⟩
        cases hge : decide ((10 : Int) ^ (18 : Int).toNat ≤ (0 : Int)) with
        | true =>
          refine iteT ⟨_, rfl, _, rfl, _, _, rfl, rfl, ⟨bn, bs⟩, ?_⟩
          refine ⟨_, rfl, p, _, 2, 2, rfl, rfl, h5, rfl, ?_⟩
          obtain ⟨q3, q4⟩ := put (i := idx + 1) (a := (0 : Int).fdiv b) (d := seed) _ q1 (by omega) rfl
          exact ⟨_, rfl, _, rfl, _, _, rfl, rfl, bn, k _ _ (fm (0 : Int)).1 (fm (0 : Int)).2 q3 q4⟩
        | false =>
          refine iteF ⟨_, rfl, p, _, 3, .int seed, rfl, rfl, SqL.of h5, rfl, _, _, rfl, rfl, .inr ⟨by decide, by decide⟩, _, rfl, _, _, rfl, rfl, nz _ (by decide), _, _, rfl, rfl, _, rfl, p, _, 1, .int (idx + 1), rfl, rfl, SqL.of h5, rfl, _, _, rfl, rfl, .inl ⟨by decide, by decide⟩, _, _, rfl, rfl, _, _, rfl, rfl, nz _ (by decide), ?_⟩
          refine ⟨_, rfl, p, _, 3, 3, rfl, rfl, h5, rfl, ?_⟩
          obtain ⟨q3, q4⟩ := put (i := idx + 1) (a := acc) (d := (seed * 48271 + (0 : Int).fmod 2147483629 + 7 * (idx + 1)).fmod 2147483647) _ q1 (by omega) rfl
          have h6 : (upd (upd H p (.lst [.ref sc, .int (idx + 1), .int acc, .int seed])) p (.lst [.ref sc, .int (idx + 1), .int acc, .int ((seed * 48271 + (0 : Int).fmod 2147483629 + 7 * (idx + 1)).fmod 2147483647)])) p = some (.lst [.ref sc, .int (idx + 1), .int acc, .int ((seed * 48271 + (0 : Int).fmod 2147483629 + 7 * (idx + 1)).fmod 2147483647)]) := upd_same
          exact ⟨_, rfl, p, _, 3, .int _, rfl, rfl, SqL.of h6, rfl, _, _, rfl, rfl, .inr ⟨by decide, by decide⟩, _, _, rfl, rfl, nz _ (by decide), _, _, rfl, rfl, ⟨by decide, by decide⟩, _, rfl, _, _, rfl, rfl, bn, k _ _ (fm _).1 (fm _).2 q3 q4⟩
end
end HF
set_option Elab.async false
set_option linter.all false
set_option maxRecDepth 100000
set_option maxHeartbeats 4000000
namespace HF
open PySem PySem.Spec PyProof.Rows L2
theorem atI_in {xs : List V} {r : Int} (h0 : 0 ≤ r) (h1 : r < (xs.length : Int)) : ∃ v ∈ xs, atI xs r = some v := by
  have hj : r.toNat < xs.length := by omega
  have e : ((r.toNat : Nat) : Int) = r := Int.toNat_of_nonneg h0
  have q := atI_nat (List.getElem?_eq_getElem hj)
  rw [e] at q
  exact ⟨_, List.getElem_mem hj, q⟩
def rLen (K : PySem.W.Frag) : List V → Hp → VK → Prop := fun xs H Q => ∃ p ys, xs = [.ref p] ∧ (SqL K H p ys ∨ SqT K H p ys) ∧ Q (.int ys.length) H
theorem call_lenK {X : Cx} {K : PySem.W.Frag} (h : X.K = K) : CallR X (.builtin "len") (rLen K) := by
  subst h
  exact call_len_seq
theorem Ch.mut {p l : Addr} {H H' : Hp} {o : HO} (c : Ch p H H') (h : H l = none) : Ch p H (upd H' l o) := fun a u n ha => by
  rw [upd_ne (ne_of_none ha h)]
  exact c a u n ha
theorem walk_rangeL {lo : Int} {n : Nat} : Walk (Itr lo n) (List.range n).length (fun _ => True) (YFn fun i => .int (lo + (i : Nat))) := by
  rw [List.length_range]
  exact walk_range
/-- names are no state -/
theorem ne_sta {K : PySem.W.Frag} {H0 H : Hp} {p l : Addr} {xs : List V} {ns : List Nm} (s : Sta K H0 H p) (h : H l = some (.lst xs)) (d : DtAll H xs (ns.map dN)) : l ≠ p := fun z => by
  subst z
  obtain ⟨sc, _, idx, acc, seed, h1, _⟩ := s.ex
  rw [h1] at h
  cases h
  cases ns with
  | nil => have := d.len; simp at this
  | cons a r =>
    obtain ⟨v, r2, e, h2, h3⟩ := DtAll.consE (d := dN a) (ds := r.map dN) d
    cases e
    cases r with
    | nil => have := h3.len; simp at this
    | cons b s =>
      obtain ⟨v, r2, e, h4, h5⟩ := DtAll.consE (d := dN b) (ds := s.map dN) h3
      cases e
      obtain ⟨_, z, _⟩ := h4.nm
      cases z
section
variable {J : It} {G : Hp → Prop} {Y : Nat → Hp → V → Hp → Prop} {α β : Type} {K : PySem.W.Frag}
/-- a comprehension whose items are drawn -/
theorem lc_draw {as : List α} (w : Walk J as.length G Y) {j : Nat} {tt : TT} {te : TE} {vs : List Nat} {σ : L2.St} {H0 H1 : Hp} {D p : Addr} {Qd : Hp → Prop} (Im : α → V → Hp → Prop) (f : α → Bool) (enc : β → PyData) (S : α → β → Prop) (hz : as.length ≤ 100000) (hD : H1 D = none) (hst : Sta K H0 H1 p)
    (hw : ∀ x, wipe ((wipe σ vs).set j (some x)) vs = wipe σ vs) (hG : ∀ H, Ch p H1 H → G H) (hY : ∀ i al x H H', as[i]? = some al → Ch p H1 H → Y i H x H' → H' = H ∧ Im al x H)
    (ht : ∀ al x H, al ∈ as → Ch p H1 H → Sta K H0 H p → Im al x H → ∀ R : Bool → Hp → Prop, R (f al) H → tt ((wipe σ vs).set j (some x)) H R)
    (he : ∀ al x H, al ∈ as → f al = true → Ch p H1 H → Sta K H0 H p → Im al x H → ∀ R : V → Hp → Prop, (∀ y H' b, Ch p H H' → Sta K H0 H' p → Dt H' y (enc b) → S al b → R y H') → te ((wipe σ vs).set j (some x)) H R)
    (hd : ∀ ys H' bs, Ch p H1 H' → Sta K H0 H' p → H' D = some (.lst ys) → DtAll H' ys (bs.map enc) → Paired S (as.filter f) bs → Qd H') :
    ∃ W : Nat → Nat → Hp → Prop, (∃ m, W 0 m (upd H1 D (.lst []))) ∧ ∀ i m H, W i m H →
      (J.stop i H ∧ Qd H) ∨ (J.go i H ∧ ∃ Nx : Hp → Prop, (∀ H', Nx H' → ∃ m', m' < m ∧ W (i + 1) m' H') ∧ ∀ x H', J.yld i H x H' → gName j x (wipe σ vs) H' fun σ2 H2 => wipe σ2 vs = wipe σ vs ∧ tt σ2 H2 fun b H3 =>
        if b = true then te σ2 H3 fun y H4 => ∃ acc, H4 D = some (.lst acc) ∧ acc.length < sizeLine ∧ Nx (upd H4 D (.lst (acc ++ [y]))) else Nx H3) := by
  have hDn := hst.new hD
  have nDp := hDn.2
  refine lc_it w (fun i H => Ch p H1 H ∧ Sta K H0 H p ∧ ∃ ys bs, H D = some (.lst ys) ∧ DtAll H ys (bs.map enc) ∧ Paired S ((as.take i).filter f) bs) ⟨(Ex.new hD).toCh, hst.go (Ex.new hD), [], [], upd_same, .nil, by simpa using Paired.nil⟩ (fun i H _ p => hG H p.1) (fun i x H H' hi q y => ?_) (fun H q => ?_)
  · obtain ⟨c1, s1, ys, bs, h1, h2, h3⟩ := q
    have e : as[i]? = some as[i] := by simp [hi]
    obtain ⟨rfl, im⟩ := hY i as[i] x H H' e c1 y
    have hm : as[i] ∈ as := List.getElem_mem hi
    have e3 : as.take (i + 1) = as.take i ++ [as[i]] := by
      rw [List.take_add_one, e]
      rfl
    refine ⟨hw x, ht as[i] x H' hm c1 s1 im _ ?_⟩
    cases q : f as[i] with
    | true =>
      refine iteT (he as[i] x H' hm q c1 s1 im _ fun y H4 b c4 s4 d4 sb => ⟨ys, c4 _ _ nDp h1, ?_, ?_⟩)
      · have := h2.len
        have hp := Paired.length h3
        rw [List.length_map] at this
        have h3 := List.length_filter_le f (as.take i)
        rw [List.length_take] at h3
        exact Nat.lt_of_le_of_lt (show ys.length ≤ 100000 by omega) (by decide)
      · have hD4 := c4 _ _ nDp h1
        have t : TX H4 (upd H4 D (.lst (ys ++ [y]))) := TX.updL hD4
        have c14 := c1.trans c4
        refine ⟨c14.mut hD, s4.upd hDn, _, bs ++ [b], upd_same, ?_, ?_⟩
        · rw [List.map_append]
          exact ((h2.go (s1.tx c4)).snoc d4).go t
        · rw [e3, List.filter_append]
          have e5 : [as[i]].filter f = [as[i]] := by simp [List.filter_cons, q]
          rw [e5]
          exact Paired.snoc h3 sb
    | false =>
      refine iteF ⟨c1, s1, ys, bs, h1, h2, ?_⟩
      rw [e3, List.filter_append]
      have e5 : [as[i]].filter f = [] := by simp [List.filter_cons, q]
      rw [e5, List.append_nil]
      exact h3
  · obtain ⟨c1, s1, ys, bs, h1, h2, h3⟩ := q
    rw [List.take_length] at h3
    exact hd ys H bs c1 s1 h1 h2 h3
end
end HF
set_option Elab.async false
set_option linter.all false
set_option maxRecDepth 100000
set_option maxHeartbeats 4000000
namespace HF
open PySem PySem.Spec PyProof.Rows L2
structure NamesOk (many : Int) (ns : List Nm) : Prop where
  bd : ∀ n ∈ ns, 0 ≤ n.1 ∧ n.1 < many ∧ Small n
  len : ns.length ≤ 40
/-- the names drawn stand at l -/
structure NmAt (H : Hp) (l : Addr) (ns : List Nm) : Prop where
  ex : ∃ xs, H l = some (.lst xs) ∧ DtAll H xs (ns.map dN)
theorem NmAt.at_ {H : Hp} {l : Addr} {ns : List Nm} (h : NmAt H l ns) : H l = some (.lst h.ex.choose) ∧ DtAll H h.ex.choose (ns.map dN) := h.ex.choose_spec
theorem NmAt.ch {K : PySem.W.Frag} {H0 H H' : Hp} {p l : Addr} {ns : List Nm} (h : NmAt H l ns) (s : Sta K H0 H p) (c : Ch p H H') : NmAt H' l ns := by
  obtain ⟨xs, h1, h2⟩ := h.ex
  exact ⟨xs, c _ _ (ne_sta s h1 h2) h1, h2.go (s.tx c)⟩
theorem NmAt.go {H H' : Hp} {l : Addr} {ns : List Nm} (h : NmAt H l ns) (e : Ex H H') : NmAt H' l ns := by
  obtain ⟨xs, h1, h2⟩ := h.ex
  exact ⟨xs, e _ _ h1, h2.go e.tx⟩
section
variable {P : Program} {w : World} {K : PySem.W.Frag} {mg : Str → Option Value} {base : Heap} {f : Addr} {fd : FuncData}
structure CDraw (P : Program) (w : World) (K : PySem.W.Frag) (mg : Str → Option Value) (base : Heap) : Prop where
  _law_next : Cal P w K mg base "_law_next" ["_law_state", "_law_below"] 1 (spDraw K)
def spNames (K : PySem.W.Frag) : Sp := fun vs H Q _ => ∃ H0 p many, vs = [.ref p, .int many] ∧ Sta K H0 H p ∧ 1 ≤ many ∧ many ≤ 8 ∧ ∀ l H' ns, H l = none → Ch p H H' → Sta K H0 H' p → NmAt H' l ns → NamesOk many ns → Q (.ref l) H'
theorem sc_sL_names : FnScope ["_law_state", "_law_many", "_law_names_here", "_law_house", "_law_number", "_law_k"] ["_law_state", "_law_many"] (defScope sL_names) := ⟨rfl, rfl, rfl, by decide +kernel, rfl, by decide +kernel, by decide +kernel⟩
theorem ok_names (F : FnP K "_law_names" "_law_names" sL_names f fd) (B : Bl mg) (C : CDraw P w K mg base) : FnOk P w K mg base CX0 2 f fd ["_law_state", "_law_many"] (spNames K) := by
  refine F.ok sc_sL_names (fun vs H Q E h => ?_) (fun cdv A outer s H vs Q E hr h => ?_)
  · obtain ⟨H0, p, many, rfl, _⟩ := h
    rfl
  · obtain ⟨H0, p, many, rfl, hst, hm1, hm8, k⟩ := h
    have hu := hu_of hr
    refine ⟨_, PSs.nox (pss_cons (ps_set (i := 2) sc_sL_names.nd rfl (Or.inl rfl) (pe_lst pa_nil))
          (pss_cons (ps_for PassesOwn.never rfl (pi_range1 (by rfl) B.range (pa_cons (pv 1) pa_nil)) (pg_name (i := 3) sc_sL_names.nd rfl (Or.inl rfl))
          (pss_cons (ps_set (i := 4) sc_sL_names.nd rfl (Or.inl rfl) (pe_ix ix_list (pe_lst (pa_cons pe_int (pa_cons pe_int (pa_cons pe_int (pa_cons pe_int pa_nil))))) (pe_cal C._law_next (hr.mono (by decide)) pass0 (pa_cons (pv 0) (pa_cons pe_int pa_nil))) (fun _ _ => rfl)))
          (pss_one (ps_for PassesOwn.never rfl (pi_range1 (by rfl) B.range (pa_cons (pe_cal C._law_next (hr.mono (by decide)) pass0 (pa_cons (pv 0) (pa_cons (pe_ix ix_list (pe_lst (pa_cons pe_int (pa_cons pe_int (pa_cons pe_int (pa_cons pe_int pa_nil))))) (pe_callB (call_min2 rfl) (by rfl) B.min (by decide +kernel) (pa_cons pe_int (pa_cons (pe_op op_fdivN (pv 1) pe_int) pa_nil))) (fun _ _ => rfl)) pa_nil))) pa_nil)) (pg_name (i := 5) sc_sL_names.nd rfl (Or.inl rfl))
          (pss_cons (ps_expr (pe_bm PySem.F.plainAttrs_list PySem.F.slot_list_append PySem.F.type_list_append mt_append (pv 2) (pa_cons (pe_tup (pa_cons (pv 3) (pa_cons (pv 4) pa_nil))) pa_nil)))
          (pss_one (ps_set (i := 4) sc_sL_names.nd rfl (Or.inl rfl) (pe_op op_add (pe_op op_add (pv 4) pe_int) (pe_ix ix_list (pe_lst (pa_cons pe_int (pa_cons pe_int (pa_cons pe_int (pa_cons pe_int pa_nil))))) (pe_cal C._law_next (hr.mono (by decide)) pass0 (pa_cons (pv 0) (pa_cons pe_int pa_nil))) (fun _ _ => rfl))))))))))
          (pss_one (ps_ret (pv 2))))), ?_⟩
    refine ⟨le16 (by show 0 ≤ 100000; decide), fun l hl => ?_⟩
    have hln := hst.new hl
    have c1 : Ch p H (upd H l (.lst [])) := (Ex.new hl).toCh
    have s1 : Sta K H0 (upd H l (.lst [])) p := hst.upd hln
    have hl1 : (upd H l (.lst [])) l = some (.lst []) := upd_same
    generalize upd H l (.lst []) = H1 at c1 s1 hl1
    have b62 : ∀ j : Int, 0 ≤ j → j ≤ 1000 → -(2 ^ 62) ≤ j ∧ j < 2 ^ 62 := fun j h1 h2 => by
      have : (2 : Int) ^ 62 = 4611686018427387904 := by decide
      omega
    refine ⟨_, rfl, many, rfl, (b62 many (by omega) (by omega)).1, (b62 many (by omega) (by omega)).2, ?_⟩
    refine for_it (walk_range (lo := 0) (n := many.toNat)) (fun i σ H' => ∃ xs ns v3 v4 v5, σ = [some (.ref p), some (.int many), some (.ref l), v3, v4, v5] ∧ Ch p H H' ∧ Sta K H0 H' p ∧ H' l = some (.lst xs) ∧ DtAll H' xs (ns.map dN) ∧ (∀ n ∈ ns, 0 ≤ n.1 ∧ n.1 < many ∧ Small n) ∧ ns.length ≤ 4 * i)
      ⟨[], [], none, none, none, rfl, c1, s1, hl1, .nil, fun n h => (nomatch h), Nat.zero_le _⟩ (fun _ _ _ _ _ => trivial) ?_ ?_
    · rintro i x σ _ H2 hi ⟨xs, ns, v3, v4, v5, rfl, c2, s2, hl2, hx2, hns, hlen⟩ ⟨rfl, rfl⟩
      refine ⟨le16 (by show 4 ≤ 100000; decide), fun q hq => ?_⟩
      have c3 : Ch p H2 (upd H2 q (.lst [.int 0, .int 0, .int 1, .int 17])) := (Ex.new hq).toCh
      have s3 := s2.upd (o := .lst [.int 0, .int 0, .int 1, .int 17]) (s2.new hq)
      have hq3 : (upd H2 q (.lst [.int 0, .int 0, .int 1, .int 17])) q = some (.lst [.int 0, .int 0, .int 1, .int 17]) := upd_same
      have nqp := (s2.new hq).2
      generalize upd H2 q (.lst [.int 0, .int 0, .int 1, .int 17]) = H3 at c3 s3 hq3
      refine ⟨_, rfl, H0, p, 4, rfl, s3, by decide, by decide, fun r H4 r0 r4 c4 s4 => ?_⟩
      obtain ⟨v, hv, hat⟩ := atI_in (xs := [V.int 0, .int 0, .int 1, .int 17]) r0 r4
      have hnum : ∃ num : Int, v = .int num ∧ 0 ≤ num ∧ num ≤ 17 := by
        simp only [List.mem_cons, List.not_mem_nil, or_false] at hv
        rcases hv with rfl | rfl | rfl | rfl
        · exact ⟨0, rfl, by decide, by decide⟩
        · exact ⟨0, rfl, by decide, by decide⟩
        · exact ⟨1, rfl, by decide, by decide⟩
        · exact ⟨17, rfl, by decide, by decide⟩
      obtain ⟨num, rfl, n0, n17⟩ := hnum
      refine ⟨q, _, r, _, rfl, rfl, SqL.of (c4 _ _ nqp hq3), hat, ?_⟩
      have c24 := c3.trans c4
      have hl4 := c24 _ _ hln.2 hl2
      have hx4 := hx2.go (s2.tx c24)
      refine ⟨_, rfl, le16 (by show 4 ≤ 100000; decide), fun q2 hq2 => ?_⟩
      have c5 : Ch p H4 (upd H4 q2 (.lst [.int 5, .int 5, .int 4, .int 3])) := (Ex.new hq2).toCh
      have s5 := s4.upd (o := .lst [.int 5, .int 5, .int 4, .int 3]) (s4.new hq2)
      have hq5 : (upd H4 q2 (.lst [.int 5, .int 5, .int 4, .int 3])) q2 = some (.lst [.int 5, .int 5, .int 4, .int 3]) := upd_same
      have hl5 := (Ex.new hq2 (o := .lst [.int 5, .int 5, .int 4, .int 3])) _ _ hl4
      have hx5 := hx4.go (TX.updN hq2 (o := .lst [.int 5, .int 5, .int 4, .int 3]))
      generalize upd H4 q2 (.lst [.int 5, .int 5, .int 4, .int 3]) = H5 at c5 s5 hq5 hl5 hx5
      have fd : many.fdiv 2 = many / 2 := Int.fdiv_eq_ediv_of_nonneg many (by decide)
      refine ⟨_, rfl, _, _, rfl, rfl, ⟨by decide, by decide⟩, _, _, rfl, ?_⟩
      have ix0 : 0 ≤ (if many.fdiv 2 < 3 then many.fdiv 2 else 3) := by rw [fd]; split <;> omega
      have ix1 : (if many.fdiv 2 < 3 then many.fdiv 2 else 3) < 4 := by rw [fd]; split <;> omega
      obtain ⟨v, hv, hat⟩ := atI_in (xs := [V.int 5, .int 5, .int 4, .int 3]) ix0 ix1
      have hbel : ∃ bel : Int, v = .int bel ∧ 0 < bel ∧ bel ≤ 5 := by
        simp only [List.mem_cons, List.not_mem_nil, or_false] at hv
        rcases hv with rfl | rfl | rfl | rfl
        · exact ⟨5, rfl, by decide, by decide⟩
        · exact ⟨5, rfl, by decide, by decide⟩
        · exact ⟨4, rfl, by decide, by decide⟩
        · exact ⟨3, rfl, by decide, by decide⟩
      obtain ⟨bel, rfl, b0, b5⟩ := hbel
      refine ⟨q2, _, _, _, rfl, rfl, SqL.of hq5, hat, H0, p, bel, rfl, s5, b0, by omega, fun r H6 r0 rb c6 s6 => ?_⟩
      refine ⟨r, rfl, (b62 r (by omega) (by omega)).1, (b62 r (by omega) (by omega)).2, ?_⟩
      have hl6 := c6 _ _ hln.2 hl5
      have hx6 := hx5.go (s5.tx c6)
      refine for_it (walk_range (lo := 0) (n := r.toNat)) (fun j σ H' => ∃ xs ns' num v5, σ = [some (.ref p), some (.int many), some (.ref l), some (.int (0 + (i : Nat))), some (.int num), v5] ∧ Ch p H H' ∧ Sta K H0 H' p ∧ H' l = some (.lst xs) ∧ DtAll H' xs (ns'.map dN) ∧ (∀ n ∈ ns', 0 ≤ n.1 ∧ n.1 < many ∧ Small n) ∧ ns'.length ≤ 4 * i + j ∧ 0 ≤ num ∧ num ≤ 17 + 20 * (j : Int))
        ⟨xs, ns, num, _, rfl, ((c2.trans c24).trans c5).trans c6, s6, hl6, hx6, hns, hlen, n0, by omega⟩ (fun _ _ _ _ _ => trivial) ?_ ?_
      · rintro j x σ _ H7 hj ⟨xs, ns', num, v5, rfl, c7, s7, hl7, hx7, hns7, hlen7, n0, n17⟩ ⟨rfl, rfl⟩
        have lx := hx7.len
        rw [List.length_map] at lx
        refine ⟨_, rfl, .inl ⟨rfl, _, SqL.of hl7⟩, _, rfl, _, rfl, le16 (by show 2 ≤ 100000; decide), fun q hq => ?_⟩
        have e8 : Ex H7 (upd H7 q (.tup [.int (0 + (i : Nat)), .int num])) := Ex.new hq
        have s8 : Sta K H0 (upd H7 q (.tup [.int (0 + (i : Nat)), .int num])) p := s7.go e8
        have dq : Dt (upd H7 q (.tup [.int (0 + (i : Nat)), .int num])) (.ref q) (dN (0 + (i : Nat), num)) := .tup upd_same (.cons (.int _) (.cons (.int _) .nil))
        have hl8 := e8 _ _ hl7
        have hx8 := hx7.go e8.tx
        have c8 := c7.trans e8.toCh
        generalize upd H7 q (.tup [.int (0 + (i : Nat)), .int num]) = H8 at e8 s8 dq hl8 hx8 c8
        refine ⟨l, xs, _, rfl, rfl, hl8, lt16 (by omega), ?_⟩
        have s9 := s8.upd (o := .lst (xs ++ [.ref q])) hln
        have c9 : Ch p H (upd H8 l (.lst (xs ++ [.ref q]))) := c8.mut hl
        have t9 : TX H8 (upd H8 l (.lst (xs ++ [.ref q]))) := TX.updL hl8
        have hl9 : (upd H8 l (.lst (xs ++ [.ref q]))) l = some (.lst (xs ++ [.ref q])) := upd_same
        have hx9 := (hx8.snoc dq).go t9
        generalize upd H8 l (.lst (xs ++ [.ref q])) = H9 at s9 c9 t9 hl9 hx9
        refine ⟨_, rfl, _, _, rfl, rfl, le16 (by show 4 ≤ 100000; decide), fun q3 hq3 => ?_⟩
        have c10 : Ch p H9 (upd H9 q3 (.lst [.int 0, .int 0, .int 2, .int 19])) := (Ex.new hq3).toCh
        have n3p := (s9.new hq3).2
        have s10 := s9.upd (o := .lst [.int 0, .int 0, .int 2, .int 19]) (s9.new hq3)
        have hq10 : (upd H9 q3 (.lst [.int 0, .int 0, .int 2, .int 19])) q3 = some (.lst [.int 0, .int 0, .int 2, .int 19]) := upd_same
        generalize upd H9 q3 (.lst [.int 0, .int 0, .int 2, .int 19]) = H10 at c10 s10 hq10
        refine ⟨_, rfl, H0, p, 4, rfl, s10, by decide, by decide, fun r2 H11 r0 r4 c11 s11 => ?_⟩
        obtain ⟨v, hv, hat⟩ := atI_in (xs := [V.int 0, .int 0, .int 2, .int 19]) r0 r4
        have hgap : ∃ gap : Int, v = .int gap ∧ 0 ≤ gap ∧ gap ≤ 19 := by
          simp only [List.mem_cons, List.not_mem_nil, or_false] at hv
          rcases hv with rfl | rfl | rfl | rfl
          · exact ⟨0, rfl, by decide, by decide⟩
          · exact ⟨0, rfl, by decide, by decide⟩
          · exact ⟨2, rfl, by decide, by decide⟩
          · exact ⟨19, rfl, by decide, by decide⟩
        obtain ⟨gap, rfl, g0, g19⟩ := hgap
        refine ⟨q3, _, r2, _, rfl, rfl, SqL.of (c11 _ _ n3p hq10), hat, _, _, rfl, rfl, ?_⟩
        have c911 := c10.trans c11
        refine ⟨_, ns' ++ [((0 + ((i : Nat) : Int), num) : Nm)], _, _, rfl, c9.trans c911, s11, c911 _ _ hln.2 hl9, ?_, fun n hn => ?_, ?_, by omega, by omega⟩
        · rw [List.map_append]
          exact hx9.go (s9.tx c911)
        · rcases List.mem_append.mp hn with hn | hn
          · exact hns7 n hn
          · rw [List.mem_singleton.mp hn]
            refine ⟨?_, ?_, ?_, ?_, n0, ?_⟩
            · show (0 : Int) ≤ 0 + (i : Nat)
              omega
            · show (0 : Int) + (i : Nat) < many
              omega
            · show (0 : Int) ≤ 0 + (i : Nat)
              omega
            · show (0 : Int) + (i : Nat) < 8
              omega
            · show num < 100
              omega
        · rw [List.length_append, List.length_singleton]
          omega
      · rintro σ H7 ⟨xs, ns', num, v5, rfl, c7, s7, hl7, hx7, hns7, hlen7, n0, n17⟩
        exact ⟨xs, ns', _, _, _, rfl, c7, s7, hl7, hx7, hns7, by omega⟩
    · rintro σ H2 ⟨xs, ns, v3, v4, v5, rfl, c2, s2, hl2, hx2, hns, hlen⟩
      exact ⟨_, rfl, k l H2 ns hl c2 s2 ⟨xs, hl2, hx2⟩ ⟨hns, by omega⟩⟩
end
end HF
set_option Elab.async false
set_option linter.all false
set_option maxRecDepth 100000
set_option maxHeartbeats 4000000
namespace HF
open PySem PySem.Spec PyProof.Rows L2
section
variable {P : Program} {w : World} {K : PySem.W.Frag} {mg : Str → Option Value} {base : Heap} {f : Addr} {fd : FuncData}
def spSome (K : PySem.W.Frag) : Sp := fun vs H Q _ => ∃ H0 p l odds ns, vs = [.ref p, .ref l, .int odds] ∧ Sta K H0 H p ∧ NmAt H l ns ∧ ns.length ≤ 1000 ∧ 0 < odds ∧ odds < 1000000 ∧
  ∀ r H' o, Ch p H H' → Sta K H0 H' p → Dt H' r (dO o) → (∀ n, o = some n → n ∈ ns) → Q r H'
theorem sc_sL_some : FnScope ["_law_state", "_law_names_here", "_law_odds"] ["_law_state", "_law_names_here", "_law_odds"] (defScope sL_some) := ⟨rfl, rfl, rfl, by decide +kernel, rfl, by decide +kernel, by decide +kernel⟩
theorem ok_some (F : FnP K "_law_some" "_law_some" sL_some f fd) (B : Bl mg) (C : CDraw P w K mg base) : FnOk P w K mg base CX0 2 f fd ["_law_state", "_law_names_here", "_law_odds"] (spSome K) := by
  refine F.ok sc_sL_some (fun vs H Q E h => ?_) (fun cdv A outer s H vs Q E hr h => ?_)
  · obtain ⟨H0, p, l, odds, ns, rfl, _⟩ := h
    rfl
  · obtain ⟨H0, p, l, odds, ns, rfl, hst, hl, hln, ho0, ho1, k⟩ := h
    have hu := hu_of hr
    have hu64 := hr.units
    refine ⟨_, PSs.nox (pss_cons (ps_if (PW.pt (pw_or (pt_cmpR (op_eqP hu64) (pv 1) (pe_lst pa_nil) (nomark _)) (pw_or1 (pt_cmpR op_gt (pe_cal C._law_next (hr.mono (by decide)) pass0 (pa_cons (pv 0) (pa_cons (pv 2) pa_nil))) pe_int (nomark _)))))
          (pss_one (ps_ret pe_non))
          pss_nil)
          (pss_one (ps_ret (pe_ix ix_list (pv 1) (pe_cal C._law_next (hr.mono (by decide)) pass0 (pa_cons (pv 0) (pa_cons (pe_callB call_len_seq (by rfl) B.len (by decide +kernel) (pa_cons (pv 1) pa_nil)) pa_nil))) (fun _ _ => rfl))))), ?_⟩
    obtain ⟨xs, hl1, hx1⟩ := hl.ex
    have lx := hx1.len
    rw [List.length_map] at lx
    refine ⟨_, rfl, le16 (by show 0 ≤ 100000; decide), fun q hq => eqMt (Ex.new hq _ _ hl1) (hx1.go (TX.updN hq)) upd_same ⟨_, rfl, ?_⟩⟩
    have c1 : Ch p H (upd H q (.lst [])) := (Ex.new hq).toCh
    have s1 : Sta K H0 (upd H q (.lst [])) p := hst.go (Ex.new hq)
    have h1 : NmAt (upd H q (.lst [])) l ns := hl.go (Ex.new hq)
    generalize upd H q (.lst []) = H1 at c1 s1 h1
    rw [filt_isEmpty]
    cases ns with
    | nil => exact iteT (k _ _ none c1 s1 .non fun n h => nomatch h)
    | cons a r =>
      refine iteF ⟨_, rfl, _, rfl, H0, p, odds, rfl, s1, ho0, by omega, fun r1 H2 r0 rb c2 s2 => ⟨_, _, rfl, rfl, _, rfl, ?_⟩⟩
      have h2 := h1.ch s1 c2
      have c12 := c1.trans c2
      by_cases hz : (0 : Int) < r1
      · rw [decide_eq_true hz]
        exact iteT (k _ _ none c12 s2 .non fun n h => nomatch h)
      · rw [decide_eq_false hz]
        obtain ⟨xs2, hl2, hx2⟩ := h2.ex
        have lx2 := hx2.len
        rw [List.length_map, List.length_cons] at lx2
        rw [List.length_cons] at hln
        refine iteF ⟨_, rfl, _, rfl, _, rfl, l, xs2, rfl, .inl (SqL.of hl2), H0, p, (xs2.length : Nat), rfl, s2, by omega, by omega, fun r2 H3 r0 rb c3 s3 => ?_⟩
        have h3 := h2.ch s2 c3
        obtain ⟨xs3, hl3, hx3⟩ := h3.ex
        have lx3 := hx3.len
        rw [List.length_map, List.length_cons] at lx3
        obtain ⟨v, hv, hat⟩ := atI_in (xs := xs3) r0 (by omega)
        obtain ⟨d, hd, dv⟩ := hx3.mem hv
        obtain ⟨n, hn, rfl⟩ := List.mem_map.mp hd
        exact ⟨l, xs3, r2, v, rfl, rfl, SqL.of hl3, hat, k v H3 (some n) (c12.trans c3) s3 dv fun m e => by cases e; exact hn⟩
/-! ### a thing -/
structure ThOk (ns : List Nm) (n : Nm) (t : Thing) : Prop where
  name : t.name = n
  len : t.flds.length ≤ 4
  sub : ∀ m, some m ∈ t.flds → m ∈ ns
structure CThing (P : Program) (w : World) (K : PySem.W.Frag) (mg : Str → Option Value) (base : Heap) : Prop where
  _law_next : Cal P w K mg base "_law_next" ["_law_state", "_law_below"] 1 (spDraw K)
  _law_some : Cal P w K mg base "_law_some" ["_law_state", "_law_names_here", "_law_odds"] 2 (spSome K)
def spThing (K : PySem.W.Frag) : Sp := fun vs H Q _ => ∃ H0 p x l n ns, vs = [.ref p, x, .ref l] ∧ Sta K H0 H p ∧ Dt H x (dN n) ∧ NmAt H l ns ∧ ns.length ≤ 1000 ∧
  ∀ r H' t, Ch p H H' → Sta K H0 H' p → Dt H' r (dThing t) → ThOk ns n t → Q r H'
theorem sc_sL_thing : FnScope ["_law_state", "_law_name", "_law_names_here", "_law_fields_here", "_law_k", "_law_field"] ["_law_state", "_law_name", "_law_names_here"] (defScope sL_thing) := ⟨rfl, rfl, rfl, by decide +kernel, rfl, by decide +kernel, by decide +kernel⟩
theorem ok_thing (F : FnP K "_law_thing" "_law_thing" sL_thing f fd) (B : Bl mg) (C : CThing P w K mg base) : FnOk P w K mg base CX0 3 f fd ["_law_state", "_law_name", "_law_names_here"] (spThing K) := by
  refine F.ok sc_sL_thing (fun vs H Q E h => ?_) (fun cdv A outer s H vs Q E hr h => ?_)
  · obtain ⟨H0, p, x, l, n, ns, rfl, _⟩ := h
    rfl
  · obtain ⟨H0, p, x, l, n, ns, rfl, hst, hx, hl, hln, k⟩ := h
    have hu := hu_of hr
    have hu64 := hr.units
    refine ⟨_, PSs.nox (pss_cons (ps_if (pt_cmpR (op_eqU hu64) (pe_cal C._law_next (hr.mono (by decide)) pass0 (pa_cons (pv 0) (pa_cons pe_int pa_nil))) pe_int (nomark _))
          (pss_one (ps_ret (pe_tup (pa_cons (pv 1) (pa_cons pe_str (pa_cons (pe_tup (pa_cons (pe_cal C._law_some (hr.mono (by decide)) pass0 (pa_cons (pv 0) (pa_cons (pv 2) (pa_cons pe_int pa_nil)))) pa_nil)) pa_nil))))))
          pss_nil)
          (pss_cons (ps_set (i := 3) sc_sL_thing.nd rfl (Or.inl rfl) (pe_lst pa_nil))
          (pss_cons (ps_for PassesOwn.never rfl (pi_range1 (by rfl) B.range (pa_cons (pe_cal C._law_next (hr.mono (by decide)) pass0 (pa_cons (pv 0) (pa_cons pe_int pa_nil))) pa_nil)) (pg_name (i := 4) sc_sL_thing.nd rfl (Or.inl rfl))
          (pss_cons (ps_set (i := 5) sc_sL_thing.nd rfl (Or.inl rfl) (pe_cal C._law_some (hr.mono (by decide)) pass0 (pa_cons (pv 0) (pa_cons (pv 2) (pa_cons pe_int pa_nil)))))
          (pss_one (ps_expr (pe_bm PySem.F.plainAttrs_list PySem.F.slot_list_append PySem.F.type_list_append mt_append (pv 3) (pa_cons (pe_ix ix_list (pe_lst (pa_cons (pv 5) (pa_cons pe_non pa_nil))) (pe_callTy call_int1 (by rfl) B.int (by decide +kernel) (pa_cons (pe_cmpR (op_eqU hu64) (pe_cal C._law_next (hr.mono (by decide)) pass0 (pa_cons (pv 0) (pa_cons pe_int pa_nil))) pe_int (nomark _)) pa_nil)) (fun _ _ => rfl)) pa_nil))))))
          (pss_one (ps_ret (pe_tup (pa_cons (pv 1) (pa_cons pe_str (pa_cons (pe_callTy call_tuple_of (by rfl) B.tuple (by decide +kernel) (pa_cons (pv 3) pa_nil)) pa_nil))))))))), ?_⟩
    refine ⟨_, rfl, H0, p, 6, rfl, hst, by decide, by decide, fun r1 H1 r0 rb c1 s1 => eqInt ⟨_, rfl, ?_⟩⟩
    have l1 := hl.ch hst c1
    have x1 := hx.go (hst.tx c1)
    by_cases h5 : r1 = 5
    · rw [decide_eq_true h5]
      refine iteT ⟨_, rfl, _, rfl, _, rfl, H0, p, l, 1, ns, rfl, s1, l1, hln, by decide, by decide, fun r2 H2 o c2 s2 d2 ho => ?_⟩
      refine ⟨le16 (by show 1 ≤ 100000; decide), fun q hq => ⟨le16 (by show 3 ≤ 100000; decide), fun q2 hq2 => ?_⟩⟩
      have e3 : Ex H2 (upd (upd H2 q (.tup [r2])) q2 (.tup [x, .str "mark", .ref q])) := (Ex.new hq).trans (Ex.new hq2)
      refine k _ _ ⟨n, true, [o]⟩ ((c1.trans c2).trans e3.toCh) (s2.go e3) ?_ ⟨rfl, (show 1 ≤ 4 by decide), fun m hm => ?_⟩
      · exact .tup upd_same (.cons ((x1.go (s1.tx c2)).go e3.tx) (.cons (.str _) (.cons (.tup (Ex.new hq2 _ _ upd_same) (.cons (d2.go e3.tx) .nil)) .nil)))
      · exact ho m (List.mem_singleton.mp hm).symm
    · rw [decide_eq_false h5]
      refine iteF ⟨le16 (by show 0 ≤ 100000; decide), fun D hD => ?_⟩
      have hDn := s1.new hD
      have s2 : Sta K H0 (upd H1 D (.lst [])) p := s1.upd hDn
      have c2 : Ch p H1 (upd H1 D (.lst [])) := (Ex.new hD).toCh
      have hD2 : (upd H1 D (.lst [])) D = some (.lst []) := upd_same
      have hDH : H D = none := by
        cases z : H D with
        | none => rfl
        | some o => rw [c1 D o hDn.2 z] at hD; cases hD
      have c02 := c1.trans c2
      have l2 := l1.ch s1 c2
      have x2 := x1.go (s1.tx c2)
      have nDl : D ≠ l := fun z => by
        obtain ⟨ys, q1, _⟩ := l1.ex
        rw [z, q1] at hD
        cases hD
      generalize upd H1 D (.lst []) = H2 at s2 c2 hD2 c02 l2 x2
      refine ⟨_, rfl, H0, p, 5, rfl, s2, by decide, by decide, fun r2 H3 r0 rb c3 s3 => ?_⟩
      have b62 : ∀ j : Int, 0 ≤ j → j ≤ 1000 → -(2 ^ 62) ≤ j ∧ j < 2 ^ 62 := fun j h1 h2 => by
        have : (2 : Int) ^ 62 = 4611686018427387904 := by decide
        omega
      refine ⟨r2, rfl, (b62 r2 (by omega) (by omega)).1, (b62 r2 (by omega) (by omega)).2, ?_⟩
      refine for_it (walk_range (lo := 0) (n := r2.toNat)) (fun i σ H' => ∃ ys os v4 v5, σ = [some (.ref p), some x, some (.ref l), some (.ref D), v4, v5] ∧ Ch p H H' ∧ Sta K H0 H' p ∧ NmAt H' l ns ∧ Dt H' x (dN n) ∧ H' D = some (.lst ys) ∧ DtAll H' ys (os.map dO) ∧ os.length = i ∧ ∀ m, some m ∈ os → m ∈ ns)
        ⟨[], [], none, none, rfl, c02.trans c3, s3, l2.ch s2 c3, x2.go (s2.tx c3), c3 _ _ hDn.2 hD2, .nil, rfl, fun m h => nomatch h⟩ (fun _ _ _ _ _ => trivial) ?_ ?_
      · rintro i y σ _ H4 hi ⟨ys, os, v4, v5, rfl, c4, s4, l4, x4, hD4, hy4, hos, hsub⟩ ⟨rfl, rfl⟩
        refine ⟨_, rfl, _, rfl, H0, p, l, 1, ns, rfl, s4, l4, hln, by decide, by decide, fun r3 H5 o c5 s5 d5 ho => ?_⟩
        have hD5 := c5 _ _ hDn.2 hD4
        have hy5 := hy4.go (s4.tx c5)
        have ly := hy5.len
        rw [List.length_map] at ly
        refine ⟨_, rfl, .inl ⟨rfl, _, SqL.of hD5⟩, _, rfl, le16 (by show 2 ≤ 100000; decide), fun q hq => ?_⟩
        have e6 : Ex H5 (upd H5 q (.lst [r3, .non])) := Ex.new hq
        have s6 : Sta K H0 (upd H5 q (.lst [r3, .non])) p := s5.go e6
        have hq6 : (upd H5 q (.lst [r3, .non])) q = some (.lst [r3, .non]) := upd_same
        have nqp := (s5.new hq).2
        generalize upd H5 q (.lst [r3, .non]) = H6 at e6 s6 hq6
        refine ⟨_, rfl, H0, p, 4, rfl, s6, by decide, by decide, fun r4 H7 r0 rb c7 s7 => eqInt (.inr ⟨_, rfl, ?_⟩)⟩
        have hq7 := c7 _ _ nqp hq6
        have c57 : Ch p H5 H7 := e6.toCh.trans c7
        have t57 : TX H5 H7 := s5.tx c57
        have hD7 := c57 _ _ hDn.2 hD5
        have hv : ∃ v o2, atI [r3, V.non] (if decide (r4 = 3) = true then 1 else 0) = some v ∧ Dt H7 v (dO o2) ∧ ∀ m, o2 = some m → m ∈ ns := by
          by_cases h3 : r4 = 3
          · rw [decide_eq_true h3]
            exact ⟨.non, none, rfl, .non, fun m e => nomatch e⟩
          · rw [decide_eq_false h3]
            exact ⟨r3, o, rfl, d5.go t57, ho⟩
        obtain ⟨v, o2, hat, dv, ho2⟩ := hv
        refine ⟨q, _, _, v, rfl, rfl, SqL.of hq7, hat, D, ys, _, rfl, rfl, hD7, lt16 (by omega), ?_⟩
        have s8 : Sta K H0 (upd H7 D (.lst (ys ++ [v]))) p := s7.upd hDn
        have t8 : TX H7 (upd H7 D (.lst (ys ++ [v]))) := TX.updL hD7
        have l7 := (l4.ch s4 c5).ch s5 c57
        refine ⟨_, os ++ [o2], _, _, rfl, ((c4.trans c5).trans c57).mut hDH, s8, ?_, ((x4.go (s4.tx c5)).go t57).go t8, upd_same, ?_, by rw [List.length_append, hos]; rfl, fun m hm => ?_⟩
        · obtain ⟨zs, z1, z2⟩ := l7.ex
          exact ⟨zs, by rw [upd_ne nDl.symm]; exact z1, z2.go t8⟩
        · rw [List.map_append]
          exact ((hy5.go t57).snoc dv).go t8
        · rcases List.mem_append.mp hm with hm | hm
          · exact hsub m hm
          · exact ho2 m (List.mem_singleton.mp hm).symm
      · rintro σ H4 ⟨ys, os, v4, v5, rfl, c4, s4, l4, x4, hD4, hy4, hos, hsub⟩
        refine ⟨_, rfl, _, rfl, D, ys, rfl, .inl ⟨SqL.of hD4, fun q hq => ⟨le16 (by show 3 ≤ 100000; decide), fun q2 hq2 => ?_⟩⟩⟩
        have e5 : Ex H4 (upd (upd H4 q (.tup ys)) q2 (.tup [x, .str "thing", .ref q])) := (Ex.new hq).trans (Ex.new hq2)
        refine k _ _ ⟨n, false, os⟩ (c4.trans e5.toCh) (s4.go e5) ?_ ⟨rfl, by show os.length ≤ 4; omega, hsub⟩
        exact .tup upd_same (.cons (x4.go e5.tx) (.cons (.str _) (.cons (.tup (Ex.new hq2 _ _ upd_same) (hy4.go e5.tx)) .nil)))
end
end HF
set_option Elab.async false
set_option linter.all false
set_option maxRecDepth 100000
set_option maxHeartbeats 4000000
namespace HF
open PySem PySem.Spec PyProof.Rows L2
structure LtOk (many : Int) (ns : List Nm) (l : Letter) : Prop where
  to0 : 0 ≤ l.to
  to1 : l.to < many
  len : l.names.length ≤ 2
  sub : ∀ m ∈ l.names, m ∈ ns
theorem b62 (j : Int) (h1 : 0 ≤ j) (h2 : j ≤ 1000) : -(2 ^ 62) ≤ j ∧ j < 2 ^ 62 := by
  have : (2 : Int) ^ 62 = 4611686018427387904 := by decide
  omega
theorem Sta.none {K : PySem.W.Frag} {H0 H H1 : Hp} {p D : Addr} (c : Ch p H H1) (n : D ≠ p) (h : H1 D = none) : H D = none := by
  cases z : H D with
  | none => rfl
  | some o => rw [c D o n z] at h; cases h
theorem paired_len {α β : Type} {S : α → β → Prop} {as : List α} {bs : List β} (h : Paired S as bs) : bs.length = as.length := (Paired.length h).symm
theorem paired_mem {α β : Type} {S : α → β → Prop} : ∀ {as : List α} {bs : List β}, Paired S as bs → ∀ b ∈ bs, ∃ a ∈ as, S a b
  | _, _, .nil, b, h => nomatch h
  | _, _, .cons h t, b, hb => by
    rcases List.mem_cons.mp hb with rfl | hb
    · exact ⟨_, List.mem_cons_self, h⟩
    · obtain ⟨a, ha, s⟩ := paired_mem t b hb
      exact ⟨a, List.mem_cons_of_mem _ ha, s⟩
theorem paired_mem' {α β : Type} {S : α → β → Prop} : ∀ {as : List α} {bs : List β}, Paired S as bs → ∀ a ∈ as, ∃ b ∈ bs, S a b
  | _, _, .nil, b, h => nomatch h
  | _, _, .cons h t, b, hb => by
    rcases List.mem_cons.mp hb with rfl | hb
    · exact ⟨_, List.mem_cons_self, h⟩
    · obtain ⟨a, ha, s⟩ := paired_mem' t b hb
      exact ⟨a, List.mem_cons_of_mem _ ha, s⟩
section
variable {P : Program} {w : World} {K : PySem.W.Frag} {mg : Str → Option Value} {base : Heap} {f : Addr} {fd : FuncData}
def spLetters (K : PySem.W.Frag) : Sp := fun vs H Q _ => ∃ H0 p many l ns, vs = [.ref p, .int many, .ref l] ∧ Sta K H0 H p ∧ 1 ≤ many ∧ many ≤ 8 ∧ NmAt H l ns ∧ ns.length ≤ 1000 ∧
  ∀ (r : V) (H' : Hp) (ls : List Letter), Ch p H H' → Sta K H0 H' p → Dt H' r (.tuple (ls.map dLetter)) → ls.length ≤ 2 → (∀ l ∈ ls, LtOk many ns l) → Q r H'
theorem sc_sL_letters : FnScope ["_law_state", "_law_many", "_law_names_here", "_law_found", "_law_k", "_law_sender", "_law_to", "_law_some_here", "_law_j"] ["_law_state", "_law_many", "_law_names_here"] (defScope sL_letters) := ⟨rfl, rfl, rfl, by decide +kernel, rfl, by decide +kernel, by decide +kernel⟩
theorem ok_letters (F : FnP K "_law_letters" "_law_letters" sL_letters f fd) (B : Bl mg) (C : CDraw P w K mg base) : FnOk P w K mg base CX0 2 f fd ["_law_state", "_law_many", "_law_names_here"] (spLetters K) := by
  refine F.ok sc_sL_letters (fun vs H Q E h => ?_) (fun cdv A outer s H vs Q E hr h => ?_)
  · obtain ⟨H0, p, many, l, ns, rfl, _⟩ := h
    rfl
  · obtain ⟨H0, p, many, l, ns, rfl, hst, hm1, hm8, hl, hln, k⟩ := h
    have hu := hu_of hr
    have hu64 := hr.units
    refine ⟨_, PSs.nox (pss_cons (ps_set (i := 3) sc_sL_letters.nd rfl (Or.inl rfl) (pe_lst pa_nil))
          (pss_cons (ps_for PassesOwn.never rfl (pi_range1 (by rfl) B.range (pa_cons (pe_cal C._law_next (hr.mono (by decide)) pass0 (pa_cons (pv 0) (pa_cons pe_int pa_nil))) pa_nil)) (pg_name (i := 4) sc_sL_letters.nd rfl (Or.inl rfl))
          (pss_one (ps_if (PW.pt (pw_and (pt_cmpR op_gt (pv 1) pe_int (nomark _)) (pw_and1 (pt_cmpR (op_neP hu64) (pv 2) (pe_lst pa_nil) (nomark _)))))
          (pss_cons (ps_set (i := 5) sc_sL_letters.nd rfl (Or.inl rfl) (pe_cal C._law_next (hr.mono (by decide)) pass0 (pa_cons (pv 0) (pa_cons (pv 1) pa_nil))))
          (pss_cons (ps_set (i := 6) sc_sL_letters.nd rfl (Or.inl rfl) (pe_op op_modN (pe_op op_add (pe_op op_add (pv 5) pe_int) (pe_cal C._law_next (hr.mono (by decide)) pass0 (pa_cons (pv 0) (pa_cons (pe_op op_sub (pv 1) pe_int) pa_nil)))) (pv 1)))
          (pss_cons (ps_setLc (i := 7) (own := [("_law_j", 8)]) (g := gName 8) (tt := tYes) rfl sc_sL_letters.nd rfl rfl (sw_true rfl rfl rfl (by decide +kernel)) (pi_range1 (by rfl) B.range (pa_cons (pe_op op_add pe_int (pe_cal C._law_next (hr.mono (by decide)) pass0 (pa_cons (pv 0) (pa_cons pe_int pa_nil)))) pa_nil)) (blkOk_by (N := ["_law_state", "_law_many", "_law_names_here", "_law_found", "_law_k", "_law_sender", "_law_to", "_law_some_here", "_law_j"]) (sc := defScope sL_letters) (by decide +kernel)) (fun _ _ _ _ _ => (pg_name (i := 8) sc_sL_letters.nd rfl (Or.inl rfl))) (fun _ _ _ _ _ => pts_nil) (fun _ _ _ _ _ => (pe_ix (r := rIxL K) ix_list (pv 2) (pe_cal C._law_next (hr.mono (by decide)) pass0 (pa_cons (pv 0) (pa_cons (pe_callB (call_lenK (K := K) rfl) (by rfl) B.len (by decide +kernel) (pa_cons (pv 2) pa_nil)) pa_nil))) (fun _ _ => rfl))))
          (pss_one (ps_expr (pe_bm PySem.F.plainAttrs_list PySem.F.slot_list_append PySem.F.type_list_append mt_append (pv 3) (pa_cons (pe_tup (pa_cons (pv 5) (pa_cons (pv 6) (pa_cons (pe_callTy call_tuple_of (by rfl) B.tuple (by decide +kernel) (pa_cons (pv 7) pa_nil)) pa_nil)))) pa_nil)))))))
          pss_nil)))
          (pss_one (ps_ret (pe_callTy call_tuple_of (by rfl) B.tuple (by decide +kernel) (pa_cons (pv 3) pa_nil)))))), ?_⟩
    refine ⟨le16 (by show 0 ≤ 100000; decide), fun D hD => ?_⟩
    have hDn := hst.new hD
    have e1 : Ex H (upd H D (.lst [])) := Ex.new hD
    have s1 : Sta K H0 (upd H D (.lst [])) p := hst.go e1
    have hD1 : (upd H D (.lst [])) D = some (.lst []) := upd_same
    have l1 := hl.go e1
    generalize upd H D (.lst []) = H1 at e1 s1 hD1 l1
    have nDl : D ≠ l := fun z => by
      obtain ⟨ys, q1, _⟩ := hl.ex
      rw [z, q1] at hD
      cases hD
    refine ⟨_, rfl, H0, p, 3, rfl, s1, by decide, by decide, fun r H2 r0 rb c2 s2 => ?_⟩
    refine ⟨r, rfl, (b62 r (by omega) (by omega)).1, (b62 r (by omega) (by omega)).2, ?_⟩
    refine for_it (walk_range (lo := 0) (n := r.toNat)) (fun i σ H' => ∃ ys ls v4 v5 v6 v7, σ = [some (.ref p), some (.int many), some (.ref l), some (.ref D), v4, v5, v6, v7, none] ∧ Ch p H H' ∧ Sta K H0 H' p ∧ NmAt H' l ns ∧ H' D = some (.lst ys) ∧ DtAll H' ys (ls.map dLetter) ∧ ls.length ≤ i ∧ ∀ l ∈ ls, LtOk many ns l)
      ⟨[], [], none, none, none, none, rfl, e1.toCh.trans c2, s2, l1.ch s1 c2, c2 _ _ hDn.2 hD1, .nil, Nat.le_refl _, fun m h => nomatch h⟩ (fun _ _ _ _ _ => trivial) ?_ ?_
    · rintro i y σ _ H3 hi ⟨ys, ls, v4, v5, v6, v7, rfl, c3, s3, l3, hD3, hy3, hls, hok⟩ ⟨rfl, rfl⟩
      refine ⟨_, rfl, _, _, rfl, rfl, _, rfl, ?_⟩
      by_cases hm : (1 : Int) < many
      · rw [decide_eq_true hm]
        obtain ⟨xs, hl3, hx3⟩ := l3.ex
        refine iteT ⟨_, rfl, le16 (by show 0 ≤ 100000; decide), fun q hq => neMt (Ex.new hq _ _ hl3) (hx3.go (TX.updN hq)) upd_same ⟨_, rfl, ?_⟩⟩
        have e4 : Ex H3 (upd H3 q (.lst [])) := Ex.new hq
        have s4 : Sta K H0 (upd H3 q (.lst [])) p := s3.go e4
        generalize upd H3 q (.lst []) = H4 at e4 s4
        have c4 := c3.trans e4.toCh
        have l4 := l3.go e4
        have hD4 := e4 _ _ hD3
        have hy4 := hy3.go e4.tx
        rw [filt_isEmpty]
        cases hns : ns.isEmpty with
        | true =>
          exact iteF ⟨ys, ls, _, _, _, _, rfl, c4, s4, l4, hD4, hy4, by omega, hok⟩
        | false =>
          have hnl : 0 < ns.length := by
            cases ns with
            | nil => cases hns
            | cons a r => simp
          refine iteT ⟨_, rfl, _, rfl, H0, p, many, rfl, s4, by omega, by omega, fun sd H5 sd0 sdb c5 s5 => ?_⟩
          refine ⟨_, rfl, _, _, rfl, rfl, _, rfl, _, rfl, _, _, rfl, rfl, H0, p, many - 1, rfl, s5, by omega, by omega, fun st H6 st0 stb c6 s6 => ⟨_, _, rfl, rfl, _, rfl, _, _, rfl, rfl, (fun z => by omega : many ≠ 0), ?_⟩⟩
          have t0 : 0 ≤ (sd + 1 + st).fmod many := Int.fmod_nonneg_of_pos _ (by omega)
          have t1 : (sd + 1 + st).fmod many < many := Int.fmod_lt_of_pos _ (by omega)
          have c46 := c5.trans c6
          have t46 := s4.tx c46
          have l6 := (l4.ch s4 c5).ch s5 c6
          refine ⟨_, rfl, H0, p, 2, rfl, s6, by decide, by decide, fun jr H7 jr0 jrb c7 s7 => ⟨_, _, rfl, rfl, 1 + jr, rfl, (b62 _ (by omega) (by omega)).1, (b62 _ (by omega) (by omega)).2, fun D2 hD2 => ?_⟩⟩
          have l7 := l6.ch s6 c7
          have c47 := c46.trans c7
          refine lc_draw (as := List.range (1 + jr).toNat) (H0 := H0) (H1 := H7) (p := p) (walk_rangeL (lo := 0) (n := (1 + jr).toNat)) (fun _ _ _ => True) (fun _ => true) dN (fun _ n => n ∈ ns) (by rw [List.length_range]; omega) hD2 s7 ?_ (fun _ _ => trivial) ?_ ?_ ?_ ?_
          · exact fun _ => rfl
          · rintro j al x H8 H9 hj c ⟨rfl, hx⟩
            exact ⟨rfl, trivial⟩
          · intro al x H8 _ _ _ _ R r
            exact r
          · intro al x H8 _ _ c8 s8 _ R r
            have l8 := l7.ch s7 c8
            obtain ⟨xs, q1, q2⟩ := l8.ex
            have lxs := q2.len
            rw [List.length_map] at lxs
            refine ⟨_, rfl, _, rfl, _, rfl, l, xs, rfl, .inl (SqL.of q1), H0, p, (xs.length : Nat), rfl, s8, by omega, by omega, fun ix H9 ix0 ixb c9 s9 => ?_⟩
            have l9 := l8.ch s8 c9
            obtain ⟨xs9, q3, q4⟩ := l9.ex
            have lxs9 := q4.len
            rw [List.length_map] at lxs9
            obtain ⟨v, hv, hat⟩ := atI_in (xs := xs9) ix0 (by omega)
            obtain ⟨d, hd, dv⟩ := q4.mem hv
            obtain ⟨n, hn, rfl⟩ := List.mem_map.mp hd
            exact ⟨l, xs9, ix, v, rfl, rfl, SqL.of q3, hat, r v H9 n c9 s9 dv hn⟩
          · intro zs H8 bs c8 s8 hD8 hz8 pr
            have nD2 := (s7.new hD2).2
            have lb := paired_len pr
            have lbs := List.length_filter_le (fun _ : Nat => true) (List.range (1 + jr).toNat)
            rw [List.length_range] at lbs
            have hDx : D ≠ D2 := fun z => by rw [← z, c47 _ _ hDn.2 hD4] at hD2; cases hD2
            have c48 := c47.trans c8
            have hD8x := c48 _ _ hDn.2 hD4
            have hy8 := hy4.go (s4.tx c48)
            have ly := hy8.len
            rw [List.length_map] at ly
            refine ⟨_, rfl, .inl ⟨rfl, _, SqL.of hD8x⟩, _, rfl, _, rfl, _, rfl, D2, zs, rfl, .inl ⟨SqL.of hD8, fun q hq => ⟨le16 (by show 3 ≤ 100000; decide), fun q2 hq2 => ?_⟩⟩⟩
            have e9 : Ex H8 (upd (upd H8 q (.tup zs)) q2 (.tup [.int sd, .int ((sd + 1 + st).fmod many), .ref q])) := (Ex.new hq).trans (Ex.new hq2)
            have d9 : Dt (upd (upd H8 q (.tup zs)) q2 (.tup [.int sd, .int ((sd + 1 + st).fmod many), .ref q])) (.ref q2) (dLetter ⟨sd, ((sd + 1 + st).fmod many), bs⟩) :=
              .tup upd_same (.cons (.int _) (.cons (.int _) (.cons (.tup (Ex.new hq2 _ _ upd_same) (hz8.go e9.tx)) .nil)))
            have s9 : Sta K H0 (upd (upd H8 q (.tup zs)) q2 (.tup [.int sd, .int ((sd + 1 + st).fmod many), .ref q])) p := s8.go e9
            refine ⟨D, ys, _, rfl, rfl, e9 _ _ hD8x, lt16 (by omega), ?_⟩
            have t10 : TX _ (upd (upd (upd H8 q (.tup zs)) q2 (.tup [.int sd, .int ((sd + 1 + st).fmod many), .ref q])) D (.lst (ys ++ [.ref q2]))) := TX.updL (e9 _ _ hD8x)
            have l8 := (l7.ch s7 c8).go e9
            refine ⟨_, ls ++ [⟨sd, ((sd + 1 + st).fmod many), bs⟩], _, _, _, _, rfl, ((c4.trans c48).trans e9.toCh).mut hD, s9.upd hDn, ?_, upd_same, ?_, by rw [List.length_append, List.length_singleton]; omega, fun l hl => ?_⟩
            · obtain ⟨ws, z1, z2⟩ := l8.ex
              exact ⟨ws, by rw [upd_ne nDl.symm]; exact z1, z2.go t10⟩
            · rw [List.map_append]
              exact ((hy8.go e9.tx).snoc d9).go t10
            · rcases List.mem_append.mp hl with hl | hl
              · exact hok l hl
              · rw [List.mem_singleton.mp hl]
                refine ⟨t0, t1, by show bs.length ≤ 2; omega, fun m hm => ?_⟩
                obtain ⟨_, _, z⟩ := paired_mem pr m hm
                exact z
      · rw [decide_eq_false hm]
        exact iteF ⟨ys, ls, _, _, _, _, rfl, c3, s3, l3, hD3, hy3, by omega, hok⟩
    · rintro σ H3 ⟨ys, ls, v4, v5, v6, v7, rfl, c3, s3, l3, hD3, hy3, hls, hok⟩
      refine ⟨_, rfl, D, ys, rfl, .inl ⟨SqL.of hD3, fun q hq => ?_⟩⟩
      exact k _ _ ls (c3.trans (Ex.new hq).toCh) (s3.go (Ex.new hq)) (.tup upd_same (hy3.go (TX.updN hq))) (by omega) hok
end
end HF
set_option Elab.async false
set_option linter.all false
set_option maxRecDepth 100000
set_option maxHeartbeats 4000000
namespace HF
open PySem PySem.Spec PyProof.Rows L2
structure HsOk (ns : List Nm) (i : Nat) (h : House) : Prop where
  len : h.hands.length ≤ 5
  sub : ∀ m, some m ∈ h.hands → m ∈ ns
  ths : Paired (fun n t => ThOk ns n t) (ns.filter fun n => decide (n.1 = (i : Int))) h.things
structure PicGot (many : Int) (ns : List Nm) (p : Pic) : Prop where
  m1 : 1 ≤ many
  m8 : many ≤ 8
  len : p.houses.length = many.toNat
  hs : ∀ i h, p.houses[i]? = some h → HsOk ns i h
  ll : p.letters.length ≤ 2
  ls : ∀ l ∈ p.letters, LtOk many ns l
  ok : NamesOk many ns
theorem add_key {n : Nm} : ∀ {ts : List Thing} {acc : List (Nm × Flds)}, n ∈ keys (addThings acc ts) ↔ n ∈ keys acc ∨ ∃ t ∈ ts, t.name = n
  | [], acc => by
    show n ∈ keys acc ↔ _
    simp
  | t :: r, acc => by
    show n ∈ keys (addThings (aput acc t.name t.flds) r) ↔ _
    rw [add_key, mem_keys_put]
    constructor
    · rintro ((h | h) | ⟨u, hu, h⟩)
      · exact .inr ⟨t, List.mem_cons_self, h.symm⟩
      · exact .inl h
      · exact .inr ⟨u, List.mem_cons_of_mem _ hu, h⟩
    · rintro (h | ⟨u, hu, h⟩)
      · exact .inl (.inr h)
      · rcases List.mem_cons.mp hu with rfl | hu
        · exact .inl (.inl h.symm)
        · exact .inr ⟨u, hu, h⟩
theorem add_get {n : Nm} {fs : Flds} : ∀ {ts : List Thing} {acc : List (Nm × Flds)}, aget (addThings acc ts) n = some fs → aget acc n = some fs ∨ ∃ t ∈ ts, t.name = n ∧ t.flds = fs
  | [], acc, h => .inl h
  | t :: r, acc, h => by
    have h : aget (addThings (aput acc t.name t.flds) r) n = some fs := h
    rcases add_get h with q | ⟨u, hu, q⟩
    · rw [aget_put] at q
      split at q
      · rename_i e
        cases q
        exact .inr ⟨t, List.mem_cons_self, e.symm, rfl⟩
      · exact .inl q
    · exact .inr ⟨u, List.mem_cons_of_mem _ hu, q⟩
theorem add_nodup : ∀ {ts : List Thing} {acc : List (Nm × Flds)}, (keys acc).Nodup → (keys (addThings acc ts)).Nodup
  | [], acc, h => h
  | t :: r, acc, h => add_nodup (ts := r) (nodup_put h)
theorem fields_key {n : Nm} (p : Pic) : n ∈ keys (fieldsF p) ↔ ∃ h ∈ p.houses, ∃ t ∈ h.things, t.name = n := by
  have main : ∀ (hs : List House) (acc : List (Nm × Flds)), n ∈ keys (hs.foldl (fun a h => addThings a h.things) acc) ↔ n ∈ keys acc ∨ ∃ h ∈ hs, ∃ t ∈ h.things, t.name = n := fun hs => by
    induction hs with
    | nil => intro acc; simp
    | cons h r ih =>
      intro acc
      rw [List.foldl_cons, ih, add_key]
      constructor
      · rintro ((q | q) | ⟨u, hu, q⟩)
        · exact .inl q
        · exact .inr ⟨h, List.mem_cons_self, q⟩
        · exact .inr ⟨u, List.mem_cons_of_mem _ hu, q⟩
      · rintro (q | ⟨u, hu, q⟩)
        · exact .inl (.inl q)
        · rcases List.mem_cons.mp hu with rfl | hu
          · exact .inl (.inr q)
          · exact .inr ⟨u, hu, q⟩
  have := main p.houses []
  unfold fieldsF
  rw [this]
  simp
theorem fields_get {n : Nm} {fs : Flds} (p : Pic) (h : aget (fieldsF p) n = some fs) : ∃ h ∈ p.houses, ∃ t ∈ h.things, t.name = n ∧ t.flds = fs := by
  have main : ∀ (hs : List House) (acc : List (Nm × Flds)), aget (hs.foldl (fun a h => addThings a h.things) acc) n = some fs → aget acc n = some fs ∨ ∃ h ∈ hs, ∃ t ∈ h.things, t.name = n ∧ t.flds = fs := fun hs => by
    induction hs with
    | nil => exact fun acc h => .inl h
    | cons h r ih =>
      intro acc q
      rw [List.foldl_cons] at q
      rcases ih _ q with q | ⟨u, hu, q⟩
      · rcases add_get q with q | q
        · exact .inl q
        · exact .inr ⟨h, List.mem_cons_self, q⟩
      · exact .inr ⟨u, List.mem_cons_of_mem _ hu, q⟩
  rcases main p.houses [] h with q | q
  · cases q
  · exact q
theorem fields_nodup (p : Pic) : (keys (fieldsF p)).Nodup := by
  have main : ∀ (hs : List House) (acc : List (Nm × Flds)), (keys acc).Nodup → (keys (hs.foldl (fun a h => addThings a h.things) acc)).Nodup := fun hs => by
    induction hs with
    | nil => exact fun acc h => h
    | cons h r ih => exact fun acc q => ih _ (add_nodup q)
  exact main p.houses [] List.nodup_nil
theorem PicGot.ok' {many : Int} {ns : List Nm} {p : Pic} (g : PicGot many ns p) : PicOk p := by
  have hmem : ∀ h ∈ p.houses, ∃ i, HsOk ns i h := fun h hh => by
    obtain ⟨i, hi⟩ := List.getElem?_of_mem hh
    exact ⟨i, g.hs i h hi⟩
  have hth : ∀ h ∈ p.houses, ∀ t ∈ h.things, ∃ n ∈ ns, ThOk ns n t := fun h hh t ht => by
    obtain ⟨i, ok⟩ := hmem h hh
    obtain ⟨n, hn, s⟩ := paired_mem ok.ths t ht
    exact ⟨n, (List.mem_filter.mp hn).1, s⟩
  have hkey : ∀ n, n ∈ keys (fieldsF p) ↔ n ∈ ns := fun n => by
    rw [fields_key]
    constructor
    · rintro ⟨h, hh, t, ht, e⟩
      obtain ⟨m, hm, s⟩ := hth h hh t ht
      rw [← e, s.name]
      exact hm
    · intro hn
      obtain ⟨b0, b1, _⟩ := g.ok.bd n hn
      have hi : n.1.toNat < p.houses.length := by rw [g.len]; omega
      have e := List.getElem?_eq_getElem hi
      obtain ⟨t, ht, s⟩ := paired_mem' (g.hs _ _ e).ths n (List.mem_filter.mpr ⟨hn, by rw [decide_eq_true_eq]; omega⟩)
      exact ⟨_, List.getElem_mem hi, t, ht, s.name⟩
  have hl := g.ok.len
  have hb := fields_nodup p
  have hcnt : (fieldsF p).length ≤ 40 := by
    have := List.Nodup.length_le_of_subset hb fun n hn => (hkey n).mp hn
    rw [List.length_map] at this
    omega
  have hh8 : p.houses.length ≤ 8 := by
    have := g.m8
    rw [g.len]
    omega
  refine ⟨⟨hh8, fun h hh => ?_, fun h hh => ?_, fun h hh t ht => ?_, Nat.le_trans g.ll (by decide), fun l hl => Nat.le_trans (g.ls l hl).len (by decide)⟩, ⟨hb, fun n fs h m hm => ?_, hcnt, fun n fs h => ?_, fun n hn => (g.ok.bd n ((hkey n).mp hn)).2.2⟩, fun n hn => ?_, fun n hn => ?_, fun l hl => ?_⟩
  · obtain ⟨i, ok⟩ := hmem h hh
    have h1 := paired_len ok.ths
    have h2 := List.length_filter_le (fun n : Nm => decide (n.1 = (i : Int))) ns
    omega
  · obtain ⟨i, ok⟩ := hmem h hh
    exact Nat.le_trans ok.len (by decide)
  · obtain ⟨n, hn, s⟩ := hth h hh t ht
    exact s.len
  · obtain ⟨hh, h1, t, h2, h3, h4⟩ := fields_get p h
    obtain ⟨n', hn', s⟩ := hth hh h1 t h2
    rw [hkey]
    exact s.sub m (by rw [h4]; exact hm)
  · obtain ⟨hh, h1, t, h2, h3, h4⟩ := fields_get p h
    obtain ⟨n', hn', s⟩ := hth hh h1 t h2
    rw [← h4]
    exact s.len
  · rw [hkey]
    unfold heldF at hn
    rw [app_fold_id, app_fold] at hn
    rcases List.mem_append.mp hn with q | q
    · obtain ⟨h, hh, q⟩ := List.mem_flatMap.mp q
      obtain ⟨o, ho, e⟩ := List.mem_filterMap.mp q
      obtain ⟨i, ok⟩ := hmem h hh
      have e : o = some n := e
      exact ok.sub n (e ▸ ho)
    · obtain ⟨l, hl, q⟩ := List.mem_flatMap.mp q
      exact (g.ls l hl).sub n q
  · obtain ⟨b0, b1, _⟩ := g.ok.bd n ((hkey n).mp hn)
    have := g.m1
    rw [g.len]
    omega
  · have q := g.ls l hl
    have q0 := q.to0
    have q1 := q.to1
    rw [g.len]
    omega
section
variable {P : Program} {w : World} {K : PySem.W.Frag} {mg : Str → Option Value} {base : Heap} {f : Addr} {fd : FuncData}
structure CPic (P : Program) (w : World) (K : PySem.W.Frag) (mg : Str → Option Value) (base : Heap) : Prop where
  _law_next : Cal P w K mg base "_law_next" ["_law_state", "_law_below"] 1 (spDraw K)
  _law_names : Cal P w K mg base "_law_names" ["_law_state", "_law_many"] 2 (spNames K)
  _law_some : Cal P w K mg base "_law_some" ["_law_state", "_law_names_here", "_law_odds"] 2 (spSome K)
  _law_thing : Cal P w K mg base "_law_thing" ["_law_state", "_law_name", "_law_names_here"] 3 (spThing K)
  _law_letters : Cal P w K mg base "_law_letters" ["_law_state", "_law_many", "_law_names_here"] 2 (spLetters K)
def spPicture (K : PySem.W.Frag) : Sp := fun vs H Q _ => ∃ H0 p, vs = [.ref p] ∧ Sta K H0 H p ∧ ∀ r H' pic, Ch p H H' → Dt H' r (dPic pic) → PicOk pic → Q r H'
theorem sc_sL_picture : FnScope ["_law_state", "_law_many", "_law_names_here", "_law_odds", "_law_houses", "_law_house", "_law_hands", "_law_things", "_law_k", "_law_name"] ["_law_state"] (defScope sL_picture) := ⟨rfl, rfl, rfl, by decide +kernel, rfl, by decide +kernel, by decide +kernel⟩
theorem ok_picture (F : FnP K "_law_picture" "_law_picture" sL_picture f fd) (B : Bl mg) (C : CPic P w K mg base) : FnOk P w K mg base CX0 4 f fd ["_law_state"] (spPicture K) := by
  refine F.ok sc_sL_picture (fun vs H Q E h => ?_) (fun cdv A outer s H vs Q E hr h => ?_)
  · obtain ⟨H0, p, rfl, _⟩ := h
    rfl
  · obtain ⟨H0, p, rfl, hst, k⟩ := h
    have hu := hu_of hr
    have hu64 := hr.units
    refine ⟨_, PSs.nox (pss_cons (ps_set (i := 1) sc_sL_picture.nd rfl (Or.inl rfl) (pe_ix ix_list (pe_lst (pa_cons pe_int (pa_cons pe_int (pa_cons pe_int (pa_cons pe_int (pa_cons pe_int (pa_cons pe_int (pa_cons pe_int (pa_cons pe_int pa_nil))))))))) (pe_cal C._law_next (hr.mono (by decide)) pass0 (pa_cons (pv 0) (pa_cons pe_int pa_nil))) (fun _ _ => rfl)))
          (pss_cons (ps_set (i := 2) sc_sL_picture.nd rfl (Or.inr rfl) (pe_cal C._law_names (hr.mono (by decide)) pass0 (pa_cons (pv 0) (pa_cons (pv 1) pa_nil))))
          (pss_cons (ps_set (i := 3) sc_sL_picture.nd rfl (Or.inr rfl) (pe_ix ix_list (pe_lst (pa_cons pe_int (pa_cons pe_int (pa_cons pe_int (pa_cons pe_int pa_nil))))) (pe_cal C._law_next (hr.mono (by decide)) pass0 (pa_cons (pv 0) (pa_cons pe_int pa_nil))) (fun _ _ => rfl)))
          (pss_cons (ps_set (i := 4) sc_sL_picture.nd rfl (Or.inl rfl) (pe_lst pa_nil))
          (pss_cons (ps_for PassesOwn.never rfl (pi_range1 (by rfl) B.range (pa_cons (pv 1) pa_nil)) (pg_name (i := 5) sc_sL_picture.nd rfl (Or.inr rfl))
          (pss_cons (ps_setLc (i := 6) (own := [("_law_k", 8)]) (g := gName 8) (tt := tYes) rfl sc_sL_picture.nd rfl rfl (sw_true rfl rfl rfl (by decide +kernel)) (pi_range1 (by rfl) B.range (pa_cons pe_int pa_nil)) (blkOk_by (N := ["_law_state", "_law_many", "_law_names_here", "_law_odds", "_law_houses", "_law_house", "_law_hands", "_law_things", "_law_k", "_law_name"]) (sc := defScope sL_picture) (by decide +kernel)) (fun _ _ _ _ _ => (pg_name (i := 8) sc_sL_picture.nd rfl (Or.inl rfl))) (fun _ _ _ _ _ => pts_nil) (fun _ _ _ _ _ => (pe_cal C._law_some (hr.mono (by decide)) pass0 (pa_cons (pv 0) (pa_cons (pv 2) (pa_cons (pv 3) pa_nil))))))
          (pss_cons (ps_if (PW.pt (pw_and (pt_cmpR (op_neP hu64) (pv 2) (pe_lst pa_nil) (nomark _)) (pw_and1 (pt_cmpR (op_eqU hu64) (pe_cal C._law_next (hr.mono (by decide)) pass0 (pa_cons (pv 0) (pa_cons pe_int pa_nil))) pe_int (nomark _)))))
          (pss_one (ps_set (i := 6) sc_sL_picture.nd rfl (Or.inl rfl) (pe_op op_cat (pv 6) (pe_lst (pa_cons (pe_ix ix_list (pv 2) (pe_cal C._law_next (hr.mono (by decide)) pass0 (pa_cons (pv 0) (pa_cons (pe_callB call_len_seq (by rfl) B.len (by decide +kernel) (pa_cons (pv 2) pa_nil)) pa_nil))) (fun _ _ => rfl)) pa_nil)))))
          pss_nil)
          (pss_cons (ps_setLc (i := 7) (own := [("_law_name", 9)]) (g := gName 9) rfl sc_sL_picture.nd rfl rfl (sw_true rfl rfl rfl (by decide +kernel)) (pi_list (pv 2)) (blkOk_by (N := ["_law_state", "_law_many", "_law_names_here", "_law_odds", "_law_houses", "_law_house", "_law_hands", "_law_things", "_law_k", "_law_name"]) (sc := defScope sL_picture) (by decide +kernel)) (fun _ _ _ _ _ => (pg_name (i := 9) sc_sL_picture.nd rfl (Or.inl rfl))) (fun _ _ _ _ _ => (pts_one (pt_cmpR (op_eqU hu64) (pe_ix (r := rIxT K) ix_tup (pv 9) pe_int (fun _ _ => rfl)) (pv 5) (nomark _)))) (fun _ _ _ _ _ => (pe_cal C._law_thing (hr.mono (by decide)) pass0 (pa_cons (pv 0) (pa_cons (pv 9) (pa_cons (pv 2) pa_nil))))))
          (pss_one (ps_expr (pe_bm PySem.F.plainAttrs_list PySem.F.slot_list_append PySem.F.type_list_append mt_append (pv 4) (pa_cons (pe_tup (pa_cons (pe_callTy call_tuple_of (by rfl) B.tuple (by decide +kernel) (pa_cons (pv 6) pa_nil)) (pa_cons (pe_callTy call_tuple_of (by rfl) B.tuple (by decide +kernel) (pa_cons (pv 7) pa_nil)) pa_nil))) pa_nil))))))))
          (pss_one (ps_ret (pe_tup (pa_cons (pe_callTy call_tuple_of (by rfl) B.tuple (by decide +kernel) (pa_cons (pv 4) pa_nil)) (pa_cons (pe_cal C._law_letters (hr.mono (by decide)) pass0 (pa_cons (pv 0) (pa_cons (pv 1) (pa_cons (pv 2) pa_nil)))) pa_nil)))))))))), ?_⟩
    refine ⟨le16 (by show 8 ≤ 100000; decide), fun q hq => ?_⟩
    have e1 : Ex H (upd H q (.lst [.int 2, .int 3, .int 1, .int 4, .int 2, .int 3, .int 5, .int 8])) := Ex.new hq
    have s1 : Sta K H0 (upd H q (.lst [.int 2, .int 3, .int 1, .int 4, .int 2, .int 3, .int 5, .int 8])) p := hst.go e1
    have hq1 : (upd H q (.lst [.int 2, .int 3, .int 1, .int 4, .int 2, .int 3, .int 5, .int 8])) q = some (.lst [.int 2, .int 3, .int 1, .int 4, .int 2, .int 3, .int 5, .int 8]) := upd_same
    have nqp := (hst.new hq).2
    generalize upd H q (.lst [.int 2, .int 3, .int 1, .int 4, .int 2, .int 3, .int 5, .int 8]) = H1 at e1 s1 hq1
    refine ⟨_, rfl, H0, p, 8, rfl, s1, by decide, by decide, fun r H2 r0 rb c2 s2 => ?_⟩
    obtain ⟨v, hv, hat⟩ := atI_in (xs := [V.int 2, .int 3, .int 1, .int 4, .int 2, .int 3, .int 5, .int 8]) r0 rb
    have hmany : ∃ many : Int, v = .int many ∧ 1 ≤ many ∧ many ≤ 8 := by
      simp only [List.mem_cons, List.not_mem_nil, or_false] at hv
      rcases hv with rfl | rfl | rfl | rfl | rfl | rfl | rfl | rfl
      all_goals exact ⟨_, rfl, by decide, by decide⟩
    obtain ⟨many, rfl, m1, m8⟩ := hmany
    refine ⟨q, _, r, _, rfl, rfl, SqL.of (c2 _ _ nqp hq1), hat, ?_⟩
    refine ⟨_, rfl, _, rfl, H0, p, many, rfl, s2, m1, m8, fun l H3 ns hl c3 s3 l3 hns => ?_⟩
    have lns : ns.length ≤ 1000 := Nat.le_trans hns.len (by decide)
    refine ⟨le16 (by show 4 ≤ 100000; decide), fun q2 hq2 => ?_⟩
    have e4 : Ex H3 (upd H3 q2 (.lst [.int 5, .int 9, .int 2, .int 30])) := Ex.new hq2
    have s4 : Sta K H0 (upd H3 q2 (.lst [.int 5, .int 9, .int 2, .int 30])) p := s3.go e4
    have hq4 : (upd H3 q2 (.lst [.int 5, .int 9, .int 2, .int 30])) q2 = some (.lst [.int 5, .int 9, .int 2, .int 30]) := upd_same
    have nq2p := (s3.new hq2).2
    generalize upd H3 q2 (.lst [.int 5, .int 9, .int 2, .int 30]) = H4 at e4 s4 hq4
    refine ⟨_, rfl, H0, p, 4, rfl, s4, by decide, by decide, fun r H5 r0 rb c5 s5 => ?_⟩
    obtain ⟨v, hv, hat⟩ := atI_in (xs := [V.int 5, .int 9, .int 2, .int 30]) r0 rb
    have hodds : ∃ odds : Int, v = .int odds ∧ 0 < odds ∧ odds < 1000000 := by
      simp only [List.mem_cons, List.not_mem_nil, or_false] at hv
      rcases hv with rfl | rfl | rfl | rfl
      all_goals exact ⟨_, rfl, by decide, by decide⟩
    obtain ⟨odds, rfl, o0, o1⟩ := hodds
    refine ⟨q2, _, r, _, rfl, rfl, SqL.of (c5 _ _ nq2p hq4), hat, ?_⟩
    have c05 : Ch p H H5 := (((e1.toCh.trans c2).trans c3).trans e4.toCh).trans c5
    have l5 := (l3.go e4).ch s4 c5
    refine ⟨le16 (by show 0 ≤ 100000; decide), fun D hD => ?_⟩
    have hDn := s5.new hD
    have hDH : H D = none := Sta.none (K := K) (H0 := H0) c05 hDn.2 hD
    have e6 : Ex H5 (upd H5 D (.lst [])) := Ex.new hD
    have s6 : Sta K H0 (upd H5 D (.lst [])) p := s5.go e6
    have hD6 : (upd H5 D (.lst [])) D = some (.lst []) := upd_same
    have l6 := l5.go e6
    have nDl : D ≠ l := fun z => by
      obtain ⟨ys, q1, _⟩ := l5.ex
      rw [z, q1] at hD
      cases hD
    generalize upd H5 D (.lst []) = H6 at e6 s6 hD6 l6
    refine ⟨_, rfl, many, rfl, (b62 _ (by omega) (by omega)).1, (b62 _ (by omega) (by omega)).2, ?_⟩
    refine for_it (walk_range (lo := 0) (n := many.toNat)) (fun i σ H' => ∃ ys hs v5 v6 v7, σ = [some (.ref p), some (.int many), some (.ref l), some (.int odds), some (.ref D), v5, v6, v7, none, none] ∧ Ch p H H' ∧ Sta K H0 H' p ∧ NmAt H' l ns ∧ H' D = some (.lst ys) ∧ DtAll H' ys (hs.map dHouse) ∧ hs.length = i ∧ ∀ j h, hs[j]? = some h → HsOk ns j h)
      ⟨[], [], none, none, none, rfl, c05.trans e6.toCh, s6, l6, hD6, .nil, rfl, fun j h e => by simp at e⟩ (fun _ _ _ _ _ => trivial) ?_ ?_
    · rintro i y σ _ H7 hi ⟨ys, hs, v5, v6, v7, rfl, c7, s7, l7, hD7, hy7, hlen, hok⟩ ⟨rfl, rfl⟩
      refine ⟨4, rfl, by decide, by decide, fun D2 hD2 => ?_⟩
      refine lc_draw (as := List.range (4 : Int).toNat) (H0 := H0) (H1 := H7) (p := p) (walk_rangeL (lo := 0) (n := (4 : Int).toNat)) (fun _ _ _ => True) (fun _ => true) dO (fun _ (o : Option Nm) => ∀ m, o = some m → m ∈ ns) (by rw [List.length_range]; decide) hD2 s7 ?_ (fun _ _ => trivial) ?_ ?_ ?_ ?_
      · exact fun _ => rfl
      · rintro j al x H8 H9 hj c ⟨rfl, hx⟩
        exact ⟨rfl, trivial⟩
      · intro al x H8 _ _ _ _ R r
        exact r
      · intro al x H8 _ _ c8 s8 _ R r
        exact ⟨_, rfl, _, rfl, _, rfl, H0, p, l, odds, ns, rfl, s8, l7.ch s7 c8, lns, o0, o1, fun y H9 o c9 s9 d9 ho => r y H9 o c9 s9 d9 ho⟩
      intro zs H8 hands c8 s8 hD28 hz8 pr
      have lz := paired_len pr
      rw [List.filter_eq_self.mpr fun _ _ => rfl, List.length_range] at lz
      have lz4 : hands.length = 4 := lz
      have hsub : ∀ m, some m ∈ hands → m ∈ ns := fun m hm => by
        obtain ⟨_, _, z⟩ := paired_mem pr _ hm
        exact z m rfl
      have c08 := c7.trans c8
      have l8 := l7.ch s7 c8
      have hD8 := c8 _ _ hDn.2 hD7
      have hy8 := hy7.go (s7.tx c8)
      clear pr lz
      obtain ⟨nx0, hl8, hx8⟩ := l8.ex
      refine ⟨_, rfl, le16 (by show 0 ≤ 100000; decide), fun q hq => neMt (Ex.new hq _ _ hl8) (hx8.go (TX.updN hq)) upd_same ⟨_, rfl, ?_⟩⟩
      have e9 : Ex H8 (upd H8 q (.lst [])) := Ex.new hq
      have s9 : Sta K H0 (upd H8 q (.lst [])) p := s8.go e9
      have nD2p : D2 ≠ p := (s7.new hD2).2
      have c9 := c08.trans e9.toCh
      have l9 := l8.go e9
      have hD9 := e9 _ _ hD8
      have hD29 := e9 _ _ hD28
      have hy9 := hy8.go e9.tx
      have hz9 := hz8.go e9.tx
      clear hl8 hx8
      generalize upd H8 q (.lst []) = H9 at e9 s9 c9 l9 hD9 hD29 hy9 hz9
      rw [filt_isEmpty]
      cases hns0 : ns.isEmpty with
      | true =>
        refine iteF ?_
        obtain ⟨nxs, hnx, hnd⟩ := l9.ex
        refine ⟨_, rfl, l, rfl, ⟨nxs, SqL.of hnx⟩, fun D3 hD3 => ?_⟩
        have lnx : nxs.length = ns.length := by rw [hnd.len, List.length_map]
        have nD3 := (s9.new hD3).2
        refine lc_draw (as := ns) (H0 := H0) (H1 := H9) (p := p) (lnx ▸ walk_list (K := K) (a := l) (xs := nxs)) (fun n x H => Dt H x (dN n)) (fun n => decide (n.1 = (i : Int))) dThing (fun n t => ThOk ns n t) (by omega) hD3 s9 ?_ (fun H' c => SqL.of (c _ _ (ne_sta s9 hnx hnd) hnx)) ?_ ?_ ?_ ?_
        · exact fun _ => rfl
        · rintro j n x H9 H10 hj c ⟨rfl, hx⟩
          obtain ⟨y, hy, dy⟩ := hnd.get (i := j) (d := dN n) (by rw [List.getElem?_map, hj]; rfl)
          rw [hx] at hy
          cases hy
          exact ⟨rfl, dy.go (s9.tx c)⟩
        · intro n x H9 _ _ _ im R r
          obtain ⟨b, rfl, hb⟩ := im.nm
          refine ⟨_, rfl, b, _, 0, .int n.1, rfl, rfl, SqT.of hb, rfl, _, rfl, eqInt ⟨_, rfl, ?_⟩⟩
          have : (0 : Int) + ((i : Nat) : Int) = (i : Int) := by omega
          rw [this]
          exact r
        · intro n x H91 _ _ c91 s91 im R r
          exact ⟨_, rfl, _, rfl, _, rfl, H0, p, x, l, n, ns, rfl, s91, im, l9.ch s9 c91, lns, fun y H10 t c10 s10 d10 ht => r y H10 t c10 s10 d10 ht⟩
        intro tys H90 ths c90 s90 hD90 hz90 pr
        have c09 := c9.trans c90
        have hDx := c90 _ _ hDn.2 hD9
        have hyx := hy9.go (s9.tx c90)
        have hD2x := c90 _ _ nD2p hD29
        have hzx := hz9.go (s9.tx c90)
        have ly := hyx.len
        rw [List.length_map] at ly
        refine ⟨_, rfl, .inl ⟨rfl, _, SqL.of hDx⟩, _, rfl, D2, zs, rfl, .inl ⟨SqL.of hD2x, fun q3 hq3 => ?_⟩⟩
        have e10 : Ex H90 (upd H90 q3 (.tup zs)) := Ex.new hq3
        refine ⟨_, rfl, D3, tys, rfl, .inl ⟨SqL.of (e10 _ _ hD90), fun q4 hq4 => ⟨le16 (by show 2 ≤ 100000; decide), fun q5 hq5 => ?_⟩⟩⟩
        have e11 : Ex H90 (upd (upd (upd H90 q3 (.tup zs)) q4 (.tup tys)) q5 (.tup [.ref q3, .ref q4])) := (e10.trans (Ex.new hq4)).trans (Ex.new hq5)
        have d11 : Dt (upd (upd (upd H90 q3 (.tup zs)) q4 (.tup tys)) q5 (.tup [.ref q3, .ref q4])) (.ref q5) (dHouse ⟨hands, ths⟩) :=
          .tup upd_same (.cons (.tup (Ex.new hq5 _ _ (Ex.new hq4 _ _ upd_same)) (hzx.go e11.tx)) (.cons (.tup (Ex.new hq5 _ _ upd_same) (hz90.go e11.tx)) .nil))
        have s11 : Sta K H0 (upd (upd (upd H90 q3 (.tup zs)) q4 (.tup tys)) q5 (.tup [.ref q3, .ref q4])) p := s90.go e11
        refine ⟨D, ys, _, rfl, rfl, e11 _ _ hDx, lt16 (by omega), ?_⟩
        have t12 : TX _ (upd (upd (upd (upd H90 q3 (.tup zs)) q4 (.tup tys)) q5 (.tup [.ref q3, .ref q4])) D (.lst (ys ++ [.ref q5]))) := TX.updL (e11 _ _ hDx)
        have l11 := (l9.ch s9 c90).go e11
        refine ⟨_, hs ++ [⟨hands, ths⟩], _, _, _, rfl, (c09.trans e11.toCh).mut hDH, s11.upd hDn, ?_, upd_same, ?_, by rw [List.length_append, List.length_singleton, hlen], fun j h hj => ?_⟩
        · obtain ⟨ws, z1, z2⟩ := l11.ex
          exact ⟨ws, by rw [upd_ne nDl.symm]; exact z1, z2.go t12⟩
        · rw [List.map_append]
          exact ((hyx.go e11.tx).snoc d11).go t12
        · by_cases hji : j < hs.length
          · rw [List.getElem?_append_left hji] at hj
            exact hok j h hj
          · rw [List.getElem?_append_right (by omega)] at hj
            have e0 : j - hs.length = 0 := by
              cases z : j - hs.length with
              | zero => rfl
              | succ n => rw [z] at hj; simp at hj
            rw [e0] at hj
            cases hj
            have : j = i := by omega
            subst this
            exact ⟨(show hands.length ≤ 5 by omega), hsub, pr⟩

      | false =>
        have hnl : 0 < ns.length := by
          cases ns with
          | nil => cases hns0
          | cons a r => simp
        refine iteT ⟨_, rfl, H0, p, 8, rfl, s9, by decide, by decide, fun r8 H10 r0 rb c10 s10 => eqInt ⟨_, rfl, ?_⟩⟩
        have c010 := c9.trans c10
        have l10 := l9.ch s9 c10
        have hD10 := c10 _ _ hDn.2 hD9
        have hD210 := c10 _ _ nD2p hD29
        have hy10 := hy9.go (s9.tx c10)
        have hz10 := hz9.go (s9.tx c10)
        by_cases h7 : r8 = 7
        · rw [decide_eq_true h7]
          obtain ⟨nx1, hl10, hx10⟩ := l10.ex
          have lx10 := hx10.len
          rw [List.length_map] at lx10
          refine iteT ⟨_, rfl, _, rfl, _, rfl, _, rfl, l, nx1, rfl, .inl (SqL.of hl10), H0, p, (nx1.length : Nat), rfl, s10, by omega, by omega, fun ix H11 ix0 ixb c11 s11 => ?_⟩
          have l11 := l10.ch s10 c11
          have c011 := c010.trans c11
          have hD11 := c11 _ _ hDn.2 hD10
          have hD211 := c11 _ _ nD2p hD210
          have hy11 := hy10.go (s10.tx c11)
          have hz11 := hz10.go (s10.tx c11)
          clear hl10 hx10
          obtain ⟨nx2, hl11, hx11⟩ := l11.ex
          have lx11 := hx11.len
          rw [List.length_map] at lx11
          obtain ⟨v, hv, hat⟩ := atI_in (xs := nx2) ix0 (by omega)
          obtain ⟨d, hd, dv⟩ := hx11.mem hv
          obtain ⟨n, hn, rfl⟩ := List.mem_map.mp hd
          refine ⟨l, nx2, ix, v, rfl, rfl, SqL.of hl11, hat, le16 (by show 1 ≤ 100000; decide), fun q2 hq2 => ?_⟩
          have lz11 := hz11.len
          rw [List.length_map] at lz11
          refine ⟨D2, q2, zs, [v], rfl, rfl, Ex.new hq2 _ _ hD211, upd_same, le16 (by show zs.length + 1 ≤ 100000; omega), fun q3 hq3 => ?_⟩
          have e12 : Ex H11 (upd (upd H11 q2 (.lst [v])) q3 (.lst (zs ++ [v]))) := (Ex.new hq2).trans (Ex.new hq3)
          have s12 : Sta K H0 (upd (upd H11 q2 (.lst [v])) q3 (.lst (zs ++ [v]))) p := s11.go e12
          have n3p := ((s11.go (Ex.new hq2 (o := .lst [v]))).new hq3).2
          have h312 : (upd (upd H11 q2 (.lst [v])) q3 (.lst (zs ++ [v]))) q3 = some (.lst (zs ++ [v])) := upd_same
          have c12 := c011.trans e12.toCh
          have l12 := l11.go e12
          have hD12 := e12 _ _ hD11
          have hy12 := hy11.go e12.tx
          have dv12 : Dt (upd (upd H11 q2 (.lst [v])) q3 (.lst (zs ++ [v]))) v (dO (some n)) := dv.go e12.tx
          have hz12 : DtAll (upd (upd H11 q2 (.lst [v])) q3 (.lst (zs ++ [v]))) (zs ++ [v]) ((hands ++ [some n]).map dO) := by
            rw [List.map_append]
            exact (hz11.go e12.tx).snoc dv12
          clear hl11 hx11 dv dv12
          generalize upd (upd H11 q2 (.lst [v])) q3 (.lst (zs ++ [v])) = H12 at e12 s12 h312 c12 l12 hD12 hy12 hz12
          have sub2 : ∀ m, some m ∈ hands ++ [some n] → m ∈ ns := fun m hm => by
            rcases List.mem_append.mp hm with hm | hm
            · exact hsub m hm
            · have := List.mem_singleton.mp hm
              cases this
              exact hn
          obtain ⟨nxs, hnx, hnd⟩ := l12.ex
          refine ⟨_, rfl, l, rfl, ⟨nxs, SqL.of hnx⟩, fun D3 hD3 => ?_⟩
          have lnx : nxs.length = ns.length := by rw [hnd.len, List.length_map]
          have nD3 := (s12.new hD3).2
          refine lc_draw (as := ns) (H0 := H0) (H1 := H12) (p := p) (lnx ▸ walk_list (K := K) (a := l) (xs := nxs)) (fun n x H => Dt H x (dN n)) (fun n => decide (n.1 = (i : Int))) dThing (fun n t => ThOk ns n t) (by omega) hD3 s12 ?_ (fun H' c => SqL.of (c _ _ (ne_sta s12 hnx hnd) hnx)) ?_ ?_ ?_ ?_
          · exact fun _ => rfl
          · rintro j n x H9 H10 hj c ⟨rfl, hx⟩
            obtain ⟨y, hy, dy⟩ := hnd.get (i := j) (d := dN n) (by rw [List.getElem?_map, hj]; rfl)
            rw [hx] at hy
            cases hy
            exact ⟨rfl, dy.go (s12.tx c)⟩
          · intro n x H9 _ _ _ im R r
            obtain ⟨b, rfl, hb⟩ := im.nm
            refine ⟨_, rfl, b, _, 0, .int n.1, rfl, rfl, SqT.of hb, rfl, _, rfl, eqInt ⟨_, rfl, ?_⟩⟩
            have : (0 : Int) + ((i : Nat) : Int) = (i : Int) := by omega
            rw [this]
            exact r
          · intro n x H9 _ _ c9 s9 im R r
            exact ⟨_, rfl, _, rfl, _, rfl, H0, p, x, l, n, ns, rfl, s9, im, l12.ch s12 c9, lns, fun y H10 t c10 s10 d10 ht => r y H10 t c10 s10 d10 ht⟩
          intro tys H9 ths c9 s9 hD9 hz9 pr
          have c09 := c12.trans c9
          have hDx := c9 _ _ hDn.2 hD12
          have hyx := hy12.go (s12.tx c9)
          have hq3x := c9 _ _ n3p h312
          have hzx := hz12.go (s12.tx c9)
          have ly := hyx.len
          rw [List.length_map] at ly
          refine ⟨_, rfl, .inl ⟨rfl, _, SqL.of hDx⟩, _, rfl, q3, (zs ++ [v]), rfl, .inl ⟨SqL.of hq3x, fun q3 hq3 => ?_⟩⟩
          have e10 : Ex H9 (upd H9 q3 (.tup (zs ++ [v]))) := Ex.new hq3
          refine ⟨_, rfl, D3, tys, rfl, .inl ⟨SqL.of (e10 _ _ hD9), fun q4 hq4 => ⟨le16 (by show 2 ≤ 100000; decide), fun q5 hq5 => ?_⟩⟩⟩
          have e11 : Ex H9 (upd (upd (upd H9 q3 (.tup (zs ++ [v]))) q4 (.tup tys)) q5 (.tup [.ref q3, .ref q4])) := (e10.trans (Ex.new hq4)).trans (Ex.new hq5)
          have d11 : Dt (upd (upd (upd H9 q3 (.tup (zs ++ [v]))) q4 (.tup tys)) q5 (.tup [.ref q3, .ref q4])) (.ref q5) (dHouse ⟨(hands ++ [some n]), ths⟩) :=
            .tup upd_same (.cons (.tup (Ex.new hq5 _ _ (Ex.new hq4 _ _ upd_same)) (hzx.go e11.tx)) (.cons (.tup (Ex.new hq5 _ _ upd_same) (hz9.go e11.tx)) .nil))
          have s11 : Sta K H0 (upd (upd (upd H9 q3 (.tup (zs ++ [v]))) q4 (.tup tys)) q5 (.tup [.ref q3, .ref q4])) p := s9.go e11
          refine ⟨D, ys, _, rfl, rfl, e11 _ _ hDx, lt16 (by omega), ?_⟩
          have t12 : TX _ (upd (upd (upd (upd H9 q3 (.tup (zs ++ [v]))) q4 (.tup tys)) q5 (.tup [.ref q3, .ref q4])) D (.lst (ys ++ [.ref q5]))) := TX.updL (e11 _ _ hDx)
          have l11 := (l12.ch s12 c9).go e11
          refine ⟨_, hs ++ [⟨(hands ++ [some n]), ths⟩], _, _, _, rfl, (c09.trans e11.toCh).mut hDH, s11.upd hDn, ?_, upd_same, ?_, by rw [List.length_append, List.length_singleton, hlen], fun j h hj => ?_⟩
          · obtain ⟨ws, z1, z2⟩ := l11.ex
            exact ⟨ws, by rw [upd_ne nDl.symm]; exact z1, z2.go t12⟩
          · rw [List.map_append]
            exact ((hyx.go e11.tx).snoc d11).go t12
          · by_cases hji : j < hs.length
            · rw [List.getElem?_append_left hji] at hj
              exact hok j h hj
            · rw [List.getElem?_append_right (by omega)] at hj
              have e0 : j - hs.length = 0 := by
                cases z : j - hs.length with
                | zero => rfl
                | succ n => rw [z] at hj; simp at hj
              rw [e0] at hj
              cases hj
              have : j = i := by omega
              subst this
              exact ⟨(show (hands ++ [some n]).length ≤ 5 by rw [List.length_append, lz4]; exact Nat.le_refl 5), sub2, pr⟩

        · rw [decide_eq_false h7]
          refine iteF ?_
          obtain ⟨nxs, hnx, hnd⟩ := l10.ex
          refine ⟨_, rfl, l, rfl, ⟨nxs, SqL.of hnx⟩, fun D3 hD3 => ?_⟩
          have lnx : nxs.length = ns.length := by rw [hnd.len, List.length_map]
          have nD3 := (s10.new hD3).2
          refine lc_draw (as := ns) (H0 := H0) (H1 := H10) (p := p) (lnx ▸ walk_list (K := K) (a := l) (xs := nxs)) (fun n x H => Dt H x (dN n)) (fun n => decide (n.1 = (i : Int))) dThing (fun n t => ThOk ns n t) (by omega) hD3 s10 ?_ (fun H' c => SqL.of (c _ _ (ne_sta s10 hnx hnd) hnx)) ?_ ?_ ?_ ?_
          · exact fun _ => rfl
          · rintro j n x H9 H10 hj c ⟨rfl, hx⟩
            obtain ⟨y, hy, dy⟩ := hnd.get (i := j) (d := dN n) (by rw [List.getElem?_map, hj]; rfl)
            rw [hx] at hy
            cases hy
            exact ⟨rfl, dy.go (s10.tx c)⟩
          · intro n x H9 _ _ _ im R r
            obtain ⟨b, rfl, hb⟩ := im.nm
            refine ⟨_, rfl, b, _, 0, .int n.1, rfl, rfl, SqT.of hb, rfl, _, rfl, eqInt ⟨_, rfl, ?_⟩⟩
            have : (0 : Int) + ((i : Nat) : Int) = (i : Int) := by omega
            rw [this]
            exact r
          · intro n x H9 _ _ c9 s9 im R r
            exact ⟨_, rfl, _, rfl, _, rfl, H0, p, x, l, n, ns, rfl, s9, im, l10.ch s10 c9, lns, fun y H10 t c10 s10 d10 ht => r y H10 t c10 s10 d10 ht⟩
          intro tys H9 ths c9 s9 hD9 hz9 pr
          have c09 := c010.trans c9
          have hDx := c9 _ _ hDn.2 hD10
          have hyx := hy10.go (s10.tx c9)
          have hD2x := c9 _ _ nD2p hD210
          have hzx := hz10.go (s10.tx c9)
          have ly := hyx.len
          rw [List.length_map] at ly
          refine ⟨_, rfl, .inl ⟨rfl, _, SqL.of hDx⟩, _, rfl, D2, zs, rfl, .inl ⟨SqL.of hD2x, fun q3 hq3 => ?_⟩⟩
          have e10 : Ex H9 (upd H9 q3 (.tup zs)) := Ex.new hq3
          refine ⟨_, rfl, D3, tys, rfl, .inl ⟨SqL.of (e10 _ _ hD9), fun q4 hq4 => ⟨le16 (by show 2 ≤ 100000; decide), fun q5 hq5 => ?_⟩⟩⟩
          have e11 : Ex H9 (upd (upd (upd H9 q3 (.tup zs)) q4 (.tup tys)) q5 (.tup [.ref q3, .ref q4])) := (e10.trans (Ex.new hq4)).trans (Ex.new hq5)
          have d11 : Dt (upd (upd (upd H9 q3 (.tup zs)) q4 (.tup tys)) q5 (.tup [.ref q3, .ref q4])) (.ref q5) (dHouse ⟨hands, ths⟩) :=
            .tup upd_same (.cons (.tup (Ex.new hq5 _ _ (Ex.new hq4 _ _ upd_same)) (hzx.go e11.tx)) (.cons (.tup (Ex.new hq5 _ _ upd_same) (hz9.go e11.tx)) .nil))
          have s11 : Sta K H0 (upd (upd (upd H9 q3 (.tup zs)) q4 (.tup tys)) q5 (.tup [.ref q3, .ref q4])) p := s9.go e11
          refine ⟨D, ys, _, rfl, rfl, e11 _ _ hDx, lt16 (by omega), ?_⟩
          have t12 : TX _ (upd (upd (upd (upd H9 q3 (.tup zs)) q4 (.tup tys)) q5 (.tup [.ref q3, .ref q4])) D (.lst (ys ++ [.ref q5]))) := TX.updL (e11 _ _ hDx)
          have l11 := (l10.ch s10 c9).go e11
          refine ⟨_, hs ++ [⟨hands, ths⟩], _, _, _, rfl, (c09.trans e11.toCh).mut hDH, s11.upd hDn, ?_, upd_same, ?_, by rw [List.length_append, List.length_singleton, hlen], fun j h hj => ?_⟩
          · obtain ⟨ws, z1, z2⟩ := l11.ex
            exact ⟨ws, by rw [upd_ne nDl.symm]; exact z1, z2.go t12⟩
          · rw [List.map_append]
            exact ((hyx.go e11.tx).snoc d11).go t12
          · by_cases hji : j < hs.length
            · rw [List.getElem?_append_left hji] at hj
              exact hok j h hj
            · rw [List.getElem?_append_right (by omega)] at hj
              have e0 : j - hs.length = 0 := by
                cases z : j - hs.length with
                | zero => rfl
                | succ n => rw [z] at hj; simp at hj
              rw [e0] at hj
              cases hj
              have : j = i := by omega
              subst this
              exact ⟨(show hands.length ≤ 5 by omega), hsub, pr⟩
    · rintro σ H7 ⟨ys, hs, v5, v6, v7, rfl, c7, s7, l7, hD7, hy7, hlen, hok⟩
      refine ⟨_, rfl, D, ys, rfl, .inl ⟨SqL.of hD7, fun q hq => ?_⟩⟩
      have e8 : Ex H7 (upd H7 q (.tup ys)) := Ex.new hq
      have hq8 : (upd H7 q (.tup ys)) q = some (.tup ys) := upd_same
      have s8 : Sta K H0 (upd H7 q (.tup ys)) p := s7.go e8
      generalize upd H7 q (.tup ys) = H8 at e8 hq8 s8
      refine ⟨_, rfl, _, rfl, _, rfl, H0, p, many, l, ns, rfl, s8, m1, m8, l7.go e8, lns, fun r H9 ls c9 s9 d9 hl2 hls => ?_⟩
      refine ⟨le16 (by show 2 ≤ 100000; decide), fun q2 hq2 => ?_⟩
      have e10 : Ex H9 (upd H9 q2 (.tup [.ref q, r])) := Ex.new hq2
      have t9 := s8.tx c9
      refine k _ _ ⟨hs, ls⟩ (((c7.trans e8.toCh).trans c9).trans e10.toCh) ?_ (PicGot.ok' (many := many) (ns := ns) ⟨m1, m8, hlen, hok, hl2, hls, hns⟩)
      exact .tup upd_same (.cons (.tup (e10 _ _ (t9 _ _ hq8)) ((hy7.go (e8.tx.trans t9)).go e10.tx)) (.cons (d9.go e10.tx) .nil))
end
end HF
set_option Elab.async false
set_option linter.all false
set_option maxRecDepth 100000
set_option maxHeartbeats 4000000
namespace HF
open PySem PySem.Spec PyProof.Rows L2
/-! ### dicts by names of whatever -/
def PVs {β : Type} (R : V → β → Prop) (kvs : List (List Key × V)) (al : List (Nm × β)) : Prop := Paired (fun kv nb => kv.1 = nkey nb.1 ∧ R kv.2 nb.2) kvs al
section
variable {β : Type} {R R' : V → β → Prop} {kvs : List (List Key × V)} {al : List (Nm × β)}
theorem PVs.mono (h : PVs R kvs al) (m : ∀ v b, R v b → R' v b) : PVs R' kvs al := Paired.mapP h fun _ _ z => ⟨z.1, m _ _ z.2⟩
theorem PVs.len (h : PVs R kvs al) : kvs.length = al.length := Paired.length h
theorem PVs.ks (h : PVs R kvs al) : KNs kvs (keys al) := by
  unfold PVs at h
  induction h with
  | nil => rfl
  | @cons p q ps qs h1 t ih =>
    show p.1 :: ps.map (·.1) = nkey q.1 :: (keys qs).map nkey
    rw [h1.1, show ps.map (·.1) = (keys qs).map nkey from ih]
theorem PVs.getS (h : PVs R kvs al) {n : Nm} {b : β} (e : aget al n = some b) : ∃ v, valV kvs (nkey n) = some v ∧ R v b := by
  unfold PVs at h
  induction h with
  | nil => cases e
  | @cons p q ps qs h1 t ih =>
    rw [aget_cons] at e
    by_cases z : q.1 = n
    · rw [if_pos z] at e
      cases e
      exact ⟨p.2, valV_pos (by rw [h1.1, z]), h1.2⟩
    · rw [if_neg z] at e
      rw [valV_neg fun y => z (nkey_inj (h1.1.symm.trans y))]
      exact ih e
theorem PVs.put (h : PVs R kvs al) (n : Nm) {v : V} {b : β} (d : R v b) : PVs R (putK kvs (nkey n) v) (aput al n b) := by
  have e : (kvs.any fun kv => decide (kv.1 = nkey n)) = (al.any fun p => decide (p.1 = n)) := by
    have hk := h
    unfold PVs at hk
    induction hk with
    | nil => rfl
    | @cons p q ps qs h1 t ih =>
      rw [List.any_cons, List.any_cons, ih t]
      congr 1
      by_cases z : q.1 = n
      · rw [decide_eq_true z, decide_eq_true (by rw [h1.1, z])]
      · rw [decide_eq_false z, decide_eq_false fun y => z (nkey_inj (h1.1.symm.trans y))]
  unfold putK aput
  rw [e]
  split
  · refine Paired.mapBoth _ _ h fun p q hpq => ?_
    by_cases z : q.1 = n
    · rw [if_pos z, if_pos (by rw [hpq.1, z])]
      exact ⟨hpq.1, d⟩
    · rw [if_neg z, if_neg fun y => z (nkey_inj (hpq.1.symm.trans y))]
      exact hpq
  · exact Paired.snoc h ⟨rfl, d⟩
end
/-- a list of the names that fields have -/
def cR (H : Hp) (v : V) (fs : Flds) : Prop := ∃ l xs, v = .ref l ∧ H l = some (.lst xs) ∧ DtAll H xs ((fs.filterMap id).map dN)
theorem cR.go {H H' : Hp} {v : V} {fs : Flds} (h : cR H v fs) (e : Ex H H') : cR H' v fs := by
  obtain ⟨l, xs, h1, h2, h3⟩ := h
  exact ⟨l, xs, h1, e _ _ h2, h3.go e.tx⟩
/-- the law's fields in the dict at d -/
structure LF (H : Hp) (d : Addr) (F : List (Nm × Flds)) : Prop where
  ex : ∃ kvs, Rd H d (.dT kvs) ∧ PVs (cR H) kvs F
theorem LF.has {H : Hp} {d a : Addr} {F : List (Nm × Flds)} {n : Nm} (h : LF H d F) (hn : H a = some (.tup ((nkey n).map kV))) : ∃ o, DGet H d (.ref a) o ∧ o.isSome = decide (n ∈ keys F) := by
  obtain ⟨kvs, h1, h2⟩ := h.ex
  exact ⟨_, dget_of h1 hn, h2.ks.isS n⟩
theorem LF.get {H : Hp} {d a : Addr} {F : List (Nm × Flds)} {n : Nm} (h : LF H d F) (hn : H a = some (.tup ((nkey n).map kV))) (hk : n ∈ keys F) : ∃ l xs, DGet H d (.ref a) (some (.ref l)) ∧ H l = some (.lst xs) ∧ DtAll H xs ((chl F n).map dN) := by
  obtain ⟨kvs, h1, h2⟩ := h.ex
  obtain ⟨fs, hfs⟩ := aget_some hk
  obtain ⟨v, h3, l, xs, rfl, h4, h5⟩ := h2.getS hfs
  have q := dget_of h1 hn
  rw [h3] at q
  refine ⟨l, xs, q, h4, ?_⟩
  unfold chl
  rw [hfs]
  exact h5
/-- what a paper says is so -/
def PapOk (p : Pic) : Paper → Prop
  | .wanted n st ss => ∃ m, startName p st = some m ∧ PathF (fieldsF p) m ss n
  | .cut ns ls => ls = lettersL p ∧ CutOk p ns
  | .pointed n ns st ss => ∃ m, PtdOk p n ns st ss m
def word : Paper → Str
  | .wanted _ _ _ => "wanted"
  | .cut _ _ => "cut"
  | .pointed _ _ _ _ => "pointed"
section
variable {P : Program} {w : World} {K : PySem.W.Frag} {mg : Str → Option Value} {base : Heap} {f : Addr} {fd : FuncData}
def spLFields : Sp := fun vs H Q _ => ∃ v pic, vs = [v] ∧ Dt H v (dPic pic) ∧ PicB pic ∧ ∀ d H' kvs, H d = none → Ex H H' → H' d = some (.dT kvs) → PVs (cR H') kvs (fieldsF pic) → Q (.ref d) H'
theorem sc_sL_fields : FnScope ["_law_picture_here", "_law_found", "_law_hands", "_law_things", "_law_name", "_law_sort", "_law_fields_here", "_law_one"] ["_law_picture_here"] (defScope sL_fields) := ⟨rfl, rfl, rfl, by decide +kernel, rfl, by decide +kernel, by decide +kernel⟩
theorem ok_lfields (F : FnP K "_law_fields" "_law_fields" sL_fields f fd) : FnOk P w K mg base CX0 1 f fd ["_law_picture_here"] spLFields := by
  refine F.ok sc_sL_fields (fun vs H Q E h => ?_) (fun cdv A outer s H vs Q E hr h => ?_)
  · obtain ⟨v, pic, rfl, _⟩ := h
    rfl
  · obtain ⟨v, pic, rfl, hv, hb, k⟩ := h
    have hu := hu_of hr
    refine ⟨_, PSs.nox (pss_cons (ps_set (i := 1) sc_sL_fields.nd rfl (Or.inl rfl) pe_dnewT)
          (pss_cons (ps_for PassesOwn.never rfl (pi_tup (pe_ix ix_tup (pv 0) pe_int (fun _ _ => rfl))) (pg_tup rfl (pgs_cons (pg_name (i := 2) sc_sL_fields.nd rfl (Or.inl rfl)) (pgs_cons (pg_name (i := 3) sc_sL_fields.nd rfl (Or.inl rfl)) pgs_nil)))
          (pss_one (ps_for PassesOwn.never rfl (pi_tup (pv 3)) (pg_tup rfl (pgs_cons (pg_name (i := 4) sc_sL_fields.nd rfl (Or.inl rfl)) (pgs_cons (pg_name (i := 5) sc_sL_fields.nd rfl (Or.inl rfl)) (pgs_cons (pg_name (i := 6) sc_sL_fields.nd rfl (Or.inl rfl)) pgs_nil))))
          (pss_one (ps_dput hu (pv 1) (pv 4) (pe_lc (own := [("_law_one", 7)]) (g := gName 7) rfl sc_sL_fields.nd (pi_tup (pv 6)) (blkOk_by (N := ["_law_picture_here", "_law_found", "_law_hands", "_law_things", "_law_name", "_law_sort", "_law_fields_here", "_law_one"]) (sc := defScope sL_fields) (by decide +kernel)) (fun _ _ _ _ _ => (pg_name (i := 7) sc_sL_fields.nd rfl (Or.inl rfl))) (fun _ _ _ _ _ => (pts_one (pt_cmpR op_notN (pv 7) pe_non (nomark _)))) (fun _ _ _ _ _ => (pv 7))) rfl)))))
          (pss_one (ps_ret (pv 1))))), ?_⟩
    intro d hd
    obtain ⟨a, v1, v2, rfl, ha, h1, h2⟩ := Dt.t2 hv
    obtain ⟨b, xs, rfl, hbx, hx⟩ := h1.tupE
    have e0 : Ex H (upd H d (.dT [])) := Ex.new hd
    have lx : xs.length = pic.houses.length := by rw [hx.len, List.length_map]
    refine ⟨_, rfl, a, _, 0, .ref b, rfl, rfl, SqT.of (e0 _ _ ha), rfl, b, rfl, ⟨xs, SqT.of (e0 _ _ hbx)⟩, ?_⟩
    refine for_fold (as := pic.houses) (lx ▸ walk_tup (K := K) (a := b) (xs := xs)) (fun a h => addThings a h.things) [] (fun acc σ H' => ∃ v2 v3 v4 v5 v6 kvs, σ = [some (.ref a), some (.ref d), v2, v3, v4, v5, v6, none] ∧ Ex H H' ∧ H' d = some (.dT kvs) ∧ PVs (cR H') kvs acc)
      ⟨none, none, none, none, none, [], rfl, e0, upd_same, .nil⟩ (fun _ σ H' ⟨_, _, _, _, _, _, _, e, _⟩ => SqT.of (e _ _ hbx)) ?_ ?_
    · rintro i hs x acc σ _ H1 hi hacc ⟨v2, v3, v4, v5, v6, kvs, rfl, e1, hd1, hk1⟩ ⟨rfl, hx1⟩
      obtain ⟨y, hy, dy⟩ := hx.get (i := i) (d := dHouse hs) (by rw [List.getElem?_map, hi]; rfl)
      rw [hx1] at hy
      cases hy
      obtain ⟨c, u1, u2, rfl, hc, g1, g2⟩ := Dt.t2 (dy.go e1.tx)
      obtain ⟨c2, ts, rfl, hc2, hts⟩ := g2.tupE
      have hm : hs ∈ pic.houses := List.mem_of_getElem? hi
      refine ⟨c, _, rfl, SqT.of hc, rfl, u1, _, rfl, .ref c2, _, rfl, rfl, ?_⟩
      refine ⟨_, rfl, c2, rfl, ⟨ts, SqT.of hc2⟩, ?_⟩
      have hl2 : ts.length = hs.things.length := by rw [hts.len, List.length_map]
      have bnd : acc.length ≤ 320 := by
        have q := fieldsF_len (pic.houses.take i) [] fun x hx => hb.ths x (List.mem_of_mem_take hx)
        rw [← hacc, List.length_nil, List.length_take] at q
        have := hb.hs
        omega
      refine for_fold (as := hs.things) (hl2 ▸ walk_tup (K := K) (a := c2) (xs := ts)) (fun a t => aput a t.name t.flds) acc (fun acc' σ H' => ∃ v4 v5 v6 kvs, σ = [some (.ref a), some (.ref d), some u1, some (.ref c2), v4, v5, v6, none] ∧ Ex H H' ∧ TX H1 H' ∧ H' d = some (.dT kvs) ∧ PVs (cR H') kvs acc')
        ⟨_, _, _, kvs, rfl, e1, TX.refl _, hd1, hk1⟩ (fun _ σ H' ⟨_, _, _, _, _, _, t, _⟩ => SqT.of (t _ _ hc2)) ?_ ?_
      · rintro j th x acc' σ _ H2 hj hacc' ⟨v4, v5, v6, kvs', rfl, e2, t2, hd2, hk2⟩ ⟨rfl, hx2⟩
        obtain ⟨y, hy, dy⟩ := hts.get (i := j) (d := dThing th) (by rw [List.getElem?_map, hj]; rfl)
        rw [hx2] at hy
        cases hy
        obtain ⟨q, w1, w2, w3, rfl, hq, k1, k2, k3⟩ := Dt.t3 (dy.go t2)
        obtain ⟨n, rfl, hn⟩ := k1.nm
        obtain ⟨fa, zs, rfl, hfa, hzs⟩ := Dt.tupE k3
        have lz : zs.length = th.flds.length := by rw [hzs.len, List.length_map]
        have lf := hb.fls hs hm th (List.mem_of_getElem? hj)
        refine ⟨q, _, rfl, SqT.of hq, rfl, .ref n, _, rfl, w2, _, rfl, .ref fa, _, rfl, rfl, ?_⟩
        have bnd2 : acc'.length ≤ 360 := by
          have q := addThings_len (hs.things.take j) acc
          rw [show addThings acc (hs.things.take j) = acc' from hacc'.symm, List.length_take] at q
          have := hb.ths hs hm
          omega
        have lk : kvs'.length ≤ 100000 := by rw [hk2.len]; omega
        refine ⟨_, rfl, fa, rfl, ⟨zs, SqT.of hfa⟩, fun D hD => ?_⟩
        refine lc_data (as := th.flds) (H1 := H2) (lz ▸ walk_tup (K := K) (a := fa) (xs := zs)) (fun o x H => Dt H x (dO o)) (·.isSome) dO (by omega) hD ?_ (fun H' e => SqT.of (e _ _ hfa)) ?_ ?_ ?_ ?_
        · exact fun _ => rfl
        · rintro j o x H2 H3 hj e ⟨rfl, hx3⟩
          obtain ⟨y, hy, dy⟩ := hzs.get (i := j) (d := dO o) (by rw [List.getElem?_map, hj]; rfl)
          rw [hx3] at hy
          cases hy
          exact ⟨rfl, dy.go e.tx⟩
        · intro o x H2 _ _ im R r
          exact ⟨_, rfl, rfl, _, rfl, by rw [isnt_none im]; exact r⟩
        · intro o x H2 _ _ _ im R r
          exact ⟨_, rfl, r _ _ (Ex.refl _) im⟩
        · intro ws H3 e3 hD3 hw3
          rw [some_dO] at hw3
          have hd3 := e3 _ _ hd2
          refine ⟨_, rfl, _, rfl, d, _, rfl, dput_of hd3 (e3 _ _ hn) _ lk, ?_⟩
          have t4 : TX H3 (upd H3 d (.dT (putK kvs' (nkey th.name) (.ref D)))) := TX.updD hd3
          have cgo : ∀ v fs, cR H3 v fs → cR (upd H3 d (.dT (putK kvs' (nkey th.name) (.ref D)))) v fs := fun v fs ⟨l, xs, z1, z2, z3⟩ => ⟨l, xs, z1, by rw [upd_ne fun z => by rw [z, hd3] at z2; cases z2]; exact z2, z3.go t4⟩
          exact ⟨_, _, _, _, rfl, (e2.trans e3).mut hd, t2.trans (e3.tx.trans t4), upd_same, ((hk2.mono fun v fs h => cR.go h e3).put th.name (b := th.flds) ⟨D, ws, rfl, hD3, hw3⟩).mono cgo⟩
      · rintro σ H2 ⟨v4, v5, v6, kvs', rfl, e2, t2, hd2, hk2⟩
        exact ⟨_, _, _, _, _, kvs', rfl, e2, hd2, hk2⟩
    · rintro σ H' ⟨v2, v3, v4, v5, v6, kvs, rfl, e1, hd1, hk1⟩
      exact ⟨_, rfl, k d H' kvs hd e1 hd1 hk1⟩
end
end HF
set_option Elab.async false
set_option linter.all false
set_option maxRecDepth 100000
set_option maxHeartbeats 4000000
namespace HF
open PySem PySem.Spec PyProof.Rows L2
section
variable {P : Program} {w : World} {K : PySem.W.Frag} {mg : Str → Option Value} {base : Heap} {f : Addr} {fd : FuncData}
def spRoots : Sp := fun vs H Q _ => ∃ v pic, vs = [v] ∧ Dt H v (dPic pic) ∧ PicB pic ∧ ∀ l H' xs, H l = none → Ex H H' → H' l = some (.lst xs) → DtAll H' xs ((heldF pic).map dN) → Q (.ref l) H'
theorem sc_sL_roots : FnScope ["_law_picture_here", "_law_found", "_law_hands", "_law_things", "_law_letter", "_law_name"] ["_law_picture_here"] (defScope sL_roots) := ⟨rfl, rfl, rfl, by decide +kernel, rfl, by decide +kernel, by decide +kernel⟩
theorem ok_roots (F : FnP K "_law_roots" "_law_roots" sL_roots f fd) (B : Bl mg) : FnOk P w K mg base CX0 1 f fd ["_law_picture_here"] spRoots := by
  refine F.ok sc_sL_roots (fun vs H Q E h => ?_) (fun cdv A outer s H vs Q E hr h => ?_)
  · obtain ⟨v, pic, rfl, _⟩ := h
    rfl
  · obtain ⟨v, pic, rfl, hv, hb, k⟩ := h
    have hu := hu_of hr
    refine ⟨_, PSs.nox (pss_cons (ps_set (i := 1) sc_sL_roots.nd rfl (Or.inl rfl) (pe_lst pa_nil))
          (pss_cons (ps_for PassesOwn.never rfl (pi_tup (pe_ix ix_tup (pv 0) pe_int (fun _ _ => rfl))) (pg_tup rfl (pgs_cons (pg_name (i := 2) sc_sL_roots.nd rfl (Or.inl rfl)) (pgs_cons (pg_name (i := 3) sc_sL_roots.nd rfl (Or.inl rfl)) pgs_nil)))
          (pss_one (ps_set (i := 1) sc_sL_roots.nd rfl (Or.inl rfl) (pe_op op_cat (pv 1) (pe_lc (own := [("_law_name", 5)]) (g := gName 5) rfl sc_sL_roots.nd (pi_tup (pv 2)) (blkOk_by (N := ["_law_picture_here", "_law_found", "_law_hands", "_law_things", "_law_letter", "_law_name"]) (sc := defScope sL_roots) (by decide +kernel)) (fun _ _ _ _ _ => (pg_name (i := 5) sc_sL_roots.nd rfl (Or.inl rfl))) (fun _ _ _ _ _ => (pts_one (pt_cmpR op_notN (pv 5) pe_non (nomark _)))) (fun _ _ _ _ _ => (pv 5)))))))
          (pss_cons (ps_for PassesOwn.never rfl (pi_tup (pe_ix ix_tup (pv 0) pe_int (fun _ _ => rfl))) (pg_name (i := 4) sc_sL_roots.nd rfl (Or.inl rfl))
          (pss_one (ps_set (i := 1) sc_sL_roots.nd rfl (Or.inl rfl) (pe_op op_cat (pv 1) (pe_callTy call_list_of (by rfl) B.list (by decide +kernel) (pa_cons (pe_ix ix_tup (pv 4) pe_int (fun _ _ => rfl)) pa_nil))))))
          (pss_one (ps_ret (pv 1)))))), ?_⟩
    refine ⟨le16 (by show 0 ≤ 100000; decide), fun l hl => ?_⟩
    obtain ⟨a, v1, v2, rfl, ha, h1, h2⟩ := Dt.t2 hv
    obtain ⟨b, xs, rfl, hbx, hx⟩ := h1.tupE
    obtain ⟨b2, xs2, rfl, hbx2, hx2⟩ := h2.tupE
    have e0 : Ex H (upd H l (.lst [])) := Ex.new hl
    refine ⟨_, rfl, a, _, 0, .ref b, rfl, rfl, SqT.of (e0 _ _ ha), rfl, b, rfl, ⟨xs, SqT.of (e0 _ _ hbx)⟩, ?_⟩
    have lx : xs.length = pic.houses.length := by rw [hx.len, List.length_map]
    refine for_fold (as := pic.houses) (lx ▸ walk_tup (K := K) (a := b) (xs := xs)) (fun a h => a ++ h.hands.filterMap id) [] (fun acc σ H' => ∃ l v2 v3 v4 ys, σ = [some (.ref a), some (.ref l), v2, v3, v4, none] ∧ H l = none ∧ Ex H H' ∧ H' l = some (.lst ys) ∧ DtAll H' ys (acc.map dN))
      ⟨l, none, none, none, [], rfl, hl, e0, upd_same, .nil⟩ (fun _ σ H' ⟨_, _, _, _, _, _, _, e, _⟩ => SqT.of (e _ _ hbx)) ?_ ?_
    · rintro i hs x acc σ _ H1 hi hacc ⟨l, v2, v3, v4, ys, rfl, hl, e1, hl1, hy1⟩ ⟨rfl, hxi⟩
      obtain ⟨y, hy, dy⟩ := hx.get (i := i) (d := dHouse hs) (by rw [List.getElem?_map, hi]; rfl)
      rw [hxi] at hy
      cases hy
      obtain ⟨c, u1, u2, rfl, hc, g1, g2⟩ := Dt.t2 (dy.go e1.tx)
      obtain ⟨c1, zs, rfl, hc1, hzs⟩ := g1.tupE
      have lz : zs.length = hs.hands.length := by rw [hzs.len, List.length_map]
      refine ⟨c, _, rfl, SqT.of hc, rfl, .ref c1, _, rfl, u2, _, rfl, rfl, ?_⟩
      refine ⟨_, rfl, _, rfl, c1, rfl, ⟨zs, SqT.of hc1⟩, fun D hD => ?_⟩
      have hz := hb.hns hs (List.mem_of_getElem? hi)
      refine lc_data (as := hs.hands) (H1 := H1) (lz ▸ walk_tup (K := K) (a := c1) (xs := zs)) (fun o x H => Dt H x (dO o)) (·.isSome) dO (by omega) hD ?_ (fun H' e => SqT.of (e _ _ hc1)) ?_ ?_ ?_ ?_
      · exact fun _ => rfl
      · rintro j o x H2 H3 hj e ⟨rfl, hx3⟩
        obtain ⟨y, hy, dy⟩ := hzs.get (i := j) (d := dO o) (by rw [List.getElem?_map, hj]; rfl)
        rw [hx3] at hy
        cases hy
        exact ⟨rfl, dy.go e.tx⟩
      · intro o x H2 _ _ im R r
        exact ⟨_, rfl, rfl, _, rfl, by rw [isnt_none im]; exact r⟩
      · intro o x H2 _ _ _ im R r
        exact ⟨_, rfl, r _ _ (Ex.refl _) im⟩
      · intro zs2 H2 e2 hD2 hz2
        have hl2 : H2 l = some (.lst ys) := e2 _ _ hl1
        have b1 := hands_len pic hb i
        rw [hacc.symm] at b1
        have l1 := hy1.len
        have l2 := hz2.len
        rw [List.length_map] at l1
        rw [some_dO, List.length_map] at l2
        have l3 := List.length_filterMap_le id hs.hands
        refine ⟨l, D, ys, zs2, rfl, rfl, hl2, hD2, le16 (by omega), fun q hq => ?_⟩
        have e3 : Ex H2 (upd H2 q (.lst (ys ++ zs2))) := Ex.new hq
        refine ⟨q, _, _, _, _, rfl, (e1.trans e2).back hq, (e1.trans e2).trans e3, upd_same, ?_⟩
        rw [List.map_append, ← some_dO]
        exact ((hy1.go e2.tx).append hz2).go e3.tx
    · rintro σ H1 ⟨l, v2, v3, v4, ys, rfl, hl, e1, hl1, hy1⟩
      refine ⟨_, rfl, a, _, 1, .ref b2, rfl, rfl, SqT.of (e1 _ _ ha), rfl, b2, rfl, ⟨xs2, SqT.of (e1 _ _ hbx2)⟩, ?_⟩
      have lx2 : xs2.length = pic.letters.length := by rw [hx2.len, List.length_map]
      refine for_fold (as := pic.letters) (lx2 ▸ walk_tup (K := K) (a := b2) (xs := xs2)) (fun a l => a ++ l.names) _ (fun acc σ H' => ∃ l v2 v3 v4 ys, σ = [some (.ref a), some (.ref l), v2, v3, v4, none] ∧ H l = none ∧ Ex H H' ∧ H' l = some (.lst ys) ∧ DtAll H' ys (acc.map dN))
        ⟨l, _, _, _, ys, rfl, hl, e1, hl1, hy1⟩ (fun _ σ H' ⟨_, _, _, _, _, _, _, e, _⟩ => SqT.of (e _ _ hbx2)) ?_ ?_
      · rintro i lt x acc σ _ H2 hi hacc ⟨l, v2, v3, v4, ys, rfl, hl, e2, hl2, hy2⟩ ⟨rfl, hxi⟩
        obtain ⟨y, hy, dy⟩ := hx2.get (i := i) (d := dLetter lt) (by rw [List.getElem?_map, hi]; rfl)
        rw [hxi] at hy
        cases hy
        obtain ⟨c, u1, u2, u3, rfl, hc, g1, g2, g3⟩ := Dt.t3 (dy.go e2.tx)
        obtain ⟨c1, zs, rfl, hc1, hzs⟩ := Dt.tupE (ds := lt.names.map dN) g3
        refine ⟨_, rfl, _, rfl, c, _, 2, .ref c1, rfl, rfl, SqT.of hc, rfl, c1, zs, rfl, .inr (SqT.of hc1), fun q hq => ?_⟩
        have e3 : Ex H2 (upd H2 q (.lst zs)) := Ex.new hq
        have hq3 : (upd H2 q (.lst zs)) q = some (.lst zs) := upd_same
        generalize upd H2 q (.lst zs) = H3 at e3 hq3
        have b1 := hands_len pic hb pic.houses.length
        rw [List.take_length] at b1
        have b2 := app_len (fun l : Letter => l.names) 10 (pic.letters.take i) (pic.houses.foldl (fun a h => a ++ h.hands.filterMap id) []) fun l hl => hb.lns l (List.mem_of_mem_take hl)
        rw [← hacc, List.length_take] at b2
        have b3 := hb.lns lt (List.mem_of_getElem? hi)
        have b4 := hb.ls
        have l1 := hy2.len
        have l2 := hzs.len
        rw [List.length_map] at l1 l2
        refine ⟨l, q, ys, zs, rfl, rfl, e3 _ _ hl2, hq3, le16 (by omega), fun q2 hq2 => ?_⟩
        have e4 : Ex H3 (upd H3 q2 (.lst (ys ++ zs))) := Ex.new hq2
        refine ⟨q2, _, _, _, _, rfl, (e2.trans e3).back hq2, (e2.trans e3).trans e4, upd_same, ?_⟩
        rw [List.map_append]
        exact ((hy2.append hzs).go e3.tx).go e4.tx
      · rintro σ H2 ⟨l, v2, v3, v4, ys, rfl, hl, e2, hl2, hy2⟩
        exact ⟨_, rfl, k l H2 ys hl e2 hl2 hy2⟩
/-! ### reach -/
def spReach : Sp := fun vs H Q _ => ∃ d l F R, vs = [.ref d, .ref l] ∧ LF H d F ∧ GrB F ∧ NmL H l R ∧ (∀ n ∈ R, n ∈ keys F) ∧ R.length ≤ 1000 ∧
  ∀ (m : Addr) (H' : Hp) (xs : List V) (ms : List Nm), H m = none → Ex H H' → H' m = some (.lst xs) → DtAll H' xs (ms.map dN) → (∀ n, n ∈ ms ↔ Rch (chl F) R n) → Q (.ref m) H'
theorem LF.go {H H' : Hp} {d : Addr} {F : List (Nm × Flds)} (h : LF H d F) (e : Ex H H') : LF H' d F := by
  obtain ⟨kvs, h1, h2⟩ := h.ex
  exact ⟨kvs, exRd e h1, h2.mono fun v fs q => q.go e⟩
theorem sc_sL_reach : FnScope ["_law_fields_here", "_law_names_here", "_law_found", "_law_waiting", "_law_name"] ["_law_fields_here", "_law_names_here"] (defScope sL_reach) := ⟨rfl, rfl, rfl, by decide +kernel, rfl, by decide +kernel, by decide +kernel⟩
theorem ok_reach (F : FnP K "_law_reach" "_law_reach" sL_reach f fd) (B : Bl mg) : FnOk P w K mg base CX0 1 f fd ["_law_fields_here", "_law_names_here"] spReach := by
  refine F.ok sc_sL_reach (fun vs H Q E h => ?_) (fun cdv A outer s H vs Q E hr h => ?_)
  · obtain ⟨d, l, F, R, rfl, _⟩ := h
    rfl
  · obtain ⟨d, l, F, R, rfl, hd, g, hl, hR, hR2, k⟩ := h
    have hu := hu_of hr
    have hu64 := hr.units
    have hu65 : (A.deeper (envOfC "_law_reach" (defScope sL_reach) s.heap.objs.size f cdv)).units + 65 < cLine := by
      have := hr.un
      omega
    refine ⟨_, PSs.nox (pss_cons (ps_set (i := 2) sc_sL_reach.nd rfl (Or.inl rfl) (pe_lst pa_nil))
          (pss_cons (ps_set (i := 3) sc_sL_reach.nd rfl (Or.inl rfl) (pe_callTy call_list_of (by rfl) B.list (by decide +kernel) (pa_cons (pv 1) pa_nil)))
          (pss_cons (ps_while PassesOwn.never (pt_cmpR (op_neP hu64) (pv 3) (pe_lst pa_nil) (nomark _))
          (pss_cons (ps_set (i := 4) sc_sL_reach.nd rfl (Or.inl rfl) (pe_bm0 PySem.F.plainAttrs_list PySem.F.slot_list_pop PySem.F.type_list_pop mt_pop (pv 3)))
          (pss_one (ps_if (pt_cmpR (op_notInU hu65) (pv 4) (pv 2) rfl)
          (pss_cons (ps_expr (pe_bm PySem.F.plainAttrs_list PySem.F.slot_list_append PySem.F.type_list_append mt_append (pv 2) (pa_cons (pv 4) pa_nil)))
          (pss_one (ps_expr (pe_bm PySem.F.plainAttrs_list PySem.F.slot_list_extend PySem.F.type_list_extend mt_extend (pv 3) (pa_cons (pe_dget hu (pv 0) (pv 4) (fun _ _ => rfl)) pa_nil)))))
          pss_nil))))
          (pss_one (ps_ret (pv 2)))))), ?_⟩
    refine ⟨le16 (by show 0 ≤ 100000; decide), fun md hmd => ?_⟩
    have e1 : Ex H (upd H md (.lst [])) := Ex.new hmd
    obtain ⟨xs, hx1, hx2, hx3⟩ := hl.len
    refine ⟨_, rfl, l, xs, rfl, .inl (SqL.of (e1 _ _ hx1)), fun wl hwl => ?_⟩
    have e2 : Ex H (upd (upd H md (.lst [])) wl (.lst xs)) := e1.trans (Ex.new hwl)
    have hmw : md ≠ wl := ne_of_none upd_same hwl
    have hwl0 : H wl = none := e1.back hwl
    refine ⟨fun m σ H' => ∃ met wt ms ys v4, σ = [some (.ref d), some (.ref l), some (.ref md), some (.ref wl), v4] ∧ Ex H H' ∧ H' md = some (.lst ms) ∧ DtAll H' ms (met.map dN) ∧ H' wl = some (.lst ys) ∧ DtAll H' ys (wt.map dN) ∧
      Dfs (chl F) (keys F) R [] met wt ∧ m = 5 * unmet (keys F) met + wt.length ∧ m ≤ 3000, ⟨5 * unmet (keys F) [] + R.length, [], R, [], xs, none, rfl, e2, by rw [upd_ne hmw]; exact upd_same, .nil, upd_same, hx2.go e2.tx,
      Dfs.init hR (fun _ h => by cases h) List.nodup_nil (fun _ h => by cases h), rfl, ?_⟩, ?_⟩
    · have := unmet_le (keys F) []
      have := g.klen
      omega
    · rintro m σ H1 ⟨met, wt, ms, ys, v4, rfl, e3, hm1, hk1, hw1, hy1, df, rfl, hm⟩
      refine ⟨_, rfl, le16 (by show 0 ≤ 100000; decide), fun q hq => neMt (Ex.new hq _ _ hw1) (hy1.go (TX.updN hq)) upd_same ⟨_, rfl, ?_⟩⟩
      rw [filt_isEmpty]
      have e4 : Ex H1 (upd H1 q (.lst [])) := Ex.new hq
      generalize hH2 : upd H1 q (.lst []) = H2 at e4
      have hm2 := e4 _ _ hm1
      have hw2 := e4 _ _ hw1
      have hy2 := hy1.go e4.tx
      have hk2 := hk1.go e4.tx
      have e5 := e3.trans e4
      rcases List.eq_nil_or_concat wt with rfl | ⟨wt, n, rfl⟩
      · refine iteF ⟨_, rfl, k md H2 ms met hmd e5 hm2 hk2 fun n => ?_⟩
        rw [df.done n]
        simp
      · have ne : (!(wt ++ [n]).isEmpty) = true := by simp
        rw [List.concat_eq_append] at *
        rw [ne]
        refine iteT ⟨fun σ' H' => ∃ met' wt' ms ys v4, σ' = [some (.ref d), some (.ref l), some (.ref md), some (.ref wl), v4] ∧ Ex H H' ∧ H' md = some (.lst ms) ∧ DtAll H' ms (met'.map dN) ∧ H' wl = some (.lst ys) ∧ DtAll H' ys (wt'.map dN) ∧
          Dfs (chl F) (keys F) R [] met' wt' ∧ 5 * unmet (keys F) met' + wt'.length < 5 * unmet (keys F) met + (wt ++ [n]).length, fun σ' H' ⟨a1, a2, a3, a4, a5, b1, b2, b3, b4, b5, b6, b7, b8⟩ => ⟨_, b8, a1, a2, a3, a4, a5, b1, b2, b3, b4, b5, b6, b7, rfl, Nat.le_of_lt (Nat.lt_of_lt_of_le b8 hm)⟩, ?_⟩
        rw [List.map_append] at hy2
        obtain ⟨ys, y, rfl, hy3, dn⟩ := hy2.snocE
        have hn : n ∈ keys F := df.ws n (List.mem_append_right _ List.mem_cons_self)
        refine ⟨_, rfl, .inl ⟨rfl, _, SqL.of hw2⟩, popped hw2 ?_⟩
        have t3 : TX H2 (upd H2 wl (.lst ys)) := TX.updL hw2
        have e6 : Ex H (upd H2 wl (.lst ys)) := e5.mut hwl0
        have hm3 : (upd H2 wl (.lst ys)) md = some (.lst ms) := by rw [upd_ne hmw]; exact hm2
        have hw3 : (upd H2 wl (.lst ys)) wl = some (.lst ys) := upd_same
        have hy4 := hy3.go t3
        have hk3 := hk2.go t3
        have dn4 := dn.go t3
        generalize upd H2 wl (.lst ys) = H3 at t3 e6 hm3 hw3 hy4 hk3 dn4
        obtain ⟨a, rfl, ha⟩ := dn4.nm
        refine ⟨_, rfl, _, rfl, inNms dn4 (.inr ⟨md, ms, rfl, hm3, hk3⟩) ⟨_, rfl, ?_⟩⟩
        by_cases hmt : n ∈ met
        · rw [decide_eq_true hmt]
          refine iteF ⟨met, wt, ms, ys, _, rfl, e6, hm3, hk3, hw3, hy4, df.skip hmt, ?_⟩
          rw [List.length_append, List.length_singleton]
          omega
        · rw [decide_eq_false hmt]
          have lm : ms.length ≤ 400 := by
            have := hk3.len
            rw [List.length_map] at this
            rw [this]
            exact Nat.le_trans (List.Nodup.length_le_of_subset df.nd df.ms) g.klen
          refine iteT ⟨_, rfl, .inl ⟨rfl, _, SqL.of hm3⟩, _, rfl, md, ms, _, rfl, rfl, hm3, lt16 (by omega), ?_⟩
          have t4 : TX H3 (upd H3 md (.lst (ms ++ [.ref a]))) := TX.updL hm3
          have e7 : Ex H (upd H3 md (.lst (ms ++ [.ref a]))) := e6.mut hmd
          have hm4 : (upd H3 md (.lst (ms ++ [.ref a]))) md = some (.lst (ms ++ [.ref a])) := upd_same
          have hw4 : (upd H3 md (.lst (ms ++ [.ref a]))) wl = some (.lst ys) := by rw [upd_ne hmw.symm]; exact hw3
          have hy5 := hy4.go t4
          have hk4 := (hk3.snoc dn4).go t4
          have ha4 := t4 _ _ ha
          generalize upd H3 md (.lst (ms ++ [.ref a])) = H4 at t4 e7 hm4 hw4 hy5 hk4 ha4
          obtain ⟨c, zs, hg, hc, hzs⟩ := (hd.go e7).get ha4 hn
          refine ⟨_, rfl, .inl ⟨rfl, _, SqL.of hw4⟩, _, rfl, _, rfl, d, _, rfl, hg, ?_⟩
          have l1 := hy5.len
          have l2 := hzs.len
          rw [List.length_map] at l1 l2
          have l3 := chl_len g n
          have l4 : wt.length ≤ 3000 := by
            rw [List.length_append] at hm
            omega
          refine ⟨wl, c, ys, zs, rfl, rfl, hw4, hc, le16 (by omega), ?_⟩
          have t7 : TX H4 (upd H4 wl (.lst (ys ++ zs))) := TX.updL hw4
          refine ⟨met ++ [n], wt ++ chl F n, _, _, _, rfl, e7.mut hwl0, by rw [upd_ne hmw]; exact hm4, ?_, upd_same, ?_, df.more hmt g.chlS fun m => List.mem_append, ?_⟩
          · rw [List.map_append]
            exact hk4.go t7
          · rw [List.map_append]
            exact (hy5.append hzs).go t7
          · have := unmet_less hn hmt
            rw [List.length_append, List.length_append, List.length_singleton]
            omega
end
end HF
set_option Elab.async false
set_option linter.all false
set_option maxRecDepth 100000
set_option maxHeartbeats 4000000
namespace HF
open PySem PySem.Spec PyProof.Rows L2
section
variable {P : Program} {w : World} {K : PySem.W.Frag} {mg : Str → Option Value} {base : Heap} {f : Addr} {fd : FuncData}
def spIdle : Sp := fun vs H Q _ => ∃ (d rl : Addr) (u : V) (od : Obj) (kvs : List (List Key × V)) (F : List (Nm × Flds)) (rxs : List V) (R ns : List Nm), vs = [.ref d, .ref rl, u] ∧ H d = some (.frz od (.dT kvs)) ∧ PVs (cR H) kvs F ∧ GrB F ∧ H rl = some (.lst rxs) ∧ DtAll H rxs (R.map dN) ∧ Dt H u (dNs ns) ∧ ns.length ≤ 1000 ∧ (∀ n ∈ ns, n ∈ keys F) ∧ (∀ n ∈ ns, n ∉ R) ∧
  (∀ a ∈ keys F, a ∉ ns → ∀ b ∈ chl F a, b ∉ ns) ∧ ∀ H', Ex H H' → Q (.bl true) H'
theorem sc_sL_idle : FnScope ["_law_fields_here", "_law_roots_here", "_law_names_here", "_law_name", "_law_outer"] ["_law_fields_here", "_law_roots_here", "_law_names_here"] (defScope sL_idle) := ⟨rfl, rfl, rfl, by decide +kernel, rfl, by decide +kernel, by decide +kernel⟩
theorem ok_idle (F : FnP K "_law_idle" "_law_idle" sL_idle f fd) (B : Bl mg) : FnOk P w K mg base CX0 1 f fd ["_law_fields_here", "_law_roots_here", "_law_names_here"] spIdle := by
  refine F.ok sc_sL_idle (fun vs H Q E h => ?_) (fun cdv A outer s H vs Q E hr h => ?_)
  · obtain ⟨d, rl, u, od, kvs, F, rxs, R, ns, rfl, _⟩ := h
    rfl
  · obtain ⟨d, rl, u, od, kvs, F, rxs, R, ns, rfl, hd, hk, g, hrl, hrx, hu0, hlen, hsub, hR, hout, k⟩ := h
    have hu := hu_of hr
    have hu64 := hr.units
    have hu65 : (A.deeper (envOfC "_law_idle" (defScope sL_idle) s.heap.objs.size f cdv)).units + 65 < cLine := by
      have := hr.un
      omega
    refine ⟨_, PSs.nox (pss_cons (ps_for PassesOwn.never rfl (pi_tup (pv 2)) (pg_name (i := 3) sc_sL_idle.nd rfl (Or.inl rfl))
          (pss_one (ps_if (PW.pt (pw_or (pt_cmp (pc_dnotin hu (pv 3) (pv 0))) (pw_or1 (pt_cmpR (op_inU hu65) (pv 3) (pv 1) rfl))))
          (pss_one (ps_ret pe_bl))
          pss_nil)))
          (pss_cons (ps_set (i := 4) sc_sL_idle.nd rfl (Or.inr rfl) (pe_lst pa_nil))
          (pss_cons (ps_for PassesOwn.never rfl (pi_keys (pv 0)) (pg_name (i := 3) sc_sL_idle.nd rfl (Or.inl rfl))
          (pss_one (ps_if (pt_cmpR (op_notInU hu65) (pv 3) (pv 2) rfl)
          (pss_one (ps_set (i := 4) sc_sL_idle.nd rfl (Or.inr rfl) (pe_op op_cat (pv 4) (pe_dget hu (pv 0) (pv 3) (fun _ _ => rfl)))))
          pss_nil)))
          (pss_one (ps_ret (pe_cmpR (op_eqU hu64) (pe_callB call_len_seq (by rfl) B.len (by decide +kernel) (pa_cons (pe_lc (own := [("_law_name", 3)]) (g := gName 3) rfl sc_sL_idle.nd (pi_tup (pv 2)) (blkOk_by (N := ["_law_fields_here", "_law_roots_here", "_law_names_here", "_law_name", "_law_outer"]) (sc := defScope sL_idle) (by decide +kernel)) (fun _ _ _ _ _ => (pg_name (i := 3) sc_sL_idle.nd rfl (Or.inl rfl))) (fun _ _ _ _ _ => (pts_one (pt_cmpR (op_inU hu65) (pv 3) (pv 4) rfl))) (fun _ _ _ _ _ => (pv 3))) pa_nil)) pe_int (nomark _))))))), ?_⟩
    obtain ⟨ua, us, rfl, hua, hus⟩ := Dt.tupE (ds := ns.map dN) hu0
    have lu : us.length = ns.length := by rw [hus.len, List.length_map]
    have hLF : LF H d F := ⟨kvs, .inr ⟨od, hd⟩, hk⟩
    refine ⟨_, rfl, ua, rfl, ⟨us, SqT.of hua⟩, ?_⟩
    refine for_it (walk_tup (K := K) (a := ua) (xs := us)) (fun i σ H' => ∃ v3, σ = [some (.ref d), some (.ref rl), some (.ref ua), v3, none] ∧ H' = H) ⟨none, rfl, rfl⟩ (fun i σ H' _ ⟨_, _, e⟩ => by rw [e]; exact SqT.of hua) ?_ ?_
    · rintro i x σ _ H1 hi ⟨v3, rfl, rfl⟩ ⟨rfl, hxi⟩
      obtain ⟨dd, hdd, dx⟩ := hus.getV hxi
      rw [List.getElem?_map] at hdd
      obtain ⟨n, hn, rfl⟩ := Option.map_eq_some_iff.mp hdd
      have hn := List.mem_of_getElem? hn
      obtain ⟨b, rfl, hb⟩ := dx.nm
      obtain ⟨o, ho, hos⟩ := hLF.has hb
      refine ⟨_, rfl, _, rfl, d, o, rfl, ho, _, rfl, ?_⟩
      rw [hos, decide_eq_true (hsub n hn)]
      refine iteF ⟨_, rfl, _, rfl, inNms dx (.inr ⟨rl, rxs, rfl, hrl, hrx⟩) ⟨_, rfl, ?_⟩⟩
      rw [decide_eq_false (hR n hn)]
      exact iteF ⟨_, rfl, rfl⟩
    rintro σ H0 ⟨v3, rfl, rfl⟩
    refine ⟨le16 (by show 0 ≤ 100000; decide), fun l hl => ?_⟩
    have e1 : Ex H0 (upd H0 l (.lst [])) := Ex.new hl
    refine ⟨_, rfl, d, od, rfl, .inr ⟨kvs, e1 _ _ hd, ?_⟩⟩
    have lk : kvs.length ≤ 40 := by
      rw [hk.len]
      exact g.few
    refine for_it (walk_keysT (d := d) (o := od) (kvs := kvs)) (fun i σ H' => ∃ l v3 ys os, σ = [some (.ref d), some (.ref rl), some (.ref ua), v3, some (.ref l)] ∧ Ex H0 H' ∧ H' l = some (.lst ys) ∧ DtAll H' ys (os.map dN) ∧ os.length ≤ 4 * i ∧ ∀ m ∈ os, ∃ a ∈ keys F, a ∉ ns ∧ m ∈ chl F a)
      ⟨l, _, [], [], rfl, e1, upd_same, .nil, Nat.zero_le _, fun m h => nomatch h⟩ (fun i σ H' _ ⟨_, _, _, _, _, e, _⟩ => e _ _ hd) ?_ ?_
    · rintro i x σ _ H2 hi ⟨l, v3, ys, os, rfl, e2, hl2, hy2, hol, hos⟩ ⟨rfl, kk, fv, qa, hkv, rfl, hqa⟩
      have hkk : (kvs.map (·.1))[i]? = some kk := by rw [List.getElem?_map, hkv]; rfl
      rw [show kvs.map (·.1) = (keys F).map nkey from hk.ks, List.getElem?_map] at hkk
      obtain ⟨n, hn, rfl⟩ := Option.map_eq_some_iff.mp hkk
      have hn := List.mem_of_getElem? hn
      refine ⟨_, rfl, _, rfl, inNms (Dt.of_key n qa hqa) (.inl (hu0.go e2.tx)) ⟨_, rfl, ?_⟩⟩
      by_cases hmn : n ∈ ns
      · rw [decide_eq_true hmn]
        exact iteF ⟨l, _, ys, os, rfl, e2, hl2, hy2, by omega, hos⟩
      rw [decide_eq_false hmn]
      obtain ⟨c, zs, hg, hc, hzs⟩ := (hLF.go e2).get hqa hn
      have l1 := hy2.len
      have l2 := hzs.len
      rw [List.length_map] at l1 l2
      have l3 := chl_len g n
      refine iteT ⟨_, rfl, _, rfl, _, rfl, d, _, rfl, hg, l, c, ys, zs, rfl, rfl, hl2, hc, le16 (by omega), fun q hq => ?_⟩
      have e3 : Ex H2 (upd H2 q (.lst (ys ++ zs))) := Ex.new hq
      refine ⟨q, _, _, os ++ chl F n, rfl, e2.trans e3, upd_same, ?_, by rw [List.length_append]; omega, fun m hm => ?_⟩
      · rw [List.map_append]
        exact (hy2.append hzs).go e3.tx
      · rcases List.mem_append.mp hm with hm | hm
        · exact hos m hm
        · exact ⟨n, hn, hmn, hm⟩
    rintro σ H2 ⟨l, v3, ys, os, rfl, e2, hl2, hy2, hol, hos⟩
    refine ⟨_, rfl, ua, rfl, ⟨us, SqT.of (e2 _ _ hua)⟩, fun D hD => ?_⟩
    have hus2 := hus.go e2.tx
    refine lc_data (as := ns) (H1 := H2) (lu ▸ walk_tup (K := K) (a := ua) (xs := us)) (fun n x H => Dt H x (dN n)) (fun n => decide (n ∈ os)) dN (by omega) hD ?_ (fun H' e => SqT.of (e _ _ (e2 _ _ hua))) ?_ ?_ ?_ ?_
    · exact fun _ => rfl
    · rintro j n x H2 H3 hj e ⟨rfl, hx3⟩
      obtain ⟨y, hy, dy⟩ := hus2.get (i := j) (d := dN n) (by rw [List.getElem?_map, hj]; rfl)
      rw [hx3] at hy
      cases hy
      exact ⟨rfl, dy.go e.tx⟩
    · intro n x H3 _ e im R r
      exact ⟨_, rfl, _, rfl, inNms im (.inr ⟨l, ys, rfl, e _ _ hl2, hy2.go e.tx⟩) ⟨_, rfl, r⟩⟩
    · intro n x H3 _ _ _ im R r
      exact ⟨_, rfl, r _ _ (Ex.refl _) im⟩
    · intro zs H3 e3 hD3 hz3
      have z0 : ns.filter (fun n => decide (n ∈ os)) = [] := by
        refine List.filter_eq_nil_iff.mpr fun n hn => ?_
        rw [decide_eq_true_eq]
        intro ho
        obtain ⟨a, h1, h2, h3⟩ := hos n ho
        exact hout a h1 h2 n h3 hn
      rw [z0] at hz3
      have hz0 := hz3.nilE
      subst hz0
      refine ⟨D, [], rfl, .inl (SqL.of hD3), eqInt ?_⟩
      exact k _ (e2.trans e3)
/-! ### let_by -/
structure CLet (P : Program) (w : World) (K : PySem.W.Frag) (mg : Str → Option Value) (base : Heap) : Prop where
  wanted_holds : Cal P w K mg base "wanted_holds" ["picture", "paper"] 3 spWanted
  cut_holds : Cal P w K mg base "cut_holds" ["picture", "paper"] 2 spCutHolds
  pointed_holds : Cal P w K mg base "pointed_holds" ["picture", "paper"] 3 spPtd
def spLet : Sp := fun vs H Q _ => ∃ (v u : V) (kd : Addr) (pic : Pic) (pp : Paper) (ws : List Str), vs = [v, u, .ref kd] ∧ Dt H v (dPic pic) ∧ PicOk pic ∧ Dt H u (dPaper pp) ∧ PapOk pic pp ∧ H kd = some (.lst (ws.map V.str)) ∧ word pp ∈ ws ∧ ∀ H', Ex H H' → Q (.bl true) H'
theorem dPaper_t (pp : Paper) {H : Hp} {u : V} (h : Dt H u (dPaper pp)) : ∃ a r, u = .ref a ∧ H a = some (.tup (.str (word pp) :: r)) := by
  cases pp with
  | wanted n st ss =>
    obtain ⟨a, x1, x2, x3, x4, rfl, ha, g1, _⟩ := Dt.t4 h
    cases g1.strE
    exact ⟨a, _, rfl, ha⟩
  | cut ns ls =>
    obtain ⟨a, x1, x2, x3, rfl, ha, g1, _⟩ := Dt.t3 h
    cases g1.strE
    exact ⟨a, _, rfl, ha⟩
  | pointed n ns st ss =>
    obtain ⟨a, x1, x2, x3, x4, x5, rfl, ha, g1, _⟩ := Dt.t5 h
    cases g1.strE
    exact ⟨a, _, rfl, ha⟩
theorem inStrL {H : Hp} {x : Str} {a : Addr} {xs : List Str} {neg : Bool} {Q : VK} (ha : H a = some (.lst (xs.map V.str))) (k : Q (.bl (if neg then !xs.any fun z => z == x else xs.any fun z => z == x)) H) : rInU neg (.str x) (.ref a) H Q := by
  have hd : ∀ l : List Str, DtAll H (l.map V.str) (l.map PyData.str) := fun l => by
    induction l with
    | nil => exact .nil
    | cons b r ih => exact .cons (.str b) ih
  refine .mk (ds := xs.map PyData.str) (.str x) (.inr ⟨a, _, rfl, ha, hd xs⟩) (by rw [str_depth]; decide) ?_
  have e : ((xs.map PyData.str).any fun z => PyData.eqv z (.str x)) = xs.any fun z => z == x := by
    rw [List.any_map]
    congr 1
  rw [e]
  exact k
theorem at0 {x : V} {r : List V} : atI (x :: r) 0 = some x := atI_nat (j := 0) rfl
theorem sc_sL_let_by : FnScope ["_law_picture_here", "_law_paper", "_law_kinds"] ["_law_picture_here", "_law_paper", "_law_kinds"] (defScope sL_let_by) := ⟨rfl, rfl, rfl, by decide +kernel, rfl, by decide +kernel, by decide +kernel⟩
theorem ok_let (F : FnP K "_law_let_by" "_law_let_by" sL_let_by f fd) (B : Bl mg) (C : CLet P w K mg base) : FnOk P w K mg base CX0 4 f fd ["_law_picture_here", "_law_paper", "_law_kinds"] spLet := by
  refine F.ok sc_sL_let_by (fun vs H Q E h => ?_) (fun cdv A outer s H vs Q E hr h => ?_)
  · obtain ⟨v, u, kd, pic, pp, ws, rfl, _⟩ := h
    rfl
  · obtain ⟨v, u, kd, pic, pp, ws, rfl, hv, ok, hp, pok, hkd, hw, k⟩ := h
    have hu := hu_of hr
    have hu64 := hr.units
    have hu65 : (A.deeper (envOfC "_law_let_by" (defScope sL_let_by) s.heap.objs.size f cdv)).units + 65 < cLine := by
      have := hr.un
      omega
    refine ⟨_, PSs.nox (pss_cons (ps_if (PW.pt (pw_or (pt_not (pt_val (pe_callB call_isi (by rfl) B.isinstance (by decide +kernel) (pa_cons (pv 1) (pa_cons (pe_bltn (v := .ty "tuple") (u := .type "tuple") (by rfl) B.tuple (by decide +kernel) rfl) pa_nil))))) (pw_or1 (pt_cmpR (op_notInU hu65) (pe_ix ix_tup (pv 1) pe_int (fun _ _ => rfl)) (pv 2) rfl))))
          (pss_one (ps_ret pe_bl))
          pss_nil)
          (pss_cons (ps_if (pt_cmpR (op_eqU hu64) (pe_ix ix_tup (pv 1) pe_int (fun _ _ => rfl)) pe_str (nomark _))
          (pss_one (ps_ret (pe_cmpR op_is_bl (pe_cal C.wanted_holds (hr.mono (by decide)) pass0 (pa_cons (pv 0) (pa_cons (pv 1) pa_nil))) pe_bl (nomark _))))
          pss_nil)
          (pss_cons (ps_if (pt_cmpR (op_eqU hu64) (pe_ix ix_tup (pv 1) pe_int (fun _ _ => rfl)) pe_str (nomark _))
          (pss_one (ps_ret (pe_cmpR op_is_bl (pe_cal C.cut_holds (hr.mono (by decide)) pass0 (pa_cons (pv 0) (pa_cons (pv 1) pa_nil))) pe_bl (nomark _))))
          pss_nil)
          (pss_one (ps_ret (pe_cmpR op_is_bl (pe_cal C.pointed_holds (hr.mono (by decide)) pass0 (pa_cons (pv 0) (pa_cons (pv 1) pa_nil))) pe_bl (nomark _))))))), ?_⟩
    obtain ⟨a, r, rfl, ha⟩ := dPaper_t pp hp
    refine ⟨_, rfl, .ref a, .ty "tuple", .type "tuple", .type "tuple", true, rfl, .ty _, .base (.tup ha), by unfold PySem.W.kitOne; rw [if_pos (by decide)], _, rfl, ?_⟩
    refine iteF ⟨_, rfl, a, _, 0, _, rfl, rfl, SqT.of ha, at0, _, rfl, inStrL hkd ⟨_, rfl, ?_⟩⟩
    have e1 : (ws.any fun z => z == word pp) = true := List.any_eq_true.mpr ⟨_, hw, by simp⟩
    rw [e1]
    refine iteF ⟨_, rfl, a, _, 0, _, rfl, rfl, SqT.of ha, at0, eqStr ⟨_, rfl, ?_⟩⟩
    cases pp with
    | wanted n st ss =>
      obtain ⟨m, h1, h2⟩ := pok
      refine iteT ⟨_, rfl, _, rfl, v, .ref a, pic, n, st, ss, m, rfl, hv, ok.b, hp, h1, h2, fun H1 e => ⟨_, _, rfl, rfl, k H1 e⟩⟩
    | cut ns ls =>
      obtain ⟨rfl, h2⟩ := pok
      refine iteF ⟨_, rfl, a, _, 0, _, rfl, rfl, SqT.of ha, at0, eqStr ⟨_, rfl, ?_⟩⟩
      refine iteT ⟨_, rfl, _, rfl, v, .ref a, pic, ns, rfl, hv, ok.b, ok.g, hp, h2, fun H1 e => ⟨_, _, rfl, rfl, k H1 e⟩⟩
    | pointed n ns st ss =>
      obtain ⟨m, h2⟩ := pok
      refine iteF ⟨_, rfl, a, _, 0, _, rfl, rfl, SqT.of ha, at0, eqStr ⟨_, rfl, ?_⟩⟩
      refine iteF ⟨_, rfl, _, rfl, v, .ref a, pic, n, ns, st, ss, m, rfl, hv, ok.b, ok.g, hp, h2, fun H1 e => ⟨_, _, rfl, rfl, k H1 e⟩⟩
end
end HF
set_option Elab.async false
set_option linter.all false
set_option maxRecDepth 100000
set_option maxHeartbeats 4000000
namespace HF
open PySem PySem.Spec PyProof.Rows L2
/-! ### each told paper is so -/
def named (n : Nm) : Paper → Prop
  | .wanted m _ _ => m = n
  | .cut ns _ => n ∈ ns
  | .pointed m _ _ _ => m = n
theorem start_name {p : Pic} {st : Start} {n : Nm} (h : (st, n) ∈ startsF p) : startName p st = some n ∧ ∀ t f, st ≠ .field t f := by
  unfold startsF at h
  rcases List.mem_append.mp h with h | h
  · obtain ⟨x, hx, h⟩ := List.mem_flatMap.mp h
    unfold houseSt at h
    obtain ⟨y, hy, h⟩ := List.mem_flatMap.mp h
    unfold hStarts at h
    obtain ⟨o, j⟩ := y
    cases o with
    | none => cases h
    | some m =>
      have e := List.mem_singleton.mp h
      cases e
      have h1 := zip_mem hx
      have h2 := zip_mem hy
      refine ⟨?_, fun t f z => nomatch z⟩
      show (p.houses[x.2]?).bind (fun x => (x.hands[j]?).bind id) = some n
      rw [h1]
      show (x.1.hands[j]?).bind id = some n
      rw [h2]
      rfl
  · obtain ⟨x, hx, h⟩ := List.mem_flatMap.mp h
    unfold letterSt at h
    obtain ⟨y, hy, h⟩ := List.mem_flatMap.mp h
    have e := List.mem_singleton.mp h
    cases e
    have h1 := zip_mem hx
    have h2 := zip_mem hy
    refine ⟨?_, fun t f z => nomatch z⟩
    show (p.letters[x.2]?).bind (fun l => l.names[y.2]?) = some y.1
    rw [h1]
    exact h2
theorem path_rch {F : List (Nm × Flds)} {R : List Nm} {n : Nm} : ∀ {ss : Steps} {m : Nm}, Rch (chl F) R m → PathF F m ss n → Rch (chl F) R n
  | [], m, h, p => by
    have e : m = n := p
    exact e ▸ h
  | (a, f) :: r, m, h, p => by
    obtain ⟨e, fs, b, h1, h2, h3⟩ := p
    exact path_rch (ss := r) (.step h (e ▸ chl_of h1 h2)) h3
/-- what is in a cut can't be come to -/
theorem cut_free {p : Pic} (ok : PicOk p) {ns : List Nm} (c : CutOk p ns) {n : Nm} (r : Rch (chl (fieldsF p)) (heldF p) n) : n ∉ ns := by
  induction r with
  | base hb => exact c.held _ hb
  | step ha e ih => exact c.out _ (ha.within ok.held ok.g.chlS) ih _ e
theorem held_start {p : Pic} {n : Nm} (h : n ∈ heldF p) : ∃ st, (st, n) ∈ startsF p := by
  rw [← starts_held] at h
  obtain ⟨s, hs, rfl⟩ := List.mem_map.mp h
  exact ⟨s.1, hs⟩
theorem start_held {p : Pic} {s : Start × Nm} (h : s ∈ startsF p) : s.2 ∈ heldF p := by
  rw [← starts_held]
  exact List.mem_map.mpr ⟨s, h, rfl⟩
/-- a name of the first kind's paper -/
structure TrialOk (p : Pic) (n : Nm) (pp : Paper) : Prop where
  ok : PapOk p pp
  nm : named n pp
  wd : word pp ∈ (["cut", "pointed"] : List Str)
structure WantOk (p : Pic) (n : Nm) (pp : Paper) : Prop where
  ok : PapOk p pp
  nm : named n pp
  wd : word pp ∈ (["wanted", "cut"] : List Str)
  iff : (∃ m st ss, pp = .wanted m st ss) ↔ Rch (chl (fieldsF p)) (heldF p) n
theorem out_start {p : Pic} {ks : List Nm} {st : Start} {m : Nm} (h : (st, m) ∈ outsideF p ks) : StartIn p ks m st := by
  unfold outsideF at h
  rcases List.mem_append.mp h with h | h
  · obtain ⟨h1, h2⟩ := start_name (List.mem_filter.mp h).1
    cases st with
    | hand i j => exact h1
    | letter i j => exact h1
    | field t f => exact absurd rfl (h2 t f)
  · obtain ⟨t, ht, h⟩ := List.mem_flatMap.mp h
    unfold outT at h
    split at h
    · cases h
    · rename_i htk
      obtain ⟨x, hx, h⟩ := List.mem_flatMap.mp h
      unfold outF at h
      split at h
      · cases h
      · rename_i q e
        split at h
        · have e2 := List.mem_singleton.mp h
          cases e2
          cases hf : aget (fieldsF p) t with
          | none => rw [hf] at hx; cases hx
          | some fs =>
            rw [hf] at hx
            refine ⟨htk, fs, hf, ?_⟩
            have := zip_mem hx
            rw [e] at this
            exact this
        · cases h
theorem trial_pap {p : Pic} (ok : PicOk p) {n : Nm} (hn : n ∈ keys (fieldsF p)) : ∃ pp, trialD p n = dPaper pp ∧ TrialOk p n pp := by
  have o1 := one_keys hn
  have hkF : ∀ q ∈ ledTo p n, q ∈ keys (fieldsF p) := fun q hq => ((mem_cloL ok.g o1).mp hq).within o1 ok.g.chlS
  have hkC : ∀ a ∈ ledTo p n, ∀ b ∈ chl (fieldsF p) a, b ∈ ledTo p n := fun a ha b hb => (mem_cloL ok.g o1).mpr (.step ((mem_cloL ok.g o1).mp ha) hb)
  have hnk : n ∈ ledTo p n := (mem_cloL ok.g o1).mpr (.base (List.mem_singleton.mpr rfl))
  unfold trialD
  by_cases hr : Rch (chl (fieldsF p)) ((outS p n).map (·.2)) n
  · rw [if_pos hr]
    obtain ⟨a, m, ha, h1, h2, h3⟩ := PtL.out (name := n) ok.g hkF hkC hr 200 (PtL.init (S := outS p n) ok.g hkF fun s hs => outside_in s hs)
    refine ⟨.pointed n (ledTo p n) a.1 a.2, ?_, ⟨m, ⟨⟨fun z => (by rw [z] at hnk; cases hnk), cloL_nodup ok.g _, cloL_up _ _, hkF⟩, hnk, hkC, out_start h1, outside_in _ h1, h3, h2⟩⟩, rfl, List.mem_cons_of_mem _ List.mem_cons_self⟩
    unfold pointedD
    rw [ha, srt_self (cloL_nodup ok.g _) (cloL_up _ _)]
  · rw [if_neg hr]
    have mem : ∀ q, q ∈ stayL p n ↔ q ∈ ledTo p n ∧ ¬ Rch (chl (fieldsF p)) ((outS p n).map (·.2)) q := fun q => by
      unfold stayL
      rw [List.mem_filter]
      refine and_congr_right fun _ => ?_
      by_cases z : Rch (chl (fieldsF p)) ((outS p n).map (·.2)) q
      · simp [z]
      · simp [z]
    have hns : n ∈ stayL p n := (mem n).mpr ⟨hnk, hr⟩
    refine ⟨.cut (stayL p n) (lettersL p), rfl, ⟨rfl, ⟨⟨fun z => (by rw [z] at hns; cases hns), (cloL_nodup ok.g _).filter _, (cloL_up _ _).filter _, fun q hq => hkF q ((mem q).mp hq).1⟩, fun h hh hs => ?_, fun a ha hna b hb hbs => ?_⟩⟩, hns, List.mem_cons_self⟩
    · obtain ⟨st, hst⟩ := held_start hh
      obtain ⟨h1, h2⟩ := (mem h).mp hs
      refine h2 (.base (List.mem_map.mpr ⟨(st, h), ?_, rfl⟩))
      exact List.mem_append_left _ (List.mem_filter.mpr ⟨hst, by rw [decide_eq_true_eq]; exact h1⟩)
    · obtain ⟨h1, h2⟩ := (mem b).mp hbs
      by_cases hal : a ∈ ledTo p n
      · have : Rch (chl (fieldsF p)) ((outS p n).map (·.2)) a := Classical.byContradiction fun z => hna ((mem a).mpr ⟨hal, z⟩)
        exact h2 (.step this hb)
      · obtain ⟨fs, hfs, hfb⟩ := mem_chl.mp hb
        obtain ⟨i, hi⟩ := List.getElem?_of_mem hfb
        refine h2 (.base (List.mem_map.mpr ⟨(.field a i, b), ?_, rfl⟩))
        refine List.mem_append_right _ (List.mem_flatMap.mpr ⟨a, srt_mem.mpr ha, ?_⟩)
        unfold outT
        rw [if_neg hal, hfs]
        refine List.mem_flatMap.mpr ⟨(some b, i), zip_of hi, ?_⟩
        unfold outF
        simp only
        rw [if_pos h1]
        exact List.mem_singleton.mpr rfl
theorem wanted_pap {p : Pic} (ok : PicOk p) {n : Nm} (hr : Rch (chl (fieldsF p)) (heldF p) n) : ∃ pp, wantedD p n = dPaper pp ∧ WantOk p n pp := by
  have hk : n ∈ keys (allWays p) := ok.lay.rch (by rw [starts_held]; exact hr)
  obtain ⟨a, ha⟩ := aget_some hk
  obtain ⟨st, m, h1, h2⟩ := ok.lay.ok n a ha
  refine ⟨.wanted n st a.2, ?_, ⟨m, (start_name (List.mem_of_getElem? h1)).1, h2⟩, rfl, List.mem_cons_self, fun _ => hr, fun _ => ⟨_, _, _, rfl⟩⟩
  unfold wantedD
  rw [ha]
  simp only [h1]
theorem cut_pap {p : Pic} (ok : PicOk p) {n : Nm} (hn : n ∈ keys (fieldsF p)) (hr : ¬ Rch (chl (fieldsF p)) (heldF p) n) : ∃ pp, cutD p = dPaper pp ∧ WantOk p n pp := by
  have mem : ∀ q, q ∈ freeL p ↔ q ∈ keys (fieldsF p) ∧ ¬ Rch (chl (fieldsF p)) (heldF p) q := fun q => by
    unfold freeL
    rw [List.mem_filter, srt_mem]
    refine and_congr_right fun _ => ?_
    have := mem_cloL ok.g ok.held (n := q)
    by_cases z : q ∈ cloL (fieldsF p) (heldF p)
    · simp [z, this.mp z]
    · have z2 : ¬ Rch (chl (fieldsF p)) (heldF p) q := fun y => z (this.mpr y)
      simp [z, z2]
  have hnf : n ∈ freeL p := (mem n).mpr ⟨hn, hr⟩
  have ne : freeL p ≠ [] := fun z => by rw [z] at hnf; cases hnf
  refine ⟨.cut (freeL p) (lettersL p), ?_, ⟨rfl, ⟨⟨ne, (srt_nodup ok.g.nd).filter _, (srt_up _).filter _, fun q hq => ((mem q).mp hq).1⟩, fun h hh hs => ((mem h).mp hs).2 (.base hh), fun a ha hna b hb hbs => ?_⟩⟩, hnf, List.mem_cons_of_mem _ List.mem_cons_self, fun ⟨_, _, _, z⟩ => (nomatch z), fun z => absurd z hr⟩
  · unfold cutD
    rw [if_neg]
    cases z : freeL p with
    | nil => exact absurd z ne
    | cons a r => simp
  · have : Rch (chl (fieldsF p)) (heldF p) a := Classical.byContradiction fun z => hna ((mem a).mpr ⟨ha, z⟩)
    exact ((mem b).mp hbs).2 (.step this hb)
theorem marks_pap {p : Pic} (ok : PicOk p) {n : Nm} (hn : n ∈ keys (fieldsF p)) : ∃ pp, marksD p n = dPaper pp ∧ WantOk p n pp := by
  unfold marksD
  by_cases hr : Rch (chl (fieldsF p)) (heldF p) n
  · rw [if_pos hr]
    exact wanted_pap ok hr
  · rw [if_neg hr]
    exact cut_pap ok hn hr
theorem track_pap {p : Pic} (ok : PicOk p) {n : Nm} (hn : n ∈ keys (fieldsF p)) : ∃ pp, trackD p n = dPaper pp ∧ WantOk p n pp := by
  have bo := back_ok ok.g hn
  unfold trackD
  cases hf : (startsF p).find? (fun s => decide (s.2 ∈ keys (backF (fieldsF p) n))) with
  | some s =>
    have hs := List.mem_of_find?_eq_some hf
    have hk : s.2 ∈ keys (backF (fieldsF p) n) := by
      have := List.find?_some hf
      exact of_decide_eq_true this
    obtain ⟨ss, hss⟩ := aget_some hk
    have hp := bo.ok _ _ hss
    have hr : Rch (chl (fieldsF p)) (heldF p) n := path_rch (.base (start_held hs)) hp
    refine ⟨.wanted n s.1 ss, by simp only [hss, Option.getD_some], ⟨s.2, (start_name (st := s.1) (n := s.2) hs).1, hp⟩, rfl, List.mem_cons_self, fun _ => hr, fun _ => ⟨_, _, _, rfl⟩⟩
  | none =>
    have hno : ∀ h ∈ heldF p, h ∉ keys (backF (fieldsF p) n) := fun h hh hk => by
      obtain ⟨st, hst⟩ := held_start hh
      have := List.find?_eq_none.mp hf _ hst
      exact this (decide_eq_true hk)
    have hr : ¬ Rch (chl (fieldsF p)) (heldF p) n := fun z => bo.rch hno z bo.nm
    have mem : ∀ q, q ∈ srt dN (keys (backF (fieldsF p) n)) ↔ q ∈ keys (backF (fieldsF p) n) := fun q => srt_mem
    refine ⟨.cut (srt dN (keys (backF (fieldsF p) n))) (lettersL p), rfl, ⟨rfl, ⟨⟨fun z => ?_, srt_nodup bo.nd, srt_up _, fun q hq => bo.sub q ((mem q).mp hq)⟩, fun h hh hs => hno h hh ((mem h).mp hs), fun a ha hna b hb hbs => ?_⟩⟩, (mem n).mpr bo.nm, List.mem_cons_of_mem _ List.mem_cons_self, fun ⟨_, _, _, z⟩ => (nomatch z), fun z => absurd z hr⟩
    · have := (mem n).mpr bo.nm
      rw [z] at this
      cases this
    · obtain ⟨fs, hfs, hfb⟩ := mem_chl.mp hb
      obtain ⟨i, hi⟩ := List.getElem?_of_mem hfb
      exact hna ((mem a).mpr (bo.cl b ((mem b).mp hbs) (a, i) (mem_pointL.mpr ⟨fs, hfs, hi⟩)))
/-! how deep papers are -/
theorem dStart_depth (st : Start) : (dStart st).depth ≤ 3 := by
  cases st <;> simp [dStart, dN, PyData.depth, PyData.depthAll]
theorem dPaper_depth (pp : Paper) : (dPaper pp).depth ≤ 10 := by
  cases pp with
  | wanted n st ss =>
    have h1 := dStart_depth st
    have h2 := dSteps_depth ss
    have h3 := dN_depth n
    simp only [dPaper, PyData.depth, PyData.depthAll]
    omega
  | cut ns ls =>
    have h1 := dNs_depth ns
    have h2 := dNss_depth ls
    simp only [dPaper, PyData.depth, PyData.depthAll] at *
    omega
  | pointed n ns st ss =>
    have h1 := dStart_depth st
    have h2 := dSteps_depth ss
    have h3 := dN_depth n
    have h4 := dNs_depth ns
    simp only [dPaper, PyData.depth, PyData.depthAll]
    omega
end HF
set_option Elab.async false
set_option linter.all false
set_option maxRecDepth 100000
set_option maxHeartbeats 4000000
namespace HF
open PySem PySem.Spec PyProof.Rows L2
/-! ### a class of one's own that is called -/
section
variable {X : Cx}
structure CalC (P : Program) (w : World) (K : PySem.W.Frag) (mg : Str → Option Value) (base : Heap) (x : Str) (C : Addr) (ps : List Str) (k : Nat) (sp : Sp) : Prop where
  ex : ∃ f fd, mg x = some (.ref C) ∧ L2.Mk K C f ∧ Binds K fd ps [] ∧ FnOk P w K mg base CX0 k f fd ps sp
abbrev XCalC (X : Cx) (x : Str) (C : Addr) (ps : List Str) (k : Nat) (sp : Sp) : Prop := CalC X.prog X.w X.K X.mg X.base x C ps k sp
theorem pe_mk {x : Str} {C : Addr} {ps : List Str} {k : Nat} {sp : Sp} {p pos : Pos} {e : Expr} {es : List Expr} {t : TA} (c : XCalC X x C ps k sp) (hr : Room (k + 1) X.A) (hx : Passes CX0 X E0) (ha : PA X (e :: es) t) (hg : Gl X x := by rfl)
    (hdb : (x == ("__debug__" : Str)) = false := by decide) (he : starEach (e :: es) X.env = (false, eval e X.env) :: starEach es X.env := by rfl) (hpl : (backTo pos (starEach es X.env)).any (·.1) = false := by rfl) :
    PE X (.Call (.Name x p) (e :: es) [] pos) (tMake C sp [] E0 t) := by
  obtain ⟨f, fd, a, b, d, F⟩ := c.ex
  exact pe_make b F hr hg a d .nil hx ha hdb he hpl
end
/-! ### lists of lists of data -/
inductive Wy where
  | t | m | k
noncomputable def wyD (p : Pic) (n : Nm) : Wy → PyData
  | .t => trialD p n
  | .m => marksD p n
  | .k => trackD p n
noncomputable abbrev tri (p : Pic) (n : Nm) : List PyData := [trialD p n, marksD p n, trackD p n]
/-- papers at a: those of n -/
def TriAt (p : Pic) (H : Hp) (a : Addr) (n : Nm) : Prop := ∃ xs, H a = some (.lst xs) ∧ DtAll H xs (tri p n)
theorem TriAt.go {p : Pic} {H H' : Hp} {a : Addr} {n : Nm} (h : TriAt p H a n) (e : Ex H H') : TriAt p H' a n := by
  obtain ⟨xs, h1, h2⟩ := h
  exact ⟨xs, e _ _ h1, h2.go e.tx⟩
theorem tri_mono {p : Pic} {H H' : Hp} (t : TX H H') : ∀ {as : List Addr} {ns : List Nm}, Paired (TriAt p H) as ns → (∀ q ∈ as, ∀ o, H q = some o → H' q = some o) → Paired (TriAt p H') as ns
  | _, _, .nil, _ => .nil
  | _, _, .cons ⟨xs, h1, h2⟩ r, g => .cons ⟨xs, g _ List.mem_cons_self _ h1, h2.go t⟩ (tri_mono t r fun q hq => g q (List.mem_cons_of_mem _ hq))
theorem tri_dp {p : Pic} {K : PySem.W.Frag} {H : Hp} : ∀ {as : List Addr} {ns : List Nm}, Paired (TriAt p H) as ns → DpAll K H (as.map V.ref) (ns.map fun n => .list (tri p n))
  | _, _, .nil => .nil
  | _, _, .cons ⟨xs, h1, h2⟩ t => .cons (.lst (SqL.of h1) (DtAll.dp _ h2)) (tri_dp t)
theorem tri_plain {p : Pic} (ok : PicOk p) : ∀ {ns : List Nm}, (∀ n ∈ ns, n ∈ keys (fieldsF p)) → PyData.plainAll (ns.map fun n => .list (tri p n)) = true
  | [], _ => by simp [PyData.plainAll]
  | n :: r, h => by
    have pl : ∀ pp : Paper, (dPaper pp).plain = true := fun pp => by
      have a1 : ∀ l : List Nm, PyData.plainAll (l.map dN) = true := fun l => by
        induction l with
        | nil => simp [PyData.plainAll]
        | cons a r ih => simp [PyData.plainAll, dN, PyData.plain, ih]
      have a2 : ∀ l : List (List Nm), PyData.plainAll (l.map dNs) = true := fun l => by
        induction l with
        | nil => simp [PyData.plainAll]
        | cons a r ih => simp [PyData.plainAll, dNs, PyData.plain, ih, a1]
      have a3 : ∀ l : Steps, PyData.plainAll (l.map dStep) = true := fun l => by
        induction l with
        | nil => simp [PyData.plainAll]
        | cons a r ih => simp [PyData.plainAll, dStep, dN, PyData.plain, ih]
      have a4 : ∀ s : Start, (dStart s).plain = true := fun s => by
        cases s <;> simp [dStart, dN, PyData.plain, PyData.plainAll]
      cases pp with
      | wanted n st ss => simp [dPaper, PyData.plain, PyData.plainAll, dN, dSteps, a3, a4]
      | cut ns ls => simp [dPaper, PyData.plain, PyData.plainAll, dNs, a1, a2]
      | pointed n ns st ss => simp [dPaper, PyData.plain, PyData.plainAll, dN, dNs, dSteps, a1, a3, a4]
    obtain ⟨p1, e1, _⟩ := trial_pap ok (h n List.mem_cons_self)
    obtain ⟨p2, e2, _⟩ := marks_pap ok (h n List.mem_cons_self)
    obtain ⟨p3, e3, _⟩ := track_pap ok (h n List.mem_cons_self)
    have ih := tri_plain ok (ns := r) fun m hm => h m (List.mem_cons_of_mem _ hm)
    simp [PyData.plainAll, PyData.plain, tri, e1, e2, e3, pl, ih]
theorem tri_depth {p : Pic} (ok : PicOk p) : ∀ {ns : List Nm}, (∀ n ∈ ns, n ∈ keys (fieldsF p)) → PyData.depthAll (ns.map fun n => .list (tri p n)) ≤ 20
  | [], _ => by simp [PyData.depthAll]
  | n :: r, h => by
    obtain ⟨p1, e1, _⟩ := trial_pap ok (h n List.mem_cons_self)
    obtain ⟨p2, e2, _⟩ := marks_pap ok (h n List.mem_cons_self)
    obtain ⟨p3, e3, _⟩ := track_pap ok (h n List.mem_cons_self)
    have ih := tri_depth ok (ns := r) fun m hm => h m (List.mem_cons_of_mem _ hm)
    simp only [tri] at ih
    have d1 := dPaper_depth p1
    have d2 := dPaper_depth p2
    have d3 := dPaper_depth p3
    simp only [List.map_cons, PyData.depthAll, PyData.depth, tri, e1, e2, e3]
    omega
theorem sql_keep {K : PySem.W.Frag} {H H' : Hp} {p a : Addr} {xs : List V} {o : HO} (h : SqL K H a xs) (hp : H p = none) (c : Ch p (upd H p o) H') : SqL K H' a xs := by
  have go : ∀ u, H a = some u → H' a = some u := fun u hu => c a u (ne_of_none hu hp) (by rw [upd_ne (ne_of_none hu hp)]; exact hu)
  rcases h with (h | ⟨o', h⟩) | h
  · exact .inl (.inl (go _ h))
  · exact .inl (.inr ⟨o', go _ h⟩)
  · exact .inr h
theorem ite_skip {c : Bool} {A B : Prop} (h : c = true → B → A) (b : B) : if c = true then A else B := by
  cases c with
  | true => exact h rfl b
  | false => exact b
/-- a way's object, none of it at k -/
structure RwK (C : Addr) (H : Hp) (a : Addr) (pic : Pic) (k : Addr) : Prop where
  ex : ∃ dx p d kvs, H a = some (.ins C dx [("looked", p), ("fields", .ref d)]) ∧ Dt H p (dPic pic) ∧ H d = some (.dT kvs) ∧ KVs H dFlds kvs (fieldsF pic) ∧ a ≠ k ∧ d ≠ k
theorem RwK.o {C : Addr} {H : Hp} {a : Addr} {pic : Pic} {k : Addr} (h : RwK C H a pic k) : RwO C H a pic := by
  obtain ⟨dx, p, d, kvs, h1, h2, h3, h4, _⟩ := h.ex
  exact ⟨dx, p, d, kvs, h1, h2, h3, h4⟩
theorem RwK.ch {C : Addr} {H H' : Hp} {a : Addr} {pic : Pic} {k : Addr} (h : RwK C H a pic k) (c : Ch k H H') (t : TX H H') : RwK C H' a pic k := by
  obtain ⟨dx, p, d, kvs, h1, h2, h3, h4, n1, n2⟩ := h.ex
  exact ⟨dx, p, d, kvs, c _ _ n1 h1, h2.go t, c _ _ n2 h3, h4.go t, n1, n2⟩
/-- what C(picture) leaves -/
theorem made {C : Addr} {H1 H' : Hp} {x dx d k : Addr} {r : V} {pic : Pic} {kvs : List (List Key × V)} {o : HO} (hk : H1 k = some o) (hx : H1 x = none) (hdx : H1 dx = none) (hr : Dt H1 r (dPic pic)) (c : Ch x (upd (upd H1 dx (.own x)) x (.ins C dx [])) H')
    (h1 : H' x = some (.ins C dx [("looked", r), ("fields", .ref d)])) (h2 : (upd (upd H1 dx (.own x)) x (.ins C dx [])) d = none) (h3 : H' d = some (.dT kvs)) (h4 : KVs H' dFlds kvs (fieldsF pic)) : Ex H1 H' ∧ RwK C H' x pic k := by
  have e : Ex H1 H' := fun a u ha => c a u (ne_of_none ha hx) (by rw [upd_ne (ne_of_none ha hx), upd_ne (ne_of_none ha hdx)]; exact ha)
  refine ⟨e, dx, r, d, kvs, h1, hr.go e.tx, h3, h4, fun z => (by rw [z, hk] at hx; cases hx), fun z => ?_⟩
  subst z
  rw [upd_ne (ne_of_none hk hx), upd_ne (ne_of_none hk hdx), hk] at h2
  cases h2
section
variable {P : Program} {w : World} {K : PySem.W.Frag} {mg : Str → Option Value} {base : Heap} {f : Addr} {fd : FuncData} {CT CM CK : Addr}
def tSeek3 (CT CM CK : Addr) (i j : Nat) : TE := fun σ H Q => (tMeth CT "seek" (spTrial CT) [] E0 (tVar i) (tCons (tVar j) tNil) σ H Q ∨ tMeth CM "seek" (spMarks CM) [] E0 (tVar i) (tCons (tVar j) tNil) σ H Q) ∨ tMeth CK "seek" (spTrack CK) [] E0 (tVar i) (tCons (tVar j) tNil) σ H Q
theorem pe_seek3 {X : Cx} {i j : Nat} {e : Expr} (h : PE X e (fun σ H Q => (tMeth CT "seek" (spTrial CT) [] E0 (tVar i) (tCons (tVar j) tNil) σ H Q ∨ tMeth CM "seek" (spMarks CM) [] E0 (tVar i) (tCons (tVar j) tNil) σ H Q) ∨ tMeth CK "seek" (spTrack CK) [] E0 (tVar i) (tCons (tVar j) tNil) σ H Q)) : PE X e (tSeek3 CT CM CK i j) := h
structure CLaw (P : Program) (w : World) (K : PySem.W.Frag) (mg : Str → Option Value) (base : Heap) (CT CM CK : Addr) : Prop where
  _law_picture : Cal P w K mg base "_law_picture" ["_law_state"] 4 (spPicture K)
  _law_fields : Cal P w K mg base "_law_fields" ["_law_picture_here"] 1 spLFields
  _law_roots : Cal P w K mg base "_law_roots" ["_law_picture_here"] 1 spRoots
  _law_reach : Cal P w K mg base "_law_reach" ["_law_fields_here", "_law_names_here"] 1 spReach
  _law_idle : Cal P w K mg base "_law_idle" ["_law_fields_here", "_law_roots_here", "_law_names_here"] 1 spIdle
  _law_let_by : Cal P w K mg base "_law_let_by" ["_law_picture_here", "_law_paper", "_law_kinds"] 4 spLet
  mkT : CalC P w K mg base "Trial" CT ["self", "picture"] 1 (spInit CT)
  mkM : CalC P w K mg base "Marks" CM ["self", "picture"] 1 (spInit CM)
  mkK : CalC P w K mg base "Track" CK ["self", "picture"] 1 (spInit CK)
  clsT : Cls K CT
  clsM : Cls K CM
  clsK : Cls K CK
  seekT : CalM P w K mg base CT "seek" ["self", "name"] 3 (spTrial CT)
  seekM : CalM P w K mg base CM "seek" ["self", "name"] 5 (spMarks CM)
  seekK : CalM P w K mg base CK "seek" ["self", "name"] 3 (spTrack CK)
def spLaw (K : PySem.W.Frag) : Sp := fun vs H Q _ => ∃ (a : Addr) (ns : List Int), vs = [.ref a] ∧ SqL K H a (ns.map V.int) ∧ ∀ H', Q (.bl true) H'
theorem sc_sLaw : FnScope ["_law_script", "_law_picture_here", "_law_fields_here", "_law_roots_here", "_law_near", "_law_ways", "_law_told", "_law_name", "_law_papers", "_law_paper", "_law_way"] ["_law_script"] (defScope sLaw) := ⟨rfl, rfl, rfl, by decide +kernel, rfl, by decide +kernel, by decide +kernel⟩
theorem ok_law (F : FnP K "law" "law" sLaw f fd) (B : Bl mg) (C : CLaw P w K mg base CT CM CK) : FnOk P w K mg base CX0 6 f fd ["_law_script"] (spLaw K) := by
  have L := C
  refine F.ok sc_sLaw (fun vs H Q E h => ?_) (fun cdv A outer s H vs Q E hr h => ?_)
  · obtain ⟨a, ns, rfl, _⟩ := h
    rfl
  · obtain ⟨a, ns, rfl, hsc, k⟩ := h
    have hu := hu_of hr
    have hu64 := hr.units
    have hu65 : (A.deeper (envOfC "law" (defScope sLaw) s.heap.objs.size f cdv)).units + 65 < cLine := by
      have := hr.un
      omega
    refine ⟨_, PSs.nox (pss_cons (ps_set (i := 1) sc_sLaw.nd rfl (Or.inl rfl) (pe_cal C._law_picture (hr.mono (by decide)) pass0 (pa_cons (pe_lst (pa_cons (pv 0) (pa_cons pe_int (pa_cons pe_int (pa_cons pe_int pa_nil))))) pa_nil)))
          (pss_cons (ps_set (i := 2) sc_sLaw.nd rfl (Or.inl rfl) (pe_cal C._law_fields (hr.mono (by decide)) pass0 (pa_cons (pv 1) pa_nil)))
          (pss_cons (ps_set (i := 3) sc_sLaw.nd rfl (Or.inl rfl) (pe_cal C._law_roots (hr.mono (by decide)) pass0 (pa_cons (pv 1) pa_nil)))
          (pss_cons (ps_set (i := 4) sc_sLaw.nd rfl (Or.inl rfl) (pe_cal C._law_reach (hr.mono (by decide)) pass0 (pa_cons (pv 2) (pa_cons (pv 3) pa_nil))))
          (pss_cons (ps_set (i := 5) sc_sLaw.nd rfl (Or.inr rfl) (pe_lst (pa_cons (pe_mk C.mkT (hr.mono (by decide)) pass0 (pa_cons (pv 1) pa_nil)) (pa_cons (pe_mk C.mkM (hr.mono (by decide)) pass0 (pa_cons (pv 1) pa_nil)) (pa_cons (pe_mk C.mkK (hr.mono (by decide)) pass0 (pa_cons (pv 1) pa_nil)) pa_nil)))))
          (pss_cons (ps_set (i := 6) sc_sLaw.nd rfl (Or.inl rfl) (pe_lst pa_nil))
          (pss_cons (ps_lock (ps_for PassesOwn.never rfl (pi_keys (pv 2)) (pg_name (i := 7) sc_sLaw.nd rfl (Or.inr rfl))
          (pss_cons (ps_setLc (i := 8) (own := [("_law_way", 10)]) (g := gName 10) (tt := tYes) rfl sc_sLaw.nd rfl rfl (sw_true rfl rfl rfl (by decide +kernel)) (pi_list (pv 5)) (blkOk_by (N := ["_law_script", "_law_picture_here", "_law_fields_here", "_law_roots_here", "_law_near", "_law_ways", "_law_told", "_law_name", "_law_papers", "_law_paper", "_law_way"]) (sc := defScope sLaw) (by decide +kernel)) (fun _ _ _ _ _ => (pg_name (i := 10) sc_sLaw.nd rfl (Or.inl rfl))) (fun _ _ _ _ _ => pts_nil) (fun _ _ _ _ _ => (pe_seek3 (i := 10) (j := 7) (PE.or (PE.or (pe_calM L.seekT (hr.mono (by decide)) pass0 L.clsT (pv 10) (pa_cons (pv 7) pa_nil)) (pe_calM L.seekM (hr.mono (by decide)) pass0 L.clsM (pv 10) (pa_cons (pv 7) pa_nil))) (pe_calM L.seekK (hr.mono (by decide)) pass0 L.clsK (pv 10) (pa_cons (pv 7) pa_nil))))))
          (pss_cons (ps_expr (pe_bm PySem.F.plainAttrs_list PySem.F.slot_list_append PySem.F.type_list_append mt_append (pv 6) (pa_cons (pv 8) pa_nil)))
          (pss_cons (ps_if (pt_not (pt_val (pe_cal C._law_let_by (hr.mono (by decide)) pass0 (pa_cons (pv 1) (pa_cons (pe_ix ix_list (pv 8) pe_int (fun _ _ => rfl)) (pa_cons (pe_lst (pa_cons pe_str (pa_cons pe_str pa_nil))) pa_nil))))))
          (pss_one (ps_ret pe_bl))
          pss_nil)
          (pss_cons (ps_if (PW.pt (pw_and (pt_cmpR (op_eqU hu64) (pe_ix ix_tup (pe_ix ix_list (pv 8) pe_int (fun _ _ => rfl)) pe_int (fun _ _ => rfl)) pe_str (nomark _)) (pw_and1 (pt_cmpR (op_inU hu65) (pv 7) (pv 4) rfl))))
          (pss_one (ps_ret pe_bl))
          pss_nil)
          (pss_cons (ps_for PassesOwn.never rfl (pi_list (pe_slice sl_list (pv 8) (po_some pe_int) po_none)) (pg_name (i := 9) sc_sLaw.nd rfl (Or.inl rfl))
          (pss_cons (ps_if (pt_not (pt_val (pe_cal C._law_let_by (hr.mono (by decide)) pass0 (pa_cons (pv 1) (pa_cons (pv 9) (pa_cons (pe_lst (pa_cons pe_str (pa_cons pe_str pa_nil))) pa_nil))))))
          (pss_one (ps_ret pe_bl))
          pss_nil)
          (pss_one (ps_if (pt_cmpR (op_neU hu64) (pe_cmpR (op_eqU hu64) (pe_ix ix_tup (pv 9) pe_int (fun _ _ => rfl)) pe_str (nomark _)) (pe_cmpR (op_inU hu65) (pv 7) (pv 4) rfl) (nomark _))
          (pss_one (ps_ret pe_bl))
          pss_nil))))
          (pss_one (ps_for PassesOwn.never rfl (pi_list (pv 8)) (pg_name (i := 9) sc_sLaw.nd rfl (Or.inl rfl))
          (pss_cons (ps_if (PW.pt (pw_and (pt_cmpR (op_eqU hu64) (pe_ix ix_tup (pv 9) pe_int (fun _ _ => rfl)) pe_str (nomark _)) (pw_and1 (pt_cmpR (op_notInU hu65) (pv 7) (pe_ix ix_tup (pv 9) pe_int (fun _ _ => rfl)) rfl))))
          (pss_one (ps_ret pe_bl))
          pss_nil)
          (pss_cons (ps_if (PW.pt (pw_and (pt_cmpR (op_eqU hu64) (pe_ix ix_tup (pv 9) pe_int (fun _ _ => rfl)) pe_str (nomark _)) (pw_and1 (pt_not (pt_val (pe_cal C._law_idle (hr.mono (by decide)) pass0 (pa_cons (pv 2) (pa_cons (pv 3) (pa_cons (pe_ix ix_tup (pv 9) pe_int (fun _ _ => rfl)) pa_nil)))))))))
          (pss_one (ps_ret pe_bl))
          pss_nil)
          (pss_one (ps_if (PW.pt (pw_and (pt_cmpR (op_neU hu64) (pe_ix ix_tup (pv 9) pe_int (fun _ _ => rfl)) pe_str (nomark _)) (pw_and1 (pt_cmpR (op_neU hu64) (pe_ix ix_tup (pv 9) pe_int (fun _ _ => rfl)) (pv 7) (nomark _)))))
          (pss_one (ps_ret pe_bl))
          pss_nil)))))))))))))
          (pss_one (ps_ret (pe_cmpR (op_eqP hu64) (pv 6) (pe_lock (pe_lc (own := [("_law_name", 7)]) (g := gName 7) (tt := tYes) rfl sc_sLaw.nd (pi_keys (pv 2)) (blkOk_by (N := ["_law_script", "_law_picture_here", "_law_fields_here", "_law_roots_here", "_law_near", "_law_ways", "_law_told", "_law_name", "_law_papers", "_law_paper", "_law_way"]) (sc := defScope sLaw) (by decide +kernel)) (fun _ _ _ _ _ => (pg_name (i := 7) sc_sLaw.nd rfl (Or.inr rfl))) (fun _ _ _ _ _ => pts_nil) (fun _ _ _ _ _ => (pe_lc (wi := iList K (tVar 5)) (own := [("_law_way", 10)]) (g := gName 10) (tt := tYes) rfl sc_sLaw.nd (pi_list (pv 5)) (blkOk_by (N := ["_law_script", "_law_picture_here", "_law_fields_here", "_law_roots_here", "_law_near", "_law_ways", "_law_told", "_law_name", "_law_papers", "_law_paper", "_law_way"]) (sc := { kind := .function, names := [(".0", .local), ("_law_name", .cell), ("_law_ways", .cell)], isGenerator := false, isCoroutine := false }) (by decide +kernel)) (fun _ _ _ _ _ => (pg_name (i := 10) sc_sLaw.nd rfl (Or.inl rfl))) (fun _ _ _ _ _ => pts_nil) (fun _ _ _ _ _ => (pe_seek3 (i := 10) (j := 7) (PE.or (PE.or (pe_calM L.seekT (hr.mono (by decide)) pass0 L.clsT (pv 10) (pa_cons (pv 7) pa_nil)) (pe_calM L.seekM (hr.mono (by decide)) pass0 L.clsM (pv 10) (pa_cons (pv 7) pa_nil))) (pe_calM L.seekK (hr.mono (by decide)) pass0 L.clsK (pv 10) (pa_cons (pv 7) pa_nil))))))))) (nomark _))))))))))), ?_⟩
    refine ⟨_, rfl, le16 (by show 4 ≤ 100000; decide), fun p hp => ?_⟩
    have s1 : Sta K (upd H p (.lst [.ref a, .int 0, .int 0, .int 11])) (upd H p (.lst [.ref a, .int 0, .int 0, .int 11])) p :=
      ⟨Ch.refl, a, ns, 0, 0, 11, upd_same, fun H' c => sql_keep hsc hp c, by decide⟩
    refine ⟨_, p, rfl, s1, fun r H2 pic _ dr ok => ?_⟩
    refine ⟨_, rfl, r, pic, rfl, dr, ok.b, fun fd H3 kvs hfd e3 hd3 hk3 => ?_⟩
    have dr3 := dr.go e3.tx
    refine ⟨_, rfl, r, pic, rfl, dr3, ok.b, fun rl H4 rxs hrl e4 hrl4 hrx4 => ?_⟩
    have hd4 := e4 _ _ hd3
    have hk4 := hk3.mono fun v fs q => q.go e4
    have lheld := held_len pic ok.b
    refine ⟨_, rfl, _, rfl, fd, rl, fieldsF pic, heldF pic, rfl, ⟨kvs, .inl hd4, hk4⟩, ok.g, ⟨rxs, hrl4, hrx4⟩, ok.held, by omega, fun nl H5 nxs near hnl e5 hnl5 hnx5 hnear => ?_⟩
    have hd5 := e5 _ _ hd4
    have hk5 := hk4.mono fun v fs q => q.go e5
    have hrl5 := e5 _ _ hrl4
    have hrx5 := hrx4.go e5.tx
    have dr5 := dr3.go (e4.trans e5).tx
    -- the three ways
    refine ⟨_, rfl, fun x1 dx1 hx1 hdx1 hne1 => ⟨x1, dx1, r, pic, rfl, upd_same, ?_, ok.b, fun H6 d1 kv1 c6 h61 h62 h63 h64 => ⟨rfl, ?_⟩⟩⟩
    · exact dr5.go ((Ex.new hdx1).trans (Ex.new (by rw [upd_ne hne1.symm]; exact hx1))).tx
    obtain ⟨e6, w1⟩ := made (k := fd) hd5 hx1 hdx1 dr5 c6 h61 h62 h63 h64
    have dr6 := dr5.go e6.tx
    refine ⟨_, rfl, fun x2 dx2 hx2 hdx2 hne2 => ⟨x2, dx2, r, pic, rfl, upd_same, ?_, ok.b, fun H7 d2 kv2 c7 h71 h72 h73 h74 => ⟨rfl, ?_⟩⟩⟩
    · exact dr6.go ((Ex.new hdx2).trans (Ex.new (by rw [upd_ne hne2.symm]; exact hx2))).tx
    obtain ⟨e7, w2⟩ := made (k := fd) (e6 _ _ hd5) hx2 hdx2 dr6 c7 h71 h72 h73 h74
    have dr7 := dr6.go e7.tx
    refine ⟨_, rfl, fun x3 dx3 hx3 hdx3 hne3 => ⟨x3, dx3, r, pic, rfl, upd_same, ?_, ok.b, fun H8 d3 kv3 c8 h81 h82 h83 h84 => ⟨rfl, ?_⟩⟩⟩
    · exact dr7.go ((Ex.new hdx3).trans (Ex.new (by rw [upd_ne hne3.symm]; exact hx3))).tx
    obtain ⟨e8, w3⟩ := made (k := fd) (e7 _ _ (e6 _ _ hd5)) hx3 hdx3 dr7 c8 h81 h82 h83 h84
    have dr8 := dr7.go e8.tx
    have e58 := (e6.trans e7).trans e8
    have w1 := w1.ch (e7.trans e8).toCh (e7.trans e8).tx
    have w2 := w2.ch e8.toCh e8.tx
    have hd8 := e58 _ _ hd5
    have hk8 := hk5.mono fun v fs q => q.go e58
    have hrl8 := e58 _ _ hrl5
    have hrx8 := hrx5.go e58.tx
    have hnl8 := e58 _ _ hnl5
    have hnx8 := hnx5.go e58.tx
    clear c6 h61 h62 h63 h64 c7 h71 h72 h73 h74 c8 h81 h82 h83 h84 hx1 hdx1 hx2 hdx2 hx3 hdx3 dr5 dr6 dr7 hd5 hk5 hrl5 hrx5 hnl5 hnx5
    refine ⟨le16 (by show 3 ≤ 100000; decide), fun wl hwl => ?_⟩
    have e9 : Ex H8 (upd H8 wl (.lst [.ref x1, .ref x2, .ref x3])) := Ex.new hwl
    have hwl9 : (upd H8 wl (.lst [.ref x1, .ref x2, .ref x3])) wl = some (.lst [.ref x1, .ref x2, .ref x3]) := upd_same
    have dr9 := dr8.go e9.tx
    have w1 := w1.ch e9.toCh e9.tx
    have w2 := w2.ch e9.toCh e9.tx
    have w3 := w3.ch e9.toCh e9.tx
    have hd9 := e9 _ _ hd8
    have hk9 := hk8.mono fun v fs q => q.go e9
    have hrl9 := e9 _ _ hrl8
    have hrx9 := hrx8.go e9.tx
    have hnl9 := e9 _ _ hnl8
    have hnx9 := hnx8.go e9.tx
    clear dr8 hd8 hk8 hrl8 hrx8 hnl8 hnx8
    generalize upd H8 wl (.lst [.ref x1, .ref x2, .ref x3]) = H9 at e9 hwl9 dr9 w1 w2 w3 hd9 hk9 hrl9 hrx9 hnl9 hnx9
    refine ⟨le16 (by show 0 ≤ 100000; decide), fun tp htp => ?_⟩
    have e10 : Ex H9 (upd H9 tp (.lst [])) := Ex.new htp
    have htp10 : (upd H9 tp (.lst [])) tp = some (.lst []) := upd_same
    have hd10 := e10 _ _ hd9
    have nft : fd ≠ tp := ne_of_none hd9 htp
    generalize upd H9 tp (.lst []) = H10 at e10 htp10 hd10
    refine ⟨fd, .dT kvs, hd10, trivial, fun od => ?_⟩
    have c11 : Ch fd H9 (upd H10 fd (.frz od (.dT kvs))) := e10.toCh.trans Ch.up
    have hd11 : (upd H10 fd (.frz od (.dT kvs))) fd = some (.frz od (.dT kvs)) := upd_same
    have htp11 : (upd H10 fd (.frz od (.dT kvs))) tp = some (.lst []) := by rw [upd_ne nft.symm]; exact htp10
    generalize upd H10 fd (.frz od (.dT kvs)) = H11 at c11 hd11 htp11
    have tx9 : ∀ {H'}, Ch fd H9 H' → TX H9 H' := fun c => c.tx fun xs z => by rw [hd9] at z; cases z
    have hks := hk9.ks
    have lk : kvs.length = (keys (fieldsF pic)).length := by rw [hk9.len, List.length_map]
    have nwl : wl ≠ fd := fun z => by rw [z, hd9] at hwl9; cases hwl9
    have nrl : rl ≠ fd := fun z => by rw [z, hd9] at hrl9; cases hrl9
    have nnl : nl ≠ fd := fun z => by rw [z, hd9] at hnl9; cases hnl9
    have k40 := ok.g.k40
    -- what asking the three ways gives
    have ask : ∀ (n : Nm) (b : Addr) (HH : Hp), n ∈ keys (fieldsF pic) → Ch fd H9 HH → HH b = some (.tup ((nkey n).map kV)) → ∀ (u : Wy) (HE : Hp), Ex HH HE → ∀ R : V → Hp → Prop, (∀ y H', Ex HE H' → Dt H' y (wyD pic n u) → R y H') →
        (u = .t → spTrial CT [.ref x1, .ref b] HE R E0) ∧ (u = .m → spMarks CM [.ref x2, .ref b] HE R E0) ∧ (u = .k → spTrack CK [.ref x3, .ref b] HE R E0) := fun n b HH hn c hb u HE e R r => by
      have dn := Dt.of_key n b (e _ _ hb)
      refine ⟨fun z => ?_, fun z => ?_, fun z => ?_⟩
      · subst z
        exact ⟨x1, .ref b, pic, n, rfl, (w1.ch c (tx9 c)).o.go e, ok, dn, hn, r⟩
      · subst z
        exact ⟨x2, .ref b, pic, n, rfl, (w2.ch c (tx9 c)).o.go e, ok, dn, hn, r⟩
      · subst z
        exact ⟨x3, .ref b, pic, n, rfl, (w3.ch c (tx9 c)).o.go e, ok, dn, hn, r⟩
    refine ⟨_, rfl, fd, od, rfl, .inr ⟨kvs, hd11, ?_⟩⟩
    refine for_fold (as := keys (fieldsF pic)) (lk ▸ walk_keysT (d := fd) (o := od) (kvs := kvs)) (fun b n => b ++ [n]) ([] : List Nm) (fun b σ H' => ∃ v7 v8 v9 as, σ = [some (.ref a), some r, some (.ref fd), some (.ref rl), some (.ref nl), some (.ref wl), some (.ref tp), v7, v8, v9, none] ∧ Ch fd H9 H' ∧ H' fd = some (.frz od (.dT kvs)) ∧ H' tp = some (.lst (as.map V.ref)) ∧ Paired (TriAt pic H') as b ∧ ∀ q ∈ as, q ≠ tp)
      ⟨none, none, none, [], rfl, c11, hd11, htp11, .nil, fun q h => nomatch h⟩ (fun _ σ H' ⟨_, _, _, _, _, _, z, _⟩ => z) ?_ ?_
    · rintro i n x b σ _ H12 hi hb ⟨v7, v8, v9, as, rfl, c12, hd12, htp12, htri, hnt⟩ ⟨rfl, kk, fv, qa, hkv, rfl, hqa⟩
      rw [snoc_fold] at hb
      have hkk : (kvs.map (·.1))[i]? = some kk := by rw [List.getElem?_map, hkv]; rfl
      rw [show kvs.map (·.1) = (keys (fieldsF pic)).map nkey from hks, List.getElem?_map, hi] at hkk
      cases hkk
      have hn := List.mem_of_getElem? hi
      have lb : as.length ≤ 40 := by
        have := Paired.length htri
        rw [this, hb, List.length_take]
        omega
      have hwl12 := c12 _ _ nwl hwl9
      refine ⟨_, rfl, wl, rfl, ⟨_, SqL.of hwl12⟩, fun D hD => ?_⟩
      refine lc_data (as := [Wy.t, Wy.m, Wy.k]) (H1 := H12) (walk_list (K := K) (a := wl) (xs := [.ref x1, .ref x2, .ref x3])) (fun u x H => x = (match u with | .t => V.ref x1 | .m => V.ref x2 | .k => V.ref x3)) (fun _ => true) (wyD pic n) (by decide) hD ?_ (fun H' e => SqL.of (e _ _ hwl12)) ?_ ?_ ?_ ?_
      · exact fun _ => rfl
      · rintro j u x H2 H3 hj e ⟨rfl, hx3⟩
        refine ⟨rfl, ?_⟩
        match j, u, hj, hx3 with
        | 0, _, hj, hx3 => cases hj; cases hx3; rfl
        | 1, _, hj, hx3 => cases hj; cases hx3; rfl
        | 2, _, hj, hx3 => cases hj; cases hx3; rfl
        | j + 3, _, hj, _ => simp at hj
      · intro u x HE _ e im R r
        exact r
      · intro u x HE _ _ e im R rr
        have q := ask n qa H12 hn c12 hqa u HE e R rr
        have c := c12.trans e.toCh
        cases u with
        | t =>
          obtain ⟨dx, pp, d, kv, h1, _⟩ := (w1.ch c (tx9 c)).ex
          subst im
          exact .inl (.inl ⟨_, rfl, x1, dx, _, rfl, h1, rfl, _, rfl, q.1 rfl⟩)
        | m =>
          obtain ⟨dx, pp, d, kv, h1, _⟩ := (w2.ch c (tx9 c)).ex
          subst im
          exact .inl (.inr ⟨_, rfl, x2, dx, _, rfl, h1, rfl, _, rfl, q.2.1 rfl⟩)
        | k =>
          obtain ⟨dx, pp, d, kv, h1, _⟩ := (w3.ch c (tx9 c)).ex
          subst im
          exact .inr ⟨_, rfl, x3, dx, _, rfl, h1, rfl, _, rfl, q.2.2 rfl⟩
      intro ys H13 e13 hD13 hy13
      have hy13 : DtAll H13 ys (tri pic n) := hy13
      have c13 : Ch fd H9 H13 := c12.trans e13.toCh
      have htp13 := e13 _ _ htp12
      have hd13 := e13 _ _ hd12
      have nDt : D ≠ tp := fun z => by rw [z, htp12] at hD; cases hD
      refine ⟨_, rfl, .inl ⟨rfl, _, SqL.of htp13⟩, _, rfl, tp, _, _, rfl, rfl, htp13, lt16 (by rw [List.length_map]; omega), ?_⟩
      have t14 : TX H13 (upd H13 tp (.lst (as.map V.ref ++ [.ref D]))) := TX.updL htp13
      have c14 : Ch fd H9 (upd H13 tp (.lst (as.map V.ref ++ [.ref D]))) := fun x o nx hx => by rw [upd_ne (ne_of_none hx htp)]; exact c13 x o nx hx
      have hd14 : (upd H13 tp (.lst (as.map V.ref ++ [.ref D]))) fd = some (.frz od (.dT kvs)) := by rw [upd_ne nft]; exact hd13
      have htp14 : (upd H13 tp (.lst (as.map V.ref ++ [.ref D]))) tp = some (.lst ((as ++ [D]).map V.ref)) := by rw [List.map_append]; exact upd_same
      have hD14 : (upd H13 tp (.lst (as.map V.ref ++ [.ref D]))) D = some (.lst ys) := by rw [upd_ne nDt]; exact hD13
      have hy14 := hy13.go t14
      have htri14 : Paired (TriAt pic (upd H13 tp (.lst (as.map V.ref ++ [.ref D])))) (as ++ [D]) (b ++ [n]) := by
        refine Paired.snoc (tri_mono (e13.tx.trans t14) htri fun q hq o ho => ?_) ⟨ys, hD14, hy14⟩
        rw [upd_ne (hnt q hq)]
        exact e13 _ _ ho
      have hqa14 := t14 _ _ (e13 _ _ hqa)
      have hnt14 : ∀ q ∈ as ++ [D], q ≠ tp := fun q hq => by
        rcases List.mem_append.mp hq with hq | hq
        · exact hnt q hq
        · rw [List.mem_singleton.mp hq]; exact nDt
      generalize upd H13 tp (.lst (as.map V.ref ++ [.ref D])) = H14 at t14 c14 hd14 htp14 hD14 hy14 htri14 hqa14
      obtain ⟨p1, q1, ok1⟩ := trial_pap ok hn
      obtain ⟨p2, q2, ok2⟩ := marks_pap ok hn
      obtain ⟨p3, q3, ok3⟩ := track_pap ok hn
      have hy14 : DtAll H14 ys [dPaper p1, dPaper p2, dPaper p3] := by rw [← q1, ← q2, ← q3]; exact hy14
      obtain ⟨y1, ys, rfl, d1, hy14⟩ := hy14.consE
      obtain ⟨y2, ys, rfl, d2, hy14⟩ := hy14.consE
      obtain ⟨y3, ys, rfl, d3, hy14⟩ := hy14.consE
      obtain rfl := hy14.nilE
      have dr14 := dr9.go (tx9 c14)
      have hnl14 := c14 _ _ nnl hnl9
      have hnx14 := hnx9.go (tx9 c14)
      have dn14 := Dt.of_key n qa hqa14
      -- the first paper
      refine ⟨_, rfl, _, rfl, D, _, 0, y1, rfl, rfl, SqL.of hD14, at0, le16 (by show 2 ≤ 100000; decide), fun q hq => ?_⟩
      have e15 : Ex H14 (upd H14 q (.lst [.str "cut", .str "pointed"])) := Ex.new hq
      refine ⟨r, y1, q, pic, p1, ["cut", "pointed"], rfl, dr14.go e15.tx, ok, d1.go e15.tx, ok1.ok, upd_same, ok1.wd, fun H15 e => ⟨_, rfl, ?_⟩⟩
      have e15 := e15.trans e
      refine iteF ?_
      have hnl15 := e15 _ _ hnl14
      have hnx15 := hnx14.go e15.tx
      obtain ⟨a1, r1, rfl, ha1⟩ := dPaper_t p1 (d1.go e15.tx)
      refine ⟨_, rfl, D, _, 0, .ref a1, rfl, rfl, SqL.of (e15 _ _ hD14), at0, a1, _, 0, _, rfl, rfl, SqT.of ha1, at0, eqStr ⟨_, rfl, ite_skip (fun hc hb => ?_) ?_⟩⟩
      · refine ⟨_, rfl, _, rfl, inNms (dn14.go e15.tx) (.inr ⟨nl, nxs, rfl, hnl15, hnx15⟩) ⟨_, rfl, ?_⟩⟩
        have : n ∉ near := fun z => by
          have rr := (hnear n).mp z
          cases p1 with
          | wanted m st ss => exact absurd (show (("wanted" : Str) == ("cut" : Str)) = true from hc) (by decide)
          | cut cs ls => exact cut_free ok ok1.ok.2 rr ok1.nm
          | pointed m cs st ss => exact absurd (show (("pointed" : Str) == ("cut" : Str)) = true from hc) (by decide)
        rw [decide_eq_false this]
        exact iteF hb
      -- the other two
      have ec : cutV [V.ref a1, y2, y3] (some 1) none = [y2, y3] := rfl
      refine ⟨_, rfl, 1, rfl, D, _, rfl, SqL.of (e15 _ _ hD14), fun p5 hp5 => ?_⟩
      rw [ec]
      have e16 : Ex H14 (upd H15 p5 (.lst [y2, y3])) := e15.trans (Ex.new hp5)
      have hp16 : (upd H15 p5 (.lst [y2, y3])) p5 = some (.lst [y2, y3]) := upd_same
      generalize upd H15 p5 (.lst [y2, y3]) = H16 at e16 hp16
      have want : ∀ {i : Nat} {x : V} {HH : Hp}, Ex H14 HH → [y2, y3][i]? = some x → ∃ pp, Dt HH x (dPaper pp) ∧ WantOk pic n pp := fun {i x HH} e h => by
        match i, h with
        | 0, h => cases h; exact ⟨p2, d2.go e.tx, ok2⟩
        | 1, h => cases h; exact ⟨p3, d3.go e.tx, ok3⟩
        | i + 2, h => simp at h
      have anyp : ∀ {i : Nat} {x : V} {HH : Hp}, Ex H14 HH → [V.ref a1, y2, y3][i]? = some x → ∃ pp, Dt HH x (dPaper pp) ∧ PapOk pic pp ∧ named n pp := fun {i x HH} e h => by
        match i, h with
        | 0, h => cases h; exact ⟨p1, d1.go e.tx, ok1.ok, ok1.nm⟩
        | 1, h => cases h; exact ⟨p2, d2.go e.tx, ok2.ok, ok2.nm⟩
        | 2, h => cases h; exact ⟨p3, d3.go e.tx, ok3.ok, ok3.nm⟩
        | i + 3, h => simp at h
      refine ⟨p5, rfl, ⟨_, SqL.of hp16⟩, ?_⟩
      refine for_it (walk_list (K := K) (a := p5) (xs := [y2, y3])) (fun i σ H' => ∃ v9, σ = [some (.ref a), some r, some (.ref fd), some (.ref rl), some (.ref nl), some (.ref wl), some (.ref tp), some (.ref qa), some (.ref D), v9, none] ∧ Ex H16 H') ⟨_, rfl, Ex.refl _⟩ (fun i σ H' _ ⟨_, _, e⟩ => SqL.of (e _ _ hp16)) ?_ ?_
      · rintro j x σ _ H17 hj ⟨v9, rfl, e17⟩ ⟨rfl, hxj⟩
        have e17' := e16.trans e17
        obtain ⟨pp, dp, wo⟩ := want e17' hxj
        refine ⟨_, rfl, _, rfl, le16 (by show 2 ≤ 100000; decide), fun q hq => ?_⟩
        have e18 : Ex H17 (upd H17 q (.lst [.str "wanted", .str "cut"])) := Ex.new hq
        refine ⟨r, x, q, pic, pp, ["wanted", "cut"], rfl, dr14.go (e17'.trans e18).tx, ok, dp.go e18.tx, wo.ok, upd_same, wo.wd, fun H18 e => ⟨_, rfl, ?_⟩⟩
        have e18 := e18.trans e
        have e18' := e17'.trans e18
        refine iteF ?_
        obtain ⟨ax, rx, rfl, hax⟩ := dPaper_t pp (dp.go e18.tx)
        refine ⟨_, rfl, ax, _, 0, _, rfl, rfl, SqT.of hax, at0, eqStr ?_⟩
        refine ⟨_, rfl, _, rfl, inNms (dn14.go e18'.tx) (.inr ⟨nl, nxs, rfl, e18' _ _ hnl14, hnx14.go e18'.tx⟩) ?_⟩
        refine .mk (.bl _) (.bl _) (by simp [PyData.depth]) ⟨_, rfl, ?_⟩
        have eq : (word pp == ("wanted" : Str)) = decide (n ∈ near) := by
          have h1 : n ∈ near ↔ ∃ m st ss, pp = .wanted m st ss := (hnear n).trans wo.iff.symm
          cases pp with
          | wanted m st ss =>
            rw [decide_eq_true (h1.mpr ⟨_, _, _, rfl⟩)]
            show (("wanted" : Str) == ("wanted" : Str)) = true
            decide
          | cut cs ls =>
            rw [decide_eq_false fun z => by obtain ⟨_, _, _, y⟩ := h1.mp z; cases y]
            show (("cut" : Str) == ("wanted" : Str)) = false
            decide
          | pointed m cs st ss =>
            rw [decide_eq_false fun z => by obtain ⟨_, _, _, y⟩ := h1.mp z; cases y]
            show (("pointed" : Str) == ("wanted" : Str)) = false
            decide
        have ev : PyData.eqv (.bool (word pp == ("wanted" : Str))) (.bool (decide (n ∈ near))) = true := by
          rw [eq]
          simp [PyData.eqv]
        show (if (!PyData.eqv (.bool (word pp == ("wanted" : Str))) (.bool (decide (n ∈ near)))) = true then _ else _)
        rw [ev]
        exact iteF ⟨_, rfl, e17.trans e18⟩
      rintro σ H17 ⟨v9, rfl, e17⟩
      have e17' := e16.trans e17
      have hD17 := e17' _ _ hD14
      refine ⟨_, rfl, D, rfl, ⟨_, SqL.of hD17⟩, ?_⟩
      refine for_it (walk_list (K := K) (a := D) (xs := [V.ref a1, y2, y3])) (fun i σ H' => ∃ v9, σ = [some (.ref a), some r, some (.ref fd), some (.ref rl), some (.ref nl), some (.ref wl), some (.ref tp), some (.ref qa), some (.ref D), v9, none] ∧ Ex H14 H') ⟨_, rfl, e17'⟩ (fun i σ H' _ ⟨_, _, e⟩ => SqL.of (e _ _ hD14)) ?_ ?_
      · rintro j x σ _ H18 hj ⟨v9, rfl, e18⟩ ⟨rfl, hxj⟩
        obtain ⟨pp, dp, pk, nm⟩ := anyp e18 hxj
        have dn18 := dn14.go e18.tx
        cases pp with
        | wanted m st ss =>
          obtain ⟨ax, z1, z2, z3, z4, rfl, hax, g1, g2, g3, g4⟩ := Dt.t4 dp
          cases g1.strE
          refine ⟨_, rfl, ax, _, 0, _, rfl, rfl, SqT.of hax, rfl, eqStr ⟨_, rfl, ?_⟩⟩
          refine iteF ⟨_, rfl, ax, _, 0, _, rfl, rfl, SqT.of hax, rfl, eqStr ⟨_, rfl, ?_⟩⟩
          refine iteF ⟨_, rfl, ax, _, 0, _, rfl, rfl, SqT.of hax, rfl, neStr ⟨_, rfl, ?_⟩⟩
          refine iteT ⟨_, rfl, ax, _, 1, z2, rfl, rfl, SqT.of hax, rfl, _, rfl, neNm g2 dn18 ⟨_, rfl, ?_⟩⟩
          rw [decide_eq_true (show m = n from nm)]
          exact iteF ⟨_, rfl, e18⟩
        | pointed m cs st ss =>
          obtain ⟨ax, z1, z2, z3, z4, z5, rfl, hax, g1, g2, g3, g4, g5⟩ := Dt.t5 dp
          cases g1.strE
          refine ⟨_, rfl, ax, _, 0, _, rfl, rfl, SqT.of hax, rfl, eqStr ⟨_, rfl, ?_⟩⟩
          refine iteF ⟨_, rfl, ax, _, 0, _, rfl, rfl, SqT.of hax, rfl, eqStr ⟨_, rfl, ?_⟩⟩
          refine iteF ⟨_, rfl, ax, _, 0, _, rfl, rfl, SqT.of hax, rfl, neStr ⟨_, rfl, ?_⟩⟩
          refine iteT ⟨_, rfl, ax, _, 1, z2, rfl, rfl, SqT.of hax, rfl, _, rfl, neNm g2 dn18 ⟨_, rfl, ?_⟩⟩
          rw [decide_eq_true (show m = n from nm)]
          exact iteF ⟨_, rfl, e18⟩
        | cut cs ls =>
          obtain ⟨ax, z1, z2, z3, rfl, hax, g1, g2, g3⟩ := Dt.t3 dp
          cases g1.strE
          obtain ⟨_, co⟩ := pk
          have lcs : cs.length ≤ 1000 := Nat.le_trans (ok.g.sub40 co.sub.nd co.sub.sub) (by decide)
          refine ⟨_, rfl, ax, _, 0, _, rfl, rfl, SqT.of hax, rfl, eqStr ⟨_, rfl, ?_⟩⟩
          refine iteT ⟨_, rfl, _, rfl, ax, _, 1, z2, rfl, rfl, SqT.of hax, rfl, inNms dn18 (.inl g2) ⟨_, rfl, ?_⟩⟩
          rw [decide_eq_true (show n ∈ cs from nm)]
          refine iteF ⟨_, rfl, ax, _, 0, _, rfl, rfl, SqT.of hax, rfl, eqStr ⟨_, rfl, ?_⟩⟩
          have c18 : Ch fd H9 H18 := c14.trans e18.toCh
          have hk18 : PVs (cR H18) kvs (fieldsF pic) := hk9.mono fun v fs ⟨l, xs, y1, y2, y3⟩ => ⟨l, xs, y1, c18 _ _ (fun z => by rw [z, hd9] at y2; cases y2) y2, y3.go (tx9 c18)⟩
          refine iteT ⟨_, rfl, _, rfl, _, rfl, ax, _, 1, z2, rfl, rfl, SqT.of hax, rfl, fd, rl, z2, od, kvs, fieldsF pic, rxs, heldF pic, cs, rfl, e18 _ _ hd14, hk18, ok.g, c18 _ _ nrl hrl9, hrx9.go (tx9 c18), g2, lcs, co.sub.sub, fun m hm hh => co.held m hh hm, co.out, fun H19 e19 => ⟨_, rfl, ?_⟩⟩
          refine iteF ⟨_, rfl, ax, _, 0, _, rfl, rfl, SqT.of (e19 _ _ hax), rfl, neStr ⟨_, rfl, ?_⟩⟩
          exact iteF ⟨_, rfl, e18.trans e19⟩
      · rintro σ H18 ⟨v9, rfl, e18⟩
        exact ⟨_, _, _, as ++ [D], rfl, c14.trans e18.toCh, e18 _ _ hd14, e18 _ _ htp14, Paired.mapP htri14 fun _ _ z => z.go e18, hnt14⟩
    · rintro σ H12 ⟨v7, v8, v9, as, rfl, c12, hd12, htp12, htri, hnt⟩
      rw [snoc_fold] at htri
      refine ⟨hd12, ?_⟩
      have c13 : Ex H9 (upd H12 fd (.dT kvs)) := c12.back hd9
      have t13 : TX H12 (upd H12 fd (.dT kvs)) := TX.up fun xs z => by rw [hd12] at z; cases z
      have htp13 : (upd H12 fd (.dT kvs)) tp = some (.lst (as.map V.ref)) := by rw [upd_ne nft.symm]; exact htp12
      have htri13 : Paired (TriAt pic (upd H12 fd (.dT kvs))) as (keys (fieldsF pic)) := by
        have main : ∀ {as : List Addr} {ns : List Nm}, Paired (TriAt pic H12) as ns → Paired (TriAt pic (upd H12 fd (.dT kvs))) as ns := fun {as ns} h => Paired.mapP h fun q n ⟨xs, y1, y2⟩ => ⟨xs, by rw [upd_ne fun z => by rw [z, hd12] at y1; cases y1]; exact y1, y2.go t13⟩
        exact main htri
      generalize upd H12 fd (.dT kvs) = H13 at c13 t13 htp13 htri13
      have hd13 := c13 _ _ hd9
      refine ⟨_, rfl, fd, .dT kvs, hd13, trivial, fun od2 => ?_⟩
      have c14 : Ch fd H13 (upd H13 fd (.frz od2 (.dT kvs))) := Ch.up
      have hd14 : (upd H13 fd (.frz od2 (.dT kvs))) fd = some (.frz od2 (.dT kvs)) := upd_same
      generalize upd H13 fd (.frz od2 (.dT kvs)) = H14 at c14 hd14
      have c914 : Ch fd H9 H14 := c13.toCh.trans c14
      refine ⟨_, rfl, fd, od2, rfl, .inr ⟨kvs, hd14, fun D hD => ?_⟩⟩
      refine lc_fresh (as := keys (fieldsF pic)) (H1 := H14) (lk ▸ walk_keysT (d := fd) (o := od2) (kvs := kvs)) (fun n x H => ∃ b, x = .ref b ∧ H b = some (.tup ((nkey n).map kV))) (fun n σ H => ∃ b, σ = [some (.ref a), some r, some (.ref fd), some (.ref rl), some (.ref nl), some (.ref wl), some (.ref tp), some (.ref b), v8, v9, none] ∧ H b = some (.tup ((nkey n).map kV)))
        (fun n o H => ∃ xs, o = .lst xs ∧ DtAll H xs (tri pic n)) (by omega) hD (fun n o H H' ⟨xs, y1, y2⟩ t => ⟨xs, y1, y2.go t⟩) (fun H' e => e _ _ hd14) ?_ ?_ ?_ ?_
      · rintro j n x H2 H3 hj e ⟨rfl, kk, fv, qa, hkv, rfl, hqa⟩
        have hkk : (kvs.map (·.1))[j]? = some kk := by rw [List.getElem?_map, hkv]; rfl
        rw [show kvs.map (·.1) = (keys (fieldsF pic)).map nkey from hks, List.getElem?_map, hj] at hkk
        cases hkk
        exact ⟨Ex.refl _, qa, rfl, hqa⟩
      · rintro n x H2 _ e ⟨b, rfl, hb⟩ R rr
        exact rr _ rfl ⟨b, rfl, hb⟩
      · rintro n σ2 H2 hn e ⟨b, rfl, hb⟩ R rr
        have c2 : Ch fd H9 H2 := c914.trans e.toCh
        have hwl2 := c2 _ _ nwl hwl9
        refine ⟨_, rfl, wl, rfl, ⟨_, SqL.of hwl2⟩, fun D2 hD2 => ?_⟩
        refine lc_data (as := [Wy.t, Wy.m, Wy.k]) (H1 := H2) (walk_list (K := K) (a := wl) (xs := [.ref x1, .ref x2, .ref x3])) (fun u x H => x = (match u with | .t => V.ref x1 | .m => V.ref x2 | .k => V.ref x3)) (fun _ => true) (wyD pic n) (by decide) hD2 ?_ (fun H' e => SqL.of (e _ _ hwl2)) ?_ ?_ ?_ ?_
        · exact fun _ => rfl
        · rintro j u x H2 H3 hj e ⟨rfl, hx3⟩
          refine ⟨rfl, ?_⟩
          match j, u, hj, hx3 with
          | 0, _, hj, hx3 => cases hj; cases hx3; rfl
          | 1, _, hj, hx3 => cases hj; cases hx3; rfl
          | 2, _, hj, hx3 => cases hj; cases hx3; rfl
          | j + 3, _, hj, _ => simp at hj
        · intro u x HE _ e im R r
          exact r
        · intro u x HE _ _ e im R rr
          have q := ask n b H2 hn c2 hb u HE e R rr
          have c := c2.trans e.toCh
          cases u with
          | t =>
            obtain ⟨dx, pp, d, kv, h1, _⟩ := (w1.ch c (tx9 c)).ex
            subst im
            exact .inl (.inl ⟨_, rfl, x1, dx, _, rfl, h1, rfl, _, rfl, q.1 rfl⟩)
          | m =>
            obtain ⟨dx, pp, d, kv, h1, _⟩ := (w2.ch c (tx9 c)).ex
            subst im
            exact .inl (.inr ⟨_, rfl, x2, dx, _, rfl, h1, rfl, _, rfl, q.2.1 rfl⟩)
          | k =>
            obtain ⟨dx, pp, d, kv, h1, _⟩ := (w3.ch c (tx9 c)).ex
            subst im
            exact .inr ⟨_, rfl, x3, dx, _, rfl, h1, rfl, _, rfl, q.2.2 rfl⟩
        intro ys H3 e3 hD3 hy3
        exact rr D2 _ H3 hD2 e3 hD3 ⟨ys, rfl, hy3⟩
      intro ad H15 e15 hD15 hfr hinj hls
      have hd15 := e15 _ _ hd14
      refine ⟨hd15, ?_⟩
      have t16 : TX H15 (upd H15 fd (.dT kvs)) := TX.up fun xs z => by rw [hd15] at z; cases z
      have keep : ∀ {q xs}, H15 q = some (.lst xs) → (upd H15 fd (.dT kvs)) q = some (.lst xs) := fun {q xs} h => by
        rw [upd_ne fun z => by rw [z, hd15] at h; cases h]
        exact h
      have c1315 : Ch fd H13 H15 := c14.trans e15.toCh
      have tx13 : TX H13 H15 := c1315.tx fun xs z => by rw [hd13] at z; cases z
      have hd1 : DpAll K (upd H15 fd (.dT kvs)) (as.map V.ref) ((keys (fieldsF pic)).map fun n => .list (tri pic n)) :=
        tri_dp (Paired.mapP htri13 fun q n ⟨xs, y1, y2⟩ => ⟨xs, keep (c1315 _ _ (fun z => by rw [z, hd13] at y1; cases y1) y1), (y2.go tx13).go t16⟩)
      have hlen : (keys (fieldsF pic)).length = (List.range (keys (fieldsF pic)).length).length := by rw [List.length_range]
      have hd2 : DpAll K (upd H15 fd (.dT kvs)) (refs (keys (fieldsF pic)).length ad) ((keys (fieldsF pic)).map fun n => .list (tri pic n)) := by
        have main : ∀ (ks : List Nm) (m : Nat), (∀ i n, ks[i]? = some n → ∃ o, H15 (ad (m + i)) = some o ∧ ∃ xs, o = .lst xs ∧ DtAll H15 xs (tri pic n)) → DpAll K (upd H15 fd (.dT kvs)) ((List.range' m ks.length).map fun i => V.ref (ad i)) (ks.map fun n => .list (tri pic n)) := fun ks => by
          induction ks with
          | nil => exact fun m h => .nil
          | cons n0 r0 ih =>
            intro m h
            obtain ⟨o, y1, xs, rfl, y2⟩ := h 0 n0 rfl
            rw [List.length_cons, List.range'_succ]
            refine .cons (.lst (SqL.of (keep y1)) (DtAll.dp _ (y2.go t16))) (ih (m + 1) fun i n hi => ?_)
            have := h (i + 1) n (by simpa using hi)
            rw [show m + 1 + i = m + (i + 1) by omega]
            exact this
        have q := main (keys (fieldsF pic)) 0 fun i n hi => by
          rw [Nat.zero_add]
          exact hls i n hi
        rw [← List.range_eq_range'] at q
        exact q
      have pl : (PyData.list ((keys (fieldsF pic)).map fun n => .list (tri pic n))).plain = true := by
        have := tri_plain ok (ns := keys (fieldsF pic)) fun _ h => h
        simpa [PyData.plain] using this
      have dep := tri_depth ok (ns := keys (fieldsF pic)) fun _ h => h
      refine rEqP.mk (.lst (SqL.of (keep (c1315 _ _ nft.symm htp13))) hd1) (.lst (SqL.of (keep hD15)) hd2) pl pl ?_ ?_
      · have : (PyData.list ((keys (fieldsF pic)).map fun n => .list (tri pic n))).depth ≤ 30 := by
          simp only [PyData.depth]
          omega
        omega
      rw [PySem.SeqAt.eqv_refl_plain _ pl]
      exact k _
end
end HF
set_option Elab.async false
set_option linter.all false
set_option maxRecDepth 100000
set_option maxHeartbeats 4000000
namespace HF
open PySem PySem.Spec PyProof.Rows L2
section
variable {P : Program} {w : World} {K : PySem.W.Frag} {h : Heap} {mg : Str → Option Value} {base : Heap}
theorem binds1 {x qual : Str} {params : Arguments} {body : List Stmt} {scope : Scope} {kws : List (Str × V)} {f : Addr} {fd : FuncData} {ps : List Str} (F : FunD K x qual params body scope [] kws f fd)
    (h : ∀ (kV doc pm : Value) (an : Option Addr) (cdv ct : Value) (us : List Value), us.length = ps.length → bindArgs (PySem.W.fnOf x qual params body scope .none kV doc pm an cdv ct) ⟨us, []⟩ = pure (ps.zip us)) : Binds K fd ps [] := F.bindsN h
theorem facts {f : Addr} (X : K.In h) (G : h.Ns mainGlobals mg) (hfa : mg ("law" : Str) = some (.ref f)) (c : He.SaysD fa fn K) :
    ∃ fd : FuncData, (∀ (s : Shared) (v : Value), BindsTo s fd ⟨[v], []⟩ [("_law_script", v)]) ∧ ∀ base : Heap, K.In base → base.Ns mainGlobals mg → FnOk P w K mg base CX0 30 f fd ["_law_script"] (spLaw K) := by
  have B : Bl mg := ⟨He.free_ok X G (c.fact 36 (f := .free "len") rfl), He.free_ok X G (c.fact 37 (f := .free "range") rfl), He.free_ok X G (c.fact 38 (f := .free "list") rfl), He.free_ok X G (c.fact 39 (f := .free "tuple") rfl), He.free_ok X G (c.fact 40 (f := .free "sorted") rfl), He.free_ok X G (c.fact 41 (f := .free "set") rfl), He.free_ok X G (c.fact 42 (f := .free "dict") rfl), He.free_ok X G (c.fact 43 (f := .free "enumerate") rfl), He.free_ok X G (c.fact 44 (f := .free "isinstance") rfl), He.free_ok X G (c.fact 45 (f := .free "int") rfl), He.free_ok X G (c.fact 46 (f := .free "min") rfl)⟩
  have rT : RwC K (He.ga K "Trial") := ⟨He.cls_ok (c.fact 47 (f := .cls "Trial") rfl), He.noat_ok (c.fact 49 (f := .noat "Trial" "looked") rfl), He.noat_ok (c.fact 50 (f := .noat "Trial" "fields") rfl)⟩
  have rM : RwC K (He.ga K "Marks") := ⟨He.cls_ok (c.fact 58 (f := .cls "Marks") rfl), He.noat_ok (c.fact 60 (f := .noat "Marks" "looked") rfl), He.noat_ok (c.fact 61 (f := .noat "Marks" "fields") rfl)⟩
  have rK : RwC K (He.ga K "Track") := ⟨He.cls_ok (c.fact 67 (f := .cls "Track") rfl), He.noat_ok (c.fact 69 (f := .noat "Track" "looked") rfl), He.noat_ok (c.fact 70 (f := .noat "Track" "fields") rfl)⟩
  obtain ⟨fd, F⟩ := c.def_ 32 (d := d_law) rfl
  have e := hfa.symm.trans (He.glo_ok X G (c.fact 32 (f := .glo "law") rfl))
  cases e
  have b := FunD.bindsA (ps := ["_law_script"]) F (fun _ _ _ _ _ _ us hl => match us, hl with | [_], _ => rfl)
  refine ⟨fd, fun s v => b s [v] rfl, fun base _ _ => ?_⟩
  have c_fields_by_name : Cal P w K mg base "fields_by_name" ["picture"] 1 spFields := by
    obtain ⟨fd, F⟩ := c.def_ 0 (d := d_fields_by_name) rfl
    exact ⟨_, fd, He.glo_ok X G (c.fact 0 (f := .glo "fields_by_name") rfl), F.kp, binds1 F (fun _ _ _ _ _ _ us hl => match us, hl with | [_], _ => rfl), ok_fields_by_name F⟩
  have c_held_names : Cal P w K mg base "held_names" ["picture"] 1 spHeld := by
    obtain ⟨fd, F⟩ := c.def_ 1 (d := d_held_names) rfl
    exact ⟨_, fd, He.glo_ok X G (c.fact 1 (f := .glo "held_names") rfl), F.kp, binds1 F (fun _ _ _ _ _ _ us hl => match us, hl with | [_], _ => rfl), ok_held_names F⟩
  have c_spread : Cal P w K mg base "spread" ["fields", "names"] 1 spSpread := by
    obtain ⟨fd, F⟩ := c.def_ 2 (d := d_spread) rfl
    exact ⟨_, fd, He.glo_ok X G (c.fact 2 (f := .glo "spread") rfl), F.kp, binds1 F (fun _ _ _ _ _ _ us hl => match us, hl with | [_, _], _ => rfl), ok_spread F B⟩
  have c_reached : Cal P w K mg base "reached" ["picture"] 2 spReached := by
    obtain ⟨fd, F⟩ := c.def_ 3 (d := d_reached) rfl
    exact ⟨_, fd, He.glo_ok X G (c.fact 3 (f := .glo "reached") rfl), F.kp, binds1 F (fun _ _ _ _ _ _ us hl => match us, hl with | [_], _ => rfl), ok_reached F B ⟨c_fields_by_name, c_held_names, c_spread⟩⟩
  have c_all_starts : Cal P w K mg base "all_starts" ["picture"] 1 spStarts := by
    obtain ⟨fd, F⟩ := c.def_ 4 (d := d_all_starts) rfl
    exact ⟨_, fd, He.glo_ok X G (c.fact 4 (f := .glo "all_starts") rfl), F.kp, binds1 F (fun _ _ _ _ _ _ us hl => match us, hl with | [_], _ => rfl), ok_all_starts F B⟩
  have c_better : Cal P w K mg base "better" ["one", "other"] 1 spBetter := by
    obtain ⟨fd, F⟩ := c.def_ 5 (d := d_better) rfl
    exact ⟨_, fd, He.glo_ok X G (c.fact 5 (f := .glo "better") rfl), F.kp, binds1 F (fun _ _ _ _ _ _ us hl => match us, hl with | [_, _], _ => rfl), ok_better F⟩
  have c_first_ways : Cal P w K mg base "first_ways" ["starts"] 1 spFirst := by
    obtain ⟨fd, F⟩ := c.def_ 6 (d := d_first_ways) rfl
    exact ⟨_, fd, He.glo_ok X G (c.fact 6 (f := .glo "first_ways") rfl), F.kp, binds1 F (fun _ _ _ _ _ _ us hl => match us, hl with | [_], _ => rfl), ok_first_ways F B⟩
  have c_next_ways : Cal P w K mg base "next_ways" ["fields", "ways", "met"] 2 spNext := by
    obtain ⟨fd, F⟩ := c.def_ 7 (d := d_next_ways) rfl
    exact ⟨_, fd, He.glo_ok X G (c.fact 7 (f := .glo "next_ways") rfl), F.kp, binds1 F (fun _ _ _ _ _ _ us hl => match us, hl with | [_, _, _], _ => rfl), ok_next_ways F B ⟨c_better⟩⟩
  have c_all_ways : Cal P w K mg base "all_ways" ["picture"] 3 spAllWays := by
    obtain ⟨fd, F⟩ := c.def_ 8 (d := d_all_ways) rfl
    exact ⟨_, fd, He.glo_ok X G (c.fact 8 (f := .glo "all_ways") rfl), F.kp, binds1 F (fun _ _ _ _ _ _ us hl => match us, hl with | [_], _ => rfl), ok_all_ways F B ⟨c_fields_by_name, c_all_starts, c_first_ways, c_next_ways⟩⟩
  have c_look_for : Cal P w K mg base "look_for" ["picture", "name"] 2 spLookFor := by
    obtain ⟨fd, F⟩ := c.def_ 9 (d := d_look_for) rfl
    exact ⟨_, fd, He.glo_ok X G (c.fact 9 (f := .glo "look_for") rfl), F.kp, binds1 F (fun _ _ _ _ _ _ us hl => match us, hl with | [_, _], _ => rfl), ok_look_for F ⟨c_fields_by_name⟩⟩
  have c_wanted_for : Cal P w K mg base "wanted_for" ["picture", "name"] 4 spWantedFor := by
    obtain ⟨fd, F⟩ := c.def_ 10 (d := d_wanted_for) rfl
    exact ⟨_, fd, He.glo_ok X G (c.fact 10 (f := .glo "wanted_for") rfl), F.kp, binds1 F (fun _ _ _ _ _ _ us hl => match us, hl with | [_, _], _ => rfl), ok_wanted_for F ⟨c_look_for, c_all_ways⟩⟩
  have c_letters_named : Cal P w K mg base "letters_named" ["picture"] 1 spLettersNamed := by
    obtain ⟨fd, F⟩ := c.def_ 11 (d := d_letters_named) rfl
    exact ⟨_, fd, He.glo_ok X G (c.fact 11 (f := .glo "letters_named") rfl), F.kp, binds1 F (fun _ _ _ _ _ _ us hl => match us, hl with | [_], _ => rfl), ok_letters_named F B⟩
  have c_cut_for : Cal P w K mg base "cut_for" ["picture"] 3 spCutFor := by
    obtain ⟨fd, F⟩ := c.def_ 12 (d := d_cut_for) rfl
    exact ⟨_, fd, He.glo_ok X G (c.fact 12 (f := .glo "cut_for") rfl), F.kp, binds1 F (fun _ _ _ _ _ _ us hl => match us, hl with | [_], _ => rfl), ok_cut_for F B ⟨c_reached, c_fields_by_name, c_letters_named⟩⟩
  have c_thing_at : Cal P w K mg base "thing_at" ["things", "place"] 1 spThingAt := by
    obtain ⟨fd, F⟩ := c.def_ 13 (d := d_thing_at) rfl
    exact ⟨_, fd, He.glo_ok X G (c.fact 13 (f := .glo "thing_at") rfl), F.kp, binds1 F (fun _ _ _ _ _ _ us hl => match us, hl with | [_, _], _ => rfl), ok_thing_at F B⟩
  have c_started : Cal P w K mg base "started" ["picture", "start"] 2 spStarted := by
    obtain ⟨fd, F⟩ := c.def_ 14 (d := d_started) rfl
    exact ⟨_, fd, He.glo_ok X G (c.fact 14 (f := .glo "started") rfl), F.kp, binds1 F (fun _ _ _ _ _ _ us hl => match us, hl with | [_, _], _ => rfl), ok_started F ⟨c_thing_at⟩⟩
  have c_gone_by : Cal P w K mg base "gone_by" ["fields", "here", "steps"] 2 spGoneBy := by
    obtain ⟨fd, F⟩ := c.def_ 15 (d := d_gone_by) rfl
    exact ⟨_, fd, He.glo_ok X G (c.fact 15 (f := .glo "gone_by") rfl), F.kp, binds1 F (fun _ _ _ _ _ _ us hl => match us, hl with | [_, _, _], _ => rfl), ok_gone_by F ⟨c_thing_at⟩⟩
  have c_wanted_holds : Cal P w K mg base "wanted_holds" ["picture", "paper"] 3 spWanted := by
    obtain ⟨fd, F⟩ := c.def_ 16 (d := d_wanted_holds) rfl
    exact ⟨_, fd, He.glo_ok X G (c.fact 16 (f := .glo "wanted_holds") rfl), F.kp, binds1 F (fun _ _ _ _ _ _ us hl => match us, hl with | [_, _], _ => rfl), ok_wanted_holds F ⟨c_fields_by_name, c_started, c_gone_by⟩⟩
  have c_are_things : Cal P w K mg base "are_things" ["fields", "names"] 1 spAre := by
    obtain ⟨fd, F⟩ := c.def_ 17 (d := d_are_things) rfl
    exact ⟨_, fd, He.glo_ok X G (c.fact 17 (f := .glo "are_things") rfl), F.kp, binds1 F (fun _ _ _ _ _ _ us hl => match us, hl with | [_, _], _ => rfl), ok_are_things F B⟩
  have c_cut_holds : Cal P w K mg base "cut_holds" ["picture", "paper"] 2 spCutHolds := by
    obtain ⟨fd, F⟩ := c.def_ 18 (d := d_cut_holds) rfl
    exact ⟨_, fd, He.glo_ok X G (c.fact 18 (f := .glo "cut_holds") rfl), F.kp, binds1 F (fun _ _ _ _ _ _ us hl => match us, hl with | [_, _], _ => rfl), ok_cut_holds F B ⟨c_fields_by_name, c_are_things, c_held_names⟩⟩
  have c_is_closed : Cal P w K mg base "is_closed" ["fields", "names"] 1 spClosed := by
    obtain ⟨fd, F⟩ := c.def_ 19 (d := d_is_closed) rfl
    exact ⟨_, fd, He.glo_ok X G (c.fact 19 (f := .glo "is_closed") rfl), F.kp, binds1 F (fun _ _ _ _ _ _ us hl => match us, hl with | [_, _], _ => rfl), ok_is_closed F⟩
  have c_pointed_holds : Cal P w K mg base "pointed_holds" ["picture", "paper"] 3 spPtd := by
    obtain ⟨fd, F⟩ := c.def_ 20 (d := d_pointed_holds) rfl
    exact ⟨_, fd, He.glo_ok X G (c.fact 20 (f := .glo "pointed_holds") rfl), F.kp, binds1 F (fun _ _ _ _ _ _ us hl => match us, hl with | [_, _], _ => rfl), ok_pointed_holds F ⟨c_fields_by_name, c_are_things, c_is_closed, c_thing_at, c_started, c_gone_by⟩⟩
  have c__law_next : Cal P w K mg base "_law_next" ["_law_state", "_law_below"] 1 (spDraw K) := by
    obtain ⟨fd, F⟩ := c.def_ 21 (d := d_law_next) rfl
    exact ⟨_, fd, He.glo_ok X G (c.fact 21 (f := .glo "_law_next") rfl), F.kp, binds1 F (fun _ _ _ _ _ _ us hl => match us, hl with | [_, _], _ => rfl), ok_draw F B⟩
  have c__law_names : Cal P w K mg base "_law_names" ["_law_state", "_law_many"] 2 (spNames K) := by
    obtain ⟨fd, F⟩ := c.def_ 22 (d := d_law_names) rfl
    exact ⟨_, fd, He.glo_ok X G (c.fact 22 (f := .glo "_law_names") rfl), F.kp, binds1 F (fun _ _ _ _ _ _ us hl => match us, hl with | [_, _], _ => rfl), ok_names F B ⟨c__law_next⟩⟩
  have c__law_some : Cal P w K mg base "_law_some" ["_law_state", "_law_names_here", "_law_odds"] 2 (spSome K) := by
    obtain ⟨fd, F⟩ := c.def_ 23 (d := d_law_some) rfl
    exact ⟨_, fd, He.glo_ok X G (c.fact 23 (f := .glo "_law_some") rfl), F.kp, binds1 F (fun _ _ _ _ _ _ us hl => match us, hl with | [_, _, _], _ => rfl), ok_some F B ⟨c__law_next⟩⟩
  have c__law_thing : Cal P w K mg base "_law_thing" ["_law_state", "_law_name", "_law_names_here"] 3 (spThing K) := by
    obtain ⟨fd, F⟩ := c.def_ 24 (d := d_law_thing) rfl
    exact ⟨_, fd, He.glo_ok X G (c.fact 24 (f := .glo "_law_thing") rfl), F.kp, binds1 F (fun _ _ _ _ _ _ us hl => match us, hl with | [_, _, _], _ => rfl), ok_thing F B ⟨c__law_next, c__law_some⟩⟩
  have c__law_letters : Cal P w K mg base "_law_letters" ["_law_state", "_law_many", "_law_names_here"] 2 (spLetters K) := by
    obtain ⟨fd, F⟩ := c.def_ 25 (d := d_law_letters) rfl
    exact ⟨_, fd, He.glo_ok X G (c.fact 25 (f := .glo "_law_letters") rfl), F.kp, binds1 F (fun _ _ _ _ _ _ us hl => match us, hl with | [_, _, _], _ => rfl), ok_letters F B ⟨c__law_next⟩⟩
  have c__law_picture : Cal P w K mg base "_law_picture" ["_law_state"] 4 (spPicture K) := by
    obtain ⟨fd, F⟩ := c.def_ 26 (d := d_law_picture) rfl
    exact ⟨_, fd, He.glo_ok X G (c.fact 26 (f := .glo "_law_picture") rfl), F.kp, binds1 F (fun _ _ _ _ _ _ us hl => match us, hl with | [_], _ => rfl), ok_picture F B ⟨c__law_next, c__law_names, c__law_some, c__law_thing, c__law_letters⟩⟩
  have c__law_fields : Cal P w K mg base "_law_fields" ["_law_picture_here"] 1 spLFields := by
    obtain ⟨fd, F⟩ := c.def_ 27 (d := d_law_fields) rfl
    exact ⟨_, fd, He.glo_ok X G (c.fact 27 (f := .glo "_law_fields") rfl), F.kp, binds1 F (fun _ _ _ _ _ _ us hl => match us, hl with | [_], _ => rfl), ok_lfields F⟩
  have c__law_roots : Cal P w K mg base "_law_roots" ["_law_picture_here"] 1 spRoots := by
    obtain ⟨fd, F⟩ := c.def_ 28 (d := d_law_roots) rfl
    exact ⟨_, fd, He.glo_ok X G (c.fact 28 (f := .glo "_law_roots") rfl), F.kp, binds1 F (fun _ _ _ _ _ _ us hl => match us, hl with | [_], _ => rfl), ok_roots F B⟩
  have c__law_reach : Cal P w K mg base "_law_reach" ["_law_fields_here", "_law_names_here"] 1 spReach := by
    obtain ⟨fd, F⟩ := c.def_ 29 (d := d_law_reach) rfl
    exact ⟨_, fd, He.glo_ok X G (c.fact 29 (f := .glo "_law_reach") rfl), F.kp, binds1 F (fun _ _ _ _ _ _ us hl => match us, hl with | [_, _], _ => rfl), ok_reach F B⟩
  have c__law_idle : Cal P w K mg base "_law_idle" ["_law_fields_here", "_law_roots_here", "_law_names_here"] 1 spIdle := by
    obtain ⟨fd, F⟩ := c.def_ 30 (d := d_law_idle) rfl
    exact ⟨_, fd, He.glo_ok X G (c.fact 30 (f := .glo "_law_idle") rfl), F.kp, binds1 F (fun _ _ _ _ _ _ us hl => match us, hl with | [_, _, _], _ => rfl), ok_idle F B⟩
  have c__law_let_by : Cal P w K mg base "_law_let_by" ["_law_picture_here", "_law_paper", "_law_kinds"] 4 spLet := by
    obtain ⟨fd, F⟩ := c.def_ 31 (d := d_law_let_by) rfl
    exact ⟨_, fd, He.glo_ok X G (c.fact 31 (f := .glo "_law_let_by") rfl), F.kp, binds1 F (fun _ _ _ _ _ _ us hl => match us, hl with | [_, _, _], _ => rfl), ok_let F B ⟨c_wanted_holds, c_cut_holds, c_pointed_holds⟩⟩
  have m_Trial_look_for : CalM P w K mg base (He.ga K "Trial") "look_for" ["self", "name"] 1 (spLookM (He.ga K "Trial")) := by
    obtain ⟨fd, F⟩ := c.def_ 34 (d := dTrial_look_for) rfl
    exact ⟨_, fd, He.meth_ok (c.fact 51 (f := .meth "Trial" "look_for") rfl), binds1 F (fun _ _ _ _ _ _ us hl => match us, hl with | [_, _], _ => rfl), ok_look_m F rT⟩
  have m_Trial_starts : CalM P w K mg base (He.ga K "Trial") "starts" ["self"] 1 (spStartsM (He.ga K "Trial")) := by
    obtain ⟨fd, F⟩ := c.def_ 35 (d := dTrial_starts) rfl
    exact ⟨_, fd, He.meth_ok (c.fact 52 (f := .meth "Trial" "starts") rfl), binds1 F (fun _ _ _ _ _ _ us hl => match us, hl with | [_], _ => rfl), ok_starts_m F B rT⟩
  have m_Trial_come_to : CalM P w K mg base (He.ga K "Trial") "come_to" ["self", "names"] 1 (spComeTo (He.ga K "Trial")) := by
    obtain ⟨fd, F⟩ := c.def_ 36 (d := dTrial_come_to) rfl
    exact ⟨_, fd, He.meth_ok (c.fact 53 (f := .meth "Trial" "come_to") rfl), binds1 F (fun _ _ _ _ _ _ us hl => match us, hl with | [_, _], _ => rfl), ok_come_to F B rT⟩
  have m_Trial_cut : CalM P w K mg base (He.ga K "Trial") "cut" ["self", "names"] 1 (spCutM (He.ga K "Trial")) := by
    obtain ⟨fd, F⟩ := c.def_ 37 (d := dTrial_cut) rfl
    exact ⟨_, fd, He.meth_ok (c.fact 54 (f := .meth "Trial" "cut") rfl), binds1 F (fun _ _ _ _ _ _ us hl => match us, hl with | [_, _], _ => rfl), ok_cut_m F B rT⟩
  have m_Trial_from_outside : CalM P w K mg base (He.ga K "Trial") "from_outside" ["self", "names"] 2 (spOutside (He.ga K "Trial")) := by
    obtain ⟨fd, F⟩ := c.def_ 38 (d := dTrial_from_outside) rfl
    exact ⟨_, fd, He.meth_ok (c.fact 55 (f := .meth "Trial" "from_outside") rfl), binds1 F (fun _ _ _ _ _ _ us hl => match us, hl with | [_, _], _ => rfl), ok_from_outside F B ⟨rT.cls, m_Trial_starts⟩ rT⟩
  have m_Trial_pointed : CalM P w K mg base (He.ga K "Trial") "pointed" ["self", "name", "names", "outside"] 1 (spPointed (He.ga K "Trial")) := by
    obtain ⟨fd, F⟩ := c.def_ 39 (d := dTrial_pointed) rfl
    exact ⟨_, fd, He.meth_ok (c.fact 56 (f := .meth "Trial" "pointed") rfl), binds1 F (fun _ _ _ _ _ _ us hl => match us, hl with | [_, _, _, _], _ => rfl), ok_pointed F B rT⟩
  have m_Trial_seek : CalM P w K mg base (He.ga K "Trial") "seek" ["self", "name"] 3 (spTrial (He.ga K "Trial")) := by
    obtain ⟨fd, F⟩ := c.def_ 40 (d := dTrial_seek) rfl
    exact ⟨_, fd, He.meth_ok (c.fact 57 (f := .meth "Trial" "seek") rfl), binds1 F (fun _ _ _ _ _ _ us hl => match us, hl with | [_, _], _ => rfl), ok_trial_seek F ⟨rT.cls, m_Trial_look_for, m_Trial_come_to, m_Trial_from_outside, m_Trial_pointed, m_Trial_cut⟩⟩
  have m_Marks_look_for : CalM P w K mg base (He.ga K "Marks") "look_for" ["self", "name"] 1 (spLookM (He.ga K "Marks")) := by
    obtain ⟨fd, F⟩ := c.def_ 42 (d := dMarks_look_for) rfl
    exact ⟨_, fd, He.meth_ok (c.fact 62 (f := .meth "Marks" "look_for") rfl), binds1 F (fun _ _ _ _ _ _ us hl => match us, hl with | [_, _], _ => rfl), ok_look_m F rM⟩
  have m_Marks_first : CalM P w K mg base (He.ga K "Marks") "first" ["self"] 1 (spFirstM (He.ga K "Marks")) := by
    obtain ⟨fd, F⟩ := c.def_ 43 (d := dMarks_first) rfl
    exact ⟨_, fd, He.meth_ok (c.fact 63 (f := .meth "Marks" "first") rfl), binds1 F (fun _ _ _ _ _ _ us hl => match us, hl with | [_], _ => rfl), ok_first F rM⟩
  have m_Marks_go_on : CalM P w K mg base (He.ga K "Marks") "go_on" ["self", "house", "names", "known"] 1 (spGoOn (He.ga K "Marks")) := by
    obtain ⟨fd, F⟩ := c.def_ 44 (d := dMarks_go_on) rfl
    exact ⟨_, fd, He.meth_ok (c.fact 64 (f := .meth "Marks" "go_on") rfl), binds1 F (fun _ _ _ _ _ _ us hl => match us, hl with | [_, _, _, _], _ => rfl), ok_go_on F B rM⟩
  have m_Marks_sent : CalM P w K mg base (He.ga K "Marks") "sent" ["self"] 2 (spSent (He.ga K "Marks")) := by
    obtain ⟨fd, F⟩ := c.def_ 45 (d := dMarks_sent) rfl
    exact ⟨_, fd, He.meth_ok (c.fact 65 (f := .meth "Marks" "sent") rfl), binds1 F (fun _ _ _ _ _ _ us hl => match us, hl with | [_], _ => rfl), ok_sent F B ⟨rM.cls, m_Marks_first, m_Marks_go_on⟩⟩
  have m_Marks_seek : CalM P w K mg base (He.ga K "Marks") "seek" ["self", "name"] 5 (spMarks (He.ga K "Marks")) := by
    obtain ⟨fd, F⟩ := c.def_ 46 (d := dMarks_seek) rfl
    exact ⟨_, fd, He.meth_ok (c.fact 66 (f := .meth "Marks" "seek") rfl), binds1 F (fun _ _ _ _ _ _ us hl => match us, hl with | [_, _], _ => rfl), ok_marks_seek F ⟨rM.cls, m_Marks_look_for, m_Marks_sent⟩ ⟨c_wanted_for, c_cut_for⟩ rM⟩
  have m_Track_look_for : CalM P w K mg base (He.ga K "Track") "look_for" ["self", "name"] 1 (spLookM (He.ga K "Track")) := by
    obtain ⟨fd, F⟩ := c.def_ 48 (d := dTrack_look_for) rfl
    exact ⟨_, fd, He.meth_ok (c.fact 71 (f := .meth "Track" "look_for") rfl), binds1 F (fun _ _ _ _ _ _ us hl => match us, hl with | [_, _], _ => rfl), ok_look_m F rK⟩
  have m_Track_starts : CalM P w K mg base (He.ga K "Track") "starts" ["self"] 1 (spStartsM (He.ga K "Track")) := by
    obtain ⟨fd, F⟩ := c.def_ 49 (d := dTrack_starts) rfl
    exact ⟨_, fd, He.meth_ok (c.fact 72 (f := .meth "Track" "starts") rfl), binds1 F (fun _ _ _ _ _ _ us hl => match us, hl with | [_], _ => rfl), ok_starts_m F B rK⟩
  have m_Track_cut : CalM P w K mg base (He.ga K "Track") "cut" ["self", "names"] 1 (spCutM (He.ga K "Track")) := by
    obtain ⟨fd, F⟩ := c.def_ 50 (d := dTrack_cut) rfl
    exact ⟨_, fd, He.meth_ok (c.fact 73 (f := .meth "Track" "cut") rfl), binds1 F (fun _ _ _ _ _ _ us hl => match us, hl with | [_, _], _ => rfl), ok_cut_m F B rK⟩
  have m_Track_pointing : CalM P w K mg base (He.ga K "Track") "pointing" ["self"] 1 (spPointing (He.ga K "Track")) := by
    obtain ⟨fd, F⟩ := c.def_ 51 (d := dTrack_pointing) rfl
    exact ⟨_, fd, He.meth_ok (c.fact 74 (f := .meth "Track" "pointing") rfl), binds1 F (fun _ _ _ _ _ _ us hl => match us, hl with | [_], _ => rfl), ok_pointing F B rK⟩
  have m_Track_back : CalM P w K mg base (He.ga K "Track") "back" ["self", "name"] 2 (spBack (He.ga K "Track")) := by
    obtain ⟨fd, F⟩ := c.def_ 52 (d := dTrack_back) rfl
    exact ⟨_, fd, He.meth_ok (c.fact 75 (f := .meth "Track" "back") rfl), binds1 F (fun _ _ _ _ _ _ us hl => match us, hl with | [_, _], _ => rfl), ok_back F B ⟨rK.cls, m_Track_look_for, m_Track_pointing⟩⟩
  have m_Track_seek : CalM P w K mg base (He.ga K "Track") "seek" ["self", "name"] 3 (spTrack (He.ga K "Track")) := by
    obtain ⟨fd, F⟩ := c.def_ 53 (d := dTrack_seek) rfl
    exact ⟨_, fd, He.meth_ok (c.fact 76 (f := .meth "Track" "seek") rfl), binds1 F (fun _ _ _ _ _ _ us hl => match us, hl with | [_, _], _ => rfl), ok_track_seek F ⟨rK.cls, m_Track_back, m_Track_starts, m_Track_cut⟩⟩
  have k_Trial : CalC P w K mg base "Trial" (He.ga K "Trial") ["self", "picture"] 1 (spInit (He.ga K "Trial")) := by
    obtain ⟨fd, F⟩ := c.def_ 33 (d := dTrial_init) rfl
    exact ⟨_, fd, He.glo_ok X G (c.fact 33 (f := .glo "Trial") rfl), He.mkr_ok (c.fact 48 (f := .mkr "Trial") rfl), binds1 F (fun _ _ _ _ _ _ us hl => match us, hl with | [_, _], _ => rfl), ok_init F rT⟩
  have k_Marks : CalC P w K mg base "Marks" (He.ga K "Marks") ["self", "picture"] 1 (spInit (He.ga K "Marks")) := by
    obtain ⟨fd, F⟩ := c.def_ 41 (d := dMarks_init) rfl
    exact ⟨_, fd, He.glo_ok X G (c.fact 34 (f := .glo "Marks") rfl), He.mkr_ok (c.fact 59 (f := .mkr "Marks") rfl), binds1 F (fun _ _ _ _ _ _ us hl => match us, hl with | [_, _], _ => rfl), ok_init F rM⟩
  have k_Track : CalC P w K mg base "Track" (He.ga K "Track") ["self", "picture"] 1 (spInit (He.ga K "Track")) := by
    obtain ⟨fd, F⟩ := c.def_ 47 (d := dTrack_init) rfl
    exact ⟨_, fd, He.glo_ok X G (c.fact 35 (f := .glo "Track") rfl), He.mkr_ok (c.fact 68 (f := .mkr "Track") rfl), binds1 F (fun _ _ _ _ _ _ us hl => match us, hl with | [_, _], _ => rfl), ok_init F rK⟩
  have C : CLaw P w K mg base (He.ga K "Trial") (He.ga K "Marks") (He.ga K "Track") :=
    ⟨c__law_picture, c__law_fields, c__law_roots, c__law_reach, c__law_idle, c__law_let_by, k_Trial, k_Marks, k_Track, rT.cls, rM.cls, rK.cls, m_Trial_seek, m_Marks_seek, m_Track_seek⟩
  exact (ok_law F B C).mono (by decide)
end
end HF
set_option Elab.async false
set_option linter.all false
set_option maxRecDepth 100000
set_option maxHeartbeats 0
namespace HF
open PySem PySem.Spec PyProof.Rows L2
abbrev R : PySem.W.OpenRow := PySem.W.OpenLaw.row PySem.Challenge.rw_heldafar_k27_whole_ways_agree
abbrev hk : PySem.W.Hook := He.hookD 5 fa fn
def ob (s : PySem.W.SharedT) : He.AlD := He.obsDG 5 fa fn (HandSHeadRun.getT s)
theorem ob_eq (s : PySem.W.SharedT) : ob s = hk.obs s.abs := He.obsDG_eq (HandSHeadRun.getT_eq s)
def loose : List Str := (["_wall", "FarError", "NoThing", "why", "RingWay", "Track", "Marks", "Trial", "fields_by_name", "held_names", "spread", "reached", "all_starts", "better", "first_ways", "next_ways", "all_ways", "look_for", "wanted_for", "letters_named", "cut_for", "thing_at", "started", "gone_by", "wanted_holds"] : List Str) ++ (["are_things", "cut_holds", "is_closed", "pointed_holds", "_law_next", "_law_names", "_law_some", "_law_thing", "_law_letters", "_law_picture", "_law_fields", "_law_roots", "_law_reach", "_law_idle", "_law_let_by"] : List Str)
theorem run (w : World) : HandSHeadRun.RunEq R (PySem.W.view R.prog [49]) hk ob 4000 loose w := by
  intro os
  kernel_rfl
end HF
set_option Elab.async false
set_option linter.all false
set_option maxRecDepth 100000
set_option maxHeartbeats 0
namespace HF
open PySem PySem.Spec PyProof.Rows L2
/-- the end of a law row over a head by facts, the script's bits told -/
theorem walk_bits {l : PySem.W.OpenLaw} {n k : Nat} {q : Program} {loose : List Str} {XP : (Str → Option Value) → Heap → Prop} {YP : World → Heap → Prop} {d : DefRec} {CX : CXT} {x : Str}
    (hn : l.most = some n) (hn2 : n ≤ sizeLine) (hdf : d.params.defaults = []) (hr : Room k callerA)
    (F : ∀ (w : World) (mg : Str → Option Value) (fa : Addr) (h : Heap), YP w h → h.Ns mainGlobals mg → mg d.name = some (.ref fa) →
      ∃ (K : PySem.W.Frag) (fd : FuncData) (sp : Sp), K.In h ∧ (∀ (s : Shared) (u : Value), BindsTo s fd ⟨[u], []⟩ [(x, u)]) ∧
        (∀ (H : Hp) (a : Addr) (ns : List Int), ns.length ≤ n → (∀ z ∈ ns, Builtin.Int.intBits z ≤ 1048576) → Only H → SqL K H a (ns.map V.int) → sp [.ref a] H (fun v _ => v = .bl true) fun _ _ _ => False) ∧
        ∀ base : Heap, K.In base → base.Ns mainGlobals mg → FnOk l.prog w K mg base CX k fa fd [x] sp)
    (hCX : ∀ (H : Hp) (s : Shared) (e : Value) (s' : Shared), CX [] H s (fun _ _ _ => False) e s' → False) :
    PySem.W.WalkO q loose XP YP l.row.toRowW d [] (fun f vs => PySem.call f vs) := by
  refine Att.attach_callB hn hdf fun w s0 s1 mg mb fa o pm cd doc a vs ns G Y ho hd hcd hmg hobj hints hlen hbits hg => ?_
  obtain ⟨K, fd, sp, KX, hb, hsp, hF⟩ := F w mg fa _ Y G.T.g hmg
  exact law_call KX G.T.g G.T.b G.T.builtins G.T.nolimit hg hobj hints (Nat.le_trans hlen hn2) hr hF hb (fun H hO hS => hsp H a ns hlen hbits hO hS) fun H e s' => hCX H s1 e s'
end HF
open PySem PySem.W PySem.Calls PyProof.Rows
theorem PySem.Challenge.cw_heldafar_k27_whole_ways_agree_holds : PySem.Challenge.rw_heldafar_k27_whole_ways_agree.Holds := by
  w_on; o_law
  refine HandSHeadRun.head_any (r := OpenLaw.row PySem.Challenge.rw_heldafar_k27_whole_ways_agree) (q := view (OpenLaw.row PySem.Challenge.rw_heldafar_k27_whole_ways_agree).prog [49]) (H := HF.hk) (ob := HF.ob) (M := 4000) (loose := HF.loose) (d := HandSHeadRun.topDef (OpenLaw.row PySem.Challenge.rw_heldafar_k27_whole_ways_agree).prog 49) (kwd := []) HF.ob_eq
    (by kernel_rfl) (fun s => by kernel_rfl) HF.run (by kernel_rfl) (by kernel_rfl) (by kernel_rfl) (by rfl) (by first | assumption | decide +kernel) (by decide +kernel) ⟨rfl, rfl, rfl, rfl, rfl, by decide +kernel⟩ ?hw ?hc
  case hw => w_witness2
  case hc =>
    refine HF.walk_bits (l := PySem.Challenge.rw_heldafar_k27_whole_ways_agree) (n := 63) (k := 30) (x := "_law_script") (CX := L2.CX0) rfl (by decide) (by kernel_rfl) ⟨rfl, by decide, by decide⟩ ?F (fun _ _ _ _ z => z)
    intro w mg fa h Y G hmg0
    obtain ⟨K, KX, c⟩ := Y
    have hmg : mg ("law" : PySem.Str) = some (.ref fa) := by
      have e : (HandSHeadRun.topDef (OpenLaw.row PySem.Challenge.rw_heldafar_k27_whole_ways_agree).prog 49).name = ("law" : PySem.Str) := by kernel_rfl
      rw [← e]
      exact hmg0
    obtain ⟨fd, hb, hF⟩ := HF.facts (P := (PySem.Challenge.rw_heldafar_k27_whole_ways_agree).prog) (w := w) KX G hmg c
    exact ⟨K, fd, HF.spLaw K, KX, hb, fun H a ns hl hz _ hS => ⟨a, ns, rfl, hS, fun _ => rfl⟩, hF⟩

import PyProof.Rows.All
import Wide.All
import OpenK.AllK
import Wide.FinOn
import HandS.ForMost
import HandS.Deep
import HandS.More
import HandS.Walk
import HandS.Defaults
import HandS.HeadHook2
import KE.SortData
import HandS.DictComp
import KE.KDictCopyH
import KE.KDictSum
import HandS.IsInst
import HandS.Evl
import HandS.Zip
import HandS.Head0
import HandS.Head1
import HandS.Head2
import HandS.HeadEnd
import PySem.Challenge.RW_crosskeep_k84_names_are_sorted
set_option Elab.async false
set_option linter.all false
set_option maxRecDepth 100000
set_option maxHeartbeats 4000000
/-! Kt: own words over the hand layer: data that never changes (Rp), changes (Ch), readings step by step (w_..), some rules. -/
namespace Kt
open PySem PySem.Spec PyProof.Rows L2

/-! ### defs by their addresses -/
def fdOf (K : PySem.W.Frag) (f : Addr) : FuncData := match K.lookup f with
  | some ⟨_, _, .func fd, _⟩ => fd
  | _ => ⟨"", "", { posonlyargs := [], args := [], vararg := none, kwonlyargs := [], kw_defaults := [], kwarg := none, defaults := [] }, .stmts [], { kind := .function, names := [], isGenerator := false, isCoroutine := false }, 0, [], .none, .none, .none, .none, none, .none, .none, 0⟩
theorem fun_ofD {K : PySem.W.Frag} {x qual : Str} {st : Stmt} {f : Addr} {kws : List (Str × V)} (h : ∃ fd, FunD K x qual (defArgs st) (defBody st) (defScope st) [] kws f fd) : Fun K x qual st f (fdOf K f) := by
  obtain ⟨fd, F⟩ := h
  obtain ⟨oc, od, dV, kV, doc, pm, an, cdv, ct, osl, e, l, c, hd, _⟩ := F.ex
  have ef : fdOf K f = fd := by unfold fdOf; rw [l]
  rw [ef]
  rcases hd with ⟨_, e2⟩ | ⟨e2, _⟩
  · subst e2
    exact ⟨⟨oc, od, kV, doc, pm, an, cdv, ct, osl, e, l, c⟩, F.kp⟩
  · exact absurd rfl e2
theorem bindsT {K : PySem.W.Frag} {x qual : Str} {st : Stmt} {f : Addr} {fd : FuncData} {ps : List Str} (F : Fun K x qual st f fd)
    (h : ∀ (kV doc pm : Value) (an : Option Addr) (cdv ct : Value) (us : List Value), us.length = ps.length → bindArgs (PySem.W.fnOf x qual (defArgs st) (defBody st) (defScope st) .none kV doc pm an cdv ct) ⟨us, []⟩ = pure (ps.zip us))
    (s : Shared) (us : List Value) (hl : us.length = ps.length) : BindsTo s fd ⟨us, []⟩ (ps.zip us) := by
  obtain ⟨oc, od, kV, doc, pm, an, cdv, ct, osl, rfl, lk, hcd⟩ := F.ex
  exact .of_eq (h kV doc pm an cdv ct us hl)
theorem hu65 {A : Around} {k : Nat} (hr : Room k A) : A.units + 65 < cLine := by
  have := hr.un
  omega

/-! ### tuples stay -/
def Px (H H' : Hp) : Prop := ∀ a xs, H a = some (.tup xs) → H' a = some (.tup xs)
/-- what changes lies in S; tuples stay -/
def Ch (S : List Addr) (H H' : Hp) : Prop := Px H H' ∧ ∀ a o, H a = some o → a ∉ S → H' a = some o
theorem Px.refl (H : Hp) : Px H H := fun _ _ h => h
theorem Px.trans {H H1 H2 : Hp} (a : Px H H1) (b : Px H1 H2) : Px H H2 := fun x o h => b x o (a x o h)
theorem Same.px {H H' : Hp} (s : Same H H') : Px H H' := fun _ _ h => s _ _ h
theorem Ch.px {S : List Addr} {H H' : Hp} (s : Ch S H H') : Px H H' := s.1
theorem Ch.refl {S : List Addr} (H : Hp) : Ch S H H := ⟨fun _ _ h => h, fun _ _ h _ => h⟩
theorem Ch.trans {S : List Addr} {H H1 H2 : Hp} (a : Ch S H H1) (b : Ch S H1 H2) : Ch S H H2 := ⟨a.1.trans b.1, fun x o h n => b.2 x o (a.2 x o h n) n⟩
theorem Ch.mono {S S' : List Addr} {H H1 : Hp} (a : Ch S H H1) (h : ∀ x ∈ S, x ∈ S') : Ch S' H H1 := ⟨a.1, fun x o e n => a.2 x o e fun z => n (h x z)⟩
theorem Same.ch {S : List Addr} {H H' : Hp} (s : Same H H') : Ch S H H' := ⟨fun _ _ h => s _ _ h, fun _ _ h _ => s _ _ h⟩
theorem Ch.same {H H' : Hp} (s : Ch [] H H') : Same H H' := fun a o h => s.2 a o h (by simp)
theorem Px.new {H : Hp} {p : Addr} {o : HO} (h : H p = none) : Px H (upd H p o) := fun a u e => by rw [upd_ne (ne_of_none e h)]; exact e
theorem Same.new {H : Hp} {p : Addr} {o : HO} (h : H p = none) : Same H (upd H p o) := fun a u e => by rw [upd_ne (ne_of_none e h)]; exact e
def isTup : HO → Bool
  | .tup _ => true
  | _ => false
theorem Px.upd {H : Hp} {p : Addr} {o u : HO} (h : H p = some u) (n : isTup u = false) : Px H (upd H p o) := fun a xs e => by
  rw [upd_ne]
  · exact e
  · rintro rfl
    rw [h] at e
    cases e
    cases n
theorem Ch.upd {H : Hp} {p : Addr} {o u : HO} (h : H p = some u) (n : isTup u = false) : Ch [p] H (upd H p o) := ⟨Px.upd h n, fun a o e z => by
  rw [upd_ne]
  · exact e
  · simpa using z⟩
theorem fresh_back {S : List Addr} {H H' : Hp} (s : Ch S H H') {a : Addr} (h : H' a = none) (n : a ∉ S) : H a = none := by
  cases e : H a with
  | none => rfl
  | some o => rw [s.2 a o e n] at h; cases h

/-! ### data that never change: None, bools, ints, texts, tuples -/
def TpK (K : PySem.W.Frag) (a : Addr) (xs : List V) : Prop :=
  ∃ (o : Obj) (its : Array Value) (n : Nat), K.lookup a = some o ∧ o.cls = .type "tuple" ∧ o.data = .seq its n ∧ its.size ≤ sizeLine ∧ Vals xs its.toList
def Tq (K : PySem.W.Frag) (H : Hp) (a : Addr) (xs : List V) : Prop := H a = some (.tup xs) ∨ TpK K a xs
theorem Tq.sq {K : PySem.W.Frag} {H : Hp} {a : Addr} {xs : List V} (h : Tq K H a xs) : SqT K H a xs := h.elim (fun h => .inl (.inl h)) .inr
theorem Tq.mono {K : PySem.W.Frag} {H H' : Hp} {a : Addr} {xs : List V} (h : Tq K H a xs) (p : Px H H') : Tq K H' a xs := h.elim (fun h => .inl (p _ _ h)) .inr
theorem Tq.of {K : PySem.W.Frag} {H : Hp} {a : Addr} {xs : List V} (h : H a = some (.tup xs)) : Tq K H a xs := .inl h
mutual
inductive Rp (K : PySem.W.Frag) (H : Hp) : V → PyData → Prop
  | non : Rp K H .non .none
  | bl (b : Bool) : Rp K H (.bl b) (.bool b)
  | int (i : Int) : Rp K H (.int i) (.int i)
  | str (x : Str) : Rp K H (.str x) (.str x)
  | tup {a : Addr} {xs : List V} {ds : List PyData} : Tq K H a xs → Rps K H xs ds → Rp K H (.ref a) (.tuple ds)
inductive Rps (K : PySem.W.Frag) (H : Hp) : List V → List PyData → Prop
  | nil : Rps K H [] []
  | cons {v : V} {vs : List V} {d : PyData} {ds : List PyData} : Rp K H v d → Rps K H vs ds → Rps K H (v :: vs) (d :: ds)
end
section
variable {K : PySem.W.Frag} {H H' : Hp}
mutual
theorem Rp.mono (p : Px H H') : ∀ (d : PyData) (v : V), Rp K H v d → Rp K H' v d
  | .none, _, h => by cases h; exact .non
  | .bool b, _, h => by cases h; exact .bl b
  | .int i, _, h => by cases h; exact .int i
  | .str x, _, h => by cases h; exact .str x
  | .tuple ds, _, h => by
    cases h with
    | tup t r => exact .tup (t.mono p) (Rps.mono p ds _ r)
  | .list ds, _, h => by cases h
  | .dict ds, _, h => by cases h
theorem Rps.mono (p : Px H H') : ∀ (ds : List PyData) (vs : List V), Rps K H vs ds → Rps K H' vs ds
  | [], _, h => by cases h; exact .nil
  | d :: ds, _, h => by
    cases h with
    | cons h r => exact .cons (Rp.mono p d _ h) (Rps.mono p ds _ r)
end
mutual
theorem Rp.dp : ∀ (d : PyData) (v : V), Rp K H v d → Dp K H v d
  | .none, _, h => by cases h; exact .non
  | .bool b, _, h => by cases h; exact .bl b
  | .int i, _, h => by cases h; exact .int i
  | .str x, _, h => by cases h; exact .str x
  | .tuple ds, _, h => by
    cases h with
    | tup t r => exact .tup t.sq (Rps.dp ds _ r)
  | .list ds, _, h => by cases h
  | .dict ds, _, h => by cases h
theorem Rps.dp : ∀ (ds : List PyData) (vs : List V), Rps K H vs ds → DpAll K H vs ds
  | [], _, h => by cases h; exact .nil
  | d :: ds, _, h => by
    cases h with
    | cons h r => exact .cons (Rp.dp d _ h) (Rps.dp ds _ r)
end
theorem Rp.to {v : V} {d : PyData} (h : Rp K H v d) (p : Px H H') : Rp K H' v d := Rp.mono p d v h
theorem Rps.to {vs : List V} {ds : List PyData} (h : Rps K H vs ds) (p : Px H H') : Rps K H' vs ds := Rps.mono p ds vs h
theorem Rp.d {v : V} {d : PyData} (h : Rp K H v d) : Dp K H v d := Rp.dp d v h
theorem Rps.d {vs : List V} {ds : List PyData} (h : Rps K H vs ds) : DpAll K H vs ds := Rps.dp ds vs h
theorem Rps.length : ∀ {vs : List V} {ds : List PyData}, Rps K H vs ds → vs.length = ds.length
  | [], _, h => by cases h; rfl
  | _ :: _, _, h => by
    cases h with
    | cons h r => simp [Rps.length r]
theorem Rps.get : ∀ {vs : List V} {ds : List PyData} {i : Nat} {v : V}, Rps K H vs ds → vs[i]? = some v → ∃ d, ds[i]? = some d ∧ Rp K H v d
  | _, _, _, _, .nil, e => by simp at e
  | _, _, 0, _, .cons h _, e => by simp at e; subst e; exact ⟨_, rfl, h⟩
  | _, _, i + 1, v, .cons _ r, e => by
    obtain ⟨d, h1, h2⟩ := Rps.get (i := i) (v := v) r (by simpa using e)
    exact ⟨d, by simpa using h1, h2⟩
theorem Rps.get' : ∀ {vs : List V} {ds : List PyData} {i : Nat} {d : PyData}, Rps K H vs ds → ds[i]? = some d → ∃ v, vs[i]? = some v ∧ Rp K H v d
  | _, _, _, _, .nil, e => by simp at e
  | _, _, 0, _, .cons h _, e => by simp at e; subst e; exact ⟨_, rfl, h⟩
  | _, _, i + 1, v, .cons _ r, e => by
    obtain ⟨d, h1, h2⟩ := Rps.get' (i := i) (d := v) r (by simpa using e)
    exact ⟨d, by simpa using h1, h2⟩
theorem Rps.append : ∀ {vs ws : List V} {ds es : List PyData}, Rps K H vs ds → Rps K H ws es → Rps K H (vs ++ ws) (ds ++ es)
  | _, _, _, _, .nil, s => s
  | _, _, _, _, .cons h r, s => .cons h (Rps.append r s)
theorem Rps.snoc {vs : List V} {v : V} {ds : List PyData} {d : PyData} (h : Rps K H vs ds) (r : Rp K H v d) : Rps K H (vs ++ [v]) (ds ++ [d]) := h.append (.cons r .nil)
theorem Rps.take : ∀ {vs : List V} {ds : List PyData} (n : Nat), Rps K H vs ds → Rps K H (vs.take n) (ds.take n)
  | _, _, 0, _ => .nil
  | _, _, _ + 1, .nil => .nil
  | _, _, n + 1, .cons h r => .cons h (Rps.take n r)
theorem Rps.drop : ∀ {vs : List V} {ds : List PyData} (n : Nat), Rps K H vs ds → Rps K H (vs.drop n) (ds.drop n)
  | _, _, 0, h => h
  | _, _, _ + 1, .nil => .nil
  | _, _, n + 1, .cons _ r => Rps.drop n r
end

/-! ### data without bools, lists, dicts: equal is the same -/
mutual
def Pln : PyData → Bool
  | .none => true
  | .int _ => true
  | .str x => PyData.strOk x
  | .tuple ds => PlnAll ds
  | _ => false
def PlnAll : List PyData → Bool
  | [] => true
  | d :: ds => Pln d && PlnAll ds
end
mutual
theorem eqv_iff : ∀ (d e : PyData), Pln d = true → Pln e = true → (PyData.eqv d e = true ↔ d = e)
  | .none, .none, _, _ => by simp [PyData.eqv]
  | .none, .int _, _, _ => by simp [PyData.eqv]
  | .none, .str _, _, _ => by simp [PyData.eqv]
  | .none, .tuple _, _, _ => by simp [PyData.eqv]
  | .int _, .none, _, _ => by simp [PyData.eqv]
  | .int _, .int _, _, _ => by simp [PyData.eqv]
  | .int _, .str _, _, _ => by simp [PyData.eqv]
  | .int _, .tuple _, _, _ => by simp [PyData.eqv]
  | .str _, .none, _, _ => by simp [PyData.eqv]
  | .str _, .int _, _, _ => by simp [PyData.eqv]
  | .str _, .str _, _, _ => by simp [PyData.eqv]
  | .str _, .tuple _, _, _ => by simp [PyData.eqv]
  | .tuple _, .none, _, _ => by simp [PyData.eqv]
  | .tuple _, .int _, _, _ => by simp [PyData.eqv]
  | .tuple _, .str _, _, _ => by simp [PyData.eqv]
  | .tuple ds, .tuple es, h1, h2 => by
    have h1' : PlnAll ds = true := by simpa [Pln] using h1
    have h2' : PlnAll es = true := by simpa [Pln] using h2
    simp only [PyData.eqv, PyData.tuple.injEq]
    exact eqvAll_iff ds es h1' h2'
  | .bool _, _, h, _ => by simp [Pln] at h
  | .list _, _, h, _ => by simp [Pln] at h
  | .dict _, _, h, _ => by simp [Pln] at h
  | .none, .bool _, _, h => by simp [Pln] at h
  | .none, .list _, _, h => by simp [Pln] at h
  | .none, .dict _, _, h => by simp [Pln] at h
  | .int _, .bool _, _, h => by simp [Pln] at h
  | .int _, .list _, _, h => by simp [Pln] at h
  | .int _, .dict _, _, h => by simp [Pln] at h
  | .str _, .bool _, _, h => by simp [Pln] at h
  | .str _, .list _, _, h => by simp [Pln] at h
  | .str _, .dict _, _, h => by simp [Pln] at h
  | .tuple _, .bool _, _, h => by simp [Pln] at h
  | .tuple _, .list _, _, h => by simp [Pln] at h
  | .tuple _, .dict _, _, h => by simp [Pln] at h
theorem eqvAll_iff : ∀ (d e : List PyData), PlnAll d = true → PlnAll e = true → (PyData.eqvAll d e = true ↔ d = e)
  | [], [], _, _ => by simp [PyData.eqvAll]
  | [], _ :: _, _, _ => by simp [PyData.eqvAll]
  | _ :: _, [], _, _ => by simp [PyData.eqvAll]
  | d :: ds, e :: es, h1, h2 => by
    have h1' : Pln d = true ∧ PlnAll ds = true := by simpa [PlnAll] using h1
    have h2' : Pln e = true ∧ PlnAll es = true := by simpa [PlnAll] using h2
    simp only [PyData.eqvAll, Bool.and_eq_true, List.cons.injEq]
    rw [eqv_iff d e h1'.1 h2'.1, eqvAll_iff ds es h1'.2 h2'.2]
end
open Classical in
theorem eqv_dec {d e : PyData} (h1 : Pln d = true) (h2 : Pln e = true) : PyData.eqv d e = decide (d = e) := by
  have h := eqv_iff d e h1 h2
  by_cases q : d = e
  · rw [decide_eq_true q]; exact h.mpr q
  · rw [decide_eq_false q]
    cases r : PyData.eqv d e with
    | false => rfl
    | true => exact absurd (h.mp r) q
theorem PlnAll_iff : ∀ {ds : List PyData}, PlnAll ds = true ↔ ∀ d ∈ ds, Pln d = true
  | [] => by simp [PlnAll]
  | d :: ds => by simp [PlnAll, PlnAll_iff (ds := ds)]
mutual
theorem pln_lay : ∀ d : PyData, Pln d = true → d.canLay0 = true
  | .none, _ => by simp [PyData.canLay0]
  | .int _, _ => by simp [PyData.canLay0]
  | .str _, h => by simpa [PyData.canLay0, Pln] using h
  | .tuple ds, h => by
    simp only [PyData.canLay0]
    exact plnAll_lay ds (by simpa [Pln] using h)
  | .bool _, h => by simp [Pln] at h
  | .list _, h => by simp [Pln] at h
  | .dict _, h => by simp [Pln] at h
theorem plnAll_lay : ∀ ds : List PyData, PlnAll ds = true → PyData.canLayAll0 ds = true
  | [], _ => by simp [PyData.canLayAll0]
  | d :: ds, h => by
    have h' : Pln d = true ∧ PlnAll ds = true := by simpa [PlnAll] using h
    simp only [PyData.canLayAll0, Bool.and_eq_true]
    exact ⟨pln_lay d h'.1, plnAll_lay ds h'.2⟩
end
theorem depthAll_le {n : Nat} : ∀ {ds : List PyData}, (∀ d ∈ ds, d.depth ≤ n) → PyData.depthAll ds ≤ n
  | [], _ => by simp [PyData.depthAll]
  | d :: ds, h => by
    have h1 := h d (by simp)
    have h2 := depthAll_le (ds := ds) fun e he => h e (by simp [he])
    simp only [PyData.depthAll]
    omega
theorem shaped_of {d : PyData} (h : Pln d = true) (hd : d.depth ≤ 64) : SeqAt.shaped d = true := by
  unfold SeqAt.shaped
  rw [pln_lay d h, decide_eq_true hd]
  rfl
theorem shapedL_of {ds : List PyData} (h : PlnAll ds = true) (hd : ∀ d ∈ ds, d.depth ≤ 63) : SeqAt.shaped (.list ds) = true := by
  unfold SeqAt.shaped
  have h1 : PyData.canLay0 (.list ds) = true := by simp only [PyData.canLay0]; exact plnAll_lay ds h
  have h2 := depthAll_le hd
  rw [h1, decide_eq_true (by simp only [PyData.depth]; omega)]
  rfl

/-! ### lists told item by item -/
section
variable {α β : Type} {R S : α → β → Prop}
theorem Paired.getL : ∀ {xs : List α} {bs : List β} {i : Nat} {x : α}, Paired R xs bs → xs[i]? = some x → ∃ b, bs[i]? = some b ∧ R x b
  | _, _, _, _, .nil, e => by simp at e
  | _, _, 0, _, .cons h _, e => by simp at e; subst e; exact ⟨_, rfl, h⟩
  | _, _, i + 1, x, .cons _ r, e => by
    obtain ⟨d, h1, h2⟩ := Paired.getL (i := i) (x := x) r (by simpa using e)
    exact ⟨d, by simpa using h1, h2⟩
theorem Paired.getR : ∀ {xs : List α} {bs : List β} {i : Nat} {b : β}, Paired R xs bs → bs[i]? = some b → ∃ x, xs[i]? = some x ∧ R x b
  | _, _, _, _, .nil, e => by simp at e
  | _, _, 0, _, .cons h _, e => by simp at e; subst e; exact ⟨_, rfl, h⟩
  | _, _, i + 1, x, .cons _ r, e => by
    obtain ⟨d, h1, h2⟩ := Paired.getR (i := i) (b := x) r (by simpa using e)
    exact ⟨d, by simpa using h1, h2⟩
theorem Paired.app : ∀ {xs ys : List α} {bs cs : List β}, Paired R xs bs → Paired R ys cs → Paired R (xs ++ ys) (bs ++ cs)
  | _, _, _, _, .nil, s => s
  | _, _, _, _, .cons h r, s => .cons h (Paired.app r s)
theorem Paired.takeP : ∀ {xs : List α} {bs : List β} (n : Nat), Paired R xs bs → Paired R (xs.take n) (bs.take n)
  | _, _, 0, _ => .nil
  | _, _, _ + 1, .nil => .nil
  | _, _, n + 1, .cons h r => .cons h (Paired.takeP n r)
theorem Paired.dropP : ∀ {xs : List α} {bs : List β} (n : Nat), Paired R xs bs → Paired R (xs.drop n) (bs.drop n)
  | _, _, 0, h => h
  | _, _, _ + 1, .nil => .nil
  | _, _, n + 1, .cons _ r => Paired.dropP n r
theorem Paired.imp (h : ∀ a b, R a b → S a b) {xs : List α} {bs : List β} (p : Paired R xs bs) : Paired S xs bs := L2.Paired.mapP p h
theorem Paired.memL : ∀ {xs : List α} {bs : List β} {x : α}, Paired R xs bs → x ∈ xs → ∃ b, b ∈ bs ∧ R x b
  | _, _, _, .nil, e => by simp at e
  | _, _, x, .cons h r, e => by
    rcases List.mem_cons.mp e with e | e
    · subst e; exact ⟨_, by simp, h⟩
    · obtain ⟨b, h1, h2⟩ := Paired.memL r e
      exact ⟨b, by simp [h1], h2⟩
theorem Paired.memR : ∀ {xs : List α} {bs : List β} {b : β}, Paired R xs bs → b ∈ bs → ∃ x, x ∈ xs ∧ R x b
  | _, _, _, .nil, e => by simp at e
  | _, _, x, .cons h r, e => by
    rcases List.mem_cons.mp e with e | e
    · subst e; exact ⟨_, by simp, h⟩
    · obtain ⟨b, h1, h2⟩ := Paired.memR r e
      exact ⟨b, by simp [h1], h2⟩
end
end Kt
set_option Elab.async false
set_option linter.all false
set_option maxRecDepth 100000
set_option maxHeartbeats 4000000
/-! Kr: rules of one's own: dict comprehensions whose keys are tuples; sorted of data, of a dict with tuple keys. -/
namespace Kt
open PySem PySem.Spec PyProof.Rows L2

/-! ### a dict comprehension, the dict of either kind: its entries by DPut -/
theorem d_dictSetP {X : Cx} {pins : List (Addr × Obj)} {σ : L2.St} {H H' : Hp} {s : Shared} {E : Value → Shared → Prop} {D : Addr} {y v : V} {u r : Value} {Q : Unit → Shared → Prop}
    (room : X.A.units + 1 < cLine) (I : Inv X pins σ H s) (put : DPut H D y v H') (ry : RelV y u) (rv : RelV v r)
    (fin : ∀ s', Inv X pins σ H' s' → Q () s') : wpAny (model X.prog X.w) X.A (dictSet D u r) Q E s := by
  rcases put with ⟨kvs, k, hD, e1, few, e2⟩ | ⟨kvs, k, b, hD, e1, hb, few, e2⟩
  · subst e1 e2
    obtain ⟨z, sys, ws, rel, dd⟩ := dk_of I.hok hD
    have zw : ws.length ≤ sizeLine := Nat.le_trans (Nat.le_of_eq rel.length.symm) z
    have zl : (putK kvs k v).length ≤ sizeLine := by
      have h := length_putK kvs k v
      omega
    refine wpAny_dictSet_pairs (hsz := zw) (kV_is ry) dd fun g dd' sb => fin _ ?_
    obtain ⟨q, es, ep, hq, more⟩ := dd'
    exact d_write I (by rw [hD]; trivial) sb ⟨q, hq⟩ (dk_new zl sys (rel.put k rv) ⟨q, es, ep, hq, more⟩)
  · subst e1 e2
    have eu : u = Value.ref b := ry
    subst eu
    obtain ⟨z, sys, xs, rel, dd⟩ := dt_of I.hok hD
    have zw : xs.length ≤ sizeLine := Nat.le_trans (Nat.le_of_eq (Paired.length rel).symm) z
    have zl : (putK kvs k v).length ≤ sizeLine := by
      have h := length_putK kvs k v
      omega
    refine wpAny_dictSet_heap (hsz := zw) (show X.A.units < cLine by omega) (key_of I.hok hb) dd fun g dd' sb => fin _ ?_
    obtain ⟨q, es, ep, hq, a2, a3, a4, _, a5⟩ := dd'
    refine d_write I (by rw [hD]; trivial) sb ⟨q, hq⟩ ⟨zl, sys, _, (rel.put k hb rv).keeps fun c ys hc => ?_, q, es, ep, hq, a2, a3, a4, a5⟩
    rw [upd_ne (ne_of hc hD (by nofun))]
    exact hc

/-- which empty dict a display, a comprehension begins with -/
def NewD (o : HO) : Prop := o = .dK [] ∨ o = .dT []
theorem newD_ok {P : Program} {w : World} {H : Hp} {h : Heap} {o : HO} (e : NewD o) (big : sysModules < h.objs.size) : ObjOk P w H (h.push { cls := .type "dict", data := .dict #[] }) h.objs.size o := by
  rcases e with e | e
  · rw [e]
    exact dk_empty h big
  · rw [e]
    exact dt_empty h big
section
variable {X : Cx}
abbrev AllBlk (X : Cx) (scope : Scope) (p : Cx → Prop) : Prop := ∀ (s : Shared) (H : Hp) (C : Addr) (cl : List (Str × Addr)) (fp : List Addr), p (X.blk s H scope (compEnvC scope cl C X.env) fp)
/-- {k: v for target in iter if ..}: o₀ the empty dict; entries by DPut -/
def tDcP (o0 : HO) (wi : TI) (g : TG) (tt : TT) (tk tv : TE) (vs : List Nat) : TE := fun σ H Q => wi σ H fun J Ha => ∀ D, Ha D = none → ∃ W : Nat → Nat → Hp → Prop, (∃ m, W 0 m (upd Ha D o0)) ∧
  ∀ i m H, W i m H → (J.stop i H ∧ Q (.ref D) H) ∨ (J.go i H ∧ ∃ Nx : Hp → Prop, (∀ H', Nx H' → ∃ m', m' < m ∧ W (i + 1) m' H') ∧
    ∀ x H', J.yld i H x H' → g x (wipe σ vs) H' fun σ2 H2 => wipe σ2 vs = wipe σ vs ∧ tt σ2 H2 fun b H3 =>
      if b = true then tk σ2 H3 fun y H4 => tv σ2 H4 fun z H5 => ∃ H6, DPut H5 D y z H6 ∧ Nx H6 else Nx H3)
theorem dcP_core {pins : List (Addr × Obj)} {s : Shared} {σ : L2.St} {H : Hp} {Q : VK} {o0 : HO} {kx vx tg iter : Expr} {ifs : List Expr} {scope : Scope} {own : List (Str × Nat)} {pos pos' : Pos} {wi : TI} {g : TG} {tt : TT} {tk tv : TE} {use : Option (Value → Sem Unit)} {Qf : Value → Shared → Prop}
    (calm : X.calm = true) (room : X.A.units + 1 < cLine) (nd : X.N.Nodup) (h0 : NewD o0) (I : Inv X pins σ H s) (hi : PI X tg iter wi) (ok : BlkOk X.N X.env.scope scope own)
    (hg : AllBlk X scope fun Y => PG Y tg g) (ht : AllBlk X scope fun Y => PTs Y ifs tt) (hk : AllBlk X scope fun Y => PE Y kx tk) (hv : AllBlk X scope fun Y => PE Y vx tv)
    (plain : ∀ x, foldedSetIterable iter X.env x = pure x) (h : tDcP o0 wi g tt tk tv (own.map (·.2)) σ H Q)
    (fin : ∀ D C s' m H', Inv X pins σ H' s' → Q (.ref D) H' → s'.heap.Ns C m → FpOk X pins H' C → compPost (model X.prog X.w) X.A X.xe use Qf (.ref D) C (.ok .next) s') :
    wpAny (model X.prog X.w) X.A (comprehension (.DictComp kx vx [⟨tg, iter, ifs, 0⟩] scope pos) scope X.env pos' newDict false (eval iter X.env) use) Qf X.xe s := by
  have closed : ∀ y ∈ scope.names, y.2 = .free → ∃ c, X.env.cells.lookup y.1 = some c := fun y hy e =>
    (ok.free y hy e).elim (fun k => I.ok.has _ (.inl k)) fun k => I.ok.has _ (.inr k)
  refine wpAny_comprehension_free (use := use) rfl plain (closure_ok closed) ok.kind (fun y hy e => by rw [ok.uniq y hy, e]) (thn (hi.run pins s σ H _ I h) fun xv sa ha => thn ha fun itv sb hb => ?_)
  obtain ⟨it, fp, tn, J, Hb, eit, Ib, T, stb, fb, q⟩ := hb
  subst eit
  refine wpAny_newObj_type (newEnv_comp ?_)
  generalize hD : sb.heap.objs.size = D
  have Dn : Hb D = none := Ib.hok.fresh (Nat.le_of_eq hD)
  obtain ⟨W, ⟨m0, w0⟩, turn⟩ := q D Dn
  generalize hsc : ({ sb with heap := sb.heap.push { cls := .type "dict", data := .dict #[] } } : Shared) = sc
  have Ic : Inv X pins σ (upd Hb D o0) sc := by
    rw [← hsc]
    refine Ib.laid (t' := sb.toks) (fun b o e => Heap.get?_push_of_some _ e) (Nat.le_of_eq hD) ?_
    rw [← hD]
    exact newD_ok h0 Ib.big
  have hpc : sc.heap = sb.heap.push { cls := .type "dict", data := .dict #[] } := by rw [← hsc]
  have below : ∀ b ∈ fp, b < sb.heap.objs.size := fun b hm => by
    obtain ⟨o, e, _⟩ := T.obj _ _ stb b hm
    exact Heap.lt_size e
  have fc : ∀ b ∈ fp, FpOk X pins (upd Hb D o0) b ∧ b < sc.heap.objs.size := fun b hm => by
    have lt := below b hm
    refine ⟨⟨?_, (fb b hm).2⟩, by rw [hpc, Heap.size_push]; exact Nat.lt_succ_of_lt lt⟩
    rw [upd_ne (by rw [← hD]; exact Nat.ne_of_lt lt)]
    exact (fb b hm).1
  have stc : tn 0 sc.heap := T.keep _ _ _ stb fun b _ o e => by
    rw [hpc]
    exact Heap.get?_push_of_some _ e
  have Id := block_start Ic ok nd fc
  generalize hcl : cellsFrom (sc.heap.objs.size + 1) scope.names (cloFrom X.env.cells scope.names []) = cl at Id
  have pg := hg sc (upd Hb D o0) sc.heap.objs.size cl fp
  have pt := ht sc (upd Hb D o0) sc.heap.objs.size cl fp
  have pk := hk sc (upd Hb D o0) sc.heap.objs.size cl fp
  have pv' := hv sc (upd Hb D o0) sc.heap.objs.size cl fp
  subst hcl
  generalize hce : compEnvC scope (cellsFrom (sc.heap.objs.size + 1) scope.names (cloFrom X.env.cells scope.names [])) sc.heap.objs.size X.env = ce at Id pg pt pk pv'
  have cL : ce.locals = sc.heap.objs.size := by rw [← hce]; rfl
  have nofp : ∀ b ∈ fp, (upd Hb D o0) b = none := fun b hm => (fc b hm).1.1
  generalize hHc : upd Hb D o0 = Hc at Ic Id pg pt pk pv' w0 nofp fc
  generalize hsd : ({ sc with heap := pushCells (sc.heap.push { cls := .type "dict", data := .dict #[] }) scope.names } : Shared) = sd at Id
  have std : tn 0 sd.heap := T.keep _ _ _ stc fun b _ o e => by
    rw [← hsd]
    exact pushCells_keeps _ _ _ _ (Heap.get?_push_of_some _ e)
  have fpok : ∀ {σ' : L2.St} {H' : Hp} {s' : Shared}, Inv (X.blk sc Hc scope ce fp) [] σ' H' s' → (∀ b ∈ fp, H' b = none) → ∀ b ∈ fp, FpOk (X.blk sc Hc scope ce fp) [] H' b := fun {σ' H' s'} J' hn b hm =>
    ⟨hn b hm, (J'.ok.exf b hm).1, J'.ok.exfs b hm, .inl hm, fun x c e => (J'.ok.exf b hm).2 x c e, fun p hp => absurd (show p ∈ ([] : List (Addr × Obj)) ++ [] from hp) (by simp)⟩
  have loop : codeAny (model X.prog X.w) X.A (.compLoop (.DictComp kx vx [⟨tg, iter, ifs, 0⟩] scope pos) 0 (.ref it) (.ref D) ce) (compPost (model X.prog X.w) X.A X.xe use Qf (.ref D) sc.heap.objs.size) sd := by
    refine compLoop_anyD (fun n s' => ∃ i H', Inv (X.blk sc Hc scope ce fp) [] (wipe σ (own.map (·.2))) H' s' ∧ tn i s'.heap ∧ (∀ b ∈ fp, H' b = none) ∧ W i n H') ?_ m0 ⟨0, Hc, Id, std, nofp, w0⟩
    rintro n se ⟨i, He, Ie, ste, ne', we⟩
    rcases turn i n He we with ⟨stop, qq⟩ | ⟨go, Nx, hNx, step⟩
    · refine thnF (T.done (X.blk sc Hc scope ce fp) rfl rfl rfl calm i [] se _ He (fun _ _ => False) Ie (fpok Ie ne') ste stop) fun r sf ⟨hr, If⟩ => ?_
      subst hr
      have Ig : Inv X pins σ He sf := Ic.call' (ch := fp) If.os If.base If.hok If.bare fun b hm =>
        let ⟨_, a1, _, a3, a4, a5⟩ := (fc b hm).1
        ⟨a3, a1, a4, a5⟩
      have nC : He sc.heap.objs.size = none := cL ▸ (show He ce.locals = none from If.free)
      obtain ⟨m, hn, _⟩ := If.loc
      have hn2 : sf.heap.Ns sc.heap.objs.size m := cL ▸ (show sf.heap.Ns ce.locals m from hn)
      exact fin D sc.heap.objs.size sf m He Ig qq hn2 (Ic.fpOk (Nat.le_refl _) nC)
    · refine thnF (T.item (X.blk sc Hc scope ce fp) rfl rfl rfl calm i [] se _ He (fun _ _ => False) Ie (fpok Ie ne') ste go) fun r sf ⟨u, hr, hf⟩ => ?_
      subst hr
      refine thnF hf fun _ sg ⟨x, Hg, Ig, rx, yx, stg, ng⟩ => ?_
      refine thnF (pg.run _ sg _ Hg x u _ (Ig.pinned (fpok Ig ng) (T.obj _ _ stg)) rx (step x Hg yx)) fun _ sh ⟨σh, Hh, Ih, wh, qh⟩ => ?_
      refine thnF (pt.run _ sh σh Hh _ Ih qh) fun b si ⟨Hi, Ii, qi⟩ => ?_
      have back : ∀ {s' : Shared} {H' : Hp}, Inv (X.blk sc Hc scope ce fp) ([] ++ pinsAt fp sg.heap) σh H' s' → Nx H' →
          ∃ m, m < n ∧ ∃ i H', Inv (X.blk sc Hc scope ce fp) [] (wipe σ (own.map (·.2))) H' s' ∧ tn i s'.heap ∧ (∀ b ∈ fp, H' b = none) ∧ W i m H' := fun {s' H'} I' nx => by
        obtain ⟨m', hm, w'⟩ := hNx H' nx
        have pinned : ∀ b ∈ fp, ∀ o, sg.heap.get? b = some o → s'.heap.get? b = some o ∧ H' b = none := fun b hm' o e =>
          let z := I'.pin (b, o) (List.mem_append_right _ (List.mem_append_right _ (mem_pinsAt hm' e)))
          ⟨z.1, z.2.1⟩
        have len : (wipe σ (own.map (·.2))).length = σh.length := by rw [← wh, wipe_length]
        refine ⟨m', hm, i + 1, H', (I'.unpinned (pins := [])).weak len (fun j v e => ?_), T.keep _ _ _ stg fun b hm' o e => (pinned b hm' o e).1, fun b hm' => ?_, w'⟩
        · rw [← wh] at e
          exact (wipe_some e).1
        · obtain ⟨o, e, _⟩ := T.obj _ _ stg b hm'
          exact (pinned b hm' o e).2
      cases b with
      | false =>
        rw [if_neg Bool.false_ne_true] at qi ⊢
        exact back Ii qi
      | true =>
        rw [if_pos rfl] at qi ⊢
        refine thnF (pk.run _ si σh Hi _ Ii qi) fun zk sj ⟨yk, Hj, Ij, rk, qj⟩ => ?_
        refine thnF (pv'.run _ sj σh Hj _ Ij qj) fun zv sl ⟨yv, Hl, Il, rv, Hm, put, nx⟩ => ?_
        exact d_dictSetP (X := X.blk sc Hc scope ce fp) room Il put rk rv fun sm Im => back Im nx
  subst hce
  exact codeAny_compStart_dict (hsd ▸ loop) (T.self X.A 0 _ _ _ std (hsd ▸ loop))
section
variable {o0 : HO} {kx vx tg iter : Expr} {ifs : List Expr} {scope : Scope} {own : List (Str × Nat)} {pos : Pos} {wi : TI} {g : TG} {tt : TT} {tk tv : TE}
theorem pe_dcP (calm : X.calm = true) (room : X.A.units + 1 < cLine) (nd : X.N.Nodup) (h0 : NewD o0) (hi : PI X tg iter wi) (ok : BlkOk X.N X.env.scope scope own)
    (hg : AllBlk X scope fun Y => PG Y tg g) (ht : AllBlk X scope fun Y => PTs Y ifs tt) (hk : AllBlk X scope fun Y => PE Y kx tk) (hv : AllBlk X scope fun Y => PE Y vx tv)
    (plain : ∀ x, foldedSetIterable iter X.env x = pure x := by intro _; rfl) : PE X (.DictComp kx vx [⟨tg, iter, ifs, 0⟩] scope pos) (tDcP o0 wi g tt tk tv (own.map (·.2))) := by
  refine ⟨fun pins s σ H Q I h => ?_⟩
  rw [arm_eval_DictComp]
  refine dcP_core calm room nd h0 I hi ok hg ht hk hv plain h fun D C s' m H' I' q hn f => ⟨m, hn, fun h'' sb => ?_⟩
  obtain ⟨f0, f1, f2, f3, f4, f5⟩ := f
  exact ⟨.ref D, H', I'.turned (t' := s'.toks) (fun b o hb e => (sb.2 b hb).trans e) f0 f1 f3 f4 f5, rfl, q⟩
/-- the swap of a name is told -/
theorem sw_trueD {l : Nat} {env : Env} {y : Str} {py : Pos} (hk : env.scope.kind = .function) (hy : env.scope.names.lookup y = some .local) (hl : (py.line == pos.line) = true)
    (free : (scope.names.any fun z => z.1 == y && (z.2 == .local || z.2 == .cell)) = false) : swapsWith (.DictComp kx vx [⟨tg, iter, ifs, 0⟩] scope pos) (some (.Name y py)) l env = pure true := by
  have h1 : env.kindOf y = some .local := hy
  have h2 : env.blockKind = .function := by
    unfold Env.blockKind
    rw [hk]
    rfl
  unfold swapsWith
  simp only [h2, h1, free, Expr.pos, hl]
  rfl
theorem ps_setDcP {i : Nat} {y : Str} {py spos : Pos} (calm : X.calm = true) (room : X.A.units + 1 < cLine) (nd : X.N.Nodup) (h0 : NewD o0) (hy : X.N[i]? = some y) (loc : X.env.scope.names.lookup y = some .local)
    (sw : swapsWith (.DictComp kx vx [⟨tg, iter, ifs, 0⟩] scope pos) (some (.Name y py)) spos.line X.env = pure true) (hi : PI X tg iter wi) (ok : BlkOk X.N X.env.scope scope own)
    (hg : AllBlk X scope fun Y => PG Y tg g) (ht : AllBlk X scope fun Y => PTs Y ifs tt) (hk : AllBlk X scope fun Y => PE Y kx tk) (hv : AllBlk X scope fun Y => PE Y vx tv)
    (plain : ∀ x, foldedSetIterable iter X.env x = pure x := by intro _; rfl) : PS X (.Assign [.Name y py] (.DictComp kx vx [⟨tg, iter, ifs, 0⟩] scope pos) spos) (tAsg (tDcP o0 wi g tt tk tv (own.map (·.2))) (gName i)) := by
  refine ⟨fun pins s σ H D I h => ?_⟩
  rw [exec_Assign_Name_used _ _ _ _ sw]
  refine wpAny_bind (wpAny_standAt (wpAny_bind ?_))
  have h : tDcP o0 wi g tt tk tv (own.map (·.2)) σ H (fun x Ha => gName i x σ Ha D.nx) := h
  refine wpAny_bind (thn (dcP_core (use := some (assign (.Name y py) X.env)) (Qf := fun _ s' => SP X pins D .next s') calm room nd h0 I hi ok hg ht hk hv plain h fun L C s' m H' I' q hn f => ?_) fun _ s' hq => wpAny_pure (wpAny_pure hq))
  show wpAny _ _ (assign (.Name y py) X.env (.ref L)) _ _ _
  refine wpAny_assign_Name (store_ok2 (v := V.ref L) I' nd hy (.inl loc) rfl (fun s2 I2 how => ?_) (.inr loc))
  obtain ⟨a, sb, ha⟩ := how
  obtain ⟨f0, f1, f2, f3, f4, f5⟩ := f
  have far : C ≠ a := ha.elim (fun z => z ▸ f1) fun z e => f4 y a z e.symm
  refine ⟨m, hn.sameBut sb far, fun h3 sb3 => ?_⟩
  exact ⟨_, H', I2.turned (t' := s2.toks) (fun b o hb e => (sb3.2 b hb).trans e) f0 f1 f3 f4 f5, q⟩
end
end

/-! ### sorted of data -/
section
variable {X : Cx} {pins : List (Addr × Obj)} {σ : L2.St} {H : Hp} {s : Shared}
mutual
theorem Rp.reads (I : Inv X pins σ H s) : ∀ (d : PyData) (v : V) (u : Value), Rp X.K H v d → L2.RelV v u → Reads s.heap u d []
  | .none, _, _, h, r => by cases h; cases r; exact .none
  | .bool b, _, _, h, r => by cases h; cases r; exact .bool b
  | .int i, _, _, h, r => by cases h; obtain ⟨t, rfl⟩ := r; exact .int i t
  | .str x, _, _, h, r => by cases h; obtain ⟨t, rfl⟩ := r; exact .str x t
  | .tuple ds, _, _, h, r => by
    cases h with
    | tup hs ha =>
      cases r
      obtain ⟨its, rv, ⟨o, ho, hc, n, hd⟩, _⟩ := I.tuple hs.sq
      exact .tuple ho hc hd (Rps.reads I ds _ its ha rv)
  | .list _, _, _, h, _ => by cases h
  | .dict _, _, _, h, _ => by cases h
theorem Rps.reads (I : Inv X pins σ H s) : ∀ (ds : List PyData) (vs : List V) (us : List Value), Rps X.K H vs ds → Vals vs us → ReadsAll s.heap us ds []
  | [], _, _, h, r => by cases h; cases r; exact .nil
  | d :: ds, _, _, h, r => by
    cases h with
    | cons h1 h2 =>
      cases r with
      | cons r1 r2 => exact .cons (as := []) (bs := []) (Rp.reads I d _ _ h1 r1) (Rps.reads I ds _ _ h2 r2)
end
theorem each_of {β : Type} {R : V → β → Prop} {enc : β → PyData} (I : Inv X pins σ H s) (hR : ∀ v b, R v b → Rp X.K H v (enc b)) : ∀ {vs : List V} {bs : List β} {us : List Value}, Paired R vs bs → Vals vs us →
    PySem.W.EachIs (fun u (b : V × β) => L2.RelV b.1 u) us (vs.zip bs) ∧ PySem.W.EachIs (fun u (b : V × β) => Reads s.heap u (enc b.2) []) us (vs.zip bs)
  | _, _, _, .nil, .nil => ⟨.nil, .nil⟩
  | _, _, _, .cons h hs, .cons r rs => by
    obtain ⟨a, b⟩ := each_of I hR hs rs
    exact ⟨.cons r a, .cons (Rp.reads I _ _ _ (hR _ _ h) r) b⟩
theorem vals_each {β : Type} : ∀ {us : List Value} {bs : List (V × β)}, PySem.W.EachIs (fun u (b : V × β) => L2.RelV b.1 u) us bs → Vals (bs.map Prod.fst) us
  | _, _, .nil => .nil
  | _, _, .cons h r => .cons h (vals_each r)
theorem pair_zip {β : Type} {R : V → β → Prop} : ∀ {bs : List (V × β)}, (∀ b ∈ bs, R b.1 b.2) → Paired R (bs.map Prod.fst) (bs.map Prod.snd)
  | [], _ => .nil
  | b :: bs, h => .cons (h b (by simp)) (pair_zip fun c hc => h c (by simp [hc]))
theorem pair_mem {β : Type} {R : V → β → Prop} : ∀ {vs : List V} {ds : List β}, Paired R vs ds → ∀ b ∈ vs.zip ds, R b.1 b.2
  | _, _, .nil, b, hb => by simp at hb
  | _, _, .cons h r, b, hb => by
    rcases List.mem_cons.mp hb with e | hb
    · rw [e]; exact h
    · exact pair_mem r b hb
abbrev srtBy {β : Type} (enc : β → PyData) (bs : List β) : List β := bs.mergeSort (PySem.W.dataLe false enc)
theorem srt_zip {β : Type} {enc : β → PyData} {vs : List V} {bs : List β} (h : vs.length = bs.length) : ((vs.zip bs).mergeSort (PySem.W.dataLe false fun b => enc b.2)).map Prod.snd = srtBy enc bs := by
  refine (PySem.W.sort_maps (r := PySem.W.dataLe false fun b : V × β => enc b.2) (s := PySem.W.dataLe false enc) Prod.snd fun _ _ _ _ => rfl).trans ?_
  rw [List.map_snd_zip (by omega)]
theorem zip_enc {β : Type} {enc : β → PyData} {vs : List V} {bs : List β} (h : vs.length = bs.length) : (vs.zip bs).map (fun b => enc b.2) = bs.map enc := by
  have e : (vs.zip bs).map (fun b => enc b.2) = ((vs.zip bs).map Prod.snd).map enc := by rw [List.map_map]; rfl
  rw [e, List.map_snd_zip (by omega)]
/-- what can be sorted: alike, told by their items, not too deep -/
structure SrtOk (ds : List PyData) : Prop where
  al : PySem.W.AllAlike ds
  so : PySem.W.Sortable ds
  dp : ∀ d ∈ ds, d.depth ≤ 50
  few : ds.length ≤ sizeLine
/-- sorted(xs), the items told by R, compared by enc -/
def rSortD (K : PySem.W.Frag) : List V → Hp → VK → Prop := fun vs H Q => ∃ (β : Type) (R : V → β → Prop) (enc : β → PyData) (bs : List β) (a : Addr) (xs : List V), vs = [.ref a] ∧ SqL K H a xs ∧ Paired R xs bs ∧
  (∀ v b, R v b → Rp K H v (enc b)) ∧ SrtOk (bs.map enc) ∧ ∀ ys p, H p = none → Paired R ys (srtBy enc bs) → Q (.ref p) (upd H p (.lst ys))
theorem cr_sortD (hu : X.A.units + 64 < cLine) : CallR X (.builtin "sorted") (rSortD X.K) := by
  intro pins s σ H vs us Q I r h
  obtain ⟨β, R, enc, bs, a, xs, rfl, hs, hd, hR, ok, q⟩ := h
  obtain ⟨its, rv, hl, hz⟩ := I.list hs
  rw [Vals.ref1 r]
  have len := Paired.length hd
  obtain ⟨e1, e2⟩ := each_of I hR hd rv
  have sn : (xs.zip bs).map (fun b => enc b.2) = bs.map enc := zip_enc len
  refine PySem.W.sorted_data (enc := fun b : V × β => enc b.2) (R := fun u (b : V × β) => L2.RelV b.1 u) hl.isList e1 (e2.mono fun _ _ z => ⟨[], z⟩) (by rw [sn]; exact ok.al) (by rw [sn]; exact ok.so) (by rw [List.length_zip]; omega) (fun b hb => ?_) fun out ho ho2 => ?_
  · have := ok.dp (enc b.2) (by rw [← sn]; exact List.mem_map_of_mem hb)
    omega
  · obtain ⟨ep, he⟩ := PyProof.Rows.sortedAll_at s.heap its out.toArray
    have pm : ((xs.zip bs).mergeSort (PySem.W.dataLe false fun b => enc b.2)).Perm (xs.zip bs) := List.mergeSort_perm _ _
    have lo : (((xs.zip bs).mergeSort (PySem.W.dataLe false fun b => enc b.2)).map Prod.fst).length ≤ sizeLine := by
      rw [List.length_map, pm.length_eq, List.length_zip]
      omega
    refine ⟨.ref _, upd H (s.heap.objs.size + 1) (.lst (((xs.zip bs).mergeSort (PySem.W.dataLe false fun b => enc b.2)).map Prod.fst)), I.laid (t' := s.toks) (fun _ _ => PyProof.Rows.sortedAll_old) (Nat.le_succ _) ⟨lo, out, ep, vals_each ho2, he⟩, rfl,
      q _ _ (I.hok.fresh (Nat.le_succ _)) ?_⟩
    rw [← srt_zip len]
    exact pair_zip fun b hb => pair_mem hd b (pm.mem_iff.mp hb)
/-- sorted(d), keys that are tuples of ints and texts -/
def kD : Key → PyData
  | .inl i => .int i
  | .inr x => .str x
def kDs (k : List Key) : PyData := .tuple (k.map kD)
/-- the value is a tuple of these keys -/
def KeyAt (H : Hp) (v : V) (k : List Key) : Prop := ∃ b, v = .ref b ∧ H b = some (.tup (k.map kV))
def rSortDT : List V → Hp → VK → Prop := fun vs H Q => ∃ (a : Addr) (kvs : List (List Key × V)), vs = [.ref a] ∧ H a = some (.dT kvs) ∧ SrtOk (kvs.map fun p => kDs p.1) ∧
  ∀ ys p, H p = none → Paired (KeyAt H) ys (srtBy kDs (kvs.map (·.1))) → Q (.ref p) (upd H p (.lst ys))
theorem rp_key {K : PySem.W.Frag} {b : Addr} {k : List Key} (h : H b = some (.tup (k.map kV))) : Rp K H (.ref b) (kDs k) := by
  refine .tup (.inl h) ?_
  clear h
  induction k with
  | nil => exact .nil
  | cons x k ih =>
    refine .cons ?_ ih
    cases x with
    | inl i => exact .int i
    | inr y => exact .str y
theorem cr_sortDT (calm : X.calm = true) (hu : X.A.units + 64 < cLine) : CallR X (.builtin "sorted") rSortDT := by
  intro pins s σ H vs us Q I r h
  obtain ⟨a, kvs, rfl, ha, ok, q⟩ := h
  rw [Vals.ref1 r]
  obtain ⟨z, sys, xs, rel, dd⟩ := dt_of I.hok ha
  obtain ⟨es, ep, raw, hsz, hes⟩ := dd.raw
  have lx : xs.length = kvs.length := (Paired.length rel).symm
  refine Calls.call_function_entry PyProof.Rows.kind_sorted PyProof.Rows.plain_sorted PyProof.Rows.entry_sorted (PyProof.Rows.args_sorted1 _) ?_
  unfold Builtin.«sorted»
  refine wpAny_bind (m := checkCount "sorted" 1 1 _) (wpAny_pure ?_)
  refine wpAny_bind (PySem.W.kdu_collect (A := X.A.in1) (KdlSrc.rawDict (es := es) (ep := ep) sys) (I.ok.hd calm) raw (by omega) fun h' tk acc hk hacc => ?_)
  have lacc : acc.toList.length = kvs.length := by rw [Array.length_toList, hacc.1]; omega
  refine wpAny_bind (wpAny_newList ?_ (by rw [lacc]; exact z))
  -- the keys as values
  have I1 : Inv X pins σ H { s with heap := h', toks := tk } := I.kept hk
  have each : ∀ (i : Nat) (p : List Key × V), kvs[i]? = some p → ∃ b, acc.toList[i]? = some (Value.ref b) ∧ H b = some (.tup (p.1.map kV)) := fun i p hp => by
    have hi : i < kvs.length := (List.getElem?_eq_some_iff.mp hp).1
    have hie : i < es.size := by omega
    obtain ⟨y, hy, hkey, _⟩ := hes i hie
    have hai : i < acc.toList.length := by omega
    obtain ⟨hi2, hv⟩ := hacc.2 i acc.toList[i] (by rw [← Array.getElem?_toList]; exact List.getElem?_eq_getElem hai)
    rw [hkey] at hv
    have hrel : ∀ {l : List (List Key × V)} {m : List (List Key × Addr × Value)} {i : Nat} {p : List Key × V} {y : List Key × Addr × Value}, KT H l m → l[i]? = some p → m[i]? = some y → H y.2.1 = some (.tup (p.1.map kV)) := by
      intro l m i p y q
      induction q generalizing i with
      | nil => intro e; simp at e
      | cons h t ih =>
        intro e1 e2
        cases i with
        | zero =>
          simp at e1 e2
          subst e1 e2
          exact h.2.1
        | succ i => exact ih (by simpa using e1) (by simpa using e2)
    exact ⟨y.2.1, by rw [List.getElem?_eq_getElem hai, hv], hrel rel hp hy⟩
  obtain ⟨vs, hvs, hrp⟩ : ∃ vs : List V, Vals vs acc.toList ∧ Paired (KeyAt H) vs (kvs.map (·.1)) := by
    clear hk hacc raw hes hsz dd ok q
    generalize acc.toList = us at lacc each
    clear rel lx z I1 ha
    induction kvs generalizing us with
    | nil =>
      cases us with
      | nil => exact ⟨[], .nil, .nil⟩
      | cons _ _ => simp at lacc
    | cons p kvs ih =>
      cases us with
      | nil => simp at lacc
      | cons u us =>
        obtain ⟨b, h1, h2⟩ := each 0 p rfl
        obtain ⟨vs, h3, h4⟩ := ih us (by simpa using lacc) fun i p' hp => by
          obtain ⟨b, h5, h6⟩ := each (i + 1) p' (by simpa using hp)
          exact ⟨b, by simpa using h5, h6⟩
        simp at h1
        subst h1
        exact ⟨.ref b :: vs, .cons rfl h3, .cons ⟨b, rfl, h2⟩ h4⟩
  have hoL : (h'.push (seqObj "list" acc.toList.toArray 0)).get? h'.objs.size = some (seqObj "list" acc.toList.toArray 0) := Heap.get?_push_size _ rfl
  have hR : ∀ v k, KeyAt H v k → Rp X.K H v (kDs k) := fun v k ⟨b, e, h⟩ => e ▸ rp_key h
  obtain ⟨e1, e2⟩ := each_of I1 hR hrp hvs
  have lz : vs.length = (kvs.map (·.1)).length := Paired.length hrp
  have lz2 : vs.length ≤ sizeLine := by rw [lz, List.length_map]; exact z
  have sn : (vs.zip (kvs.map (·.1))).map (fun b => kDs b.2) = (kvs.map (·.1)).map kDs := zip_enc lz
  have ek : (kvs.map (·.1)).map kDs = kvs.map fun p => kDs p.1 := by rw [List.map_map]; rfl
  refine wpAny_bind (wpAny_holding (PySem.W.list_sort_data (s := { s with heap := h'.push (seqObj "list" acc.toList.toArray 0), toks := tk }) (enc := fun b : V × List Key => kDs b.2) (R := fun u (b : V × List Key) => L2.RelV b.1 u) hoL e1
    (e2.mono fun _ _ zz => ⟨[], PyProof.Rows.Reads.keeps (fun _ _ => Heap.get?_push_of_some _) zz, by simp⟩) (by rw [sn, ek]; exact ok.al) (by rw [sn, ek]; exact ok.so) (by rw [List.length_zip]; omega) (fun b hb => ?_) fun out ho ho2 => ?_))
  · have h1 := ok.dp (kDs b.2) (by rw [← ek, ← sn]; exact List.mem_map_of_mem hb)
    have h2 : X.A.in1.units = X.A.units + 1 := rfl
    omega
  · obtain ⟨ep', he⟩ := PyProof.Rows.sortedHeap_at (vs := acc.toList) (out := out.toArray) hoL
    have pm : ((vs.zip (kvs.map (·.1))).mergeSort (PySem.W.dataLe false fun b => kDs b.2)).Perm (vs.zip (kvs.map (·.1))) := List.mergeSort_perm _ _
    have lo : (((vs.zip (kvs.map (·.1))).mergeSort (PySem.W.dataLe false fun b => kDs b.2)).map Prod.fst).length ≤ sizeLine := by
      rw [List.length_map, pm.length_eq, List.length_zip]
      omega
    refine wpAny_pure ⟨_, rfl, .ref h'.objs.size, upd H h'.objs.size (.lst (((vs.zip (kvs.map (·.1))).mergeSort (PySem.W.dataLe false fun b => kDs b.2)).map Prod.fst)), I1.laid (t' := tk) (fun b u e => ?_) (Nat.le_refl _)
      ⟨lo, out, ep', vals_each ho2, he⟩, rfl, q _ _ (I1.hok.fresh (Nat.le_refl _)) ?_⟩
    · have hb : b < h'.objs.size := Heap.lt_size e
      rw [PyProof.Rows.sortedHeap_old (Nat.ne_of_lt hb) (by rw [size_push']; exact Nat.lt_succ_of_lt hb)]
      exact Heap.get?_push_of_some _ e
    · rw [← srt_zip (by omega)]
      exact pair_zip fun b hb => pair_mem hrp b (pm.mem_iff.mp hb)
end

/-! ### a dict comprehension over any walk -/
theorem dcp_it {J : It} {n : Nat} {G : Hp → Prop} {Y : Nat → Hp → V → Hp → Prop} (w : Walk J n G Y) {o0 : HO} {g : TG} {tt : TT} {tk tv : TE} {vs : List Nat} {σ : L2.St} {Ha : Hp} {D : Addr} {Qd : Hp → Prop} (Pv : Nat → Hp → Prop)
    (h0 : Pv 0 (upd Ha D o0)) (hG : ∀ i H, i ≤ n → Pv i H → G H)
    (hs : ∀ i x H H', i < n → Pv i H → Y i H x H' → g x (wipe σ vs) H' fun σ2 H2 => wipe σ2 vs = wipe σ vs ∧ tt σ2 H2 fun b H3 =>
      if b = true then tk σ2 H3 fun y H4 => tv σ2 H4 fun z H5 => ∃ H6, DPut H5 D y z H6 ∧ Pv (i + 1) H6 else Pv (i + 1) H3) (hd : ∀ H, Pv n H → Qd H) :
    ∃ W : Nat → Nat → Hp → Prop, (∃ m, W 0 m (upd Ha D o0)) ∧ ∀ i m H, W i m H → (J.stop i H ∧ Qd H) ∨ (J.go i H ∧ ∃ Nx : Hp → Prop, (∀ H', Nx H' → ∃ m', m' < m ∧ W (i + 1) m' H') ∧
      ∀ x H', J.yld i H x H' → g x (wipe σ vs) H' fun σ2 H2 => wipe σ2 vs = wipe σ vs ∧ tt σ2 H2 fun b H3 =>
        if b = true then tk σ2 H3 fun y H4 => tv σ2 H4 fun z H5 => ∃ H6, DPut H5 D y z H6 ∧ Nx H6 else Nx H3) := by
  refine ⟨fun i m H => m = n - i ∧ i ≤ n ∧ Pv i H, ⟨n, by simp, Nat.zero_le _, h0⟩, fun i m H h => ?_⟩
  obtain ⟨em, hi, p⟩ := h
  have good := hG i H hi p
  by_cases lt : i < n
  · exact .inr ⟨w.goes i H lt good, Pv (i + 1), fun H' p' => ⟨n - (i + 1), by omega, rfl, lt, p'⟩, fun x H' y => hs i x H H' lt p (w.yields i H x H' lt good y)⟩
  · have e : i = n := by omega
    subst e
    exact .inl ⟨w.stops H good, hd H p⟩
end Kt
set_option Elab.async false
set_option linter.all false
set_option maxRecDepth 100000
set_option maxHeartbeats 4000000
/-! Kw: readings, one step at a time; built-in calls under names. -/
namespace Kt
open PySem PySem.Spec PyProof.Rows L2

/-! ### built-in calls under names -/
section
variable {X : Cx}
def rLenS (K : PySem.W.Frag) : List V → Hp → VK → Prop := fun xs H Q => ∃ p ys, xs = [.ref p] ∧ (SqL K H p ys ∨ SqT K H p ys) ∧ Q (.int ys.length) H
theorem call_lenS : CallR X (.builtin "len") (rLenS X.K) := call_len_seq
def rLenT : List V → Hp → VK → Prop := fun xs H Q => ∃ z, xs = [.str z] ∧ z.length ≤ sizeLine ∧ Q (.int z.length) H
theorem call_lenT : CallR X (.builtin "len") rLenT := call_len_str
def rLenD : List V → Hp → VK → Prop := fun xs H Q => ∃ a kvs, xs = [V.ref a] ∧ H a = some (.dK kvs) ∧ Q (.int kvs.length) H
theorem call_lenDK : CallR X (.builtin "len") rLenD := call_lenD
def rInt : List V → Hp → VK → Prop := fun xs H Q => ∃ i, xs = [.int i] ∧ Q (.int i) H
theorem call_intI : CallR X (.type "int") rInt := fun pins s σ H xs us Q I r h => call_int1 pins s σ H xs us Q I r (.inl h)
def rListS (K : PySem.W.Frag) : List V → Hp → VK → Prop := fun xs H Q => ∃ p ys, xs = [.ref p] ∧ (SqL K H p ys ∨ SqT K H p ys) ∧ ∀ l, H l = none → Q (.ref l) (upd H l (.lst ys))
theorem call_listS : CallR X (.type "list") (rListS X.K) := call_list_of
def rTupleL (K : PySem.W.Frag) : List V → Hp → VK → Prop := fun xs H Q => ∃ p ys, xs = [.ref p] ∧ SqL K H p ys ∧ ∀ l, H l = none → Q (.ref l) (upd H l (.tup ys))
theorem call_tupleS : CallR X (.type "tuple") (rTupleL X.K) := fun pins s σ H xs us Q I r ⟨p, ys, e, h, q⟩ => call_tuple_of pins s σ H xs us Q I r ⟨p, ys, e, .inl ⟨h, q⟩⟩
def rMax2 : List V → Hp → VK → Prop := fun xs H Q => ∃ i j, xs = [.int i, .int j] ∧ Q (.int (if j > i then j else i)) H
theorem call_maxI (hc : X.calm = true) : CallR X (.builtin "max") rMax2 := call_max2 hc
def rMin2 : List V → Hp → VK → Prop := fun xs H Q => ∃ i j, xs = [.int i, .int j] ∧ Q (.int (if j < i then j else i)) H
theorem call_minI (hc : X.calm = true) : CallR X (.builtin "min") rMin2 := call_min2 hc
def rIns : V → List V → Hp → VK → Prop := fun x vs H Q => ∃ (l : Addr) (xs : List V) (i : Int) (y : V), x = .ref l ∧ vs = [.int i, y] ∧ H l = some (.lst xs) ∧ xs.length < sizeLine ∧ 0 ≤ i ∧ i < 2 ^ 63 ∧
    Q .non (upd H l (.lst (xs.take i.toNat ++ [y] ++ xs.drop i.toNat)))
theorem mt_ins : MtR X "list.insert" rIns := mt_insert
def rIsNo : R2 := fun x y H Q => y = .non ∧ Q (.bl (decide (x = .non))) H
def rNoNo : R2 := fun x y H Q => y = .non ∧ Q (.bl (!decide (x = .non))) H
theorem op_isNo : OpR X (compareOp .Is) rIsNo := op_isN
theorem op_noNo : OpR X (compareOp .IsNot) rNoNo := op_notN
end

/-! ### steps -/
section
variable {K : PySem.W.Frag} {σ : L2.St} {H H1 : Hp} {Q : VK} {QB : Bool → Hp → Prop} {QA : List V → Hp → Prop} {E : XK} {ta tb te tc : TE} {t u : TT} {tA : TA} {D : Ends} {t1 t2 tb' : TS} {g : TG} {v x y : V} {i j : Nat} {p a d : Addr} {xs ys : List V} {r : R2}
theorem w_var (h : σ[i]? = some (some v)) (q : Q v H) : tVar i σ H Q := ⟨v, h, q⟩
theorem w_c (q : Q v H) : tC v σ H Q := q
theorem w_op (h : ta σ H fun x H1 => tb σ H1 fun y H2 => r x y H2 Q) : tOp r ta tb σ H Q := h
theorem w_un {r : V → Hp → VK → Prop} (h : ta σ H fun x H1 => r x H1 Q) : tUn r ta σ H Q := h
theorem w_rU {f : Int → V} {n : Int} (q : Q (f n) H) : rU f (.int n) H Q := ⟨n, rfl, q⟩
theorem w_I0 {f : Int → Int → V} {m n : Int} (q : Q (f m n) H) : rI0 f (.int m) (.int n) H Q := ⟨m, n, rfl, rfl, q⟩
theorem w_I {C : Int → Int → Prop} {f : Int → Int → V} {m n : Int} (c : C m n) (q : Q (f m n) H) : rI C f (.int m) (.int n) H Q := ⟨m, n, rfl, rfl, c, q⟩
theorem w_eq (s : scal x y = true) (q : Q (.bl (decide (x = y))) H) : rEq x y H Q := ⟨s, q⟩
theorem w_ne (s : scal x y = true) (q : Q (.bl (!decide (x = y))) H) : rNe x y H Q := ⟨s, q⟩
theorem w_isNo (q : Q (.bl (decide (x = .non))) H) : rIsNo x .non H Q := ⟨rfl, q⟩
theorem w_noNo (q : Q (.bl (!decide (x = .non))) H) : rNoNo x .non H Q := ⟨rfl, q⟩
theorem w_ixL {n : Int} (h : SqL K H p xs) (ha : atI xs n = some v) (q : Q v H) : rIxL K (.ref p) (.int n) H Q := ⟨p, xs, n, v, rfl, rfl, h, ha, q⟩
theorem w_ixT {n : Int} (h : SqT K H p xs) (ha : atI xs n = some v) (q : Q v H) : rIxT K (.ref p) (.int n) H Q := ⟨p, xs, n, v, rfl, rfl, h, ha, q⟩
theorem w_cb {r : List V → Hp → VK → Prop} (h : tA σ H fun vs H1 => r vs H1 Q) : tCB r tA σ H Q := h
theorem w_nil (q : QA [] H) : tNil σ H QA := q
theorem w_cons (h : ta σ H fun x H1 => tA σ H1 fun xs H2 => QA (x :: xs) H2) : tCons ta tA σ H QA := h
theorem w_lenL (h : SqL K H p ys) (q : Q (.int ys.length) H) : rLenS K [.ref p] H Q := ⟨p, ys, rfl, .inl h, q⟩
theorem w_lenU (h : SqT K H p ys) (q : Q (.int ys.length) H) : rLenS K [.ref p] H Q := ⟨p, ys, rfl, .inr h, q⟩
theorem w_int {n : Int} (q : Q (.int n) H) : rInt [.int n] H Q := ⟨n, rfl, q⟩
theorem w_listL (h : SqL K H p ys) (q : ∀ l, H l = none → Q (.ref l) (upd H l (.lst ys))) : rListS K [.ref p] H Q := ⟨p, ys, rfl, .inl h, q⟩
theorem w_tupleL (h : SqL K H p ys) (q : ∀ l, H l = none → Q (.ref l) (upd H l (.tup ys))) : rTupleL K [.ref p] H Q := ⟨p, ys, rfl, h, q⟩
theorem w_call {sp : Sp} (h : tA σ H fun vs H1 => sp vs H1 Q E) : tCall sp [] E tA σ H Q := by
  show tA σ H fun vs H1 => sp (vs ++ []) H1 Q E
  simp only [List.append_nil]
  exact h
theorem w_tup (h : tA σ H fun xs H1 => xs.length ≤ sizeLine ∧ ∀ p, H1 p = none → Q (.ref p) (upd H1 p (.tup xs))) : tTup tA σ H Q := h
theorem w_lst (h : tA σ H fun xs H1 => xs.length ≤ sizeLine ∧ ∀ p, H1 p = none → Q (.ref p) (upd H1 p (.lst xs))) : tLst tA σ H Q := h
theorem w_test (h : te σ H fun x H1 => ∃ k, x = .bl k ∧ QB k H1) : tTest te σ H QB := h
theorem w_tB (h : te σ H fun x H1 => ∃ k, x = .bl k ∧ QB k H1) : tB te σ H QB := h
theorem w_bl {b : Bool} {R : Bool → Prop} (q : R b) : ∃ k, V.bl b = .bl k ∧ R k := ⟨b, rfl, q⟩
theorem w_not (h : t σ H fun c H1 => QB (!c) H1) : tNot t σ H QB := h
theorem w_and (h : t σ H fun c H1 => (c = true → u σ H1 QB) ∧ (c = false → QB false H1)) : tAnd t u σ H QB := by
  have m : (fun c H1 => (c = true → u σ H1 QB) ∧ (c = false → QB false H1)) = fun c H1 => if c = true then u σ H1 QB else QB false H1 := by
    funext c H1
    cases c <;> simp
  rw [m] at h
  exact h
theorem w_or (h : t σ H fun c H1 => (c = true → QB true H1) ∧ (c = false → u σ H1 QB)) : tOr t u σ H QB := by
  have m : (fun c H1 => (c = true → QB true H1) ∧ (c = false → u σ H1 QB)) = fun c H1 => if c = true then QB true H1 else u σ H1 QB := by
    funext c H1
    cases c <;> simp
  rw [m] at h
  exact h
theorem w_ifS (h : t σ H fun c H1 => (c = true → t1 D σ H1) ∧ (c = false → t2 D σ H1)) : tIfS t t1 t2 D σ H := by
  have m : (fun c H1 => (c = true → t1 D σ H1) ∧ (c = false → t2 D σ H1)) = fun c H1 => if c = true then t1 D σ H1 else t2 D σ H1 := by
    funext c H1
    cases c <;> simp
  rw [m] at h
  exact h
theorem w_ifE (h : t σ H fun c H1 => (c = true → ta σ H1 Q) ∧ (c = false → tb σ H1 Q)) : tIf t ta tb σ H Q := by
  have m : (fun c H1 => (c = true → ta σ H1 Q) ∧ (c = false → tb σ H1 Q)) = fun c H1 => if c = true then ta σ H1 Q else tb σ H1 Q := by
    funext c H1
    cases c <;> simp
  rw [m] at h
  exact h
theorem w_andV (h : ta σ H fun x H1 => ∃ c, x = .bl c ∧ ((c = true → tb σ H1 Q) ∧ (c = false → Q (.bl false) H1))) : tAndV ta tb σ H Q := by
  have m : (fun x H1 => ∃ c, x = V.bl c ∧ ((c = true → tb σ H1 Q) ∧ (c = false → Q (.bl false) H1))) = fun x H1 => ∃ c, x = V.bl c ∧ if c = true then tb σ H1 Q else Q (.bl false) H1 := by
    funext x H1
    refine propext ⟨fun ⟨c, e, h⟩ => ⟨c, e, ?_⟩, fun ⟨c, e, h⟩ => ⟨c, e, ?_⟩⟩ <;> cases c <;> simp_all
  rw [m] at h
  exact h
theorem w_orV (h : ta σ H fun x H1 => ∃ c, x = .bl c ∧ ((c = true → Q (.bl true) H1) ∧ (c = false → tb σ H1 Q))) : tOrV ta tb σ H Q := by
  have m : (fun x H1 => ∃ c, x = V.bl c ∧ ((c = true → Q (.bl true) H1) ∧ (c = false → tb σ H1 Q))) = fun x H1 => ∃ c, x = V.bl c ∧ if c = true then Q (.bl true) H1 else tb σ H1 Q := by
    funext x H1
    refine propext ⟨fun ⟨c, e, h⟩ => ⟨c, e, ?_⟩, fun ⟨c, e, h⟩ => ⟨c, e, ?_⟩⟩ <;> cases c <;> simp_all
  rw [m] at h
  exact h
theorem w_notV (h : ta σ H fun x H1 => ∃ c, x = .bl c ∧ Q (.bl (!c)) H1) : tNotV ta σ H Q := h
theorem w_seq (h : t1 { D with nx := t2 D } σ H) : tSeq t1 t2 D σ H := h
theorem w_cut {M : L2.St → Hp → Prop} (h : t1 { D with nx := M } σ H) (k : ∀ σ' H', M σ' H' → t2 D σ' H') : Evl.tCut t1 t2 D σ H := ⟨M, h, k⟩
theorem w_asg (h : te σ H fun x H1 => D.nx (σ.set i (some x)) H1) : tAsg te (gName i) D σ H := h
theorem w_asgG (h : te σ H fun x H1 => g x σ H1 D.nx) : tAsg te g D σ H := h
theorem w_gName {R : L2.St → Hp → Prop} (q : R (σ.set i (some v)) H) : gName i v σ H R := q
theorem w_gTup {R : L2.St → Hp → Prop} {n : Nat} {tt : TGs} (h : SqT K H a xs) (l : xs.length = n) (q : tt xs σ H R) : gTup K n tt (.ref a) σ H R := ⟨a, xs, rfl, h, l, q⟩
theorem w_gCons {R : L2.St → Hp → Prop} {gg : TG} {tt : TGs} (q : gg v σ H fun σ' H' => tt xs σ' H' R) : gCons gg tt (v :: xs) σ H R := ⟨v, xs, rfl, q⟩
theorem w_gNil {R : L2.St → Hp → Prop} (q : R σ H) : gNil [] σ H R := ⟨rfl, q⟩
theorem w_for {wi : TI} (h : wi σ H fun J H1 => ∃ W : Nat → Nat → L2.St → Hp → Prop, (∃ m, W 0 m σ H1) ∧ ∀ i m σ H, W i m σ H → (J.stop i H ∧ D.nx σ H) ∨ (J.go i H ∧ ∃ N : L2.St → Hp → Prop, (∀ σ' H', N σ' H' → ∃ m', m' < m ∧ W (i + 1) m' σ' H') ∧
    ∀ x H', J.yld i H x H' → g x σ H' fun σ2 H2 => tb' { D with nx := N, ct := N, bk := D.nx } σ2 H2)) : tFor wi g tb' D σ H := h
theorem w_rng1 {R : It → Hp → Prop} (h : tA σ H fun vs H1 => ∃ j : Int, vs = [.int j] ∧ -(2 ^ 62) ≤ j ∧ j < 2 ^ 62 ∧ R (Itr 0 j.toNat) H1) : iRng1 tA σ H R := h
theorem w_rng2 {R : It → Hp → Prop} (h : tA σ H fun vs H1 => ∃ i j : Int, vs = [.int i, .int j] ∧ (-(2 ^ 62) ≤ i ∧ i < 2 ^ 62 ∧ -(2 ^ 62) ≤ j ∧ j < 2 ^ 62) ∧ R (Itr i (j - i).toNat) H1) : iRng2 tA σ H R := h
theorem atI_zero {u : V} {us : List V} : atI (u :: us) 0 = some u := atI_nat (j := 0) rfl
theorem w_yes {QB : Bool → Hp → Prop} (q : QB true H) : tYes σ H QB := q
theorem w_next (q : D.nx σ H) : tNext D σ H := q
theorem w_ret (h : te σ H D.rt) : tRet te D σ H := h
theorem w_retN (h : D.rt .non H) : tRetN D σ H := h
theorem w_drop (h : te σ H fun _ H1 => D.nx σ H1) : tDrop te D σ H := h
theorem w_break (q : D.bk σ H) : tBreak D σ H := q
theorem w_cont (q : D.ct σ H) : tCont D σ H := q
theorem w_gSub {to ti : TE} {tS : TSet} {R : L2.St → Hp → Prop} (h : to σ H fun o H1 => ti σ H1 fun i H2 => tS o i v H2 fun H3 => R σ H3) : gSub to ti tS v σ H R := h
theorem w_setL {n : Int} {R : Hp → Prop} (h : H p = some (.lst xs)) (hi : ixN xs.length n = some j) (q : R (upd H p (.lst (xs.set j v)))) : rSetL (.ref p) (.int n) v H R := ⟨p, xs, n, j, rfl, rfl, h, hi, q⟩
theorem w_par (h : tA σ H fun vs H1 => ∃ v w, vs = [v, w] ∧ D.nx ((σ.set i (some v)).set j (some w)) H1) : tPar i j tA D σ H := h
theorem w_two {v w : V} {R : V → V → Prop} (q : R v w) : ∃ v' w', [v, w] = [v', w'] ∧ R v' w' := ⟨v, w, rfl, q⟩
theorem tyL (h : H a = some (.lst xs)) : tyV K "list" (.ref a) H := .inl ⟨rfl, _, .inl (.inl h)⟩
theorem w_bm {T : String} {r : V → List V → Hp → VK → Prop} (h : ta σ H fun x H1 => tyV K T x H1 ∧ tA σ H1 fun xs H2 => r x xs H2 Q) : tBM K T r ta tA σ H Q := h
theorem w_appR (h : H a = some (.lst xs)) (z : xs.length < sizeLine) (q : Q .non (upd H a (.lst (xs ++ [y])))) : rAppend (.ref a) [y] H Q := ⟨a, xs, y, rfl, rfl, h, z, q⟩
theorem w_insR {n : Int} (h : H a = some (.lst xs)) (z : xs.length < sizeLine) (h0 : 0 ≤ n) (h1 : n < 2 ^ 63) (q : Q .non (upd H a (.lst (xs.take n.toNat ++ [y] ++ xs.drop n.toNat)))) : rIns (.ref a) [.int n, y] H Q := ⟨a, xs, n, y, rfl, rfl, h, z, h0, h1, q⟩
theorem sz_le {n : Nat} (h : n ≤ 100000) : n ≤ sizeLine := Nat.le_trans h (by decide)
theorem sz_lt {n : Nat} (h : n < 100000) : n < sizeLine := Nat.lt_of_lt_of_le h (by decide)
end

/-! ### comprehensions whose elements are data -/
section
variable {K : PySem.W.Frag} {g : TG} {t : TT} {te tl : TE} {vs : List Nat} {σ : L2.St} {H H1 : Hp} {Q : VK} {D a : Addr} {xs : List V} {δ β : Type}
/-- what a comprehension's turn over data owes -/
def LcTurn (S : V → δ → Prop) (R : Hp → V → β → Prop) (f : δ → Bool) (b : δ → β) (g : TG) (t : TT) (te : TE) (vs : List Nat) (σ : L2.St) (H1 : Hp) (ds : List δ) : Prop :=
  ∀ x d H', d ∈ ds → S x d → Same H1 H' → ∀ (N : Hp → Prop) (Y : VK), (f d = false → ∀ H2, Same H' H2 → N H2) → (f d = true → ∀ y H2, Same H' H2 → R H2 y (b d) → Y y H2) →
    g x (wipe σ vs) H' fun σ2 H2 => wipe σ2 vs = wipe σ vs ∧ t σ2 H2 fun c H3 => if c = true then te σ2 H3 Y else N H3
theorem lc_data {J : It} {ds : List δ} {S : V → δ → Prop} {R : Hp → V → β → Prop} {f : δ → Bool} {b : δ → β} (mono : ∀ H H' v b, Px H H' → R H v b → R H' v b) (w : Walk J xs.length (Same H1) (YAt xs)) (hx : Paired S xs ds) (few : xs.length ≤ 50000)
    (turn : LcTurn S R f b g t te vs σ H1 ds) (hD : H1 D = none) {Qd : Hp → Prop} (q : ∀ H2 ys, Same H1 H2 → H2 D = some (.lst ys) → Paired (R H2) ys ((ds.filter f).map b) → Qd H2) :
    ∃ W : Nat → Nat → Hp → Prop, (∃ m, W 0 m (upd H1 D (.lst []))) ∧ ∀ i m H, W i m H → (J.stop i H ∧ Qd H) ∨ (J.go i H ∧ ∃ Nx : Hp → Prop, (∀ H', Nx H' → ∃ m', m' < m ∧ W (i + 1) m' H') ∧ ∀ x H', J.yld i H x H' →
      g x (wipe σ vs) H' fun σ2 H2 => wipe σ2 vs = wipe σ vs ∧ t σ2 H2 fun b H3 => if b = true then te σ2 H3 fun y H4 => ∃ acc, H4 D = some (.lst acc) ∧ acc.length < sizeLine ∧ Nx (upd H4 D (.lst (acc ++ [y]))) else Nx H3) := by
  refine lc_it w (fun i H' => Same H1 H' ∧ ∃ ys, H' D = some (.lst ys) ∧ ys.length ≤ i ∧ Paired (R H') ys (((ds.take i).filter f).map b)) ⟨Same.new hD, [], upd_same, Nat.le_refl _, .nil⟩ (fun i H' _ h => h.1) ?_ ?_
  · rintro i x H' H'' hi ⟨s1, ys, hy, hl, hp⟩ ⟨e, hxi⟩
    subst e
    obtain ⟨d, hd, hS⟩ := Paired.getL hx hxi
    have tk : ds.take (i + 1) = ds.take i ++ [d] := by rw [List.take_succ, hd]; rfl
    refine turn x d H'' (List.mem_of_getElem? hd) hS s1 _ _ (fun hf H2 s2 => ?_) (fun hf y H2 s2 r => ?_)
    · refine ⟨s1.trans s2, ys, s2 _ _ hy, by omega, ?_⟩
      rw [tk, List.filter_append, List.filter_cons, if_neg (by rw [hf]; decide)]
      simp only [List.filter_nil, List.append_nil]
      exact Paired.imp (fun _ _ h => mono _ _ _ _ (Same.px s2) h) hp
    · have hy2 : H2 D = some (.lst ys) := s2 _ _ hy
      have px : Px H2 (upd H2 D (.lst (ys ++ [y]))) := Px.upd hy2 rfl
      refine ⟨ys, hy2, sz_lt (by omega), fun c o hc => ?_, ys ++ [y], upd_same, by simp; omega, ?_⟩
      · rw [upd_ne (ne_of_none hc hD)]
        exact s2 _ _ (s1 _ _ hc)
      · rw [tk, List.filter_append, List.filter_cons, if_pos hf]
        simp only [List.filter_nil, List.map_append, List.map_cons, List.map_nil]
        exact PySem.Paired.snoc (Paired.imp (fun _ _ h => mono _ _ _ _ ((Same.px s2).trans px) h) hp) (mono _ _ _ _ px r)
  · rintro H' ⟨s1, ys, hy, _, hp⟩
    rw [Paired.length hx, List.take_length] at hp
    exact q H' ys s1 hy hp
theorem lc_list_data {Qa : Addr → Hp → Prop} {ds : List δ} {S : V → δ → Prop} (R : Hp → V → β → Prop) (f : δ → Bool) (b : δ → β) (mono : ∀ H H' v b, Px H H' → R H v b → R H' v b) (ha : SqL K H a xs) (keep : ∀ H', Same H H' → SqL K H' a xs) (hx : Paired S xs ds) (few : xs.length ≤ 50000)
    (turn : LcTurn S R f b g t te vs σ H ds) (q : ∀ p H2 ys, H p = none → Same H H2 → H2 p = some (.lst ys) → Paired (R H2) ys ((ds.filter f).map b) → Qa p H2) :
    ∃ a', V.ref a = .ref a' ∧ (∃ xs, SqL K H a' xs) ∧ ∀ D, H D = none → ∃ W : Nat → Nat → Hp → Prop, (∃ m, W 0 m (upd H D (.lst []))) ∧ ∀ i m H, W i m H → ((Itl K a').stop i H ∧ Qa D H) ∨ ((Itl K a').go i H ∧ ∃ Nx : Hp → Prop, (∀ H', Nx H' → ∃ m', m' < m ∧ W (i + 1) m' H') ∧ ∀ x H', (Itl K a').yld i H x H' →
      g x (wipe σ vs) H' fun σ2 H2 => wipe σ2 vs = wipe σ vs ∧ t σ2 H2 fun b H3 => if b = true then te σ2 H3 fun y H4 => ∃ acc, H4 D = some (.lst acc) ∧ acc.length < sizeLine ∧ Nx (upd H4 D (.lst (acc ++ [y]))) else Nx H3) :=
  ⟨a, rfl, ⟨xs, ha⟩, fun D hD => lc_data mono (walk_list.mono (fun H' s' => keep H' s') fun _ _ _ _ _ _ y => y) hx few turn hD fun H2 ys s2 hy hp => q D H2 ys hD s2 hy hp⟩
theorem lc_tup_data {Qa : Addr → Hp → Prop} {ds : List δ} {S : V → δ → Prop} (R : Hp → V → β → Prop) (f : δ → Bool) (b : δ → β) (mono : ∀ H H' v b, Px H H' → R H v b → R H' v b) (ha : Tq K H a xs) (hx : Paired S xs ds) (few : xs.length ≤ 50000)
    (turn : LcTurn S R f b g t te vs σ H ds) (q : ∀ p H2 ys, H p = none → Same H H2 → H2 p = some (.lst ys) → Paired (R H2) ys ((ds.filter f).map b) → Qa p H2) :
    ∃ a', V.ref a = .ref a' ∧ (∃ xs, SqT K H a' xs) ∧ ∀ D, H D = none → ∃ W : Nat → Nat → Hp → Prop, (∃ m, W 0 m (upd H D (.lst []))) ∧ ∀ i m H, W i m H → ((Itt K a').stop i H ∧ Qa D H) ∨ ((Itt K a').go i H ∧ ∃ Nx : Hp → Prop, (∀ H', Nx H' → ∃ m', m' < m ∧ W (i + 1) m' H') ∧ ∀ x H', (Itt K a').yld i H x H' →
      g x (wipe σ vs) H' fun σ2 H2 => wipe σ2 vs = wipe σ vs ∧ t σ2 H2 fun b H3 => if b = true then te σ2 H3 fun y H4 => ∃ acc, H4 D = some (.lst acc) ∧ acc.length < sizeLine ∧ Nx (upd H4 D (.lst (acc ++ [y]))) else Nx H3) :=
  ⟨a, rfl, ⟨xs, ha.sq⟩, fun D hD => lc_data mono (walk_tup.mono (fun H' s' => (ha.mono (Same.px s')).sq) fun _ _ _ _ _ _ y => y) hx few turn hD fun H2 ys s2 hy hp => q D H2 ys hD s2 hy hp⟩
theorem w_lcOpen {wi : TI} (h : wi σ H fun J H1 => ∀ D, H1 D = none → ∃ W : Nat → Nat → Hp → Prop, (∃ m, W 0 m (upd H1 D (.lst []))) ∧ ∀ i m H, W i m H → (J.stop i H ∧ Q (.ref D) H) ∨ (J.go i H ∧ ∃ Nx : Hp → Prop, (∀ H', Nx H' → ∃ m', m' < m ∧ W (i + 1) m' H') ∧ ∀ x H', J.yld i H x H' →
      g x (wipe σ vs) H' fun σ2 H2 => wipe σ2 vs = wipe σ vs ∧ t σ2 H2 fun b H3 => if b = true then te σ2 H3 fun y H4 => ∃ acc, H4 D = some (.lst acc) ∧ acc.length < sizeLine ∧ Nx (upd H4 D (.lst (acc ++ [y]))) else Nx H3)) : tLc wi g t te vs σ H Q := h
theorem w_iList {R : It → Hp → Prop} (h : tl σ H fun x H1 => ∃ a, x = .ref a ∧ (∃ xs, SqL K H1 a xs) ∧ R (Itl K a) H1) : iList K tl σ H R := h
theorem w_iTup {R : It → Hp → Prop} (h : tl σ H fun x H1 => ∃ a, x = .ref a ∧ (∃ xs, SqT K H1 a xs) ∧ R (Itt K a) H1) : iTup K tl σ H R := h
theorem bls_of {H : Hp} : ∀ {ys : List V} {bs : List Bool}, Paired (fun v b => v = V.bl b) ys bs → ys = bs.map V.bl
  | _, _, .nil => rfl
  | _, _, .cons h r => by rw [h, bls_of (H := H) r]; rfl
theorem w_any {bs : List Bool} (h : H a = some (.lst (bs.map V.bl))) (q : Q (.bl (bs.any id)) H) : rAny K [.ref a] H Q := ⟨a, bs, rfl, SqL.of h, q⟩
theorem w_all {bs : List Bool} (h : H a = some (.lst (bs.map V.bl))) (q : Q (.bl (bs.all id)) H) : rAll K [.ref a] H Q := ⟨a, bs, rfl, SqL.of h, q⟩
end

/-! ### the script, a box of one number -/
def Scr (K : PySem.W.Frag) (H : Hp) (a : Addr) (ns : List Int) : Prop := (∃ o, H a = some (.frz o (.lst (ns.map V.int)))) ∨ ∀ H' : Hp, SqL K H' a (ns.map V.int)
theorem Scr.sq {K : PySem.W.Frag} {H : Hp} {a : Addr} {ns : List Int} (h : Scr K H a ns) : SqL K H a (ns.map V.int) := h.elim (fun ⟨o, h⟩ => .inl (.inr ⟨o, h⟩)) fun h => h H
theorem Scr.keep {K : PySem.W.Frag} {H H' : Hp} {a : Addr} {ns : List Int} (h : Scr K H a ns) (k : ∀ o u, H a = some (.frz o u) → H' a = some (.frz o u)) : Scr K H' a ns := h.elim (fun ⟨o, h⟩ => .inl ⟨o, k _ _ h⟩) .inr
theorem Scr.same {K : PySem.W.Frag} {H H' : Hp} {a : Addr} {ns : List Int} (h : Scr K H a ns) (s : Same H H') : Scr K H' a ns := h.keep fun _ _ e => s _ _ e
theorem Scr.upd {K : PySem.W.Frag} {H : Hp} {a p : Addr} {ns : List Int} {o u : HO} (h : Scr K H a ns) (e : H p = some u) (n : ∀ o w, u ≠ .frz o w) : Scr K (L2.upd H p o) a ns := h.keep fun o' w q => by
  rw [upd_ne]
  · exact q
  · rintro rfl
    rw [e] at q
    exact n _ _ (Option.some.inj q)
theorem scr_of {K : PySem.W.Frag} {H : Hp} {a : Addr} {ns : List Int} (o : Only H) (h : SqL K H a (ns.map V.int)) : Scr K H a ns := by
  rcases h with (h | ⟨ob, h⟩) | h
  · rcases o a with e | ⟨_, _, e⟩
    · rw [e] at h
      cases h
    · rw [e] at h
      cases h
  · exact .inl ⟨ob, h⟩
  · exact .inr fun H' => .inr h
def BoxAt (H : Hp) (p : Addr) : Prop := ∃ b : Int, H p = some (.lst [.int b])
theorem BoxAt.same {H H' : Hp} {p : Addr} (h : BoxAt H p) (s : Same H H') : BoxAt H' p := let ⟨b, h⟩ := h; ⟨b, s _ _ h⟩
theorem Ch.then {S : List Addr} {H H1 H2 : Hp} (c : Ch S H H1) (s : Same H1 H2) : Ch S H H2 := c.trans (Same.ch s)
theorem Ch.thenNew {S : List Addr} {H H1 : Hp} {p : Addr} {o : HO} (c : Ch S H H1) (h : H1 p = none) : Ch S H (L2.upd H1 p o) := c.then (Same.new h)
theorem Ch.thenUpd {S : List Addr} {H H1 : Hp} {p : Addr} {o u : HO} (c : Ch S H H1) (h : H1 p = some u) (n : isTup u = false) (hp : p ∈ S ∨ H p = none) : Ch S H (L2.upd H1 p o) := by
  refine ⟨c.1.trans (Px.upd h n), fun a q e z => ?_⟩
  rw [upd_ne]
  · exact c.2 _ _ e z
  · rintro rfl
    rcases hp with hp | hp
    · exact z hp
    · rw [hp] at e; cases e
theorem Ch.scr {K : PySem.W.Frag} {S : List Addr} {H H' : Hp} {a : Addr} {ns : List Int} (c : Ch S H H') (h : Scr K H a ns) (hS : ∀ p ∈ S, ∀ o u, H p ≠ some (.frz o u)) : Scr K H' a ns := h.keep fun o u e => c.2 _ _ e fun z => hS _ z _ _ e
/-- int(box[0]) % n; box[0] = box[0] // n -/
def spTake : Sp := fun vs H Q _ => ∃ (a : Addr) (b n : Int), vs = [.ref a, .int n] ∧ H a = some (.lst [.int b]) ∧ 0 < n ∧ n < 1073741824 ∧ Q (.int (b % n)) (upd H a (.lst [.int (b / n)]))
theorem w_take {H : Hp} {Q : VK} {E : XK} {a : Addr} {n : Int} (h : BoxAt H a) (n0 : 0 < n) (n1 : n < 1073741824) (q : ∀ (i : Int) (H' : Hp), 0 ≤ i → i < n → Ch [a] H H' → BoxAt H' a → Q (.int i) H') : spTake [.ref a, .int n] H Q E := by
  obtain ⟨b, h⟩ := h
  exact ⟨a, b, n, rfl, h, n0, n1, q _ _ (Int.emod_nonneg _ (by omega)) (Int.emod_lt_of_pos _ n0) (Ch.upd h rfl) ⟨_, upd_same⟩⟩
def spNumber (K : PySem.W.Frag) : Sp := fun vs H Q _ => ∃ (a : Addr) (k : Int) (ns : List Int), vs = [.ref a, .int k] ∧ Scr K H a ns ∧ 0 ≤ k ∧ ∀ i, Q (.int i) H
theorem w_number {K : PySem.W.Frag} {H : Hp} {Q : VK} {E : XK} {a : Addr} {k : Int} {ns : List Int} (h : Scr K H a ns) (k0 : 0 ≤ k) (q : ∀ i, Q (.int i) H) : spNumber K [.ref a, .int k] H Q E := ⟨a, k, ns, rfl, h, k0, q⟩
def spLaw (K : PySem.W.Frag) : Sp := fun vs H Q _ => ∃ (a : Addr) (ns : List Int), vs = [.ref a] ∧ Scr K H a ns ∧ ns.length ≤ 63 ∧ ∀ H', Q (.bl true) H'
/-! ### what a dict's entries are -/
theorem atI_int {i : Int} {xs : List V} (h0 : 0 ≤ i) (h1 : i < xs.length) : ∃ v, atI xs i = some v ∧ xs[i.toNat]? = some v := by
  have lt : i.toNat < xs.length := by omega
  have e : ((i.toNat : Nat) : Int) = i := by omega
  have h : atI xs ((i.toNat : Nat) : Int) = some xs[i.toNat] := atI_nat (List.getElem?_eq_getElem lt)
  exact ⟨xs[i.toNat], e ▸ h, List.getElem?_eq_getElem lt⟩
theorem tyx_list {K : PySem.W.Frag} {H : Hp} {a : Addr} {xs : List V} (h : H a = some (.lst xs)) : TyX K H (.ref a) (.type "list") := .base (.lst h)
end Kt
set_option Elab.async false
set_option linter.all false
set_option maxRecDepth 100000
set_option maxHeartbeats 4000000
/-! Kv: the rules whose reading hangs on the written part, told for a K by name (so they serve within comprehensions too). -/
namespace Kt
open PySem PySem.Spec PyProof.Rows L2
section
variable {X : Cx} {K : PySem.W.Frag} (hK : X.K = K)
include hK
theorem ixL_K : IxR X (rIxL K) := by subst hK; exact ix_list
theorem ixT_K : IxR X (rIxT K) := by subst hK; exact ix_tup
theorem eqD_K (hu : X.A.units + 64 < cLine) : OpR X (compareOp .Eq) (rEqD K) := by subst hK; exact op_eqD hu
theorem neD_K (hu : X.A.units + 64 < cLine) : OpR X (compareOp .NotEq) (rNeD K) := by subst hK; exact op_neD hu
theorem inD_K (hu : X.A.units + 65 < cLine) : OpR X (compareOp .In) (rInD K) := by subst hK; exact op_inD hu
theorem notInD_K (hu : X.A.units + 65 < cLine) : OpR X (compareOp .NotIn) (rNotInD K) := by subst hK; exact op_notInD hu
theorem inS_K : OpR X (compareOp .In) (rIn K false) := by subst hK; exact op_in_seq
theorem notInS_K : OpR X (compareOp .NotIn) (rIn K true) := by subst hK; exact op_notIn_seq
theorem lenS_K : CallR X (.builtin "len") (rLenS K) := by subst hK; exact call_lenS
theorem listS_K : CallR X (.type "list") (rListS K) := by subst hK; exact call_listS
theorem tupleS_K : CallR X (.type "tuple") (rTupleL K) := by subst hK; exact call_tupleS
theorem any_K (hc : X.calm = true) : CallR X (.builtin "any") (rAny K) := by subst hK; exact cr_any hc
theorem all_K (hc : X.calm = true) : CallR X (.builtin "all") (rAll K) := by subst hK; exact cr_all hc
theorem sum_K (hc : X.calm = true) : CallR X (.builtin "sum") (rSum K) := by subst hK; exact cr_sum hc
theorem sortD_K (hu : X.A.units + 64 < cLine) : CallR X (.builtin "sorted") (rSortD K) := by subst hK; exact cr_sortD hu
theorem isi_K : CallR X (.builtin "isinstance") (rIsi K) := by subst hK; exact call_isi
theorem isiT_K : CallR X (.builtin "isinstance") (rIsiT K) := by subst hK; exact call_isiT
theorem slL_K : SlR X (rSlL K) := by subst hK; exact sl_list
theorem slT_K : SlR X (rSlT K) := by subst hK; exact sl_tup
theorem catT_K : OpR X (binaryOp .Add) (rCatT K) := by subst hK; exact op_catT
section
variable {e o tg : Expr} {es : List Expr} {te to : TE} {ta : TA} {f : Str} {pos pos' : Pos}
theorem pi_listK {tl : TE} (hl : PE X e tl) : PI X tg e (iList K tl) := by subst hK; exact pi_list hl
theorem pi_tupK {tl : TE} (hl : PE X e tl) : PI X tg e (iTup K tl) := by subst hK; exact pi_tup hl
theorem pe_fldK (he : PE X e te) (hb : attributeBase e f X.env (eval e X.env) = eval e X.env) : PE X (.Attribute e f pos) (tFld K te f) := by subst hK; exact pe_fld he hb
theorem ps_fldK {tv : TE} {value : Expr} (ha : PE X o to) (hv : PE X value tv) (hs : swapsWith value (some (.Attribute o f pos')) pos.line X.env = pure false) : PS X (.Assign [.Attribute o f pos'] value pos) (sFld K to tv f) := by subst hK; exact ps_fld ha hv hs
theorem ps_fldaugK {tv : TE} {value : Expr} {op : Operator} {rd : V → V → Hp → VK → Prop} (ha : PE X o to) (hv : PE X value tv) (hop : InOp X op rd) : PS X (.AugAssign (.Attribute o f pos') op value pos) (sFldAug K to tv rd f) := by subst hK; exact ps_fldaug ha hv hop
theorem pg_tupK {k n : Nat} {t : TGs} (hc : X.calm = true) (h : PGs X es t) (hn : (assignEach es X.env).length = n := by rfl) (hst : (assignEach es X.env).findIdx? (·.1) = none := by rfl) : PG X (.Tuple es k pos) (gTup K n t) := by subst hK; exact pg_tup hc h hn hst
def tTruth (K : PySem.W.Frag) (ta : TE) : TT := fun σ H Q => ta σ H fun x H' => ∃ k, TruV K x H' k ∧ Q k H'
omit hK in
theorem w_truth {σ : L2.St} {H : Hp} {Q : Bool → Hp → Prop} (h : te σ H fun x H' => ∃ k, TruV K x H' k ∧ Q k H') : tTruth K te σ H Q := h
theorem pt_truthK (ha : PE X e te) (he : ∀ whole, isTrue e X.env whole = (do let v ← whole; standAt e.pos; holding [v] (truthy v))) : PT X e (tTruth K te) := by subst hK; exact pt_truth ha he
theorem pi_enumK {p tpos : Pos} {elts : List Expr} {kk : Nat} (hg : Gl X "enumerate") (hm : X.mg "enumerate" = none) (ha : PA X [e] ta) (hs : starEach [e] X.env = [(false, eval e X.env)] := by rfl) :
    PI X (.Tuple elts kk tpos) (.Call (.Name "enumerate" p) [e] [] pos) (iEnum K ta) := by subst hK; exact pi_enum hg hm ha hs
theorem pi_zipK {e2 : Expr} {p tpos : Pos} {elts : List Expr} {kk : Nat} (hg : Gl X "zip") (hm : X.mg "zip" = none) (ha : PA X [e, e2] ta)
    (hs : starEach [e, e2] X.env = (false, eval e X.env) :: starEach [e2] X.env := by rfl) (hpl : (backTo pos (starEach [e2] X.env)).any (·.1) = false := by rfl) :
    PI X (.Tuple elts kk tpos) (.Call (.Name "zip" p) [e, e2] [] pos) (iZip K ta) := by subst hK; exact pi_zip hg hm ha hs hpl
theorem pe_bm0K {T id : String} {name : Str} {r : V → List V → Hp → VK → Prop} (pa : PlainAttrs T) (slot : Slot T name id) (hty : typeOf (.builtin id) = pure (.type "method_descriptor")) (hm : MtR X id r) (ho : PE X o to)
    (hbase : attributeBase o name X.env (eval o X.env) = eval o X.env := by rfl) (hline : (pos'.endLine == pos.line) = true := by rfl) : PE X (.Call (.Attribute o name pos') [] [] pos) (tBM0 K T r to) := by
  subst hK
  exact pe_bm0 pa slot hty hm ho hbase hline
theorem pe_bmK {T id : String} {name : Str} {r : V → List V → Hp → VK → Prop} (pa : PlainAttrs T) (slot : Slot T name id) (hty : typeOf (.builtin id) = pure (.type "method_descriptor")) (hm : MtR X id r) (ho : PE X o to) (ha : PA X (e :: es) ta)
    (hbase : attributeBase o name X.env (eval o X.env) = eval o X.env := by rfl)
    (few : ((backTo pos (starEach (e :: es) X.env)).all (fun x => !x.1) && (backToKw pos (keywordEach [] X.env)).all (fun x => x.1.isSome)
      && decide ((e :: es).length + ([] : List Keyword).length + (if ([] : List Keyword).isEmpty then 0 else 1) < 30)) = true := by rfl)
    (hline : (pos'.endLine == pos.line) = true := by rfl) (hs : starEach (e :: es) X.env = (false, eval e X.env) :: starEach es X.env := by rfl) (hplain : (backTo pos (starEach es X.env)).any (·.1) = false := by rfl) :
    PE X (.Call (.Attribute o name pos') (e :: es) [] pos) (tBM K T r to ta) := by
  subst hK
  exact pe_bm pa slot hty hm ho ha hbase few hline hs hplain
end
end
end Kt
set_option Elab.async false
set_option linter.all false
set_option maxRecDepth 100000
set_option maxHeartbeats 4000000
namespace K84
open PySem L2 Kt
/-! ### plain law -/
abbrev Nm := List Int
def nD (n : Nm) : PyData := .tuple (n.map .int)
def nK (n : Nm) : List Key := n.map Sum.inl
theorem plnAll_ints : ∀ n : Nm, PlnAll (n.map .int) = true
  | [] => rfl
  | _ :: n => by simp only [List.map_cons, PlnAll, Pln, Bool.true_and]; exact plnAll_ints n
theorem nD_pln (n : Nm) : Pln (nD n) = true := by simp only [nD, Pln]; exact plnAll_ints n
theorem nD_depth (n : Nm) : (nD n).depth ≤ 1 := by
  have h : PyData.depthAll (n.map .int) ≤ 0 := depthAll_le fun d hd => by
    obtain ⟨i, _, rfl⟩ := List.mem_map.mp hd
    simp [PyData.depth]
  simp only [nD, PyData.depth]
  omega
theorem map_int_inj : ∀ {a b : Nm}, a.map PyData.int = b.map PyData.int → a = b
  | [], [], _ => rfl
  | [], _ :: _, h => by simp at h
  | _ :: _, [], h => by simp at h
  | x :: a, y :: b, h => by
    simp only [List.map_cons, List.cons.injEq, PyData.int.injEq] at h
    rw [h.1, map_int_inj h.2]
theorem nD_inj {a b : Nm} (h : nD a = nD b) : a = b := by
  simp only [nD, PyData.tuple.injEq] at h
  exact map_int_inj h
theorem nD_eqv (a b : Nm) : PyData.eqv (nD a) (nD b) = decide (a = b) := by
  have h := eqv_iff (nD a) (nD b) (nD_pln a) (nD_pln b)
  by_cases e : a = b
  · rw [decide_eq_true e]
    exact h.mpr (by rw [e])
  · rw [decide_eq_false e]
    cases r : PyData.eqv (nD a) (nD b) with
    | false => rfl
    | true => exact absurd (nD_inj (h.mp r)) e
theorem nK_inj : ∀ {a b : Nm}, nK a = nK b → a = b
  | [], [], _ => rfl
  | [], _ :: _, h => by simp [nK] at h
  | _ :: _, [], h => by simp [nK] at h
  | x :: a, y :: b, h => by
    simp only [nK, List.map_cons, List.cons.injEq, Sum.inl.injEq] at h
    rw [h.1, nK_inj (a := a) (b := b) h.2]
theorem nK_v (n : Nm) : (nK n).map kV = n.map V.int := by
  unfold nK
  rw [List.map_map]
  rfl
theorem nK_d (n : Nm) : kDs (nK n) = nD n := by
  unfold kDs nK nD
  rw [List.map_map]
  rfl
/-- the first of the rest that no other one of it has to stand ahead of -/
def free1 (prs : List (Nm × Nm)) (rest : List Nm) : Option Nm := rest.find? fun n => !(rest.any fun m => decide ((m, n) ∈ prs))
def order (prs : List (Nm × Nm)) : Nat → List Nm → Option (List Nm)
  | 0, _ => some []
  | k + 1, rest => if rest = [] then some [] else match free1 prs rest with
    | none => none
    | some n => (order prs k (rest.filter fun m => decide (m ≠ n))).map (n :: ·)
def srtN (ns : List Nm) : List Nm := srtBy nD ns
theorem srtN_perm (ns : List Nm) : (srtN ns).Perm ns := List.mergeSort_perm _ _
/-! ### names, pairs in the heap -/
def NmAt (H : Hp) (v : V) (n : Nm) : Prop := ∃ b, v = .ref b ∧ H b = some (.tup (n.map V.int))
def PrAt (H : Hp) (v : V) (p : Nm × Nm) : Prop := ∃ b x y, v = .ref b ∧ H b = some (.tup [x, y]) ∧ NmAt H x p.1 ∧ NmAt H y p.2
theorem NmAt.px {H H' : Hp} {v : V} {n : Nm} (p : Px H H') (h : NmAt H v n) : NmAt H' v n := let ⟨b, e, h⟩ := h; ⟨b, e, p _ _ h⟩
theorem PrAt.px {H H' : Hp} {v : V} {n : Nm × Nm} (p : Px H H') (h : PrAt H v n) : PrAt H' v n := let ⟨b, x, y, e, h, h1, h2⟩ := h; ⟨b, x, y, e, p _ _ h, h1.px p, h2.px p⟩
theorem rps_ints {K : PySem.W.Frag} {H : Hp} : ∀ n : Nm, Rps K H (n.map V.int) (n.map .int)
  | [] => .nil
  | i :: n => .cons (.int i) (rps_ints n)
theorem NmAt.rp {K : PySem.W.Frag} {H : Hp} {v : V} {n : Nm} (h : NmAt H v n) : Rp K H v (nD n) := by
  obtain ⟨b, rfl, h⟩ := h
  exact .tup (.inl h) (rps_ints n)
theorem PrAt.rp {K : PySem.W.Frag} {H : Hp} {v : V} {p : Nm × Nm} (h : PrAt H v p) : Rp K H v (.tuple [nD p.1, nD p.2]) := by
  obtain ⟨b, x, y, rfl, h, h1, h2⟩ := h
  exact .tup (.inl h) (.cons h1.rp (.cons h2.rp .nil))
theorem dpAll_of {K : PySem.W.Frag} {H : Hp} {β : Type} {R : V → β → Prop} {enc : β → PyData} (hR : ∀ v b, R v b → Rp K H v (enc b)) : ∀ {vs : List V} {bs : List β}, Paired R vs bs → DpAll K H vs (bs.map enc)
  | _, _, .nil => .nil
  | _, _, .cons h r => .cons (hR _ _ h).d (dpAll_of hR r)
theorem nms_shaped (as : List Nm) : SeqAt.shaped (.list (as.map nD)) = true := shapedL_of (PlnAll_iff.mpr fun d hd => by
    obtain ⟨n, _, rfl⟩ := List.mem_map.mp hd
    exact nD_pln n) fun d hd => by
    obtain ⟨n, _, rfl⟩ := List.mem_map.mp hd
    have := nD_depth n
    omega
theorem nm_shaped (n : Nm) : SeqAt.shaped (nD n) = true := shaped_of (nD_pln n) (by have := nD_depth n; omega)
theorem any_nD (as : List Nm) (m : Nm) : ((as.map nD).any fun z => PyData.eqv z (nD m)) = decide (m ∈ as) := by
  rw [List.any_map]
  by_cases h : m ∈ as
  · rw [decide_eq_true h, List.any_eq_true]
    exact ⟨m, h, by simp [nD_eqv]⟩
  · rw [decide_eq_false h, List.any_eq_false]
    intro x hx e
    simp only [Function.comp_apply, nD_eqv, decide_eq_true_eq] at e
    exact h (e ▸ hx)
section
variable {K : PySem.W.Frag} {H : Hp} {Q : VK} {x y : V} {m n : Nm} {l D : Addr} {vs : List V} {as : List Nm} {kvs : List (List Key × V)} {v : V}
theorem w_inN (hx : NmAt H x m) (hl : H l = some (.lst vs)) (hp : Paired (NmAt H) vs as) (q : Q (.bl (decide (m ∈ as))) H) : rInD K x (.ref l) H Q :=
  ⟨nD m, as.map nD, hx.rp.d, .lst (SqL.of hl) (dpAll_of (fun _ _ h => h.rp) hp), nm_shaped m, nms_shaped as, by rw [any_nD]; exact q⟩
theorem w_notInN (hx : NmAt H x m) (hl : H l = some (.lst vs)) (hp : Paired (NmAt H) vs as) (q : Q (.bl (!decide (m ∈ as))) H) : rNotInD K x (.ref l) H Q :=
  ⟨nD m, as.map nD, hx.rp.d, .lst (SqL.of hl) (dpAll_of (fun _ _ h => h.rp) hp), nm_shaped m, nms_shaped as, by rw [any_nD]; exact q⟩
theorem w_eqN (hx : NmAt H x m) (hy : NmAt H y n) (q : Q (.bl (decide (m = n))) H) : rEqD K x y H Q := ⟨nD m, nD n, hx.rp.d, hy.rp.d, nm_shaped m, nm_shaped n, by rw [nD_eqv]; exact q⟩
theorem w_neN (hx : NmAt H x m) (hy : NmAt H y n) (q : Q (.bl (!decide (m = n))) H) : rNeD K x y H Q := ⟨nD m, nD n, hx.rp.d, hy.rp.d, nm_shaped m, nm_shaped n, by rw [nD_eqv]; exact q⟩
theorem dget_nm (hD : H D = some (.dT kvs)) (hx : NmAt H x n) (hv : valV kvs (nK n) = some v) : DGet H D x (some v) := by
  obtain ⟨b, rfl, h⟩ := hx
  rw [← hv]
  exact DGet.t hD (by rw [nK_v]; exact h)
theorem dput_nm (hD : H D = some (.dT kvs)) (hx : NmAt H x n) (hl : kvs.length < sizeLine) : DPut H D x v (upd H D (.dT (putK kvs (nK n) v))) := by
  obtain ⟨b, rfl, h⟩ := hx
  exact DPut.t hD (by rw [nK_v]; exact h) hl
theorem w_dget {td ty : TE} {σ : L2.St} (h : td σ H fun x H1 => ty σ H1 fun y H2 => ∃ a v, x = .ref a ∧ DGet H2 a y (some v) ∧ Q v H2) : tDGet td ty σ H Q := h
end
def top (i : Nat) : Stmt := PySem.Challenge.pw_crosskeep_k84_names_are_sorted.main.body.getD i (.Pass ⟨0, 0, 0, 0⟩)
abbrev s_names_ahead : Stmt := top 1
abbrev s_first_free : Stmt := top 2
abbrev s_sorted_names : Stmt := top 3
abbrev s_l_number : Stmt := top 5
abbrev s_l_take : Stmt := top 6
abbrev s_l_due : Stmt := top 7
abbrev s_law : Stmt := top 8
abbrev n_names_ahead : List Str := ["names", "pairs", "ahead", "first", "second", "name"]
theorem sc_names_ahead : FnScope n_names_ahead ["names", "pairs"] (defScope s_names_ahead) := ⟨rfl, rfl, rfl, by decide +kernel, rfl, by decide +kernel, by decide +kernel⟩
abbrev n_first_free : List Str := ["rest", "ahead", "name", "other"]
theorem sc_first_free : FnScope n_first_free ["rest", "ahead"] (defScope s_first_free) := ⟨rfl, rfl, rfl, by decide +kernel, rfl, by decide +kernel, by decide +kernel⟩
abbrev n_sorted_names : List Str := ["names", "pairs", "ahead", "rest", "found", "name", "other"]
theorem sc_sorted_names : FnScope n_sorted_names ["names", "pairs"] (defScope s_sorted_names) := ⟨rfl, rfl, rfl, by decide +kernel, rfl, by decide +kernel, by decide +kernel⟩
abbrev n_l_number : List Str := ["_law_script", "_law_k", "_law_cell", "_law_first", "_law_second"]
theorem sc_l_number : FnScope n_l_number ["_law_script", "_law_k"] (defScope s_l_number) := ⟨rfl, rfl, rfl, by decide +kernel, rfl, by decide +kernel, by decide +kernel⟩
abbrev n_l_take : List Str := ["_law_box", "_law_size", "_law_digit"]
theorem sc_l_take : FnScope n_l_take ["_law_box", "_law_size"] (defScope s_l_take) := ⟨rfl, rfl, rfl, by decide +kernel, rfl, by decide +kernel, by decide +kernel⟩
abbrev n_l_due : List Str := ["_law_names", "_law_pairs", "_law_rest", "_law_found", "_law_turn", "_law_free", "_law_name", "_law_pair"]
theorem sc_l_due : FnScope n_l_due ["_law_names", "_law_pairs"] (defScope s_l_due) := ⟨rfl, rfl, rfl, by decide +kernel, rfl, by decide +kernel, by decide +kernel⟩
abbrev n_law : List Str := ["_law_script", "_law_box", "_law_names", "_law_k", "_law_name", "_law_bent", "_law_pairs", "_law_first", "_law_second", "_law_known", "_law_given", "_law_told"]
theorem sc_law : FnScope n_law ["_law_script"] (defScope s_law) := ⟨rfl, rfl, rfl, by decide +kernel, rfl, by decide +kernel, by decide +kernel⟩
def d_names_ahead : He.DefD := ⟨("names_ahead", none), "names_ahead", "names_ahead", defArgs s_names_ahead, defBody s_names_ahead, defScope s_names_ahead, [], []⟩
def d_first_free : He.DefD := ⟨("first_free", none), "first_free", "first_free", defArgs s_first_free, defBody s_first_free, defScope s_first_free, [], []⟩
def d_sorted_names : He.DefD := ⟨("sorted_names", none), "sorted_names", "sorted_names", defArgs s_sorted_names, defBody s_sorted_names, defScope s_sorted_names, [], []⟩
def d_l_number : He.DefD := ⟨("_law_number", none), "_law_number", "_law_number", defArgs s_l_number, defBody s_l_number, defScope s_l_number, [], []⟩
def d_l_take : He.DefD := ⟨("_law_take", none), "_law_take", "_law_take", defArgs s_l_take, defBody s_l_take, defScope s_l_take, [], []⟩
def d_l_due : He.DefD := ⟨("_law_due", none), "_law_due", "_law_due", defArgs s_l_due, defBody s_l_due, defScope s_l_due, [], []⟩
def d_law : He.DefD := ⟨("law", none), "law", "law", defArgs s_law, defBody s_law, defScope s_law, [], []⟩
def fnL : List He.DefD := [d_names_ahead, d_first_free, d_sorted_names, d_l_number, d_l_take, d_l_due, d_law]
def faL : List He.Fa := [.free "int", .free "len", .free "any", .glo "names_ahead", .free "sorted", .glo "first_free", .free "range", .glo "_law_number", .glo "_law_take", .glo "sorted_names", .glo "_law_due", .free "list", .free "isinstance", .glo "law"]
structure Tx (K : PySem.W.Frag) (mg : Str → Option Value) : Prop where
  c : He.SaysD faL fnL K
  h : ∃ h : Heap, K.In h ∧ h.Ns mainGlobals mg
section
variable {K : PySem.W.Frag} {mg : Str → Option Value} (T : Tx K mg)
include T
theorem Tx.glo (i : Nat) {x : Str} (h : faL[i]? = some (.glo x) := by rfl) : mg x = some (.ref (He.ga K x)) := let ⟨_, X, G⟩ := T.h; He.glo_ok X G (T.c.fact i h)
theorem Tx.fre (i : Nat) {x : Str} (h : faL[i]? = some (.free x) := by rfl) : mg x = none := let ⟨_, X, G⟩ := T.h; He.free_ok X G (T.c.fact i h)
theorem Tx.int (i : Nat) {x : Str} {n : Int} (h : faL[i]? = some (.int x n) := by rfl) : ∃ t, mg x = some (.int n t) := let ⟨_, X, G⟩ := T.h; He.int_ok X G (T.c.fact i h)
theorem Tx.str (i : Nat) {x z : Str} (h : faL[i]? = some (.str x z) := by rfl) : ∃ t, mg x = some (.str z t) := let ⟨_, X, G⟩ := T.h; He.str_ok X G (T.c.fact i h)
end
section
variable {K : PySem.W.Frag} {mg : Str → Option Value} (T : Tx K mg)
include T
theorem Tx.f_names_ahead : Fun K "names_ahead" "names_ahead" s_names_ahead (He.ga K "names_ahead") (fdOf K (He.ga K "names_ahead")) := fun_ofD (T.c.def_ 0)
theorem Tx.kp_names_ahead : PySem.W.keepIn K (.ref (He.ga K "names_ahead")) = true := T.f_names_ahead.kp
theorem Tx.b_names_ahead : Binds K (fdOf K (He.ga K "names_ahead")) ["names", "pairs"] [] := T.f_names_ahead.binds fun _ _ _ _ _ _ us hl => match us, hl with | [_, _], _ => rfl
theorem Tx.f_first_free : Fun K "first_free" "first_free" s_first_free (He.ga K "first_free") (fdOf K (He.ga K "first_free")) := fun_ofD (T.c.def_ 1)
theorem Tx.kp_first_free : PySem.W.keepIn K (.ref (He.ga K "first_free")) = true := T.f_first_free.kp
theorem Tx.b_first_free : Binds K (fdOf K (He.ga K "first_free")) ["rest", "ahead"] [] := T.f_first_free.binds fun _ _ _ _ _ _ us hl => match us, hl with | [_, _], _ => rfl
theorem Tx.f_sorted_names : Fun K "sorted_names" "sorted_names" s_sorted_names (He.ga K "sorted_names") (fdOf K (He.ga K "sorted_names")) := fun_ofD (T.c.def_ 2)
theorem Tx.kp_sorted_names : PySem.W.keepIn K (.ref (He.ga K "sorted_names")) = true := T.f_sorted_names.kp
theorem Tx.b_sorted_names : Binds K (fdOf K (He.ga K "sorted_names")) ["names", "pairs"] [] := T.f_sorted_names.binds fun _ _ _ _ _ _ us hl => match us, hl with | [_, _], _ => rfl
theorem Tx.f_l_number : Fun K "_law_number" "_law_number" s_l_number (He.ga K "_law_number") (fdOf K (He.ga K "_law_number")) := fun_ofD (T.c.def_ 3)
theorem Tx.kp_l_number : PySem.W.keepIn K (.ref (He.ga K "_law_number")) = true := T.f_l_number.kp
theorem Tx.b_l_number : Binds K (fdOf K (He.ga K "_law_number")) ["_law_script", "_law_k"] [] := T.f_l_number.binds fun _ _ _ _ _ _ us hl => match us, hl with | [_, _], _ => rfl
theorem Tx.f_l_take : Fun K "_law_take" "_law_take" s_l_take (He.ga K "_law_take") (fdOf K (He.ga K "_law_take")) := fun_ofD (T.c.def_ 4)
theorem Tx.kp_l_take : PySem.W.keepIn K (.ref (He.ga K "_law_take")) = true := T.f_l_take.kp
theorem Tx.b_l_take : Binds K (fdOf K (He.ga K "_law_take")) ["_law_box", "_law_size"] [] := T.f_l_take.binds fun _ _ _ _ _ _ us hl => match us, hl with | [_, _], _ => rfl
theorem Tx.f_l_due : Fun K "_law_due" "_law_due" s_l_due (He.ga K "_law_due") (fdOf K (He.ga K "_law_due")) := fun_ofD (T.c.def_ 5)
theorem Tx.kp_l_due : PySem.W.keepIn K (.ref (He.ga K "_law_due")) = true := T.f_l_due.kp
theorem Tx.b_l_due : Binds K (fdOf K (He.ga K "_law_due")) ["_law_names", "_law_pairs"] [] := T.f_l_due.binds fun _ _ _ _ _ _ us hl => match us, hl with | [_, _], _ => rfl
theorem Tx.f_law : Fun K "law" "law" s_law (He.ga K "law") (fdOf K (He.ga K "law")) := fun_ofD (T.c.def_ 6)
theorem Tx.kp_law : PySem.W.keepIn K (.ref (He.ga K "law")) = true := T.f_law.kp
theorem Tx.bT_law (s : Shared) (us : List Value) (hl : us.length = 1) : BindsTo s (fdOf K (He.ga K "law")) ⟨us, []⟩ ([("_law_script" : Str)].zip us) := bindsT (ps := [("_law_script" : Str)]) T.f_law (fun _ _ _ _ _ _ us hl => match us, hl with | [_], _ => rfl) s us hl
theorem Tx.b_law : Binds K (fdOf K (He.ga K "law")) ["_law_script"] [] := T.f_law.binds fun _ _ _ _ _ _ us hl => match us, hl with | [_], _ => rfl
end
local macro_rules | `(tactic| walk_at "s") => `(tactic| first
  | with_reducible refine w_seq ?_ | with_reducible refine w_asg ?_ | ((with_reducible refine' w_var ?h ?_); (case h => exact rfl)) | with_reducible refine w_c ?_ | with_reducible refine w_op ?_
  | with_reducible refine w_I0 ?_ | with_reducible refine w_cons ?_ | with_reducible refine w_nil ?_ | with_reducible refine w_cb ?_ | with_reducible refine w_int ?_ | with_reducible refine w_asgG ?_
  | with_reducible refine w_gSub ?_ | with_reducible refine w_ret ?_ | with_reducible refine w_retN ?_ | with_reducible refine w_drop ?_ | with_reducible refine w_next ?_ | with_reducible refine w_ifS ?_
  | with_reducible refine w_test ?_ | with_reducible refine w_tB ?_ | with_reducible refine w_bl ?_ | with_reducible refine w_not ?_ | with_reducible refine w_and ?_ | with_reducible refine w_or ?_ | with_reducible refine w_call ?_
  | ((with_reducible refine w_eq ?h ?_); (case h => exact rfl)) | ((with_reducible refine w_ne ?h ?_); (case h => exact rfl)) | with_reducible refine w_tup ?_ | with_reducible refine w_lst ?_ | with_reducible refine w_bm ?_
  | with_reducible refine w_isNo ?_ | with_reducible refine w_noNo ?_ | ((with_reducible refine w_I ?h ?_); (case h => first | (show (0 : Int) < _; decide) | exact Or.inl ⟨by decide, by decide⟩ | exact Or.inr ⟨by decide, by decide⟩ | exact ⟨by decide, by decide⟩ | exact ⟨by decide, by decide, by decide⟩))
  | with_reducible refine w_yes ?_ | with_reducible refine w_gName ?_ | with_reducible refine w_gCons ?_ | with_reducible refine w_gNil ?_ | with_reducible refine w_truth ?_ | with_reducible refine w_lcOpen ?_ | with_reducible refine w_iList ?_ | with_reducible refine w_iTup ?_ | with_reducible refine w_dget ?_ | with_reducible refine w_par ?_ | with_reducible refine w_two ?_)
local macro_rules | `(tactic| walk_at "g") => `(tactic| repeat walk_at "s")
section
variable {P : Program} {w : World} {K : PySem.W.Frag} {mg : Str → Option Value} {base : Heap}
theorem ok_l_take (T : Tx K mg) : FnOk P w K mg base CX0 1 (He.ga K "_law_take") (fdOf K (He.ga K "_law_take")) ["_law_box", "_law_size"] spTake := by
  refine T.f_l_take.ok sc_l_take
    (fun vs H Q E h => ?_) (fun cdv A outer s H vs Q E hr h => ?_)
  · obtain ⟨a, b, n, rfl, _⟩ := h
    rfl
  · obtain ⟨a, b, n, rfl, hb, hn, hn2, k⟩ := h
    refine ⟨_, (pss_cons (ps_set (i := 2) sc_l_take.nd rfl (Or.inl rfl) (pe_op op_mod (pe_callTy call_intI (by rfl) (T.fre 0) (by decide +kernel) (pa_cons (pe_ix (ixL_K (K := K) rfl) (pv 0) pe_int (fun _ _ => rfl)) pa_nil)) (pv 1)))
 (pss_cons (ps_asg (pe_op op_fdiv (pe_ix (ixL_K (K := K) rfl) (pv 0) pe_int (fun _ _ => rfl)) (pv 1)) (pg_sub (pv 0) pe_int set_list))
 (pss_one (ps_ret (pv 2))))), ?_⟩
    walk_at "g"
    refine w_ixL (v := .int b) (SqL.of hb) (by rfl) ?_
    walk_at "g"
    refine w_I hn ?_
    walk_at "g"
    refine w_ixL (v := .int b) (SqL.of hb) (by rfl) ?_
    walk_at "g"
    refine w_I ⟨hn, hn2⟩ ?_
    walk_at "g"
    refine w_setL hb rfl ?_
    walk_at "g"
    exact k
theorem ok_l_number (T : Tx K mg) : FnOk P w K mg base CX0 1 (He.ga K "_law_number") (fdOf K (He.ga K "_law_number")) ["_law_script", "_law_k"] (spNumber K) := by
  refine T.f_l_number.ok sc_l_number
    (fun vs H Q E h => ?_) (fun cdv A outer s H vs Q E hr h => ?_)
  · obtain ⟨a, b, n, rfl, _⟩ := h
    rfl
  · obtain ⟨a, k, ns, rfl, hs, hk, q⟩ := h
    have hs := hs.sq
    refine ⟨_, (pss_cons (ps_set (i := 2) sc_l_number.nd rfl (Or.inl rfl) pe_int)
 (Evl.pss_cut (ps_if (pt_cmpR op_gt (pe_callB (lenS_K (K := K) rfl) (by rfl) (T.fre 1) (by decide +kernel) (pa_cons (pv 0) pa_nil)) pe_int (nomark _))
 (pss_one (ps_set (i := 2) sc_l_number.nd rfl (Or.inl rfl) (pe_ix (ixL_K (K := K) rfl) (pv 0) (pe_op op_mod (pe_callTy call_intI (by rfl) (T.fre 0) (by decide +kernel) (pa_cons (pv 1) pa_nil)) (pe_callB (lenS_K (K := K) rfl) (by rfl) (T.fre 1) (by decide +kernel) (pa_cons (pv 0) pa_nil))) (fun _ _ => rfl))))
 pss_nil)
 (Evl.pss_cut (ps_if (pt_cmpR op_lt (pv 2) pe_int (nomark _))
 (pss_one (ps_set (i := 2) sc_l_number.nd rfl (Or.inl rfl) (pe_op op_sub pe_int (pe_op op_mul pe_int (pv 2)))))
 pss_nil)
 (pss_cons (ps_if (PW.pt (pw_and (pt_cmpR op_ge (pv 2) (pe_op op_pow pe_int pe_int) (nomark _)) (pw_and1 (pt_cmpR op_lt (pv 1) (pe_callB (lenS_K (K := K) rfl) (by rfl) (T.fre 1) (by decide +kernel) (pa_cons (pv 0) pa_nil)) (nomark _)))))
 (pss_one (ps_ret (pv 2)))
 pss_nil)
 (pss_cons (ps_set (i := 3) sc_l_number.nd rfl (Or.inl rfl) (pe_op op_mod (pe_callTy call_intI (by rfl) (T.fre 0) (by decide +kernel) (pa_cons (pe_op op_add (pe_op op_mul (pe_op op_add (pv 2) pe_int) pe_int) (pe_op op_mul (pe_op op_add (pv 1) pe_int) pe_int)) pa_nil)) pe_int))
 (pss_cons (ps_set (i := 4) sc_l_number.nd rfl (Or.inl rfl) (pe_op op_mod (pe_callTy call_intI (by rfl) (T.fre 0) (by decide +kernel) (pa_cons (pe_op op_add (pe_op op_add (pe_op op_mul (pe_op op_add (pv 3) pe_int) pe_int) (pe_op op_mul (pe_op op_add (pv 2) pe_int) pe_int)) (pv 1)) pa_nil)) pe_int))
 (pss_one (ps_ret (pe_op op_mod (pe_callTy call_intI (by rfl) (T.fre 0) (by decide +kernel) (pa_cons (pe_op op_add (pe_op op_add (pe_op op_mul (pv 3) pe_int) (pe_op op_mul (pv 4) pe_int)) (pv 2)) pa_nil)) pe_int))))))))), ?_⟩
    walk_at "g"
    refine w_cut (M := fun σ' H' => ∃ c : Int, σ' = [some (.ref a), some (.int k), some (.int c), none, none] ∧ H' = H) ?_ ?_
    · walk_at "g"
      refine w_lenL hs ?_
      walk_at "g"
      refine ⟨fun h => ?_, fun _ => ?_⟩
      · have h := of_decide_eq_true h
        rw [List.length_map] at h
        walk_at "g"
        refine w_lenL hs ?_
        walk_at "g"
        refine w_I (by rw [List.length_map]; exact h) ?_
        have e1 : 0 ≤ k % ((ns.map V.int).length : Int) := Int.emod_nonneg _ (by rw [List.length_map]; omega)
        have e2 : k % ((ns.map V.int).length : Int) < ((ns.map V.int).length : Int) := Int.emod_lt_of_pos _ (by rw [List.length_map]; omega)
        rw [List.length_map] at e1 e2
        refine w_ixL (v := .int (ns.getD (k % (ns.length : Int)).toNat 0)) hs ?_ ?_
        · rw [List.length_map]
          have e3 : k % (ns.length : Int) = ((k % (ns.length : Int)).toNat : Int) := by omega
          rw [e3]
          refine atI_nat ?_
          have e4 : (k % (ns.length : Int)).toNat < ns.length := by omega
          rw [List.getElem?_map, ← e3, List.getElem?_eq_getElem e4, List.getD_eq_getElem?_getD, List.getElem?_eq_getElem e4]
          rfl
        · exact ⟨_, rfl, rfl⟩
      · exact ⟨0, rfl, rfl⟩
    · rintro _ H ⟨c, rfl, rfl⟩
      refine w_cut (M := fun σ' H' => ∃ c : Int, σ' = [some (.ref a), some (.int k), some (.int c), none, none] ∧ H' = H) ?_ ?_
      · walk_at "g"
        refine ⟨fun _ => ?_, fun _ => ⟨c, rfl, rfl⟩⟩
        walk_at "g"
        exact ⟨_, rfl, rfl⟩
      · rintro _ H ⟨c, rfl, rfl⟩
        walk_at "g"
        refine ⟨fun _ => ?_, fun _ => ?_⟩
        · walk_at "g"
          refine w_lenL hs ?_
          walk_at "g"
          refine ⟨fun _ => ?_, fun _ => ?_⟩
          · walk_at "g"
            exact q _
          · walk_at "g"
            exact q _
        · refine ⟨nofun, fun _ => ?_⟩
          walk_at "g"
          exact q _

/-! ### names_ahead -/
def spAhead : Sp := fun vs H Q _ => ∃ (x : V) (l : Addr) (zs : List V) (names : List Nm) (prs : List (Nm × Nm)), vs = [x, .ref l] ∧ H l = some (.lst zs) ∧ Paired (PrAt H) zs prs ∧ names.Nodup ∧ (∀ p ∈ prs, p.2 ∈ names) ∧ names.length ≤ 100 ∧ prs.length ≤ 100 ∧
  ((∃ a ys, x = .ref a ∧ H a = some (.lst ys) ∧ Paired (NmAt H) ys names) ∨ ∃ a kvs, x = .ref a ∧ H a = some (.dT kvs) ∧ kvs.map (·.1) = names.map nK) ∧
  ∀ H' D kvs (L : Nm → Addr), Same H H' → H D = none → H' D = some (.dT kvs) → (∀ n ∈ names, valV kvs (nK n) = some (.ref (L n)) ∧ ∃ vs as, H' (L n) = some (.lst vs) ∧ Paired (NmAt H') vs as ∧ as.length ≤ 100 ∧ ∀ m, m ∈ as ↔ (m, n) ∈ prs) → Q (.ref D) H'
/-- the comprehension, whatever is walked -/
abbrev YNm (names : List Nm) : Nat → Hp → V → Hp → Prop := fun i H' x H'' => H'' = H' ∧ ∃ n, names[i]? = some n ∧ NmAt H' x n
theorem comp_ahead {J : It} {names : List Nm} {H1 : Hp} {D : Addr} {Qd : Hp → Prop} {a0 a1 : V} (w : Walk J names.length (Same H1) (YNm names)) (nd : names.Nodup) (few : names.length ≤ 100) (hD : H1 D = none)
    (q : ∀ H' kvs (L : Nm → Addr), Same H1 H' → H' D = some (.dT kvs) → (∀ n ∈ names, valV kvs (nK n) = some (.ref (L n)) ∧ H1 (L n) = none ∧ H' (L n) = some (.lst [])) → (∀ n ∈ names, ∀ m ∈ names, L n = L m → n = m) → Qd H') :
    ∃ W : Nat → Nat → Hp → Prop, (∃ m, W 0 m (upd H1 D (.dT []))) ∧ ∀ i m H, W i m H → (J.stop i H ∧ Qd H) ∨ (J.go i H ∧ ∃ Nx : Hp → Prop, (∀ H', Nx H' → ∃ m', m' < m ∧ W (i + 1) m' H') ∧
      ∀ x H', J.yld i H x H' → gName 5 x (wipe (L2.start n_names_ahead [a0, a1]) [5]) H' fun σ2 H2 => wipe σ2 [5] = wipe (L2.start n_names_ahead [a0, a1]) [5] ∧ tYes σ2 H2 fun b H3 =>
        if b = true then tVar 5 σ2 H3 fun y H4 => tLst tNil σ2 H4 fun z H5 => ∃ H6, DPut H5 D y z H6 ∧ Nx H6 else Nx H3) := by
  refine dcp_it w (fun i H' => Same H1 H' ∧ ∃ (kvs : List (List Key × V)) (L : Nm → Addr), H' D = some (.dT kvs) ∧ kvs.length ≤ i ∧ (∀ n ∈ names.take i, valV kvs (nK n) = some (.ref (L n)) ∧ H1 (L n) = none ∧ H' (L n) = some (.lst [])) ∧
    (∀ n ∈ names.take i, ∀ m ∈ names.take i, L n = L m → n = m)) ⟨Same.new hD, [], fun _ => 0, upd_same, Nat.le_refl _, by simp, by simp⟩ (fun i H' _ h => h.1) ?_ ?_
  · rintro i x H' H'' hi ⟨s1, kvs, L, hd, hk, hL, hinj⟩ ⟨e, n, hn, hx⟩
    subst e
    refine ⟨rfl, w_yes ?_⟩
    refine iteT ?_
    refine ⟨x, rfl, Nat.zero_le _, fun l hl => ?_⟩
    have nn : n ∉ names.take i := fun h => by
      obtain ⟨j, hj, e⟩ := List.mem_iff_getElem.mp h
      rw [List.length_take] at hj
      have e2 : names[j]? = some n := by
        rw [List.getElem_take] at e
        rw [List.getElem?_eq_getElem (by omega), e]
      have := nd_ix nd e2 hn
      omega
    have hlD : l ≠ D := by
      rintro rfl
      rw [hd] at hl
      cases hl
    have hx2 : NmAt (upd H'' l (.lst [])) x n := hx.px (Px.new hl)
    refine ⟨_, dput_nm (kvs := kvs) (by rw [upd_ne hlD.symm]; exact hd) hx2 (sz_lt (by omega)), ?_, putK kvs (nK n) (.ref l), fun m => if m = n then l else L m, upd_same, ?_, ?_, ?_⟩
    · grind [upd, Same]
    · have := length_putK kvs (nK n) (.ref l)
      omega
    · intro m hm
      rw [List.take_succ, hn] at hm
      by_cases e : m = n
      · subst e
        refine ⟨by rw [valV_put]; simp, ?_, ?_⟩
        · simp only [if_pos]
          exact Same.free s1 hl
        · simp only [if_pos]
          rw [upd_ne hlD, upd_same]
      · have hm' : m ∈ names.take i := by simpa [e] using hm
        obtain ⟨h1, h2, h3⟩ := hL m hm'
        simp only [if_neg e]
        refine ⟨?_, h2, ?_⟩
        · rw [valV_put, if_neg (fun z => e (nK_inj z))]
          exact h1
        · grind [upd, Same]
    · intro m1 h1 m2 h2 e
      rw [List.take_succ, hn] at h1 h2
      simp only [Option.toList_some, List.mem_append, List.mem_singleton] at h1 h2
      have fresh : ∀ m ∈ names.take i, L m ≠ l := fun m hm z => by
        have h3 := (hL m hm).2.2
        rw [z, hl] at h3
        cases h3
      rcases h1 with h1 | rfl <;> rcases h2 with h2 | rfl
      · have a1 : m1 ≠ n := fun z => nn (z ▸ h1)
        have a2 : m2 ≠ n := fun z => nn (z ▸ h2)
        simp only [if_neg a1, if_neg a2] at e
        exact hinj m1 h1 m2 h2 e
      · have a1 : m1 ≠ m2 := fun z => nn (z ▸ h1)
        simp only [if_neg a1, if_pos] at e
        exact absurd e (fresh m1 h1)
      · have a2 : m2 ≠ m1 := fun z => nn (z ▸ h2)
        simp only [if_neg a2, if_pos] at e
        exact absurd e.symm (fresh m2 h2)
      · rfl
  · rintro H' ⟨s1, kvs, L, hd, hk, hL, hinj⟩
    rw [List.take_length] at hL hinj
    exact q H' kvs L s1 hd hL hinj

theorem ahead_loop {H H1 : Hp} {D l : Addr} {zs : List V} {names : List Nm} {prs : List (Nm × Nm)} {a0 : V} {kvs : List (List Key × V)} {L : Nm → Addr} {Dn : Ends} (hl : H l = some (.lst zs)) (hz : Paired (PrAt H) zs prs) (few : prs.length ≤ 100) (hin : ∀ p ∈ prs, p.2 ∈ names)
    (s1 : Same H H1) (nD' : H D = none) (hD : H1 D = some (.dT kvs)) (hL : ∀ n ∈ names, valV kvs (nK n) = some (.ref (L n)) ∧ H (L n) = none ∧ H1 (L n) = some (.lst [])) (hinj : ∀ n ∈ names, ∀ m ∈ names, L n = L m → n = m)
    (q : ∀ σ' H', σ'[2]? = some (some (.ref D)) → Same H H' → H' D = some (.dT kvs) → (∀ n ∈ names, ∃ vs as, H' (L n) = some (.lst vs) ∧ Paired (NmAt H) vs as ∧ as.length ≤ prs.length ∧ ∀ m, m ∈ as ↔ (m, n) ∈ prs) → Dn.nx σ' H') :
    tFor (iList K (tVar 1)) (gTup K 2 (gCons (gName 3) (gCons (gName 4) gNil))) (tIfS (tTest (tOp (rNotInD K) (tVar 3) (tDGet (tVar 2) (tVar 4)))) (tDrop (tBM K "list" rAppend (tDGet (tVar 2) (tVar 4)) (tCons (tVar 3) tNil))) tNext) Dn
      [some a0, some (.ref l), some (.ref D), none, none, none] H1 := by
  refine ⟨_, rfl, l, rfl, ⟨_, SqL.of (s1 _ _ hl)⟩, for_list (xs := zs) (fun i σ' H' => ∃ x3 x4 : Option V, σ' = [some a0, some (.ref l), some (.ref D), x3, x4, none] ∧ Same H H' ∧ H' D = some (.dT kvs) ∧
    ∀ n ∈ names, ∃ vs as, H' (L n) = some (.lst vs) ∧ Paired (NmAt H) vs as ∧ as.length ≤ i ∧ ∀ m, m ∈ as ↔ (m, n) ∈ prs.take i) ?_ ?_ ?_ ?_⟩
  · exact ⟨none, none, rfl, s1, hD, fun n hn => ⟨[], [], (hL n hn).2.2, .nil, Nat.le_refl _, by simp⟩⟩
  · rintro i σ' H' _ ⟨x3, x4, rfl, s2, _⟩
    exact SqL.of (s2 _ _ hl)
  · rintro i x σ' H' hx ⟨x3, x4, rfl, s2, hd, hA⟩
    obtain ⟨⟨f, s⟩, hp, b, xf, xs, rfl, hb, hf, hs⟩ := Paired.getL hz hx
    have hmem : (f, s) ∈ prs := List.mem_of_getElem? hp
    have hsn : s ∈ names := hin _ hmem
    refine ⟨b, [xf, xs], rfl, SqT.of (s2 _ _ hb), rfl, xf, [xs], rfl, xs, [], rfl, rfl, ?_⟩
    have px : Px H H' := Same.px s2
    obtain ⟨vs, as, h1, h2, h3, h4⟩ := hA s hsn
    have h2' : Paired (NmAt H') vs as := Paired.imp (fun _ _ => NmAt.px px) h2
    have tk : prs.take (i + 1) = prs.take i ++ [(f, s)] := by rw [List.take_succ, hp]; rfl
    walk_at "g"
    refine ⟨D, _, rfl, dget_nm hd (hs.px px) (hL s hsn).1, ?_⟩
    refine w_notInN (hf.px px) h1 h2' ?_
    walk_at "g"
    refine ⟨fun hc => ?_, fun hc => ?_⟩
    · have hc : f ∉ as := by simpa using hc
      walk_at "g"
      refine ⟨D, _, rfl, dget_nm hd (hs.px px) (hL s hsn).1, tyL h1, ?_⟩
      walk_at "g"
      refine w_appR h1 (sz_lt ?_) ?_
      · have := Paired.length h2
        have hi : i < zs.length := (List.getElem?_eq_some_iff.mp hx).1
        have := Paired.length hz
        omega
      refine ⟨_, _, rfl, ?_, ?_, fun n hn => ?_⟩
      · have := (hL s hsn).2.1
        grind [upd, Same]
      · rw [upd_ne (ne_of hd h1 (by nofun))]
        exact hd
      · by_cases e : n = s
        · subst e
          refine ⟨_, as ++ [f], upd_same, Paired.snoc h2 hf, by simp; omega, fun m => ?_⟩
          rw [tk]
          simp only [List.mem_append, List.mem_singleton, h4 m, Prod.mk.injEq, and_true]
        · obtain ⟨vs', as', g1, g2, g3, g4⟩ := hA n hn
          refine ⟨vs', as', ?_, g2, by omega, fun m => ?_⟩
          · rw [upd_ne (fun z => e (hinj n hn s hsn z))]
            exact g1
          · rw [tk]
            simp only [List.mem_append, List.mem_singleton, g4 m, Prod.mk.injEq, e, and_false, or_false]
    · have hfa : f ∈ as := by simpa using hc
      walk_at "g"
      refine ⟨_, _, rfl, s2, hd, fun n hn => ?_⟩
      obtain ⟨vs', as', g1, g2, g3, g4⟩ := hA n hn
      refine ⟨vs', as', g1, g2, by omega, fun m => ?_⟩
      rw [tk]
      simp only [List.mem_append, List.mem_singleton, g4 m, Prod.mk.injEq]
      refine ⟨.inl, fun h => h.elim id fun ⟨e1, e2⟩ => ?_⟩
      subst e1 e2
      exact (h4 m).mp hfa
  · rintro σ' H' ⟨x3, x4, rfl, s2, hd, hA⟩
    refine q _ _ rfl s2 hd fun n hn => ?_
    obtain ⟨vs', as', g1, g2, g3, g4⟩ := hA n hn
    have len := Paired.length hz
    exact ⟨vs', as', g1, g2, by omega, fun m => by rw [g4, len, List.take_length]⟩
theorem ok_names_ahead (T : Tx K mg) : FnOk P w K mg base CX0 1 (He.ga K "names_ahead") (fdOf K (He.ga K "names_ahead")) ["names", "pairs"] spAhead := by
  refine T.f_names_ahead.ok sc_names_ahead
    (fun vs H Q E h => ?_) (fun cdv A outer s H vs Q E hr h => ?_)
  · obtain ⟨x, l, zs, names, prs, rfl, _⟩ := h
    rfl
  · obtain ⟨x, l, zs, names, prs, rfl, hl, hz, nd, hin, few, few2, src, q⟩ := h
    have fin : ∀ H' D (kvs : List (List Key × V)) (L : Nm → Addr), Same H H' → H D = none → H' D = some (.dT kvs) → (∀ n ∈ names, valV kvs (nK n) = some (.ref (L n)) ∧ H (L n) = none ∧ H' (L n) = some (.lst [])) → (∀ n ∈ names, ∀ m ∈ names, L n = L m → n = m) →
        tSeq (tFor (iList K (tVar 1)) (gTup K 2 (gCons (gName 3) (gCons (gName 4) gNil))) (tIfS (tTest (tOp (rNotInD K) (tVar 3) (tDGet (tVar 2) (tVar 4)))) (tDrop (tBM K "list" rAppend (tDGet (tVar 2) (tVar 4)) (tCons (tVar 3) tNil))) tNext)) (tRet (tVar 2)) { nx := fun _ H' => Q .non H', rt := Q }
          [some x, some (.ref l), some (.ref D), none, none, none] H' := fun H' D kvs L s1 nD' hD hL hinj => by
      walk_at "g"
      refine ahead_loop (names := names) hl hz few2 hin s1 nD' hD hL hinj fun σ' H2 h2 s2 hd hA => ?_
      exact ⟨_, h2, q H2 D kvs L s2 nD' hd fun n hn => by
        obtain ⟨vs', as', g1, g2, g3, g4⟩ := hA n hn
        exact ⟨(hL n hn).1, vs', as', g1, Paired.imp (fun _ _ => NmAt.px (Same.px s2)) g2, by omega, g4⟩⟩
    rcases src with ⟨a, ys, rfl, ha, hn⟩ | ⟨a, kvs, rfl, ha, hk⟩
    · refine ⟨_, (pss_cons (ps_setDcP (i := 2) (o0 := .dT []) (own := [("name", 5)]) rfl (hu_of hr) sc_names_ahead.nd (Or.inr rfl) rfl rfl (sw_trueD rfl rfl rfl (by decide +kernel)) (pi_listK (K := K) rfl (pv 0)) (blkOk_by (N := n_names_ahead) (sc := defScope s_names_ahead) (own := [("name", 5)]) (by decide +kernel)) (fun _ _ _ _ _ => (pg_name (i := 5) sc_names_ahead.nd rfl (Or.inl rfl))) (fun _ _ _ _ _ => pts_nil) (fun _ _ _ _ _ => (pv 5)) (fun _ _ _ _ _ => (pe_lst pa_nil)))
 (pss_cons (ps_for PassesOwn.never rfl (pi_listK (K := K) rfl (pv 1)) (pg_tupK (K := K) rfl (by rfl) (pgs_cons (pg_name (i := 3) sc_names_ahead.nd rfl (Or.inl rfl)) (pgs_cons (pg_name (i := 4) sc_names_ahead.nd rfl (Or.inl rfl)) pgs_nil)))
 (pss_one (ps_if (pt_cmpR (notInD_K (K := K) rfl (hu65 hr)) (pv 3) (pe_dget (hu_of hr) (pv 2) (pv 4) (fun _ _ => rfl)) (by rfl))
 (pss_one (ps_expr (pe_bmK (K := K) rfl PySem.F.plainAttrs_list PySem.F.slot_list_append PySem.F.type_list_append mt_append (pe_dget (hu_of hr) (pv 2) (pv 4) (fun _ _ => rfl)) (pa_cons (pv 3) pa_nil))))
 pss_nil)))
 (pss_one (ps_ret (pv 2))))), ?_⟩
      walk_at "g"
      refine ⟨_, rfl, a, rfl, ⟨_, SqL.of ha⟩, fun D hD => ?_⟩
      refine comp_ahead (names := names) (Paired.length hn ▸ walk_list.mono (fun H' s' => SqL.of (s' _ _ ha)) fun i H' x H'' _ s' y => ?_) nd few hD fun H' kvs L s1 hd hL hinj => ?_
      · obtain ⟨e, hx⟩ := y
        obtain ⟨n, h1, h2⟩ := Paired.getL hn hx
        exact ⟨e, n, h1, h2.px (Same.px s')⟩
      · exact fin H' D kvs L s1 hD hd hL hinj
    · refine ⟨_, (pss_cons (ps_lock (ps_setDcP (i := 2) (o0 := .dT []) (own := [("name", 5)]) rfl (hu_of hr) sc_names_ahead.nd (Or.inr rfl) rfl rfl (sw_trueD rfl rfl rfl (by decide +kernel)) (pi_keys (pv 0)) (blkOk_by (N := n_names_ahead) (sc := defScope s_names_ahead) (own := [("name", 5)]) (by decide +kernel)) (fun _ _ _ _ _ => (pg_name (i := 5) sc_names_ahead.nd rfl (Or.inl rfl))) (fun _ _ _ _ _ => pts_nil) (fun _ _ _ _ _ => (pv 5)) (fun _ _ _ _ _ => (pe_lst pa_nil))))
 (pss_cons (ps_for PassesOwn.never rfl (pi_listK (K := K) rfl (pv 1)) (pg_tupK (K := K) rfl (by rfl) (pgs_cons (pg_name (i := 3) sc_names_ahead.nd rfl (Or.inl rfl)) (pgs_cons (pg_name (i := 4) sc_names_ahead.nd rfl (Or.inl rfl)) pgs_nil)))
 (pss_one (ps_if (pt_cmpR (notInD_K (K := K) rfl (hu65 hr)) (pv 3) (pe_dget (hu_of hr) (pv 2) (pv 4) (fun _ _ => rfl)) (by rfl))
 (pss_one (ps_expr (pe_bmK (K := K) rfl PySem.F.plainAttrs_list PySem.F.slot_list_append PySem.F.type_list_append mt_append (pe_dget (hu_of hr) (pv 2) (pv 4) (fun _ _ => rfl)) (pa_cons (pv 3) pa_nil))))
 pss_nil)))
 (pss_one (ps_ret (pv 2))))), ?_⟩
      walk_at "g"
      refine ⟨a, _, ha, trivial, fun od => ?_⟩
      walk_at "g"
      have ha1 : upd H a (.frz od (.dT kvs)) a = some (.frz od (.dT kvs)) := upd_same
      refine ⟨_, rfl, a, od, rfl, .inr ⟨kvs, ha1, fun D hD => ?_⟩⟩
      have lk : kvs.length = names.length := by
        have e := congrArg List.length hk
        rwa [List.length_map, List.length_map] at e
      refine comp_ahead (names := names) (lk ▸ walk_keysT.mono (fun H' s' => s' _ _ ha1) fun i H' x H'' _ s' y => ?_) nd few hD fun H' kvs2 L s1 hd hL hinj => ?_
      · obtain ⟨e, k, v, q, h1, h2, h3⟩ := y
        have h4 : (kvs.map (·.1))[i]? = some k := by rw [List.getElem?_map, h1]; rfl
        rw [hk, List.getElem?_map] at h4
        obtain ⟨n, h5, h6⟩ := Option.map_eq_some_iff.mp h4
        refine ⟨e, n, h5, q, h2, ?_⟩
        rw [h3, ← h6, nK_v]
      · have hDa : D ≠ a := fun z => by
          rw [z, ha1] at hD
          cases hD
        refine ⟨s1 _ _ ha1, fin _ D kvs2 L ?_ ?_ ?_ (fun n hn => ?_) hinj⟩
        · intro b o hb
          by_cases e : b = a
          · subst e
            rw [upd_same, ← hb, ha]
          · rw [upd_ne e]
            exact s1 _ _ (by rw [upd_ne e]; exact hb)
        · rw [upd_ne hDa] at hD
          exact hD
        · rw [upd_ne hDa]
          exact hd
        · obtain ⟨g1, g2, g3⟩ := hL n hn
          have e : L n ≠ a := fun z => by
            rw [z, ha1] at g2
            cases g2
          rw [upd_ne e] at g2 ⊢
          exact ⟨g1, g2, g3⟩

/-! ### first_free -/
structure AhdAt (H : Hp) (D : Addr) (kvs : List (List Key × V)) (L : Nm → Addr) (names : List Nm) (prs : List (Nm × Nm)) : Prop where
  d : H D = some (.dT kvs)
  a : ∀ n ∈ names, valV kvs (nK n) = some (.ref (L n)) ∧ ∃ vs as, H (L n) = some (.lst vs) ∧ Paired (NmAt H) vs as ∧ as.length ≤ 100 ∧ ∀ m, m ∈ as ↔ (m, n) ∈ prs
theorem AhdAt.same {H H' : Hp} {D : Addr} {kvs : List (List Key × V)} {L : Nm → Addr} {names : List Nm} {prs : List (Nm × Nm)} (h : AhdAt H D kvs L names prs) (s : Same H H') : AhdAt H' D kvs L names prs :=
  ⟨s _ _ h.d, fun n hn => let ⟨g1, vs, as, g2, g3, g4, g5⟩ := h.a n hn; ⟨g1, vs, as, s _ _ g2, Paired.imp (fun _ _ => NmAt.px (Same.px s)) g3, g4, g5⟩⟩
def spFree : Sp := fun vs H Q _ => ∃ (r D : Addr) (rs : List V) (rest names : List Nm) (prs : List (Nm × Nm)) (kvs : List (List Key × V)) (L : Nm → Addr), vs = [.ref r, .ref D] ∧ H r = some (.lst rs) ∧ Paired (NmAt H) rs rest ∧ rest.length ≤ 100 ∧
  AhdAt H D kvs L names prs ∧ (∀ n ∈ rest, n ∈ names) ∧ (∀ H', Same H H' → free1 prs rest = none → Q .non H') ∧ ∀ H' n v, Same H H' → free1 prs rest = some n → NmAt H v n → Q v H'
theorem any_free {prs : List (Nm × Nm)} {rest as : List Nm} {n : Nm} (h : ∀ m, m ∈ as ↔ (m, n) ∈ prs) : (as.map fun m => decide (m ∈ rest)).any id = rest.any fun m => decide ((m, n) ∈ prs) := by
  rw [Bool.eq_iff_iff, List.any_eq_true, List.any_eq_true]
  constructor
  · rintro ⟨x, hx, e⟩
    obtain ⟨m, hm, rfl⟩ := List.mem_map.mp hx
    exact ⟨m, of_decide_eq_true e, decide_eq_true ((h m).mp hm)⟩
  · rintro ⟨m, hm, e⟩
    exact ⟨true, List.mem_map.mpr ⟨m, (h m).mpr (of_decide_eq_true e), decide_eq_true hm⟩, rfl⟩
theorem ok_first_free (T : Tx K mg) : FnOk P w K mg base CX0 1 (He.ga K "first_free") (fdOf K (He.ga K "first_free")) ["rest", "ahead"] spFree := by
  refine T.f_first_free.ok sc_first_free
    (fun vs H Q E h => ?_) (fun cdv A outer s H vs Q E hr h => ?_)
  · obtain ⟨r, D, rs, rest, names, prs, kvs, L, rfl, _⟩ := h
    rfl
  · obtain ⟨r, D, rs, rest, names, prs, kvs, L, rfl, hrs, hp, few, ah, sub, q1, q2⟩ := h
    refine ⟨_, (pss_cons (ps_for PassesOwn.never rfl (pi_listK (K := K) rfl (pv 0)) (pg_name (i := 2) sc_first_free.nd rfl (Or.inl rfl))
 (pss_one (ps_if (pt_not (pt_val (pe_callB (any_K (K := K) rfl rfl) (by rfl) (T.fre 2) (by decide +kernel) (pa_cons (pe_lc (own := [("other", 3)]) rfl sc_first_free.nd (pi_listK (K := K) rfl (pe_dget (hu_of hr) (pv 1) (pv 2) (fun _ _ => rfl))) (blkOk_by (N := n_first_free) (sc := defScope s_first_free) (own := [("other", 3)]) (by decide +kernel)) (fun _ _ _ _ _ => (pg_name (i := 3) sc_first_free.nd rfl (Or.inl rfl))) (fun _ _ _ _ _ => pts_nil) (fun _ _ _ _ _ => (pe_cmpR (inD_K (K := K) rfl (hu65 hr)) (pv 3) (pv 0) (by rfl)))) pa_nil))))
 (pss_one (ps_ret (pv 2)))
 pss_nil)))
 (pss_one (ps_ret pe_non))), ?_⟩
    walk_at "g"
    have len := Paired.length hp
    refine ⟨_, rfl, r, rfl, ⟨_, SqL.of hrs⟩, for_list (xs := rs) (fun i σ' H' => ∃ x : Option V, σ' = [some (.ref r), some (.ref D), x, none] ∧ Same H H' ∧ ∀ n ∈ rest.take i, (rest.any fun m => decide ((m, n) ∈ prs)) = true) ⟨none, rfl, Same.refl H, by simp⟩
      (fun i σ' H' _ ⟨_, _, s1, _⟩ => SqL.of (s1 _ _ hrs)) ?_ ?_⟩
    · rintro i x σ' H' hx ⟨x2, rfl, s1, hno⟩
      obtain ⟨n, hn, hnm⟩ := Paired.getL hp hx
      have hmem : n ∈ rest := List.mem_of_getElem? hn
      have ah' := ah.same s1
      obtain ⟨g1, vs, as, g2, g3, g4, g5⟩ := ah'.a n (sub n hmem)
      have hp' : Paired (NmAt H') rs rest := Paired.imp (fun _ _ => NmAt.px (Same.px s1)) hp
      walk_at "g"
      refine ⟨D, _, rfl, dget_nm ah'.d (hnm.px (Same.px s1)) g1, ?_⟩
      refine lc_list_data (ds := as) (S := NmAt H') (fun _ v (c : Bool) => v = .bl c) (fun _ => true) (fun m => decide (m ∈ rest)) (fun _ _ _ _ _ h => h) (SqL.of g2) (fun H2 s2 => SqL.of (s2 _ _ g2)) g3 (by have := Paired.length g3; omega) (fun y m H2 hm hy s2 N Y hN hY => ?_) fun p H2 ys hpn s2 hys hpd => ?_
      · refine ⟨rfl, w_yes ?_⟩
        refine iteT ?_
        walk_at "g"
        refine w_inN (hy.px (Same.px s2)) (s2 _ _ (s1 _ _ hrs)) (Paired.imp (fun _ _ => NmAt.px (Same.px s2)) hp') ?_
        exact hY rfl _ _ (Same.refl _) rfl
      · walk_at "g"
        have e : ys = ((as.filter fun _ => true).map fun m => decide (m ∈ rest)).map V.bl := bls_of (H := H) hpd
        rw [List.filter_eq_self.mpr (fun _ _ => rfl)] at e
        subst e
        refine w_any hys ?_
        rw [any_free g5]
        walk_at "g"
        refine ⟨fun hc => ?_, fun hc => ?_⟩
        · walk_at "g"
          refine q2 _ n x (s1.trans s2) ?_ hnm
          have hc : (rest.any fun m => decide ((m, n) ∈ prs)) = false := by simpa using hc
          unfold free1
          rw [List.find?_eq_some_iff_getElem]
          obtain ⟨hi, he⟩ := List.getElem?_eq_some_iff.mp hn
          refine ⟨by rw [hc]; rfl, i, hi, he, fun j hj => ?_⟩
          rw [hno _ (List.mem_take_iff_getElem.mpr ⟨j, by omega, rfl⟩)]
          rfl
        · have hc : (rest.any fun m => decide ((m, n) ∈ prs)) = true := by simpa using hc
          walk_at "g"
          refine ⟨_, rfl, s1.trans s2, fun m hm => ?_⟩
          rw [List.take_succ, hn] at hm
          rcases List.mem_append.mp hm with h | h
          · exact hno m h
          · have e : m = n := by simpa using h
            rw [e]
            exact hc
    · rintro σ' H' ⟨x2, rfl, s1, hno⟩
      walk_at "g"
      refine q1 _ s1 ?_
      rw [len, List.take_length] at hno
      unfold free1
      rw [List.find?_eq_none]
      intro n hn
      rw [hno n hn]
      decide

/-! ### sorted_names -/
theorem nD_alike : ∀ a b : Nm, PySem.W.alike (nD a) (nD b) = true := by
  have h : ∀ a b : Nm, PySem.W.alikeAll (a.map .int) (b.map .int) = true := fun a b => PySem.W.alike_ints a b
  intro a b
  simp only [nD, PySem.W.alike]
  exact h a b
theorem nms_srt {ns : List Nm} (h : ∀ n ∈ ns, n ≠ []) (few : ns.length ≤ 100) : SrtOk (ns.map nD) where
  al := fun d hd d' hd' => by
    obtain ⟨a, _, rfl⟩ := List.mem_map.mp hd
    obtain ⟨b, _, rfl⟩ := List.mem_map.mp hd'
    exact nD_alike a b
  so := .inl fun d hd => by
    obtain ⟨a, ha, rfl⟩ := List.mem_map.mp hd
    cases a with
    | nil => exact absurd rfl (h _ ha)
    | cons x a => exact ⟨_, _, rfl⟩
  dp := fun d hd => by
    obtain ⟨a, _, rfl⟩ := List.mem_map.mp hd
    have := nD_depth a
    omega
  few := by rw [List.length_map]; exact sz_le (by omega)
/-- a list of names, or None -/
def OutAt (H : Hp) (v : V) : Option (List Nm) → Prop
  | none => v = .non
  | some ns => ∃ p vs, v = .ref p ∧ H p = some (.lst vs) ∧ Paired (NmAt H) vs ns
def spSortedL : Sp := fun vs H Q _ => ∃ (x : V) (l : Addr) (zs : List V) (names : List Nm) (prs : List (Nm × Nm)), vs = [x, .ref l] ∧ H l = some (.lst zs) ∧ Paired (PrAt H) zs prs ∧ names.Nodup ∧ (∀ n ∈ names, n ≠ []) ∧ (∀ p ∈ prs, p.2 ∈ names) ∧ names.length ≤ 100 ∧ prs.length ≤ 100 ∧
  (∃ a ys, x = .ref a ∧ H a = some (.lst ys) ∧ Paired (NmAt H) ys names) ∧
  ∀ H' v, Same H H' → OutAt H' v (order prs names.length (srtN names)) → Q v H'
def spSortedD : Sp := fun vs H Q _ => ∃ (x : V) (l : Addr) (zs : List V) (names : List Nm) (prs : List (Nm × Nm)), vs = [x, .ref l] ∧ H l = some (.lst zs) ∧ Paired (PrAt H) zs prs ∧ names.Nodup ∧ (∀ n ∈ names, n ≠ []) ∧ (∀ p ∈ prs, p.2 ∈ names) ∧ names.length ≤ 100 ∧ prs.length ≤ 100 ∧
  (∃ a kvs, x = .ref a ∧ H a = some (.dT kvs) ∧ kvs.map (·.1) = names.map nK) ∧
  ∀ H' v, Same H H' → OutAt H' v (order prs names.length (srtN names)) → Q v H'
theorem filter_ne_len {n : Nm} : ∀ {rest : List Nm}, rest.Nodup → n ∈ rest → (rest.filter fun m => decide (m ≠ n)).length + 1 = rest.length
  | [], _, h => by simp at h
  | m :: rest, nd, h => by
    rw [List.nodup_cons] at nd
    by_cases e : m = n
    · subst e
      have : rest.filter (fun k => decide (k ≠ m)) = rest := List.filter_eq_self.mpr fun k hk => decide_eq_true fun z => nd.1 (z ▸ hk)
      rw [List.filter_cons, if_neg (by simp), this]
      rfl
    · have hn : n ∈ rest := by
        rcases List.mem_cons.mp h with h | h
        · exact absurd h.symm e
        · exact h
      rw [List.filter_cons, if_pos (decide_eq_true e)]
      simp only [List.length_cons]
      rw [filter_ne_len nd.2 hn]
theorem free1_mem {prs : List (Nm × Nm)} {rest : List Nm} {n : Nm} (h : free1 prs rest = some n) : n ∈ rest := List.mem_of_find?_eq_some h
/-- the while: what is found and what is left make the order -/
theorem sort_loop {H H0 : Hp} {x : V} {l D r q : Addr} {rs : List V} {names rest : List Nm} {prs : List (Nm × Nm)} {kvs : List (List Key × V)} {L : Nm → Addr} {Dn : Ends} {spf : Sp} (hsp : spf = spFree) (nd : rest.Nodup) (few : rest.length ≤ 100) (sub : ∀ n ∈ rest, n ∈ names)
    (hq : H q = some (.lst [])) (q0 : H0 q = none) (s0 : Same H0 H) (hr : H r = some (.lst rs)) (nqr : q ≠ r) (ah : AhdAt H D kvs L names prs) (hL : ∀ n ∈ names, L n ≠ q) (hp : Paired (NmAt H) rs rest) {len : Nat} (hlen : rest.length ≤ len)
    (fin : ∀ H' v, Same H0 H' → OutAt H' v (order prs len rest) → Dn.rt v H') (nx : Dn.nx = fun σ' H' => tRet (tVar 4) { nx := fun _ H' => Dn.rt .non H', rt := Dn.rt } σ' H') :
    tWhile (tTruth K (tVar 3)) (tSeq (tAsg (tCall spf [] E0 (tCons (tVar 3) (tCons (tVar 2) tNil))) (gName 5)) (tSeq (tIfS (tTest (tOp rIsNo (tVar 5) (tC .non))) (tRet (tC .non)) tNext) (tSeq (tDrop (tBM K "list" rAppend (tVar 4) (tCons (tVar 5) tNil)))
      (tAsg (tLc (iList K (tVar 3)) (gName 6) (tTest (tOp (rNeD K) (tVar 6) (tVar 5))) (tVar 6) [6]) (gName 3))))) Dn [some x, some (.ref l), some (.ref D), some (.ref r), some (.ref q), none, none] H := by
  subst hsp
  refine ⟨fun m σ' H' => ∃ (r' : Addr) (rs' : List V) (rest' : List Nm) (fs : List V) (found : List Nm) (x5 : Option V), m = rest'.length ∧ σ' = [some x, some (.ref l), some (.ref D), some (.ref r'), some (.ref q), x5, none] ∧ Same H0 H' ∧ AhdAt H' D kvs L names prs ∧
    H' r' = some (.lst rs') ∧ q ≠ r' ∧ Paired (NmAt H') rs' rest' ∧ rest'.Nodup ∧ (∀ n ∈ rest', n ∈ names) ∧ H' q = some (.lst fs) ∧ Paired (NmAt H') fs found ∧ found.length + rest'.length ≤ 100 ∧
    ∃ k, rest'.length ≤ k ∧ order prs len rest = (order prs k rest').map (found ++ ·), ⟨_, r, rs, rest, [], [], none, rfl, rfl, s0, ah, hr, nqr, hp, nd, sub, hq, .nil, by simpa using few, len, hlen, ?_⟩, ?_⟩
  · cases order prs len rest <;> simp
  · rintro m σ' H' ⟨r', rs', rest', fs, found, x5, rfl, rfl, s1, ah', hr', nq', hp', nd', sub', hq', hf', few', k, hk, ho⟩
    have ln := Paired.length hp'
    walk_at "g"
    refine ⟨!rs'.isEmpty, .inl ⟨rs', SqL.of hr', rfl⟩, ?_⟩
    cases rs' with
    | nil =>
      refine iteF ?_
      cases hp'
      rw [nx]
      walk_at "g"
      refine fin _ _ s1 ?_
      rw [ho]
      cases k with
      | zero => exact ⟨q, fs, rfl, hq', by simpa [order] using hf'⟩
      | succ k => exact ⟨q, fs, rfl, hq', by simpa [order] using hf'⟩
    | cons y ys =>
      refine iteT ?_
      refine ⟨fun σ2 H2 => ∃ (r' : Addr) (rs2 : List V) (rest2 : List Nm) (fs : List V) (found : List Nm) (x5 : Option V), rest2.length < rest'.length ∧ σ2 = [some x, some (.ref l), some (.ref D), some (.ref r'), some (.ref q), x5, none] ∧ Same H0 H2 ∧ AhdAt H2 D kvs L names prs ∧
        H2 r' = some (.lst rs2) ∧ q ≠ r' ∧ Paired (NmAt H2) rs2 rest2 ∧ rest2.Nodup ∧ (∀ n ∈ rest2, n ∈ names) ∧ H2 q = some (.lst fs) ∧ Paired (NmAt H2) fs found ∧ found.length + rest2.length ≤ 100 ∧
        ∃ k, rest2.length ≤ k ∧ order prs len rest = (order prs k rest2).map (found ++ ·), fun σ2 H2 ⟨a1, a2, a3, a4, a5, a6, a7, a8⟩ => ⟨_, a7, a1, a2, a3, a4, a5, a6, rfl, a8⟩, ?_⟩
      have ne : rest' ≠ [] := fun z => by
        subst z
        simp at ln
      obtain ⟨k, rfl⟩ : ∃ k', k = k' + 1 := ⟨k - 1, by have : 0 < rest'.length := List.length_pos_iff.mpr ne; omega⟩
      have ho2 : order prs (k + 1) rest' = match free1 prs rest' with
        | none => none
        | some n => (order prs k (rest'.filter fun m => decide (m ≠ n))).map (n :: ·) := by
        rw [order, if_neg ne]
      walk_at "g"
      refine ⟨r', D, y :: ys, rest', names, prs, kvs, L, rfl, hr', hp', by omega, ah', sub', fun H2 s2 e => ?_, fun H2 n v s2 e hv => ?_⟩
      · walk_at "g"
        refine ⟨fun _ => ?_, fun h => by simp at h⟩
        walk_at "g"
        refine fin _ _ (s1.trans s2) ?_
        rw [ho, ho2, e]
        rfl
      · have hmem := free1_mem e
        have hv2 : NmAt H2 v n := hv.px (Same.px s2)
        have hnn : v ≠ .non := fun z => by
          obtain ⟨b, e, _⟩ := hv
          rw [z] at e
          cases e
        walk_at "g"
        refine ⟨fun h => absurd (of_decide_eq_true h) hnn, fun _ => ?_⟩
        walk_at "g"
        have hq2 := s2 _ _ hq'
        refine ⟨tyL hq2, ?_⟩
        walk_at "g"
        refine w_appR hq2 (sz_lt (by have := Paired.length hf'; omega)) ?_
        walk_at "g"
        have px2 : Px H' (upd H2 q (.lst (fs ++ [v]))) := (Same.px s2).trans (Px.upd hq2 rfl)
        have hr2 : upd H2 q (.lst (fs ++ [v])) r' = some (.lst (y :: ys)) := by rw [upd_ne nq'.symm]; exact s2 _ _ hr'
        have hp2 : Paired (NmAt (upd H2 q (.lst (fs ++ [v])))) (y :: ys) rest' := Paired.imp (fun _ _ => NmAt.px px2) hp'
        refine lc_list_data (ds := rest') (S := NmAt (upd H2 q (.lst (fs ++ [v])))) (fun H v (m : Nm) => NmAt H v m) (fun m => decide (m ≠ n)) (fun m => m) (fun _ _ _ _ p h => h.px p) (SqL.of hr2) (fun H3 s3 => SqL.of (s3 _ _ hr2)) hp2 (by have := Paired.length hp2; omega)
          (fun z m H3 hm hz s3 N Y hN hY => ?_) fun p H3 zs hpn s3 hzs hpd => ?_
        · refine ⟨rfl, ?_⟩
          walk_at "g"
          refine w_neN (hz.px (Same.px s3)) ((hv2.px (Px.upd hq2 rfl)).px (Same.px s3)) ?_
          walk_at "g"
          by_cases e3 : m = n
          · rw [decide_eq_true e3]
            exact iteF (hN (by rw [e3]; simp) _ (Same.refl _))
          · rw [decide_eq_false e3]
            refine iteT ?_
            walk_at "g"
            exact hY (decide_eq_true e3) _ _ (Same.refl _) (hz.px (Same.px s3))
        · rw [List.map_id'] at hpd
          walk_at "g"
          have hqn : p ≠ q := by
            rintro rfl
            rw [upd_same] at hpn
            cases hpn
          have len2 := filter_ne_len nd' hmem
          refine ⟨p, zs, _, fs ++ [v], found ++ [n], _, by omega, rfl, ?_, ⟨?_, fun m hm => ?_⟩, hzs, hqn.symm, hpd, nd'.filter _, fun m hm => sub' m ((List.mem_filter.mp hm).1), s3 _ _ upd_same, ?_, ?_, k, by omega, ?_⟩
          · have := s1
            grind [upd, Same]
          · refine s3 _ _ ?_
            rw [upd_ne (ne_of (s2 _ _ ah'.d) hq2 (by nofun))]
            exact s2 _ _ ah'.d
          · obtain ⟨g1, vs, as, g2, g3, g4, g5⟩ := ah'.a m hm
            refine ⟨g1, vs, as, s3 _ _ ?_, Paired.imp (fun _ _ => NmAt.px (px2.trans (Same.px s3))) g3, g4, g5⟩
            rw [upd_ne (hL m hm)]
            exact s2 _ _ g2
          · exact PySem.Paired.snoc (Paired.imp (fun _ _ => NmAt.px (px2.trans (Same.px s3))) hf') ((hv2.px (Px.upd hq2 rfl)).px (Same.px s3))
          · simp only [List.length_append, List.length_singleton]
            omega
          · rw [ho, ho2, e]
            simp only [Option.map_map]
            congr 1
            funext z
            simp
theorem ok_sorted_namesL (T : Tx K mg) : FnOk P w K mg base CX0 2 (He.ga K "sorted_names") (fdOf K (He.ga K "sorted_names")) ["names", "pairs"] spSortedL := by
  refine T.f_sorted_names.ok sc_sorted_names
    (fun vs H Q E h => ?_) (fun cdv A outer s H vs Q E hr h => ?_)
  · obtain ⟨x, l, zs, names, prs, rfl, _⟩ := h
    rfl
  · obtain ⟨x, l, zs, names, prs, rfl, hl, hz, nd, hne, hin, few, few2, src, q⟩ := h
    refine ⟨_, (pss_cons (ps_set (i := 2) sc_sorted_names.nd rfl (Or.inl rfl) (pe_call (ok_names_ahead T) (hr.mono (by decide)) rfl (T.glo 3) (T.kp_names_ahead) (T.b_names_ahead) .nil pass0 (pa_cons (pv 0) (pa_cons (pv 1) pa_nil))))
 (pss_cons (ps_set (i := 3) sc_sorted_names.nd rfl (Or.inl rfl) (pe_callB (sortD_K (K := K) rfl hr.units) (by rfl) (T.fre 4) (by decide +kernel) (pa_cons (pv 0) pa_nil)))
 (pss_cons (ps_set (i := 4) sc_sorted_names.nd rfl (Or.inl rfl) (pe_lst pa_nil))
 (pss_cons (ps_while PassesOwn.never (pt_truthK (K := K) rfl (pv 3) (by intro _; rfl))
 (pss_cons (ps_set (i := 5) sc_sorted_names.nd rfl (Or.inr rfl) (pe_call (ok_first_free T) (hr.mono (by decide)) rfl (T.glo 5) (T.kp_first_free) (T.b_first_free) .nil pass0 (pa_cons (pv 3) (pa_cons (pv 2) pa_nil))))
 (pss_cons (ps_if (pt_cmpR op_isNo (pv 5) pe_non (nomark _))
 (pss_one (ps_ret pe_non))
 pss_nil)
 (pss_cons (ps_expr (pe_bmK (K := K) rfl PySem.F.plainAttrs_list PySem.F.slot_list_append PySem.F.type_list_append mt_append (pv 4) (pa_cons (pv 5) pa_nil)))
 (pss_one (ps_setLc (i := 3) (own := [("other", 6)]) rfl sc_sorted_names.nd rfl rfl (sw_true rfl rfl rfl (by decide +kernel)) (pi_listK (K := K) rfl (pv 3)) (blkOk_by (N := n_sorted_names) (sc := defScope s_sorted_names) (own := [("other", 6)]) (by decide +kernel)) (fun _ _ _ _ _ => (pg_name (i := 6) sc_sorted_names.nd rfl (Or.inl rfl))) (fun _ _ _ _ _ => pts_one (pt_cmpR (neD_K (K := K) rfl hr.units) (pv 6) (pv 5) (nomark _))) (fun _ _ _ _ _ => (pv 6))))))))
 (pss_one (ps_ret (pv 4))))))), ?_⟩
    walk_at "g"
    refine ⟨x, l, zs, names, prs, rfl, hl, hz, nd, hin, few, few2, .inl src, fun H1 D kvs2 L s1 nD' hd hA => ?_⟩
    walk_at "g"
    · obtain ⟨a, ys, rfl, ha, hn⟩ := src
      refine ⟨Nm, NmAt H1, nD, names, a, ys, rfl, SqL.of (s1 _ _ ha), Paired.imp (fun _ _ => NmAt.px (Same.px s1)) hn, fun _ _ h => h.rp, nms_srt hne few, fun ys' r hrn hys => ?_⟩
      walk_at "g"
      refine ⟨Nat.zero_le _, fun q' hq => ?_⟩
      walk_at "g"
      have s2 : Same H (upd (upd H1 r (.lst ys')) q' (.lst [])) := (s1.trans (Same.new hrn)).trans (Same.new hq)
      have nqr : q' ≠ r := fun z => by
        rw [z, upd_same] at hq
        cases hq
      have nms : (srtN names).length = names.length := (srtN_perm names).length_eq
      have s3 : Same H1 (upd (upd H1 r (.lst ys')) q' (.lst [])) := (Same.new hrn).trans (Same.new hq)
      refine sort_loop (names := names) (rest := srtN names) (prs := prs) (kvs := kvs2) (L := L) (H0 := H) rfl ((srtN_perm names).nodup_iff.mpr nd) (by omega) (fun n hn => (srtN_perm names).mem_iff.mp hn) upd_same ?_ s2 (by rw [upd_ne nqr.symm, upd_same]) nqr
        ((⟨hd, hA⟩ : AhdAt H1 D kvs2 L names prs).same s3) (fun n hn => ?_) (Paired.imp (fun _ _ => NmAt.px (Same.px s3)) hys) (Nat.le_of_eq nms) (fun H' v s' o => q H' v s' o) rfl
      · exact Same.free (s1.trans (Same.new hrn)) hq
      · obtain ⟨_, vs, as, g2, _⟩ := hA n hn
        intro z
        have g3 := (Same.new (o := HO.lst ys') hrn) _ _ g2
        rw [z, hq] at g3
        cases g3
theorem ok_sorted_namesD (T : Tx K mg) : FnOk P w K mg base CX0 2 (He.ga K "sorted_names") (fdOf K (He.ga K "sorted_names")) ["names", "pairs"] spSortedD := by
  refine T.f_sorted_names.ok sc_sorted_names
    (fun vs H Q E h => ?_) (fun cdv A outer s H vs Q E hr h => ?_)
  · obtain ⟨x, l, zs, names, prs, rfl, _⟩ := h
    rfl
  · obtain ⟨x, l, zs, names, prs, rfl, hl, hz, nd, hne, hin, few, few2, src, q⟩ := h
    refine ⟨_, (pss_cons (ps_set (i := 2) sc_sorted_names.nd rfl (Or.inl rfl) (pe_call (ok_names_ahead T) (hr.mono (by decide)) rfl (T.glo 3) (T.kp_names_ahead) (T.b_names_ahead) .nil pass0 (pa_cons (pv 0) (pa_cons (pv 1) pa_nil))))
 (pss_cons (ps_set (i := 3) sc_sorted_names.nd rfl (Or.inl rfl) (pe_callB (cr_sortDT rfl hr.units) (by rfl) (T.fre 4) (by decide +kernel) (pa_cons (pv 0) pa_nil)))
 (pss_cons (ps_set (i := 4) sc_sorted_names.nd rfl (Or.inl rfl) (pe_lst pa_nil))
 (pss_cons (ps_while PassesOwn.never (pt_truthK (K := K) rfl (pv 3) (by intro _; rfl))
 (pss_cons (ps_set (i := 5) sc_sorted_names.nd rfl (Or.inr rfl) (pe_call (ok_first_free T) (hr.mono (by decide)) rfl (T.glo 5) (T.kp_first_free) (T.b_first_free) .nil pass0 (pa_cons (pv 3) (pa_cons (pv 2) pa_nil))))
 (pss_cons (ps_if (pt_cmpR op_isNo (pv 5) pe_non (nomark _))
 (pss_one (ps_ret pe_non))
 pss_nil)
 (pss_cons (ps_expr (pe_bmK (K := K) rfl PySem.F.plainAttrs_list PySem.F.slot_list_append PySem.F.type_list_append mt_append (pv 4) (pa_cons (pv 5) pa_nil)))
 (pss_one (ps_setLc (i := 3) (own := [("other", 6)]) rfl sc_sorted_names.nd rfl rfl (sw_true rfl rfl rfl (by decide +kernel)) (pi_listK (K := K) rfl (pv 3)) (blkOk_by (N := n_sorted_names) (sc := defScope s_sorted_names) (own := [("other", 6)]) (by decide +kernel)) (fun _ _ _ _ _ => (pg_name (i := 6) sc_sorted_names.nd rfl (Or.inl rfl))) (fun _ _ _ _ _ => pts_one (pt_cmpR (neD_K (K := K) rfl hr.units) (pv 6) (pv 5) (nomark _))) (fun _ _ _ _ _ => (pv 6))))))))
 (pss_one (ps_ret (pv 4))))))), ?_⟩
    walk_at "g"
    refine ⟨x, l, zs, names, prs, rfl, hl, hz, nd, hin, few, few2, .inr src, fun H1 D kvs2 L s1 nD' hd hA => ?_⟩
    walk_at "g"
    · obtain ⟨a, kvs, rfl, ha, hk⟩ := src
      have ek : (kvs.map fun p => kDs p.1) = names.map nD := by
        have e : (kvs.map fun p => kDs p.1) = (kvs.map (·.1)).map kDs := by rw [List.map_map]; rfl
        rw [e, hk, List.map_map]
        exact List.map_congr_left fun n _ => nK_d n
      refine ⟨a, kvs, rfl, s1 _ _ ha, by rw [ek]; exact nms_srt hne few, fun ys' r hrn hys0 => ?_⟩
      have hys : Paired (NmAt H1) ys' (srtN names) := by
        have e : srtBy kDs (kvs.map (·.1)) = (srtN names).map nK := by
          rw [hk]
          exact (PySem.W.sort_maps (r := PySem.W.dataLe false nD) (s := PySem.W.dataLe false kDs) nK fun a _ b _ => by unfold PySem.W.dataLe PySem.W.sortLe; simp only [nK_d]).symm
        rw [e] at hys0
        have go : ∀ {ys : List V} {ns : List Nm}, Paired (KeyAt H1) ys (ns.map nK) → Paired (NmAt H1) ys ns := by
          intro ys ns h
          induction ns generalizing ys with
          | nil => cases h; exact .nil
          | cons n ns ih =>
            cases h with
            | cons h1 h2 =>
              obtain ⟨b, e, h3⟩ := h1
              exact .cons ⟨b, e, by rw [h3, nK_v]⟩ (ih h2)
        exact go hys0
      walk_at "g"
      refine ⟨Nat.zero_le _, fun q' hq => ?_⟩
      walk_at "g"
      have s2 : Same H (upd (upd H1 r (.lst ys')) q' (.lst [])) := (s1.trans (Same.new hrn)).trans (Same.new hq)
      have nqr : q' ≠ r := fun z => by
        rw [z, upd_same] at hq
        cases hq
      have nms : (srtN names).length = names.length := (srtN_perm names).length_eq
      have s3 : Same H1 (upd (upd H1 r (.lst ys')) q' (.lst [])) := (Same.new hrn).trans (Same.new hq)
      refine sort_loop (names := names) (rest := srtN names) (prs := prs) (kvs := kvs2) (L := L) (H0 := H) rfl ((srtN_perm names).nodup_iff.mpr nd) (by omega) (fun n hn => (srtN_perm names).mem_iff.mp hn) upd_same ?_ s2 (by rw [upd_ne nqr.symm, upd_same]) nqr
        ((⟨hd, hA⟩ : AhdAt H1 D kvs2 L names prs).same s3) (fun n hn => ?_) (Paired.imp (fun _ _ => NmAt.px (Same.px s3)) hys) (Nat.le_of_eq nms) (fun H' v s' o => q H' v s' o) rfl
      · exact Same.free (s1.trans (Same.new hrn)) hq
      · obtain ⟨_, vs, as, g2, _⟩ := hA n hn
        intro z
        have g3 := (Same.new (o := HO.lst ys') hrn) _ _ g2
        rw [z, hq] at g3
        cases g3

/-! ### the law's own reckoning -/
def spDue : Sp := fun vs H Q _ => ∃ (a l : Addr) (ys zs : List V) (names : List Nm) (prs : List (Nm × Nm)), vs = [.ref a, .ref l] ∧ H a = some (.lst ys) ∧ Paired (NmAt H) ys names ∧ H l = some (.lst zs) ∧ Paired (PrAt H) zs prs ∧ names.Nodup ∧ (∀ n ∈ names, n ≠ []) ∧ names.length ≤ 100 ∧ prs.length ≤ 100 ∧
  ∀ H' v, Same H H' → OutAt H' v (order prs names.length (srtN names)) → Q v H'
theorem free1_head (prs : List (Nm × Nm)) (rest : List Nm) : free1 prs rest = (rest.filter fun n => !(rest.any fun m => decide ((m, n) ∈ prs))).head? := by
  unfold free1
  rw [List.head?_filter]
theorem none_ahead {prs : List (Nm × Nm)} {rest : List Nm} {n : Nm} : decide (((prs.filter fun p => decide (p.2 = n) && decide (p.1 ∈ rest)).length : Int) = 0) = !(rest.any fun m => decide ((m, n) ∈ prs)) := by
  cases e : rest.any fun m => decide ((m, n) ∈ prs) with
  | true =>
    obtain ⟨m, hm, h⟩ := List.any_eq_true.mp e
    have h := of_decide_eq_true h
    have : (m, n) ∈ prs.filter fun p => decide (p.2 = n) && decide (p.1 ∈ rest) := List.mem_filter.mpr ⟨h, by simp [hm]⟩
    have l := List.length_pos_of_mem this
    simp only [Bool.not_true, decide_eq_false_iff_not]
    omega
  | false =>
    have l : (prs.filter fun p => decide (p.2 = n) && decide (p.1 ∈ rest)).length = 0 := by
      rw [List.length_eq_zero_iff, List.filter_eq_nil_iff]
      intro p hp h
      simp only [Bool.and_eq_true, decide_eq_true_eq] at h
      have q := List.any_eq_false.mp e p.1 h.2
      apply q
      rw [decide_eq_true_eq, ← h.1]
      exact hp
    rw [l]
    rfl
theorem ok_l_due (T : Tx K mg) : FnOk P w K mg base CX0 1 (He.ga K "_law_due") (fdOf K (He.ga K "_law_due")) ["_law_names", "_law_pairs"] spDue := by
  refine T.f_l_due.ok sc_l_due
    (fun vs H Q E h => ?_) (fun cdv A outer s H vs Q E hr h => ?_)
  · obtain ⟨a, l, ys, zs, names, prs, rfl, _⟩ := h
    rfl
  · obtain ⟨a, l, ys, zs, names, prs, rfl, ha, hn, hl, hz, nd, hne, few, few2, q⟩ := h
    have lny := Paired.length hn
    refine ⟨_, (pss_cons (ps_set (i := 2) sc_l_due.nd rfl (Or.inr rfl) (pe_callB (sortD_K (K := K) rfl hr.units) (by rfl) (T.fre 4) (by decide +kernel) (pa_cons (pv 0) pa_nil)))
 (pss_cons (ps_set (i := 3) sc_l_due.nd rfl (Or.inl rfl) (pe_lst pa_nil))
 (pss_cons (ps_for PassesOwn.never rfl (pi_range1 rfl (T.fre 6) (pa_cons (pe_callB (lenS_K (K := K) rfl) (by rfl) (T.fre 1) (by decide +kernel) (pa_cons (pv 0) pa_nil)) pa_nil)) (pg_name (i := 4) sc_l_due.nd rfl (Or.inl rfl))
 (pss_cons (ps_set (i := 5) sc_l_due.nd rfl (Or.inr rfl) (pe_lst pa_nil))
 (pss_cons (ps_for PassesOwn.never rfl (pi_listK (K := K) rfl (pv 2)) (pg_name (i := 6) sc_l_due.nd rfl (Or.inr rfl))
 (pss_one (ps_if (pt_cmpR op_eq (pe_callB (lenS_K (K := K) rfl) (by rfl) (T.fre 1) (by decide +kernel) (pa_cons (pe_lc (own := [("_law_pair", 7)]) rfl sc_l_due.nd (pi_listK (K := K) rfl (pv 1)) (blkOk_by (N := n_l_due) (sc := defScope s_l_due) (own := [("_law_pair", 7)]) (by decide +kernel)) (fun _ _ _ _ _ => (pg_name (i := 7) sc_l_due.nd rfl (Or.inl rfl))) (fun _ _ _ _ _ => pts_one (PW.pt (pw_and (pt_cmpR (eqD_K (K := K) rfl hr.units) (pe_ix (ixT_K (K := K) rfl) (pv 7) pe_int (fun _ _ => rfl)) (pv 6) (nomark _)) (pw_and1 (pt_cmpR (inD_K (K := K) rfl (hu65 hr)) (pe_ix (ixT_K (K := K) rfl) (pv 7) pe_int (fun _ _ => rfl)) (pv 2) (by rfl)))))) (fun _ _ _ _ _ => (pv 7))) pa_nil)) pe_int (nomark _))
 (pss_one (ps_expr (pe_bmK (K := K) rfl PySem.F.plainAttrs_list PySem.F.slot_list_append PySem.F.type_list_append mt_append (pv 5) (pa_cons (pv 6) pa_nil))))
 pss_nil)))
 (pss_cons (ps_if (pt_cmpR op_eq (pe_callB (lenS_K (K := K) rfl) (by rfl) (T.fre 1) (by decide +kernel) (pa_cons (pv 5) pa_nil)) pe_int (nomark _))
 (pss_one (ps_ret pe_non))
 pss_nil)
 (pss_cons (ps_expr (pe_bmK (K := K) rfl PySem.F.plainAttrs_list PySem.F.slot_list_append PySem.F.type_list_append mt_append (pv 3) (pa_cons (pe_ix (ixL_K (K := K) rfl) (pv 5) pe_int (fun _ _ => rfl)) pa_nil)))
 (pss_one (ps_set (i := 2) sc_l_due.nd rfl (Or.inr rfl) (pe_lc (own := [("_law_name", 6)]) rfl sc_l_due.nd (pi_listK (K := K) rfl (pv 2)) (blkOk_by (N := n_l_due) (sc := defScope s_l_due) (own := [("_law_name", 6)]) (by decide +kernel)) (fun _ _ _ _ _ => (pg_name (i := 6) sc_l_due.nd rfl (Or.inl rfl))) (fun _ _ _ _ _ => pts_one (pt_cmpR (neD_K (K := K) rfl hr.units) (pv 6) (pe_ix (ixL_K (K := K) rfl) (pv 5) pe_int (fun _ _ => rfl)) (nomark _))) (fun _ _ _ _ _ => (pv 6))))))))))
 (pss_one (ps_ret (pv 3)))))), ?_⟩
    walk_at "g"
    refine ⟨Nm, NmAt H, nD, names, a, ys, rfl, SqL.of ha, hn, fun _ _ h => h.rp, nms_srt hne few, fun rs r hrn hrs => ?_⟩
    walk_at "g"
    refine ⟨Nat.zero_le _, fun q' hq => ?_⟩
    walk_at "g"
    have s0 : Same H (upd (upd H r (.lst rs)) q' (.lst [])) := (Same.new hrn).trans (Same.new hq)
    have nqr : q' ≠ r := fun z => by
      rw [z, upd_same] at hq
      cases hq
    have q0 : H q' = none := Same.free (Same.new hrn) hq
    refine w_for (w_rng1 ?_)
    walk_at "g"
    refine w_lenL (SqL.of (s0 _ _ ha)) ?_
    walk_at "g"
    refine ⟨_, rfl, by omega, by omega, ?_⟩
    have srt := srtN_perm names
    have lsrt := srt.length_eq
    refine for_range (lo := 0) (fun t σ' H' => ∃ (r' : Addr) (rs' : List V) (rest' : List Nm) (fs : List V) (found : List Nm) (x4 x5 x6 : Option V), σ' = [some (.ref a), some (.ref l), some (.ref r'), some (.ref q'), x4, x5, x6, none] ∧ Same H H' ∧
      H' r' = some (.lst rs') ∧ q' ≠ r' ∧ Paired (NmAt H') rs' rest' ∧ rest'.Nodup ∧ rest'.length + t = names.length ∧ H' q' = some (.lst fs) ∧ Paired (NmAt H') fs found ∧ found.length = t ∧
      order prs names.length (srtN names) = (order prs rest'.length rest').map (found ++ ·)) ?_ ?_ ?_
    · refine ⟨r, rs, srtN names, [], [], none, none, none, rfl, s0, by rw [upd_ne nqr.symm, upd_same], nqr, Paired.imp (fun _ _ => NmAt.px (Same.px s0)) hrs, srt.nodup_iff.mpr nd, by omega, upd_same, .nil, rfl, ?_⟩
      rw [lsrt]
      cases order prs names.length (srtN names) <;> simp
    · rintro t σ' H' ht ⟨r', rs', rest', fs, found, x4, x5, x6, rfl, s1, hr', nq', hp', nd', lr, hq', hf', lf, ho⟩
      have ht : t < names.length := by omega
      have lrs := Paired.length hp'
      walk_at "g"
      refine ⟨Nat.zero_le _, fun w hw => ?_⟩
      walk_at "g"
      have nwr : w ≠ r' := fun z => by rw [z, hr'] at hw; cases hw
      have nwq : w ≠ q' := fun z => by rw [z, hq'] at hw; cases hw
      refine ⟨_, rfl, r', rfl, ⟨_, SqL.of (Same.new hw _ _ hr')⟩, for_list (xs := rs') (fun i σ2 H2 => ∃ (ws : List V) (x6 : Option V), σ2 = [some (.ref a), some (.ref l), some (.ref r'), some (.ref q'), some (.int (0 + (t : Int))), some (.ref w), x6, none] ∧ Same H' H2 ∧
        H2 w = some (.lst ws) ∧ Paired (NmAt H') ws ((rest'.take i).filter fun n => !(rest'.any fun m => decide ((m, n) ∈ prs))) ∧ ws.length ≤ i) ⟨[], x6, rfl, Same.new hw, upd_same, .nil, Nat.le_refl _⟩ (fun i σ2 H2 _ ⟨_, _, _, s2, _⟩ => SqL.of (s2 _ _ hr')) ?_ ?_⟩
      · rintro i y σ2 H2 hy ⟨ws, x6, rfl, s2, hw2, hws, lw⟩
        obtain ⟨n, hn', hyn⟩ := Paired.getL hp' hy
        have s3 := s1.trans s2
        have hr2 := s2 _ _ hr'
        walk_at "g"
        refine lc_list_data (ds := prs) (S := PrAt H) (fun H v (p : Nm × Nm) => PrAt H v p) (fun p => decide (p.2 = n) && decide (p.1 ∈ rest')) (fun p => p) (fun _ _ _ _ p h => h.px p) (SqL.of (s3 _ _ hl)) (fun H3 s4 => SqL.of (s4 _ _ (s3 _ _ hl))) hz (by have := Paired.length hz; omega)
          (fun z p H3 hm hzp s4 N Y hN hY => ?_) fun pL H3 ps hpn s4 hps hpd => ?_
        · have hzp3 := hzp.px (Same.px (s3.trans s4))
          obtain ⟨b, u, v, rfl, hb, hu, hv⟩ := id hzp3
          refine ⟨rfl, ?_⟩
          walk_at "g"
          refine w_ixT (SqT.of hb) (v := v) rfl ?_
          walk_at "g"
          refine w_eqN hv (hyn.px (Same.px (s2.trans s4))) ?_
          walk_at "g"
          refine ⟨fun h1 => ?_, fun h1 => ?_⟩
          · walk_at "g"
            refine w_ixT (SqT.of hb) (v := u) rfl ?_
            walk_at "g"
            refine w_inN hu (s4 _ _ hr2) (Paired.imp (fun _ _ => NmAt.px (Same.px (s2.trans s4))) hp') ?_
            walk_at "g"
            cases h2 : decide (p.1 ∈ rest') with
            | true =>
              refine iteT ?_
              walk_at "g"
              exact hY (show (decide (p.2 = n) && decide (p.1 ∈ rest')) = true by rw [h1, h2]; rfl) _ _ (Same.refl _) hzp3
            | false => exact iteF (hN (show (decide (p.2 = n) && decide (p.1 ∈ rest')) = false by rw [h2]; simp) _ (Same.refl _))
          · exact iteF (hN (show (decide (p.2 = n) && decide (p.1 ∈ rest')) = false by rw [h1]; rfl) _ (Same.refl _))
        · rw [List.map_id'] at hpd
          have lps := Paired.length hpd
          walk_at "g"
          refine w_lenL (SqL.of hps) ?_
          walk_at "g"
          rw [lps]
          have hp0 : (fun p : Nm × Nm => decide (p.2 = n) && decide (p.1 ∈ rest')) = fun p => decide (p.2 = n) && decide (p.1 ∈ rest') := rfl
          have dec : decide (V.int ((prs.filter fun p => decide (p.2 = n) && decide (p.1 ∈ rest')).length : Int) = V.int 0) = !(rest'.any fun m => decide ((m, n) ∈ prs)) := by
            rw [← none_ahead]
            exact decide_eq_decide.mpr ⟨fun h => by injection h, fun h => by rw [h]⟩
          rw [dec]
          have tk : rest'.take (i + 1) = rest'.take i ++ [n] := by rw [List.take_succ, hn']; rfl
          have hw3 := s4 _ _ hw2
          refine ⟨fun h1 => ?_, fun h1 => ?_⟩
          · walk_at "g"
            refine ⟨tyL hw3, ?_⟩
            walk_at "g"
            refine w_appR hw3 (sz_lt (by have := (List.getElem?_eq_some_iff.mp hy).1; omega)) ?_
            refine ⟨ws ++ [y], _, rfl, ?_, upd_same, ?_, by simp; omega⟩
            · have := s2.trans s4
              grind [upd, Same]
            · rw [tk, List.filter_append, List.filter_cons, if_pos h1]
              exact PySem.Paired.snoc hws hyn
          · walk_at "g"
            refine ⟨ws, _, rfl, s2.trans s4, hw3, ?_, by omega⟩
            rw [tk, List.filter_append, List.filter_cons, if_neg (by rw [h1]; decide)]
            simpa using hws
      · rintro σ2 H2 ⟨ws, x6, rfl, s2, hw2, hws, _⟩
        rw [lrs, List.take_length] at hws
        have lws := Paired.length hws
        have hd := free1_head prs rest'
        walk_at "g"
        refine w_lenL (SqL.of hw2) ?_
        walk_at "g"
        refine ⟨fun h1 => ?_, fun h1 => ?_⟩
        · have h1 : ws = [] := by
            have h := of_decide_eq_true h1
            injection h with h
            exact List.length_eq_zero_iff.mp (by omega)
          subst h1
          have e : (rest'.filter fun n => !(rest'.any fun m => decide ((m, n) ∈ prs))) = [] := List.length_eq_zero_iff.mp lws.symm
          rw [e] at hd
          walk_at "g"
          refine q _ _ (s1.trans s2) ?_
          rw [ho]
          cases rest' with
          | nil =>
            simp at lr
            omega
          | cons m rest' =>
            rw [List.length_cons, order, if_neg (by simp), hd]
            rfl
        · have h1 : ws ≠ [] := fun z => by
            subst z
            have h := of_decide_eq_false h1
            exact h rfl
          obtain ⟨u, us, rfl⟩ := List.exists_cons_of_ne_nil h1
          cases hf0 : (rest'.filter fun n => !(rest'.any fun m => decide ((m, n) ∈ prs))) with
          | nil =>
            rw [hf0] at hws
            cases hws
          | cons n ns =>
            rw [hf0] at hws hd
            simp only [List.head?_cons] at hd
            have hun : NmAt H' u n := by
              cases hws
              assumption
            have hmem := free1_mem hd
            have hq2 := s2 _ _ hq'
            walk_at "g"
            refine ⟨tyL hq2, ?_⟩
            walk_at "g"
            refine w_ixL (SqL.of hw2) (v := u) atI_zero ?_
            walk_at "g"
            refine w_appR hq2 (sz_lt (by have := Paired.length hf'; omega)) ?_
            walk_at "g"
            have px2 : Px H' (upd H2 q' (.lst (fs ++ [u]))) := (Same.px s2).trans (Px.upd hq2 rfl)
            have hr2 : upd H2 q' (.lst (fs ++ [u])) r' = some (.lst rs') := by rw [upd_ne nq'.symm]; exact s2 _ _ hr'
            have hw3 : upd H2 q' (.lst (fs ++ [u])) w = some (.lst (u :: us)) := by rw [upd_ne nwq]; exact hw2
            have hp2 : Paired (NmAt (upd H2 q' (.lst (fs ++ [u])))) rs' rest' := Paired.imp (fun _ _ => NmAt.px px2) hp'
            refine lc_list_data (ds := rest') (S := NmAt (upd H2 q' (.lst (fs ++ [u])))) (fun H v (m : Nm) => NmAt H v m) (fun m => decide (m ≠ n)) (fun m => m) (fun _ _ _ _ p h => h.px p) (SqL.of hr2) (fun H3 s3 => SqL.of (s3 _ _ hr2)) hp2 (by omega)
              (fun z m H3 hm hz s3 N Y hN hY => ?_) fun p H3 zs' hpn s3 hzs hpd => ?_
            · refine ⟨rfl, ?_⟩
              walk_at "g"
              refine w_ixL (SqL.of (s3 _ _ hw3)) (v := u) atI_zero ?_
              refine w_neN (hz.px (Same.px s3)) ((hun.px px2).px (Same.px s3)) ?_
              walk_at "g"
              by_cases e3 : m = n
              · rw [decide_eq_true e3]
                exact iteF (hN (by rw [e3]; simp) _ (Same.refl _))
              · rw [decide_eq_false e3]
                refine iteT ?_
                walk_at "g"
                exact hY (decide_eq_true e3) _ _ (Same.refl _) (hz.px (Same.px s3))
            · rw [List.map_id'] at hpd
              have hqn : p ≠ q' := by
                rintro rfl
                rw [upd_same] at hpn
                cases hpn
              have len2 := filter_ne_len nd' hmem
              refine ⟨p, zs', _, fs ++ [u], found ++ [n], _, _, _, rfl, ?_, hzs, hqn.symm, hpd, nd'.filter _, by omega, s3 _ _ upd_same, ?_, by simp; omega, ?_⟩
              · have := s1.trans s2
                grind [upd, Same]
              · exact PySem.Paired.snoc (Paired.imp (fun _ _ => NmAt.px (px2.trans (Same.px s3))) hf') ((hun.px px2).px (Same.px s3))
              · rw [ho]
                have e4 : rest'.length = (rest'.filter fun m => decide (m ≠ n)).length + 1 := len2.symm
                rw [e4, order, if_neg (fun z => by rw [z] at hmem; simp at hmem), hd]
                simp only [Option.map_map]
                congr 1
                funext z
                simp
    · rintro σ' H' ⟨r', rs', rest', fs, found, x4, x5, x6, rfl, s1, hr', nq', hp', nd', lr, hq', hf', lf, ho⟩
      walk_at "g"
      refine q _ _ s1 ?_
      have e : rest'.length = 0 := by omega
      rw [ho, e]
      exact ⟨q', fs, rfl, hq', by simpa [order] using hf'⟩

/-! ### the law -/
theorem ins_perm {α : Type} (xs : List α) (x : α) (i : Nat) : (xs.take i ++ [x] ++ xs.drop i).Perm (x :: xs) := by
  have h : (xs.take i ++ [x] ++ xs.drop i).Perm ([x] ++ xs.take i ++ xs.drop i) := List.perm_append_comm.append_right _
  rw [List.append_assoc [x], List.take_append_drop] at h
  exact h
def pD (p : Nm × Nm) : PyData := .tuple [nD p.1, nD p.2]
def outD : Option (List Nm) → PyData
  | none => .none
  | some ns => .list (ns.map nD)
theorem OutAt.dp {K : PySem.W.Frag} {H : Hp} {v : V} : ∀ {o : Option (List Nm)}, OutAt H v o → Dp K H v (outD o)
  | none, h => by rw [show v = .non from h]; exact .non
  | some ns, h => by
    obtain ⟨p, vs, rfl, h, hp⟩ := h
    exact .lst (SqL.of h) (dpAll_of (fun _ _ h => h.rp) hp)
theorem out_shaped : ∀ o : Option (List Nm), SeqAt.shaped (outD o) = true
  | none => rfl
  | some ns => nms_shaped ns
theorem OutAt.same {H H' : Hp} {v : V} (s : Same H H') : ∀ {o : Option (List Nm)}, OutAt H v o → OutAt H' v o
  | none, h => h
  | some ns, h => by
    obtain ⟨p, vs, rfl, h, hp⟩ := h
    exact ⟨p, vs, rfl, s _ _ h, Paired.imp (fun _ _ => NmAt.px (Same.px s)) hp⟩
theorem pD_pln (p : Nm × Nm) : Pln (pD p) = true := by simp only [pD, Pln, PlnAll, nD_pln, Bool.and_self]
theorem pD_depth (p : Nm × Nm) : (pD p).depth ≤ 2 := by
  have := nD_depth p.1
  have := nD_depth p.2
  simp only [pD, PyData.depth, PyData.depthAll]
  omega
theorem given_shaped (ns : List Nm) (prs : List (Nm × Nm)) : SeqAt.shaped (.list [.list (ns.map nD), .list (prs.map pD)]) = true := by
  have h1 : PyData.depthAll (ns.map nD) ≤ 1 := depthAll_le fun d hd => by
    obtain ⟨n, _, rfl⟩ := List.mem_map.mp hd
    exact nD_depth n
  have h2 : PyData.depthAll (prs.map pD) ≤ 2 := depthAll_le fun d hd => by
    obtain ⟨n, _, rfl⟩ := List.mem_map.mp hd
    exact pD_depth n
  have h3 : PyData.canLayAll0 (ns.map nD) = true := plnAll_lay _ (PlnAll_iff.mpr fun d hd => by
    obtain ⟨n, _, rfl⟩ := List.mem_map.mp hd
    exact nD_pln n)
  have h4 : PyData.canLayAll0 (prs.map pD) = true := plnAll_lay _ (PlnAll_iff.mpr fun d hd => by
    obtain ⟨n, _, rfl⟩ := List.mem_map.mp hd
    exact pD_pln n)
  unfold SeqAt.shaped
  rw [decide_eq_true (by simp only [PyData.depth, PyData.depthAll]; omega)]
  simp only [PyData.canLay0, PyData.canLayAll0, h3, h4, Bool.and_self]
theorem eqv_self {d : PyData} (h : SeqAt.shaped d = true) : PyData.eqv d d = true := SeqAt.eqv_refl d (SeqAt.canLay_of_shaped h)
/-- names are drawn -/
def NmsIn (H : Hp) (nm : Addr) (ns : List Nm) : Prop := (∃ vs, H nm = some (.lst vs) ∧ Paired (NmAt H) vs ns) ∧ ns.Nodup ∧ ∀ n ∈ ns, n ≠ []
theorem NmsIn.ch {S : List Addr} {H H' : Hp} {nm : Addr} {ns : List Nm} (h : NmsIn H nm ns) (c : Ch S H H') (n : nm ∉ S) : NmsIn H' nm ns :=
  let ⟨⟨vs, h1, h2⟩, h3⟩ := h
  ⟨⟨vs, c.2 _ _ h1 n, Paired.imp (fun _ _ => NmAt.px c.1) h2⟩, h3⟩
theorem ok_law (T : Tx K mg) : FnOk P w K mg base CX0 3 (He.ga K "law") (fdOf K (He.ga K "law")) ["_law_script"] (spLaw K) := by
  refine T.f_law.ok sc_law
    (fun vs H Q E h => ?_) (fun cdv A outer s H vs Q E hr h => ?_)
  · obtain ⟨a, ns, rfl, _⟩ := h
    rfl
  · obtain ⟨a, sc, rfl, hs, hlen, q⟩ := h
    refine ⟨_, (pss_cons (ps_set (i := 1) sc_law.nd rfl (Or.inl rfl) (pe_lst (pa_cons (pe_call (ok_l_number T) (hr.mono (by decide)) rfl (T.glo 7) (T.kp_l_number) (T.b_l_number) .nil pass0 (pa_cons (pv 0) (pa_cons pe_int pa_nil))) pa_nil)))
 (pss_cons (ps_set (i := 2) sc_law.nd rfl (Or.inl rfl) (pe_lst pa_nil))
 (pss_cons (ps_for PassesOwn.never rfl (pi_range1 rfl (T.fre 6) (pa_cons (pe_call (ok_l_take T) (hr.mono (by decide)) rfl (T.glo 8) (T.kp_l_take) (T.b_l_take) .nil pass0 (pa_cons (pv 1) (pa_cons pe_int pa_nil))) pa_nil)) (pg_name (i := 3) sc_law.nd rfl (Or.inl rfl))
 (pss_cons (ps_set (i := 4) sc_law.nd rfl (Or.inl rfl) (pe_ix (ixL_K (K := K) rfl) (pe_lst (pa_cons (pe_tup (pa_cons (pe_call (ok_l_take T) (hr.mono (by decide)) rfl (T.glo 8) (T.kp_l_take) (T.b_l_take) .nil pass0 (pa_cons (pv 1) (pa_cons pe_int pa_nil))) (pa_cons (pe_op op_add pe_int (pe_call (ok_l_take T) (hr.mono (by decide)) rfl (T.glo 8) (T.kp_l_take) (T.b_l_take) .nil pass0 (pa_cons (pv 1) (pa_cons pe_int pa_nil)))) pa_nil))) (pa_cons (pe_tup (pa_cons (pe_call (ok_l_take T) (hr.mono (by decide)) rfl (T.glo 8) (T.kp_l_take) (T.b_l_take) .nil pass0 (pa_cons (pv 1) (pa_cons pe_int pa_nil))) pa_nil)) (pa_cons (pe_tup (pa_cons pe_int (pa_cons pe_int (pa_cons (pe_call (ok_l_take T) (hr.mono (by decide)) rfl (T.glo 8) (T.kp_l_take) (T.b_l_take) .nil pass0 (pa_cons (pv 1) (pa_cons pe_int pa_nil))) pa_nil)))) pa_nil)))) (pe_call (ok_l_take T) (hr.mono (by decide)) rfl (T.glo 8) (T.kp_l_take) (T.b_l_take) .nil pass0 (pa_cons (pv 1) (pa_cons pe_int pa_nil))) (fun _ _ => rfl)))
 (pss_one (ps_if (pt_cmpR (notInD_K (K := K) rfl (hu65 hr)) (pv 4) (pv 2) (by rfl))
 (pss_one (ps_expr (pe_bmK (K := K) rfl PySem.F.plainAttrs_list PySem.F.slot_list_insert PySem.F.type_list_insert mt_ins (pv 2) (pa_cons (pe_call (ok_l_take T) (hr.mono (by decide)) rfl (T.glo 8) (T.kp_l_take) (T.b_l_take) .nil pass0 (pa_cons (pv 1) (pa_cons (pe_op op_add (pe_callB (lenS_K (K := K) rfl) (by rfl) (T.fre 1) (by decide +kernel) (pa_cons (pv 2) pa_nil)) pe_int) pa_nil))) (pa_cons (pv 4) pa_nil)))))
 pss_nil))))
 (pss_cons (ps_set (i := 5) sc_law.nd rfl (Or.inl rfl) (pe_cmpR op_eq (pe_call (ok_l_take T) (hr.mono (by decide)) rfl (T.glo 8) (T.kp_l_take) (T.b_l_take) .nil pass0 (pa_cons (pv 1) (pa_cons pe_int pa_nil))) pe_int (nomark _)))
 (pss_cons (ps_set (i := 6) sc_law.nd rfl (Or.inl rfl) (pe_lst pa_nil))
 (pss_cons (ps_set (i := 1) sc_law.nd rfl (Or.inl rfl) (pe_lst (pa_cons (pe_call (ok_l_number T) (hr.mono (by decide)) rfl (T.glo 7) (T.kp_l_number) (T.b_l_number) .nil pass0 (pa_cons (pv 0) (pa_cons pe_int pa_nil))) pa_nil)))
 (pss_cons (ps_for PassesOwn.never rfl (pi_range1 rfl (T.fre 6) (pa_cons (pe_call (ok_l_take T) (hr.mono (by decide)) rfl (T.glo 8) (T.kp_l_take) (T.b_l_take) .nil pass0 (pa_cons (pv 1) (pa_cons pe_int pa_nil))) pa_nil)) (pg_name (i := 3) sc_law.nd rfl (Or.inl rfl))
 (pss_one (ps_if (pt_cmpR op_gt (pe_callB (lenS_K (K := K) rfl) (by rfl) (T.fre 1) (by decide +kernel) (pa_cons (pv 2) pa_nil)) pe_int (nomark _))
 (pss_cons (ps_set (i := 7) sc_law.nd rfl (Or.inl rfl) (pe_call (ok_l_take T) (hr.mono (by decide)) rfl (T.glo 8) (T.kp_l_take) (T.b_l_take) .nil pass0 (pa_cons (pv 1) (pa_cons (pe_callB (lenS_K (K := K) rfl) (by rfl) (T.fre 1) (by decide +kernel) (pa_cons (pv 2) pa_nil)) pa_nil))))
 (pss_cons (ps_set (i := 8) sc_law.nd rfl (Or.inl rfl) (pe_op op_mod (pe_callTy call_intI (by rfl) (T.fre 0) (by decide +kernel) (pa_cons (pe_op op_add (pe_op op_add (pv 7) pe_int) (pe_call (ok_l_take T) (hr.mono (by decide)) rfl (T.glo 8) (T.kp_l_take) (T.b_l_take) .nil pass0 (pa_cons (pv 1) (pa_cons (pe_op op_sub (pe_callB (lenS_K (K := K) rfl) (by rfl) (T.fre 1) (by decide +kernel) (pa_cons (pv 2) pa_nil)) pe_int) pa_nil)))) pa_nil)) (pe_callB (lenS_K (K := K) rfl) (by rfl) (T.fre 1) (by decide +kernel) (pa_cons (pv 2) pa_nil))))
 (Evl.pss_cut (ps_if (PW.pt (pw_and (pt_not (pt_val (pv 5))) (pw_and1 (pt_cmpR op_gt (pv 7) (pv 8) (nomark _)))))
 (pss_one (ps_par (i := 7) (j := 8) (by rfl) sc_law.nd rfl rfl (by decide) rfl rfl (pa_cons (pv 8) (pa_cons (pv 7) pa_nil)) (by rfl)))
 pss_nil)
 (pss_one (ps_expr (pe_bmK (K := K) rfl PySem.F.plainAttrs_list PySem.F.slot_list_append PySem.F.type_list_append mt_append (pv 6) (pa_cons (pe_tup (pa_cons (pe_ix (ixL_K (K := K) rfl) (pv 2) (pv 7) (fun _ _ => rfl)) (pa_cons (pe_ix (ixL_K (K := K) rfl) (pv 2) (pv 8) (fun _ _ => rfl)) pa_nil))) pa_nil)))))))
 pss_nil)))
 (pss_cons (ps_set (i := 9) sc_law.nd rfl (Or.inl rfl) pe_dnewT)
 (pss_cons (ps_for PassesOwn.never rfl (pi_listK (K := K) rfl (pv 2)) (pg_name (i := 4) sc_law.nd rfl (Or.inl rfl))
 (pss_one (ps_dput (hu_of hr) (pv 9) (pv 4) pe_int rfl)))
 (pss_cons (ps_if (pt_cmpR (neD_K (K := K) rfl hr.units) (pe_call (ok_sorted_namesD T) (hr.mono (by decide)) rfl (T.glo 9) (T.kp_sorted_names) (T.b_sorted_names) .nil pass0 (pa_cons (pv 9) (pa_cons (pv 6) pa_nil))) (pe_call (ok_l_due T) (hr.mono (by decide)) rfl (T.glo 10) (T.kp_l_due) (T.b_l_due) .nil pass0 (pa_cons (pv 2) (pa_cons (pv 6) pa_nil))) (nomark _))
 (pss_one (ps_ret pe_bl))
 pss_nil)
 (pss_cons (ps_set (i := 10) sc_law.nd rfl (Or.inl rfl) (pe_lst (pa_cons (pe_callTy (listS_K (K := K) rfl) (by rfl) (T.fre 11) (by decide +kernel) (pa_cons (pv 2) pa_nil)) (pa_cons (pe_callTy (listS_K (K := K) rfl) (by rfl) (T.fre 11) (by decide +kernel) (pa_cons (pv 6) pa_nil)) pa_nil))))
 (pss_cons (ps_set (i := 11) sc_law.nd rfl (Or.inl rfl) (pe_call (ok_sorted_namesL T) (hr.mono (by decide)) rfl (T.glo 9) (T.kp_sorted_names) (T.b_sorted_names) .nil pass0 (pa_cons (pe_ix (ixL_K (K := K) rfl) (pv 10) pe_int (fun _ _ => rfl)) (pa_cons (pe_ix (ixL_K (K := K) rfl) (pv 10) pe_int (fun _ _ => rfl)) pa_nil))))
 (pss_one (ps_ret (pe_and (pe_cmpR (eqD_K (K := K) rfl hr.units) (pv 10) (pe_lst (pa_cons (pv 2) (pa_cons (pv 6) pa_nil))) (nomark _)) (pe_and (pe_cmpR (eqD_K (K := K) rfl hr.units) (pv 11) (pe_call (ok_l_due T) (hr.mono (by decide)) rfl (T.glo 10) (T.kp_l_due) (T.b_l_due) .nil pass0 (pa_cons (pv 2) (pa_cons (pv 6) pa_nil))) (nomark _)) (pe_one (pe_or (pe_cmpR op_isNo (pv 11) pe_non (nomark _)) (pe_one (pe_callB (isi_K (K := K) rfl) (by rfl) (T.fre 12) (by decide +kernel) (pa_cons (pv 11) (pa_cons (pe_bltn (v := .ty "list") (by rfl) (T.fre 11) (by decide +kernel) rfl) pa_nil)))))))))))))))))))))), ?_⟩
    walk_at "g"
    refine w_number hs (by decide) fun i0 => ?_
    walk_at "g"
    refine ⟨by show 1 ≤ sizeLine; decide, fun box hbx => ?_⟩
    walk_at "g"
    refine ⟨Nat.zero_le _, fun nm hnm => ?_⟩
    walk_at "g"
    have nbn : nm ≠ box := fun z => by rw [z, upd_same] at hnm; cases hnm
    have hsc : Scr K (upd (upd H box (.lst [.int i0])) nm (.lst [])) a sc := hs.same ((Same.new hbx).trans (Same.new hnm))
    refine w_for (w_rng1 ?_)
    walk_at "g"
    refine w_take (⟨i0, by rw [upd_ne nbn.symm, upd_same]⟩ : BoxAt _ box) (by decide) (by decide) fun m0 H0 m00 m01 c0 b0 => ?_
    walk_at "g"
    refine ⟨_, rfl, by omega, by omega, ?_⟩
    have hsc0 : Scr K H0 a sc := c0.scr hsc (by simp [upd_ne nbn.symm, upd_same])
    refine for_range (lo := 0) (fun i σ' H' => ∃ (x3 x4 : Option V) (ns : List Nm), σ' = [some (.ref a), some (.ref box), some (.ref nm), x3, x4, none, none, none, none, none, none, none] ∧ Scr K H' a sc ∧ BoxAt H' box ∧ NmsIn H' nm ns ∧ ns.length ≤ i)
      ⟨none, none, [], rfl, hsc0, b0, ⟨⟨[], c0.2 _ _ upd_same (by simpa using nbn), .nil⟩, by simp, by simp⟩, Nat.le_refl _⟩ ?_ ?_
    · rintro i σ' H' hi ⟨x3, x4, ns, rfl, hs1, b1, n1, l1⟩
      walk_at "g"
      refine w_take b1 (by decide) (by decide) fun i1 H1 _ _ c1 b2 => ?_
      walk_at "g"
      refine w_take b2 (by decide) (by decide) fun i2 H2 _ _ c2 b3 => ?_
      walk_at "g"
      refine ⟨by show 2 ≤ sizeLine; decide, fun t1 ht1 => ?_⟩
      walk_at "g"
      refine w_take (b3.same (Same.new ht1)) (by decide) (by decide) fun i3 H3 _ _ c3 b4 => ?_
      walk_at "g"
      refine ⟨by show 1 ≤ sizeLine; decide, fun t2 ht2 => ?_⟩
      walk_at "g"
      refine w_take (b4.same (Same.new ht2)) (by decide) (by decide) fun i4 H4 _ _ c4 b5 => ?_
      walk_at "g"
      refine ⟨by show 3 ≤ sizeLine; decide, fun t3 ht3 => ?_⟩
      walk_at "g"
      refine ⟨by show 3 ≤ sizeLine; decide, fun tl htl => ?_⟩
      walk_at "g"
      refine w_take ((b5.same (Same.new ht3)).same (Same.new htl)) (by decide) (by decide) fun i5 H5 i50 i51 c5 b6 => ?_
      have cc : Ch [box] H' H5 := ((((((c1.trans c2).thenNew ht1).trans c3).thenNew ht2).trans c4).thenNew ht3).thenNew htl |>.trans c5
      have tlb : tl ≠ box := fun z => by
        obtain ⟨b, e⟩ := b5.same (Same.new (o := .tup [.int 1, .int 2, .int i4]) ht3)
        rw [z] at htl
        rw [htl] at e
        cases e
      have hl5 : H5 tl = some (.lst [.ref t1, .ref t2, .ref t3]) := c5.2 _ _ upd_same (by simpa using tlb)
      have k1 : NmAt H5 (.ref t1) [i1, 1 + i2] := ⟨t1, rfl, ((((Px.refl _).trans c3.1).trans (Px.new ht2)).trans (c4.1.trans (Px.new ht3))).trans ((Px.new htl).trans c5.1) _ _ upd_same⟩
      have k2 : NmAt H5 (.ref t2) [i3] := ⟨t2, rfl, ((c4.1.trans (Px.new ht3))).trans ((Px.new htl).trans c5.1) _ _ upd_same⟩
      have k3 : NmAt H5 (.ref t3) [1, 2, i4] := ⟨t3, rfl, ((Px.new htl).trans c5.1) _ _ upd_same⟩
      obtain ⟨x, n, hx, hxn, hne⟩ : ∃ x n, atI [V.ref t1, V.ref t2, V.ref t3] i5 = some x ∧ NmAt H5 x n ∧ n ≠ [] := by
        have h : i5 = 0 ∨ i5 = 1 ∨ i5 = 2 := by omega
        rcases h with rfl | rfl | rfl
        · exact ⟨_, _, rfl, k1, by simp⟩
        · exact ⟨_, _, rfl, k2, by simp⟩
        · exact ⟨_, _, rfl, k3, by simp⟩
      refine w_ixL (SqL.of hl5) hx ?_
      walk_at "g"
      have n5 := n1.ch cc (by simpa using nbn)
      obtain ⟨⟨vs, hv, hvp⟩, nd, nne⟩ := n5
      have hs5 : Scr K H5 a sc := cc.scr hs1 (by
        obtain ⟨b, e⟩ := b1
        simp [e])
      refine w_notInN hxn hv hvp ?_
      walk_at "g"
      have lv := Paired.length hvp
      refine ⟨fun hc => ?_, fun hc => ?_⟩
      · have hnot : n ∉ ns := by simpa using hc
        walk_at "g"
        refine ⟨tyL hv, ?_⟩
        walk_at "g"
        refine w_lenL (SqL.of hv) ?_
        walk_at "g"
        refine w_take b6 (by omega) (by omega) fun i6 H6 i60 i61 c6 b7 => ?_
        walk_at "g"
        have hv6 : H6 nm = some (.lst vs) := c6.2 _ _ hv (by simpa using nbn)
        refine w_insR hv6 (sz_lt (by omega)) i60 (by omega) ?_
        have c7 : Ch [nm] H6 (upd H6 nm (.lst (vs.take i6.toNat ++ [x] ++ vs.drop i6.toNat))) := Ch.upd hv6 rfl
        have pm := ins_perm ns n i6.toNat
        refine ⟨_, _, ns.take i6.toNat ++ [n] ++ ns.drop i6.toNat, rfl, ?_, ?_, ⟨⟨_, upd_same, ?_⟩, ?_, ?_⟩, ?_⟩
        · refine c7.scr (c6.scr hs5 ?_) ?_
          · obtain ⟨b, e⟩ := b6
            simp [e]
          · simp [hv6]
        · obtain ⟨b, e⟩ := b7
          exact ⟨b, by rw [upd_ne nbn.symm]; exact e⟩
        · have px := c6.1.trans c7.1
          have hp2 := Paired.imp (fun _ _ => NmAt.px px) hvp
          exact Paired.app (Paired.app (Paired.takeP _ hp2) (.cons (hxn.px px) .nil)) (Paired.dropP _ hp2)
        · exact pm.nodup_iff.mpr (List.nodup_cons.mpr ⟨hnot, nd⟩)
        · intro m hm
          rcases List.mem_cons.mp (pm.mem_iff.mp hm) with rfl | h
          · exact hne
          · exact nne m h
        · rw [pm.length_eq]
          simp only [List.length_cons]
          omega
      · walk_at "g"
        exact ⟨_, _, ns, rfl, hs5, b6, ⟨⟨vs, hv, hvp⟩, nd, nne⟩, by omega⟩
    · rintro σ' H' ⟨x3, x4, ns, rfl, hs1, b1, n1, l1⟩
      walk_at "g"
      refine w_take b1 (by decide) (by decide) fun i1 H1 _ _ c1 b2 => ?_
      walk_at "g"
      refine ⟨Nat.zero_le _, fun pr hpr => ?_⟩
      walk_at "g"
      have hs2 : Scr K (upd H1 pr (.lst [])) a sc := (c1.scr hs1 (by
        obtain ⟨b, e⟩ := b1
        simp [e])).same (Same.new hpr)
      refine w_number hs2 (by decide) fun i2 => ?_
      walk_at "g"
      refine ⟨by show 1 ≤ sizeLine; decide, fun bx2 hb2 => ?_⟩
      walk_at "g"
      have npb : pr ≠ bx2 := fun z => by rw [z, upd_same] at hb2; cases hb2
      obtain ⟨⟨vs0, hv0, hvp0⟩, nd, nne⟩ := (n1.ch c1 (by simpa using nbn))
      have nnp : nm ≠ pr := fun z => by rw [z, hpr] at hv0; cases hv0
      have nnb : nm ≠ bx2 := fun z => by
        have h := (Same.new (o := HO.lst []) hpr) _ _ hv0
        rw [z, hb2] at h
        cases h
      have lns := Paired.length hvp0
      refine w_for (w_rng1 ?_)
      walk_at "g"
      refine w_take (⟨i2, upd_same⟩ : BoxAt _ bx2) (by decide) (by decide) fun m1 H2 m10 m11 c2 b3 => ?_
      walk_at "g"
      refine ⟨_, rfl, by omega, by omega, ?_⟩
      have s12 : Same H1 (upd (upd H1 pr (.lst [])) bx2 (.lst [.int i2])) := (Same.new hpr).trans (Same.new hb2)
      have hv2 : H2 nm = some (.lst vs0) := c2.2 _ _ (s12 _ _ hv0) (by simpa using nnb)
      refine for_range (lo := 0) (fun i σ' H' => ∃ (x3 x7 x8 : Option V) (ps : List V) (prs : List (Nm × Nm)), σ' = [some (.ref a), some (.ref bx2), some (.ref nm), x3, x4, some (.bl (decide (V.int i1 = V.int 0))), some (.ref pr), x7, x8, none, none, none] ∧ BoxAt H' bx2 ∧ H' nm = some (.lst vs0) ∧ Paired (NmAt H') vs0 ns ∧
        H' pr = some (.lst ps) ∧ Paired (PrAt H') ps prs ∧ prs.length ≤ i ∧ ∀ p ∈ prs, p.2 ∈ ns) ?_ ?_ ?_
      · exact ⟨_, none, none, [], [], rfl, b3, hv2, Paired.imp (fun _ _ => NmAt.px ((Same.px s12).trans c2.1)) hvp0, c2.2 _ _ (by rw [upd_ne npb, upd_same]) (by simpa using npb), .nil, Nat.le_refl _, by simp⟩
      · rintro i σ' H3 hi ⟨x3, x7, x8, ps, prs, rfl, b4, hv3, hvp3, hp3, hpp3, lp, hin⟩
        have lpp := Paired.length hpp3
        walk_at "g"
        refine w_lenL (SqL.of hv3) ?_
        walk_at "g"
        refine ⟨fun hc => ?_, fun hc => ?_⟩
        · have hc : 1 < vs0.length := by
            have h := of_decide_eq_true hc
            omega
          walk_at "g"
          refine w_lenL (SqL.of hv3) ?_
          walk_at "g"
          refine w_take b4 (by omega) (by omega) fun f H4 f0 f1 c4 b5 => ?_
          have hv4 : H4 nm = some (.lst vs0) := c4.2 _ _ hv3 (by simpa using nnb)
          walk_at "g"
          refine w_lenL (SqL.of hv4) ?_
          walk_at "g"
          refine w_take b5 (by omega) (by omega) fun s' H5 s0' s1' c5 b6 => ?_
          have hv5 : H5 nm = some (.lst vs0) := c5.2 _ _ hv4 (by simpa using nnb)
          walk_at "g"
          refine w_lenL (SqL.of hv5) ?_
          refine w_I (by omega) ?_
          walk_at "g"
          have e0 : 0 ≤ (f + 1 + s') % (vs0.length : Int) := Int.emod_nonneg _ (by omega)
          have e1 : (f + 1 + s') % (vs0.length : Int) < (vs0.length : Int) := Int.emod_lt_of_pos _ (by omega)
          refine w_cut (M := fun σ' H' => ∃ u v : Int, σ' = [some (.ref a), some (.ref bx2), some (.ref nm), some (.int (0 + (i : Int))), x4, some (.bl (decide (V.int i1 = V.int 0))), some (.ref pr), some (.int u), some (.int v), none, none, none] ∧ 0 ≤ u ∧ u < (vs0.length : Int) ∧ 0 ≤ v ∧ v < (vs0.length : Int) ∧ H' = H5) ?_ ?_
          · walk_at "g"
            refine ⟨fun _ => ?_, fun _ => ⟨by simp, fun _ => ?_⟩⟩
            · walk_at "g"
              refine ⟨fun _ => ?_, fun _ => ?_⟩
              · walk_at "g"
                exact ⟨_, _, rfl, e0, e1, f0, f1, rfl⟩
              · walk_at "g"
                exact ⟨_, _, rfl, f0, f1, e0, e1, rfl⟩
            · walk_at "g"
              exact ⟨_, _, rfl, f0, f1, e0, e1, rfl⟩
          · rintro _ H5' ⟨u, v, rfl, u0, u1, v0, v1, rfl⟩
            have hp5 : H5' pr = some (.lst ps) := c5.2 _ _ (c4.2 _ _ hp3 (by simpa using npb)) (by simpa using npb)
            have px5 := c4.1.trans c5.1
            obtain ⟨x, hx, hx2⟩ := atI_int u0 u1
            obtain ⟨y, hy, hy2⟩ := atI_int v0 v1
            obtain ⟨n, hn, hxn⟩ := Paired.getL hvp3 hx2
            obtain ⟨m, hm, hym⟩ := Paired.getL hvp3 hy2
            walk_at "g"
            refine ⟨tyL hp5, ?_⟩
            walk_at "g"
            refine w_ixL (SqL.of hv5) hx ?_
            walk_at "g"
            refine w_ixL (SqL.of hv5) hy ?_
            walk_at "g"
            refine ⟨by show 2 ≤ sizeLine; decide, fun t ht => ?_⟩
            walk_at "g"
            have hp6 := Same.new (o := HO.tup [x, y]) ht _ _ hp5
            refine w_appR hp6 (sz_lt (by omega)) ?_
            have px6 : Px H3 (upd (upd H5' t (.tup [x, y])) pr (.lst (ps ++ [.ref t]))) := (px5.trans (Px.new ht)).trans (Px.upd hp6 rfl)
            have px7 : Px (upd H5' t (.tup [x, y])) (upd (upd H5' t (.tup [x, y])) pr (.lst (ps ++ [.ref t]))) := Px.upd hp6 rfl
            refine ⟨_, _, _, ps ++ [.ref t], prs ++ [(n, m)], rfl, ?_, ?_, Paired.imp (fun _ _ => NmAt.px px6) hvp3, upd_same, ?_, by simp; omega, ?_⟩
            · obtain ⟨b, e⟩ := b6.same (Same.new (o := HO.tup [x, y]) ht)
              exact ⟨b, by rw [upd_ne npb.symm]; exact e⟩
            · rw [upd_ne nnp]
              exact Same.new ht _ _ hv5
            · exact PySem.Paired.snoc (Paired.imp (fun _ _ => PrAt.px px6) hpp3) ⟨t, x, y, rfl, px7 _ _ upd_same, hxn.px px6, hym.px px6⟩
            · intro p hp
              rcases List.mem_append.mp hp with h | h
              · exact hin p h
              · rw [List.mem_singleton.mp h]
                exact List.mem_of_getElem? hm
        · walk_at "g"
          exact ⟨_, _, _, ps, prs, rfl, b4, hv3, hvp3, hp3, hpp3, by omega, hin⟩
      · rintro σ' H3 ⟨x3, x7, x8, ps, prs, rfl, b4, hv3, hvp3, hp3, hpp3, lp, hin⟩
        have lpp := Paired.length hpp3
        walk_at "g"
        intro kn hkn
        walk_at "g"
        refine w_for (w_iList ?_)
        have nnk : nm ≠ kn := fun z => by rw [z, hkn] at hv3; cases hv3
        have npk : pr ≠ kn := fun z => by rw [z, hkn] at hp3; cases hp3
        walk_at "g"
        refine ⟨nm, rfl, ⟨_, SqL.of (Same.new hkn _ _ hv3)⟩, for_list (xs := vs0) (fun i σ' H' => ∃ (x4 : Option V) (kvs : List (List Key × V)), σ' = [some (.ref a), some (.ref bx2), some (.ref nm), x3, x4, some (.bl (decide (V.int i1 = V.int 0))), some (.ref pr), x7, x8, some (.ref kn), none, none] ∧ Same H3 H' ∧
          H' kn = some (.dT kvs) ∧ kvs.map (·.1) = (ns.take i).map nK) ⟨x4, [], rfl, Same.new hkn, upd_same, rfl⟩ (fun i σ' H' _ ⟨_, _, _, s', _⟩ => SqL.of (s' _ _ hv3)) ?_ ?_⟩
        · rintro i x σ' H4 hx ⟨x4', kvs, rfl, s4, hk4, hks⟩
          obtain ⟨n, hn, hxn⟩ := Paired.getL hvp3 hx
          have lk := congrArg List.length hks
          rw [List.length_map, List.length_map, List.length_take] at lk
          have hi : i < ns.length := (List.getElem?_eq_some_iff.mp hn).1
          have fresh : valV kvs (nK n) = none := by
            cases e : valV kvs (nK n) with
            | none => rfl
            | some v =>
              have h := valV_in e
              rw [hks] at h
              obtain ⟨m, hm, e2⟩ := List.mem_map.mp h
              have e3 := nK_inj e2
              subst e3
              obtain ⟨j, hj, e4⟩ := List.mem_iff_getElem.mp hm
              rw [List.length_take] at hj
              rw [List.getElem_take] at e4
              have := nd_ix nd (List.getElem?_eq_getElem (by omega) : ns[j]? = some ns[j]) (by rw [e4]; exact hn)
              omega
          refine ⟨_, rfl, _, rfl, ⟨kn, _, rfl, dput_nm hk4 (hxn.px (Same.px s4)) (sz_lt (by omega)), ?_⟩⟩
          refine ⟨_, _, rfl, ?_, upd_same, ?_⟩
          · intro b o hb
            rw [upd_ne (ne_of_none hb hkn)]
            exact s4 _ _ hb
          · rw [putK_new _ fresh, List.map_append, hks, List.take_succ, hn]
            simp
        · rintro σ' H4 ⟨x4', kvs, rfl, s4, hk4, hks⟩
          rw [Paired.length hvp3, List.take_length] at hks
          have hp4 := s4 _ _ hp3
          have hpp4 : Paired (PrAt H4) ps prs := Paired.imp (fun _ _ => PrAt.px (Same.px s4)) hpp3
          have hv4 := s4 _ _ hv3
          have hvp4 : Paired (NmAt H4) vs0 ns := Paired.imp (fun _ _ => NmAt.px (Same.px s4)) hvp3
          have fewN : ns.length ≤ 100 := by omega
          have fewP : prs.length ≤ 100 := by omega
          walk_at "g"
          refine ⟨.ref kn, pr, ps, ns, prs, rfl, hp4, hpp4, nd, nne, hin, fewN, fewP, ⟨kn, kvs, rfl, hk4, hks⟩, fun H5 v1 s5 o1 => ?_⟩
          walk_at "g"
          refine ⟨nm, pr, vs0, ps, ns, prs, rfl, s5 _ _ hv4, Paired.imp (fun _ _ => NmAt.px (Same.px s5)) hvp4, s5 _ _ hp4, Paired.imp (fun _ _ => PrAt.px (Same.px s5)) hpp4, nd, nne, fewN, fewP, fun H6 v2 s6 o2 => ?_⟩
          refine ⟨_, _, (OutAt.same s6 o1).dp, o2.dp, out_shaped _, out_shaped _, ?_⟩
          rw [eqv_self (out_shaped _)]
          walk_at "g"
          refine ⟨nofun, fun _ => ?_⟩
          walk_at "g"
          have s46 := s5.trans s6
          refine w_listL (SqL.of (s46 _ _ hv4)) fun g1 hg1 => ?_
          walk_at "g"
          refine w_listL (SqL.of (Same.new hg1 _ _ (s46 _ _ hp4))) fun g2 hg2 => ?_
          walk_at "g"
          refine ⟨by show 2 ≤ sizeLine; decide, fun gv hgv => ?_⟩
          walk_at "g"
          generalize hH7 : upd (upd (upd H6 g1 (.lst vs0)) g2 (.lst ps)) gv (.lst [.ref g1, .ref g2]) = H7
          have s67 : Same H6 H7 := by rw [← hH7]; exact ((Same.new hg1).trans (Same.new hg2)).trans (Same.new hgv)
          have s47 := s46.trans s67
          have h7g : H7 gv = some (.lst [.ref g1, .ref g2]) := by rw [← hH7, upd_same]
          have h72 : H7 g2 = some (.lst ps) := by rw [← hH7]; exact Same.new hgv _ _ upd_same
          have h71 : H7 g1 = some (.lst vs0) := by rw [← hH7]; exact Same.new hgv _ _ (Same.new hg2 _ _ upd_same)
          have hvp7 : Paired (NmAt H7) vs0 ns := Paired.imp (fun _ _ => NmAt.px (Same.px s47)) hvp4
          have hpp7 : Paired (PrAt H7) ps prs := Paired.imp (fun _ _ => PrAt.px (Same.px s47)) hpp4
          refine w_ixL (SqL.of h7g) (v := .ref g1) rfl ?_
          walk_at "g"
          refine w_ixL (SqL.of h7g) (v := .ref g2) rfl ?_
          walk_at "g"
          refine ⟨.ref g1, g2, ps, ns, prs, rfl, h72, hpp7, nd, nne, hin, fewN, fewP, ⟨g1, vs0, rfl, h71, hvp7⟩, fun H8 v3 s8 o3 => ?_⟩
          walk_at "g"
          refine w_andV ?_
          walk_at "g"
          refine ⟨by show 2 ≤ sizeLine; decide, fun g3 hg3 => ?_⟩
          have s89 : Same H8 (upd H8 g3 (.lst [.ref nm, .ref pr])) := Same.new hg3
          have gd : ∀ {g g1 g2 : Addr} {H : Hp}, H g = some (.lst [.ref g1, .ref g2]) → H g1 = some (.lst vs0) → H g2 = some (.lst ps) → Paired (NmAt H) vs0 ns → Paired (PrAt H) ps prs → Dp K H (.ref g) (.list [.list (ns.map nD), .list (prs.map pD)]) := fun h0 h1 h2 h3 h4 =>
            .lst (SqL.of h0) (.cons (.lst (SqL.of h1) (dpAll_of (fun _ _ h => h.rp) h3)) (.cons (.lst (SqL.of h2) (dpAll_of (fun _ _ h => h.rp) h4)) .nil))
          have s79 := s8.trans s89
          have hvp9 := Paired.imp (fun _ _ => NmAt.px (Same.px s79)) hvp7
          have hpp9 := Paired.imp (fun _ _ => PrAt.px (Same.px s79)) hpp7
          refine ⟨_, _, gd (s79 _ _ h7g) (s79 _ _ h71) (s79 _ _ h72) hvp9 hpp9, gd upd_same (s79 _ _ (s47 _ _ hv4)) (s79 _ _ (s47 _ _ hp4)) hvp9 hpp9, given_shaped _ _, given_shaped _ _, ?_⟩
          rw [eqv_self (given_shaped _ _)]
          refine ⟨_, rfl, fun _ => ?_, nofun⟩
          refine w_andV ?_
          walk_at "g"
          refine ⟨nm, pr, vs0, ps, ns, prs, rfl, s79 _ _ (s47 _ _ hv4), hvp9, s79 _ _ (s47 _ _ hp4), hpp9, nd, nne, fewN, fewP, fun H10 v4 s10 o4 => ?_⟩
          refine ⟨_, _, (OutAt.same (s89.trans s10) o3).dp, o4.dp, out_shaped _, out_shaped _, ?_⟩
          rw [eqv_self (out_shaped _)]
          refine ⟨_, rfl, fun _ => ?_, nofun⟩
          refine w_orV ?_
          walk_at "g"
          refine ⟨fun _ => q _, fun hn => ?_⟩
          walk_at "g"
          have o5 := OutAt.same (s89.trans s10) o3
          cases ho : order prs ns.length (srtN ns) with
          | none =>
            rw [ho] at o5
            rw [show v3 = .non from o5] at hn
            simp at hn
          | some out =>
            rw [ho] at o5
            obtain ⟨p, vs, rfl, hp, _⟩ := o5
            refine ⟨_, _, _, _, true, rfl, .ty "list", tyx_list hp, kit_ty (by decide +kernel), ?_⟩
            exact q _
end
/-! ### the head -/
abbrev R : PySem.W.OpenRow := PySem.W.OpenLaw.row PySem.Challenge.rw_crosskeep_k84_names_are_sorted
abbrev hk : PySem.W.Hook := He.hookD 4 faL fnL
def ob (s : PySem.W.SharedT) : He.AlD := He.obsDG 4 faL fnL (HandSHeadRun.getT s)
theorem ob_eq (s : PySem.W.SharedT) : ob s = hk.obs s.abs := He.obsDG_eq (HandSHeadRun.getT_eq s)
theorem run (w : World) : HandSHeadRun.RunEq R (PySem.W.view R.prog [8]) hk ob 2000 ["names_ahead", "first_free", "sorted_names", "_law_number", "_law_take", "_law_due"] w := by
  intro os
  kernel_rfl
theorem facts {P : Program} {w : World} {K : PySem.W.Frag} {h : Heap} {mg : Str → Option Value} {f : Addr} (X : K.In h) (G : h.Ns mainGlobals mg) (hfa : mg ("law" : Str) = some (.ref f)) (c : He.SaysD faL fnL K) :
    ∃ fd : FuncData, (∀ (s : Shared) (v : Value), BindsTo s fd ⟨[v], []⟩ [("_law_script", v)]) ∧ ∀ base : Heap, K.In base → base.Ns mainGlobals mg → FnOk P w K mg base CX0 3 f fd ["_law_script"] (spLaw K) := by
  have T : Tx K mg := ⟨c, h, X, G⟩
  have e := hfa.symm.trans (T.glo 13)
  cases e
  exact ⟨_, fun s v => T.bT_law s [v] rfl, fun base _ _ => ok_law T⟩
end K84
open PySem PySem.W PySem.Calls PyProof.Rows
set_option maxRecDepth 100000 in
set_option maxHeartbeats 0 in
theorem PySem.Challenge.cw_crosskeep_k84_names_are_sorted_holds : PySem.Challenge.rw_crosskeep_k84_names_are_sorted.Holds := by
  w_on; o_law
  refine HandSHeadRun.head_any (r := OpenLaw.row PySem.Challenge.rw_crosskeep_k84_names_are_sorted) (q := view (OpenLaw.row PySem.Challenge.rw_crosskeep_k84_names_are_sorted).prog [8]) (H := K84.hk) (ob := K84.ob) (M := 2000) (loose := ["names_ahead", "first_free", "sorted_names", "_law_number", "_law_take", "_law_due"]) (d := HandSHeadRun.topDef (OpenLaw.row PySem.Challenge.rw_crosskeep_k84_names_are_sorted).prog 8) (kwd := []) K84.ob_eq
    (by kernel_rfl) (fun s => by kernel_rfl) K84.run (by kernel_rfl) (by kernel_rfl) (by kernel_rfl) (by rfl) (by first | assumption | decide +kernel) (by decide +kernel) ⟨rfl, rfl, rfl, rfl, rfl, by decide +kernel⟩ ?hw ?hc
  case hw => w_witness2
  case hc =>
    refine L2.walk_ofE (l := PySem.Challenge.rw_crosskeep_k84_names_are_sorted) (n := 63) (k := 3) (x := "_law_script") (CX := L2.CX0) rfl (by decide) (by kernel_rfl) ⟨rfl, by decide, by decide⟩ ?F (fun _ _ _ _ z => z)
    intro w mg fa h Y G hmg0
    obtain ⟨K, KX, c⟩ := Y
    have hmg : mg ("law" : PySem.Str) = some (.ref fa) := by
      have e : (HandSHeadRun.topDef (OpenLaw.row PySem.Challenge.rw_crosskeep_k84_names_are_sorted).prog 8).name = ("law" : PySem.Str) := by kernel_rfl
      rw [← e]
      exact hmg0
    obtain ⟨fd, hb, hF⟩ := K84.facts (P := (PySem.Challenge.rw_crosskeep_k84_names_are_sorted).prog) (w := w) KX G hmg c
    exact ⟨K, fd, Kt.spLaw K, KX, hb, fun H a ns hl ho hS => ⟨a, ns, rfl, Kt.scr_of ho hS, hl, fun _ => rfl⟩, hF⟩
#print axioms PySem.Challenge.cw_crosskeep_k84_names_are_sorted_holds

import PyProof.Rows.All
import Wide.All
import OpenK.AllK
import Wide.FinOn
import HandS.ForMost
import HandS.Deep
import HandS.More
import HandS.Walk
import HandS.Defaults
import HandS.HeadHook2
import KE.SortData
import HandS.DictComp
import KE.KDictCopyH
import KE.KDictSum
import HandS.IsInst
import HandS.Evl
import HandS.Zip
import PyProof.StrOps2
import PyProof.FitsStr
import HandS.WordsDict
import HandS.Head0
import HandS.Head1
import HandS.Head2
import HandS.HeadHook4
import HandS.HeadEnd
import PySem.Challenge.RW_crosskeep_k80_orders_are_judged
set_option Elab.async false
set_option linter.all false
set_option maxRecDepth 100000
set_option maxHeartbeats 4000000
/-! Kt: own words over the hand layer: data that never changes (Rp), changes (Ch), readings step by step (w_..), some rules. -/
namespace Kt
open PySem PySem.Spec PyProof.Rows L2

/-! ### defs by their addresses -/
def fdOf (K : PySem.W.Frag) (f : Addr) : FuncData := match K.lookup f with
  | some ⟨_, _, .func fd, _⟩ => fd
  | _ => ⟨"", "", { posonlyargs := [], args := [], vararg := none, kwonlyargs := [], kw_defaults := [], kwarg := none, defaults := [] }, .stmts [], { kind := .function, names := [], isGenerator := false, isCoroutine := false }, 0, [], .none, .none, .none, .none, none, .none, .none, 0⟩
theorem fun_ofD {K : PySem.W.Frag} {x qual : Str} {st : Stmt} {f : Addr} {kws : List (Str × V)} (h : ∃ fd, FunD K x qual (defArgs st) (defBody st) (defScope st) [] kws f fd) : Fun K x qual st f (fdOf K f) := by
  obtain ⟨fd, F⟩ := h
  obtain ⟨oc, od, dV, kV, doc, pm, an, cdv, ct, osl, e, l, c, hd, _⟩ := F.ex
  have ef : fdOf K f = fd := by unfold fdOf; rw [l]
  rw [ef]
  rcases hd with ⟨_, e2⟩ | ⟨e2, _⟩
  · subst e2
    exact ⟨⟨oc, od, kV, doc, pm, an, cdv, ct, osl, e, l, c⟩, F.kp⟩
  · exact absurd rfl e2
theorem bindsT {K : PySem.W.Frag} {x qual : Str} {st : Stmt} {f : Addr} {fd : FuncData} {ps : List Str} (F : Fun K x qual st f fd)
    (h : ∀ (kV doc pm : Value) (an : Option Addr) (cdv ct : Value) (us : List Value), us.length = ps.length → bindArgs (PySem.W.fnOf x qual (defArgs st) (defBody st) (defScope st) .none kV doc pm an cdv ct) ⟨us, []⟩ = pure (ps.zip us))
    (s : Shared) (us : List Value) (hl : us.length = ps.length) : BindsTo s fd ⟨us, []⟩ (ps.zip us) := by
  obtain ⟨oc, od, kV, doc, pm, an, cdv, ct, osl, rfl, lk, hcd⟩ := F.ex
  exact .of_eq (h kV doc pm an cdv ct us hl)
theorem hu65 {A : Around} {k : Nat} (hr : Room k A) : A.units + 65 < cLine := by
  have := hr.un
  omega

/-! ### tuples stay -/
def Px (H H' : Hp) : Prop := ∀ a xs, H a = some (.tup xs) → H' a = some (.tup xs)
/-- what changes lies in S; tuples stay -/
def Ch (S : List Addr) (H H' : Hp) : Prop := Px H H' ∧ ∀ a o, H a = some o → a ∉ S → H' a = some o
theorem Px.refl (H : Hp) : Px H H := fun _ _ h => h
theorem Px.trans {H H1 H2 : Hp} (a : Px H H1) (b : Px H1 H2) : Px H H2 := fun x o h => b x o (a x o h)
theorem Same.px {H H' : Hp} (s : Same H H') : Px H H' := fun _ _ h => s _ _ h
theorem Ch.px {S : List Addr} {H H' : Hp} (s : Ch S H H') : Px H H' := s.1
theorem Ch.refl {S : List Addr} (H : Hp) : Ch S H H := ⟨fun _ _ h => h, fun _ _ h _ => h⟩
theorem Ch.trans {S : List Addr} {H H1 H2 : Hp} (a : Ch S H H1) (b : Ch S H1 H2) : Ch S H H2 := ⟨a.1.trans b.1, fun x o h n => b.2 x o (a.2 x o h n) n⟩
theorem Ch.mono {S S' : List Addr} {H H1 : Hp} (a : Ch S H H1) (h : ∀ x ∈ S, x ∈ S') : Ch S' H H1 := ⟨a.1, fun x o e n => a.2 x o e fun z => n (h x z)⟩
theorem Same.ch {S : List Addr} {H H' : Hp} (s : Same H H') : Ch S H H' := ⟨fun _ _ h => s _ _ h, fun _ _ h _ => s _ _ h⟩
theorem Ch.same {H H' : Hp} (s : Ch [] H H') : Same H H' := fun a o h => s.2 a o h (by simp)
theorem Px.new {H : Hp} {p : Addr} {o : HO} (h : H p = none) : Px H (upd H p o) := fun a u e => by rw [upd_ne (ne_of_none e h)]; exact e
theorem Same.new {H : Hp} {p : Addr} {o : HO} (h : H p = none) : Same H (upd H p o) := fun a u e => by rw [upd_ne (ne_of_none e h)]; exact e
def isTup : HO → Bool
  | .tup _ => true
  | _ => false
theorem Px.upd {H : Hp} {p : Addr} {o u : HO} (h : H p = some u) (n : isTup u = false) : Px H (upd H p o) := fun a xs e => by
  rw [upd_ne]
  · exact e
  · rintro rfl
    rw [h] at e
    cases e
    cases n
theorem Ch.upd {H : Hp} {p : Addr} {o u : HO} (h : H p = some u) (n : isTup u = false) : Ch [p] H (upd H p o) := ⟨Px.upd h n, fun a o e z => by
  rw [upd_ne]
  · exact e
  · simpa using z⟩
theorem fresh_back {S : List Addr} {H H' : Hp} (s : Ch S H H') {a : Addr} (h : H' a = none) (n : a ∉ S) : H a = none := by
  cases e : H a with
  | none => rfl
  | some o => rw [s.2 a o e n] at h; cases h

/-! ### data that never change: None, bools, ints, texts, tuples -/
def TpK (K : PySem.W.Frag) (a : Addr) (xs : List V) : Prop :=
  ∃ (o : Obj) (its : Array Value) (n : Nat), K.lookup a = some o ∧ o.cls = .type "tuple" ∧ o.data = .seq its n ∧ its.size ≤ sizeLine ∧ Vals xs its.toList
def Tq (K : PySem.W.Frag) (H : Hp) (a : Addr) (xs : List V) : Prop := H a = some (.tup xs) ∨ TpK K a xs
theorem Tq.sq {K : PySem.W.Frag} {H : Hp} {a : Addr} {xs : List V} (h : Tq K H a xs) : SqT K H a xs := h.elim (fun h => .inl (.inl h)) .inr
theorem Tq.mono {K : PySem.W.Frag} {H H' : Hp} {a : Addr} {xs : List V} (h : Tq K H a xs) (p : Px H H') : Tq K H' a xs := h.elim (fun h => .inl (p _ _ h)) .inr
theorem Tq.of {K : PySem.W.Frag} {H : Hp} {a : Addr} {xs : List V} (h : H a = some (.tup xs)) : Tq K H a xs := .inl h
mutual
inductive Rp (K : PySem.W.Frag) (H : Hp) : V → PyData → Prop
  | non : Rp K H .non .none
  | bl (b : Bool) : Rp K H (.bl b) (.bool b)
  | int (i : Int) : Rp K H (.int i) (.int i)
  | str (x : Str) : Rp K H (.str x) (.str x)
  | tup {a : Addr} {xs : List V} {ds : List PyData} : Tq K H a xs → Rps K H xs ds → Rp K H (.ref a) (.tuple ds)
inductive Rps (K : PySem.W.Frag) (H : Hp) : List V → List PyData → Prop
  | nil : Rps K H [] []
  | cons {v : V} {vs : List V} {d : PyData} {ds : List PyData} : Rp K H v d → Rps K H vs ds → Rps K H (v :: vs) (d :: ds)
end
section
variable {K : PySem.W.Frag} {H H' : Hp}
mutual
theorem Rp.mono (p : Px H H') : ∀ (d : PyData) (v : V), Rp K H v d → Rp K H' v d
  | .none, _, h => by cases h; exact .non
  | .bool b, _, h => by cases h; exact .bl b
  | .int i, _, h => by cases h; exact .int i
  | .str x, _, h => by cases h; exact .str x
  | .tuple ds, _, h => by
    cases h with
    | tup t r => exact .tup (t.mono p) (Rps.mono p ds _ r)
  | .list ds, _, h => by cases h
  | .dict ds, _, h => by cases h
theorem Rps.mono (p : Px H H') : ∀ (ds : List PyData) (vs : List V), Rps K H vs ds → Rps K H' vs ds
  | [], _, h => by cases h; exact .nil
  | d :: ds, _, h => by
    cases h with
    | cons h r => exact .cons (Rp.mono p d _ h) (Rps.mono p ds _ r)
end
mutual
theorem Rp.dp : ∀ (d : PyData) (v : V), Rp K H v d → Dp K H v d
  | .none, _, h => by cases h; exact .non
  | .bool b, _, h => by cases h; exact .bl b
  | .int i, _, h => by cases h; exact .int i
  | .str x, _, h => by cases h; exact .str x
  | .tuple ds, _, h => by
    cases h with
    | tup t r => exact .tup t.sq (Rps.dp ds _ r)
  | .list ds, _, h => by cases h
  | .dict ds, _, h => by cases h
theorem Rps.dp : ∀ (ds : List PyData) (vs : List V), Rps K H vs ds → DpAll K H vs ds
  | [], _, h => by cases h; exact .nil
  | d :: ds, _, h => by
    cases h with
    | cons h r => exact .cons (Rp.dp d _ h) (Rps.dp ds _ r)
end
theorem Rp.to {v : V} {d : PyData} (h : Rp K H v d) (p : Px H H') : Rp K H' v d := Rp.mono p d v h
theorem Rps.to {vs : List V} {ds : List PyData} (h : Rps K H vs ds) (p : Px H H') : Rps K H' vs ds := Rps.mono p ds vs h
theorem Rp.d {v : V} {d : PyData} (h : Rp K H v d) : Dp K H v d := Rp.dp d v h
theorem Rps.d {vs : List V} {ds : List PyData} (h : Rps K H vs ds) : DpAll K H vs ds := Rps.dp ds vs h
theorem Rps.length : ∀ {vs : List V} {ds : List PyData}, Rps K H vs ds → vs.length = ds.length
  | [], _, h => by cases h; rfl
  | _ :: _, _, h => by
    cases h with
    | cons h r => simp [Rps.length r]
theorem Rps.get : ∀ {vs : List V} {ds : List PyData} {i : Nat} {v : V}, Rps K H vs ds → vs[i]? = some v → ∃ d, ds[i]? = some d ∧ Rp K H v d
  | _, _, _, _, .nil, e => by simp at e
  | _, _, 0, _, .cons h _, e => by simp at e; subst e; exact ⟨_, rfl, h⟩
  | _, _, i + 1, v, .cons _ r, e => by
    obtain ⟨d, h1, h2⟩ := Rps.get (i := i) (v := v) r (by simpa using e)
    exact ⟨d, by simpa using h1, h2⟩
theorem Rps.get' : ∀ {vs : List V} {ds : List PyData} {i : Nat} {d : PyData}, Rps K H vs ds → ds[i]? = some d → ∃ v, vs[i]? = some v ∧ Rp K H v d
  | _, _, _, _, .nil, e => by simp at e
  | _, _, 0, _, .cons h _, e => by simp at e; subst e; exact ⟨_, rfl, h⟩
  | _, _, i + 1, v, .cons _ r, e => by
    obtain ⟨d, h1, h2⟩ := Rps.get' (i := i) (d := v) r (by simpa using e)
    exact ⟨d, by simpa using h1, h2⟩
theorem Rps.append : ∀ {vs ws : List V} {ds es : List PyData}, Rps K H vs ds → Rps K H ws es → Rps K H (vs ++ ws) (ds ++ es)
  | _, _, _, _, .nil, s => s
  | _, _, _, _, .cons h r, s => .cons h (Rps.append r s)
theorem Rps.snoc {vs : List V} {v : V} {ds : List PyData} {d : PyData} (h : Rps K H vs ds) (r : Rp K H v d) : Rps K H (vs ++ [v]) (ds ++ [d]) := h.append (.cons r .nil)
theorem Rps.take : ∀ {vs : List V} {ds : List PyData} (n : Nat), Rps K H vs ds → Rps K H (vs.take n) (ds.take n)
  | _, _, 0, _ => .nil
  | _, _, _ + 1, .nil => .nil
  | _, _, n + 1, .cons h r => .cons h (Rps.take n r)
theorem Rps.drop : ∀ {vs : List V} {ds : List PyData} (n : Nat), Rps K H vs ds → Rps K H (vs.drop n) (ds.drop n)
  | _, _, 0, h => h
  | _, _, _ + 1, .nil => .nil
  | _, _, n + 1, .cons _ r => Rps.drop n r
end

/-! ### data without bools, lists, dicts: equal is the same -/
mutual
def Pln : PyData → Bool
  | .none => true
  | .int _ => true
  | .str x => PyData.strOk x
  | .tuple ds => PlnAll ds
  | _ => false
def PlnAll : List PyData → Bool
  | [] => true
  | d :: ds => Pln d && PlnAll ds
end
mutual
theorem eqv_iff : ∀ (d e : PyData), Pln d = true → Pln e = true → (PyData.eqv d e = true ↔ d = e)
  | .none, .none, _, _ => by simp [PyData.eqv]
  | .none, .int _, _, _ => by simp [PyData.eqv]
  | .none, .str _, _, _ => by simp [PyData.eqv]
  | .none, .tuple _, _, _ => by simp [PyData.eqv]
  | .int _, .none, _, _ => by simp [PyData.eqv]
  | .int _, .int _, _, _ => by simp [PyData.eqv]
  | .int _, .str _, _, _ => by simp [PyData.eqv]
  | .int _, .tuple _, _, _ => by simp [PyData.eqv]
  | .str _, .none, _, _ => by simp [PyData.eqv]
  | .str _, .int _, _, _ => by simp [PyData.eqv]
  | .str _, .str _, _, _ => by simp [PyData.eqv]
  | .str _, .tuple _, _, _ => by simp [PyData.eqv]
  | .tuple _, .none, _, _ => by simp [PyData.eqv]
  | .tuple _, .int _, _, _ => by simp [PyData.eqv]
  | .tuple _, .str _, _, _ => by simp [PyData.eqv]
  | .tuple ds, .tuple es, h1, h2 => by
    have h1' : PlnAll ds = true := by simpa [Pln] using h1
    have h2' : PlnAll es = true := by simpa [Pln] using h2
    simp only [PyData.eqv, PyData.tuple.injEq]
    exact eqvAll_iff ds es h1' h2'
  | .bool _, _, h, _ => by simp [Pln] at h
  | .list _, _, h, _ => by simp [Pln] at h
  | .dict _, _, h, _ => by simp [Pln] at h
  | .none, .bool _, _, h => by simp [Pln] at h
  | .none, .list _, _, h => by simp [Pln] at h
  | .none, .dict _, _, h => by simp [Pln] at h
  | .int _, .bool _, _, h => by simp [Pln] at h
  | .int _, .list _, _, h => by simp [Pln] at h
  | .int _, .dict _, _, h => by simp [Pln] at h
  | .str _, .bool _, _, h => by simp [Pln] at h
  | .str _, .list _, _, h => by simp [Pln] at h
  | .str _, .dict _, _, h => by simp [Pln] at h
  | .tuple _, .bool _, _, h => by simp [Pln] at h
  | .tuple _, .list _, _, h => by simp [Pln] at h
  | .tuple _, .dict _, _, h => by simp [Pln] at h
theorem eqvAll_iff : ∀ (d e : List PyData), PlnAll d = true → PlnAll e = true → (PyData.eqvAll d e = true ↔ d = e)
  | [], [], _, _ => by simp [PyData.eqvAll]
  | [], _ :: _, _, _ => by simp [PyData.eqvAll]
  | _ :: _, [], _, _ => by simp [PyData.eqvAll]
  | d :: ds, e :: es, h1, h2 => by
    have h1' : Pln d = true ∧ PlnAll ds = true := by simpa [PlnAll] using h1
    have h2' : Pln e = true ∧ PlnAll es = true := by simpa [PlnAll] using h2
    simp only [PyData.eqvAll, Bool.and_eq_true, List.cons.injEq]
    rw [eqv_iff d e h1'.1 h2'.1, eqvAll_iff ds es h1'.2 h2'.2]
end
open Classical in
theorem eqv_dec {d e : PyData} (h1 : Pln d = true) (h2 : Pln e = true) : PyData.eqv d e = decide (d = e) := by
  have h := eqv_iff d e h1 h2
  by_cases q : d = e
  · rw [decide_eq_true q]; exact h.mpr q
  · rw [decide_eq_false q]
    cases r : PyData.eqv d e with
    | false => rfl
    | true => exact absurd (h.mp r) q
theorem PlnAll_iff : ∀ {ds : List PyData}, PlnAll ds = true ↔ ∀ d ∈ ds, Pln d = true
  | [] => by simp [PlnAll]
  | d :: ds => by simp [PlnAll, PlnAll_iff (ds := ds)]
mutual
theorem pln_lay : ∀ d : PyData, Pln d = true → d.canLay0 = true
  | .none, _ => by simp [PyData.canLay0]
  | .int _, _ => by simp [PyData.canLay0]
  | .str _, h => by simpa [PyData.canLay0, Pln] using h
  | .tuple ds, h => by
    simp only [PyData.canLay0]
    exact plnAll_lay ds (by simpa [Pln] using h)
  | .bool _, h => by simp [Pln] at h
  | .list _, h => by simp [Pln] at h
  | .dict _, h => by simp [Pln] at h
theorem plnAll_lay : ∀ ds : List PyData, PlnAll ds = true → PyData.canLayAll0 ds = true
  | [], _ => by simp [PyData.canLayAll0]
  | d :: ds, h => by
    have h' : Pln d = true ∧ PlnAll ds = true := by simpa [PlnAll] using h
    simp only [PyData.canLayAll0, Bool.and_eq_true]
    exact ⟨pln_lay d h'.1, plnAll_lay ds h'.2⟩
end
theorem depthAll_le {n : Nat} : ∀ {ds : List PyData}, (∀ d ∈ ds, d.depth ≤ n) → PyData.depthAll ds ≤ n
  | [], _ => by simp [PyData.depthAll]
  | d :: ds, h => by
    have h1 := h d (by simp)
    have h2 := depthAll_le (ds := ds) fun e he => h e (by simp [he])
    simp only [PyData.depthAll]
    omega
theorem shaped_of {d : PyData} (h : Pln d = true) (hd : d.depth ≤ 64) : SeqAt.shaped d = true := by
  unfold SeqAt.shaped
  rw [pln_lay d h, decide_eq_true hd]
  rfl
theorem shapedL_of {ds : List PyData} (h : PlnAll ds = true) (hd : ∀ d ∈ ds, d.depth ≤ 63) : SeqAt.shaped (.list ds) = true := by
  unfold SeqAt.shaped
  have h1 : PyData.canLay0 (.list ds) = true := by simp only [PyData.canLay0]; exact plnAll_lay ds h
  have h2 := depthAll_le hd
  rw [h1, decide_eq_true (by simp only [PyData.depth]; omega)]
  rfl

/-! ### lists told item by item -/
section
variable {α β : Type} {R S : α → β → Prop}
theorem Paired.getL : ∀ {xs : List α} {bs : List β} {i : Nat} {x : α}, Paired R xs bs → xs[i]? = some x → ∃ b, bs[i]? = some b ∧ R x b
  | _, _, _, _, .nil, e => by simp at e
  | _, _, 0, _, .cons h _, e => by simp at e; subst e; exact ⟨_, rfl, h⟩
  | _, _, i + 1, x, .cons _ r, e => by
    obtain ⟨d, h1, h2⟩ := Paired.getL (i := i) (x := x) r (by simpa using e)
    exact ⟨d, by simpa using h1, h2⟩
theorem Paired.getR : ∀ {xs : List α} {bs : List β} {i : Nat} {b : β}, Paired R xs bs → bs[i]? = some b → ∃ x, xs[i]? = some x ∧ R x b
  | _, _, _, _, .nil, e => by simp at e
  | _, _, 0, _, .cons h _, e => by simp at e; subst e; exact ⟨_, rfl, h⟩
  | _, _, i + 1, x, .cons _ r, e => by
    obtain ⟨d, h1, h2⟩ := Paired.getR (i := i) (b := x) r (by simpa using e)
    exact ⟨d, by simpa using h1, h2⟩
theorem Paired.app : ∀ {xs ys : List α} {bs cs : List β}, Paired R xs bs → Paired R ys cs → Paired R (xs ++ ys) (bs ++ cs)
  | _, _, _, _, .nil, s => s
  | _, _, _, _, .cons h r, s => .cons h (Paired.app r s)
theorem Paired.takeP : ∀ {xs : List α} {bs : List β} (n : Nat), Paired R xs bs → Paired R (xs.take n) (bs.take n)
  | _, _, 0, _ => .nil
  | _, _, _ + 1, .nil => .nil
  | _, _, n + 1, .cons h r => .cons h (Paired.takeP n r)
theorem Paired.dropP : ∀ {xs : List α} {bs : List β} (n : Nat), Paired R xs bs → Paired R (xs.drop n) (bs.drop n)
  | _, _, 0, h => h
  | _, _, _ + 1, .nil => .nil
  | _, _, n + 1, .cons _ r => Paired.dropP n r
theorem Paired.imp (h : ∀ a b, R a b → S a b) {xs : List α} {bs : List β} (p : Paired R xs bs) : Paired S xs bs := L2.Paired.mapP p h
theorem Paired.memL : ∀ {xs : List α} {bs : List β} {x : α}, Paired R xs bs → x ∈ xs → ∃ b, b ∈ bs ∧ R x b
  | _, _, _, .nil, e => by simp at e
  | _, _, x, .cons h r, e => by
    rcases List.mem_cons.mp e with e | e
    · subst e; exact ⟨_, by simp, h⟩
    · obtain ⟨b, h1, h2⟩ := Paired.memL r e
      exact ⟨b, by simp [h1], h2⟩
theorem Paired.memR : ∀ {xs : List α} {bs : List β} {b : β}, Paired R xs bs → b ∈ bs → ∃ x, x ∈ xs ∧ R x b
  | _, _, _, .nil, e => by simp at e
  | _, _, x, .cons h r, e => by
    rcases List.mem_cons.mp e with e | e
    · subst e; exact ⟨_, by simp, h⟩
    · obtain ⟨b, h1, h2⟩ := Paired.memR r e
      exact ⟨b, by simp [h1], h2⟩
end
end Kt
set_option Elab.async false
set_option linter.all false
set_option maxRecDepth 100000
set_option maxHeartbeats 4000000
/-! Kr: rules of one's own: dict comprehensions whose keys are tuples; sorted of data, of a dict with tuple keys. -/
namespace Kt
open PySem PySem.Spec PyProof.Rows L2

/-! ### a dict comprehension, the dict of either kind: its entries by DPut -/
theorem d_dictSetP {X : Cx} {pins : List (Addr × Obj)} {σ : L2.St} {H H' : Hp} {s : Shared} {E : Value → Shared → Prop} {D : Addr} {y v : V} {u r : Value} {Q : Unit → Shared → Prop}
    (room : X.A.units + 1 < cLine) (I : Inv X pins σ H s) (put : DPut H D y v H') (ry : RelV y u) (rv : RelV v r)
    (fin : ∀ s', Inv X pins σ H' s' → Q () s') : wpAny (model X.prog X.w) X.A (dictSet D u r) Q E s := by
  rcases put with ⟨kvs, k, hD, e1, few, e2⟩ | ⟨kvs, k, b, hD, e1, hb, few, e2⟩
  · subst e1 e2
    obtain ⟨z, sys, ws, rel, dd⟩ := dk_of I.hok hD
    have zw : ws.length ≤ sizeLine := Nat.le_trans (Nat.le_of_eq rel.length.symm) z
    have zl : (putK kvs k v).length ≤ sizeLine := by
      have h := length_putK kvs k v
      omega
    refine wpAny_dictSet_pairs (hsz := zw) (kV_is ry) dd fun g dd' sb => fin _ ?_
    obtain ⟨q, es, ep, hq, more⟩ := dd'
    exact d_write I (by rw [hD]; trivial) sb ⟨q, hq⟩ (dk_new zl sys (rel.put k rv) ⟨q, es, ep, hq, more⟩)
  · subst e1 e2
    have eu : u = Value.ref b := ry
    subst eu
    obtain ⟨z, sys, xs, rel, dd⟩ := dt_of I.hok hD
    have zw : xs.length ≤ sizeLine := Nat.le_trans (Nat.le_of_eq (Paired.length rel).symm) z
    have zl : (putK kvs k v).length ≤ sizeLine := by
      have h := length_putK kvs k v
      omega
    refine wpAny_dictSet_heap (hsz := zw) (show X.A.units < cLine by omega) (key_of I.hok hb) dd fun g dd' sb => fin _ ?_
    obtain ⟨q, es, ep, hq, a2, a3, a4, _, a5⟩ := dd'
    refine d_write I (by rw [hD]; trivial) sb ⟨q, hq⟩ ⟨zl, sys, _, (rel.put k hb rv).keeps fun c ys hc => ?_, q, es, ep, hq, a2, a3, a4, a5⟩
    rw [upd_ne (ne_of hc hD (by nofun))]
    exact hc

/-- which empty dict a display, a comprehension begins with -/
def NewD (o : HO) : Prop := o = .dK [] ∨ o = .dT []
theorem newD_ok {P : Program} {w : World} {H : Hp} {h : Heap} {o : HO} (e : NewD o) (big : sysModules < h.objs.size) : ObjOk P w H (h.push { cls := .type "dict", data := .dict #[] }) h.objs.size o := by
  rcases e with e | e
  · rw [e]
    exact dk_empty h big
  · rw [e]
    exact dt_empty h big
section
variable {X : Cx}
abbrev AllBlk (X : Cx) (scope : Scope) (p : Cx → Prop) : Prop := ∀ (s : Shared) (H : Hp) (C : Addr) (cl : List (Str × Addr)) (fp : List Addr), p (X.blk s H scope (compEnvC scope cl C X.env) fp)
/-- {k: v for target in iter if ..}: o₀ the empty dict; entries by DPut -/
def tDcP (o0 : HO) (wi : TI) (g : TG) (tt : TT) (tk tv : TE) (vs : List Nat) : TE := fun σ H Q => wi σ H fun J Ha => ∀ D, Ha D = none → ∃ W : Nat → Nat → Hp → Prop, (∃ m, W 0 m (upd Ha D o0)) ∧
  ∀ i m H, W i m H → (J.stop i H ∧ Q (.ref D) H) ∨ (J.go i H ∧ ∃ Nx : Hp → Prop, (∀ H', Nx H' → ∃ m', m' < m ∧ W (i + 1) m' H') ∧
    ∀ x H', J.yld i H x H' → g x (wipe σ vs) H' fun σ2 H2 => wipe σ2 vs = wipe σ vs ∧ tt σ2 H2 fun b H3 =>
      if b = true then tk σ2 H3 fun y H4 => tv σ2 H4 fun z H5 => ∃ H6, DPut H5 D y z H6 ∧ Nx H6 else Nx H3)
theorem dcP_core {pins : List (Addr × Obj)} {s : Shared} {σ : L2.St} {H : Hp} {Q : VK} {o0 : HO} {kx vx tg iter : Expr} {ifs : List Expr} {scope : Scope} {own : List (Str × Nat)} {pos pos' : Pos} {wi : TI} {g : TG} {tt : TT} {tk tv : TE} {use : Option (Value → Sem Unit)} {Qf : Value → Shared → Prop}
    (calm : X.calm = true) (room : X.A.units + 1 < cLine) (nd : X.N.Nodup) (h0 : NewD o0) (I : Inv X pins σ H s) (hi : PI X tg iter wi) (ok : BlkOk X.N X.env.scope scope own)
    (hg : AllBlk X scope fun Y => PG Y tg g) (ht : AllBlk X scope fun Y => PTs Y ifs tt) (hk : AllBlk X scope fun Y => PE Y kx tk) (hv : AllBlk X scope fun Y => PE Y vx tv)
    (plain : ∀ x, foldedSetIterable iter X.env x = pure x) (h : tDcP o0 wi g tt tk tv (own.map (·.2)) σ H Q)
    (fin : ∀ D C s' m H', Inv X pins σ H' s' → Q (.ref D) H' → s'.heap.Ns C m → FpOk X pins H' C → compPost (model X.prog X.w) X.A X.xe use Qf (.ref D) C (.ok .next) s') :
    wpAny (model X.prog X.w) X.A (comprehension (.DictComp kx vx [⟨tg, iter, ifs, 0⟩] scope pos) scope X.env pos' newDict false (eval iter X.env) use) Qf X.xe s := by
  have closed : ∀ y ∈ scope.names, y.2 = .free → ∃ c, X.env.cells.lookup y.1 = some c := fun y hy e =>
    (ok.free y hy e).elim (fun k => I.ok.has _ (.inl k)) fun k => I.ok.has _ (.inr k)
  refine wpAny_comprehension_free (use := use) rfl plain (closure_ok closed) ok.kind (fun y hy e => by rw [ok.uniq y hy, e]) (thn (hi.run pins s σ H _ I h) fun xv sa ha => thn ha fun itv sb hb => ?_)
  obtain ⟨it, fp, tn, J, Hb, eit, Ib, T, stb, fb, q⟩ := hb
  subst eit
  refine wpAny_newObj_type (newEnv_comp ?_)
  generalize hD : sb.heap.objs.size = D
  have Dn : Hb D = none := Ib.hok.fresh (Nat.le_of_eq hD)
  obtain ⟨W, ⟨m0, w0⟩, turn⟩ := q D Dn
  generalize hsc : ({ sb with heap := sb.heap.push { cls := .type "dict", data := .dict #[] } } : Shared) = sc
  have Ic : Inv X pins σ (upd Hb D o0) sc := by
    rw [← hsc]
    refine Ib.laid (t' := sb.toks) (fun b o e => Heap.get?_push_of_some _ e) (Nat.le_of_eq hD) ?_
    rw [← hD]
    exact newD_ok h0 Ib.big
  have hpc : sc.heap = sb.heap.push { cls := .type "dict", data := .dict #[] } := by rw [← hsc]
  have below : ∀ b ∈ fp, b < sb.heap.objs.size := fun b hm => by
    obtain ⟨o, e, _⟩ := T.obj _ _ stb b hm
    exact Heap.lt_size e
  have fc : ∀ b ∈ fp, FpOk X pins (upd Hb D o0) b ∧ b < sc.heap.objs.size := fun b hm => by
    have lt := below b hm
    refine ⟨⟨?_, (fb b hm).2⟩, by rw [hpc, Heap.size_push]; exact Nat.lt_succ_of_lt lt⟩
    rw [upd_ne (by rw [← hD]; exact Nat.ne_of_lt lt)]
    exact (fb b hm).1
  have stc : tn 0 sc.heap := T.keep _ _ _ stb fun b _ o e => by
    rw [hpc]
    exact Heap.get?_push_of_some _ e
  have Id := block_start Ic ok nd fc
  generalize hcl : cellsFrom (sc.heap.objs.size + 1) scope.names (cloFrom X.env.cells scope.names []) = cl at Id
  have pg := hg sc (upd Hb D o0) sc.heap.objs.size cl fp
  have pt := ht sc (upd Hb D o0) sc.heap.objs.size cl fp
  have pk := hk sc (upd Hb D o0) sc.heap.objs.size cl fp
  have pv' := hv sc (upd Hb D o0) sc.heap.objs.size cl fp
  subst hcl
  generalize hce : compEnvC scope (cellsFrom (sc.heap.objs.size + 1) scope.names (cloFrom X.env.cells scope.names [])) sc.heap.objs.size X.env = ce at Id pg pt pk pv'
  have cL : ce.locals = sc.heap.objs.size := by rw [← hce]; rfl
  have nofp : ∀ b ∈ fp, (upd Hb D o0) b = none := fun b hm => (fc b hm).1.1
  generalize hHc : upd Hb D o0 = Hc at Ic Id pg pt pk pv' w0 nofp fc
  generalize hsd : ({ sc with heap := pushCells (sc.heap.push { cls := .type "dict", data := .dict #[] }) scope.names } : Shared) = sd at Id
  have std : tn 0 sd.heap := T.keep _ _ _ stc fun b _ o e => by
    rw [← hsd]
    exact pushCells_keeps _ _ _ _ (Heap.get?_push_of_some _ e)
  have fpok : ∀ {σ' : L2.St} {H' : Hp} {s' : Shared}, Inv (X.blk sc Hc scope ce fp) [] σ' H' s' → (∀ b ∈ fp, H' b = none) → ∀ b ∈ fp, FpOk (X.blk sc Hc scope ce fp) [] H' b := fun {σ' H' s'} J' hn b hm =>
    ⟨hn b hm, (J'.ok.exf b hm).1, J'.ok.exfs b hm, .inl hm, fun x c e => (J'.ok.exf b hm).2 x c e, fun p hp => absurd (show p ∈ ([] : List (Addr × Obj)) ++ [] from hp) (by simp)⟩
  have loop : codeAny (model X.prog X.w) X.A (.compLoop (.DictComp kx vx [⟨tg, iter, ifs, 0⟩] scope pos) 0 (.ref it) (.ref D) ce) (compPost (model X.prog X.w) X.A X.xe use Qf (.ref D) sc.heap.objs.size) sd := by
    refine compLoop_anyD (fun n s' => ∃ i H', Inv (X.blk sc Hc scope ce fp) [] (wipe σ (own.map (·.2))) H' s' ∧ tn i s'.heap ∧ (∀ b ∈ fp, H' b = none) ∧ W i n H') ?_ m0 ⟨0, Hc, Id, std, nofp, w0⟩
    rintro n se ⟨i, He, Ie, ste, ne', we⟩
    rcases turn i n He we with ⟨stop, qq⟩ | ⟨go, Nx, hNx, step⟩
    · refine thnF (T.done (X.blk sc Hc scope ce fp) rfl rfl rfl calm i [] se _ He (fun _ _ => False) Ie (fpok Ie ne') ste stop) fun r sf ⟨hr, If⟩ => ?_
      subst hr
      have Ig : Inv X pins σ He sf := Ic.call' (ch := fp) If.os If.base If.hok If.bare fun b hm =>
        let ⟨_, a1, _, a3, a4, a5⟩ := (fc b hm).1
        ⟨a3, a1, a4, a5⟩
      have nC : He sc.heap.objs.size = none := cL ▸ (show He ce.locals = none from If.free)
      obtain ⟨m, hn, _⟩ := If.loc
      have hn2 : sf.heap.Ns sc.heap.objs.size m := cL ▸ (show sf.heap.Ns ce.locals m from hn)
      exact fin D sc.heap.objs.size sf m He Ig qq hn2 (Ic.fpOk (Nat.le_refl _) nC)
    · refine thnF (T.item (X.blk sc Hc scope ce fp) rfl rfl rfl calm i [] se _ He (fun _ _ => False) Ie (fpok Ie ne') ste go) fun r sf ⟨u, hr, hf⟩ => ?_
      subst hr
      refine thnF hf fun _ sg ⟨x, Hg, Ig, rx, yx, stg, ng⟩ => ?_
      refine thnF (pg.run _ sg _ Hg x u _ (Ig.pinned (fpok Ig ng) (T.obj _ _ stg)) rx (step x Hg yx)) fun _ sh ⟨σh, Hh, Ih, wh, qh⟩ => ?_
      refine thnF (pt.run _ sh σh Hh _ Ih qh) fun b si ⟨Hi, Ii, qi⟩ => ?_
      have back : ∀ {s' : Shared} {H' : Hp}, Inv (X.blk sc Hc scope ce fp) ([] ++ pinsAt fp sg.heap) σh H' s' → Nx H' →
          ∃ m, m < n ∧ ∃ i H', Inv (X.blk sc Hc scope ce fp) [] (wipe σ (own.map (·.2))) H' s' ∧ tn i s'.heap ∧ (∀ b ∈ fp, H' b = none) ∧ W i m H' := fun {s' H'} I' nx => by
        obtain ⟨m', hm, w'⟩ := hNx H' nx
        have pinned : ∀ b ∈ fp, ∀ o, sg.heap.get? b = some o → s'.heap.get? b = some o ∧ H' b = none := fun b hm' o e =>
          let z := I'.pin (b, o) (List.mem_append_right _ (List.mem_append_right _ (mem_pinsAt hm' e)))
          ⟨z.1, z.2.1⟩
        have len : (wipe σ (own.map (·.2))).length = σh.length := by rw [← wh, wipe_length]
        refine ⟨m', hm, i + 1, H', (I'.unpinned (pins := [])).weak len (fun j v e => ?_), T.keep _ _ _ stg fun b hm' o e => (pinned b hm' o e).1, fun b hm' => ?_, w'⟩
        · rw [← wh] at e
          exact (wipe_some e).1
        · obtain ⟨o, e, _⟩ := T.obj _ _ stg b hm'
          exact (pinned b hm' o e).2
      cases b with
      | false =>
        rw [if_neg Bool.false_ne_true] at qi ⊢
        exact back Ii qi
      | true =>
        rw [if_pos rfl] at qi ⊢
        refine thnF (pk.run _ si σh Hi _ Ii qi) fun zk sj ⟨yk, Hj, Ij, rk, qj⟩ => ?_
        refine thnF (pv'.run _ sj σh Hj _ Ij qj) fun zv sl ⟨yv, Hl, Il, rv, Hm, put, nx⟩ => ?_
        exact d_dictSetP (X := X.blk sc Hc scope ce fp) room Il put rk rv fun sm Im => back Im nx
  subst hce
  exact codeAny_compStart_dict (hsd ▸ loop) (T.self X.A 0 _ _ _ std (hsd ▸ loop))
section
variable {o0 : HO} {kx vx tg iter : Expr} {ifs : List Expr} {scope : Scope} {own : List (Str × Nat)} {pos : Pos} {wi : TI} {g : TG} {tt : TT} {tk tv : TE}
theorem pe_dcP (calm : X.calm = true) (room : X.A.units + 1 < cLine) (nd : X.N.Nodup) (h0 : NewD o0) (hi : PI X tg iter wi) (ok : BlkOk X.N X.env.scope scope own)
    (hg : AllBlk X scope fun Y => PG Y tg g) (ht : AllBlk X scope fun Y => PTs Y ifs tt) (hk : AllBlk X scope fun Y => PE Y kx tk) (hv : AllBlk X scope fun Y => PE Y vx tv)
    (plain : ∀ x, foldedSetIterable iter X.env x = pure x := by intro _; rfl) : PE X (.DictComp kx vx [⟨tg, iter, ifs, 0⟩] scope pos) (tDcP o0 wi g tt tk tv (own.map (·.2))) := by
  refine ⟨fun pins s σ H Q I h => ?_⟩
  rw [arm_eval_DictComp]
  refine dcP_core calm room nd h0 I hi ok hg ht hk hv plain h fun D C s' m H' I' q hn f => ⟨m, hn, fun h'' sb => ?_⟩
  obtain ⟨f0, f1, f2, f3, f4, f5⟩ := f
  exact ⟨.ref D, H', I'.turned (t' := s'.toks) (fun b o hb e => (sb.2 b hb).trans e) f0 f1 f3 f4 f5, rfl, q⟩
/-- the swap of a name is told -/
theorem sw_trueD {l : Nat} {env : Env} {y : Str} {py : Pos} (hk : env.scope.kind = .function) (hy : env.scope.names.lookup y = some .local) (hl : (py.line == pos.line) = true)
    (free : (scope.names.any fun z => z.1 == y && (z.2 == .local || z.2 == .cell)) = false) : swapsWith (.DictComp kx vx [⟨tg, iter, ifs, 0⟩] scope pos) (some (.Name y py)) l env = pure true := by
  have h1 : env.kindOf y = some .local := hy
  have h2 : env.blockKind = .function := by
    unfold Env.blockKind
    rw [hk]
    rfl
  unfold swapsWith
  simp only [h2, h1, free, Expr.pos, hl]
  rfl
theorem ps_setDcP {i : Nat} {y : Str} {py spos : Pos} (calm : X.calm = true) (room : X.A.units + 1 < cLine) (nd : X.N.Nodup) (h0 : NewD o0) (hy : X.N[i]? = some y) (loc : X.env.scope.names.lookup y = some .local)
    (sw : swapsWith (.DictComp kx vx [⟨tg, iter, ifs, 0⟩] scope pos) (some (.Name y py)) spos.line X.env = pure true) (hi : PI X tg iter wi) (ok : BlkOk X.N X.env.scope scope own)
    (hg : AllBlk X scope fun Y => PG Y tg g) (ht : AllBlk X scope fun Y => PTs Y ifs tt) (hk : AllBlk X scope fun Y => PE Y kx tk) (hv : AllBlk X scope fun Y => PE Y vx tv)
    (plain : ∀ x, foldedSetIterable iter X.env x = pure x := by intro _; rfl) : PS X (.Assign [.Name y py] (.DictComp kx vx [⟨tg, iter, ifs, 0⟩] scope pos) spos) (tAsg (tDcP o0 wi g tt tk tv (own.map (·.2))) (gName i)) := by
  refine ⟨fun pins s σ H D I h => ?_⟩
  rw [exec_Assign_Name_used _ _ _ _ sw]
  refine wpAny_bind (wpAny_standAt (wpAny_bind ?_))
  have h : tDcP o0 wi g tt tk tv (own.map (·.2)) σ H (fun x Ha => gName i x σ Ha D.nx) := h
  refine wpAny_bind (thn (dcP_core (use := some (assign (.Name y py) X.env)) (Qf := fun _ s' => SP X pins D .next s') calm room nd h0 I hi ok hg ht hk hv plain h fun L C s' m H' I' q hn f => ?_) fun _ s' hq => wpAny_pure (wpAny_pure hq))
  show wpAny _ _ (assign (.Name y py) X.env (.ref L)) _ _ _
  refine wpAny_assign_Name (store_ok2 (v := V.ref L) I' nd hy (.inl loc) rfl (fun s2 I2 how => ?_) (.inr loc))
  obtain ⟨a, sb, ha⟩ := how
  obtain ⟨f0, f1, f2, f3, f4, f5⟩ := f
  have far : C ≠ a := ha.elim (fun z => z ▸ f1) fun z e => f4 y a z e.symm
  refine ⟨m, hn.sameBut sb far, fun h3 sb3 => ?_⟩
  exact ⟨_, H', I2.turned (t' := s2.toks) (fun b o hb e => (sb3.2 b hb).trans e) f0 f1 f3 f4 f5, q⟩
end
end

/-! ### sorted of data -/
section
variable {X : Cx} {pins : List (Addr × Obj)} {σ : L2.St} {H : Hp} {s : Shared}
mutual
theorem Rp.reads (I : Inv X pins σ H s) : ∀ (d : PyData) (v : V) (u : Value), Rp X.K H v d → L2.RelV v u → Reads s.heap u d []
  | .none, _, _, h, r => by cases h; cases r; exact .none
  | .bool b, _, _, h, r => by cases h; cases r; exact .bool b
  | .int i, _, _, h, r => by cases h; obtain ⟨t, rfl⟩ := r; exact .int i t
  | .str x, _, _, h, r => by cases h; obtain ⟨t, rfl⟩ := r; exact .str x t
  | .tuple ds, _, _, h, r => by
    cases h with
    | tup hs ha =>
      cases r
      obtain ⟨its, rv, ⟨o, ho, hc, n, hd⟩, _⟩ := I.tuple hs.sq
      exact .tuple ho hc hd (Rps.reads I ds _ its ha rv)
  | .list _, _, _, h, _ => by cases h
  | .dict _, _, _, h, _ => by cases h
theorem Rps.reads (I : Inv X pins σ H s) : ∀ (ds : List PyData) (vs : List V) (us : List Value), Rps X.K H vs ds → Vals vs us → ReadsAll s.heap us ds []
  | [], _, _, h, r => by cases h; cases r; exact .nil
  | d :: ds, _, _, h, r => by
    cases h with
    | cons h1 h2 =>
      cases r with
      | cons r1 r2 => exact .cons (as := []) (bs := []) (Rp.reads I d _ _ h1 r1) (Rps.reads I ds _ _ h2 r2)
end
theorem each_of {β : Type} {R : V → β → Prop} {enc : β → PyData} (I : Inv X pins σ H s) (hR : ∀ v b, R v b → Rp X.K H v (enc b)) : ∀ {vs : List V} {bs : List β} {us : List Value}, Paired R vs bs → Vals vs us →
    PySem.W.EachIs (fun u (b : V × β) => L2.RelV b.1 u) us (vs.zip bs) ∧ PySem.W.EachIs (fun u (b : V × β) => Reads s.heap u (enc b.2) []) us (vs.zip bs)
  | _, _, _, .nil, .nil => ⟨.nil, .nil⟩
  | _, _, _, .cons h hs, .cons r rs => by
    obtain ⟨a, b⟩ := each_of I hR hs rs
    exact ⟨.cons r a, .cons (Rp.reads I _ _ _ (hR _ _ h) r) b⟩
theorem vals_each {β : Type} : ∀ {us : List Value} {bs : List (V × β)}, PySem.W.EachIs (fun u (b : V × β) => L2.RelV b.1 u) us bs → Vals (bs.map Prod.fst) us
  | _, _, .nil => .nil
  | _, _, .cons h r => .cons h (vals_each r)
theorem pair_zip {β : Type} {R : V → β → Prop} : ∀ {bs : List (V × β)}, (∀ b ∈ bs, R b.1 b.2) → Paired R (bs.map Prod.fst) (bs.map Prod.snd)
  | [], _ => .nil
  | b :: bs, h => .cons (h b (by simp)) (pair_zip fun c hc => h c (by simp [hc]))
theorem pair_mem {β : Type} {R : V → β → Prop} : ∀ {vs : List V} {ds : List β}, Paired R vs ds → ∀ b ∈ vs.zip ds, R b.1 b.2
  | _, _, .nil, b, hb => by simp at hb
  | _, _, .cons h r, b, hb => by
    rcases List.mem_cons.mp hb with e | hb
    · rw [e]; exact h
    · exact pair_mem r b hb
abbrev srtBy {β : Type} (enc : β → PyData) (bs : List β) : List β := bs.mergeSort (PySem.W.dataLe false enc)
theorem srt_zip {β : Type} {enc : β → PyData} {vs : List V} {bs : List β} (h : vs.length = bs.length) : ((vs.zip bs).mergeSort (PySem.W.dataLe false fun b => enc b.2)).map Prod.snd = srtBy enc bs := by
  refine (PySem.W.sort_maps (r := PySem.W.dataLe false fun b : V × β => enc b.2) (s := PySem.W.dataLe false enc) Prod.snd fun _ _ _ _ => rfl).trans ?_
  rw [List.map_snd_zip (by omega)]
theorem zip_enc {β : Type} {enc : β → PyData} {vs : List V} {bs : List β} (h : vs.length = bs.length) : (vs.zip bs).map (fun b => enc b.2) = bs.map enc := by
  have e : (vs.zip bs).map (fun b => enc b.2) = ((vs.zip bs).map Prod.snd).map enc := by rw [List.map_map]; rfl
  rw [e, List.map_snd_zip (by omega)]
/-- what can be sorted: alike, told by their items, not too deep -/
structure SrtOk (ds : List PyData) : Prop where
  al : PySem.W.AllAlike ds
  so : PySem.W.Sortable ds
  dp : ∀ d ∈ ds, d.depth ≤ 50
  few : ds.length ≤ sizeLine
/-- sorted(xs), the items told by R, compared by enc -/
def rSortD (K : PySem.W.Frag) : List V → Hp → VK → Prop := fun vs H Q => ∃ (β : Type) (R : V → β → Prop) (enc : β → PyData) (bs : List β) (a : Addr) (xs : List V), vs = [.ref a] ∧ SqL K H a xs ∧ Paired R xs bs ∧
  (∀ v b, R v b → Rp K H v (enc b)) ∧ SrtOk (bs.map enc) ∧ ∀ ys p, H p = none → Paired R ys (srtBy enc bs) → Q (.ref p) (upd H p (.lst ys))
theorem cr_sortD (hu : X.A.units + 64 < cLine) : CallR X (.builtin "sorted") (rSortD X.K) := by
  intro pins s σ H vs us Q I r h
  obtain ⟨β, R, enc, bs, a, xs, rfl, hs, hd, hR, ok, q⟩ := h
  obtain ⟨its, rv, hl, hz⟩ := I.list hs
  rw [Vals.ref1 r]
  have len := Paired.length hd
  obtain ⟨e1, e2⟩ := each_of I hR hd rv
  have sn : (xs.zip bs).map (fun b => enc b.2) = bs.map enc := zip_enc len
  refine PySem.W.sorted_data (enc := fun b : V × β => enc b.2) (R := fun u (b : V × β) => L2.RelV b.1 u) hl.isList e1 (e2.mono fun _ _ z => ⟨[], z⟩) (by rw [sn]; exact ok.al) (by rw [sn]; exact ok.so) (by rw [List.length_zip]; omega) (fun b hb => ?_) fun out ho ho2 => ?_
  · have := ok.dp (enc b.2) (by rw [← sn]; exact List.mem_map_of_mem hb)
    omega
  · obtain ⟨ep, he⟩ := PyProof.Rows.sortedAll_at s.heap its out.toArray
    have pm : ((xs.zip bs).mergeSort (PySem.W.dataLe false fun b => enc b.2)).Perm (xs.zip bs) := List.mergeSort_perm _ _
    have lo : (((xs.zip bs).mergeSort (PySem.W.dataLe false fun b => enc b.2)).map Prod.fst).length ≤ sizeLine := by
      rw [List.length_map, pm.length_eq, List.length_zip]
      omega
    refine ⟨.ref _, upd H (s.heap.objs.size + 1) (.lst (((xs.zip bs).mergeSort (PySem.W.dataLe false fun b => enc b.2)).map Prod.fst)), I.laid (t' := s.toks) (fun _ _ => PyProof.Rows.sortedAll_old) (Nat.le_succ _) ⟨lo, out, ep, vals_each ho2, he⟩, rfl,
      q _ _ (I.hok.fresh (Nat.le_succ _)) ?_⟩
    rw [← srt_zip len]
    exact pair_zip fun b hb => pair_mem hd b (pm.mem_iff.mp hb)
/-- sorted(d), keys that are tuples of ints and texts -/
def kD : Key → PyData
  | .inl i => .int i
  | .inr x => .str x
def kDs (k : List Key) : PyData := .tuple (k.map kD)
/-- the value is a tuple of these keys -/
def KeyAt (H : Hp) (v : V) (k : List Key) : Prop := ∃ b, v = .ref b ∧ H b = some (.tup (k.map kV))
def rSortDT : List V → Hp → VK → Prop := fun vs H Q => ∃ (a : Addr) (kvs : List (List Key × V)), vs = [.ref a] ∧ H a = some (.dT kvs) ∧ SrtOk (kvs.map fun p => kDs p.1) ∧
  ∀ ys p, H p = none → Paired (KeyAt H) ys (srtBy kDs (kvs.map (·.1))) → Q (.ref p) (upd H p (.lst ys))
theorem rp_key {K : PySem.W.Frag} {b : Addr} {k : List Key} (h : H b = some (.tup (k.map kV))) : Rp K H (.ref b) (kDs k) := by
  refine .tup (.inl h) ?_
  clear h
  induction k with
  | nil => exact .nil
  | cons x k ih =>
    refine .cons ?_ ih
    cases x with
    | inl i => exact .int i
    | inr y => exact .str y
theorem cr_sortDT (calm : X.calm = true) (hu : X.A.units + 64 < cLine) : CallR X (.builtin "sorted") rSortDT := by
  intro pins s σ H vs us Q I r h
  obtain ⟨a, kvs, rfl, ha, ok, q⟩ := h
  rw [Vals.ref1 r]
  obtain ⟨z, sys, xs, rel, dd⟩ := dt_of I.hok ha
  obtain ⟨es, ep, raw, hsz, hes⟩ := dd.raw
  have lx : xs.length = kvs.length := (Paired.length rel).symm
  refine Calls.call_function_entry PyProof.Rows.kind_sorted PyProof.Rows.plain_sorted PyProof.Rows.entry_sorted (PyProof.Rows.args_sorted1 _) ?_
  unfold Builtin.«sorted»
  refine wpAny_bind (m := checkCount "sorted" 1 1 _) (wpAny_pure ?_)
  refine wpAny_bind (PySem.W.kdu_collect (A := X.A.in1) (KdlSrc.rawDict (es := es) (ep := ep) sys) (I.ok.hd calm) raw (by omega) fun h' tk acc hk hacc => ?_)
  have lacc : acc.toList.length = kvs.length := by rw [Array.length_toList, hacc.1]; omega
  refine wpAny_bind (wpAny_newList ?_ (by rw [lacc]; exact z))
  -- the keys as values
  have I1 : Inv X pins σ H { s with heap := h', toks := tk } := I.kept hk
  have each : ∀ (i : Nat) (p : List Key × V), kvs[i]? = some p → ∃ b, acc.toList[i]? = some (Value.ref b) ∧ H b = some (.tup (p.1.map kV)) := fun i p hp => by
    have hi : i < kvs.length := (List.getElem?_eq_some_iff.mp hp).1
    have hie : i < es.size := by omega
    obtain ⟨y, hy, hkey, _⟩ := hes i hie
    have hai : i < acc.toList.length := by omega
    obtain ⟨hi2, hv⟩ := hacc.2 i acc.toList[i] (by rw [← Array.getElem?_toList]; exact List.getElem?_eq_getElem hai)
    rw [hkey] at hv
    have hrel : ∀ {l : List (List Key × V)} {m : List (List Key × Addr × Value)} {i : Nat} {p : List Key × V} {y : List Key × Addr × Value}, KT H l m → l[i]? = some p → m[i]? = some y → H y.2.1 = some (.tup (p.1.map kV)) := by
      intro l m i p y q
      induction q generalizing i with
      | nil => intro e; simp at e
      | cons h t ih =>
        intro e1 e2
        cases i with
        | zero =>
          simp at e1 e2
          subst e1 e2
          exact h.2.1
        | succ i => exact ih (by simpa using e1) (by simpa using e2)
    exact ⟨y.2.1, by rw [List.getElem?_eq_getElem hai, hv], hrel rel hp hy⟩
  obtain ⟨vs, hvs, hrp⟩ : ∃ vs : List V, Vals vs acc.toList ∧ Paired (KeyAt H) vs (kvs.map (·.1)) := by
    clear hk hacc raw hes hsz dd ok q
    generalize acc.toList = us at lacc each
    clear rel lx z I1 ha
    induction kvs generalizing us with
    | nil =>
      cases us with
      | nil => exact ⟨[], .nil, .nil⟩
      | cons _ _ => simp at lacc
    | cons p kvs ih =>
      cases us with
      | nil => simp at lacc
      | cons u us =>
        obtain ⟨b, h1, h2⟩ := each 0 p rfl
        obtain ⟨vs, h3, h4⟩ := ih us (by simpa using lacc) fun i p' hp => by
          obtain ⟨b, h5, h6⟩ := each (i + 1) p' (by simpa using hp)
          exact ⟨b, by simpa using h5, h6⟩
        simp at h1
        subst h1
        exact ⟨.ref b :: vs, .cons rfl h3, .cons ⟨b, rfl, h2⟩ h4⟩
  have hoL : (h'.push (seqObj "list" acc.toList.toArray 0)).get? h'.objs.size = some (seqObj "list" acc.toList.toArray 0) := Heap.get?_push_size _ rfl
  have hR : ∀ v k, KeyAt H v k → Rp X.K H v (kDs k) := fun v k ⟨b, e, h⟩ => e ▸ rp_key h
  obtain ⟨e1, e2⟩ := each_of I1 hR hrp hvs
  have lz : vs.length = (kvs.map (·.1)).length := Paired.length hrp
  have lz2 : vs.length ≤ sizeLine := by rw [lz, List.length_map]; exact z
  have sn : (vs.zip (kvs.map (·.1))).map (fun b => kDs b.2) = (kvs.map (·.1)).map kDs := zip_enc lz
  have ek : (kvs.map (·.1)).map kDs = kvs.map fun p => kDs p.1 := by rw [List.map_map]; rfl
  refine wpAny_bind (wpAny_holding (PySem.W.list_sort_data (s := { s with heap := h'.push (seqObj "list" acc.toList.toArray 0), toks := tk }) (enc := fun b : V × List Key => kDs b.2) (R := fun u (b : V × List Key) => L2.RelV b.1 u) hoL e1
    (e2.mono fun _ _ zz => ⟨[], PyProof.Rows.Reads.keeps (fun _ _ => Heap.get?_push_of_some _) zz, by simp⟩) (by rw [sn, ek]; exact ok.al) (by rw [sn, ek]; exact ok.so) (by rw [List.length_zip]; omega) (fun b hb => ?_) fun out ho ho2 => ?_))
  · have h1 := ok.dp (kDs b.2) (by rw [← ek, ← sn]; exact List.mem_map_of_mem hb)
    have h2 : X.A.in1.units = X.A.units + 1 := rfl
    omega
  · obtain ⟨ep', he⟩ := PyProof.Rows.sortedHeap_at (vs := acc.toList) (out := out.toArray) hoL
    have pm : ((vs.zip (kvs.map (·.1))).mergeSort (PySem.W.dataLe false fun b => kDs b.2)).Perm (vs.zip (kvs.map (·.1))) := List.mergeSort_perm _ _
    have lo : (((vs.zip (kvs.map (·.1))).mergeSort (PySem.W.dataLe false fun b => kDs b.2)).map Prod.fst).length ≤ sizeLine := by
      rw [List.length_map, pm.length_eq, List.length_zip]
      omega
    refine wpAny_pure ⟨_, rfl, .ref h'.objs.size, upd H h'.objs.size (.lst (((vs.zip (kvs.map (·.1))).mergeSort (PySem.W.dataLe false fun b => kDs b.2)).map Prod.fst)), I1.laid (t' := tk) (fun b u e => ?_) (Nat.le_refl _)
      ⟨lo, out, ep', vals_each ho2, he⟩, rfl, q _ _ (I1.hok.fresh (Nat.le_refl _)) ?_⟩
    · have hb : b < h'.objs.size := Heap.lt_size e
      rw [PyProof.Rows.sortedHeap_old (Nat.ne_of_lt hb) (by rw [size_push']; exact Nat.lt_succ_of_lt hb)]
      exact Heap.get?_push_of_some _ e
    · rw [← srt_zip (by omega)]
      exact pair_zip fun b hb => pair_mem hrp b (pm.mem_iff.mp hb)
end

/-! ### a dict comprehension over any walk -/
theorem dcp_it {J : It} {n : Nat} {G : Hp → Prop} {Y : Nat → Hp → V → Hp → Prop} (w : Walk J n G Y) {o0 : HO} {g : TG} {tt : TT} {tk tv : TE} {vs : List Nat} {σ : L2.St} {Ha : Hp} {D : Addr} {Qd : Hp → Prop} (Pv : Nat → Hp → Prop)
    (h0 : Pv 0 (upd Ha D o0)) (hG : ∀ i H, i ≤ n → Pv i H → G H)
    (hs : ∀ i x H H', i < n → Pv i H → Y i H x H' → g x (wipe σ vs) H' fun σ2 H2 => wipe σ2 vs = wipe σ vs ∧ tt σ2 H2 fun b H3 =>
      if b = true then tk σ2 H3 fun y H4 => tv σ2 H4 fun z H5 => ∃ H6, DPut H5 D y z H6 ∧ Pv (i + 1) H6 else Pv (i + 1) H3) (hd : ∀ H, Pv n H → Qd H) :
    ∃ W : Nat → Nat → Hp → Prop, (∃ m, W 0 m (upd Ha D o0)) ∧ ∀ i m H, W i m H → (J.stop i H ∧ Qd H) ∨ (J.go i H ∧ ∃ Nx : Hp → Prop, (∀ H', Nx H' → ∃ m', m' < m ∧ W (i + 1) m' H') ∧
      ∀ x H', J.yld i H x H' → g x (wipe σ vs) H' fun σ2 H2 => wipe σ2 vs = wipe σ vs ∧ tt σ2 H2 fun b H3 =>
        if b = true then tk σ2 H3 fun y H4 => tv σ2 H4 fun z H5 => ∃ H6, DPut H5 D y z H6 ∧ Nx H6 else Nx H3) := by
  refine ⟨fun i m H => m = n - i ∧ i ≤ n ∧ Pv i H, ⟨n, by simp, Nat.zero_le _, h0⟩, fun i m H h => ?_⟩
  obtain ⟨em, hi, p⟩ := h
  have good := hG i H hi p
  by_cases lt : i < n
  · exact .inr ⟨w.goes i H lt good, Pv (i + 1), fun H' p' => ⟨n - (i + 1), by omega, rfl, lt, p'⟩, fun x H' y => hs i x H H' lt p (w.yields i H x H' lt good y)⟩
  · have e : i = n := by omega
    subst e
    exact .inl ⟨w.stops H good, hd H p⟩
end Kt
set_option Elab.async false
set_option linter.all false
set_option maxRecDepth 100000
set_option maxHeartbeats 4000000
/-! Kw: readings, one step at a time; built-in calls under names. -/
namespace Kt
open PySem PySem.Spec PyProof.Rows L2

/-! ### built-in calls under names -/
section
variable {X : Cx}
def rLenS (K : PySem.W.Frag) : List V → Hp → VK → Prop := fun xs H Q => ∃ p ys, xs = [.ref p] ∧ (SqL K H p ys ∨ SqT K H p ys) ∧ Q (.int ys.length) H
theorem call_lenS : CallR X (.builtin "len") (rLenS X.K) := call_len_seq
def rLenT : List V → Hp → VK → Prop := fun xs H Q => ∃ z, xs = [.str z] ∧ z.length ≤ sizeLine ∧ Q (.int z.length) H
theorem call_lenT : CallR X (.builtin "len") rLenT := call_len_str
def rLenD : List V → Hp → VK → Prop := fun xs H Q => ∃ a kvs, xs = [V.ref a] ∧ H a = some (.dK kvs) ∧ Q (.int kvs.length) H
theorem call_lenDK : CallR X (.builtin "len") rLenD := call_lenD
def rInt : List V → Hp → VK → Prop := fun xs H Q => ∃ i, xs = [.int i] ∧ Q (.int i) H
theorem call_intI : CallR X (.type "int") rInt := fun pins s σ H xs us Q I r h => call_int1 pins s σ H xs us Q I r (.inl h)
def rListS (K : PySem.W.Frag) : List V → Hp → VK → Prop := fun xs H Q => ∃ p ys, xs = [.ref p] ∧ (SqL K H p ys ∨ SqT K H p ys) ∧ ∀ l, H l = none → Q (.ref l) (upd H l (.lst ys))
theorem call_listS : CallR X (.type "list") (rListS X.K) := call_list_of
def rTupleL (K : PySem.W.Frag) : List V → Hp → VK → Prop := fun xs H Q => ∃ p ys, xs = [.ref p] ∧ SqL K H p ys ∧ ∀ l, H l = none → Q (.ref l) (upd H l (.tup ys))
theorem call_tupleS : CallR X (.type "tuple") (rTupleL X.K) := fun pins s σ H xs us Q I r ⟨p, ys, e, h, q⟩ => call_tuple_of pins s σ H xs us Q I r ⟨p, ys, e, .inl ⟨h, q⟩⟩
def rMax2 : List V → Hp → VK → Prop := fun xs H Q => ∃ i j, xs = [.int i, .int j] ∧ Q (.int (if j > i then j else i)) H
theorem call_maxI (hc : X.calm = true) : CallR X (.builtin "max") rMax2 := call_max2 hc
def rMin2 : List V → Hp → VK → Prop := fun xs H Q => ∃ i j, xs = [.int i, .int j] ∧ Q (.int (if j < i then j else i)) H
theorem call_minI (hc : X.calm = true) : CallR X (.builtin "min") rMin2 := call_min2 hc
def rIns : V → List V → Hp → VK → Prop := fun x vs H Q => ∃ (l : Addr) (xs : List V) (i : Int) (y : V), x = .ref l ∧ vs = [.int i, y] ∧ H l = some (.lst xs) ∧ xs.length < sizeLine ∧ 0 ≤ i ∧ i < 2 ^ 63 ∧
    Q .non (upd H l (.lst (xs.take i.toNat ++ [y] ++ xs.drop i.toNat)))
theorem mt_ins : MtR X "list.insert" rIns := mt_insert
def rIsNo : R2 := fun x y H Q => y = .non ∧ Q (.bl (decide (x = .non))) H
def rNoNo : R2 := fun x y H Q => y = .non ∧ Q (.bl (!decide (x = .non))) H
theorem op_isNo : OpR X (compareOp .Is) rIsNo := op_isN
theorem op_noNo : OpR X (compareOp .IsNot) rNoNo := op_notN
end

/-! ### steps -/
section
variable {K : PySem.W.Frag} {σ : L2.St} {H H1 : Hp} {Q : VK} {QB : Bool → Hp → Prop} {QA : List V → Hp → Prop} {E : XK} {ta tb te tc : TE} {t u : TT} {tA : TA} {D : Ends} {t1 t2 tb' : TS} {g : TG} {v x y : V} {i j : Nat} {p a d : Addr} {xs ys : List V} {r : R2}
theorem w_var (h : σ[i]? = some (some v)) (q : Q v H) : tVar i σ H Q := ⟨v, h, q⟩
theorem w_c (q : Q v H) : tC v σ H Q := q
theorem w_op (h : ta σ H fun x H1 => tb σ H1 fun y H2 => r x y H2 Q) : tOp r ta tb σ H Q := h
theorem w_un {r : V → Hp → VK → Prop} (h : ta σ H fun x H1 => r x H1 Q) : tUn r ta σ H Q := h
theorem w_rU {f : Int → V} {n : Int} (q : Q (f n) H) : rU f (.int n) H Q := ⟨n, rfl, q⟩
theorem w_I0 {f : Int → Int → V} {m n : Int} (q : Q (f m n) H) : rI0 f (.int m) (.int n) H Q := ⟨m, n, rfl, rfl, q⟩
theorem w_I {C : Int → Int → Prop} {f : Int → Int → V} {m n : Int} (c : C m n) (q : Q (f m n) H) : rI C f (.int m) (.int n) H Q := ⟨m, n, rfl, rfl, c, q⟩
theorem w_eq (s : scal x y = true) (q : Q (.bl (decide (x = y))) H) : rEq x y H Q := ⟨s, q⟩
theorem w_ne (s : scal x y = true) (q : Q (.bl (!decide (x = y))) H) : rNe x y H Q := ⟨s, q⟩
theorem w_isNo (q : Q (.bl (decide (x = .non))) H) : rIsNo x .non H Q := ⟨rfl, q⟩
theorem w_noNo (q : Q (.bl (!decide (x = .non))) H) : rNoNo x .non H Q := ⟨rfl, q⟩
theorem w_ixL {n : Int} (h : SqL K H p xs) (ha : atI xs n = some v) (q : Q v H) : rIxL K (.ref p) (.int n) H Q := ⟨p, xs, n, v, rfl, rfl, h, ha, q⟩
theorem w_ixT {n : Int} (h : SqT K H p xs) (ha : atI xs n = some v) (q : Q v H) : rIxT K (.ref p) (.int n) H Q := ⟨p, xs, n, v, rfl, rfl, h, ha, q⟩
theorem w_cb {r : List V → Hp → VK → Prop} (h : tA σ H fun vs H1 => r vs H1 Q) : tCB r tA σ H Q := h
theorem w_nil (q : QA [] H) : tNil σ H QA := q
theorem w_cons (h : ta σ H fun x H1 => tA σ H1 fun xs H2 => QA (x :: xs) H2) : tCons ta tA σ H QA := h
theorem w_lenL (h : SqL K H p ys) (q : Q (.int ys.length) H) : rLenS K [.ref p] H Q := ⟨p, ys, rfl, .inl h, q⟩
theorem w_lenU (h : SqT K H p ys) (q : Q (.int ys.length) H) : rLenS K [.ref p] H Q := ⟨p, ys, rfl, .inr h, q⟩
theorem w_int {n : Int} (q : Q (.int n) H) : rInt [.int n] H Q := ⟨n, rfl, q⟩
theorem w_listL (h : SqL K H p ys) (q : ∀ l, H l = none → Q (.ref l) (upd H l (.lst ys))) : rListS K [.ref p] H Q := ⟨p, ys, rfl, .inl h, q⟩
theorem w_tupleL (h : SqL K H p ys) (q : ∀ l, H l = none → Q (.ref l) (upd H l (.tup ys))) : rTupleL K [.ref p] H Q := ⟨p, ys, rfl, h, q⟩
theorem w_call {sp : Sp} (h : tA σ H fun vs H1 => sp vs H1 Q E) : tCall sp [] E tA σ H Q := by
  show tA σ H fun vs H1 => sp (vs ++ []) H1 Q E
  simp only [List.append_nil]
  exact h
theorem w_tup (h : tA σ H fun xs H1 => xs.length ≤ sizeLine ∧ ∀ p, H1 p = none → Q (.ref p) (upd H1 p (.tup xs))) : tTup tA σ H Q := h
theorem w_lst (h : tA σ H fun xs H1 => xs.length ≤ sizeLine ∧ ∀ p, H1 p = none → Q (.ref p) (upd H1 p (.lst xs))) : tLst tA σ H Q := h
theorem w_test (h : te σ H fun x H1 => ∃ k, x = .bl k ∧ QB k H1) : tTest te σ H QB := h
theorem w_tB (h : te σ H fun x H1 => ∃ k, x = .bl k ∧ QB k H1) : tB te σ H QB := h
theorem w_bl {b : Bool} {R : Bool → Prop} (q : R b) : ∃ k, V.bl b = .bl k ∧ R k := ⟨b, rfl, q⟩
theorem w_not (h : t σ H fun c H1 => QB (!c) H1) : tNot t σ H QB := h
theorem w_and (h : t σ H fun c H1 => (c = true → u σ H1 QB) ∧ (c = false → QB false H1)) : tAnd t u σ H QB := by
  have m : (fun c H1 => (c = true → u σ H1 QB) ∧ (c = false → QB false H1)) = fun c H1 => if c = true then u σ H1 QB else QB false H1 := by
    funext c H1
    cases c <;> simp
  rw [m] at h
  exact h
theorem w_or (h : t σ H fun c H1 => (c = true → QB true H1) ∧ (c = false → u σ H1 QB)) : tOr t u σ H QB := by
  have m : (fun c H1 => (c = true → QB true H1) ∧ (c = false → u σ H1 QB)) = fun c H1 => if c = true then QB true H1 else u σ H1 QB := by
    funext c H1
    cases c <;> simp
  rw [m] at h
  exact h
theorem w_ifS (h : t σ H fun c H1 => (c = true → t1 D σ H1) ∧ (c = false → t2 D σ H1)) : tIfS t t1 t2 D σ H := by
  have m : (fun c H1 => (c = true → t1 D σ H1) ∧ (c = false → t2 D σ H1)) = fun c H1 => if c = true then t1 D σ H1 else t2 D σ H1 := by
    funext c H1
    cases c <;> simp
  rw [m] at h
  exact h
theorem w_ifE (h : t σ H fun c H1 => (c = true → ta σ H1 Q) ∧ (c = false → tb σ H1 Q)) : tIf t ta tb σ H Q := by
  have m : (fun c H1 => (c = true → ta σ H1 Q) ∧ (c = false → tb σ H1 Q)) = fun c H1 => if c = true then ta σ H1 Q else tb σ H1 Q := by
    funext c H1
    cases c <;> simp
  rw [m] at h
  exact h
theorem w_andV (h : ta σ H fun x H1 => ∃ c, x = .bl c ∧ ((c = true → tb σ H1 Q) ∧ (c = false → Q (.bl false) H1))) : tAndV ta tb σ H Q := by
  have m : (fun x H1 => ∃ c, x = V.bl c ∧ ((c = true → tb σ H1 Q) ∧ (c = false → Q (.bl false) H1))) = fun x H1 => ∃ c, x = V.bl c ∧ if c = true then tb σ H1 Q else Q (.bl false) H1 := by
    funext x H1
    refine propext ⟨fun ⟨c, e, h⟩ => ⟨c, e, ?_⟩, fun ⟨c, e, h⟩ => ⟨c, e, ?_⟩⟩ <;> cases c <;> simp_all
  rw [m] at h
  exact h
theorem w_orV (h : ta σ H fun x H1 => ∃ c, x = .bl c ∧ ((c = true → Q (.bl true) H1) ∧ (c = false → tb σ H1 Q))) : tOrV ta tb σ H Q := by
  have m : (fun x H1 => ∃ c, x = V.bl c ∧ ((c = true → Q (.bl true) H1) ∧ (c = false → tb σ H1 Q))) = fun x H1 => ∃ c, x = V.bl c ∧ if c = true then Q (.bl true) H1 else tb σ H1 Q := by
    funext x H1
    refine propext ⟨fun ⟨c, e, h⟩ => ⟨c, e, ?_⟩, fun ⟨c, e, h⟩ => ⟨c, e, ?_⟩⟩ <;> cases c <;> simp_all
  rw [m] at h
  exact h
theorem w_notV (h : ta σ H fun x H1 => ∃ c, x = .bl c ∧ Q (.bl (!c)) H1) : tNotV ta σ H Q := h
theorem w_seq (h : t1 { D with nx := t2 D } σ H) : tSeq t1 t2 D σ H := h
theorem w_cut {M : L2.St → Hp → Prop} (h : t1 { D with nx := M } σ H) (k : ∀ σ' H', M σ' H' → t2 D σ' H') : Evl.tCut t1 t2 D σ H := ⟨M, h, k⟩
theorem w_asg (h : te σ H fun x H1 => D.nx (σ.set i (some x)) H1) : tAsg te (gName i) D σ H := h
theorem w_asgG (h : te σ H fun x H1 => g x σ H1 D.nx) : tAsg te g D σ H := h
theorem w_gName {R : L2.St → Hp → Prop} (q : R (σ.set i (some v)) H) : gName i v σ H R := q
theorem w_gTup {R : L2.St → Hp → Prop} {n : Nat} {tt : TGs} (h : SqT K H a xs) (l : xs.length = n) (q : tt xs σ H R) : gTup K n tt (.ref a) σ H R := ⟨a, xs, rfl, h, l, q⟩
theorem w_gCons {R : L2.St → Hp → Prop} {gg : TG} {tt : TGs} (q : gg v σ H fun σ' H' => tt xs σ' H' R) : gCons gg tt (v :: xs) σ H R := ⟨v, xs, rfl, q⟩
theorem w_gNil {R : L2.St → Hp → Prop} (q : R σ H) : gNil [] σ H R := ⟨rfl, q⟩
theorem w_for {wi : TI} (h : wi σ H fun J H1 => ∃ W : Nat → Nat → L2.St → Hp → Prop, (∃ m, W 0 m σ H1) ∧ ∀ i m σ H, W i m σ H → (J.stop i H ∧ D.nx σ H) ∨ (J.go i H ∧ ∃ N : L2.St → Hp → Prop, (∀ σ' H', N σ' H' → ∃ m', m' < m ∧ W (i + 1) m' σ' H') ∧
    ∀ x H', J.yld i H x H' → g x σ H' fun σ2 H2 => tb' { D with nx := N, ct := N, bk := D.nx } σ2 H2)) : tFor wi g tb' D σ H := h
theorem w_rng1 {R : It → Hp → Prop} (h : tA σ H fun vs H1 => ∃ j : Int, vs = [.int j] ∧ -(2 ^ 62) ≤ j ∧ j < 2 ^ 62 ∧ R (Itr 0 j.toNat) H1) : iRng1 tA σ H R := h
theorem w_rng2 {R : It → Hp → Prop} (h : tA σ H fun vs H1 => ∃ i j : Int, vs = [.int i, .int j] ∧ (-(2 ^ 62) ≤ i ∧ i < 2 ^ 62 ∧ -(2 ^ 62) ≤ j ∧ j < 2 ^ 62) ∧ R (Itr i (j - i).toNat) H1) : iRng2 tA σ H R := h
theorem atI_zero {u : V} {us : List V} : atI (u :: us) 0 = some u := atI_nat (j := 0) rfl
theorem w_yes {QB : Bool → Hp → Prop} (q : QB true H) : tYes σ H QB := q
theorem w_next (q : D.nx σ H) : tNext D σ H := q
theorem w_ret (h : te σ H D.rt) : tRet te D σ H := h
theorem w_retN (h : D.rt .non H) : tRetN D σ H := h
theorem w_drop (h : te σ H fun _ H1 => D.nx σ H1) : tDrop te D σ H := h
theorem w_break (q : D.bk σ H) : tBreak D σ H := q
theorem w_cont (q : D.ct σ H) : tCont D σ H := q
theorem w_gSub {to ti : TE} {tS : TSet} {R : L2.St → Hp → Prop} (h : to σ H fun o H1 => ti σ H1 fun i H2 => tS o i v H2 fun H3 => R σ H3) : gSub to ti tS v σ H R := h
theorem w_setL {n : Int} {R : Hp → Prop} (h : H p = some (.lst xs)) (hi : ixN xs.length n = some j) (q : R (upd H p (.lst (xs.set j v)))) : rSetL (.ref p) (.int n) v H R := ⟨p, xs, n, j, rfl, rfl, h, hi, q⟩
theorem w_par (h : tA σ H fun vs H1 => ∃ v w, vs = [v, w] ∧ D.nx ((σ.set i (some v)).set j (some w)) H1) : tPar i j tA D σ H := h
theorem w_two {v w : V} {R : V → V → Prop} (q : R v w) : ∃ v' w', [v, w] = [v', w'] ∧ R v' w' := ⟨v, w, rfl, q⟩
theorem tyL (h : H a = some (.lst xs)) : tyV K "list" (.ref a) H := .inl ⟨rfl, _, .inl (.inl h)⟩
theorem w_bm {T : String} {r : V → List V → Hp → VK → Prop} (h : ta σ H fun x H1 => tyV K T x H1 ∧ tA σ H1 fun xs H2 => r x xs H2 Q) : tBM K T r ta tA σ H Q := h
theorem w_appR (h : H a = some (.lst xs)) (z : xs.length < sizeLine) (q : Q .non (upd H a (.lst (xs ++ [y])))) : rAppend (.ref a) [y] H Q := ⟨a, xs, y, rfl, rfl, h, z, q⟩
theorem w_insR {n : Int} (h : H a = some (.lst xs)) (z : xs.length < sizeLine) (h0 : 0 ≤ n) (h1 : n < 2 ^ 63) (q : Q .non (upd H a (.lst (xs.take n.toNat ++ [y] ++ xs.drop n.toNat)))) : rIns (.ref a) [.int n, y] H Q := ⟨a, xs, n, y, rfl, rfl, h, z, h0, h1, q⟩
theorem sz_le {n : Nat} (h : n ≤ 100000) : n ≤ sizeLine := Nat.le_trans h (by decide)
theorem sz_lt {n : Nat} (h : n < 100000) : n < sizeLine := Nat.lt_of_lt_of_le h (by decide)
end

/-! ### comprehensions whose elements are data -/
section
variable {K : PySem.W.Frag} {g : TG} {t : TT} {te tl : TE} {vs : List Nat} {σ : L2.St} {H H1 : Hp} {Q : VK} {D a : Addr} {xs : List V} {δ β : Type}
/-- what a comprehension's turn over data owes -/
def LcTurn (S : V → δ → Prop) (R : Hp → V → β → Prop) (f : δ → Bool) (b : δ → β) (g : TG) (t : TT) (te : TE) (vs : List Nat) (σ : L2.St) (H1 : Hp) (ds : List δ) : Prop :=
  ∀ x d H', d ∈ ds → S x d → Same H1 H' → ∀ (N : Hp → Prop) (Y : VK), (f d = false → ∀ H2, Same H' H2 → N H2) → (f d = true → ∀ y H2, Same H' H2 → R H2 y (b d) → Y y H2) →
    g x (wipe σ vs) H' fun σ2 H2 => wipe σ2 vs = wipe σ vs ∧ t σ2 H2 fun c H3 => if c = true then te σ2 H3 Y else N H3
theorem lc_data {J : It} {ds : List δ} {S : V → δ → Prop} {R : Hp → V → β → Prop} {f : δ → Bool} {b : δ → β} (mono : ∀ H H' v b, Px H H' → R H v b → R H' v b) (w : Walk J xs.length (Same H1) (YAt xs)) (hx : Paired S xs ds) (few : xs.length ≤ 50000)
    (turn : LcTurn S R f b g t te vs σ H1 ds) (hD : H1 D = none) {Qd : Hp → Prop} (q : ∀ H2 ys, Same H1 H2 → H2 D = some (.lst ys) → Paired (R H2) ys ((ds.filter f).map b) → Qd H2) :
    ∃ W : Nat → Nat → Hp → Prop, (∃ m, W 0 m (upd H1 D (.lst []))) ∧ ∀ i m H, W i m H → (J.stop i H ∧ Qd H) ∨ (J.go i H ∧ ∃ Nx : Hp → Prop, (∀ H', Nx H' → ∃ m', m' < m ∧ W (i + 1) m' H') ∧ ∀ x H', J.yld i H x H' →
      g x (wipe σ vs) H' fun σ2 H2 => wipe σ2 vs = wipe σ vs ∧ t σ2 H2 fun b H3 => if b = true then te σ2 H3 fun y H4 => ∃ acc, H4 D = some (.lst acc) ∧ acc.length < sizeLine ∧ Nx (upd H4 D (.lst (acc ++ [y]))) else Nx H3) := by
  refine lc_it w (fun i H' => Same H1 H' ∧ ∃ ys, H' D = some (.lst ys) ∧ ys.length ≤ i ∧ Paired (R H') ys (((ds.take i).filter f).map b)) ⟨Same.new hD, [], upd_same, Nat.le_refl _, .nil⟩ (fun i H' _ h => h.1) ?_ ?_
  · rintro i x H' H'' hi ⟨s1, ys, hy, hl, hp⟩ ⟨e, hxi⟩
    subst e
    obtain ⟨d, hd, hS⟩ := Paired.getL hx hxi
    have tk : ds.take (i + 1) = ds.take i ++ [d] := by rw [List.take_succ, hd]; rfl
    refine turn x d H'' (List.mem_of_getElem? hd) hS s1 _ _ (fun hf H2 s2 => ?_) (fun hf y H2 s2 r => ?_)
    · refine ⟨s1.trans s2, ys, s2 _ _ hy, by omega, ?_⟩
      rw [tk, List.filter_append, List.filter_cons, if_neg (by rw [hf]; decide)]
      simp only [List.filter_nil, List.append_nil]
      exact Paired.imp (fun _ _ h => mono _ _ _ _ (Same.px s2) h) hp
    · have hy2 : H2 D = some (.lst ys) := s2 _ _ hy
      have px : Px H2 (upd H2 D (.lst (ys ++ [y]))) := Px.upd hy2 rfl
      refine ⟨ys, hy2, sz_lt (by omega), fun c o hc => ?_, ys ++ [y], upd_same, by simp; omega, ?_⟩
      · rw [upd_ne (ne_of_none hc hD)]
        exact s2 _ _ (s1 _ _ hc)
      · rw [tk, List.filter_append, List.filter_cons, if_pos hf]
        simp only [List.filter_nil, List.map_append, List.map_cons, List.map_nil]
        exact PySem.Paired.snoc (Paired.imp (fun _ _ h => mono _ _ _ _ ((Same.px s2).trans px) h) hp) (mono _ _ _ _ px r)
  · rintro H' ⟨s1, ys, hy, _, hp⟩
    rw [Paired.length hx, List.take_length] at hp
    exact q H' ys s1 hy hp
theorem lc_list_data {Qa : Addr → Hp → Prop} {ds : List δ} {S : V → δ → Prop} (R : Hp → V → β → Prop) (f : δ → Bool) (b : δ → β) (mono : ∀ H H' v b, Px H H' → R H v b → R H' v b) (ha : SqL K H a xs) (keep : ∀ H', Same H H' → SqL K H' a xs) (hx : Paired S xs ds) (few : xs.length ≤ 50000)
    (turn : LcTurn S R f b g t te vs σ H ds) (q : ∀ p H2 ys, H p = none → Same H H2 → H2 p = some (.lst ys) → Paired (R H2) ys ((ds.filter f).map b) → Qa p H2) :
    ∃ a', V.ref a = .ref a' ∧ (∃ xs, SqL K H a' xs) ∧ ∀ D, H D = none → ∃ W : Nat → Nat → Hp → Prop, (∃ m, W 0 m (upd H D (.lst []))) ∧ ∀ i m H, W i m H → ((Itl K a').stop i H ∧ Qa D H) ∨ ((Itl K a').go i H ∧ ∃ Nx : Hp → Prop, (∀ H', Nx H' → ∃ m', m' < m ∧ W (i + 1) m' H') ∧ ∀ x H', (Itl K a').yld i H x H' →
      g x (wipe σ vs) H' fun σ2 H2 => wipe σ2 vs = wipe σ vs ∧ t σ2 H2 fun b H3 => if b = true then te σ2 H3 fun y H4 => ∃ acc, H4 D = some (.lst acc) ∧ acc.length < sizeLine ∧ Nx (upd H4 D (.lst (acc ++ [y]))) else Nx H3) :=
  ⟨a, rfl, ⟨xs, ha⟩, fun D hD => lc_data mono (walk_list.mono (fun H' s' => keep H' s') fun _ _ _ _ _ _ y => y) hx few turn hD fun H2 ys s2 hy hp => q D H2 ys hD s2 hy hp⟩
theorem lc_tup_data {Qa : Addr → Hp → Prop} {ds : List δ} {S : V → δ → Prop} (R : Hp → V → β → Prop) (f : δ → Bool) (b : δ → β) (mono : ∀ H H' v b, Px H H' → R H v b → R H' v b) (ha : Tq K H a xs) (hx : Paired S xs ds) (few : xs.length ≤ 50000)
    (turn : LcTurn S R f b g t te vs σ H ds) (q : ∀ p H2 ys, H p = none → Same H H2 → H2 p = some (.lst ys) → Paired (R H2) ys ((ds.filter f).map b) → Qa p H2) :
    ∃ a', V.ref a = .ref a' ∧ (∃ xs, SqT K H a' xs) ∧ ∀ D, H D = none → ∃ W : Nat → Nat → Hp → Prop, (∃ m, W 0 m (upd H D (.lst []))) ∧ ∀ i m H, W i m H → ((Itt K a').stop i H ∧ Qa D H) ∨ ((Itt K a').go i H ∧ ∃ Nx : Hp → Prop, (∀ H', Nx H' → ∃ m', m' < m ∧ W (i + 1) m' H') ∧ ∀ x H', (Itt K a').yld i H x H' →
      g x (wipe σ vs) H' fun σ2 H2 => wipe σ2 vs = wipe σ vs ∧ t σ2 H2 fun b H3 => if b = true then te σ2 H3 fun y H4 => ∃ acc, H4 D = some (.lst acc) ∧ acc.length < sizeLine ∧ Nx (upd H4 D (.lst (acc ++ [y]))) else Nx H3) :=
  ⟨a, rfl, ⟨xs, ha.sq⟩, fun D hD => lc_data mono (walk_tup.mono (fun H' s' => (ha.mono (Same.px s')).sq) fun _ _ _ _ _ _ y => y) hx few turn hD fun H2 ys s2 hy hp => q D H2 ys hD s2 hy hp⟩
theorem w_lcOpen {wi : TI} (h : wi σ H fun J H1 => ∀ D, H1 D = none → ∃ W : Nat → Nat → Hp → Prop, (∃ m, W 0 m (upd H1 D (.lst []))) ∧ ∀ i m H, W i m H → (J.stop i H ∧ Q (.ref D) H) ∨ (J.go i H ∧ ∃ Nx : Hp → Prop, (∀ H', Nx H' → ∃ m', m' < m ∧ W (i + 1) m' H') ∧ ∀ x H', J.yld i H x H' →
      g x (wipe σ vs) H' fun σ2 H2 => wipe σ2 vs = wipe σ vs ∧ t σ2 H2 fun b H3 => if b = true then te σ2 H3 fun y H4 => ∃ acc, H4 D = some (.lst acc) ∧ acc.length < sizeLine ∧ Nx (upd H4 D (.lst (acc ++ [y]))) else Nx H3)) : tLc wi g t te vs σ H Q := h
theorem w_iList {R : It → Hp → Prop} (h : tl σ H fun x H1 => ∃ a, x = .ref a ∧ (∃ xs, SqL K H1 a xs) ∧ R (Itl K a) H1) : iList K tl σ H R := h
theorem w_iTup {R : It → Hp → Prop} (h : tl σ H fun x H1 => ∃ a, x = .ref a ∧ (∃ xs, SqT K H1 a xs) ∧ R (Itt K a) H1) : iTup K tl σ H R := h
theorem bls_of {H : Hp} : ∀ {ys : List V} {bs : List Bool}, Paired (fun v b => v = V.bl b) ys bs → ys = bs.map V.bl
  | _, _, .nil => rfl
  | _, _, .cons h r => by rw [h, bls_of (H := H) r]; rfl
theorem w_any {bs : List Bool} (h : H a = some (.lst (bs.map V.bl))) (q : Q (.bl (bs.any id)) H) : rAny K [.ref a] H Q := ⟨a, bs, rfl, SqL.of h, q⟩
theorem w_all {bs : List Bool} (h : H a = some (.lst (bs.map V.bl))) (q : Q (.bl (bs.all id)) H) : rAll K [.ref a] H Q := ⟨a, bs, rfl, SqL.of h, q⟩
end

/-! ### the script, a box of one number -/
def Scr (K : PySem.W.Frag) (H : Hp) (a : Addr) (ns : List Int) : Prop := (∃ o, H a = some (.frz o (.lst (ns.map V.int)))) ∨ ∀ H' : Hp, SqL K H' a (ns.map V.int)
theorem Scr.sq {K : PySem.W.Frag} {H : Hp} {a : Addr} {ns : List Int} (h : Scr K H a ns) : SqL K H a (ns.map V.int) := h.elim (fun ⟨o, h⟩ => .inl (.inr ⟨o, h⟩)) fun h => h H
theorem Scr.keep {K : PySem.W.Frag} {H H' : Hp} {a : Addr} {ns : List Int} (h : Scr K H a ns) (k : ∀ o u, H a = some (.frz o u) → H' a = some (.frz o u)) : Scr K H' a ns := h.elim (fun ⟨o, h⟩ => .inl ⟨o, k _ _ h⟩) .inr
theorem Scr.same {K : PySem.W.Frag} {H H' : Hp} {a : Addr} {ns : List Int} (h : Scr K H a ns) (s : Same H H') : Scr K H' a ns := h.keep fun _ _ e => s _ _ e
theorem Scr.upd {K : PySem.W.Frag} {H : Hp} {a p : Addr} {ns : List Int} {o u : HO} (h : Scr K H a ns) (e : H p = some u) (n : ∀ o w, u ≠ .frz o w) : Scr K (L2.upd H p o) a ns := h.keep fun o' w q => by
  rw [upd_ne]
  · exact q
  · rintro rfl
    rw [e] at q
    exact n _ _ (Option.some.inj q)
theorem scr_of {K : PySem.W.Frag} {H : Hp} {a : Addr} {ns : List Int} (o : Only H) (h : SqL K H a (ns.map V.int)) : Scr K H a ns := by
  rcases h with (h | ⟨ob, h⟩) | h
  · rcases o a with e | ⟨_, _, e⟩
    · rw [e] at h
      cases h
    · rw [e] at h
      cases h
  · exact .inl ⟨ob, h⟩
  · exact .inr fun H' => .inr h
def BoxAt (H : Hp) (p : Addr) : Prop := ∃ b : Int, H p = some (.lst [.int b])
theorem BoxAt.same {H H' : Hp} {p : Addr} (h : BoxAt H p) (s : Same H H') : BoxAt H' p := let ⟨b, h⟩ := h; ⟨b, s _ _ h⟩
theorem Ch.then {S : List Addr} {H H1 H2 : Hp} (c : Ch S H H1) (s : Same H1 H2) : Ch S H H2 := c.trans (Same.ch s)
theorem Ch.thenNew {S : List Addr} {H H1 : Hp} {p : Addr} {o : HO} (c : Ch S H H1) (h : H1 p = none) : Ch S H (L2.upd H1 p o) := c.then (Same.new h)
theorem Ch.thenUpd {S : List Addr} {H H1 : Hp} {p : Addr} {o u : HO} (c : Ch S H H1) (h : H1 p = some u) (n : isTup u = false) (hp : p ∈ S ∨ H p = none) : Ch S H (L2.upd H1 p o) := by
  refine ⟨c.1.trans (Px.upd h n), fun a q e z => ?_⟩
  rw [upd_ne]
  · exact c.2 _ _ e z
  · rintro rfl
    rcases hp with hp | hp
    · exact z hp
    · rw [hp] at e; cases e
theorem Ch.scr {K : PySem.W.Frag} {S : List Addr} {H H' : Hp} {a : Addr} {ns : List Int} (c : Ch S H H') (h : Scr K H a ns) (hS : ∀ p ∈ S, ∀ o u, H p ≠ some (.frz o u)) : Scr K H' a ns := h.keep fun o u e => c.2 _ _ e fun z => hS _ z _ _ e
/-- int(box[0]) % n; box[0] = box[0] // n -/
def spTake : Sp := fun vs H Q _ => ∃ (a : Addr) (b n : Int), vs = [.ref a, .int n] ∧ H a = some (.lst [.int b]) ∧ 0 < n ∧ n < 1073741824 ∧ Q (.int (b % n)) (upd H a (.lst [.int (b / n)]))
theorem w_take {H : Hp} {Q : VK} {E : XK} {a : Addr} {n : Int} (h : BoxAt H a) (n0 : 0 < n) (n1 : n < 1073741824) (q : ∀ (i : Int) (H' : Hp), 0 ≤ i → i < n → Ch [a] H H' → BoxAt H' a → Q (.int i) H') : spTake [.ref a, .int n] H Q E := by
  obtain ⟨b, h⟩ := h
  exact ⟨a, b, n, rfl, h, n0, n1, q _ _ (Int.emod_nonneg _ (by omega)) (Int.emod_lt_of_pos _ n0) (Ch.upd h rfl) ⟨_, upd_same⟩⟩
def spNumber (K : PySem.W.Frag) : Sp := fun vs H Q _ => ∃ (a : Addr) (k : Int) (ns : List Int), vs = [.ref a, .int k] ∧ Scr K H a ns ∧ 0 ≤ k ∧ ∀ i, Q (.int i) H
theorem w_number {K : PySem.W.Frag} {H : Hp} {Q : VK} {E : XK} {a : Addr} {k : Int} {ns : List Int} (h : Scr K H a ns) (k0 : 0 ≤ k) (q : ∀ i, Q (.int i) H) : spNumber K [.ref a, .int k] H Q E := ⟨a, k, ns, rfl, h, k0, q⟩
def spLaw (K : PySem.W.Frag) : Sp := fun vs H Q _ => ∃ (a : Addr) (ns : List Int), vs = [.ref a] ∧ Scr K H a ns ∧ ns.length ≤ 63 ∧ ∀ H', Q (.bl true) H'
/-! ### what a dict's entries are -/
theorem atI_int {i : Int} {xs : List V} (h0 : 0 ≤ i) (h1 : i < xs.length) : ∃ v, atI xs i = some v ∧ xs[i.toNat]? = some v := by
  have lt : i.toNat < xs.length := by omega
  have e : ((i.toNat : Nat) : Int) = i := by omega
  have h : atI xs ((i.toNat : Nat) : Int) = some xs[i.toNat] := atI_nat (List.getElem?_eq_getElem lt)
  exact ⟨xs[i.toNat], e ▸ h, List.getElem?_eq_getElem lt⟩
theorem tyx_list {K : PySem.W.Frag} {H : Hp} {a : Addr} {xs : List V} (h : H a = some (.lst xs)) : TyX K H (.ref a) (.type "list") := .base (.lst h)
end Kt
set_option Elab.async false
set_option linter.all false
set_option maxRecDepth 100000
set_option maxHeartbeats 4000000
/-! Kv: the rules whose reading hangs on the written part, told for a K by name (so they serve within comprehensions too). -/
namespace Kt
open PySem PySem.Spec PyProof.Rows L2
section
variable {X : Cx} {K : PySem.W.Frag} (hK : X.K = K)
include hK
theorem ixL_K : IxR X (rIxL K) := by subst hK; exact ix_list
theorem ixT_K : IxR X (rIxT K) := by subst hK; exact ix_tup
theorem eqD_K (hu : X.A.units + 64 < cLine) : OpR X (compareOp .Eq) (rEqD K) := by subst hK; exact op_eqD hu
theorem neD_K (hu : X.A.units + 64 < cLine) : OpR X (compareOp .NotEq) (rNeD K) := by subst hK; exact op_neD hu
theorem inD_K (hu : X.A.units + 65 < cLine) : OpR X (compareOp .In) (rInD K) := by subst hK; exact op_inD hu
theorem notInD_K (hu : X.A.units + 65 < cLine) : OpR X (compareOp .NotIn) (rNotInD K) := by subst hK; exact op_notInD hu
theorem inS_K : OpR X (compareOp .In) (rIn K false) := by subst hK; exact op_in_seq
theorem notInS_K : OpR X (compareOp .NotIn) (rIn K true) := by subst hK; exact op_notIn_seq
theorem lenS_K : CallR X (.builtin "len") (rLenS K) := by subst hK; exact call_lenS
theorem listS_K : CallR X (.type "list") (rListS K) := by subst hK; exact call_listS
theorem tupleS_K : CallR X (.type "tuple") (rTupleL K) := by subst hK; exact call_tupleS
theorem any_K (hc : X.calm = true) : CallR X (.builtin "any") (rAny K) := by subst hK; exact cr_any hc
theorem all_K (hc : X.calm = true) : CallR X (.builtin "all") (rAll K) := by subst hK; exact cr_all hc
theorem sum_K (hc : X.calm = true) : CallR X (.builtin "sum") (rSum K) := by subst hK; exact cr_sum hc
theorem sortD_K (hu : X.A.units + 64 < cLine) : CallR X (.builtin "sorted") (rSortD K) := by subst hK; exact cr_sortD hu
theorem isi_K : CallR X (.builtin "isinstance") (rIsi K) := by subst hK; exact call_isi
theorem isiT_K : CallR X (.builtin "isinstance") (rIsiT K) := by subst hK; exact call_isiT
theorem slL_K : SlR X (rSlL K) := by subst hK; exact sl_list
theorem slT_K : SlR X (rSlT K) := by subst hK; exact sl_tup
theorem catT_K : OpR X (binaryOp .Add) (rCatT K) := by subst hK; exact op_catT
section
variable {e o tg : Expr} {es : List Expr} {te to : TE} {ta : TA} {f : Str} {pos pos' : Pos}
theorem pi_listK {tl : TE} (hl : PE X e tl) : PI X tg e (iList K tl) := by subst hK; exact pi_list hl
theorem pi_tupK {tl : TE} (hl : PE X e tl) : PI X tg e (iTup K tl) := by subst hK; exact pi_tup hl
theorem pe_fldK (he : PE X e te) (hb : attributeBase e f X.env (eval e X.env) = eval e X.env) : PE X (.Attribute e f pos) (tFld K te f) := by subst hK; exact pe_fld he hb
theorem ps_fldK {tv : TE} {value : Expr} (ha : PE X o to) (hv : PE X value tv) (hs : swapsWith value (some (.Attribute o f pos')) pos.line X.env = pure false) : PS X (.Assign [.Attribute o f pos'] value pos) (sFld K to tv f) := by subst hK; exact ps_fld ha hv hs
theorem ps_fldaugK {tv : TE} {value : Expr} {op : Operator} {rd : V → V → Hp → VK → Prop} (ha : PE X o to) (hv : PE X value tv) (hop : InOp X op rd) : PS X (.AugAssign (.Attribute o f pos') op value pos) (sFldAug K to tv rd f) := by subst hK; exact ps_fldaug ha hv hop
theorem pg_tupK {k n : Nat} {t : TGs} (hc : X.calm = true) (h : PGs X es t) (hn : (assignEach es X.env).length = n := by rfl) (hst : (assignEach es X.env).findIdx? (·.1) = none := by rfl) : PG X (.Tuple es k pos) (gTup K n t) := by subst hK; exact pg_tup hc h hn hst
def tTruth (K : PySem.W.Frag) (ta : TE) : TT := fun σ H Q => ta σ H fun x H' => ∃ k, TruV K x H' k ∧ Q k H'
omit hK in
theorem w_truth {σ : L2.St} {H : Hp} {Q : Bool → Hp → Prop} (h : te σ H fun x H' => ∃ k, TruV K x H' k ∧ Q k H') : tTruth K te σ H Q := h
theorem pt_truthK (ha : PE X e te) (he : ∀ whole, isTrue e X.env whole = (do let v ← whole; standAt e.pos; holding [v] (truthy v))) : PT X e (tTruth K te) := by subst hK; exact pt_truth ha he
theorem pi_enumK {p tpos : Pos} {elts : List Expr} {kk : Nat} (hg : Gl X "enumerate") (hm : X.mg "enumerate" = none) (ha : PA X [e] ta) (hs : starEach [e] X.env = [(false, eval e X.env)] := by rfl) :
    PI X (.Tuple elts kk tpos) (.Call (.Name "enumerate" p) [e] [] pos) (iEnum K ta) := by subst hK; exact pi_enum hg hm ha hs
theorem pi_zipK {e2 : Expr} {p tpos : Pos} {elts : List Expr} {kk : Nat} (hg : Gl X "zip") (hm : X.mg "zip" = none) (ha : PA X [e, e2] ta)
    (hs : starEach [e, e2] X.env = (false, eval e X.env) :: starEach [e2] X.env := by rfl) (hpl : (backTo pos (starEach [e2] X.env)).any (·.1) = false := by rfl) :
    PI X (.Tuple elts kk tpos) (.Call (.Name "zip" p) [e, e2] [] pos) (iZip K ta) := by subst hK; exact pi_zip hg hm ha hs hpl
theorem pe_bm0K {T id : String} {name : Str} {r : V → List V → Hp → VK → Prop} (pa : PlainAttrs T) (slot : Slot T name id) (hty : typeOf (.builtin id) = pure (.type "method_descriptor")) (hm : MtR X id r) (ho : PE X o to)
    (hbase : attributeBase o name X.env (eval o X.env) = eval o X.env := by rfl) (hline : (pos'.endLine == pos.line) = true := by rfl) : PE X (.Call (.Attribute o name pos') [] [] pos) (tBM0 K T r to) := by
  subst hK
  exact pe_bm0 pa slot hty hm ho hbase hline
theorem pe_bmK {T id : String} {name : Str} {r : V → List V → Hp → VK → Prop} (pa : PlainAttrs T) (slot : Slot T name id) (hty : typeOf (.builtin id) = pure (.type "method_descriptor")) (hm : MtR X id r) (ho : PE X o to) (ha : PA X (e :: es) ta)
    (hbase : attributeBase o name X.env (eval o X.env) = eval o X.env := by rfl)
    (few : ((backTo pos (starEach (e :: es) X.env)).all (fun x => !x.1) && (backToKw pos (keywordEach [] X.env)).all (fun x => x.1.isSome)
      && decide ((e :: es).length + ([] : List Keyword).length + (if ([] : List Keyword).isEmpty then 0 else 1) < 30)) = true := by rfl)
    (hline : (pos'.endLine == pos.line) = true := by rfl) (hs : starEach (e :: es) X.env = (false, eval e X.env) :: starEach es X.env := by rfl) (hplain : (backTo pos (starEach es X.env)).any (·.1) = false := by rfl) :
    PE X (.Call (.Attribute o name pos') (e :: es) [] pos) (tBM K T r to ta) := by
  subst hK
  exact pe_bm pa slot hty hm ho ha hbase few hline hs hplain
end
end
end Kt
set_option Elab.async false
set_option linter.all false
set_option maxRecDepth 100000
set_option maxHeartbeats 4000000
/-! Kd: steps over data that never change; values, deeds, deals. -/
namespace Kt
open PySem PySem.Spec PyProof.Rows L2

/-! ### taking data apart -/
section
variable {K : PySem.W.Frag} {H H' : Hp} {v : V} {d d1 d2 d3 d4 d5 d6 : PyData} {ds : List PyData}
theorem Rp.asInt {i : Int} (h : Rp K H v (.int i)) : v = .int i := by cases h; rfl
theorem Rp.asStr {x : Str} (h : Rp K H v (.str x)) : v = .str x := by cases h; rfl
theorem Rp.asNon (h : Rp K H v .none) : v = .non := by cases h; rfl
theorem Rp.asBl {b : Bool} (h : Rp K H v (.bool b)) : v = .bl b := by cases h; rfl
theorem Rp.tupL (h : Rp K H v (.tuple ds)) : ∃ a xs, v = .ref a ∧ Tq K H a xs ∧ Rps K H xs ds := by
  cases h with
  | tup t r => exact ⟨_, _, rfl, t, r⟩
theorem Rp.tup1 (h : Rp K H v (.tuple [d1])) : ∃ a x, v = .ref a ∧ Tq K H a [x] ∧ Rp K H x d1 := by
  obtain ⟨a, xs, e, t, r⟩ := h.tupL
  cases r with
  | cons r1 r => cases r with
    | nil => exact ⟨a, _, e, t, r1⟩
theorem Rp.tup2 (h : Rp K H v (.tuple [d1, d2])) : ∃ a x y, v = .ref a ∧ Tq K H a [x, y] ∧ Rp K H x d1 ∧ Rp K H y d2 := by
  obtain ⟨a, xs, e, t, r⟩ := h.tupL
  cases r with
  | cons r1 r => cases r with
    | cons r2 r => cases r with
      | nil => exact ⟨a, _, _, e, t, r1, r2⟩
theorem Rp.tup3 (h : Rp K H v (.tuple [d1, d2, d3])) : ∃ a x y z, v = .ref a ∧ Tq K H a [x, y, z] ∧ Rp K H x d1 ∧ Rp K H y d2 ∧ Rp K H z d3 := by
  obtain ⟨a, xs, e, t, r⟩ := h.tupL
  cases r with
  | cons r1 r => cases r with
    | cons r2 r => cases r with
      | cons r3 r => cases r with
        | nil => exact ⟨a, _, _, _, e, t, r1, r2, r3⟩
theorem Rps.p1 {x : V} (h1 : Rp K H x d1) : Rps K H [x] [d1] := .cons h1 .nil
theorem Rps.p2 {x y : V} (h1 : Rp K H x d1) (h2 : Rp K H y d2) : Rps K H [x, y] [d1, d2] := .cons h1 (.cons h2 .nil)
theorem Rps.p3 {x y z : V} (h1 : Rp K H x d1) (h2 : Rp K H y d2) (h3 : Rp K H z d3) : Rps K H [x, y, z] [d1, d2, d3] := .cons h1 (.cons h2 (.cons h3 .nil))
theorem Rp.same (h : Rp K H v d) (s : Same H H') : Rp K H' v d := h.to (Same.px s)
theorem Rps.same {vs : List V} (h : Rps K H vs ds) (s : Same H H') : Rps K H' vs ds := h.to (Same.px s)
theorem rps_paired {β : Type} {enc : β → PyData} : ∀ {vs : List V} {bs : List β}, Rps K H vs (bs.map enc) → Paired (fun v b => Rp K H v (enc b)) vs bs
  | _, [], h => by cases h; exact .nil
  | _, b :: bs, h => by
    cases h with
    | cons h r => exact .cons h (rps_paired r)
theorem paired_rps {β : Type} {enc : β → PyData} : ∀ {vs : List V} {bs : List β}, Paired (fun v b => Rp K H v (enc b)) vs bs → Rps K H vs (bs.map enc)
  | _, _, .nil => .nil
  | _, _, .cons h r => .cons h (paired_rps r)
end

/-! ### plain data, not deep -/
def Shp (n : Nat) (d : PyData) : Prop := Pln d = true ∧ d.depth ≤ n
theorem Shp.mono {n m : Nat} {d : PyData} (h : Shp n d) (l : n ≤ m) : Shp m d := ⟨h.1, Nat.le_trans h.2 l⟩
theorem Shp.int {n : Nat} {i : Int} : Shp n (.int i) := ⟨rfl, by simp [PyData.depth]⟩
theorem Shp.non {n : Nat} : Shp n .none := ⟨rfl, by simp [PyData.depth]⟩
theorem Shp.str {n : Nat} {x : Str} (h : PyData.strOk x = true) : Shp n (.str x) := ⟨h, by simp [PyData.depth]⟩
theorem Shp.tup {n : Nat} {ds : List PyData} (h : ∀ d ∈ ds, Shp n d) : Shp (n + 1) (.tuple ds) := by
  refine ⟨?_, ?_⟩
  · show PlnAll ds = true
    exact PlnAll_iff.mpr fun d hd => (h d hd).1
  · have := depthAll_le fun d hd => (h d hd).2
    simp only [PyData.depth]
    omega
theorem Shp.tup1 {n : Nat} {d1 : PyData} (h1 : Shp n d1) : Shp (n + 1) (.tuple [d1]) := .tup fun d hd => by
  rw [List.mem_singleton.mp hd]; exact h1
theorem Shp.tup2 {n : Nat} {d1 d2 : PyData} (h1 : Shp n d1) (h2 : Shp n d2) : Shp (n + 1) (.tuple [d1, d2]) := .tup fun d hd => by
  simp only [List.mem_cons, List.not_mem_nil, or_false] at hd
  rcases hd with e | e <;> (rw [e]; assumption)
theorem Shp.tup3 {n : Nat} {d1 d2 d3 : PyData} (h1 : Shp n d1) (h2 : Shp n d2) (h3 : Shp n d3) : Shp (n + 1) (.tuple [d1, d2, d3]) := .tup fun d hd => by
  simp only [List.mem_cons, List.not_mem_nil, or_false] at hd
  rcases hd with e | e | e <;> (rw [e]; assumption)
theorem Shp.sh {d : PyData} (h : Shp 60 d) : SeqAt.shaped d = true := shaped_of h.1 (Nat.le_trans h.2 (by decide))
theorem Shp.shL {ds : List PyData} (h : ∀ d ∈ ds, Shp 60 d) : SeqAt.shaped (.list ds) = true := shapedL_of (PlnAll_iff.mpr fun d hd => (h d hd).1) fun d hd => Nat.le_trans (h d hd).2 (by decide)

section
variable {K : PySem.W.Frag} {H : Hp} {Q : VK} {x y : V} {d e : PyData} {l a : Addr} {vs xs : List V} {ds : List PyData}
theorem w_eqRp (hx : Rp K H x d) (hy : Rp K H y e) (sd : Shp 60 d) (se : Shp 60 e) (q : ∀ b : Bool, (b = true ↔ d = e) → Q (.bl b) H) : rEqD K x y H Q :=
  ⟨d, e, hx.d, hy.d, sd.sh, se.sh, q _ (eqv_iff d e sd.1 se.1)⟩
theorem w_neRp (hx : Rp K H x d) (hy : Rp K H y e) (sd : Shp 60 d) (se : Shp 60 e) (q : ∀ b : Bool, (b = true ↔ d ≠ e) → Q (.bl b) H) : rNeD K x y H Q :=
  ⟨d, e, hx.d, hy.d, sd.sh, se.sh, q _ (by
    have h := eqv_iff d e sd.1 se.1
    cases r : PyData.eqv d e <;> rw [r] at h <;> simp at h ⊢ <;> exact h)⟩
theorem any_mem {d : PyData} {ds : List PyData} (sd : Pln d = true) (h : ∀ e ∈ ds, Pln e = true) : (ds.any fun z => PyData.eqv z d) = true ↔ d ∈ ds := by
  rw [List.any_eq_true]
  refine ⟨fun ⟨z, hz, e⟩ => ?_, fun m => ⟨d, m, (eqv_iff d d sd sd).mpr rfl⟩⟩
  rw [← (eqv_iff z d (h z hz) sd).mp e]
  exact hz
theorem w_inRp (hx : Rp K H x d) (hl : H l = some (.lst vs)) (hp : Rps K H vs ds) (sd : Shp 60 d) (se : ∀ e ∈ ds, Shp 60 e) (q : ∀ b : Bool, (b = true ↔ d ∈ ds) → Q (.bl b) H) : rInD K x (.ref l) H Q :=
  ⟨d, ds, hx.d, .lst (SqL.of hl) hp.d, sd.sh, Shp.shL se, q _ (any_mem sd.1 fun e he => (se e he).1)⟩
theorem w_notInRp (hx : Rp K H x d) (hl : H l = some (.lst vs)) (hp : Rps K H vs ds) (sd : Shp 60 d) (se : ∀ e ∈ ds, Shp 60 e) (q : ∀ b : Bool, (b = true ↔ d ∉ ds) → Q (.bl b) H) : rNotInD K x (.ref l) H Q :=
  ⟨d, ds, hx.d, .lst (SqL.of hl) hp.d, sd.sh, Shp.shL se, q _ (by
    have h := any_mem sd.1 fun e he => (se e he).1
    cases r : (ds.any fun z => PyData.eqv z d) <;> rw [r] at h <;> simp at h ⊢ <;> exact h)⟩
theorem w_inF (hl : H l = some (.lst vs)) (fx : flatV x = true) (fs : vs.all flatV = true) (q : ∀ b : Bool, b = inV x vs → Q (.bl b) H) : rIn K false x (.ref l) H Q := ⟨l, vs, rfl, .inl (SqL.of hl), fx, fs, q _ rfl⟩
theorem w_notInF (hl : H l = some (.lst vs)) (fx : flatV x = true) (fs : vs.all flatV = true) (q : ∀ b : Bool, b = !inV x vs → Q (.bl b) H) : rIn K true x (.ref l) H Q := ⟨l, vs, rfl, .inl (SqL.of hl), fx, fs, q _ rfl⟩
theorem w_inTF (hl : Tq K H a vs) (fx : flatV x = true) (fs : vs.all flatV = true) (q : ∀ b : Bool, b = inV x vs → Q (.bl b) H) : rIn K false x (.ref a) H Q := ⟨a, vs, rfl, .inr hl.sq, fx, fs, q _ rfl⟩
/-- t[i], of a tuple of data -/
theorem w_ixP {n : Int} (h : Tq K H a xs) (ha : atI xs n = some y) (q : Q y H) : rIxT K (.ref a) (.int n) H Q := ⟨a, xs, n, y, rfl, rfl, h.sq, ha, q⟩
/-- t[:k], not the whole -/
theorem w_slP {lo hi : Option Int} (h : Tq K H a xs) (n : ¬ (HT.sIx xs.length 0 lo = 0 ∧ HT.sIx xs.length xs.length hi = xs.length)) (q : ∀ p, H p = none → Q (.ref p) (upd H p (.tup (cutV xs lo hi)))) : rSlT K (.ref a) lo hi H Q := ⟨a, xs, rfl, h.sq, n, q⟩
theorem w_slL {lo hi : Option Int} (h : SqL K H a xs) (q : ∀ p, H p = none → Q (.ref p) (upd H p (.lst (cutV xs lo hi)))) : rSlL K (.ref a) lo hi H Q := ⟨a, xs, rfl, h, q⟩
theorem w_catP {b : Addr} {ys : List V} (ha : Tq K H a xs) (hb : Tq K H b ys) (nx : xs ≠ []) (ny : ys ≠ []) (z : xs.length + ys.length ≤ sizeLine) (q : ∀ p, H p = none → Q (.ref p) (upd H p (.tup (xs ++ ys)))) : rCatT K (.ref a) (.ref b) H Q :=
  ⟨a, b, xs, ys, rfl, rfl, ha.sq, hb.sq, nx, z, fun e => absurd e ny, fun _ => q⟩
theorem w_catL {b : Addr} {ys : List V} (ha : H a = some (.lst xs)) (hb : H b = some (.lst ys)) (z : xs.length + ys.length ≤ sizeLine) (q : ∀ p, H p = none → Q (.ref p) (upd H p (.lst (xs ++ ys)))) : rCat (.ref a) (.ref b) H Q :=
  ⟨a, b, xs, ys, rfl, rfl, ha, hb, z, q⟩
end

/-! ### comprehensions whose turns write -/
section
variable {K : PySem.W.Frag} {g : TG} {t : TT} {te : TE} {vs : List Nat} {σ : L2.St} {H : Hp} {a : Addr} {xs : List V}
theorem lc_tup_it {Qa : Addr → Hp → Prop} (Pv : Addr → Nat → Hp → Prop) (ha : Tq K H a xs) (keep : ∀ D i H', Pv D i H' → Tq K H' a xs) (h0 : ∀ D, H D = none → Pv D 0 (upd H D (.lst [])))
    (hs : ∀ D i x H', H D = none → xs[i]? = some x → Pv D i H' → g x (wipe σ vs) H' fun σ2 H2 => wipe σ2 vs = wipe σ vs ∧ t σ2 H2 fun b H3 => if b = true then te σ2 H3 fun y H4 => ∃ acc, H4 D = some (.lst acc) ∧ acc.length < sizeLine ∧ Pv D (i + 1) (upd H4 D (.lst (acc ++ [y]))) else Pv D (i + 1) H3)
    (hd : ∀ D H', H D = none → Pv D xs.length H' → Qa D H') :
    ∃ a', V.ref a = .ref a' ∧ (∃ xs, SqT K H a' xs) ∧ ∀ D, H D = none → ∃ W : Nat → Nat → Hp → Prop, (∃ m, W 0 m (upd H D (.lst []))) ∧ ∀ i m H, W i m H → ((Itt K a').stop i H ∧ Qa D H) ∨ ((Itt K a').go i H ∧ ∃ Nx : Hp → Prop, (∀ H', Nx H' → ∃ m', m' < m ∧ W (i + 1) m' H') ∧ ∀ x H', (Itt K a').yld i H x H' →
      g x (wipe σ vs) H' fun σ2 H2 => wipe σ2 vs = wipe σ vs ∧ t σ2 H2 fun b H3 => if b = true then te σ2 H3 fun y H4 => ∃ acc, H4 D = some (.lst acc) ∧ acc.length < sizeLine ∧ Nx (upd H4 D (.lst (acc ++ [y]))) else Nx H3) :=
  ⟨a, rfl, ⟨xs, ha.sq⟩, fun D hD => lc_it walk_tup (fun i H' => Pv D i H') (h0 D hD) (fun i H' _ h => (keep D i H' h).sq) (fun i x H' H'' hi p y => by
    obtain ⟨e, hx⟩ := y
    subst e
    exact hs D i x _ hD hx p) fun H' p => hd D H' hD p⟩
theorem lc_list_it {Qa : Addr → Hp → Prop} (Pv : Addr → Nat → Hp → Prop) (ha : SqL K H a xs) (keep : ∀ D i H', H D = none → Pv D i H' → SqL K H' a xs) (h0 : ∀ D, H D = none → Pv D 0 (upd H D (.lst [])))
    (hs : ∀ D i x H', H D = none → xs[i]? = some x → Pv D i H' → g x (wipe σ vs) H' fun σ2 H2 => wipe σ2 vs = wipe σ vs ∧ t σ2 H2 fun b H3 => if b = true then te σ2 H3 fun y H4 => ∃ acc, H4 D = some (.lst acc) ∧ acc.length < sizeLine ∧ Pv D (i + 1) (upd H4 D (.lst (acc ++ [y]))) else Pv D (i + 1) H3)
    (hd : ∀ D H', H D = none → Pv D xs.length H' → Qa D H') :
    ∃ a', V.ref a = .ref a' ∧ (∃ xs, SqL K H a' xs) ∧ ∀ D, H D = none → ∃ W : Nat → Nat → Hp → Prop, (∃ m, W 0 m (upd H D (.lst []))) ∧ ∀ i m H, W i m H → ((Itl K a').stop i H ∧ Qa D H) ∨ ((Itl K a').go i H ∧ ∃ Nx : Hp → Prop, (∀ H', Nx H' → ∃ m', m' < m ∧ W (i + 1) m' H') ∧ ∀ x H', (Itl K a').yld i H x H' →
      g x (wipe σ vs) H' fun σ2 H2 => wipe σ2 vs = wipe σ vs ∧ t σ2 H2 fun b H3 => if b = true then te σ2 H3 fun y H4 => ∃ acc, H4 D = some (.lst acc) ∧ acc.length < sizeLine ∧ Nx (upd H4 D (.lst (acc ++ [y]))) else Nx H3) :=
  ⟨a, rfl, ⟨xs, ha⟩, fun D hD => lc_it walk_list (fun i H' => Pv D i H') (h0 D hD) (fun i H' _ h => keep D i H' hD h) (fun i x H' H'' hi p y => by
    obtain ⟨e, hx⟩ := y
    subst e
    exact hs D i x _ hD hx p) fun H' p => hd D H' hD p⟩
theorem lc_rng_it {Qa : Addr → Hp → Prop} {lo : Int} {n : Nat} (Pv : Addr → Nat → Hp → Prop) (h0 : ∀ D, H D = none → Pv D 0 (upd H D (.lst [])))
    (hs : ∀ D i H', H D = none → i < n → Pv D i H' → g (.int (lo + i)) (wipe σ vs) H' fun σ2 H2 => wipe σ2 vs = wipe σ vs ∧ t σ2 H2 fun b H3 => if b = true then te σ2 H3 fun y H4 => ∃ acc, H4 D = some (.lst acc) ∧ acc.length < sizeLine ∧ Pv D (i + 1) (upd H4 D (.lst (acc ++ [y]))) else Pv D (i + 1) H3)
    (hd : ∀ D H', H D = none → Pv D n H' → Qa D H') :
    ∀ D, H D = none → ∃ W : Nat → Nat → Hp → Prop, (∃ m, W 0 m (upd H D (.lst []))) ∧ ∀ i m H, W i m H → ((Itr lo n).stop i H ∧ Qa D H) ∨ ((Itr lo n).go i H ∧ ∃ Nx : Hp → Prop, (∀ H', Nx H' → ∃ m', m' < m ∧ W (i + 1) m' H') ∧ ∀ x H', (Itr lo n).yld i H x H' →
      g x (wipe σ vs) H' fun σ2 H2 => wipe σ2 vs = wipe σ vs ∧ t σ2 H2 fun b H3 => if b = true then te σ2 H3 fun y H4 => ∃ acc, H4 D = some (.lst acc) ∧ acc.length < sizeLine ∧ Nx (upd H4 D (.lst (acc ++ [y]))) else Nx H3) :=
  fun D hD => lc_it walk_range (fun i H' => Pv D i H') (h0 D hD) (fun _ _ _ _ => trivial) (fun i x H' H'' hi p y => by
    obtain ⟨e1, e2⟩ := y
    subst e1 e2
    exact hs D i _ hD hi p) fun H' p => hd D H' hD p
theorem paired_eq : ∀ {ys bs : List V}, Paired (fun v b => v = b) ys bs → ys = bs
  | _, _, .nil => rfl
  | _, _, .cons h r => by rw [h, paired_eq r]
end

/-! ### texts -/
section
variable {X : Cx} {H : Hp} {Q : VK}
def rAddS : R2 := fun x y H Q => ∃ i j, x = .str i ∧ y = .str j ∧ i.length + j.length ≤ sizeLine ∧ Q (.str (i ++ j)) H
theorem op_addS : OpR X (binaryOp .Add) rAddS := op_add_str
theorem w_addS {i j : Str} (h : i.length + j.length ≤ sizeLine) (q : Q (.str (i ++ j)) H) : rAddS (.str i) (.str j) H Q := ⟨i, j, rfl, rfl, h, q⟩
theorem w_slS {z : Str} {lo hi : Option Int} (h : z.length ≤ sizeLine) (q : Q (.str (cutS z lo hi)) H) : rSlS (.str z) lo hi H Q := ⟨z, rfl, h, q⟩
theorem w_ixS {z : Str} {n : Int} {c : Nat} (h : z.length ≤ sizeLine) (ha : atI z.cps.toList n = some c) (q : Q (.str ⟨#[c]⟩) H) : rIxS (.str z) (.int n) H Q := ⟨z, n, c, rfl, rfl, h, ha, q⟩
def mulS (x : Str) (n : Int) : Str := if n < 1 then Str.empty else if (n == 1 || x.length == 0) = true then x else ⟨(List.replicate n.toNat x.cps).foldl (· ++ ·) #[]⟩
def rMulS : R2 := fun x y H Q => ∃ z n, x = .str z ∧ y = .int n ∧ 0 ≤ n ∧ n < 2 ^ 32 ∧ z.length * n.toNat ≤ 10000 ∧ Q (.str (mulS z n)) H
theorem op_mulS : OpR X (binaryOp .Mult) rMulS := by
  intro pins s σ H x y v u Q I rx ry h
  obtain ⟨z, n, rfl, rfl, h0, h1, hz, q⟩ := h
  obtain ⟨t, rfl⟩ := rx
  obtain ⟨t', rfl⟩ := ry
  have tl : PySem.Builtin.Str.tooLong (z.length * n.toNat) = false := by
    unfold PySem.Builtin.Str.tooLong
    have : (10000 : Nat) ≤ sizeLine := by decide
    simp only [decide_eq_false_iff_not]
    omega
  refine PySem.P.mul_str ?_ ?_ ?_ ?_
  · rw [decide_eq_false (by omega), decide_eq_false (by omega)]
    rfl
  · intro h2 h3 h4
    have h5 : n * (z.length : Int) ≤ 10000 := by
      have e : n * (z.length : Int) = ((z.length * n.toNat : Nat) : Int) := by
        rw [Int.natCast_mul, Int.toNat_of_nonneg h0, Int.mul_comm]
      rw [e]; exact_mod_cast hz
    have h6 : (2 ^ 63 - 1) / n < (z.length : Int) := h4
    have h7 : (2 ^ 63 - 1 : Int) < (z.length : Int) * n := (Int.ediv_lt_iff_lt_mul (by omega)).mp h6
    have h8 : (z.length : Int) * n = n * z.length := Int.mul_comm _ _
    omega
  · intro h2 h3
    exact tl
  · unfold mulS at q
    split
    · rename_i c
      rw [if_pos c] at q
      exact ⟨by decide, ⟨.str Str.empty, H, I.tok _, ⟨_, rfl⟩, q⟩⟩
    · rename_i c
      rw [if_neg c] at q
      split
      · rename_i c2
        rw [if_pos c2] at q
        exact ⟨.str z, H, I, ⟨_, rfl⟩, q⟩
      · rename_i c2
        rw [if_neg c2] at q
        exact ⟨fits_reps tl, ⟨.str _, H, I.tok _, ⟨_, rfl⟩, q⟩⟩
end
end Kt
set_option Elab.async false
set_option linter.all false
set_option maxRecDepth 100000
set_option maxHeartbeats 4000000
/-! Ke: keys, values, deeds, deals. -/
namespace Kt
open PySem PySem.Spec PyProof.Rows L2

/-! ### more steps -/
theorem funD_of {K : PySem.W.Frag} {x qual : Str} {params : Arguments} {body : List Stmt} {scope : Scope} {dvs : List V} {kws : List (Str × V)} {f : Addr} (h : ∃ fd, FunD K x qual params body scope dvs kws f fd) : FunD K x qual params body scope dvs kws f (fdOf K f) := by
  obtain ⟨fd, F⟩ := h
  obtain ⟨oc, od, dV, kV, doc, pm, an, cdv, ct, osl, e, l, _⟩ := F.ex
  have ef : fdOf K f = fd := by unfold fdOf; rw [l]
  rw [ef]
  exact F
theorem tpk_of {K : PySem.W.Frag} {a : Addr} {xs : List V} (h : ∀ H, SqT K H a xs) : TpK K a xs := by
  rcases h (fun _ => none) with (h | ⟨_, h⟩) | h
  · cases h
  · cases h
  · exact h
section
variable {K : PySem.W.Frag} {σ : L2.St} {H : Hp} {Q : VK} {te td ty tx ta tb tc : TE} {tl th : TO} {x y v : V} {a : Addr} {D : Ends} {QB : Bool → Hp → Prop}
theorem w_sl {r : V → Option Int → Option Int → Hp → VK → Prop} (h : te σ H fun x H1 => tl σ H1 fun l H2 => th σ H2 fun u H3 => r x l u H3 Q) : tSl r te tl th σ H Q := h
theorem w_part {R : Option Int → Hp → Prop} (h : te σ H fun x H1 => ∃ i, x = .int i ∧ R (some i) H1) : tPart te σ H R := h
theorem w_int1 {n : Int} {R : Int → Prop} (q : R n) : ∃ i, V.int n = .int i ∧ R i := ⟨n, rfl, q⟩
theorem w_noPart {R : Option Int → Hp → Prop} (q : R none H) : tNoPart σ H R := q
theorem w_chain {r r' : R2} (h : ta σ H fun x H1 => tb σ H1 fun y H2 => r x y H2 fun z H3 => ∃ k, z = .bl k ∧ ((k = true → tc σ H3 fun w' H4 => r' y w' H4 Q) ∧ (k = false → Q (.bl false) H3))) : tChain r r' ta tb tc σ H Q := by
  have e : ∀ (y : V), (fun z H3 => ∃ k, z = V.bl k ∧ ((k = true → tc σ H3 fun w' H4 => r' y w' H4 Q) ∧ (k = false → Q (.bl false) H3))) = fun z H3 => ∃ k, z = V.bl k ∧ if k = true then tc σ H3 fun w' H4 => r' y w' H4 Q else Q (.bl false) H3 := by
    intro y
    funext z H3
    refine propext ⟨fun ⟨c, e, h⟩ => ⟨c, e, ?_⟩, fun ⟨c, e, h⟩ => ⟨c, e, ?_⟩⟩ <;> cases c <;> simp_all
  have e2 : (fun x H1 => tb σ H1 fun y H2 => r x y H2 fun z H3 => ∃ k, z = V.bl k ∧ ((k = true → tc σ H3 fun w' H4 => r' y w' H4 Q) ∧ (k = false → Q (.bl false) H3))) = fun x H1 => tb σ H1 fun y H2 => r x y H2 fun z H3 => ∃ k, z = V.bl k ∧ if k = true then tc σ H3 fun w' H4 => r' y w' H4 Q else Q (.bl false) H3 := by
    funext x H1
    congr 1
    funext y H2
    rw [e y]
  rw [e2] at h
  exact h
theorem w_isi {n t : String} {b : Bool} (h : TyX K H x (.type t)) (k : kitB t n = some b) (q : Q (.bl b) H) : rIsi K [x, .ty n] H Q := ⟨x, .ty n, .type t, .type n, b, rfl, .ty n, h, kit_ty k, q⟩
theorem tyxInt {i : Int} : TyX K H (.int i) (.type "int") := .base (.int i)
theorem tyxStr {z : Str} : TyX K H (.str z) (.type "str") := .base (.str z)
theorem tyxNon : TyX K H .non (.type "NoneType") := .base .non
theorem tyxTup {xs : List V} (h : Tq K H a xs) : TyX K H (.ref a) (.type "tuple") := by
  rcases h with h | ⟨o, its, n, e, c, _⟩
  · exact .base (.tup h)
  · exact .kTuple e c
theorem w_dgetS (h : td σ H fun x H1 => ty σ H1 fun y H2 => ∃ a v, x = .ref a ∧ DGet H2 a y (some v) ∧ Q v H2) : tDGet td ty σ H Q := h
theorem w_dget1 (h : td σ H fun x H1 => ∃ a, x = .ref a ∧ IsD H1 a ∧ ty σ H1 fun y H2 => ∃ o, DGet H2 a y o ∧ Q (o.getD .non) H2) : tDGet1 td ty σ H Q := h
theorem w_dget2 (h : td σ H fun x H1 => ∃ a, x = .ref a ∧ IsD H1 a ∧ ty σ H1 fun y H2 => tx σ H2 fun z H3 => ∃ o, DGet H3 a y o ∧ Q (o.getD z) H3) : tDGet2 td ty tx σ H Q := h
theorem w_dpop1 (h : td σ H fun x H1 => ∃ a, x = .ref a ∧ IsD H1 a ∧ ty σ H1 fun y H2 => ∃ kvs k v, H2 a = some (.dK kvs) ∧ y = kV k ∧ valV kvs k = some v ∧ Q v (upd H2 a (.dK (dropK kvs k)))) : tDPop1 td ty σ H Q := h
theorem w_dinS (h : ty σ H fun y H1 => td σ H1 fun x H2 => ∃ a o, x = .ref a ∧ DGet H2 a y o ∧ Q (.bl o.isSome) H2) : tDIn ty td σ H Q := h
theorem w_dnotinS (h : ty σ H fun y H1 => td σ H1 fun x H2 => ∃ a o, x = .ref a ∧ DGet H2 a y o ∧ Q (.bl (!o.isSome)) H2) : tDNotIn ty td σ H Q := h
theorem w_dputS {tv : TE} (h : tv σ H fun v H1 => td σ H1 fun x H2 => ty σ H2 fun y H3 => ∃ a H4, x = .ref a ∧ DPut H3 a y v H4 ∧ D.nx σ H4) : sDPut td ty tv D σ H := h
theorem w_ddelS (h : td σ H fun x H1 => ty σ H1 fun y H2 => ∃ a kvs k, x = .ref a ∧ H2 a = some (.dK kvs) ∧ y = kV k ∧ (valV kvs k).isSome = true ∧ D.nx σ (upd H2 a (.dK (dropK kvs k)))) : sDDel td ty D σ H := h
theorem w_fldS {f : Str} (h : ta σ H fun x H1 => ∃ a C dx fs v, x = .ref a ∧ H1 a = some (.ins C dx fs) ∧ Cls K C ∧ NoAttr K C f ∧ fs.lookup f = some v ∧ Q v H1) : tFld K ta f σ H Q := h
theorem w_sfldS {f : Str} {tv : TE} (h : tv σ H fun y H1 => ta σ H1 fun x H2 => ∃ a C dx fs, x = .ref a ∧ H2 a = some (.ins C dx fs) ∧ Cls K C ∧ NoAttr K C f ∧ fs.length < 1000 ∧ D.nx σ (upd H2 a (.ins C dx (putF f y fs)))) : sFld K ta tv f D σ H := h
theorem w_methS {C : Addr} {m : Str} {sp : Sp} {E : XK} {t : TA} (h : ta σ H fun x H1 => ∃ a dx fs, x = .ref a ∧ H1 a = some (.ins C dx fs) ∧ fs.lookup m = none ∧ t σ H1 fun vs H2 => sp (x :: vs) H2 Q E) : tMeth C m sp [] E ta t σ H Q := by
  show ta σ H fun x H1 => ∃ a dx fs, x = .ref a ∧ H1 a = some (.ins C dx fs) ∧ fs.lookup m = none ∧ t σ H1 fun vs H2 => sp (x :: (vs ++ [])) H2 Q E
  simp only [List.append_nil]
  exact h
theorem w_makeS {C : Addr} {sp : Sp} {dvs : List V} {E : XK} {t : TA} (h : t σ H fun vs H1 => ∀ x dx, H1 x = none → H1 dx = none → dx ≠ x → sp (.ref x :: (vs ++ dvs)) (upd (upd H1 dx (.own x)) x (.ins C dx [])) (fun v H2 => v = .non ∧ Q (.ref x) H2) E) : tMake C sp dvs E t σ H Q := h
theorem w_dnewK (h : ∀ p, H p = none → Q (.ref p) (upd H p (.dK []))) : tDNewK σ H Q := h
theorem w_dnewT (h : ∀ p, H p = none → Q (.ref p) (upd H p (.dT []))) : tDNewT σ H Q := h
theorem w_iStr {R : It → Hp → Prop} (h : te σ H fun v H1 => ∃ x, v = .str x ∧ R (Its x) H1) : iStr te σ H R := h
theorem w_strA {z : Str} {R : Str → Prop} (q : R z) : ∃ x, V.str z = .str x ∧ R x := ⟨z, rfl, q⟩
theorem w_iEnum {R : It → Hp → Prop} {tA : TA} (h : tA σ H fun vs H1 => ∃ a xs, vs = [.ref a] ∧ SqL K H1 a xs ∧ R (Ite K a) H1) : iEnum K tA σ H R := h
theorem w_enumA {R : It → Hp → Prop} {xs : List V} (h : SqL K H a xs) (q : R (Ite K a) H) : ∃ a' xs, [V.ref a] = [.ref a'] ∧ SqL K H a' xs ∧ R (Ite K a') H := ⟨a, xs, rfl, h, q⟩
theorem w_opA {m n : Int} {f : Int → Int → V} : rI0 f (.int m) (.int n) H Q ↔ Q (f m n) H := ⟨fun ⟨_, _, e1, e2, q⟩ => by cases e1; cases e2; exact q, fun q => ⟨m, n, rfl, rfl, q⟩⟩
end
section
variable {H : Hp} {a b : Addr} {kvs : List (Key × V)} {kvt : List (List Key × V)} {k : Str} {kt : List Key} {v : V}
theorem dgS (h : H a = some (.dK kvs)) : DGet H a (.str k) (valV kvs (Sum.inr k)) := DGet.k (k := Sum.inr k) h
theorem dgI {i : Int} (h : H a = some (.dK kvs)) : DGet H a (.int i) (valV kvs (Sum.inl i)) := DGet.k (k := Sum.inl i) h
theorem dpS (h : H a = some (.dK kvs)) (l : kvs.length < 100000) : DPut H a (.str k) v (upd H a (.dK (putK kvs (Sum.inr k) v))) := DPut.k (k := Sum.inr k) h (sz_lt l)
theorem dpI {i : Int} (h : H a = some (.dK kvs)) (l : kvs.length < 100000) : DPut H a (.int i) v (upd H a (.dK (putK kvs (Sum.inl i) v))) := DPut.k (k := Sum.inl i) h (sz_lt l)
end

section
theorem w_no {c : Bool} {A B : Prop} (e : c = false) (h : B) : (c = true → A) ∧ (c = false → B) := by
  subst e
  exact ⟨nofun, fun _ => h⟩
theorem w_ye {c : Bool} {A B : Prop} (e : c = true) (h : A) : (c = true → A) ∧ (c = false → B) := by
  subst e
  exact ⟨fun _ => h, nofun⟩
theorem nd_true {p : Prop} [Decidable p] (h : (!decide p) = true) : ¬ p := by simpa using h
theorem nd_false {p : Prop} [Decidable p] (h : (!decide p) = false) : p := by simpa using h
theorem dgPut {H : Hp} {a : Addr} {kvs : List (Key × V)} {k : Str} {v : V} : DGet (upd H a (.dK (putK kvs (Sum.inr k) v))) a (.str k) (some v) := by
  have h := dgS (H := upd H a (.dK (putK kvs (Sum.inr k) v))) (k := k) upd_same
  rw [valV_put, if_pos rfl] at h
  exact h
theorem dgGet {H : Hp} {a : Addr} {kvs : List (Key × V)} {k : Str} {v : V} (h : H a = some (.dK kvs)) (e : valV kvs (Sum.inr k) = some v) : DGet H a (.str k) (some v) := e ▸ dgS h
end

/-! ### texts that stand -/
def TxOk (n : Nat) (x : Str) : Prop := PyData.strOk x = true ∧ x.length ≤ n
theorem TxOk.mono {n m : Nat} {x : Str} (h : TxOk n x) (l : n ≤ m) : TxOk m x := ⟨h.1, Nat.le_trans h.2 l⟩
theorem strOk_iff {x : Str} : PyData.strOk x = true ↔ ∀ c ∈ x.cps.toList, c < 0x110000 := by
  unfold PyData.strOk
  rw [Array.all_eq_true']
  simp
theorem app_cps (x y : Str) : (x ++ y).cps.toList = x.cps.toList ++ y.cps.toList := by
  show (x.cps ++ y.cps).toList = _
  simp
theorem app_len (x y : Str) : (x ++ y).length = x.length + y.length := by
  show (x.cps ++ y.cps).size = _
  simp [Str.length]
theorem TxOk.app {n m : Nat} {x y : Str} (h : TxOk n x) (k : TxOk m y) : TxOk (n + m) (x ++ y) := by
  refine ⟨strOk_iff.mpr fun c hc => ?_, ?_⟩
  · rw [app_cps] at hc
    rcases List.mem_append.mp hc with z | z
    · exact strOk_iff.mp h.1 c z
    · exact strOk_iff.mp k.1 c z
  · rw [app_len]
    have := h.2
    have := k.2
    omega
theorem TxOk.cut {n : Nat} {x : Str} (h : TxOk n x) (lo hi : Option Int) : TxOk n (cutS x lo hi) := by
  refine ⟨strOk_iff.mpr fun c hc => ?_, ?_⟩
  · have hc : c ∈ (x.cps.toList.drop (HT.sIx x.length 0 lo)).take (HT.sIx x.length x.length hi - HT.sIx x.length 0 lo) := by
      simpa [cutS] using hc
    exact strOk_iff.mp h.1 c (List.mem_of_mem_drop (List.mem_of_mem_take hc))
  · have e : (cutS x lo hi).length ≤ x.length := by
      show ((x.cps.toList.drop _).take _).toArray.size ≤ x.cps.size
      rw [List.size_toArray, List.length_take, List.length_drop, Array.length_toList]
      omega
    exact Nat.le_trans e h.2
theorem cut_two {x : Str} {j : Int} (h : 0 ≤ j) : (cutS x none (some j)).length + (cutS x (some j) none).length ≤ x.length := by
  show ((x.cps.toList.drop (HT.sIx x.length 0 none)).take (HT.sIx x.length x.length (some j) - HT.sIx x.length 0 none)).toArray.size + ((x.cps.toList.drop (HT.sIx x.length 0 (some j))).take (HT.sIx x.length x.length none - HT.sIx x.length 0 (some j))).toArray.size ≤ x.cps.size
  simp only [List.size_toArray, List.length_take, List.length_drop, Array.length_toList, HT.sIx]
  rw [if_neg (by omega)]
  omega
theorem TxOk.sg {x : Str} {c : Nat} {n : Nat} (h : TxOk n x) (m : c ∈ x.cps.toList) : TxOk 1 ⟨#[c]⟩ := by
  refine ⟨strOk_iff.mpr fun d hd => ?_, ?_⟩
  · have : d = c := by simpa using hd
    rw [this]
    exact strOk_iff.mp h.1 c m
  · show (#[c] : Array Nat).size ≤ 1
    simp
theorem TxOk.sz {n : Nat} {x : Str} (h : TxOk n x) (l : n ≤ 100000) : x.length ≤ sizeLine := Nat.le_trans h.2 (Nat.le_trans l (by decide))

/-! ### values: ints, texts; none where there is none -/
def isVal : V → Bool
  | .int _ => true
  | .str x => PyData.strOk x
  | _ => false
def isVal0 : V → Bool
  | .non => true
  | v => isVal v
theorem isVal.to0 {v : V} (h : isVal v = true) : isVal0 v = true := by
  cases v <;> first | exact h | rfl
theorem isVal.ne {v : V} (h : isVal v = true) : v ≠ .non := by
  rintro rfl
  cases h
theorem isVal0.or {v : V} (h : isVal0 v = true) : v = .non ∨ isVal v = true := by
  cases v <;> first | exact .inl rfl | exact .inr h
theorem isVal0.scal {v w : V} (h : isVal0 v = true) (k : isVal0 w = true) : scal v w = true := by
  cases v <;> cases w <;> first | rfl | (cases h; done) | (cases k; done) | skip
theorem isVal0.flat {v : V} (h : isVal0 v = true) : flatB v = true := by
  cases v <;> first | rfl | (cases h; done)
def dV : V → PyData
  | .int i => .int i
  | .str x => .str x
  | _ => .none
theorem dV_inj {v w : V} (h : isVal0 v = true) (k : isVal0 w = true) (e : dV v = dV w) : v = w := by
  cases v <;> cases w <;> first | rfl | (cases h; done) | (cases k; done) | (cases e; done) | (cases e; rfl)
theorem rp_dV {K : PySem.W.Frag} {H : Hp} {v : V} (h : isVal0 v = true) : Rp K H v (dV v) := by
  cases v <;> first | exact .non | exact .int _ | exact .str _ | (cases h; done)
theorem Rp.asV {K : PySem.W.Frag} {H : Hp} {u v : V} (r : Rp K H u (dV v)) (h : isVal0 v = true) : u = v := by
  cases v <;> first | (cases r; rfl) | (cases h; done)
theorem shp_dV {n : Nat} {v : V} (h : isVal0 v = true) : Shp n (dV v) := by
  cases v <;> first | exact .non | exact .int | exact .str h | (cases h; done)
theorem rps_dV {K : PySem.W.Frag} {H : Hp} : ∀ {vs : List V}, (∀ v ∈ vs, isVal0 v = true) → Rps K H vs (vs.map dV)
  | [], _ => .nil
  | v :: vs, h => .cons (rp_dV (h v (by simp))) (rps_dV fun w hw => h w (by simp [hw]))
theorem map_dV_inj : ∀ {vs ws : List V}, (∀ v ∈ vs, isVal0 v = true) → (∀ v ∈ ws, isVal0 v = true) → vs.map dV = ws.map dV → vs = ws
  | [], [], _, _, _ => rfl
  | [], _ :: _, _, _, e => by simp at e
  | _ :: _, [], _, _, e => by simp at e
  | v :: vs, w :: ws, h, k, e => by
    simp only [List.map_cons, List.cons.injEq] at e
    rw [dV_inj (h v (by simp)) (k w (by simp)) e.1, map_dV_inj (fun x hx => h x (by simp [hx])) (fun x hx => k x (by simp [hx])) e.2]

/-! ### rows: a dict of texts -/
abbrev Rws := List (Key × V)
def Rok (kvs : Rws) : Prop := (∀ p ∈ kvs, isVal p.2 = true ∧ ∃ k : Str, p.1 = Sum.inr k ∧ PyData.strOk k = true) ∧ (kvs.map (·.1)).Nodup
def look (kvs : Rws) (k : Str) : V := (valV kvs (Sum.inr k)).getD .non
theorem Rok.nil : Rok [] := ⟨by simp, by simp⟩
theorem Rok.val {kvs : Rws} (h : Rok kvs) {k : Key} {v : V} (e : valV kvs k = some v) : isVal v = true := by
  unfold valV at e
  obtain ⟨p, hp, rfl⟩ := Option.map_eq_some_iff.mp e
  exact (h.1 p (List.mem_of_find?_eq_some hp)).1
theorem Rok.look {kvs : Rws} (h : Rok kvs) (k : Str) : isVal0 (look kvs k) = true := by
  unfold Kt.look
  cases e : valV kvs (Sum.inr k) with
  | none => rfl
  | some v => exact isVal.to0 (h.val e)
theorem Rok.look_non {kvs : Rws} (h : Rok kvs) (k : Str) : Kt.look kvs k = .non ↔ valV kvs (Sum.inr k) = none := by
  unfold Kt.look
  cases e : valV kvs (Sum.inr k) with
  | none => simp
  | some v => simp only [Option.getD_some, reduceCtorEq, iff_false]; exact isVal.ne (h.val e)
theorem Rok.put {kvs : Rws} (h : Rok kvs) {k : Str} {v : V} (hk : PyData.strOk k = true) (hv : isVal v = true) : Rok (putK kvs (Sum.inr k) v) := by
  unfold putK
  split
  · refine ⟨fun p hp => ?_, ?_⟩
    · obtain ⟨q, hq, rfl⟩ := List.mem_map.mp hp
      split
      · exact ⟨hv, (h.1 q hq).2⟩
      · exact h.1 q hq
    · rw [List.map_map]
      have e : ((fun x : Key × V => x.1) ∘ fun kv : Key × V => if kv.1 = Sum.inr k then (kv.1, v) else kv) = fun x => x.1 := by
        funext q
        simp only [Function.comp_apply]
        split <;> rfl
      rw [e]
      exact h.2
  · rename_i c
    refine ⟨fun p hp => ?_, ?_⟩
    · rcases List.mem_append.mp hp with z | z
      · exact h.1 p z
      · rw [List.mem_singleton.mp z]
        exact ⟨hv, k, rfl, hk⟩
    · rw [List.map_append]
      refine List.nodup_append.mpr ⟨h.2, by simp, fun a ha b hb e => ?_⟩
      simp only [List.map_cons, List.map_nil, List.mem_singleton] at hb
      subst hb e
      obtain ⟨q, hq, e⟩ := List.mem_map.mp ha
      exact c (List.any_eq_true.mpr ⟨q, hq, decide_eq_true e⟩)
theorem Rok.drop {kvs : Rws} (h : Rok kvs) (k : Key) : Rok (dropK kvs k) := by
  refine ⟨fun p hp => h.1 p (List.mem_filter.mp hp).1, ?_⟩
  exact List.Sublist.nodup (List.Sublist.map _ List.filter_sublist) h.2
theorem Rok.flat {kvs : Rws} (h : Rok kvs) : ∀ p ∈ kvs, valV kvs p.1 = some p.2 ∧ flatB p.2 = true := fun p hp =>
  ⟨val_nodup h.2 p hp, isVal0.flat (isVal.to0 (h.1 p hp).1)⟩
theorem dropK_none {kvs : Rws} {k : Key} (e : valV kvs k = none) : dropK kvs k = kvs := by
  unfold dropK
  refine List.filter_eq_self.mpr fun p hp => ?_
  have := valV_not e
  simp only [ne_eq, decide_eq_true_eq]
  exact fun z => this (List.mem_map.mpr ⟨p, hp, z⟩)

/-! ### deeds, deals -/
inductive Deed
  | get (k : Str)
  | del (k : Str)
  | put (k : Str) (v : V)
  | add (k : Str) (n : Int)
def Deed.key : Deed → Str
  | .get k => k
  | .del k => k
  | .put k _ => k
  | .add k _ => k
def Deed.d : Deed → PyData
  | .get k => .tuple [.str "get", .str k]
  | .del k => .tuple [.str "del", .str k]
  | .put k v => .tuple [.str "put", .str k, dV v]
  | .add k n => .tuple [.str "add", .str k, .int n]
def Deed.ok : Deed → Prop
  | .get k => PyData.strOk k = true
  | .del k => PyData.strOk k = true
  | .put k v => PyData.strOk k = true ∧ isVal v = true
  | .add k n => PyData.strOk k = true ∧ n.natAbs ≤ 1000000000
theorem Deed.ok_key {d : Deed} (h : d.ok) : PyData.strOk d.key = true := by
  cases d <;> first | exact h | exact h.1
theorem Deed.shp {d : Deed} (h : d.ok) : Shp 1 d.d := by
  cases d with
  | get k => exact .tup2 (.str (by decide +kernel)) (.str h)
  | del k => exact .tup2 (.str (by decide +kernel)) (.str h)
  | put k v => exact .tup3 (.str (by decide +kernel)) (.str h.1) (shp_dV (isVal.to0 h.2))
  | add k n => exact .tup3 (.str (by decide +kernel)) (.str h.1) .int
/-- what a deed answers, the rows behind it -/
def doDeed (kvs : Rws) : Deed → V × Rws
  | .get k => (look kvs k, kvs)
  | .del k => (look kvs k, dropK kvs (Sum.inr k))
  | .put k v => (look kvs k, putK kvs (Sum.inr k) v)
  | .add k n => match look kvs k with
    | .non => (.int n, putK kvs (Sum.inr k) (.int n))
    | .int m => if -1000000000000000 ≤ m + n ∧ m + n ≤ 1000000000000000 then (.int (m + n), putK kvs (Sum.inr k) (.int (m + n))) else (.non, kvs)
    | _ => (.non, kvs)
def doDeeds (kvs : Rws) : List Deed → List V × Rws
  | [] => ([], kvs)
  | d :: ds => ((doDeed kvs d).1 :: (doDeeds (doDeed kvs d).2 ds).1, (doDeeds (doDeed kvs d).2 ds).2)
theorem doDeed_ok {kvs : Rws} (h : Rok kvs) {d : Deed} (k : d.ok) : Rok (doDeed kvs d).2 ∧ isVal0 (doDeed kvs d).1 = true ∧ (doDeed kvs d).2.length ≤ kvs.length + 1 := by
  cases d with
  | get x => exact ⟨h, h.look x, Nat.le_succ _⟩
  | del x => exact ⟨h.drop _, h.look x, Nat.le_trans (dropK_le _ _) (Nat.le_succ _)⟩
  | put x v => exact ⟨h.put k.1 k.2, h.look x, length_putK _ _ _⟩
  | add x n =>
    obtain ⟨k1, k2⟩ := k
    simp only [doDeed]
    split
    · exact ⟨h.put k1 rfl, rfl, length_putK _ _ _⟩
    · split
      · exact ⟨h.put k1 rfl, rfl, length_putK _ _ _⟩
      · exact ⟨h, rfl, Nat.le_succ _⟩
    · exact ⟨h, rfl, Nat.le_succ _⟩
theorem doDeeds_snoc : ∀ (ds : List Deed) (kvs : Rws) (d : Deed), doDeeds kvs (ds ++ [d]) = ((doDeeds kvs ds).1 ++ [(doDeed (doDeeds kvs ds).2 d).1], (doDeed (doDeeds kvs ds).2 d).2)
  | [], _, _ => rfl
  | e :: ds, kvs, d => by
    simp only [List.cons_append, doDeeds]
    rw [doDeeds_snoc ds]
theorem doDeeds_ok : ∀ {ds : List Deed} {kvs : Rws}, Rok kvs → (∀ d ∈ ds, d.ok) → Rok (doDeeds kvs ds).2 ∧ (∀ v ∈ (doDeeds kvs ds).1, isVal0 v = true) ∧ (doDeeds kvs ds).2.length ≤ kvs.length + ds.length
  | [], _, h, _ => ⟨h, by simp [doDeeds], Nat.le_refl _⟩
  | d :: ds, kvs, h, k => by
    obtain ⟨h1, h2, h3⟩ := doDeed_ok h (k d (by simp))
    obtain ⟨g1, g2, g3⟩ := doDeeds_ok h1 fun e he => k e (List.mem_cons_of_mem _ he)
    refine ⟨g1, fun v hv => ?_, ?_⟩
    · simp only [doDeeds, List.mem_cons] at hv
      rcases hv with e | e
      · rw [e]; exact h2
      · exact g2 v e
    · simp only [doDeeds, List.length_cons]
      omega
structure Deal where
  cks : List (Str × V)
  dds : List Deed
def ckD (c : Str × V) : PyData := .tuple [.str c.1, dV c.2]
def Deal.d (x : Deal) : PyData := .tuple [.tuple (x.cks.map ckD), .tuple (x.dds.map Deed.d)]
structure Deal.ok (x : Deal) : Prop where
  cks : ∀ c ∈ x.cks, PyData.strOk c.1 = true ∧ isVal0 c.2 = true
  dds : ∀ d ∈ x.dds, d.ok
  few : x.cks.length ≤ 4 ∧ x.dds.length ≤ 6
theorem Deal.shp {x : Deal} (h : x.ok) : Shp 3 x.d := .tup2 (.tup (n := 1) fun d hd => by
    obtain ⟨c, hc, rfl⟩ := List.mem_map.mp hd
    exact .tup2 (.str (h.cks c hc).1) (shp_dV (h.cks c hc).2)) (.tup (n := 1) fun d hd => by
    obtain ⟨c, hc, rfl⟩ := List.mem_map.mp hd
    exact Deed.shp (h.dds c hc))
def cksV (kvs : Rws) (x : Deal) : List V := x.cks.map fun c => look kvs c.1
def holds (kvs : Rws) (x : Deal) : Bool := x.cks.all fun c => decide (look kvs c.1 = c.2)
def doDeal (kvs : Rws) (x : Deal) : PyData × Rws := if holds kvs x = true then (.tuple [.str "done", .tuple ((doDeeds kvs x.dds).1.map dV)], (doDeeds kvs x.dds).2) else (.tuple [.str "unheld", .tuple ((cksV kvs x).map dV)], kvs)
theorem holds_iff {kvs : Rws} {x : Deal} : holds kvs x = true ↔ cksV kvs x = x.cks.map (·.2) := by
  unfold holds cksV
  rw [List.all_eq_true]
  induction x.cks with
  | nil => simp
  | cons c cs ih => simp [ih]
theorem cksV_ok {kvs : Rws} (h : Rok kvs) (x : Deal) : ∀ v ∈ cksV kvs x, isVal0 v = true := fun v hv => by
  obtain ⟨c, _, rfl⟩ := List.mem_map.mp hv
  exact h.look _
theorem doDeal_ok {kvs : Rws} (h : Rok kvs) {x : Deal} (k : x.ok) : Rok (doDeal kvs x).2 ∧ Shp 2 (doDeal kvs x).1 ∧ (doDeal kvs x).2.length ≤ kvs.length + 6 := by
  obtain ⟨g1, g2, g3⟩ := doDeeds_ok h k.dds
  have := k.few
  unfold doDeal
  split
  · refine ⟨g1, .tup2 (.str (by decide +kernel)) (.tup fun d hd => ?_), by show (doDeeds kvs x.dds).2.length ≤ _; omega⟩
    obtain ⟨v, hv, rfl⟩ := List.mem_map.mp hd
    exact shp_dV (g2 v hv)
  · refine ⟨h, .tup2 (.str (by decide +kernel)) (.tup fun d hd => ?_), Nat.le_add_right _ _⟩
    obtain ⟨v, hv, rfl⟩ := List.mem_map.mp hd
    exact shp_dV (cksV_ok h x v hv)
/-- the deal's promise: do_deal of the program, the law's own -/
def spDeal (K : PySem.W.Frag) : Sp := fun vs H Q _ => ∃ (a : Addr) (kvs : Rws) (dv : V) (x : Deal), vs = [.ref a, dv] ∧ H a = some (.dK kvs) ∧ Rp K H dv x.d ∧ x.ok ∧ Rok kvs ∧ kvs.length ≤ 10000 ∧
  ∀ H' u, Ch [a] H H' → H' a = some (.dK (doDeal kvs x).2) → Rp K H' u (doDeal kvs x).1 → Q u H'
def spDeed (K : PySem.W.Frag) : Sp := fun vs H Q _ => ∃ (a : Addr) (kvs : Rws) (dv : V) (x : Deed), vs = [.ref a, dv] ∧ H a = some (.dK kvs) ∧ Rp K H dv x.d ∧ x.ok ∧ Rok kvs ∧ kvs.length ≤ 10006 ∧
  ∀ H', Ch [a] H H' → H' a = some (.dK (doDeed kvs x).2) → Q (doDeed kvs x).1 H'
/-! ### drawn things -/
theorem pick_mem {xs : List V} {i : Int} (h0 : 0 ≤ i) (h1 : i < xs.length) : ∃ v, v ∈ xs ∧ atI xs i = some v := by
  obtain ⟨v, h, e⟩ := atI_int h0 h1
  exact ⟨v, List.mem_of_getElem? e, h⟩
theorem pick_int {ns : List Int} {i : Int} (h0 : 0 ≤ i) (h1 : i < ns.length) : ∃ n, n ∈ ns ∧ atI (ns.map V.int) i = some (.int n) := by
  obtain ⟨v, m, h⟩ := pick_mem (xs := ns.map V.int) h0 (by rw [List.length_map]; exact h1)
  obtain ⟨n, hn, rfl⟩ := List.mem_map.mp m
  exact ⟨n, hn, h⟩
theorem pick_sg {z : Str} {i : Int} (h0 : 0 ≤ i) (h1 : i < z.cps.size) : ∃ c, c ∈ z.cps.toList ∧ atI z.cps.toList i = some c := by
  have lt : i.toNat < z.cps.toList.length := by rw [Array.length_toList]; omega
  have e : ((i.toNat : Nat) : Int) = i := by omega
  obtain ⟨c, hc⟩ : ∃ c, z.cps.toList[i.toNat]? = some c := ⟨_, List.getElem?_eq_getElem lt⟩
  have h : atI z.cps.toList ((i.toNat : Nat) : Int) = some c := atI_nat hc
  rw [e] at h
  exact ⟨c, List.mem_of_getElem? hc, h⟩
theorem BoxAt.ne_new {H : Hp} {a p : Addr} (b : BoxAt H a) (hp : H p = none) : p ≠ a := by
  rintro rfl
  obtain ⟨_, e⟩ := b
  rw [e] at hp
  cases hp
/-- [.., ..][take(box, n)] -/
theorem w_pickT {K : PySem.W.Frag} {H : Hp} {Q : VK} {E : XK} {a p : Addr} {n : Int} {xs : List V} (hp : H p = none) (b : BoxAt H a) (n0 : 0 < n) (hn : n = xs.length) (n1 : n < 1000) (q : ∀ v H', v ∈ xs → Ch [a] H H' → BoxAt H' a → Q v H') :
    spTake [.ref a, .int n] (upd H p (.lst xs)) (fun y H2 => rIxL K (.ref p) y H2 Q) E := by
  refine w_take (b.same (Same.new hp)) n0 (by omega) fun i H' i0 i1 c b' => ?_
  obtain ⟨v, m, ha⟩ := pick_mem (xs := xs) i0 (by omega)
  exact w_ixL (SqL.of (c.2 _ _ upd_same (by simpa using b.ne_new hp))) ha (q v H' m ((Same.ch (Same.new hp)).trans c) b')
def KeysOk (ks : List Str) : Prop := ks ≠ [] ∧ ks.length ≤ 5 ∧ ∀ k ∈ ks, TxOk 9 k
def KsAt (H : Hp) (l : Addr) (ks : List Str) : Prop := H l = some (.lst (ks.map V.str)) ∧ KeysOk ks
def spKey : Sp := fun vs H Q _ => ∃ a z, vs = [.ref a, .str z] ∧ BoxAt H a ∧ TxOk 2 z ∧ ∀ x H', TxOk 9 x → Ch [a] H H' → BoxAt H' a → Q (.str x) H'
def spKeys : Sp := fun vs H Q _ => ∃ a, vs = [.ref a] ∧ BoxAt H a ∧ ∀ l ks H', H l = none → Ch [a] H H' → BoxAt H' a → KsAt H' l ks → Q (.ref l) H'
def spVal : Sp := fun vs H Q _ => ∃ a, vs = [.ref a] ∧ BoxAt H a ∧ ∀ v H', isVal v = true → Ch [a] H H' → BoxAt H' a → Q v H'
def spMaybe : Sp := fun vs H Q _ => ∃ a, vs = [.ref a] ∧ BoxAt H a ∧ ∀ v H', isVal0 v = true → Ch [a] H H' → BoxAt H' a → Q v H'
def spMkDeed (K : PySem.W.Frag) : Sp := fun vs H Q _ => ∃ a l ks, vs = [.ref a, .ref l] ∧ BoxAt H a ∧ KsAt H l ks ∧ ∀ v (d : Deed) H', d.ok → d.key ∈ ks → Ch [a] H H' → BoxAt H' a → Rp K H' v d.d → Q v H'
def spMkDeal (K : PySem.W.Frag) : Sp := fun vs H Q _ => ∃ a l ks r kvs, vs = [.ref a, .ref l, .ref r] ∧ BoxAt H a ∧ KsAt H l ks ∧ H r = some (.dK kvs) ∧ Rok kvs ∧
  ∀ v (x : Deal) H', x.ok → (∀ c ∈ x.cks, c.1 ∈ ks) → (∀ d ∈ x.dds, d.key ∈ ks) → x.dds ≠ [] → Ch [a] H H' → BoxAt H' a → Rp K H' v x.d → Q v H'
theorem KsAt.ne {H : Hp} {a l : Addr} {ks : List Str} (h : KsAt H l ks) (b : BoxAt H a) : l ≠ a := by
  rintro rfl
  obtain ⟨i, e⟩ := b
  obtain ⟨h, _⟩ := h
  rw [e] at h
  cases ks with
  | nil => cases h
  | cons k ks => cases h
theorem KsAt.ch {H H' : Hp} {S : List Addr} {l : Addr} {ks : List Str} (h : KsAt H l ks) (c : Ch S H H') (n : l ∉ S) : KsAt H' l ks := ⟨c.2 _ _ h.1 n, h.2⟩
end Kt
set_option Elab.async false
set_option linter.all false
set_option maxRecDepth 100000
set_option maxHeartbeats 4000000
/-! Kh: histories, orders, faults, plain. -/
namespace Kt
open PySem PySem.Spec PyProof.Rows L2
/-! ### lists of data -/
def LsAt (K : PySem.W.Frag) (H : Hp) (l : Addr) (ds : List PyData) : Prop := ∃ vs, H l = some (.lst vs) ∧ Rps K H vs ds
theorem LsAt.ch {K : PySem.W.Frag} {H H' : Hp} {S : List Addr} {l : Addr} {ds : List PyData} (h : LsAt K H l ds) (c : Ch S H H') (n : l ∉ S) : LsAt K H' l ds :=
  let ⟨vs, e, r⟩ := h
  ⟨vs, c.2 _ _ e n, r.to c.px⟩
theorem LsAt.same {K : PySem.W.Frag} {H H' : Hp} {l : Addr} {ds : List PyData} (h : LsAt K H l ds) (s : Same H H') : LsAt K H' l ds := h.ch (S := []) (Same.ch s) (by simp)
theorem LsAt.ex {K : PySem.W.Frag} {H : Hp} {l : Addr} {ds : List PyData} (h : LsAt K H l ds) : ∃ vs, H l = some (.lst vs) := let ⟨_, e, _⟩ := h; ⟨_, e⟩
theorem LsAt.len {K : PySem.W.Frag} {H : Hp} {l : Addr} {ds : List PyData} {vs : List V} (h : LsAt K H l ds) (e : H l = some (.lst vs)) : vs.length = ds.length ∧ Rps K H vs ds := by
  obtain ⟨ws, e2, r⟩ := h
  rw [e] at e2
  cases e2
  exact ⟨r.length, r⟩
/-! ### records, entries -/
def optI : Option Int → PyData
  | none => .none
  | some i => .int i
def optD : Option PyData → PyData
  | none => .none
  | some d => d
def AnsOk (a : PyData) : Prop := ∃ w ds, a = .tuple (.str w :: ds) ∧ Shp 2 a
structure Rec where
  c : Int
  n : Int
  x : Deal
  st : Int
  sp : Option Int
  an : Option PyData
abbrev Nm2 := Int × Int
def Rec.nm (r : Rec) : Nm2 := (r.c, r.n)
def Rec.d (r : Rec) : PyData := .tuple [.int r.c, .int r.n, r.x.d, .int r.st, optI r.sp, optD r.an]
structure Rec.ok (r : Rec) : Prop where
  x : r.x.ok
  an : ∀ a, r.an = some a → AnsOk a
  st : 0 ≤ r.st
  sp : ∀ t, r.sp = some t → 0 ≤ t
structure Ent where
  c : Int
  n : Int
  an : PyData
def Ent.nm (e : Ent) : Nm2 := (e.c, e.n)
def Ent.d (e : Ent) : PyData := .tuple [.int e.c, .int e.n, e.an]
def nmD (p : Nm2) : PyData := .tuple [.int p.1, .int p.2]
def nmK (p : Nm2) : List Key := [Sum.inl p.1, Sum.inl p.2]
def nmV (p : Nm2) : List V := [.int p.1, .int p.2]
theorem nmK_v (p : Nm2) : (nmK p).map kV = nmV p := rfl
theorem nmK_inj {p q : Nm2} (h : nmK p = nmK q) : p = q := by
  obtain ⟨a, b⟩ := p
  obtain ⟨c, d⟩ := q
  simp only [nmK, List.cons.injEq, Sum.inl.injEq, and_true] at h
  rw [h.1, h.2]
theorem nmD_inj {p q : Nm2} (h : nmD p = nmD q) : p = q := by
  obtain ⟨a, b⟩ := p
  obtain ⟨c, d⟩ := q
  simp only [nmD, PyData.tuple.injEq, List.cons.injEq, PyData.int.injEq, and_true] at h
  rw [h.1, h.2]
theorem nmD_shp {n : Nat} (p : Nm2) : Shp (n + 1) (nmD p) := .tup2 .int .int
theorem nmD_mem {p : Nm2} {ps : List Nm2} : nmD p ∈ ps.map nmD ↔ p ∈ ps := by
  refine ⟨fun h => ?_, fun h => List.mem_map.mpr ⟨p, h, rfl⟩⟩
  obtain ⟨q, hq, e⟩ := List.mem_map.mp h
  rw [← nmD_inj e]
  exact hq
theorem AnsOk.shp {a : PyData} (h : AnsOk a) : Shp 2 a := let ⟨_, _, _, s⟩ := h; s
theorem shp_optI {n : Nat} (o : Option Int) : Shp n (optI o) := by
  cases o
  · exact .non
  · exact .int
theorem shp_optD {o : Option PyData} (h : ∀ a, o = some a → AnsOk a) : Shp 2 (optD o) := by
  cases o with
  | none => exact .non
  | some a => exact (h a rfl).shp
theorem optD_some {o : Option PyData} {a : PyData} (h : ∀ a, o = some a → AnsOk a) (ha : AnsOk a) : optD o = a ↔ o = some a := by
  cases o with
  | none =>
    obtain ⟨w, ds, e, _⟩ := ha
    rw [e]
    simp [optD]
  | some b => simp [optD]
theorem Rec.shp {r : Rec} (h : r.ok) : Shp 4 r.d := .tup fun d hd => by
  simp only [List.mem_cons, List.not_mem_nil, or_false] at hd
  rcases hd with e | e | e | e | e | e <;> rw [e]
  · exact .int
  · exact .int
  · exact Deal.shp h.x
  · exact .int
  · exact shp_optI _
  · exact (shp_optD h.an).mono (by decide)
theorem Ent.shp {e : Ent} (h : AnsOk e.an) : Shp 4 e.d := .tup3 .int .int (h.shp.mono (by decide))
structure GoodH (hs : List Rec) : Prop where
  ok : ∀ r ∈ hs, r.ok
  nd : (hs.map Rec.nm).Nodup
  few : hs.length ≤ 1000
structure GoodO (os : List Ent) : Prop where
  ok : ∀ e ∈ os, AnsOk e.an
  few : os.length ≤ 1000
def recOf (hs : List Rec) (p : Nm2) : Option Rec := hs.find? fun r => decide (r.nm = p)
theorem recOf_mem {hs : List Rec} {p : Nm2} {r : Rec} (h : recOf hs p = some r) : r ∈ hs ∧ r.nm = p := by
  have h1 := List.find?_some h
  exact ⟨List.mem_of_find?_eq_some h, of_decide_eq_true h1⟩
theorem recOf_none {hs : List Rec} {p : Nm2} : recOf hs p = none ↔ p ∉ hs.map Rec.nm := by
  unfold recOf
  rw [List.find?_eq_none]
  simp
theorem nodup_inj {α β : Type} {f : α → β} : ∀ {xs : List α}, (xs.map f).Nodup → ∀ {x y : α}, x ∈ xs → y ∈ xs → f x = f y → x = y
  | [], _, _, _, h, _, _ => by simp at h
  | z :: xs, nd, x, y, hx, hy, e => by
    simp only [List.map_cons, List.nodup_cons] at nd
    rcases List.mem_cons.mp hx with h | h <;> rcases List.mem_cons.mp hy with k | k
    · rw [h, k]
    · subst h
      exact absurd (List.mem_map.mpr ⟨y, k, e.symm⟩) nd.1
    · subst k
      exact absurd (List.mem_map.mpr ⟨x, h, e⟩) nd.1
    · exact nodup_inj nd.2 h k e
theorem recOf_of {hs : List Rec} (nd : (hs.map Rec.nm).Nodup) {r : Rec} (h : r ∈ hs) : recOf hs r.nm = some r := by
  cases e : recOf hs r.nm with
  | none => exact absurd (List.mem_map.mpr ⟨r, h, rfl⟩) (recOf_none.mp e)
  | some q =>
    obtain ⟨h1, h2⟩ := recOf_mem e
    rw [nodup_inj nd h1 h h2]
theorem recOf_app {hs : List Rec} {q : Rec} {p : Nm2} : recOf (hs ++ [q]) p = (recOf hs p).or (if q.nm = p then some q else none) := by
  unfold recOf
  rw [List.find?_append]
  congr 1
  simp only [List.find?_cons, List.find?_nil]
  by_cases h : q.nm = p <;> simp [h]
theorem nd_at {α : Type} {xs : List α} {i j : Nat} {a : α} (nd : xs.Nodup) (h : xs[i]? = some a) (k : xs[j]? = some a) : i = j :=
  (List.getElem?_inj (List.getElem?_eq_some_iff.mp h).1 nd).mp (h.trans k.symm)
theorem nd_take {α β : Type} {f : α → β} {xs : List α} {i : Nat} {a : α} (nd : (xs.map f).Nodup) (h : xs[i]? = some a) : f a ∉ (xs.take i).map f := fun m => by
  obtain ⟨z, hz, e⟩ := List.mem_map.mp m
  obtain ⟨j, hj, e2⟩ := List.mem_iff_getElem.mp hz
  rw [List.length_take] at hj
  rw [List.getElem_take] at e2
  have h1 : (xs.map f)[j]? = some (f a) := by rw [List.getElem?_map, List.getElem?_eq_getElem (by omega), e2, Option.map_some, e]
  have h2 : (xs.map f)[i]? = some (f a) := by rw [List.getElem?_map, h]; rfl
  have := nd_at nd h1 h2
  omega
/-- a dict by names -/
def ByName (K : PySem.W.Frag) (H : Hp) (kvs : List (List Key × V)) (rs : List Rec) : Prop := ∀ p, (recOf rs p = none → valV kvs (nmK p) = none) ∧ ∀ r, recOf rs p = some r → ∃ v, valV kvs (nmK p) = some v ∧ Rp K H v r.d
theorem ByName.to {K : PySem.W.Frag} {H H' : Hp} {kvs : List (List Key × V)} {rs : List Rec} (h : ByName K H kvs rs) (p : Px H H') : ByName K H' kvs rs := fun n =>
  ⟨(h n).1, fun r e => let ⟨v, h1, h2⟩ := (h n).2 r e; ⟨v, h1, h2.to p⟩⟩
theorem ByName.nil {K : PySem.W.Frag} {H : Hp} : ByName K H [] [] := fun n => ⟨fun _ => rfl, fun r e => by cases e⟩
theorem ByName.snoc {K : PySem.W.Frag} {H : Hp} {kvs : List (List Key × V)} {rs : List Rec} {r : Rec} {v : V} (h : ByName K H kvs rs) (n : r.nm ∉ rs.map Rec.nm) (hv : Rp K H v r.d) : ByName K H (putK kvs (nmK r.nm) v) (rs ++ [r]) := fun p => by
  rw [recOf_app, valV_put]
  by_cases e : r.nm = p
  · subst e
    rw [recOf_none.mpr n, if_pos rfl, if_pos rfl]
    refine ⟨nofun, fun r2 e2 => ?_⟩
    cases e2
    exact ⟨v, rfl, hv⟩
  · rw [if_neg fun z => e (nmK_inj z).symm, if_neg e, Option.or_none]
    exact h p
/-! ### faults -/
abbrev Flt := Option (Str × Nat)
def fD : Flt → PyData
  | none => .none
  | some (w, k) => .tuple [.str w, .int k]
def FirstP (bad : Nat → Str → Prop) (n : Nat) (f : Flt) : Prop := (f = none ∧ ∀ i < n, ∀ w, ¬ bad i w) ∨ ∃ i w, f = some (w, i) ∧ i < n ∧ bad i w ∧ ∀ j < i, ∀ w', ¬ bad j w'
theorem FirstP.uniq {bad : Nat → Str → Prop} {n : Nat} {f g : Flt} (u : ∀ i w w', bad i w → bad i w' → w = w') (h : FirstP bad n f) (k : FirstP bad n g) : f = g := by
  rcases h with ⟨rfl, h⟩ | ⟨i, w, rfl, hi, b, m⟩ <;> rcases k with ⟨rfl, k⟩ | ⟨j, w', rfl, hj, b', m'⟩
  · rfl
  · exact absurd b' (h j hj w')
  · exact absurd b (k i hi w)
  · have e : i = j := by
      rcases Nat.lt_trichotomy i j with z | z | z
      · exact absurd b (m' i z w)
      · exact z
      · exact absurd b' (m j z w')
    subst e
    rw [u i w w' b b']
def replay (hs : List Rec) (os : List Ent) : Rws := os.foldl (fun kvs e => match recOf hs e.nm with
  | some r => (doDeal kvs r.x).2
  | none => kvs) []
theorem replay_snoc {hs : List Rec} {os : List Ent} {e : Ent} {r : Rec} (h : recOf hs e.nm = some r) : replay hs (os ++ [e]) = (doDeal (replay hs os) r.x).2 := by
  unfold replay
  rw [List.foldl_append, List.foldl_cons, List.foldl_nil, h]
theorem fold_ok {hs : List Rec} (g : ∀ r ∈ hs, r.ok) : ∀ (os : List Ent) (kvs : Rws), Rok kvs → Rok (os.foldl (fun kvs e => match recOf hs e.nm with
  | some r => (doDeal kvs r.x).2
  | none => kvs) kvs) ∧ (os.foldl (fun kvs e => match recOf hs e.nm with
  | some r => (doDeal kvs r.x).2
  | none => kvs) kvs).length ≤ kvs.length + 6 * os.length
  | [], kvs, h => ⟨h, by simp⟩
  | e :: os, kvs, h => by
    rw [List.foldl_cons, List.length_cons]
    cases z : recOf hs e.nm with
    | some r =>
      obtain ⟨h1, _, h3⟩ := doDeal_ok h (g r (recOf_mem z).1).x
      obtain ⟨k1, k2⟩ := fold_ok g os _ h1
      exact ⟨k1, by simp only at k2 ⊢; omega⟩
    | none =>
      obtain ⟨k1, k2⟩ := fold_ok g os _ h
      exact ⟨k1, by simp only at k2 ⊢; omega⟩
theorem replay_ok {hs : List Rec} (g : ∀ r ∈ hs, r.ok) (os : List Ent) : Rok (replay hs os) ∧ (replay hs os).length ≤ 6 * os.length := by
  obtain ⟨h1, h2⟩ := fold_ok g os [] Rok.nil
  exact ⟨h1, Nat.le_trans h2 (by simp)⟩
def badName (hs : List Rec) (os : List Ent) (i : Nat) (w : Str) : Prop := ∃ e, os[i]? = some e ∧ ((w = "unknown" ∧ recOf hs e.nm = none) ∨ (w = "twice" ∧ recOf hs e.nm ≠ none ∧ e.nm ∈ (os.take i).map Ent.nm))
def badAns (hs : List Rec) (os : List Ent) (i : Nat) (w : Str) : Prop := ∃ e r, os[i]? = some e ∧ recOf hs e.nm = some r ∧ ((w = "wrong" ∧ (doDeal (replay hs (os.take i)) r.x).1 ≠ e.an) ∨ (w = "other" ∧ (doDeal (replay hs (os.take i)) r.x).1 = e.an ∧ ∃ a, r.an = some a ∧ a ≠ e.an))
def decidedA (a : PyData) : Prop := ∃ ds, a = .tuple (.str "done" :: ds) ∨ a = .tuple (.str "unheld" :: ds)
def badMiss (hs : List Rec) (os : List Ent) (i : Nat) (w : Str) : Prop := w = "missing" ∧ ∃ r a, hs[i]? = some r ∧ r.an = some a ∧ decidedA a ∧ r.nm ∉ os.map Ent.nm
def badLate (hs : List Rec) (os : List Ent) (i : Nat) (w : Str) : Prop := w = "late" ∧ ∃ e r t, os[i]? = some e ∧ recOf hs e.nm = some r ∧ r.sp = some t ∧ ∃ e' r', e' ∈ os.take i ∧ recOf hs e'.nm = some r' ∧ t < r'.st
theorem badName_u {hs : List Rec} {os : List Ent} (i : Nat) (w w' : Str) (h : badName hs os i w) (k : badName hs os i w') : w = w' := by
  obtain ⟨e, h1, h⟩ := h
  obtain ⟨e', h2, k⟩ := k
  rw [h1] at h2
  cases h2
  rcases h with ⟨rfl, h⟩ | ⟨rfl, h, _⟩ <;> rcases k with ⟨rfl, k⟩ | ⟨rfl, k, _⟩
  · rfl
  · exact absurd h k
  · exact absurd k h
  · rfl
theorem badAns_u {hs : List Rec} {os : List Ent} (i : Nat) (w w' : Str) (h : badAns hs os i w) (k : badAns hs os i w') : w = w' := by
  obtain ⟨e, r, h1, h2, h⟩ := h
  obtain ⟨e', r', k1, k2, k⟩ := k
  rw [h1] at k1
  cases k1
  rw [h2] at k2
  cases k2
  rcases h with ⟨rfl, h⟩ | ⟨rfl, h, _⟩ <;> rcases k with ⟨rfl, k⟩ | ⟨rfl, k, _⟩
  · rfl
  · exact absurd k h
  · exact absurd h k
  · rfl
/-- the first fault of all -/
def Fault (hs : List Rec) (os : List Ent) (f : Flt) : Prop := ∃ f1, FirstP (badName hs os) os.length f1 ∧ ((f1 ≠ none ∧ f = f1) ∨ (f1 = none ∧ ∃ f2, FirstP (badAns hs os) os.length f2 ∧ ((f2 ≠ none ∧ f = f2) ∨ (f2 = none ∧
  ∃ f3, FirstP (badMiss hs os) hs.length f3 ∧ ((f3 ≠ none ∧ f = f3) ∨ (f3 = none ∧ FirstP (badLate hs os) os.length f))))))
theorem Fault.uniq {hs : List Rec} {os : List Ent} {f g : Flt} (h : Fault hs os f) (k : Fault hs os g) : f = g := by
  obtain ⟨f1, a1, h⟩ := h
  obtain ⟨g1, b1, k⟩ := k
  have e1 := a1.uniq badName_u b1
  rcases h with ⟨n, rfl⟩ | ⟨rfl, f2, a2, h⟩ <;> rcases k with ⟨m, rfl⟩ | ⟨rfl, g2, b2, k⟩
  · exact e1
  · exact absurd e1 n
  · exact absurd e1.symm m
  · have e2 := a2.uniq badAns_u b2
    rcases h with ⟨n, rfl⟩ | ⟨rfl, f3, a3, h⟩ <;> rcases k with ⟨m, rfl⟩ | ⟨rfl, g3, b3, k⟩
    · exact e2
    · exact absurd e2 n
    · exact absurd e2.symm m
    · have e3 := a3.uniq (fun _ _ _ a b => a.1.trans b.1.symm) b3
      rcases h with ⟨n, rfl⟩ | ⟨rfl, h⟩ <;> rcases k with ⟨m, rfl⟩ | ⟨rfl, k⟩
      · exact e3
      · exact absurd e3 n
      · exact absurd e3.symm m
      · exact h.uniq (fun _ _ _ a b => a.1.trans b.1.symm) k
def Known (hs : List Rec) (os : List Ent) : Prop := ∀ e ∈ os, ∃ r, recOf hs e.nm = some r
theorem known_of {hs : List Rec} {os : List Ent} (h : FirstP (badName hs os) os.length none) : Known hs os := fun e he => by
  rcases h with ⟨_, h⟩ | ⟨i, w, z, _⟩
  · obtain ⟨i, hi, q⟩ := List.mem_iff_getElem.mp he
    cases z : recOf hs e.nm with
    | some r => exact ⟨r, rfl⟩
    | none => exact absurd ⟨e, by rw [List.getElem?_eq_getElem hi, q], .inl ⟨rfl, z⟩⟩ (h i hi "unknown")
  · cases z
section
variable {K : PySem.W.Frag} {H : Hp} {Q : VK} {v x y z : V} {a : Addr} {r : List V}
theorem rec_at {r : Rec} (h : Rp K H v r.d) : ∃ b xv spv anv, v = .ref b ∧ Tq K H b [.int r.c, .int r.n, xv, .int r.st, spv, anv] ∧ Rp K H xv r.x.d ∧ Rp K H spv (optI r.sp) ∧ Rp K H anv (optD r.an) := by
  obtain ⟨b, xs, rfl, t, rx⟩ := (show Rp K H v (.tuple [.int r.c, .int r.n, r.x.d, .int r.st, optI r.sp, optD r.an]) from h).tupL
  cases rx with
  | cons r1 rx => cases rx with
    | cons r2 rx => cases rx with
      | cons r3 rx => cases rx with
        | cons r4 rx => cases rx with
          | cons r5 rx => cases rx with
            | cons r6 rx => cases rx with
              | nil =>
                cases r1.asInt
                cases r2.asInt
                cases r4.asInt
                exact ⟨b, _, _, _, rfl, t, r3, r5, r6⟩
theorem ent_at {e : Ent} (h : Rp K H v e.d) : ∃ b av, v = .ref b ∧ Tq K H b [.int e.c, .int e.n, av] ∧ Rp K H av e.an := by
  obtain ⟨b, x, y, z, rfl, t, r1, r2, r3⟩ := (show Rp K H v (.tuple [.int e.c, .int e.n, e.an]) from h).tup3
  cases r1.asInt
  cases r2.asInt
  exact ⟨b, z, rfl, t, r3⟩
theorem w_sl2 (h : Tq K H a (x :: y :: z :: r)) (q : ∀ p, H p = none → Q (.ref p) (upd H p (.tup [x, y]))) : rSlT K (.ref a) none (some 2) H Q := by
  have e1 : HT.sIx (x :: y :: z :: r).length (x :: y :: z :: r).length (some 2) = 2 := by
    rw [show (2 : Int) = ((2 : Nat) : Int) from rfl, HT.sIx_nat]
    simp only [List.length_cons]
    omega
  refine w_slP h (by rw [e1]; simp) ?_
  have e2 : cutV (x :: y :: z :: r) none (some 2) = [x, y] := by
    unfold cutV
    rw [e1, HT.sIx_none]
    rfl
  rw [e2]
  exact q
theorem rp_nm {H : Hp} {p : Addr} {n : Nm2} (h : H p = some (.tup (nmV n))) : Rp K H (.ref p) (nmD n) := .tup (.inl h) (Rps.p2 (.int _) (.int _))
theorem dg_nm {D p : Addr} {kvs : List (List Key × V)} {n : Nm2} (h : H D = some (.dT kvs)) (k : H p = some (.tup (nmV n))) : DGet H D (.ref p) (valV kvs (nmK n)) := DGet.t h k
theorem dg_nm' {D p : Addr} {kvs : List (List Key × V)} {n : Nm2} (h : H D = some (.dT kvs)) (k : H p = some (.tup (nmV n))) (e : valV kvs (nmK n) = some v) : DGet H D (.ref p) (some v) := e ▸ dg_nm h k
theorem cut_take {xs : List V} {k : Nat} : cutV xs none (some (k : Int)) = xs.take k := by
  unfold cutV
  rw [HT.sIx_nat, HT.sIx_none, List.drop_zero, Nat.sub_zero]
  by_cases h : k ≤ xs.length
  · rw [Nat.min_eq_left h]
  · rw [Nat.min_eq_right (by omega), List.take_length, List.take_of_length_le (by omega)]
theorem cut_drop {xs : List V} {k : Nat} : cutV xs (some (k : Int)) none = xs.drop k := by
  unfold cutV
  rw [HT.sIx_nat, HT.sIx_none]
  by_cases h : k ≤ xs.length
  · rw [Nat.min_eq_left h, List.take_of_length_le (by rw [List.length_drop]; omega)]
  · rw [Nat.min_eq_right (by omega), List.drop_of_length_le (Nat.le_refl _), List.drop_of_length_le (by omega), List.take_nil]
theorem w_takeL {l : Addr} {xs : List V} {k : Nat} (h : SqL K H l xs) (q : ∀ p, H p = none → Q (.ref p) (upd H p (.lst (xs.take k)))) : rSlL K (.ref l) none (some (k : Int)) H Q := w_slL h (by rw [cut_take]; exact q)
theorem w_dropL {l : Addr} {xs : List V} {k : Nat} (h : SqL K H l xs) (q : ∀ p, H p = none → Q (.ref p) (upd H p (.lst (xs.drop k)))) : rSlL K (.ref l) (some (k : Int)) none H Q := w_slL h (by rw [cut_drop]; exact q)
def spRecord (K : PySem.W.Frag) : Sp := fun vs H Q _ => ∃ (hl : Addr) (nv : V) (rs : List Rec) (nm : Nm2), vs = [.ref hl, nv] ∧ LsAt K H hl (rs.map Rec.d) ∧ Rp K H nv (nmD nm) ∧ rs.length ≤ 1000 ∧ ∀ v H', Same H H' → ((recOf rs nm = none ∧ v = .non) ∨ ∃ r, recOf rs nm = some r ∧ Rp K H' v r.d) → Q v H'
/-- data at a place of a list -/
theorem LsAt.at {β : Type} {enc : β → PyData} {l : Addr} {bs : List β} {i : Nat} {b : β} (h : LsAt K H l (bs.map enc)) (hb : bs[i]? = some b) : ∃ vs v, H l = some (.lst vs) ∧ atI vs (i : Int) = some v ∧ Rp K H v (enc b) := by
  obtain ⟨vs, e, r⟩ := h
  obtain ⟨v, hv, rv⟩ := Paired.getR (rps_paired r) hb
  exact ⟨vs, v, e, atI_nat hv, rv⟩
theorem w_sl5 {b0 b1 b2 b3 b4 b5 : V} (h : Tq K H a [b0, b1, b2, b3, b4, b5]) (q : ∀ p, H p = none → Q (.ref p) (upd H p (.tup [b0, b1, b2, b3, b4]))) : rSlT K (.ref a) none (some 5) H Q := w_slP h (by show ¬ ((0 : Nat) = 0 ∧ (5 : Nat) = 6); decide) q
theorem w_sl4 {b0 b1 b2 b3 b4 b5 : V} (h : Tq K H a [b0, b1, b2, b3, b4, b5]) (q : ∀ p, H p = none → Q (.ref p) (upd H p (.tup [b0, b1, b2, b3]))) : rSlT K (.ref a) none (some 4) H Q := w_slP h (by show ¬ ((0 : Nat) = 0 ∧ (4 : Nat) = 6); decide) q
/-- good entries -/
def EL (K : PySem.W.Frag) (H : Hp) (vs : List V) : Prop := ∃ os : List Ent, Rps K H vs (os.map Ent.d) ∧ ∀ e ∈ os, AnsOk e.an
theorem EL.to {vs : List V} {H' : Hp} (h : EL K H vs) (p : Px H H') : EL K H' vs := let ⟨os, r, o⟩ := h; ⟨os, r.to p, o⟩
theorem EL.app {vs ws : List V} (h : EL K H vs) (k : EL K H ws) : EL K H (vs ++ ws) := by
  obtain ⟨os, r, o⟩ := h
  obtain ⟨ps, s, p⟩ := k
  refine ⟨os ++ ps, by rw [List.map_append]; exact r.append s, fun e he => ?_⟩
  rcases List.mem_append.mp he with m | m
  · exact o e m
  · exact p e m
theorem EL.cut {vs : List V} (h : EL K H vs) (lo hi : Option Int) : EL K H (cutV vs lo hi) := by
  obtain ⟨os, r, o⟩ := h
  refine ⟨(os.drop (HT.sIx vs.length 0 lo)).take (HT.sIx vs.length vs.length hi - HT.sIx vs.length 0 lo), ?_, fun e he => o e (List.mem_of_mem_drop (List.mem_of_mem_take he))⟩
  rw [List.map_take, List.map_drop]
  exact (r.drop _).take _
theorem EL.one {e : Ent} (h : Rp K H v e.d) (o : AnsOk e.an) : EL K H [v] := ⟨[e], Rps.p1 h, fun f hf => by rw [List.mem_singleton.mp hf]; exact o⟩
theorem EL.good {l : Addr} {vs : List V} (h : EL K H vs) (e : H l = some (.lst vs)) (few : vs.length ≤ 1000) : ∃ os, LsAt K H l (os.map Ent.d) ∧ GoodO os := by
  obtain ⟨os, r, o⟩ := h
  refine ⟨os, ⟨vs, e, r⟩, o, ?_⟩
  have := r.length
  rw [List.length_map] at this
  omega
theorem ansOk_of {w : Str} {ds : List PyData} (h : PyData.strOk w = true) (k : ∀ d ∈ ds, Shp 1 d) : AnsOk (.tuple (.str w :: ds)) := ⟨w, ds, rfl, .tup fun d hd => by
  rcases List.mem_cons.mp hd with e | e
  · rw [e]; exact .str h
  · exact k d e⟩
theorem at_heap {R : Hp → Prop} {H H' : Hp} (e : H = H') (q : R H') : R H := e ▸ q
theorem rps_map {β γ : Type} {f : γ → PyData} {g : β → γ} {vs : List V} {bs : List β} (h : Rps K H vs (bs.map fun b => f (g b))) : Rps K H vs ((bs.map g).map f) := by
  rw [List.map_map]
  exact h
end
/-- a fault's promise -/
def spF (K : PySem.W.Frag) (bad : List Rec → List Ent → Nat → Str → Prop) (n : List Rec → List Ent → Nat) (pre : List Rec → List Ent → Prop) : Sp := fun vs H Q _ => ∃ (hl ol : Addr) (hs : List Rec) (os : List Ent), vs = [.ref hl, .ref ol] ∧ LsAt K H hl (hs.map Rec.d) ∧ LsAt K H ol (os.map Ent.d) ∧ GoodH hs ∧ GoodO os ∧ pre hs os ∧
  ∀ f v H', Same H H' → FirstP (bad hs os) (n hs os) f → Rp K H' v (fD f) → Q v H'
def spFault (K : PySem.W.Frag) : Sp := fun vs H Q _ => ∃ (hl ol : Addr) (hs : List Rec) (os : List Ent), vs = [.ref hl, .ref ol] ∧ LsAt K H hl (hs.map Rec.d) ∧ LsAt K H ol (os.map Ent.d) ∧ GoodH hs ∧ GoodO os ∧
  ∀ f v H', Same H H' → Fault hs os f → Rp K H' v (fD f) → Q v H'
end Kt
set_option Elab.async false
set_option linter.all false
set_option maxRecDepth 100000
set_option maxHeartbeats 4000000
/-! Kj: how a true history grows. -/
namespace Kt
open PySem PySem.Spec PyProof.Rows L2
structure Call where
  c : Int
  n : Int
  x : Deal
  f : Option PyData
def Call.nm (k : Call) : Nm2 := (k.c, k.n)
def num (ns : List Int) (c : Int) : Int := ns.getD c.toNat 0
def Told (os : List Ent) (p : Nm2) (a : PyData) : Prop := (∃ e ∈ os, e.nm = p ∧ e.an = a) ∨ (p ∉ os.map Ent.nm ∧ ¬ decidedA a)
structure HInv (hs : List Rec) (os : List Ent) (kvs : Rws) (cs : List Call) (ns : List Int) (ev : Int) : Prop where
  ok : ∀ r ∈ hs, r.ok
  nd : (hs.map Rec.nm).Nodup
  nn : ∀ r ∈ hs, 0 ≤ r.c ∧ r.c < 4 ∧ r.n ≤ num ns r.c
  kn : Known hs os
  run : ∀ (i : Nat) (e : Ent) (r : Rec), os[i]? = some e → recOf hs e.nm = some r → (doDeal (replay hs (os.take i)) r.x).1 = e.an
  rep : replay hs os = kvs
  ond : (os.map Ent.nm).Nodup
  cnd : (cs.map Call.c).Nodup
  cl : ∀ k ∈ cs, 0 ≤ k.c ∧ k.c < 4 ∧ k.x.ok ∧ ∃ r ∈ hs, r.nm = k.nm ∧ r.x = k.x ∧ r.sp = none ∧ r.an = none
  cf : ∀ k ∈ cs, (k.f = none → k.nm ∉ os.map Ent.nm) ∧ ∀ a, k.f = some a → AnsOk a ∧ Told os k.nm a
  rc : ∀ r ∈ hs, (r.sp = none ∧ r.an = none ∧ ∃ k ∈ cs, k.nm = r.nm) ∨ (∃ t a, r.sp = some t ∧ r.an = some a ∧ t < ev ∧ Told os r.nm a)
  stt : ∀ r ∈ hs, r.st < ev
  late : ∀ (i j : Nat) (ei ej : Ent) (ri rj : Rec) (t : Int), j < i → os[i]? = some ei → os[j]? = some ej → recOf hs ei.nm = some ri → recOf hs ej.nm = some rj → ri.sp = some t → rj.st ≤ t
  ev0 : 0 ≤ ev
  eo : ∀ e ∈ os, AnsOk e.an
  lh : (hs.length : Int) ≤ ev
  ln : ns.length = 4
theorem len_sub {α : Type} [DecidableEq α] : ∀ {xs ys : List α}, xs.Nodup → (∀ x ∈ xs, x ∈ ys) → xs.length ≤ ys.length
  | [], _, _, _ => Nat.zero_le _
  | x :: xs, ys, nd, h => by
    simp only [List.nodup_cons] at nd
    have hx := h x (by simp)
    have e := List.length_erase_of_mem hx
    have := len_sub (ys := ys.erase x) nd.2 fun y hy => by
      have : y ≠ x := by
        rintro rfl
        exact nd.1 hy
      exact (List.mem_erase_of_ne this).mpr (h y (by simp [hy]))
    have : 0 < ys.length := List.length_pos_of_mem hx
    simp only [List.length_cons]
    omega
theorem HInv.lo {hs : List Rec} {os : List Ent} {kvs : Rws} {cs : List Call} {ns : List Int} {ev : Int} (h : HInv hs os kvs cs ns ev) : os.length ≤ hs.length := by
  have := len_sub (xs := os.map Ent.nm) (ys := hs.map Rec.nm) h.ond fun p hp => by
    obtain ⟨e, he, rfl⟩ := List.mem_map.mp hp
    obtain ⟨r, hr⟩ := h.kn e he
    obtain ⟨h1, h2⟩ := recOf_mem hr
    exact List.mem_map.mpr ⟨r, h1, h2⟩
  simpa using this
theorem HInv.gh {hs : List Rec} {os : List Ent} {kvs : Rws} {cs : List Call} {ns : List Int} {ev : Int} (h : HInv hs os kvs cs ns ev) (l : ev ≤ 100) : GoodH hs := ⟨h.ok, h.nd, by have := h.lh; omega⟩
theorem HInv.go {hs : List Rec} {os : List Ent} {kvs : Rws} {cs : List Call} {ns : List Int} {ev : Int} (h : HInv hs os kvs cs ns ev) (l : ev ≤ 100) : GoodO os := ⟨h.eo, by have := h.lh; have := h.lo; omega⟩
theorem told_in {os : List Ent} (ond : (os.map Ent.nm).Nodup) {p : Nm2} {a : PyData} {e : Ent} (h : Told os p a) (he : e ∈ os) (hp : e.nm = p) : e.an = a := by
  rcases h with ⟨e', h1, h2, h3⟩ | ⟨h1, _⟩
  · rw [← h3]
    have : e = e' := nodup_inj ond he h1 (hp.trans h2.symm)
    rw [this]
  · exact absurd (List.mem_map.mpr ⟨e, he, hp⟩) h1
theorem HInv.fault {hs : List Rec} {os : List Ent} {kvs : Rws} {cs : List Call} {ns : List Int} {ev : Int} (h : HInv hs os kvs cs ns ev) {f : Flt} (F : Fault hs os f) : f = none := by
  have g : Fault hs os none := by
    refine ⟨none, .inl ⟨rfl, ?_⟩, .inr ⟨rfl, none, .inl ⟨rfl, ?_⟩, .inr ⟨rfl, none, .inl ⟨rfl, ?_⟩, .inr ⟨rfl, .inl ⟨rfl, ?_⟩⟩⟩⟩⟩
    · rintro i hi w ⟨e, he, ⟨_, z⟩ | ⟨_, _, z⟩⟩
      · obtain ⟨r, hr⟩ := h.kn e (List.mem_of_getElem? he)
        rw [z] at hr
        cases hr
      · exact nd_take h.ond he z
    · rintro i hi w ⟨e, r, he, hr, ⟨_, z⟩ | ⟨_, _, a, ha, z⟩⟩
      · exact z (h.run i e r he hr)
      · obtain ⟨h1, h2⟩ := recOf_mem hr
        rcases h.rc r h1 with ⟨_, q, _⟩ | ⟨t, a', _, q, _, td⟩
        · rw [q] at ha; cases ha
        · rw [q] at ha
          cases ha
          exact z (told_in h.ond td (List.mem_of_getElem? he) h2.symm).symm
    · rintro i hi w ⟨_, r, a, hr, ha, hd, z⟩
      rcases h.rc r (List.mem_of_getElem? hr) with ⟨_, q, _⟩ | ⟨t, a', _, q, _, td⟩
      · rw [q] at ha; cases ha
      · rw [q] at ha
        cases ha
        rcases td with ⟨e, h1, h2, _⟩ | ⟨_, n⟩
        · exact z (List.mem_map.mpr ⟨e, h1, h2⟩)
        · exact n hd
    · rintro i hi w ⟨_, e, r, t, he, hr, hs', e', r', h1, h2, h3⟩
      obtain ⟨j, hj, e2⟩ := List.mem_iff_getElem.mp h1
      rw [List.length_take] at hj
      rw [List.getElem_take] at e2
      have := h.late i j e e' r r' t (by omega) he (by rw [List.getElem?_eq_getElem (by omega), e2]) hr h2 hs'
      omega
  exact F.uniq g
/-- the start -/
theorem HInv.start : HInv [] [] [] [] [0, 0, 0, 0] 0 := ⟨by simp, by simp, by simp, fun e he => by simp at he, fun i e r h => by simp at h, rfl, by simp, by simp, by simp, by simp, by simp, by simp, fun i j ei ej ri rj t _ h => by simp at h, by decide, by simp, by simp, rfl⟩
theorem replay_ext {hs hs' : List Rec} {os : List Ent} (h : ∀ e ∈ os, ∃ r r', recOf hs e.nm = some r ∧ recOf hs' e.nm = some r' ∧ r'.x = r.x) : replay hs' os = replay hs os := by
  unfold replay
  generalize ([] : Rws) = kvs
  induction os generalizing kvs with
  | nil => rfl
  | cons e os ih =>
    obtain ⟨r, r', h1, h2, h3⟩ := h e (by simp)
    rw [List.foldl_cons, List.foldl_cons]
    simp only [h1, h2, h3]
    exact ih (fun e' he' => h e' (by simp [he'])) _
section
variable {hs : List Rec} {os : List Ent} {kvs : Rws} {cs : List Call} {ns : List Int} {ev : Int}
theorem num_set {c d n : Int} (h : ns.length = 4) (c0 : 0 ≤ c) (c1 : c < 4) (d0 : 0 ≤ d) : num (ns.set c.toNat n) d = if d = c then n else num ns d := by
  unfold num
  rw [List.getD_eq_getElem?_getD, List.getElem?_set]
  by_cases e : d = c
  · subst e
    rw [if_pos rfl, if_pos rfl, if_pos (by omega)]
    rfl
  · rw [if_neg (by omega), if_neg e, List.getD_eq_getElem?_getD]
/-- a new call -/
theorem HInv.open_ (h : HInv hs os kvs cs ns ev) {c : Int} {x : Deal} (c0 : 0 ≤ c) (c1 : c < 4) (hc : c ∉ cs.map Call.c) (hx : x.ok) :
    HInv (hs ++ [⟨c, num ns c + 1, x, ev, none, none⟩]) os kvs (cs ++ [⟨c, num ns c + 1, x, none⟩]) (ns.set c.toNat (num ns c + 1)) (ev + 1) := by
  have fresh : ((c, num ns c + 1) : Nm2) ∉ hs.map Rec.nm := fun m => by
    obtain ⟨r, hr, e⟩ := List.mem_map.mp m
    have e1 : r.c = c := congrArg Prod.fst e
    have e2 : r.n = num ns c + 1 := congrArg Prod.snd e
    have := (h.nn r hr).2.2
    rw [e1] at this
    omega
  have old : ∀ {p r}, recOf hs p = some r → recOf (hs ++ [⟨c, num ns c + 1, x, ev, none, none⟩]) p = some r := fun {p r} e => by
    rw [recOf_app, e]
    rfl
  have back : ∀ {e r}, e ∈ os → recOf (hs ++ [⟨c, num ns c + 1, x, ev, none, none⟩]) e.nm = some r → recOf hs e.nm = some r := fun {e r} he z => by
    obtain ⟨r', hr'⟩ := h.kn e he
    rw [old hr'] at z
    rw [hr', z]
  have rpx : ∀ os' : List Ent, (∀ e ∈ os', e ∈ os) → replay (hs ++ [⟨c, num ns c + 1, x, ev, none, none⟩]) os' = replay hs os' := fun os' hsub => replay_ext fun e he => by
    obtain ⟨r, hr⟩ := h.kn e (hsub e he)
    exact ⟨r, r, hr, old hr, rfl⟩
  refine ⟨?_, ?_, ?_, ?_, ?_, ?_, h.ond, ?_, ?_, ?_, ?_, ?_, ?_, ?_, h.eo, ?_, ?_⟩
  · intro r hr
    rcases List.mem_append.mp hr with m | m
    · exact h.ok r m
    · rw [List.mem_singleton.mp m]
      exact ⟨hx, nofun, h.ev0, nofun⟩
  · rw [List.map_append]
    refine List.nodup_append.mpr ⟨h.nd, by simp, fun a ha b hb e => ?_⟩
    simp only [List.map_cons, List.map_nil, List.mem_singleton] at hb
    subst hb e
    exact fresh ha
  · intro r hr
    rcases List.mem_append.mp hr with m | m
    · obtain ⟨a, b, d⟩ := h.nn r m
      refine ⟨a, b, ?_⟩
      rw [num_set h.ln c0 c1 a]
      split
      · rename_i e
        rw [e] at d
        omega
      · exact d
    · rw [List.mem_singleton.mp m]
      refine ⟨c0, c1, ?_⟩
      show num ns c + 1 ≤ num _ c
      rw [num_set h.ln c0 c1 c0, if_pos rfl]
      omega
  · intro e he
    obtain ⟨r, hr⟩ := h.kn e he
    exact ⟨r, old hr⟩
  · intro i e r he hr
    rw [rpx _ fun e he => List.mem_of_mem_take he]
    exact h.run i e r he (back (List.mem_of_getElem? he) hr)
  · rw [rpx _ fun e he => he]
    exact h.rep
  · rw [List.map_append]
    refine List.nodup_append.mpr ⟨h.cnd, by simp, fun a ha b hb e => ?_⟩
    simp only [List.map_cons, List.map_nil, List.mem_singleton] at hb
    subst hb e
    exact hc ha
  · intro k hk
    rcases List.mem_append.mp hk with m | m
    · obtain ⟨a, b, d, r, h1, h2⟩ := h.cl k m
      exact ⟨a, b, d, r, List.mem_append_left _ h1, h2⟩
    · rw [List.mem_singleton.mp m]
      exact ⟨c0, c1, hx, _, List.mem_append_right _ (List.mem_singleton.mpr rfl), rfl, rfl, rfl, rfl⟩
  · intro k hk
    rcases List.mem_append.mp hk with m | m
    · exact h.cf k m
    · rw [List.mem_singleton.mp m]
      refine ⟨fun _ z => ?_, nofun⟩
      obtain ⟨e, he, e2⟩ := List.mem_map.mp z
      obtain ⟨r, hr⟩ := h.kn e he
      obtain ⟨h1, h2⟩ := recOf_mem hr
      exact fresh (List.mem_map.mpr ⟨r, h1, h2.trans e2⟩)
  · intro r hr
    rcases List.mem_append.mp hr with m | m
    · rcases h.rc r m with ⟨a, b, k, h1, h2⟩ | ⟨t, a, h1, h2, h3, h4⟩
      · exact .inl ⟨a, b, k, List.mem_append_left _ h1, h2⟩
      · exact .inr ⟨t, a, h1, h2, by omega, h4⟩
    · rw [List.mem_singleton.mp m]
      exact .inl ⟨rfl, rfl, _, List.mem_append_right _ (List.mem_singleton.mpr rfl), rfl⟩
  · intro r hr
    rcases List.mem_append.mp hr with m | m
    · have := h.stt r m
      omega
    · rw [List.mem_singleton.mp m]
      show ev < ev + 1
      omega
  · intro i j ei ej ri rj t hij hi hj h1 h2 h3
    exact h.late i j ei ej ri rj t hij hi hj (back (List.mem_of_getElem? hi) h1) (back (List.mem_of_getElem? hj) h2) h3
  · have := h.ev0
    omega
  · have := h.lh
    rw [List.length_append, List.length_singleton]
    omega
  · rw [List.length_set]
    exact h.ln
/-- a call gets its answer: refused -/
theorem HInv.refuse (h : HInv hs os kvs cs ns ev) {i : Nat} {k : Call} {a : PyData} (hk : cs[i]? = some k) (hf : k.f = none) (ha : AnsOk a) (nd : ¬ decidedA a) : HInv hs os kvs (cs.set i { k with f := some a }) ns ev := by
  have mk := List.mem_of_getElem? hk
  have mem : ∀ q ∈ cs.set i { k with f := some a }, q = { k with f := some a } ∨ q ∈ cs := fun q hq => (List.mem_or_eq_of_mem_set hq).symm
  have hi := (List.getElem?_eq_some_iff.mp hk).1
  have there : ∀ q ∈ cs, ∃ q' ∈ cs.set i { k with f := some a }, q'.nm = q.nm := fun q hq => by
    obtain ⟨j, hj, e⟩ := List.mem_iff_getElem.mp hq
    by_cases z : j = i
    · subst z
      rw [List.getElem?_eq_getElem hj, e] at hk
      cases hk
      exact ⟨_, List.mem_set hi _, rfl⟩
    · exact ⟨q, List.mem_iff_getElem.mpr ⟨j, by simpa using hj, by rw [List.getElem_set_ne (Ne.symm z)]; exact e⟩, rfl⟩
  have mc : (cs.set i { k with f := some a }).map Call.c = cs.map Call.c := by
    rw [List.map_set]
    refine List.ext_getElem? fun j => ?_
    rw [List.getElem?_set]
    split
    · rename_i e
      subst e
      rw [List.getElem?_map, hk]
      simp [hi]
    · rfl
  refine ⟨h.ok, h.nd, h.nn, h.kn, h.run, h.rep, h.ond, by rw [mc]; exact h.cnd, ?_, ?_, ?_, h.stt, h.late, h.ev0, h.eo, h.lh, h.ln⟩
  · intro q hq
    rcases mem q hq with e | e
    · rw [e]; exact h.cl k mk
    · exact h.cl q e
  · intro q hq
    rcases mem q hq with e | e
    · rw [e]
      refine ⟨nofun, fun b hb => ?_⟩
      cases hb
      exact ⟨ha, .inr ⟨(h.cf k mk).1 hf, nd⟩⟩
    · exact h.cf q e
  · intro r hr
    rcases h.rc r hr with ⟨b, d, q, h1, h2⟩ | z
    · obtain ⟨q', h3, h4⟩ := there q h1
      exact .inl ⟨b, d, q', h3, h4.trans h2⟩
    · exact .inr z
theorem map_set_c {i : Nat} {k k' : Call} (hk : cs[i]? = some k) (e : k'.c = k.c) : (cs.set i k').map Call.c = cs.map Call.c := by
  rw [List.map_set]
  refine List.ext_getElem? fun j => ?_
  rw [List.getElem?_set]
  split
  · rename_i e2
    subst e2
    rw [List.getElem?_map, hk, e]
    simp [(List.getElem?_eq_some_iff.mp hk).1]
  · rfl
theorem Told.snoc {p : Nm2} {a : PyData} {e : Ent} (h : Told os p a) (n : e.nm ≠ p) : Told (os ++ [e]) p a := by
  rcases h with ⟨e', h1, h2⟩ | ⟨h1, h2⟩
  · exact .inl ⟨e', List.mem_append_left _ h1, h2⟩
  · refine .inr ⟨fun m => ?_, h2⟩
    rw [List.map_append] at m
    rcases List.mem_append.mp m with z | z
    · exact h1 z
    · simp at z
      exact n z.symm
/-- a call is done -/
theorem HInv.answer (h : HInv hs os kvs cs ns ev) {i : Nat} {k : Call} (hk : cs[i]? = some k) (hf : k.f = none) (ao : AnsOk (doDeal kvs k.x).1) :
    HInv hs (os ++ [⟨k.c, k.n, (doDeal kvs k.x).1⟩]) (doDeal kvs k.x).2 (cs.set i { k with f := some (doDeal kvs k.x).1 }) ns ev := by
  have mk := List.mem_of_getElem? hk
  obtain ⟨k0, k1, kx, r0, hr0, nr0, xr0, sr0, ar0⟩ := h.cl k mk
  have rk : recOf hs k.nm = some r0 := by rw [← nr0]; exact recOf_of h.nd hr0
  have new : k.nm ∉ os.map Ent.nm := (h.cf k mk).1 hf
  have mem : ∀ q ∈ cs.set i { k with f := some (doDeal kvs k.x).1 }, q = { k with f := some (doDeal kvs k.x).1 } ∨ (q ∈ cs ∧ q.c ≠ k.c) := fun q hq => by
    obtain ⟨j, hj, e⟩ := List.mem_iff_getElem.mp hq
    by_cases z : j = i
    · subst z
      rw [List.getElem_set_self] at e
      exact .inl e.symm
    · rw [List.getElem_set_ne (Ne.symm z)] at e
      rw [List.length_set] at hj
      refine .inr ⟨List.mem_iff_getElem.mpr ⟨j, hj, e⟩, fun e2 => z ?_⟩
      have h1 : (cs.map Call.c)[j]? = some k.c := by rw [List.getElem?_map, List.getElem?_eq_getElem hj, e, Option.map_some, e2]
      have h2 : (cs.map Call.c)[i]? = some k.c := by rw [List.getElem?_map, hk]; rfl
      exact nd_at h.cnd h1 h2
  have hi := (List.getElem?_eq_some_iff.mp hk).1
  have there : ∀ q ∈ cs, ∃ q' ∈ cs.set i { k with f := some (doDeal kvs k.x).1 }, q'.nm = q.nm := fun q hq => by
    obtain ⟨j, hj, e⟩ := List.mem_iff_getElem.mp hq
    by_cases z : j = i
    · subst z
      rw [List.getElem?_eq_getElem hj, e] at hk
      cases hk
      exact ⟨_, List.mem_set hi _, rfl⟩
    · exact ⟨q, List.mem_iff_getElem.mpr ⟨j, by simpa using hj, by rw [List.getElem_set_ne (Ne.symm z)]; exact e⟩, rfl⟩
  have at_ : ∀ {j : Nat} {e : Ent}, (os ++ [(⟨k.c, k.n, (doDeal kvs k.x).1⟩ : Ent)])[j]? = some e → os[j]? = some e ∨ (j = os.length ∧ e = ⟨k.c, k.n, (doDeal kvs k.x).1⟩) := fun {j e} he => by
    rw [List.getElem?_append] at he
    split at he
    · exact .inl he
    · rename_i z
      have : j - os.length = 0 := by
        have := (List.getElem?_eq_some_iff.mp he).1
        simp at this
        omega
      rw [this] at he
      simp at he
      exact .inr ⟨by omega, he.symm⟩
  have tk : ∀ {j : Nat}, j ≤ os.length → (os ++ [(⟨k.c, k.n, (doDeal kvs k.x).1⟩ : Ent)]).take j = os.take j := fun {j} hj => List.take_append_of_le_length hj
  have rep := h.rep
  refine ⟨h.ok, h.nd, h.nn, ?_, ?_, ?_, ?_, by rw [map_set_c (k' := { k with f := some (doDeal kvs k.x).1 }) hk rfl]; exact h.cnd, ?_, ?_, ?_, h.stt, ?_, h.ev0, ?_, h.lh, h.ln⟩
  · intro e he
    rcases List.mem_append.mp he with m | m
    · exact h.kn e m
    · rw [List.mem_singleton.mp m]
      exact ⟨r0, rk⟩
  · intro j e r he hr
    rcases at_ he with z | ⟨z, z2⟩
    · rw [tk (Nat.le_of_lt (List.getElem?_eq_some_iff.mp z).1)]
      exact h.run j e r z hr
    · subst z z2
      rw [tk (Nat.le_refl _), List.take_length, rep]
      rw [show recOf hs (Ent.nm ⟨k.c, k.n, (doDeal kvs k.x).1⟩) = some r0 from rk] at hr
      cases hr
      rw [xr0]
  · rw [replay_snoc (r := r0) rk, rep, xr0]
  · rw [List.map_append]
    refine List.nodup_append.mpr ⟨h.ond, by simp, fun a ha b hb e => ?_⟩
    simp only [List.map_cons, List.map_nil, List.mem_singleton] at hb
    subst hb e
    exact new ha
  · intro q hq
    rcases mem q hq with e | ⟨e, _⟩
    · rw [e]; exact h.cl k mk
    · exact h.cl q e
  · intro q hq
    rcases mem q hq with e | ⟨e, ne⟩
    · rw [e]
      refine ⟨nofun, fun b hb => ?_⟩
      cases hb
      exact ⟨ao, .inl ⟨_, List.mem_append_right _ (List.mem_singleton.mpr rfl), rfl, rfl⟩⟩
    · have nq : Ent.nm ⟨k.c, k.n, (doDeal kvs k.x).1⟩ ≠ q.nm := fun z => ne (congrArg Prod.fst z).symm
      refine ⟨fun hn m => ?_, fun a ha => ?_⟩
      · rw [List.map_append] at m
        rcases List.mem_append.mp m with z | z
        · exact (h.cf q e).1 hn z
        · simp at z
          exact nq z.symm
      · obtain ⟨b1, b2⟩ := (h.cf q e).2 a ha
        exact ⟨b1, b2.snoc nq⟩
  · intro r hr
    rcases h.rc r hr with ⟨b, d, q, h1, h2⟩ | ⟨t, a, h1, h2, h3, h4⟩
    · obtain ⟨q', h3, h4⟩ := there q h1
      exact .inl ⟨b, d, q', h3, h4.trans h2⟩
    · refine .inr ⟨t, a, h1, h2, h3, h4.snoc fun z => ?_⟩
      have e : r = r0 := nodup_inj h.nd hr hr0 (z.symm.trans nr0.symm)
      rw [e, sr0] at h1
      cases h1
  · intro i' j ei ej ri rj t hij hi' hj h1 h2 h3
    rcases at_ hi' with z | ⟨z, z2⟩
    · rcases at_ hj with y | ⟨y, _⟩
      · exact h.late i' j ei ej ri rj t hij z y h1 h2 h3
      · have := (List.getElem?_eq_some_iff.mp z).1
        omega
    · subst z2
      rw [show recOf hs (Ent.nm ⟨k.c, k.n, (doDeal kvs k.x).1⟩) = some r0 from rk] at h1
      cases h1
      rw [sr0] at h3
      cases h3
  · intro e he
    rcases List.mem_append.mp he with m | m
    · exact h.eo e m
    · rw [List.mem_singleton.mp m]
      exact ao
def closeR (p : Nm2) (t : Int) (f : Option PyData) (r : Rec) : Rec := if r.nm = p then { r with sp := some t, an := f } else r
theorem closeR_nm (p : Nm2) (t : Int) (f : Option PyData) (r : Rec) : (closeR p t f r).nm = r.nm := by
  unfold closeR
  split <;> rfl
theorem closeR_x (p : Nm2) (t : Int) (f : Option PyData) (r : Rec) : (closeR p t f r).x = r.x := by
  unfold closeR
  split <;> rfl
theorem closeR_st (p : Nm2) (t : Int) (f : Option PyData) (r : Rec) : (closeR p t f r).st = r.st := by
  unfold closeR
  split <;> rfl
theorem recOf_close (p q : Nm2) (t : Int) (f : Option PyData) : ∀ hs : List Rec, recOf (hs.map (closeR p t f)) q = (recOf hs q).map (closeR p t f)
  | [] => rfl
  | r :: hs => by
    unfold recOf
    rw [List.map_cons, List.find?_cons, List.find?_cons, closeR_nm]
    by_cases e : r.nm = q
    · simp [e]
    · simp only [e, decide_false]
      exact recOf_close p q t f hs
/-- a call is answered -/
theorem HInv.close (h : HInv hs os kvs cs ns ev) {k : Call} {a : PyData} (mk : k ∈ cs) (hf : k.f = some a) : HInv (hs.map (closeR k.nm ev (some a))) os kvs (cs.filter fun q => decide (q.c ≠ k.c)) ns (ev + 1) := by
  obtain ⟨k0, k1, kx, r0, hr0, nr0, xr0, sr0, ar0⟩ := h.cl k mk
  obtain ⟨ao, td⟩ := (h.cf k mk).2 a hf
  have recb : ∀ {p r'}, recOf (hs.map (closeR k.nm ev (some a))) p = some r' → ∃ r, recOf hs p = some r ∧ r' = closeR k.nm ev (some a) r := fun {p r'} e => by
    rw [recOf_close] at e
    obtain ⟨r, h1, h2⟩ := Option.map_eq_some_iff.mp e
    exact ⟨r, h1, h2.symm⟩
  have rpx : ∀ os' : List Ent, (∀ e ∈ os', e ∈ os) → replay (hs.map (closeR k.nm ev (some a))) os' = replay hs os' := fun os' hsub => replay_ext fun e he => by
    obtain ⟨r, hr⟩ := h.kn e (hsub e he)
    exact ⟨r, _, hr, by rw [recOf_close, hr]; rfl, closeR_x _ _ _ _⟩
  have nms : (hs.map (closeR k.nm ev (some a))).map Rec.nm = hs.map Rec.nm := by
    rw [List.map_map]
    exact List.map_congr_left fun r _ => closeR_nm _ _ _ r
  refine ⟨?_, by rw [nms]; exact h.nd, ?_, ?_, ?_, ?_, h.ond, ?_, ?_, ?_, ?_, ?_, ?_, ?_, h.eo, ?_, h.ln⟩
  · intro r hr
    obtain ⟨q, hq, rfl⟩ := List.mem_map.mp hr
    have o := h.ok q hq
    unfold closeR
    split
    · exact ⟨o.x, fun b hb => by cases hb; exact ao, o.st, fun t ht => by cases ht; exact h.ev0⟩
    · exact o
  · intro r hr
    obtain ⟨q, hq, rfl⟩ := List.mem_map.mp hr
    have e := closeR_nm k.nm ev (some a) q
    have e1 : (closeR k.nm ev (some a) q).c = q.c := congrArg Prod.fst e
    have e2 : (closeR k.nm ev (some a) q).n = q.n := congrArg Prod.snd e
    rw [e1, e2]
    exact h.nn q hq
  · intro e he
    obtain ⟨r, hr⟩ := h.kn e he
    exact ⟨_, by rw [recOf_close, hr]; rfl⟩
  · intro i e r' he hr
    obtain ⟨r, h1, rfl⟩ := recb hr
    rw [rpx _ fun e he => List.mem_of_mem_take he, closeR_x]
    exact h.run i e r he h1
  · rw [rpx _ fun e he => he]
    exact h.rep
  · exact List.Sublist.nodup (List.Sublist.map _ List.filter_sublist) h.cnd
  · intro q hq
    obtain ⟨m, ne⟩ := List.mem_filter.mp hq
    have ne := of_decide_eq_true ne
    obtain ⟨b0, b1, b2, r, h1, h2, h3, h4, h5⟩ := h.cl q m
    refine ⟨b0, b1, b2, r, List.mem_map.mpr ⟨r, h1, ?_⟩, h2, h3, h4, h5⟩
    unfold closeR
    rw [if_neg]
    intro z
    exact ne (congrArg Prod.fst (h2.symm.trans z))
  · intro q hq
    exact h.cf q (List.mem_filter.mp hq).1
  · intro r hr
    obtain ⟨q, hq, rfl⟩ := List.mem_map.mp hr
    by_cases z : q.nm = k.nm
    · have e : closeR k.nm ev (some a) q = { q with sp := some ev, an := some a } := if_pos z
      rw [e]
      refine .inr ⟨ev, a, rfl, rfl, by omega, ?_⟩
      rw [show Rec.nm { q with sp := some ev, an := some a } = k.nm from z]
      exact td
    · have e : closeR k.nm ev (some a) q = q := if_neg z
      rw [e]
      rcases h.rc q hq with ⟨b, d, k', h1, h2⟩ | ⟨t, a', h1, h2, h3, h4⟩
      · refine .inl ⟨b, d, k', List.mem_filter.mpr ⟨h1, decide_eq_true fun z2 => z ?_⟩, h2⟩
        rw [nodup_inj h.cnd h1 mk z2] at h2
        exact h2.symm
      · exact .inr ⟨t, a', h1, h2, by omega, h4⟩
  · intro r hr
    obtain ⟨q, hq, rfl⟩ := List.mem_map.mp hr
    rw [closeR_st]
    have := h.stt q hq
    omega
  · intro i j ei ej ri rj t hij hi hj h1 h2 h3
    obtain ⟨r1, g1, rfl⟩ := recb h1
    obtain ⟨r2, g2, rfl⟩ := recb h2
    rw [closeR_st]
    by_cases z : r1.nm = k.nm
    · rw [show closeR k.nm ev (some a) r1 = { r1 with sp := some ev, an := some a } from if_pos z] at h3
      cases h3
      have := h.stt r2 (recOf_mem g2).1
      omega
    · rw [show closeR k.nm ev (some a) r1 = r1 from if_neg z] at h3
      exact h.late i j ei ej r1 r2 t hij hi hj g1 g2 h3
  · have := h.ev0
    omega
  · have := h.lh
    rw [List.length_map]
    omega
end
def CallAt (K : PySem.W.Frag) (H : Hp) (p : Addr) (k : Call) : Prop := ∃ xv fv, H p = some (.lst [.int k.c, .int k.n, xv, fv]) ∧ Rp K H xv k.x.d ∧ Rp K H fv (optD k.f)
theorem CallAt.ch {K : PySem.W.Frag} {H H' : Hp} {S : List Addr} {p : Addr} {k : Call} (h : CallAt K H p k) (c : Ch S H H') (n : p ∉ S) : CallAt K H' p k :=
  let ⟨xv, fv, h1, h2, h3⟩ := h
  ⟨xv, fv, c.2 _ _ h1 n, h2.to c.px, h3.to c.px⟩
theorem CallAt.same {K : PySem.W.Frag} {H H' : Hp} {p : Addr} {k : Call} (h : CallAt K H p k) (s : Same H H') : CallAt K H' p k := h.ch (S := []) (Same.ch s) (by simp)
theorem nd_word {w : Str} {ds : List PyData} (h1 : w ≠ "done") (h2 : w ≠ "unheld") : ¬ decidedA (.tuple (.str w :: ds)) := by
  rintro ⟨es, h | h⟩
  · simp only [PyData.tuple.injEq, List.cons.injEq, PyData.str.injEq] at h
    exact h1 h.1
  · simp only [PyData.tuple.injEq, List.cons.injEq, PyData.str.injEq] at h
    exact h2 h.1
/-- the heap of a growing history: pk the open calls, by their places -/
structure HSt (K : PySem.W.Frag) (H0 H : Hp) (r ol hl cl nl : Addr) (pk : List (Addr × Call)) (hs : List Rec) (os : List Ent) (kvs : Rws) (ns : List Int) (ev : Int) : Prop where
  s : Same H0 H
  nd : (r :: ol :: hl :: cl :: nl :: pk.map Prod.fst).Nodup
  new : ∀ d ∈ r :: ol :: hl :: cl :: nl :: pk.map Prod.fst, H0 d = none
  r : H r = some (.dK kvs)
  o : LsAt K H ol (os.map Ent.d)
  h : LsAt K H hl (hs.map Rec.d)
  n : H nl = some (.lst (ns.map V.int))
  c : H cl = some (.lst (pk.map fun d => V.ref d.1))
  k : ∀ d ∈ pk, CallAt K H d.1 d.2
  i : HInv hs os kvs (pk.map Prod.snd) ns ev
section
variable {K : PySem.W.Frag} {H0 H H' : Hp} {r ol hl cl nl : Addr} {pk : List (Addr × Call)} {hs : List Rec} {os : List Ent} {kvs : Rws} {ns : List Int} {ev : Int}
theorem HSt.same (h : HSt K H0 H r ol hl cl nl pk hs os kvs ns ev) (s : Same H H') : HSt K H0 H' r ol hl cl nl pk hs os kvs ns ev :=
  ⟨h.s.trans s, h.nd, h.new, s _ _ h.r, h.o.same s, h.h.same s, s _ _ h.n, s _ _ h.c, fun d hd => (h.k d hd).same s, h.i⟩
theorem HSt.ex (h : HSt K H0 H r ol hl cl nl pk hs os kvs ns ev) : ∀ d ∈ r :: ol :: hl :: cl :: nl :: pk.map Prod.fst, ∃ o, H d = some o := fun d hd => by
  simp only [List.mem_cons] at hd
  rcases hd with e | e | e | e | e | e
  · exact ⟨_, e ▸ h.r⟩
  · obtain ⟨_, q⟩ := h.o.ex
    exact ⟨_, e ▸ q⟩
  · obtain ⟨_, q⟩ := h.h.ex
    exact ⟨_, e ▸ q⟩
  · exact ⟨_, e ▸ h.c⟩
  · exact ⟨_, e ▸ h.n⟩
  · obtain ⟨q, hq, rfl⟩ := List.mem_map.mp e
    obtain ⟨_, _, z, _⟩ := h.k q hq
    exact ⟨_, z⟩
theorem HSt.fresh (h : HSt K H0 H r ol hl cl nl pk hs os kvs ns ev) {p : Addr} (hp : H p = none) : p ∉ r :: ol :: hl :: cl :: nl :: pk.map Prod.fst := fun m => by
  obtain ⟨o, e⟩ := h.ex p m
  rw [hp] at e
  cases e
theorem HSt.ch1 {bx : Addr} (h : HSt K H0 H r ol hl cl nl pk hs os kvs ns ev) (c : Ch [bx] H H') (hb : bx ∉ r :: ol :: hl :: cl :: nl :: pk.map Prod.fst) (b0 : H0 bx = none) : HSt K H0 H' r ol hl cl nl pk hs os kvs ns ev := by
  have ne : ∀ d ∈ r :: ol :: hl :: cl :: nl :: pk.map Prod.fst, d ∉ [bx] := fun d hd e => hb ((List.mem_singleton.mp e) ▸ hd)
  refine ⟨fun q o e => c.2 _ _ (h.s _ _ e) (by simpa using ne_of_none e b0), h.nd, h.new, c.2 _ _ h.r (ne _ (by simp)), h.o.ch c (ne _ (by simp)), h.h.ch c (ne _ (by simp)), c.2 _ _ h.n (ne _ (by simp)), c.2 _ _ h.c (ne _ (by simp)), fun d hd => (h.k d hd).ch c (ne _ ?_), h.i⟩
  simp only [List.mem_cons]
  exact .inr (.inr (.inr (.inr (.inr (List.mem_map.mpr ⟨d, hd, rfl⟩)))))
/-- a call's fourth place is written; r, ol may have changed before -/
theorem HSt.fate {H2 : Hp} {bx : Addr} {j : Nat} {p : Addr} {k : Call} {xv fv v : V} {a : PyData} {os' : List Ent} {kvs' : Rws} (h : HSt K H0 H r ol hl cl nl pk hs os kvs ns ev) (hj : pk[j]? = some (p, k)) (hb : bx ∉ r :: ol :: hl :: cl :: nl :: pk.map Prod.fst)
    (hx : H p = some (.lst [.int k.c, .int k.n, xv, fv])) (c2 : Ch [bx, r, ol] H H2) (b0 : H0 bx = none) (hr2 : H2 r = some (.dK kvs')) (ho2 : LsAt K H2 ol (os'.map Ent.d)) (hv : Rp K H2 v a) (inv : HInv hs os' kvs' ((pk.map Prod.snd).set j { k with f := some a }) ns ev) :
    HSt K H0 (upd H2 p (.lst [.int k.c, .int k.n, xv, v])) r ol hl cl nl (pk.set j (p, { k with f := some a })) hs os' kvs' ns ev := by
  have mp : (p, k) ∈ pk := List.mem_of_getElem? hj
  have mp1 : p ∈ pk.map Prod.fst := List.mem_map.mpr ⟨_, mp, rfl⟩
  have nd := h.nd
  have hj2 := (List.getElem?_eq_some_iff.mp hj).1
  have fsts : (pk.set j (p, { k with f := some a })).map Prod.fst = pk.map Prod.fst := by
    rw [List.map_set]
    refine List.ext_getElem? fun m => ?_
    rw [List.getElem?_set]
    split
    · rename_i e
      subst e
      rw [List.getElem?_map, hj]
      simp [hj2]
    · rfl
  have snds : (pk.set j (p, { k with f := some a })).map Prod.snd = (pk.map Prod.snd).set j { k with f := some a } := List.map_set
  have refs : (pk.set j (p, { k with f := some a })).map (fun d => V.ref d.1) = pk.map fun d => V.ref d.1 := by
    have e : ∀ l : List (Addr × Call), l.map (fun d => V.ref d.1) = (l.map Prod.fst).map V.ref := fun l => by rw [List.map_map]; rfl
    rw [e, e, fsts]
  simp only [List.nodup_cons, List.mem_cons, not_or] at nd hb
  obtain ⟨⟨r1, r2, r3, r4, r5⟩, ⟨o1, o2, o3, o4⟩, ⟨h1, h2, h3⟩, ⟨c1, c3⟩, n1, pn⟩ := nd
  obtain ⟨b1, b2, b3, b4, b5, b6⟩ := hb
  have np : ∀ q, q ∉ pk.map Prod.fst → q ≠ p := fun q hq e => hq (e ▸ mp1)
  have hp2 : H2 p = some (.lst [.int k.c, .int k.n, xv, fv]) := c2.2 _ _ hx (by
    simp only [List.mem_cons, List.not_mem_nil, or_false, not_or]
    exact ⟨fun e => b6 (e ▸ mp1), fun e => r5 (e ▸ mp1), fun e => o4 (e ▸ mp1)⟩)
  have px := Px.upd (o := .lst [.int k.c, .int k.n, xv, v]) hp2 rfl
  have stay : ∀ {q o}, H q = some o → q ≠ bx → q ≠ r → q ≠ ol → q ≠ p → upd H2 p (.lst [.int k.c, .int k.n, xv, v]) q = some o := fun {q o} e m1 m2 m3 m4 => by
    rw [upd_ne m4]
    exact c2.2 _ _ e (by simp [m1, m2, m3])
  have lst : ∀ {l : Addr} {ds : List PyData}, LsAt K H l ds → l ≠ bx → l ≠ r → l ≠ ol → l ≠ p → LsAt K (upd H2 p (.lst [.int k.c, .int k.n, xv, v])) l ds := fun {l ds} e m1 m2 m3 m4 => by
    obtain ⟨vs, e1, e2⟩ := e
    exact ⟨vs, stay e1 m1 m2 m3 m4, e2.to (c2.px.trans px)⟩
  refine ⟨?_, by rw [fsts]; exact h.nd, by rw [fsts]; exact h.new, ?_, ?_, ?_, ?_, ?_, ?_, by rw [snds]; exact inv⟩
  · intro q o e
    have e2 := h.s _ _ e
    have ne : ∀ d ∈ r :: ol :: hl :: cl :: nl :: pk.map Prod.fst, q ≠ d := fun d hd => ne_of_none e (h.new d hd)
    exact stay e2 (ne_of_none e b0) (ne r (by simp)) (ne ol (by simp)) (ne p (by simp only [List.mem_cons]; exact .inr (.inr (.inr (.inr (.inr mp1))))))
  · rw [upd_ne (np r r5)]
    exact hr2
  · obtain ⟨vs, e1, e2⟩ := ho2
    exact ⟨vs, by rw [upd_ne (np ol o4)]; exact e1, e2.to px⟩
  · exact lst h.h (Ne.symm b3) (Ne.symm r2) (Ne.symm o1) (np hl h3)
  · exact stay h.n (Ne.symm b5) (Ne.symm r4) (Ne.symm o3) (np nl n1)
  · rw [refs]
    exact stay h.c (Ne.symm b4) (Ne.symm r3) (Ne.symm o2) (np cl c3)
  · intro d hd
    obtain ⟨m, hm, e⟩ := List.mem_iff_getElem.mp hd
    by_cases z : m = j
    · subst z
      rw [List.getElem_set_self] at e
      rw [← e]
      exact ⟨xv, v, upd_same, by
        obtain ⟨xv', fv', g1, g2, _⟩ := h.k _ mp
        rw [hx] at g1
        cases g1
        exact g2.to (c2.px.trans px), hv.to px⟩
    · rw [List.getElem_set_ne (Ne.symm z)] at e
      rw [List.length_set] at hm
      have md : d ∈ pk := List.mem_iff_getElem.mpr ⟨m, hm, e⟩
      have md1 : d.1 ∈ pk.map Prod.fst := List.mem_map.mpr ⟨d, md, rfl⟩
      have dp : d.1 ≠ p := fun e2 => z (by
        have g1 : (pk.map Prod.fst)[m]? = some p := by rw [List.getElem?_map, List.getElem?_eq_getElem hm, e, Option.map_some, e2]
        have g2 : (pk.map Prod.fst)[j]? = some p := by rw [List.getElem?_map, hj]; rfl
        exact nd_at pn g1 g2)
      obtain ⟨xv', fv', g1, g2, g3⟩ := h.k d md
      exact ⟨xv', fv', stay g1 (fun e2 => b6 (e2 ▸ md1)) (fun e2 => r5 (e2 ▸ md1)) (fun e2 => o4 (e2 ▸ md1)) dp, g2.to (c2.px.trans px), g3.to (c2.px.trans px)⟩
end
theorem paired_map {α β : Type} {f : β → α} : ∀ l : List β, Paired (fun v d => v = f d) (l.map f) l
  | [] => .nil
  | _ :: l => .cons rfl (paired_map l)
theorem paired_mapEq {α β : Type} {f : β → α} : ∀ {ys : List α} {l : List β}, Paired (fun v d => v = f d) ys l → ys = l.map f
  | _, _, .nil => rfl
  | _, _, .cons h r => by rw [h, paired_mapEq r]; rfl
theorem inV_ints {i : Int} {ns : List Int} : inV (.int i) (ns.map V.int) = true ↔ i ∈ ns := by
  unfold inV
  rw [List.any_eq_true]
  constructor
  · rintro ⟨y, hy, e⟩
    obtain ⟨n, hn, rfl⟩ := List.mem_map.mp hy
    have : n = i := by simpa [eqV] using e
    rw [← this]
    exact hn
  · intro h
    exact ⟨_, List.mem_map.mpr ⟨i, h, rfl⟩, by simp [eqV]⟩
theorem filter_set {α : Type} {p : α → Bool} : ∀ {l : List α} {j : Nat} {x y : α}, l[j]? = some y → p y = false → p x = false → (l.set j x).filter p = l.filter p
  | [], _, _, _, h, _, _ => by simp at h
  | z :: l, 0, x, y, h, hy, hx => by
    simp at h
    subst h
    rw [List.set_cons_zero, List.filter_cons, List.filter_cons, hx, hy]
    simp
  | z :: l, j + 1, x, y, h, hy, hx => by
    rw [List.set_cons_succ, List.filter_cons, List.filter_cons, filter_set (l := l) (j := j) (by simpa using h) hy hx]
theorem HInv.lc {hs : List Rec} {os : List Ent} {kvs : Rws} {cs : List Call} {ns : List Int} {ev : Int} (h : HInv hs os kvs cs ns ev) : cs.length ≤ 4 := by
  have := len_sub (xs := cs.map Call.c) (ys := [0, 1, 2, 3]) h.cnd fun c hc => by
    obtain ⟨k, hk, rfl⟩ := List.mem_map.mp hc
    obtain ⟨a, b, _⟩ := h.cl k hk
    simp
    omega
  simpa using this
theorem HSt.lp {K : PySem.W.Frag} {H0 H : Hp} {r ol hl cl nl : Addr} {pk : List (Addr × Call)} {hs : List Rec} {os : List Ent} {kvs : Rws} {ns : List Int} {ev : Int} (h : HSt K H0 H r ol hl cl nl pk hs os kvs ns ev) : pk.length ≤ 4 := by
  have := h.i.lc
  simpa using this
/-- the calls left, a new list of them, a new history -/
theorem HSt.left {K : PySem.W.Frag} {H0 H H' : Hp} {r ol hl cl nl hl' cl' : Addr} {pk pk' : List (Addr × Call)} {hs hs' : List Rec} {os : List Ent} {kvs : Rws} {ns : List Int} {ev ev' : Int} (h : HSt K H0 H r ol hl cl nl pk hs os kvs ns ev) (s : Same H H')
    (hc : H0 cl' = none) (hh : H0 hl' = none) (nc : cl' ∉ r :: ol :: hl :: cl :: nl :: pk.map Prod.fst) (nh : hl' ∉ r :: ol :: hl :: cl :: nl :: pk.map Prod.fst) (ne : hl' ≠ cl')
    (sub : pk'.Sublist pk) (ec : H' cl' = some (.lst (pk'.map fun d => V.ref d.1))) (eh : LsAt K H' hl' (hs'.map Rec.d)) (inv : HInv hs' os kvs (pk'.map Prod.snd) ns ev') : HSt K H0 H' r ol hl' cl' nl pk' hs' os kvs ns ev' := by
  have nd := h.nd
  have subf : (pk'.map Prod.fst).Sublist (pk.map Prod.fst) := sub.map _
  have mf : ∀ x, x ∈ pk'.map Prod.fst → x ∈ pk.map Prod.fst := fun x hx => subf.subset hx
  simp only [List.nodup_cons, List.mem_cons, not_or] at nd nc nh
  obtain ⟨⟨r1, r2, r3, r4, r5⟩, ⟨o1, o2, o3, o4⟩, ⟨h1, h2, h3⟩, ⟨c1, c3⟩, n1, pn⟩ := nd
  obtain ⟨a1, a2, a3, a4, a5, a6⟩ := nc
  obtain ⟨b1, b2, b3, b4, b5, b6⟩ := nh
  refine ⟨h.s.trans s, ?_, ?_, s _ _ h.r, h.o.same s, eh, s _ _ h.n, ec, fun d hd => (h.k d (sub.subset hd)).same s, inv⟩
  · simp only [List.nodup_cons, List.mem_cons, not_or]
    exact ⟨⟨r1, Ne.symm b1, Ne.symm a1, r4, fun m => r5 (mf _ m)⟩, ⟨Ne.symm b2, Ne.symm a2, o3, fun m => o4 (mf _ m)⟩, ⟨ne, b5, fun m => b6 (mf _ m)⟩, ⟨a5, fun m => a6 (mf _ m)⟩, fun m => n1 (mf _ m), subf.nodup pn⟩
  · intro d hd
    simp only [List.mem_cons] at hd
    rcases hd with e | e | e | e | e | e
    · exact h.new d (by simp [e])
    · exact h.new d (by simp [e])
    · rw [e]; exact hh
    · rw [e]; exact hc
    · exact h.new d (by simp [e])
    · exact h.new d (by simp only [List.mem_cons]; exact .inr (.inr (.inr (.inr (.inr (mf _ e))))))
def spFate (K : PySem.W.Frag) : Sp := fun vs H Q _ => ∃ (bx r p ol : Addr) (kvs : Rws) (k : Call) (ovs : List V), vs = [.ref bx, .ref r, .ref p, .ref ol] ∧ BoxAt H bx ∧ H r = some (.dK kvs) ∧ Rok kvs ∧ kvs.length ≤ 10000 ∧ CallAt K H p k ∧ k.x.ok ∧ H ol = some (.lst ovs) ∧ ovs.length ≤ 1000 ∧ bx ≠ ol ∧ bx ≠ p ∧ ol ≠ p ∧ (∀ v a H', AnsOk a → ¬ decidedA a → Ch [bx] H H' → Rp K H' v a → BoxAt H' bx → Q v H') ∧ ∀ v ev H', Ch [bx, r, ol] H H' → H' r = some (.dK (doDeal kvs k.x).2) → H' ol = some (.lst (ovs ++ [ev])) → Rp K H' ev (Ent.d ⟨k.c, k.n, (doDeal kvs k.x).1⟩) → Rp K H' v (doDeal kvs k.x).1 → BoxAt H' bx → Q v H'
theorem doDeal_ans {kvs : Rws} (h : Rok kvs) {x : Deal} (k : x.ok) : AnsOk (doDeal kvs x).1 := by
  have s := (doDeal_ok h k).2.1
  unfold doDeal at s ⊢
  split
  · rename_i e
    rw [if_pos e] at s
    exact ⟨_, _, rfl, s⟩
  · rename_i e
    rw [if_neg e] at s
    exact ⟨_, _, rfl, s⟩
theorem HSt.callFate {K : PySem.W.Frag} {H0 H : Hp} {r ol hl cl nl : Addr} {pk : List (Addr × Call)} {hs : List Rec} {os : List Ent} {kvs : Rws} {ns : List Int} {ev : Int} {bx p : Addr} {j : Nat} {k : Call} {xv fv : V} {Qf : VK} {E : XK} (h : HSt K H0 H r ol hl cl nl pk hs os kvs ns ev) (le : ev ≤ 100) (hj : pk[j]? = some (p, k)) (hb : bx ∉ r :: ol :: hl :: cl :: nl :: pk.map Prod.fst)
    (b0 : H0 bx = none) (bb : BoxAt H bx) (hx : H p = some (.lst [.int k.c, .int k.n, xv, fv])) (hf : k.f = none)
    (q : ∀ v H2 a os' kvs', H2 p = some (.lst [.int k.c, .int k.n, xv, fv]) → HSt K H0 (upd H2 p (.lst [.int k.c, .int k.n, xv, v])) r ol hl cl nl (pk.set j (p, { k with f := some a })) hs os' kvs' ns ev → BoxAt (upd H2 p (.lst [.int k.c, .int k.n, xv, v])) bx → Ch [bx, r, ol, p] H (upd H2 p (.lst [.int k.c, .int k.n, xv, v])) → Qf v H2) :
    spFate K [.ref bx, .ref r, .ref p, .ref ol] H Qf E := by
  have mp : (p, k) ∈ pk := List.mem_of_getElem? hj
  have mp1 : p ∈ pk.map Prod.fst := List.mem_map.mpr ⟨_, mp, rfl⟩
  have mk : k ∈ pk.map Prod.snd := List.mem_map.mpr ⟨_, mp, rfl⟩
  have hjs : (pk.map Prod.snd)[j]? = some k := by rw [List.getElem?_map, hj]; rfl
  obtain ⟨ovs, ho, ro⟩ := h.o
  have lv := ro.length
  rw [List.length_map] at lv
  have rok := replay_ok h.i.ok os
  rw [h.i.rep] at rok
  have lo := (h.i.go le).few
  have l2 := h.i.lh
  have l3 := h.i.lo
  have nd := h.nd
  have hb' := hb
  simp only [List.nodup_cons, List.mem_cons, not_or] at nd hb'
  have nop : ol ≠ p := fun e => nd.2.1.2.2.2 (e ▸ mp1)
  have nrp : r ≠ p := fun e => nd.1.2.2.2.2 (e ▸ mp1)
  have nbp : bx ≠ p := fun e => hb'.2.2.2.2.2 (e ▸ mp1)
  have nbo : bx ≠ ol := hb'.2.1
  have nro : r ≠ ol := nd.1.1
  have okx := (h.i.cl k mk).2.2.1
  refine ⟨bx, r, p, ol, kvs, k, ovs, rfl, bb, h.r, rok.1, by omega, h.k _ mp, okx, ho, by omega, nbo, nbp, nop, fun v a H' ao nda ch rv b' => ?_, fun v e H' ch hr ho' re rv b' => ?_⟩
  · have hp2 : H' p = _ := ch.2 _ _ hx (by simpa using nbp.symm)
    have ch3 : Ch [bx, r, ol] H H' := ch.mono (by simp)
    refine q v H' a os kvs hp2 ?_ ?_ ?_
    · exact h.fate hj hb hx ch3 b0 (ch.2 _ _ h.r (by simpa using (Ne.symm hb'.1))) (h.o.ch ch (by simpa using nbo.symm)) rv (h.i.refuse hjs hf ao nda)
    · obtain ⟨m, e⟩ := b'
      exact ⟨m, by rw [upd_ne nbp]; exact e⟩
    · exact (ch3.mono (S' := [bx, r, ol, p]) (by intro x hx; simp only [List.mem_cons, List.not_mem_nil, or_false] at hx ⊢; rcases hx with e | e | e <;> simp [e])).thenUpd hp2 rfl (.inl (by simp))
  · have hp2 : H' p = _ := ch.2 _ _ hx (by simp [nbp.symm, nrp.symm, nop.symm])
    refine q v H' (doDeal kvs k.x).1 (os ++ [⟨k.c, k.n, (doDeal kvs k.x).1⟩]) (doDeal kvs k.x).2 hp2 ?_ ?_ ?_
    · exact h.fate hj hb hx ch b0 hr ⟨_, ho', by rw [List.map_append]; exact (ro.to ch.px).append (Rps.p1 re)⟩ rv (h.i.answer hjs hf (doDeal_ans rok.1 okx))
    · obtain ⟨m, e⟩ := b'
      exact ⟨m, by rw [upd_ne nbp]; exact e⟩
    · exact (ch.mono (S' := [bx, r, ol, p]) (by intro x hx; simp only [List.mem_cons, List.not_mem_nil, or_false] at hx ⊢; rcases hx with e | e | e <;> simp [e])).thenUpd hp2 rfl (.inl (by simp))
theorem atI_num {ns : List Int} {c : Int} (h : ns.length = 4) (c0 : 0 ≤ c) (c1 : c < 4) : atI (ns.map V.int) c = some (.int (num ns c)) := by
  obtain ⟨v, h1, h2⟩ := atI_int (xs := ns.map V.int) c0 (by rw [List.length_map, h]; exact c1)
  rw [h1, ← h2, List.getElem?_map]
  have lt : c.toNat < ns.length := by omega
  unfold num
  rw [List.getD_eq_getElem?_getD, List.getElem?_eq_getElem lt]
  rfl
end Kt
set_option Elab.async false
set_option linter.all false
set_option maxRecDepth 100000
set_option maxHeartbeats 4000000
namespace K80
open PySem L2 Kt
def top (i : Nat) : Stmt := PySem.Challenge.pw_crosskeep_k80_orders_are_judged.main.body.getD i (.Pass ⟨0, 0, 0, 0⟩)
abbrev s_wall : Stmt := top 0
abbrev s_is_integer : Stmt := top 4
abbrev s_is_value : Stmt := top 5
abbrev s_apply_add : Stmt := top 7
abbrev s_apply_deed : Stmt := top 8
abbrev s_do_deal : Stmt := top 10
abbrev s_Store__init : Stmt := inClass (top 12) 0
abbrev s_Store_do : Stmt := inClass (top 12) 1
abbrev s_Store_fork : Stmt := inClass (top 12) 2
abbrev s_by_name : Stmt := top 15
abbrev s_name_fault : Stmt := top 16
abbrev s_answer_fault : Stmt := top 17
abbrev s_missing_fault : Stmt := top 18
abbrev s_time_fault : Stmt := top 19
abbrev s_fault_of : Stmt := top 20
abbrev s_store_behind : Stmt := top 21
abbrev s_l_number : Stmt := top 23
abbrev s_l_take : Stmt := top 24
abbrev s_l_key : Stmt := top 25
abbrev s_l_keys : Stmt := top 26
abbrev s_l_value : Stmt := top 27
abbrev s_l_maybe : Stmt := top 28
abbrev s_l_deed : Stmt := top 29
abbrev s_l_deal : Stmt := top 30
abbrev s_l_done : Stmt := top 31
abbrev s_l_do : Stmt := top 32
abbrev s_l_names : Stmt := top 33
abbrev s_l_history : Stmt := top 34
abbrev s_l_closed : Stmt := top 35
abbrev s_l_fate : Stmt := top 36
abbrev s_l_record : Stmt := top 37
abbrev s_l_names_fault : Stmt := top 38
abbrev s_l_answers_fault : Stmt := top 39
abbrev s_l_rest_fault : Stmt := top 40
abbrev s_l_fault : Stmt := top 41
abbrev s_l_changed : Stmt := top 42
abbrev s_l_other : Stmt := top 43
abbrev s_law : Stmt := top 44
abbrev n_wall : List Str := ["k"]
theorem sc_wall : FnScope n_wall ["k"] (defScope s_wall) := ⟨rfl, rfl, rfl, by decide +kernel, rfl, by decide +kernel, by decide +kernel⟩
abbrev n_is_integer : List Str := ["data"]
theorem sc_is_integer : FnScope n_is_integer ["data"] (defScope s_is_integer) := ⟨rfl, rfl, rfl, by decide +kernel, rfl, by decide +kernel, by decide +kernel⟩
abbrev n_is_value : List Str := ["data"]
theorem sc_is_value : FnScope n_is_value ["data"] (defScope s_is_value) := ⟨rfl, rfl, rfl, by decide +kernel, rfl, by decide +kernel, by decide +kernel⟩
abbrev n_apply_add : List Str := ["rows", "key", "number", "before"]
theorem sc_apply_add : FnScope n_apply_add ["rows", "key", "number"] (defScope s_apply_add) := ⟨rfl, rfl, rfl, by decide +kernel, rfl, by decide +kernel, by decide +kernel⟩
abbrev n_apply_deed : List Str := ["rows", "deed", "key", "before"]
theorem sc_apply_deed : FnScope n_apply_deed ["rows", "deed"] (defScope s_apply_deed) := ⟨rfl, rfl, rfl, by decide +kernel, rfl, by decide +kernel, by decide +kernel⟩
abbrev n_do_deal : List Str := ["rows", "deal", "checks", "deeds", "values", "key", "value", "deed"]
theorem sc_do_deal : FnScope n_do_deal ["rows", "deal"] (defScope s_do_deal) := ⟨rfl, rfl, rfl, by decide +kernel, rfl, by decide +kernel, by decide +kernel⟩
abbrev n_Store__init : List Str := ["self", "rows"]
theorem sc_Store__init : FnScope n_Store__init ["self", "rows"] (defScope s_Store__init) := ⟨rfl, rfl, rfl, by decide +kernel, rfl, by decide +kernel, by decide +kernel⟩
abbrev n_Store_do : List Str := ["self", "deal"]
theorem sc_Store_do : FnScope n_Store_do ["self", "deal"] (defScope s_Store_do) := ⟨rfl, rfl, rfl, by decide +kernel, rfl, by decide +kernel, by decide +kernel⟩
abbrev n_Store_fork : List Str := ["self"]
theorem sc_Store_fork : FnScope n_Store_fork ["self"] (defScope s_Store_fork) := ⟨rfl, rfl, rfl, by decide +kernel, rfl, by decide +kernel, by decide +kernel⟩
abbrev n_by_name : List Str := ["history", "row"]
theorem sc_by_name : FnScope n_by_name ["history"] (defScope s_by_name) := ⟨rfl, rfl, rfl, by decide +kernel, rfl, by decide +kernel, by decide +kernel⟩
abbrev n_name_fault : List Str := ["history", "order", "records", "seen", "place", "row"]
theorem sc_name_fault : FnScope n_name_fault ["history", "order"] (defScope s_name_fault) := ⟨rfl, rfl, rfl, by decide +kernel, rfl, by decide +kernel, by decide +kernel⟩
abbrev n_answer_fault : List Str := ["history", "order", "records", "store", "place", "row", "record"]
theorem sc_answer_fault : FnScope n_answer_fault ["history", "order"] (defScope s_answer_fault) := ⟨rfl, rfl, rfl, by decide +kernel, rfl, by decide +kernel, by decide +kernel⟩
abbrev n_missing_fault : List Str := ["history", "order", "told", "place", "row"]
theorem sc_missing_fault : FnScope n_missing_fault ["history", "order"] (defScope s_missing_fault) := ⟨rfl, rfl, rfl, by decide +kernel, rfl, by decide +kernel, by decide +kernel⟩
abbrev n_time_fault : List Str := ["history", "order", "records", "latest", "place", "row", "record"]
theorem sc_time_fault : FnScope n_time_fault ["history", "order"] (defScope s_time_fault) := ⟨rfl, rfl, rfl, by decide +kernel, rfl, by decide +kernel, by decide +kernel⟩
abbrev n_fault_of : List Str := ["history", "order", "wrong"]
theorem sc_fault_of : FnScope n_fault_of ["history", "order"] (defScope s_fault_of) := ⟨rfl, rfl, rfl, by decide +kernel, rfl, by decide +kernel, by decide +kernel⟩
abbrev n_store_behind : List Str := ["history", "order", "records", "store", "row"]
theorem sc_store_behind : FnScope n_store_behind ["history", "order"] (defScope s_store_behind) := ⟨rfl, rfl, rfl, by decide +kernel, rfl, by decide +kernel, by decide +kernel⟩
abbrev n_l_number : List Str := ["_law_script", "_law_k", "_law_cell", "_law_first", "_law_second"]
theorem sc_l_number : FnScope n_l_number ["_law_script", "_law_k"] (defScope s_l_number) := ⟨rfl, rfl, rfl, by decide +kernel, rfl, by decide +kernel, by decide +kernel⟩
abbrev n_l_take : List Str := ["_law_box", "_law_size", "_law_digit"]
theorem sc_l_take : FnScope n_l_take ["_law_box", "_law_size"] (defScope s_l_take) := ⟨rfl, rfl, rfl, by decide +kernel, rfl, by decide +kernel, by decide +kernel⟩
abbrev n_l_key : List Str := ["_law_box", "_law_sign", "_law_signs", "_law_size", "_law_spot", "_law_text", "_law_k"]
theorem sc_l_key : FnScope n_l_key ["_law_box", "_law_sign"] (defScope s_l_key) := ⟨rfl, rfl, rfl, by decide +kernel, rfl, by decide +kernel, by decide +kernel⟩
abbrev n_l_keys : List Str := ["_law_box", "_law_found", "_law_sign", "_law_key_here"]
theorem sc_l_keys : FnScope n_l_keys ["_law_box"] (defScope s_l_keys) := ⟨rfl, rfl, rfl, by decide +kernel, rfl, by decide +kernel, by decide +kernel⟩
abbrev n_l_value : List Str := ["_law_box", "_law_kind"]
theorem sc_l_value : FnScope n_l_value ["_law_box"] (defScope s_l_value) := ⟨rfl, rfl, rfl, by decide +kernel, rfl, by decide +kernel, by decide +kernel⟩
abbrev n_l_maybe : List Str := ["_law_box"]
theorem sc_l_maybe : FnScope n_l_maybe ["_law_box"] (defScope s_l_maybe) := ⟨rfl, rfl, rfl, by decide +kernel, rfl, by decide +kernel, by decide +kernel⟩
abbrev n_l_deed : List Str := ["_law_box", "_law_keys_here", "_law_key_here", "_law_kind"]
theorem sc_l_deed : FnScope n_l_deed ["_law_box", "_law_keys_here"] (defScope s_l_deed) := ⟨rfl, rfl, rfl, by decide +kernel, rfl, by decide +kernel, by decide +kernel⟩
abbrev n_l_deal : List Str := ["_law_box", "_law_keys_here", "_law_rows", "_law_checks", "_law_k", "_law_key_here", "_law_value_here", "_law_deeds"]
theorem sc_l_deal : FnScope n_l_deal ["_law_box", "_law_keys_here", "_law_rows"] (defScope s_l_deal) := ⟨rfl, rfl, rfl, by decide +kernel, rfl, by decide +kernel, by decide +kernel⟩
abbrev n_l_done : List Str := ["_law_rows", "_law_deed_here", "_law_key_here", "_law_was", "_law_total"]
theorem sc_l_done : FnScope n_l_done ["_law_rows", "_law_deed_here"] (defScope s_l_done) := ⟨rfl, rfl, rfl, by decide +kernel, rfl, by decide +kernel, by decide +kernel⟩
abbrev n_l_do : List Str := ["_law_rows", "_law_deal_here", "_law_values", "_law_check", "_law_deed_here"]
theorem sc_l_do : FnScope n_l_do ["_law_rows", "_law_deal_here"] (defScope s_l_do) := ⟨rfl, rfl, rfl, by decide +kernel, rfl, by decide +kernel, by decide +kernel⟩
abbrev n_l_names : List Str := ["_law_deal_here", "_law_found", "_law_key_here", "_law_check", "_law_deed_here"]
theorem sc_l_names : FnScope n_l_names ["_law_deal_here"] (defScope s_l_names) := ⟨rfl, rfl, rfl, by decide +kernel, rfl, by decide +kernel, by decide +kernel⟩
abbrev n_l_history : List Str := ["_law_script", "_law_keys_here", "_law_count", "_law_rows", "_law_order", "_law_history_here", "_law_events", "_law_open_calls", "_law_numbers", "_law_k", "_law_box", "_law_client", "_law_call", "_law_deal_here", "_law_other_here", "_law_row"]
theorem sc_l_history : FnScope n_l_history ["_law_script", "_law_keys_here", "_law_count"] (defScope s_l_history) := ⟨rfl, rfl, rfl, by decide +kernel, rfl, by decide +kernel, by decide +kernel⟩
abbrev n_l_closed : List Str := ["_law_row", "_law_call", "_law_events"]
theorem sc_l_closed : FnScope n_l_closed ["_law_row", "_law_call", "_law_events"] (defScope s_l_closed) := ⟨rfl, rfl, rfl, by decide +kernel, rfl, by decide +kernel, by decide +kernel⟩
abbrev n_l_fate : List Str := ["_law_box", "_law_rows", "_law_call", "_law_order", "_law_answer"]
theorem sc_l_fate : FnScope n_l_fate ["_law_box", "_law_rows", "_law_call", "_law_order"] (defScope s_l_fate) := ⟨rfl, rfl, rfl, by decide +kernel, rfl, by decide +kernel, by decide +kernel⟩
abbrev n_l_record : List Str := ["_law_history_here", "_law_name", "_law_found", "_law_row"]
theorem sc_l_record : FnScope n_l_record ["_law_history_here", "_law_name"] (defScope s_l_record) := ⟨rfl, rfl, rfl, by decide +kernel, rfl, by decide +kernel, by decide +kernel⟩
abbrev n_l_names_fault : List Str := ["_law_history_here", "_law_order", "_law_k", "_law_row"]
theorem sc_l_names_fault : FnScope n_l_names_fault ["_law_history_here", "_law_order"] (defScope s_l_names_fault) := ⟨rfl, rfl, rfl, by decide +kernel, rfl, by decide +kernel, by decide +kernel⟩
abbrev n_l_answers_fault : List Str := ["_law_history_here", "_law_order", "_law_rows", "_law_k", "_law_record_here"]
theorem sc_l_answers_fault : FnScope n_l_answers_fault ["_law_history_here", "_law_order"] (defScope s_l_answers_fault) := ⟨rfl, rfl, rfl, by decide +kernel, rfl, by decide +kernel, by decide +kernel⟩
abbrev n_l_rest_fault : List Str := ["_law_history_here", "_law_order", "_law_k", "_law_row", "_law_record_here", "_law_other_here"]
theorem sc_l_rest_fault : FnScope n_l_rest_fault ["_law_history_here", "_law_order"] (defScope s_l_rest_fault) := ⟨rfl, rfl, rfl, by decide +kernel, rfl, by decide +kernel, by decide +kernel⟩
abbrev n_l_fault : List Str := ["_law_history_here", "_law_order", "_law_fault_here"]
theorem sc_l_fault : FnScope n_l_fault ["_law_history_here", "_law_order"] (defScope s_l_fault) := ⟨rfl, rfl, rfl, by decide +kernel, rfl, by decide +kernel, by decide +kernel⟩
abbrev n_l_changed : List Str := ["_law_history_here", "_law_order", "_law_box", "_law_kind", "_law_at", "_law_row", "_law_one"]
theorem sc_l_changed : FnScope n_l_changed ["_law_history_here", "_law_order", "_law_box"] (defScope s_l_changed) := ⟨rfl, rfl, rfl, by decide +kernel, rfl, by decide +kernel, by decide +kernel⟩
abbrev n_l_other : List Str := ["_law_record_here", "_law_name"]
theorem sc_l_other : FnScope n_l_other ["_law_record_here", "_law_name"] (defScope s_l_other) := ⟨rfl, rfl, rfl, by decide +kernel, rfl, by decide +kernel, by decide +kernel⟩
abbrev n_law : List Str := ["_law_script", "_law_box", "_law_keys_here", "_law_pair", "_law_history_here", "_law_order", "_law_rows", "_law_row", "_law_changed_here", "_law_given", "_law_told"]
theorem sc_law : FnScope n_law ["_law_script"] (defScope s_law) := ⟨rfl, rfl, rfl, by decide +kernel, rfl, by decide +kernel, by decide +kernel⟩
def d_wall : He.DefD := ⟨("_wall", none), "_wall", "_wall", defArgs s_wall, defBody s_wall, defScope s_wall, [], []⟩
def d_is_integer : He.DefD := ⟨("is_integer", none), "is_integer", "is_integer", defArgs s_is_integer, defBody s_is_integer, defScope s_is_integer, [], []⟩
def d_is_value : He.DefD := ⟨("is_value", none), "is_value", "is_value", defArgs s_is_value, defBody s_is_value, defScope s_is_value, [], []⟩
def d_apply_add : He.DefD := ⟨("apply_add", none), "apply_add", "apply_add", defArgs s_apply_add, defBody s_apply_add, defScope s_apply_add, [], []⟩
def d_apply_deed : He.DefD := ⟨("apply_deed", none), "apply_deed", "apply_deed", defArgs s_apply_deed, defBody s_apply_deed, defScope s_apply_deed, [], []⟩
def d_do_deal : He.DefD := ⟨("do_deal", none), "do_deal", "do_deal", defArgs s_do_deal, defBody s_do_deal, defScope s_do_deal, [], []⟩
def d_Store__init : He.DefD := ⟨("Store", some "__init__"), "__init__", "Store.__init__", defArgs s_Store__init, defBody s_Store__init, defScope s_Store__init, [.non], []⟩
def d_Store_do : He.DefD := ⟨("Store", some "do"), "do", "Store.do", defArgs s_Store_do, defBody s_Store_do, defScope s_Store_do, [], []⟩
def d_Store_fork : He.DefD := ⟨("Store", some "fork"), "fork", "Store.fork", defArgs s_Store_fork, defBody s_Store_fork, defScope s_Store_fork, [], []⟩
def d_by_name : He.DefD := ⟨("by_name", none), "by_name", "by_name", defArgs s_by_name, defBody s_by_name, defScope s_by_name, [], []⟩
def d_name_fault : He.DefD := ⟨("name_fault", none), "name_fault", "name_fault", defArgs s_name_fault, defBody s_name_fault, defScope s_name_fault, [], []⟩
def d_answer_fault : He.DefD := ⟨("answer_fault", none), "answer_fault", "answer_fault", defArgs s_answer_fault, defBody s_answer_fault, defScope s_answer_fault, [], []⟩
def d_missing_fault : He.DefD := ⟨("missing_fault", none), "missing_fault", "missing_fault", defArgs s_missing_fault, defBody s_missing_fault, defScope s_missing_fault, [], []⟩
def d_time_fault : He.DefD := ⟨("time_fault", none), "time_fault", "time_fault", defArgs s_time_fault, defBody s_time_fault, defScope s_time_fault, [], []⟩
def d_fault_of : He.DefD := ⟨("fault_of", none), "fault_of", "fault_of", defArgs s_fault_of, defBody s_fault_of, defScope s_fault_of, [], []⟩
def d_store_behind : He.DefD := ⟨("store_behind", none), "store_behind", "store_behind", defArgs s_store_behind, defBody s_store_behind, defScope s_store_behind, [], []⟩
def d_l_number : He.DefD := ⟨("_law_number", none), "_law_number", "_law_number", defArgs s_l_number, defBody s_l_number, defScope s_l_number, [], []⟩
def d_l_take : He.DefD := ⟨("_law_take", none), "_law_take", "_law_take", defArgs s_l_take, defBody s_l_take, defScope s_l_take, [], []⟩
def d_l_key : He.DefD := ⟨("_law_key", none), "_law_key", "_law_key", defArgs s_l_key, defBody s_l_key, defScope s_l_key, [], []⟩
def d_l_keys : He.DefD := ⟨("_law_keys", none), "_law_keys", "_law_keys", defArgs s_l_keys, defBody s_l_keys, defScope s_l_keys, [], []⟩
def d_l_value : He.DefD := ⟨("_law_value", none), "_law_value", "_law_value", defArgs s_l_value, defBody s_l_value, defScope s_l_value, [], []⟩
def d_l_maybe : He.DefD := ⟨("_law_maybe", none), "_law_maybe", "_law_maybe", defArgs s_l_maybe, defBody s_l_maybe, defScope s_l_maybe, [], []⟩
def d_l_deed : He.DefD := ⟨("_law_deed", none), "_law_deed", "_law_deed", defArgs s_l_deed, defBody s_l_deed, defScope s_l_deed, [], []⟩
def d_l_deal : He.DefD := ⟨("_law_deal", none), "_law_deal", "_law_deal", defArgs s_l_deal, defBody s_l_deal, defScope s_l_deal, [], []⟩
def d_l_done : He.DefD := ⟨("_law_done", none), "_law_done", "_law_done", defArgs s_l_done, defBody s_l_done, defScope s_l_done, [], []⟩
def d_l_do : He.DefD := ⟨("_law_do", none), "_law_do", "_law_do", defArgs s_l_do, defBody s_l_do, defScope s_l_do, [], []⟩
def d_l_names : He.DefD := ⟨("_law_names", none), "_law_names", "_law_names", defArgs s_l_names, defBody s_l_names, defScope s_l_names, [], []⟩
def d_l_history : He.DefD := ⟨("_law_history", none), "_law_history", "_law_history", defArgs s_l_history, defBody s_l_history, defScope s_l_history, [], []⟩
def d_l_closed : He.DefD := ⟨("_law_closed", none), "_law_closed", "_law_closed", defArgs s_l_closed, defBody s_l_closed, defScope s_l_closed, [], []⟩
def d_l_fate : He.DefD := ⟨("_law_fate", none), "_law_fate", "_law_fate", defArgs s_l_fate, defBody s_l_fate, defScope s_l_fate, [], []⟩
def d_l_record : He.DefD := ⟨("_law_record", none), "_law_record", "_law_record", defArgs s_l_record, defBody s_l_record, defScope s_l_record, [], []⟩
def d_l_names_fault : He.DefD := ⟨("_law_names_fault", none), "_law_names_fault", "_law_names_fault", defArgs s_l_names_fault, defBody s_l_names_fault, defScope s_l_names_fault, [], []⟩
def d_l_answers_fault : He.DefD := ⟨("_law_answers_fault", none), "_law_answers_fault", "_law_answers_fault", defArgs s_l_answers_fault, defBody s_l_answers_fault, defScope s_l_answers_fault, [], []⟩
def d_l_rest_fault : He.DefD := ⟨("_law_rest_fault", none), "_law_rest_fault", "_law_rest_fault", defArgs s_l_rest_fault, defBody s_l_rest_fault, defScope s_l_rest_fault, [], []⟩
def d_l_fault : He.DefD := ⟨("_law_fault", none), "_law_fault", "_law_fault", defArgs s_l_fault, defBody s_l_fault, defScope s_l_fault, [], []⟩
def d_l_changed : He.DefD := ⟨("_law_changed", none), "_law_changed", "_law_changed", defArgs s_l_changed, defBody s_l_changed, defScope s_l_changed, [], []⟩
def d_l_other : He.DefD := ⟨("_law_other", none), "_law_other", "_law_other", defArgs s_l_other, defBody s_l_other, defScope s_l_other, [], []⟩
def d_law : He.DefD := ⟨("law", none), "law", "law", defArgs s_law, defBody s_law, defScope s_law, [], []⟩
def fnL : List He.DefD := [d_wall, d_is_integer, d_is_value, d_apply_add, d_apply_deed, d_do_deal, d_Store__init, d_Store_do, d_Store_fork, d_by_name, d_name_fault, d_answer_fault, d_missing_fault, d_time_fault, d_fault_of, d_store_behind, d_l_number, d_l_take, d_l_key, d_l_keys, d_l_value, d_l_maybe, d_l_deed, d_l_deal, d_l_done, d_l_do, d_l_names, d_l_history, d_l_closed, d_l_fate, d_l_record, d_l_names_fault, d_l_answers_fault, d_l_rest_fault, d_l_fault, d_l_changed, d_l_other, d_law]
def exB (K : PySem.W.Frag) : Bool := He.tupB K "DECIDED" [.str "done", .str "unheld"]
def faL : List He.Fa := [.free "int", .glo "_law_take", .free "range", .glo "_law_key", .free "len", .glo "_law_value", .glo "_law_maybe", .glo "_law_deed", .free "tuple", .free "abs", .free "isinstance", .glo "_law_done", .glo "_law_do", .glo "_law_number", .glo "_law_fate", .glo "_law_closed", .glo "_law_deal", .glo "_law_other", .glo "by_name", .free "enumerate", .cls "Store", .noat "Store" "rows", .free "bool", .glo "is_integer", .int "MOST_VALUE" (1000000000000000), .int "VALUE_SIGNS" (20), .free "str", .glo "is_value", .glo "apply_add", .glo "apply_deed", .glo "do_deal", .mkr "Store", .glo "Store", .meth "Store" "do", .glo "DECIDED", .glo "DECIDED", .free "max", .glo "name_fault", .glo "answer_fault", .glo "missing_fault", .glo "time_fault", .glo "_law_record", .glo "_law_names_fault", .glo "_law_answers_fault", .glo "_law_rest_fault", .glo "_law_keys", .glo "_law_history", .glo "_law_fault", .glo "fault_of", .glo "store_behind", .glo "_law_changed", .free "list", .glo "law"]
structure Tx (K : PySem.W.Frag) (mg : Str → Option Value) : Prop where
  c : He.SaysD faL fnL K
  m : exB K = true
  h : ∃ h : Heap, K.In h ∧ h.Ns mainGlobals mg
section
variable {K : PySem.W.Frag} {mg : Str → Option Value} (T : Tx K mg)
include T
theorem Tx.glo (i : Nat) {x : Str} (h : faL[i]? = some (.glo x) := by rfl) : mg x = some (.ref (He.ga K x)) := let ⟨_, X, G⟩ := T.h; He.glo_ok X G (T.c.fact i h)
theorem Tx.fre (i : Nat) {x : Str} (h : faL[i]? = some (.free x) := by rfl) : mg x = none := let ⟨_, X, G⟩ := T.h; He.free_ok X G (T.c.fact i h)
theorem Tx.int (i : Nat) {x : Str} {n : Int} (h : faL[i]? = some (.int x n) := by rfl) : ∃ t, mg x = some (.int n t) := let ⟨_, X, G⟩ := T.h; He.int_ok X G (T.c.fact i h)
theorem Tx.str (i : Nat) {x z : Str} (h : faL[i]? = some (.str x z) := by rfl) : ∃ t, mg x = some (.str z t) := let ⟨_, X, G⟩ := T.h; He.str_ok X G (T.c.fact i h)
end
section
variable {K : PySem.W.Frag} {mg : Str → Option Value} (T : Tx K mg)
include T
theorem Tx.f_wall : Fun K "_wall" "_wall" s_wall (He.ga K "_wall") (fdOf K (He.ga K "_wall")) := fun_ofD (T.c.def_ 0)
theorem Tx.kp_wall : PySem.W.keepIn K (.ref (He.ga K "_wall")) = true := T.f_wall.kp
theorem Tx.b_wall : Binds K (fdOf K (He.ga K "_wall")) ["k"] [] := T.f_wall.binds fun _ _ _ _ _ _ us hl => match us, hl with | [_], _ => rfl
theorem Tx.f_is_integer : Fun K "is_integer" "is_integer" s_is_integer (He.ga K "is_integer") (fdOf K (He.ga K "is_integer")) := fun_ofD (T.c.def_ 1)
theorem Tx.kp_is_integer : PySem.W.keepIn K (.ref (He.ga K "is_integer")) = true := T.f_is_integer.kp
theorem Tx.b_is_integer : Binds K (fdOf K (He.ga K "is_integer")) ["data"] [] := T.f_is_integer.binds fun _ _ _ _ _ _ us hl => match us, hl with | [_], _ => rfl
theorem Tx.f_is_value : Fun K "is_value" "is_value" s_is_value (He.ga K "is_value") (fdOf K (He.ga K "is_value")) := fun_ofD (T.c.def_ 2)
theorem Tx.kp_is_value : PySem.W.keepIn K (.ref (He.ga K "is_value")) = true := T.f_is_value.kp
theorem Tx.b_is_value : Binds K (fdOf K (He.ga K "is_value")) ["data"] [] := T.f_is_value.binds fun _ _ _ _ _ _ us hl => match us, hl with | [_], _ => rfl
theorem Tx.f_apply_add : Fun K "apply_add" "apply_add" s_apply_add (He.ga K "apply_add") (fdOf K (He.ga K "apply_add")) := fun_ofD (T.c.def_ 3)
theorem Tx.kp_apply_add : PySem.W.keepIn K (.ref (He.ga K "apply_add")) = true := T.f_apply_add.kp
theorem Tx.b_apply_add : Binds K (fdOf K (He.ga K "apply_add")) ["rows", "key", "number"] [] := T.f_apply_add.binds fun _ _ _ _ _ _ us hl => match us, hl with | [_, _, _], _ => rfl
theorem Tx.f_apply_deed : Fun K "apply_deed" "apply_deed" s_apply_deed (He.ga K "apply_deed") (fdOf K (He.ga K "apply_deed")) := fun_ofD (T.c.def_ 4)
theorem Tx.kp_apply_deed : PySem.W.keepIn K (.ref (He.ga K "apply_deed")) = true := T.f_apply_deed.kp
theorem Tx.b_apply_deed : Binds K (fdOf K (He.ga K "apply_deed")) ["rows", "deed"] [] := T.f_apply_deed.binds fun _ _ _ _ _ _ us hl => match us, hl with | [_, _], _ => rfl
theorem Tx.f_do_deal : Fun K "do_deal" "do_deal" s_do_deal (He.ga K "do_deal") (fdOf K (He.ga K "do_deal")) := fun_ofD (T.c.def_ 5)
theorem Tx.kp_do_deal : PySem.W.keepIn K (.ref (He.ga K "do_deal")) = true := T.f_do_deal.kp
theorem Tx.b_do_deal : Binds K (fdOf K (He.ga K "do_deal")) ["rows", "deal"] [] := T.f_do_deal.binds fun _ _ _ _ _ _ us hl => match us, hl with | [_, _], _ => rfl
theorem Tx.f_Store__init : FunD K "__init__" "Store.__init__" (defArgs s_Store__init) (defBody s_Store__init) (defScope s_Store__init) (d_Store__init.dvs K) [] (He.ma K (He.ga K "Store") "__init__") (fdOf K (He.ma K (He.ga K "Store") "__init__")) := funD_of (T.c.def_ 6)
theorem Tx.kp_Store__init : PySem.W.keepIn K (.ref (He.ma K (He.ga K "Store") "__init__")) = true := T.f_Store__init.kp
theorem Tx.b1_Store__init : ∃ ds, Vals [(He.Dv.v K (.non))] ds ∧ Binds K (fdOf K (He.ma K (He.ga K "Store") "__init__")) ["self", "rows"] ds := T.f_Store__init.binds1 1 0 (by simp [He.DefD.dvs, d_Store__init]) rfl fun _ _ _ _ _ _ _ us its hu hi => match us, its, hu, hi with | [_], [_], _, _ => ⟨_, rfl, rfl⟩
theorem Tx.f_Store_do : Fun K "do" "Store.do" s_Store_do (He.ma K (He.ga K "Store") "do") (fdOf K (He.ma K (He.ga K "Store") "do")) := fun_ofD (T.c.def_ 7)
theorem Tx.kp_Store_do : PySem.W.keepIn K (.ref (He.ma K (He.ga K "Store") "do")) = true := T.f_Store_do.kp
theorem Tx.b_Store_do : Binds K (fdOf K (He.ma K (He.ga K "Store") "do")) ["self", "deal"] [] := T.f_Store_do.binds fun _ _ _ _ _ _ us hl => match us, hl with | [_, _], _ => rfl
theorem Tx.f_Store_fork : Fun K "fork" "Store.fork" s_Store_fork (He.ma K (He.ga K "Store") "fork") (fdOf K (He.ma K (He.ga K "Store") "fork")) := fun_ofD (T.c.def_ 8)
theorem Tx.kp_Store_fork : PySem.W.keepIn K (.ref (He.ma K (He.ga K "Store") "fork")) = true := T.f_Store_fork.kp
theorem Tx.b_Store_fork : Binds K (fdOf K (He.ma K (He.ga K "Store") "fork")) ["self"] [] := T.f_Store_fork.binds fun _ _ _ _ _ _ us hl => match us, hl with | [_], _ => rfl
theorem Tx.f_by_name : Fun K "by_name" "by_name" s_by_name (He.ga K "by_name") (fdOf K (He.ga K "by_name")) := fun_ofD (T.c.def_ 9)
theorem Tx.kp_by_name : PySem.W.keepIn K (.ref (He.ga K "by_name")) = true := T.f_by_name.kp
theorem Tx.b_by_name : Binds K (fdOf K (He.ga K "by_name")) ["history"] [] := T.f_by_name.binds fun _ _ _ _ _ _ us hl => match us, hl with | [_], _ => rfl
theorem Tx.f_name_fault : Fun K "name_fault" "name_fault" s_name_fault (He.ga K "name_fault") (fdOf K (He.ga K "name_fault")) := fun_ofD (T.c.def_ 10)
theorem Tx.kp_name_fault : PySem.W.keepIn K (.ref (He.ga K "name_fault")) = true := T.f_name_fault.kp
theorem Tx.b_name_fault : Binds K (fdOf K (He.ga K "name_fault")) ["history", "order"] [] := T.f_name_fault.binds fun _ _ _ _ _ _ us hl => match us, hl with | [_, _], _ => rfl
theorem Tx.f_answer_fault : Fun K "answer_fault" "answer_fault" s_answer_fault (He.ga K "answer_fault") (fdOf K (He.ga K "answer_fault")) := fun_ofD (T.c.def_ 11)
theorem Tx.kp_answer_fault : PySem.W.keepIn K (.ref (He.ga K "answer_fault")) = true := T.f_answer_fault.kp
theorem Tx.b_answer_fault : Binds K (fdOf K (He.ga K "answer_fault")) ["history", "order"] [] := T.f_answer_fault.binds fun _ _ _ _ _ _ us hl => match us, hl with | [_, _], _ => rfl
theorem Tx.f_missing_fault : Fun K "missing_fault" "missing_fault" s_missing_fault (He.ga K "missing_fault") (fdOf K (He.ga K "missing_fault")) := fun_ofD (T.c.def_ 12)
theorem Tx.kp_missing_fault : PySem.W.keepIn K (.ref (He.ga K "missing_fault")) = true := T.f_missing_fault.kp
theorem Tx.b_missing_fault : Binds K (fdOf K (He.ga K "missing_fault")) ["history", "order"] [] := T.f_missing_fault.binds fun _ _ _ _ _ _ us hl => match us, hl with | [_, _], _ => rfl
theorem Tx.f_time_fault : Fun K "time_fault" "time_fault" s_time_fault (He.ga K "time_fault") (fdOf K (He.ga K "time_fault")) := fun_ofD (T.c.def_ 13)
theorem Tx.kp_time_fault : PySem.W.keepIn K (.ref (He.ga K "time_fault")) = true := T.f_time_fault.kp
theorem Tx.b_time_fault : Binds K (fdOf K (He.ga K "time_fault")) ["history", "order"] [] := T.f_time_fault.binds fun _ _ _ _ _ _ us hl => match us, hl with | [_, _], _ => rfl
theorem Tx.f_fault_of : Fun K "fault_of" "fault_of" s_fault_of (He.ga K "fault_of") (fdOf K (He.ga K "fault_of")) := fun_ofD (T.c.def_ 14)
theorem Tx.kp_fault_of : PySem.W.keepIn K (.ref (He.ga K "fault_of")) = true := T.f_fault_of.kp
theorem Tx.b_fault_of : Binds K (fdOf K (He.ga K "fault_of")) ["history", "order"] [] := T.f_fault_of.binds fun _ _ _ _ _ _ us hl => match us, hl with | [_, _], _ => rfl
theorem Tx.f_store_behind : Fun K "store_behind" "store_behind" s_store_behind (He.ga K "store_behind") (fdOf K (He.ga K "store_behind")) := fun_ofD (T.c.def_ 15)
theorem Tx.kp_store_behind : PySem.W.keepIn K (.ref (He.ga K "store_behind")) = true := T.f_store_behind.kp
theorem Tx.b_store_behind : Binds K (fdOf K (He.ga K "store_behind")) ["history", "order"] [] := T.f_store_behind.binds fun _ _ _ _ _ _ us hl => match us, hl with | [_, _], _ => rfl
theorem Tx.f_l_number : Fun K "_law_number" "_law_number" s_l_number (He.ga K "_law_number") (fdOf K (He.ga K "_law_number")) := fun_ofD (T.c.def_ 16)
theorem Tx.kp_l_number : PySem.W.keepIn K (.ref (He.ga K "_law_number")) = true := T.f_l_number.kp
theorem Tx.b_l_number : Binds K (fdOf K (He.ga K "_law_number")) ["_law_script", "_law_k"] [] := T.f_l_number.binds fun _ _ _ _ _ _ us hl => match us, hl with | [_, _], _ => rfl
theorem Tx.f_l_take : Fun K "_law_take" "_law_take" s_l_take (He.ga K "_law_take") (fdOf K (He.ga K "_law_take")) := fun_ofD (T.c.def_ 17)
theorem Tx.kp_l_take : PySem.W.keepIn K (.ref (He.ga K "_law_take")) = true := T.f_l_take.kp
theorem Tx.b_l_take : Binds K (fdOf K (He.ga K "_law_take")) ["_law_box", "_law_size"] [] := T.f_l_take.binds fun _ _ _ _ _ _ us hl => match us, hl with | [_, _], _ => rfl
theorem Tx.f_l_key : Fun K "_law_key" "_law_key" s_l_key (He.ga K "_law_key") (fdOf K (He.ga K "_law_key")) := fun_ofD (T.c.def_ 18)
theorem Tx.kp_l_key : PySem.W.keepIn K (.ref (He.ga K "_law_key")) = true := T.f_l_key.kp
theorem Tx.b_l_key : Binds K (fdOf K (He.ga K "_law_key")) ["_law_box", "_law_sign"] [] := T.f_l_key.binds fun _ _ _ _ _ _ us hl => match us, hl with | [_, _], _ => rfl
theorem Tx.f_l_keys : Fun K "_law_keys" "_law_keys" s_l_keys (He.ga K "_law_keys") (fdOf K (He.ga K "_law_keys")) := fun_ofD (T.c.def_ 19)
theorem Tx.kp_l_keys : PySem.W.keepIn K (.ref (He.ga K "_law_keys")) = true := T.f_l_keys.kp
theorem Tx.b_l_keys : Binds K (fdOf K (He.ga K "_law_keys")) ["_law_box"] [] := T.f_l_keys.binds fun _ _ _ _ _ _ us hl => match us, hl with | [_], _ => rfl
theorem Tx.f_l_value : Fun K "_law_value" "_law_value" s_l_value (He.ga K "_law_value") (fdOf K (He.ga K "_law_value")) := fun_ofD (T.c.def_ 20)
theorem Tx.kp_l_value : PySem.W.keepIn K (.ref (He.ga K "_law_value")) = true := T.f_l_value.kp
theorem Tx.b_l_value : Binds K (fdOf K (He.ga K "_law_value")) ["_law_box"] [] := T.f_l_value.binds fun _ _ _ _ _ _ us hl => match us, hl with | [_], _ => rfl
theorem Tx.f_l_maybe : Fun K "_law_maybe" "_law_maybe" s_l_maybe (He.ga K "_law_maybe") (fdOf K (He.ga K "_law_maybe")) := fun_ofD (T.c.def_ 21)
theorem Tx.kp_l_maybe : PySem.W.keepIn K (.ref (He.ga K "_law_maybe")) = true := T.f_l_maybe.kp
theorem Tx.b_l_maybe : Binds K (fdOf K (He.ga K "_law_maybe")) ["_law_box"] [] := T.f_l_maybe.binds fun _ _ _ _ _ _ us hl => match us, hl with | [_], _ => rfl
theorem Tx.f_l_deed : Fun K "_law_deed" "_law_deed" s_l_deed (He.ga K "_law_deed") (fdOf K (He.ga K "_law_deed")) := fun_ofD (T.c.def_ 22)
theorem Tx.kp_l_deed : PySem.W.keepIn K (.ref (He.ga K "_law_deed")) = true := T.f_l_deed.kp
theorem Tx.b_l_deed : Binds K (fdOf K (He.ga K "_law_deed")) ["_law_box", "_law_keys_here"] [] := T.f_l_deed.binds fun _ _ _ _ _ _ us hl => match us, hl with | [_, _], _ => rfl
theorem Tx.f_l_deal : Fun K "_law_deal" "_law_deal" s_l_deal (He.ga K "_law_deal") (fdOf K (He.ga K "_law_deal")) := fun_ofD (T.c.def_ 23)
theorem Tx.kp_l_deal : PySem.W.keepIn K (.ref (He.ga K "_law_deal")) = true := T.f_l_deal.kp
theorem Tx.b_l_deal : Binds K (fdOf K (He.ga K "_law_deal")) ["_law_box", "_law_keys_here", "_law_rows"] [] := T.f_l_deal.binds fun _ _ _ _ _ _ us hl => match us, hl with | [_, _, _], _ => rfl
theorem Tx.f_l_done : Fun K "_law_done" "_law_done" s_l_done (He.ga K "_law_done") (fdOf K (He.ga K "_law_done")) := fun_ofD (T.c.def_ 24)
theorem Tx.kp_l_done : PySem.W.keepIn K (.ref (He.ga K "_law_done")) = true := T.f_l_done.kp
theorem Tx.b_l_done : Binds K (fdOf K (He.ga K "_law_done")) ["_law_rows", "_law_deed_here"] [] := T.f_l_done.binds fun _ _ _ _ _ _ us hl => match us, hl with | [_, _], _ => rfl
theorem Tx.f_l_do : Fun K "_law_do" "_law_do" s_l_do (He.ga K "_law_do") (fdOf K (He.ga K "_law_do")) := fun_ofD (T.c.def_ 25)
theorem Tx.kp_l_do : PySem.W.keepIn K (.ref (He.ga K "_law_do")) = true := T.f_l_do.kp
theorem Tx.b_l_do : Binds K (fdOf K (He.ga K "_law_do")) ["_law_rows", "_law_deal_here"] [] := T.f_l_do.binds fun _ _ _ _ _ _ us hl => match us, hl with | [_, _], _ => rfl
theorem Tx.f_l_names : Fun K "_law_names" "_law_names" s_l_names (He.ga K "_law_names") (fdOf K (He.ga K "_law_names")) := fun_ofD (T.c.def_ 26)
theorem Tx.kp_l_names : PySem.W.keepIn K (.ref (He.ga K "_law_names")) = true := T.f_l_names.kp
theorem Tx.b_l_names : Binds K (fdOf K (He.ga K "_law_names")) ["_law_deal_here"] [] := T.f_l_names.binds fun _ _ _ _ _ _ us hl => match us, hl with | [_], _ => rfl
theorem Tx.f_l_history : Fun K "_law_history" "_law_history" s_l_history (He.ga K "_law_history") (fdOf K (He.ga K "_law_history")) := fun_ofD (T.c.def_ 27)
theorem Tx.kp_l_history : PySem.W.keepIn K (.ref (He.ga K "_law_history")) = true := T.f_l_history.kp
theorem Tx.b_l_history : Binds K (fdOf K (He.ga K "_law_history")) ["_law_script", "_law_keys_here", "_law_count"] [] := T.f_l_history.binds fun _ _ _ _ _ _ us hl => match us, hl with | [_, _, _], _ => rfl
theorem Tx.f_l_closed : Fun K "_law_closed" "_law_closed" s_l_closed (He.ga K "_law_closed") (fdOf K (He.ga K "_law_closed")) := fun_ofD (T.c.def_ 28)
theorem Tx.kp_l_closed : PySem.W.keepIn K (.ref (He.ga K "_law_closed")) = true := T.f_l_closed.kp
theorem Tx.b_l_closed : Binds K (fdOf K (He.ga K "_law_closed")) ["_law_row", "_law_call", "_law_events"] [] := T.f_l_closed.binds fun _ _ _ _ _ _ us hl => match us, hl with | [_, _, _], _ => rfl
theorem Tx.f_l_fate : Fun K "_law_fate" "_law_fate" s_l_fate (He.ga K "_law_fate") (fdOf K (He.ga K "_law_fate")) := fun_ofD (T.c.def_ 29)
theorem Tx.kp_l_fate : PySem.W.keepIn K (.ref (He.ga K "_law_fate")) = true := T.f_l_fate.kp
theorem Tx.b_l_fate : Binds K (fdOf K (He.ga K "_law_fate")) ["_law_box", "_law_rows", "_law_call", "_law_order"] [] := T.f_l_fate.binds fun _ _ _ _ _ _ us hl => match us, hl with | [_, _, _, _], _ => rfl
theorem Tx.f_l_record : Fun K "_law_record" "_law_record" s_l_record (He.ga K "_law_record") (fdOf K (He.ga K "_law_record")) := fun_ofD (T.c.def_ 30)
theorem Tx.kp_l_record : PySem.W.keepIn K (.ref (He.ga K "_law_record")) = true := T.f_l_record.kp
theorem Tx.b_l_record : Binds K (fdOf K (He.ga K "_law_record")) ["_law_history_here", "_law_name"] [] := T.f_l_record.binds fun _ _ _ _ _ _ us hl => match us, hl with | [_, _], _ => rfl
theorem Tx.f_l_names_fault : Fun K "_law_names_fault" "_law_names_fault" s_l_names_fault (He.ga K "_law_names_fault") (fdOf K (He.ga K "_law_names_fault")) := fun_ofD (T.c.def_ 31)
theorem Tx.kp_l_names_fault : PySem.W.keepIn K (.ref (He.ga K "_law_names_fault")) = true := T.f_l_names_fault.kp
theorem Tx.b_l_names_fault : Binds K (fdOf K (He.ga K "_law_names_fault")) ["_law_history_here", "_law_order"] [] := T.f_l_names_fault.binds fun _ _ _ _ _ _ us hl => match us, hl with | [_, _], _ => rfl
theorem Tx.f_l_answers_fault : Fun K "_law_answers_fault" "_law_answers_fault" s_l_answers_fault (He.ga K "_law_answers_fault") (fdOf K (He.ga K "_law_answers_fault")) := fun_ofD (T.c.def_ 32)
theorem Tx.kp_l_answers_fault : PySem.W.keepIn K (.ref (He.ga K "_law_answers_fault")) = true := T.f_l_answers_fault.kp
theorem Tx.b_l_answers_fault : Binds K (fdOf K (He.ga K "_law_answers_fault")) ["_law_history_here", "_law_order"] [] := T.f_l_answers_fault.binds fun _ _ _ _ _ _ us hl => match us, hl with | [_, _], _ => rfl
theorem Tx.f_l_rest_fault : Fun K "_law_rest_fault" "_law_rest_fault" s_l_rest_fault (He.ga K "_law_rest_fault") (fdOf K (He.ga K "_law_rest_fault")) := fun_ofD (T.c.def_ 33)
theorem Tx.kp_l_rest_fault : PySem.W.keepIn K (.ref (He.ga K "_law_rest_fault")) = true := T.f_l_rest_fault.kp
theorem Tx.b_l_rest_fault : Binds K (fdOf K (He.ga K "_law_rest_fault")) ["_law_history_here", "_law_order"] [] := T.f_l_rest_fault.binds fun _ _ _ _ _ _ us hl => match us, hl with | [_, _], _ => rfl
theorem Tx.f_l_fault : Fun K "_law_fault" "_law_fault" s_l_fault (He.ga K "_law_fault") (fdOf K (He.ga K "_law_fault")) := fun_ofD (T.c.def_ 34)
theorem Tx.kp_l_fault : PySem.W.keepIn K (.ref (He.ga K "_law_fault")) = true := T.f_l_fault.kp
theorem Tx.b_l_fault : Binds K (fdOf K (He.ga K "_law_fault")) ["_law_history_here", "_law_order"] [] := T.f_l_fault.binds fun _ _ _ _ _ _ us hl => match us, hl with | [_, _], _ => rfl
theorem Tx.f_l_changed : Fun K "_law_changed" "_law_changed" s_l_changed (He.ga K "_law_changed") (fdOf K (He.ga K "_law_changed")) := fun_ofD (T.c.def_ 35)
theorem Tx.kp_l_changed : PySem.W.keepIn K (.ref (He.ga K "_law_changed")) = true := T.f_l_changed.kp
theorem Tx.b_l_changed : Binds K (fdOf K (He.ga K "_law_changed")) ["_law_history_here", "_law_order", "_law_box"] [] := T.f_l_changed.binds fun _ _ _ _ _ _ us hl => match us, hl with | [_, _, _], _ => rfl
theorem Tx.f_l_other : Fun K "_law_other" "_law_other" s_l_other (He.ga K "_law_other") (fdOf K (He.ga K "_law_other")) := fun_ofD (T.c.def_ 36)
theorem Tx.kp_l_other : PySem.W.keepIn K (.ref (He.ga K "_law_other")) = true := T.f_l_other.kp
theorem Tx.b_l_other : Binds K (fdOf K (He.ga K "_law_other")) ["_law_record_here", "_law_name"] [] := T.f_l_other.binds fun _ _ _ _ _ _ us hl => match us, hl with | [_, _], _ => rfl
theorem Tx.f_law : Fun K "law" "law" s_law (He.ga K "law") (fdOf K (He.ga K "law")) := fun_ofD (T.c.def_ 37)
theorem Tx.kp_law : PySem.W.keepIn K (.ref (He.ga K "law")) = true := T.f_law.kp
theorem Tx.bT_law (s : Shared) (us : List Value) (hl : us.length = 1) : BindsTo s (fdOf K (He.ga K "law")) ⟨us, []⟩ ([("_law_script" : Str)].zip us) := bindsT (ps := [("_law_script" : Str)]) T.f_law (fun _ _ _ _ _ _ us hl => match us, hl with | [_], _ => rfl) s us hl
theorem Tx.b_law : Binds K (fdOf K (He.ga K "law")) ["_law_script"] [] := T.f_law.binds fun _ _ _ _ _ _ us hl => match us, hl with | [_], _ => rfl
theorem Tx.cls_Store : Cls K (He.ga K "Store") := He.cls_ok (T.c.fact 20)
theorem Tx.no_Store_rows : NoAttr K (He.ga K "Store") "rows" := He.noat_ok (T.c.fact 21)
theorem Tx.mk_Store : Mk K (He.ga K "Store") (He.ma K (He.ga K "Store") "__init__") := He.mkr_ok (T.c.fact 31)
theorem Tx.me_Store_do : Meth K (He.ga K "Store") "do" (He.ma K (He.ga K "Store") "do") := He.meth_ok (T.c.fact 33)
theorem Tx.tb_DECIDED : TpK K (He.ga K "DECIDED") [V.str "done", V.str "unheld"] := tpk_of fun H => He.tupB_ok T.m H
end
local macro_rules | `(tactic| walk_at "s") => `(tactic| first
  | with_reducible refine w_seq ?_ | with_reducible refine w_asg ?_ | ((with_reducible refine' w_var ?h ?_); (case h => exact rfl)) | with_reducible refine w_c ?_ | with_reducible refine w_op ?_
  | with_reducible refine w_I0 ?_ | with_reducible refine w_cons ?_ | with_reducible refine w_nil ?_ | with_reducible refine w_cb ?_ | with_reducible refine w_int ?_ | with_reducible refine w_asgG ?_
  | with_reducible refine w_gSub ?_ | with_reducible refine w_ret ?_ | with_reducible refine w_retN ?_ | with_reducible refine w_drop ?_ | with_reducible refine w_next ?_ | with_reducible refine w_ifS ?_
  | with_reducible refine w_test ?_ | with_reducible refine w_tB ?_ | with_reducible refine w_bl ?_ | with_reducible refine w_not ?_ | with_reducible refine w_and ?_ | with_reducible refine w_or ?_ | with_reducible refine w_call ?_
  | ((with_reducible refine w_eq ?h ?_); (case h => exact rfl)) | ((with_reducible refine w_ne ?h ?_); (case h => exact rfl)) | with_reducible refine w_tup ?_ | with_reducible refine w_lst ?_ | with_reducible refine w_bm ?_
  | with_reducible refine w_isNo ?_ | with_reducible refine w_noNo ?_ | ((with_reducible refine w_I ?h ?_); (case h => first | (show (0 : Int) < _; decide) | exact Or.inl ⟨by decide, by decide⟩ | exact Or.inr ⟨by decide, by decide⟩ | exact ⟨by decide, by decide⟩ | exact ⟨by decide, by decide, by decide⟩))
  | with_reducible refine w_yes ?_ | with_reducible refine w_gName ?_ | with_reducible refine w_gCons ?_ | with_reducible refine w_gNil ?_ | with_reducible refine w_truth ?_ | with_reducible refine w_lcOpen ?_ | with_reducible refine w_iList ?_ | with_reducible refine w_iTup ?_ | with_reducible refine w_par ?_ | with_reducible refine w_two ?_
  | with_reducible refine w_sl ?_ | with_reducible refine w_part ?_ | with_reducible refine w_int1 ?_ | with_reducible refine w_noPart ?_ | with_reducible refine w_chain ?_ | with_reducible refine w_dgetS ?_ | with_reducible refine w_dget1 ?_ | with_reducible refine w_dget2 ?_ | with_reducible refine w_dpop1 ?_
  | with_reducible refine w_dinS ?_ | with_reducible refine w_dnotinS ?_ | with_reducible refine w_dputS ?_ | with_reducible refine w_ddelS ?_ | with_reducible refine w_fldS ?_ | with_reducible refine w_sfldS ?_ | with_reducible refine w_methS ?_ | with_reducible refine w_makeS ?_
  | with_reducible refine w_iStr ?_ | with_reducible refine w_strA ?_ | with_reducible refine w_dnewK ?_ | with_reducible refine w_iEnum ?_ | with_reducible refine w_un ?_ | with_reducible refine w_rU ?_ | with_reducible refine w_andV ?_ | with_reducible refine w_orV ?_ | with_reducible refine w_notV ?_ | with_reducible refine w_for ?_ | with_reducible refine w_rng1 ?_)
local macro_rules | `(tactic| walk_at "g") => `(tactic| repeat walk_at "s")
section
variable {P : Program} {w : World} {K : PySem.W.Frag} {mg : Str → Option Value} {base : Heap}
theorem ok_l_take (T : Tx K mg) : FnOk P w K mg base CX0 1 (He.ga K "_law_take") (fdOf K (He.ga K "_law_take")) ["_law_box", "_law_size"] spTake := by
  refine T.f_l_take.ok sc_l_take
    (fun vs H Q E h => ?_) (fun cdv A outer s H vs Q E hr h => ?_)
  · obtain ⟨a, b, n, rfl, _⟩ := h
    rfl
  · obtain ⟨a, b, n, rfl, hb, hn, hn2, k⟩ := h
    refine ⟨_, (pss_cons (ps_set (i := 2) sc_l_take.nd rfl (Or.inl rfl) (pe_op op_mod (pe_callTy call_intI (by rfl) (T.fre 0) (by decide +kernel) (pa_cons (pe_ix (ixL_K (K := K) rfl) (pv 0) pe_int (fun _ _ => rfl)) pa_nil)) (pv 1)))
 (pss_cons (ps_asg (pe_op op_fdiv (pe_ix (ixL_K (K := K) rfl) (pv 0) pe_int (fun _ _ => rfl)) (pv 1)) (pg_sub (pv 0) pe_int set_list))
 (pss_one (ps_ret (pv 2))))), ?_⟩
    walk_at "g"
    refine w_ixL (v := .int b) (SqL.of hb) (by rfl) ?_
    walk_at "g"
    refine w_I hn ?_
    walk_at "g"
    refine w_ixL (v := .int b) (SqL.of hb) (by rfl) ?_
    walk_at "g"
    refine w_I ⟨hn, hn2⟩ ?_
    walk_at "g"
    refine w_setL hb rfl ?_
    walk_at "g"
    exact k
theorem ok_l_number (T : Tx K mg) : FnOk P w K mg base CX0 1 (He.ga K "_law_number") (fdOf K (He.ga K "_law_number")) ["_law_script", "_law_k"] (spNumber K) := by
  refine T.f_l_number.ok sc_l_number
    (fun vs H Q E h => ?_) (fun cdv A outer s H vs Q E hr h => ?_)
  · obtain ⟨a, b, n, rfl, _⟩ := h
    rfl
  · obtain ⟨a, k, ns, rfl, hs, hk, q⟩ := h
    have hs := hs.sq
    refine ⟨_, (pss_cons (ps_set (i := 2) sc_l_number.nd rfl (Or.inl rfl) pe_int)
 (Evl.pss_cut (ps_if (pt_cmpR op_gt (pe_callB (lenS_K (K := K) rfl) (by rfl) (T.fre 4) (by decide +kernel) (pa_cons (pv 0) pa_nil)) pe_int (nomark _))
 (pss_one (ps_set (i := 2) sc_l_number.nd rfl (Or.inl rfl) (pe_ix (ixL_K (K := K) rfl) (pv 0) (pe_op op_mod (pe_callTy call_intI (by rfl) (T.fre 0) (by decide +kernel) (pa_cons (pv 1) pa_nil)) (pe_callB (lenS_K (K := K) rfl) (by rfl) (T.fre 4) (by decide +kernel) (pa_cons (pv 0) pa_nil))) (fun _ _ => rfl))))
 pss_nil)
 (Evl.pss_cut (ps_if (pt_cmpR op_lt (pv 2) pe_int (nomark _))
 (pss_one (ps_set (i := 2) sc_l_number.nd rfl (Or.inl rfl) (pe_op op_sub pe_int (pe_op op_mul pe_int (pv 2)))))
 pss_nil)
 (pss_cons (ps_if (PW.pt (pw_and (pt_cmpR op_ge (pv 2) (pe_op op_pow pe_int pe_int) (nomark _)) (pw_and1 (pt_cmpR op_lt (pv 1) (pe_callB (lenS_K (K := K) rfl) (by rfl) (T.fre 4) (by decide +kernel) (pa_cons (pv 0) pa_nil)) (nomark _)))))
 (pss_one (ps_ret (pv 2)))
 pss_nil)
 (pss_cons (ps_set (i := 3) sc_l_number.nd rfl (Or.inl rfl) (pe_op op_mod (pe_callTy call_intI (by rfl) (T.fre 0) (by decide +kernel) (pa_cons (pe_op op_add (pe_op op_mul (pe_op op_add (pv 2) pe_int) pe_int) (pe_op op_mul (pe_op op_add (pv 1) pe_int) pe_int)) pa_nil)) pe_int))
 (pss_cons (ps_set (i := 4) sc_l_number.nd rfl (Or.inl rfl) (pe_op op_mod (pe_callTy call_intI (by rfl) (T.fre 0) (by decide +kernel) (pa_cons (pe_op op_add (pe_op op_add (pe_op op_mul (pe_op op_add (pv 3) pe_int) pe_int) (pe_op op_mul (pe_op op_add (pv 2) pe_int) pe_int)) (pv 1)) pa_nil)) pe_int))
 (pss_one (ps_ret (pe_op op_mod (pe_callTy call_intI (by rfl) (T.fre 0) (by decide +kernel) (pa_cons (pe_op op_add (pe_op op_add (pe_op op_mul (pv 3) pe_int) (pe_op op_mul (pv 4) pe_int)) (pv 2)) pa_nil)) pe_int))))))))), ?_⟩
    walk_at "g"
    refine w_cut (M := fun σ' H' => ∃ c : Int, σ' = [some (.ref a), some (.int k), some (.int c), none, none] ∧ H' = H) ?_ ?_
    · walk_at "g"
      refine w_lenL hs ?_
      walk_at "g"
      refine ⟨fun h => ?_, fun _ => ?_⟩
      · have h := of_decide_eq_true h
        rw [List.length_map] at h
        walk_at "g"
        refine w_lenL hs ?_
        walk_at "g"
        refine w_I (by rw [List.length_map]; exact h) ?_
        have e1 : 0 ≤ k % ((ns.map V.int).length : Int) := Int.emod_nonneg _ (by rw [List.length_map]; omega)
        have e2 : k % ((ns.map V.int).length : Int) < ((ns.map V.int).length : Int) := Int.emod_lt_of_pos _ (by rw [List.length_map]; omega)
        rw [List.length_map] at e1 e2
        refine w_ixL (v := .int (ns.getD (k % (ns.length : Int)).toNat 0)) hs ?_ ?_
        · rw [List.length_map]
          have e3 : k % (ns.length : Int) = ((k % (ns.length : Int)).toNat : Int) := by omega
          rw [e3]
          refine atI_nat ?_
          have e4 : (k % (ns.length : Int)).toNat < ns.length := by omega
          rw [List.getElem?_map, ← e3, List.getElem?_eq_getElem e4, List.getD_eq_getElem?_getD, List.getElem?_eq_getElem e4]
          rfl
        · exact ⟨_, rfl, rfl⟩
      · exact ⟨0, rfl, rfl⟩
    · rintro _ H ⟨c, rfl, rfl⟩
      refine w_cut (M := fun σ' H' => ∃ c : Int, σ' = [some (.ref a), some (.int k), some (.int c), none, none] ∧ H' = H) ?_ ?_
      · walk_at "g"
        refine ⟨fun _ => ?_, fun _ => ⟨c, rfl, rfl⟩⟩
        walk_at "g"
        exact ⟨_, rfl, rfl⟩
      · rintro _ H ⟨c, rfl, rfl⟩
        walk_at "g"
        refine ⟨fun _ => ?_, fun _ => ?_⟩
        · walk_at "g"
          refine w_lenL hs ?_
          walk_at "g"
          refine ⟨fun _ => ?_, fun _ => ?_⟩
          · walk_at "g"
            exact q _
          · walk_at "g"
            exact q _
        · refine ⟨nofun, fun _ => ?_⟩
          walk_at "g"
          exact q _

--CUT
/-! ### numbers, texts as values -/
theorem ok_is_integer (T : Tx K mg) : FnOk P w K mg base CX0 1 (He.ga K "is_integer") (fdOf K (He.ga K "is_integer")) ["data"] (fun vs H Q _ => ∃ v, vs = [v] ∧ isVal0 v = true ∧ ∀ b : Bool, (b = true ↔ ∃ i, v = V.int i) → Q (.bl b) H) := by
  refine T.f_is_integer.ok sc_is_integer
    (fun vs H Q E h => ?_) (fun cdv A outer s H vs Q E hr h => ?_)
  · obtain ⟨v, rfl, _⟩ := h
    rfl
  · obtain ⟨v, rfl, hv, q⟩ := h
    refine ⟨_, (pss_one (ps_ret (pe_and (pe_callB (isi_K (K := K) rfl) (by rfl) (T.fre 10) (by decide +kernel) (pa_cons (pv 0) (pa_cons (pe_bltn (v := .ty "int") (by rfl) (T.fre 0) (by decide +kernel) rfl) pa_nil))) (pe_one (pe_not (pe_callB (isi_K (K := K) rfl) (by rfl) (T.fre 10) (by decide +kernel) (pa_cons (pv 0) (pa_cons (pe_bltn (v := .ty "bool") (by rfl) (T.fre 22) (by decide +kernel) rfl) pa_nil)))))))), ?_⟩
    walk_at "g"
    cases v <;> first | (cases hv; done) | skip
    · refine w_isi tyxNon (b := false) (by decide +kernel) ?_
      exact ⟨false, rfl, nofun, fun _ => q _ (by simp)⟩
    · refine w_isi tyxInt (b := true) (by decide +kernel) ?_
      refine ⟨true, rfl, fun _ => ?_, nofun⟩
      walk_at "g"
      refine w_isi tyxInt (b := false) (by decide +kernel) ?_
      exact ⟨false, rfl, q _ (by simp)⟩
    · refine w_isi tyxStr (b := false) (by decide +kernel) ?_
      exact ⟨false, rfl, nofun, fun _ => q _ (by simp)⟩
theorem ok_is_value (T : Tx K mg) : FnOk P w K mg base CX0 2 (He.ga K "is_value") (fdOf K (He.ga K "is_value")) ["data"] (fun vs H Q _ => ∃ i : Int, vs = [.int i] ∧ ∀ b : Bool, (b = true ↔ -1000000000000000 ≤ i ∧ i ≤ 1000000000000000) → Q (.bl b) H) := by
  refine T.f_is_value.ok sc_is_value
    (fun vs H Q E h => ?_) (fun cdv A outer s H vs Q E hr h => ?_)
  · obtain ⟨v, rfl, _⟩ := h
    rfl
  · obtain ⟨v, rfl, q⟩ := h
    refine ⟨_, (pss_cons (ps_if (pt_val (pe_call (ok_is_integer T) (hr.mono (by decide)) rfl (T.glo 23) (T.kp_is_integer) (T.b_is_integer) .nil pass0 (pa_cons (pv 0) pa_nil)))
 (pss_one (ps_ret (pe_chain op_le op_le (pe_un un_neg (pe_glob (v := .int (1000000000000000)) rfl (T.int 24).choose_spec ⟨_, rfl⟩)) (pv 0) (pe_glob (v := .int (1000000000000000)) rfl (T.int 24).choose_spec ⟨_, rfl⟩))))
 pss_nil)
 (pss_one (ps_ret (pe_and (pe_callB (isi_K (K := K) rfl) (by rfl) (T.fre 10) (by decide +kernel) (pa_cons (pv 0) (pa_cons (pe_bltn (v := .ty "str") (by rfl) (T.fre 26) (by decide +kernel) rfl) pa_nil))) (pe_one (pe_cmpR op_le (pe_callB call_lenT (by rfl) (T.fre 4) (by decide +kernel) (pa_cons (pv 0) pa_nil)) (pe_glob (v := .int (20)) rfl (T.int 25).choose_spec ⟨_, rfl⟩) (nomark _))))))), ?_⟩
    walk_at "g"
    refine ⟨_, rfl, rfl, fun b hb => ?_⟩
    walk_at "g"
    refine ⟨fun _ => ?_, fun h => absurd (hb.mpr ⟨v, rfl⟩) (by rw [h]; decide)⟩
    walk_at "g"
    refine ⟨fun h => ?_, fun h => q _ ?_⟩
    · have h := of_decide_eq_true h
      walk_at "g"
      exact q _ (by rw [decide_eq_true_iff]; omega)
    · have h := of_decide_eq_false h
      simp only [Bool.false_eq_true, false_iff]
      omega
theorem ok_apply_add (T : Tx K mg) : FnOk P w K mg base CX0 3 (He.ga K "apply_add") (fdOf K (He.ga K "apply_add")) ["rows", "key", "number"] (fun vs H Q _ => ∃ (a : Addr) (kvs : Rws) (k : Str) (n : Int), vs = [.ref a, .str k, .int n] ∧ H a = some (.dK kvs) ∧ (Deed.add k n).ok ∧ Rok kvs ∧ kvs.length ≤ 10006 ∧ ∀ H', Ch [a] H H' → H' a = some (.dK (doDeed kvs (.add k n)).2) → Q (doDeed kvs (.add k n)).1 H') := by
  refine T.f_apply_add.ok sc_apply_add
    (fun vs H Q E h => ?_) (fun cdv A outer s H vs Q E hr h => ?_)
  · obtain ⟨a, kvs, k, n, rfl, _⟩ := h
    rfl
  · obtain ⟨a, kvs, k, n, rfl, ha, ok, rk, few, q⟩ := h
    refine ⟨_, (pss_cons (ps_set (i := 3) sc_apply_add.nd rfl (Or.inl rfl) (pe_dget2 (hu_of hr) (pv 0) (pv 1) pe_int ⟨rfl, rfl, rfl, rfl⟩))
 (pss_cons (ps_if (PW.pt (pw_or (pt_not (pt_val (pe_call (ok_is_integer T) (hr.mono (by decide)) rfl (T.glo 23) (T.kp_is_integer) (T.b_is_integer) .nil pass0 (pa_cons (pv 3) pa_nil)))) (pw_or1 (pt_not (pt_val (pe_call (ok_is_value T) (hr.mono (by decide)) rfl (T.glo 27) (T.kp_is_value) (T.b_is_value) .nil pass0 (pa_cons (pe_op op_add (pv 3) (pv 2)) pa_nil)))))))
 (pss_one (ps_ret pe_non))
 pss_nil)
 (pss_cons (ps_dput (hu_of hr) (pv 0) (pv 1) (pe_op op_add (pv 3) (pv 2)) rfl)
 (pss_one (ps_ret (pe_dget (hu_of hr) (pv 0) (pv 1) (fun _ _ => rfl))))))), ?_⟩
    walk_at "g"
    refine ⟨a, rfl, .inl ⟨kvs, .inl ha⟩, ?_⟩
    walk_at "g"
    refine ⟨_, dgS ha, ?_⟩
    have put : ∀ (m : Int) (x : V), doDeed kvs (.add k n) = (.int m, putK kvs (Sum.inr k) (.int m)) → DPut H a (.str k) (.int m) (upd H a (.dK (putK kvs (Sum.inr k) (.int m)))) ∧ Ch [a] H (upd H a (.dK (putK kvs (Sum.inr k) (.int m)))) ∧ DGet (upd H a (.dK (putK kvs (Sum.inr k) (.int m)))) a (.str k) (some (.int m)) := fun m x _ => ⟨dpS ha (by omega), Ch.upd ha rfl, dgPut⟩
    cases e : valV kvs (Sum.inr k) with
    | none =>
      have e2 : doDeed kvs (.add k n) = (.int n, putK kvs (Sum.inr k) (.int n)) := by simp only [doDeed, look, e, Option.getD_none]
      rw [e2] at q
      walk_at "g"
      refine ⟨_, rfl, rfl, fun b hb => ?_⟩
      obtain rfl : b = true := hb.mpr ⟨_, rfl⟩
      walk_at "g"
      refine w_no rfl ?_
      walk_at "g"
      refine w_I0 (m := 0) (n := n) ?_
      walk_at "g"
      refine ⟨_, rfl, fun b hb => ?_⟩
      obtain rfl : b = true := hb.mpr (by have := ok.2; omega)
      walk_at "g"
      refine w_no rfl ?_
      walk_at "g"
      refine w_I0 (m := 0) (n := n) ?_
      rw [Int.zero_add]
      walk_at "g"
      obtain ⟨p1, p2, p3⟩ := put n (.int n) e2
      refine ⟨a, _, rfl, p1, ?_⟩
      walk_at "g"
      exact ⟨a, _, rfl, p3, q _ p2 upd_same⟩
    | some v =>
      have hv := rk.val e
      cases v <;> first | (cases hv; done) | skip
      · rename_i m
        walk_at "g"
        refine ⟨_, rfl, rfl, fun b hb => ?_⟩
        obtain rfl : b = true := hb.mpr ⟨_, rfl⟩
        walk_at "g"
        refine w_no rfl ?_
        walk_at "g"
        refine w_I0 (m := m) (n := n) ?_
        walk_at "g"
        refine ⟨_, rfl, fun b hb => ?_⟩
        cases b with
        | false =>
          have e2 : doDeed kvs (.add k n) = (.non, kvs) := by
            simp only [doDeed, look, e, Option.getD_some]
            exact if_neg fun h => by simpa using hb.mpr h
          rw [e2] at q
          walk_at "g"
          refine w_ye rfl ?_
          walk_at "g"
          exact q H (Ch.refl H) ha
        | true =>
          have e2 : doDeed kvs (.add k n) = (.int (m + n), putK kvs (Sum.inr k) (.int (m + n))) := by
            simp only [doDeed, look, e, Option.getD_some]
            exact if_pos (hb.mp rfl)
          rw [e2] at q
          walk_at "g"
          refine w_no rfl ?_
          walk_at "g"
          refine w_I0 (m := m) (n := n) ?_
          walk_at "g"
          obtain ⟨p1, p2, p3⟩ := put (m + n) (.int n) e2
          refine ⟨a, _, rfl, p1, ?_⟩
          walk_at "g"
          exact ⟨a, _, rfl, p3, q _ p2 upd_same⟩
      · have e2 : doDeed kvs (.add k n) = (.non, kvs) := by simp only [doDeed, look, e, Option.getD_some]
        rw [e2] at q
        walk_at "g"
        refine ⟨_, rfl, hv, fun b hb => ?_⟩
        obtain rfl : b = false := by
          cases b with
          | false => rfl
          | true => obtain ⟨i, z⟩ := hb.mp rfl; cases z
        walk_at "g"
        refine w_ye rfl ?_
        refine w_ye rfl ?_
        walk_at "g"
        exact q H (Ch.refl H) ha
theorem ok_apply_deed (T : Tx K mg) : FnOk P w K mg base CX0 4 (He.ga K "apply_deed") (fdOf K (He.ga K "apply_deed")) ["rows", "deed"] (spDeed K) := by
  refine T.f_apply_deed.ok sc_apply_deed
    (fun vs H Q E h => ?_) (fun cdv A outer s H vs Q E hr h => ?_)
  · obtain ⟨a, kvs, dv, x, rfl, _⟩ := h
    rfl
  · obtain ⟨a, kvs, dv, x, rfl, ha, hd, ok, rk, few, q⟩ := h
    refine ⟨_, (pss_cons (ps_set (i := 2) sc_apply_deed.nd rfl (Or.inl rfl) (pe_ix (ixT_K (K := K) rfl) (pv 1) pe_int (fun _ _ => rfl)))
 (pss_cons (ps_set (i := 3) sc_apply_deed.nd rfl (Or.inl rfl) (pe_dget1 (hu_of hr) (pv 0) (pv 2) ⟨rfl, rfl, rfl, rfl⟩))
 (pss_cons (ps_if (pt_cmpR op_eq (pe_ix (ixT_K (K := K) rfl) (pv 1) pe_int (fun _ _ => rfl)) pe_str (nomark _))
 (pss_one (ps_ret (pe_call (ok_apply_add T) (hr.mono (by decide)) rfl (T.glo 28) (T.kp_apply_add) (T.b_apply_add) .nil pass0 (pa_cons (pv 0) (pa_cons (pv 2) (pa_cons (pe_ix (ixT_K (K := K) rfl) (pv 1) pe_int (fun _ _ => rfl)) pa_nil))))))
 pss_nil)
 (Evl.pss_cut (ps_if (pt_cmpR op_eq (pe_ix (ixT_K (K := K) rfl) (pv 1) pe_int (fun _ _ => rfl)) pe_str (nomark _))
 (pss_one (ps_dput (hu_of hr) (pv 0) (pv 2) (pe_ix (ixT_K (K := K) rfl) (pv 1) pe_int (fun _ _ => rfl)) rfl))
 (pss_one (ps_if (PW.pt (pw_and (pt_cmpR op_eq (pe_ix (ixT_K (K := K) rfl) (pv 1) pe_int (fun _ _ => rfl)) pe_str (nomark _)) (pw_and1 (pt_cmp (pc_din (hu_of hr) (pv 2) (pv 0))))))
 (pss_one (ps_ddel (pv 0) (pv 2)))
 pss_nil)))
 (pss_one (ps_ret (pv 3))))))), ?_⟩
    walk_at "g"
    cases x with
    | get k =>
      obtain ⟨p, u1, u2, rfl, t, h1, h2⟩ := (show Rp K H dv (.tuple [.str "get", .str k]) from hd).tup2
      cases h1.asStr
      cases h2.asStr
      refine w_ixP t (y := .str k) rfl ?_
      walk_at "g"
      refine ⟨a, rfl, .inl ⟨kvs, .inl ha⟩, ?_⟩
      walk_at "g"
      refine ⟨_, dgS ha, ?_⟩
      walk_at "g"
      refine w_ixP t (y := .str "get") rfl ?_
      walk_at "g"
      refine w_no (by decide +kernel) ?_
      walk_at "g"
      refine w_cut (M := fun σ' H' => σ' = [some (.ref a), some (.ref p), some (.str k), some (look kvs k)] ∧ H' = H) ?_ ?_
      · walk_at "g"
        refine w_ixP t (y := .str "get") rfl ?_
        walk_at "g"
        refine w_no (by decide +kernel) ?_
        walk_at "g"
        refine w_ixP t (y := .str "get") rfl ?_
        walk_at "g"
        refine w_no (by decide +kernel) ?_
        refine w_no rfl ?_
        walk_at "g"
        exact ⟨rfl, rfl⟩
      · rintro _ _ ⟨rfl, rfl⟩
        walk_at "g"
        exact q _ (Ch.refl _) ha
    | del k =>
      obtain ⟨p, u1, u2, rfl, t, h1, h2⟩ := (show Rp K H dv (.tuple [.str "del", .str k]) from hd).tup2
      cases h1.asStr
      cases h2.asStr
      refine w_ixP t (y := .str k) rfl ?_
      walk_at "g"
      refine ⟨a, rfl, .inl ⟨kvs, .inl ha⟩, ?_⟩
      walk_at "g"
      refine ⟨_, dgS ha, ?_⟩
      walk_at "g"
      refine w_ixP t (y := .str "del") rfl ?_
      walk_at "g"
      refine w_no (by decide +kernel) ?_
      walk_at "g"
      refine w_cut (M := fun σ' H' => σ' = [some (.ref a), some (.ref p), some (.str k), some (look kvs k)] ∧ Ch [a] H H' ∧ H' a = some (.dK (dropK kvs (Sum.inr k)))) ?_ ?_
      · walk_at "g"
        refine w_ixP t (y := .str "del") rfl ?_
        walk_at "g"
        refine w_no (by decide +kernel) ?_
        walk_at "g"
        refine w_ixP t (y := .str "del") rfl ?_
        walk_at "g"
        refine w_ye (by decide +kernel) ?_
        walk_at "g"
        refine ⟨a, _, rfl, dgS ha, ?_⟩
        walk_at "g"
        refine ⟨fun h => ?_, fun h => ?_⟩
        · walk_at "g"
          exact ⟨a, kvs, Sum.inr k, rfl, ha, rfl, h, rfl, Ch.upd ha rfl, upd_same⟩
        · walk_at "g"
          have h : valV kvs (Sum.inr k) = none := by simpa using h
          exact ⟨rfl, Ch.refl _, by rw [dropK_none h]; exact ha⟩
      · rintro _ H' ⟨rfl, c, e⟩
        walk_at "g"
        exact q _ c e
    | put k v =>
      obtain ⟨p, u1, u2, u3, rfl, t, h1, h2, h3⟩ := (show Rp K H dv (.tuple [.str "put", .str k, dV v]) from hd).tup3
      cases h1.asStr
      cases h2.asStr
      cases h3.asV (isVal.to0 ok.2)
      refine w_ixP t (y := .str k) rfl ?_
      walk_at "g"
      refine ⟨a, rfl, .inl ⟨kvs, .inl ha⟩, ?_⟩
      walk_at "g"
      refine ⟨_, dgS ha, ?_⟩
      walk_at "g"
      refine w_ixP t (y := .str "put") rfl ?_
      walk_at "g"
      refine w_no (by decide +kernel) ?_
      walk_at "g"
      refine w_cut (M := fun σ' H' => σ' = [some (.ref a), some (.ref p), some (.str k), some (look kvs k)] ∧ Ch [a] H H' ∧ H' a = some (.dK (putK kvs (Sum.inr k) v))) ?_ ?_
      · walk_at "g"
        refine w_ixP t (y := .str "put") rfl ?_
        walk_at "g"
        refine w_ye (by decide +kernel) ?_
        walk_at "g"
        refine w_ixP t (y := v) rfl ?_
        walk_at "g"
        exact ⟨a, _, rfl, dpS ha (by omega), rfl, Ch.upd ha rfl, upd_same⟩
      · rintro _ H' ⟨rfl, c, e⟩
        walk_at "g"
        exact q _ c e
    | add k n =>
      obtain ⟨p, u1, u2, u3, rfl, t, h1, h2, h3⟩ := (show Rp K H dv (.tuple [.str "add", .str k, .int n]) from hd).tup3
      cases h1.asStr
      cases h2.asStr
      cases h3.asInt
      refine w_ixP t (y := .str k) rfl ?_
      walk_at "g"
      refine ⟨a, rfl, .inl ⟨kvs, .inl ha⟩, ?_⟩
      walk_at "g"
      refine ⟨_, dgS ha, ?_⟩
      walk_at "g"
      refine w_ixP t (y := .str "add") rfl ?_
      walk_at "g"
      refine w_ye (by decide +kernel) ?_
      walk_at "g"
      refine w_ixP t (y := .int n) rfl ?_
      walk_at "g"
      exact ⟨a, kvs, k, n, rfl, ha, ok, rk, few, q⟩
theorem ok_do_deal (T : Tx K mg) : FnOk P w K mg base CX0 5 (He.ga K "do_deal") (fdOf K (He.ga K "do_deal")) ["rows", "deal"] (spDeal K) := by
  refine T.f_do_deal.ok sc_do_deal
    (fun vs H Q E h => ?_) (fun cdv A outer s H vs Q E hr h => ?_)
  · obtain ⟨a, kvs, dv, x, rfl, _⟩ := h
    rfl
  · obtain ⟨a, kvs, dv, x, rfl, ha, hd, ok, rk, few, q⟩ := h
    refine ⟨_, (pss_cons (ps_asg (pv 1) (pg_tupK (K := K) (n := 2) rfl (by rfl) (pgs_cons (pg_name (i := 2) sc_do_deal.nd rfl (Or.inl rfl)) (pgs_cons (pg_name (i := 3) sc_do_deal.nd rfl (Or.inl rfl)) pgs_nil))))
 (pss_cons (ps_set (i := 4) sc_do_deal.nd rfl (Or.inl rfl) (pe_callTy (tupleS_K (K := K) rfl) (by rfl) (T.fre 8) (by decide +kernel) (pa_cons (pe_lc (own := [("key", 5), ("value", 6)]) rfl sc_do_deal.nd (pi_tupK (K := K) rfl (pv 2)) (blkOk_by (N := n_do_deal) (sc := defScope s_do_deal) (own := [("key", 5), ("value", 6)]) (by decide +kernel)) (fun _ _ _ _ _ => (pg_tupK (K := K) (n := 2) rfl (by rfl) (pgs_cons (pg_name (i := 5) sc_do_deal.nd rfl (Or.inl rfl)) (pgs_cons (pg_name (i := 6) sc_do_deal.nd rfl (Or.inl rfl)) pgs_nil)))) (fun _ _ _ _ _ => pts_nil) (fun _ _ _ _ _ => (pe_dget1 (hu_of hr) (pv 0) (pv 5) ⟨rfl, rfl, rfl, rfl⟩))) pa_nil)))
 (pss_cons (ps_if (pt_cmpR (neD_K (K := K) rfl hr.units) (pv 4) (pe_callTy (tupleS_K (K := K) rfl) (by rfl) (T.fre 8) (by decide +kernel) (pa_cons (pe_lc (own := [("key", 5), ("value", 6)]) rfl sc_do_deal.nd (pi_tupK (K := K) rfl (pv 2)) (blkOk_by (N := n_do_deal) (sc := defScope s_do_deal) (own := [("key", 5), ("value", 6)]) (by decide +kernel)) (fun _ _ _ _ _ => (pg_tupK (K := K) (n := 2) rfl (by rfl) (pgs_cons (pg_name (i := 5) sc_do_deal.nd rfl (Or.inl rfl)) (pgs_cons (pg_name (i := 6) sc_do_deal.nd rfl (Or.inl rfl)) pgs_nil)))) (fun _ _ _ _ _ => pts_nil) (fun _ _ _ _ _ => (pv 6))) pa_nil)) (nomark _))
 (pss_one (ps_ret (pe_tup (pa_cons pe_str (pa_cons (pv 4) pa_nil)))))
 pss_nil)
 (pss_one (ps_ret (pe_tup (pa_cons pe_str (pa_cons (pe_callTy (tupleS_K (K := K) rfl) (by rfl) (T.fre 8) (by decide +kernel) (pa_cons (pe_lc (own := [("deed", 7)]) rfl sc_do_deal.nd (pi_tupK (K := K) rfl (pv 3)) (blkOk_by (N := n_do_deal) (sc := defScope s_do_deal) (own := [("deed", 7)]) (by decide +kernel)) (fun _ _ _ _ _ => (pg_name (i := 7) sc_do_deal.nd rfl (Or.inl rfl))) (fun _ _ _ _ _ => pts_nil) (fun _ _ _ _ _ => (pe_call (ok_apply_deed T) (hr.mono (by decide)) rfl (T.glo 29) (T.kp_apply_deed) (T.b_apply_deed) .nil pass0 (pa_cons (pv 0) (pa_cons (pv 7) pa_nil))))) pa_nil)) pa_nil)))))))), ?_⟩
    obtain ⟨p, u1, u2, rfl, t, h1, h2⟩ := (show Rp K H dv (.tuple [.tuple (x.cks.map ckD), .tuple (x.dds.map Deed.d)]) from hd).tup2
    obtain ⟨c, cs, rfl, tc, rc⟩ := h1.tupL
    obtain ⟨d, dds, rfl, td, rd⟩ := h2.tupL
    have lc := rc.length
    have ld := rd.length
    rw [List.length_map] at lc ld
    have f1 := ok.few.1
    have f2 := ok.few.2
    walk_at "g"
    refine w_gTup t.sq rfl ?_
    walk_at "g"
    refine lc_tup_data (S := fun v b => Rp K H v (ckD b)) (fun _ y b => y = b) (fun _ => true) (fun b => look kvs b.1) (fun _ _ _ _ _ h => h) tc (rps_paired rc) (by omega) ?_ ?_
    · intro v b H' hb hv s1 N Y _ hY
      obtain ⟨e, v1, v2, rfl, te, g1, g2⟩ := (show Rp K H' v (.tuple [.str b.1, dV b.2]) from hv.same s1).tup2
      cases g1.asStr
      refine w_gTup te.sq rfl ?_
      walk_at "g"
      refine ⟨rfl, w_yes (iteT ?_)⟩
      walk_at "g"
      refine ⟨a, rfl, .inl ⟨kvs, .inl (s1 _ _ ha)⟩, ?_⟩
      walk_at "g"
      refine ⟨_, dgS (s1 _ _ ha), ?_⟩
      exact hY rfl _ H' (fun _ _ z => z) rfl
    intro p1 H1 ys np1 s1 hy1 hp1
    rw [List.filter_eq_self.mpr fun _ _ => rfl] at hp1
    cases paired_eq hp1
    walk_at "g"
    refine w_tupleL (SqL.of hy1) fun tv htv => ?_
    have s2 : Same H (upd H1 tv (.tup (cksV kvs x))) := s1.trans (Same.new htv)
    walk_at "g"
    refine lc_tup_data (S := fun v b => Rp K H v (ckD b)) (fun _ y b => y = b) (fun _ => true) (fun b => b.2) (fun _ _ _ _ _ h => h) (tc.mono (Same.px s2)) (rps_paired rc) (by omega) ?_ ?_
    · intro v b H' hb hv s3 N Y _ hY
      obtain ⟨e, v1, v2, rfl, te, g1, g2⟩ := (show Rp K H' v (.tuple [.str b.1, dV b.2]) from hv.same (s2.trans s3)).tup2
      cases g2.asV (ok.cks b hb).2
      refine w_gTup te.sq rfl ?_
      walk_at "g"
      refine ⟨rfl, w_yes (iteT ?_)⟩
      walk_at "g"
      exact hY rfl _ H' (fun _ _ z => z) rfl
    intro p2 H2 zs np2 s3 hy2 hp2
    rw [List.filter_eq_self.mpr fun _ _ => rfl] at hp2
    cases paired_eq hp2
    walk_at "g"
    refine w_tupleL (SqL.of hy2) fun tw htw => ?_
    have s4 : Same H2 (upd H2 tw (.tup (x.cks.map (·.2)))) := Same.new htw
    have e1 : upd H2 tw (.tup (x.cks.map (·.2))) tv = some (.tup (cksV kvs x)) := s4 _ _ (s3 _ _ upd_same)
    have v1 := cksV_ok rk x
    have v2 : ∀ v ∈ x.cks.map (·.2), isVal0 v = true := fun v hv => by
      obtain ⟨b, hb, rfl⟩ := List.mem_map.mp hv
      exact (ok.cks b hb).2
    have r1 : Rp K (upd H2 tw (.tup (x.cks.map (·.2)))) (.ref tv) (.tuple ((cksV kvs x).map dV)) := .tup (.inl e1) (rps_dV v1)
    have s5 : Same H (upd H2 tw (.tup (x.cks.map (·.2)))) := s2.trans (s3.trans s4)
    refine w_neRp r1 (.tup (.inl upd_same) (rps_dV v2)) (.tup (n := 59) fun z hz => by
        obtain ⟨v, hv, rfl⟩ := List.mem_map.mp hz
        exact shp_dV (v1 v hv)) (.tup (n := 59) fun z hz => by
        obtain ⟨v, hv, rfl⟩ := List.mem_map.mp hz
        exact shp_dV (v2 v hv)) fun b hb => ?_
    have hb : b = true ↔ holds kvs x = false := by
      rw [hb]
      rw [show (holds kvs x = false) ↔ ¬ holds kvs x = true by simp, holds_iff]
      refine not_congr ⟨fun e => map_dV_inj v1 v2 (by simpa using e), fun e => by rw [e]⟩
    walk_at "g"
    refine ⟨fun h => ?_, fun h => ?_⟩
    · have e : holds kvs x = false := hb.mp h
      walk_at "g"
      refine ⟨by show 2 ≤ sizeLine; decide, fun ta hta => ?_⟩
      have e2 : doDeal kvs x = (.tuple [.str "unheld", .tuple ((cksV kvs x).map dV)], kvs) := by
        unfold doDeal
        rw [if_neg (by rw [e]; decide)]
      rw [e2] at q
      have s6 := s5.trans (Same.new (o := HO.tup [.str "unheld", .ref tv]) hta)
      exact q _ _ (Same.ch s6) (s6 _ _ ha) (.tup (.inl upd_same) (Rps.p2 (.str _) (r1.same (Same.new hta))))
    · have e : holds kvs x = true := by
        cases z : holds kvs x with
        | true => rfl
        | false => rw [hb.mpr z] at h; cases h
      have e2 : doDeal kvs x = (.tuple [.str "done", .tuple ((doDeeds kvs x.dds).1.map dV)], (doDeeds kvs x.dds).2) := by
        unfold doDeal
        rw [if_pos e]
      rw [e2] at q
      walk_at "g"
      have pd := rps_paired rd
      refine lc_tup_it (fun D i H' => Ch [a] H H' ∧ a ≠ D ∧ H' a = some (.dK (doDeeds kvs (x.dds.take i)).2) ∧ H' D = some (.lst (doDeeds kvs (x.dds.take i)).1) ∧ (doDeeds kvs (x.dds.take i)).1.length ≤ i) (td.mono (Same.px s5)) (fun D i H' h => ?_) (fun D hD => ?_) (fun D i y H' hD hy h => ?_) fun D H' hD h => ?_
      · exact td.mono h.1.px
      · exact ⟨(Same.ch s5).thenNew hD, ne_of_none (s5 _ _ ha) hD, by rw [upd_ne (ne_of_none (s5 _ _ ha) hD)]; exact s5 _ _ ha, upd_same, Nat.zero_le _⟩
      · obtain ⟨c1, nD, hr1, hD1, l1⟩ := h
        obtain ⟨b, hb, hv⟩ := Paired.getL pd hy
        have ib := (List.getElem?_eq_some_iff.mp hb).1
        have sub : ∀ e ∈ x.dds.take i, e.ok := fun e he => ok.dds e (List.mem_of_mem_take he)
        obtain ⟨g1, g2, g3⟩ := doDeeds_ok (ds := x.dds.take i) rk sub
        have tk : x.dds.take (i + 1) = x.dds.take i ++ [b] := by rw [List.take_succ, hb]; rfl
        rw [List.length_take] at g3
        walk_at "g"
        refine ⟨rfl, w_yes (iteT ?_)⟩
        walk_at "g"
        refine ⟨a, _, y, b, rfl, hr1, hv.to c1.px, ok.dds b (List.mem_of_getElem? hb), g1, by omega, fun H4 c4 e4 => ?_⟩
        have hD4 : H4 D = _ := c4.2 _ _ hD1 (by simpa using Ne.symm nD)
        refine ⟨_, hD4, sz_lt (by omega), (c1.trans c4).thenUpd hD4 rfl (.inr (fresh_back (S := []) (Same.ch s5) hD (by simp))), nD, ?_, ?_, ?_⟩
        · rw [upd_ne nD, e4, tk, doDeeds_snoc]
        · rw [upd_same, tk, doDeeds_snoc]
        · rw [tk, doDeeds_snoc, List.length_append, List.length_singleton]; omega
      · obtain ⟨c1, nD, hr1, hD1, l1⟩ := h
        have l2 : x.dds.take dds.length = x.dds := by rw [ld, List.take_length]
        rw [l2] at hr1 hD1
        obtain ⟨g1, g2, g3⟩ := doDeeds_ok rk ok.dds
        walk_at "g"
        refine w_tupleL (SqL.of hD1) fun tp htp => ?_
        walk_at "g"
        refine ⟨by show 2 ≤ sizeLine; decide, fun tr htr => ?_⟩
        have s6 := (Same.new (o := HO.tup (doDeeds kvs x.dds).1) htp)
        have s7 := (Same.new (o := HO.tup [.str "done", .ref tp]) htr)
        exact q _ _ ((c1.then s6).then s7) (s7 _ _ (s6 _ _ hr1)) (.tup (.inl upd_same) (Rps.p2 (.str _) (.tup (.inl (s7 _ _ upd_same)) (rps_dV g2))))
--CUT
/-! ### draws -/
theorem ok_l_key (T : Tx K mg) : FnOk P w K mg base CX0 2 (He.ga K "_law_key") (fdOf K (He.ga K "_law_key")) ["_law_box", "_law_sign"] spKey := by
  refine T.f_l_key.ok sc_l_key
    (fun vs H Q E h => ?_) (fun cdv A outer s H vs Q E hr h => ?_)
  · obtain ⟨a, z, rfl, _⟩ := h
    rfl
  · obtain ⟨a, z, rfl, b0, tz, q⟩ := h
    refine ⟨_, (pss_cons (ps_set (i := 2) sc_l_key.nd rfl (Or.inl rfl) pe_str)
 (pss_cons (ps_set (i := 3) sc_l_key.nd rfl (Or.inl rfl) (pe_ix (ixL_K (K := K) rfl) (pe_lst (pa_cons pe_int (pa_cons pe_int (pa_cons pe_int (pa_cons pe_int pa_nil))))) (pe_call (ok_l_take T) (hr.mono (by decide)) rfl (T.glo 1) (T.kp_l_take) (T.b_l_take) .nil pass0 (pa_cons (pv 0) (pa_cons pe_int pa_nil))) (fun _ _ => rfl)))
 (pss_cons (ps_set (i := 4) sc_l_key.nd rfl (Or.inl rfl) (pe_call (ok_l_take T) (hr.mono (by decide)) rfl (T.glo 1) (T.kp_l_take) (T.b_l_take) .nil pass0 (pa_cons (pv 0) (pa_cons (pv 3) pa_nil))))
 (pss_cons (ps_set (i := 5) sc_l_key.nd rfl (Or.inl rfl) pe_str)
 (pss_cons (ps_for PassesOwn.never rfl (pi_range1 rfl (T.fre 2) (pa_cons (pe_op op_sub (pv 3) pe_int) pa_nil)) (pg_name (i := 6) sc_l_key.nd rfl (Or.inl rfl))
 (pss_one (ps_set (i := 5) sc_l_key.nd rfl (Or.inl rfl) (pe_op op_addS (pv 5) (pe_ix ix_str (pv 2) (pe_call (ok_l_take T) (hr.mono (by decide)) rfl (T.glo 1) (T.kp_l_take) (T.b_l_take) .nil pass0 (pa_cons (pv 0) (pa_cons pe_int pa_nil))) (fun _ _ => rfl))))))
 (pss_one (ps_ret (pe_op op_addS (pe_op op_addS (pe_slice sl_str (pv 5) po_none (po_some (pv 4))) (pv 1)) (pe_slice sl_str (pv 5) (po_some (pv 4)) po_none))))))))), ?_⟩
    walk_at "g"
    refine ⟨by show 4 ≤ sizeLine; decide, fun p hp => ?_⟩
    walk_at "g"
    refine w_take (b0.same (Same.new hp)) (by decide) (by decide) fun i H1 i0 i1 c1 b1 => ?_
    obtain ⟨n, hn, ha⟩ := pick_int (ns := [1, 2, 3, 8]) i0 i1
    have np : p ≠ a := by
      rintro rfl
      obtain ⟨_, e⟩ := b0
      rw [e] at hp; cases hp
    refine w_ixL (SqL.of (c1.2 _ _ upd_same (by simpa using np))) ha ?_
    have hn : 1 ≤ n ∧ n ≤ 8 := by simp at hn; omega
    walk_at "g"
    refine w_take b1 (by omega) (by omega) fun j H2 j0 j1 c2 b2 => ?_
    walk_at "g"
    refine ⟨_, rfl, by omega, by omega, ?_⟩
    have c02 : Ch [a] H H2 := (((Same.ch (Same.new hp)).trans c1).trans c2)
    refine for_range (lo := 0) (fun i σ' H' => ∃ (x6 : Option V) (t : Str), σ' = [some (.ref a), some (.str z), some (.str "abcdefghijklmnopqrstuvwxyz0123456789"), some (.int n), some (.int j), some (.str t), x6] ∧ TxOk i t ∧ Ch [a] H H' ∧ BoxAt H' a) ?_ ?_ ?_
    · exact ⟨none, "", rfl, ⟨by decide +kernel, by decide +kernel⟩, c02, b2⟩
    · rintro i σ' H' hi ⟨x6, t, rfl, tt, c, b⟩
      walk_at "g"
      refine w_take b (by decide) (by decide) fun k H3 k0 k1 c3 b3 => ?_
      obtain ⟨sg, m, hs⟩ := pick_sg (z := "abcdefghijklmnopqrstuvwxyz0123456789") k0 (by rw [show (("abcdefghijklmnopqrstuvwxyz0123456789" : Str).cps.size) = 36 by decide +kernel]; omega)
      refine w_ixS (by decide +kernel) hs ?_
      have t1 : TxOk 1 ⟨#[sg]⟩ := TxOk.sg (n := 100) ⟨by decide +kernel, by decide +kernel⟩ m
      have t2 := tt.app t1
      refine w_addS (by rw [← app_len]; exact t2.sz (by omega)) ?_
      walk_at "g"
      exact ⟨_, _, rfl, t2, c.trans c3, b3⟩
    · rintro σ' H' ⟨x6, t, rfl, tt, c, b⟩
      have tt : TxOk 7 t := tt.mono (by omega)
      walk_at "g"
      refine w_slS (tt.sz (by omega)) ?_
      walk_at "g"
      have t1 := (tt.cut none (some j)).app tz
      refine w_addS (by rw [← app_len]; exact t1.sz (by omega)) ?_
      walk_at "g"
      refine w_slS (tt.sz (by omega)) ?_
      have t2 := t1.app (tt.cut (some j) none)
      refine w_addS (by rw [← app_len]; exact t2.sz (by omega)) ?_
      refine q _ _ ⟨t2.1, ?_⟩ c b
      have l1 := cut_two (x := t) j0
      have l2 := tt.2
      have l3 := tz.2
      rw [app_len, app_len]
      omega
theorem ok_l_keys (T : Tx K mg) : FnOk P w K mg base CX0 3 (He.ga K "_law_keys") (fdOf K (He.ga K "_law_keys")) ["_law_box"] spKeys := by
  refine T.f_l_keys.ok sc_l_keys
    (fun vs H Q E h => ?_) (fun cdv A outer s H vs Q E hr h => ?_)
  · obtain ⟨a, rfl, _⟩ := h
    rfl
  · obtain ⟨a, rfl, b0, q⟩ := h
    refine ⟨_, (pss_cons (ps_set (i := 1) sc_l_keys.nd rfl (Or.inl rfl) (pe_lst pa_nil))
 (pss_cons (ps_for PassesOwn.never rfl (pi_str pe_str) (pg_name (i := 2) sc_l_keys.nd rfl (Or.inl rfl))
 (pss_cons (ps_set (i := 3) sc_l_keys.nd rfl (Or.inl rfl) (pe_call (ok_l_key T) (hr.mono (by decide)) rfl (T.glo 3) (T.kp_l_key) (T.b_l_key) .nil pass0 (pa_cons (pv 0) (pa_cons (pv 2) pa_nil))))
 (pss_one (ps_if (pt_cmpR (notInS_K (K := K) rfl) (pv 3) (pv 1) (by rfl))
 (pss_one (ps_expr (pe_bmK (K := K) rfl PySem.F.plainAttrs_list PySem.F.slot_list_append PySem.F.type_list_append mt_append (pv 1) (pa_cons (pv 3) pa_nil))))
 pss_nil))))
 (pss_one (ps_ret (pv 1))))), ?_⟩
    walk_at "g"
    refine ⟨Nat.zero_le _, fun l hl => ?_⟩
    walk_at "g"
    refine for_it walk_str (fun i σ' H' => ∃ (x2 x3 : Option V) (ks : List Str), σ' = [some (.ref a), some (.ref l), x2, x3] ∧ Ch [a] H H' ∧ BoxAt H' a ∧ H' l = some (.lst (ks.map V.str)) ∧ (0 < i → ks ≠ []) ∧ ks.length ≤ i ∧ ∀ k ∈ ks, TxOk 9 k) ?_ (fun _ _ _ _ _ => trivial) ?_ ?_
    · exact ⟨none, none, [], rfl, Same.ch (Same.new hl), b0.same (Same.new hl), upd_same, fun h => absurd h (by decide), Nat.le_refl _, by simp⟩
    · rintro i x σ' H1 H1' hi ⟨x2, x3, ks, rfl, c1, b1, hl1, ne, few, ok⟩ ⟨e, c, hc, e2⟩
      subst e e2
      walk_at "g"
      have nl : l ≠ a := b0.ne_new hl
      refine ⟨a, _, rfl, b1, (TxOk.sg (n := 100) (x := "aktz5") ⟨by decide +kernel, by decide +kernel⟩ (by rw [Array.mem_toList_iff]; exact Array.mem_of_getElem? hc)).mono (by decide), fun x H2 tx c2 b2 => ?_⟩
      have hl2 := c2.2 _ _ hl1 (by simpa using nl)
      have i5 : i < 5 := hi
      walk_at "g"
      refine w_notInF hl2 rfl (by rw [List.all_map]; exact List.all_eq_true.mpr fun _ _ => rfl) fun d hd => ?_
      walk_at "g"
      refine ⟨fun h => ?_, fun h => ?_⟩
      · walk_at "g"
        refine ⟨tyL hl2, ?_⟩
        walk_at "g"
        refine w_appR hl2 (sz_lt (by rw [List.length_map]; omega)) ?_
        walk_at "g"
        refine ⟨_, _, ks ++ [x], rfl, (c1.trans c2).thenUpd hl2 rfl (.inr hl), ?_, by rw [upd_same, List.map_append]; rfl, by simp, by simp; omega, ?_⟩
        · obtain ⟨m, e⟩ := b2
          exact ⟨m, by rw [upd_ne nl.symm]; exact e⟩
        · intro k hk
          rcases List.mem_append.mp hk with z | z
          · exact ok k z
          · rw [List.mem_singleton.mp z]; exact tx
      · walk_at "g"
        refine ⟨_, _, ks, rfl, c1.trans c2, b2, hl2, fun _ e => ?_, by omega, ok⟩
        subst e
        rw [hd] at h
        cases h
    · rintro σ' H1 ⟨x2, x3, ks, rfl, c1, b1, hl1, ne, few, ok⟩
      walk_at "g"
      exact q l ks _ hl c1 b1 ⟨hl1, ne (by decide), few, ok⟩
theorem ok_l_value (T : Tx K mg) : FnOk P w K mg base CX0 2 (He.ga K "_law_value") (fdOf K (He.ga K "_law_value")) ["_law_box"] spVal := by
  refine T.f_l_value.ok sc_l_value
    (fun vs H Q E h => ?_) (fun cdv A outer s H vs Q E hr h => ?_)
  · obtain ⟨a, rfl, _⟩ := h
    rfl
  · obtain ⟨a, rfl, b0, q⟩ := h
    refine ⟨_, (pss_cons (ps_set (i := 1) sc_l_value.nd rfl (Or.inl rfl) (pe_call (ok_l_take T) (hr.mono (by decide)) rfl (T.glo 1) (T.kp_l_take) (T.b_l_take) .nil pass0 (pa_cons (pv 0) (pa_cons pe_int pa_nil))))
 (pss_cons (ps_if (pt_cmpR op_lt (pv 1) pe_int (nomark _))
 (pss_one (ps_ret (pe_op op_sub (pe_call (ok_l_take T) (hr.mono (by decide)) rfl (T.glo 1) (T.kp_l_take) (T.b_l_take) .nil pass0 (pa_cons (pv 0) (pa_cons pe_int pa_nil))) pe_int)))
 pss_nil)
 (pss_cons (ps_if (pt_cmpR op_eq (pv 1) pe_int (nomark _))
 (pss_one (ps_ret (pe_ix (ixL_K (K := K) rfl) (pe_lst (pa_cons (pe_op op_pow pe_int pe_int) (pa_cons (pe_un un_neg (pe_op op_pow pe_int pe_int)) (pa_cons (pe_op op_sub (pe_op op_pow pe_int pe_int) pe_int) (pa_cons pe_int pa_nil))))) (pe_call (ok_l_take T) (hr.mono (by decide)) rfl (T.glo 1) (T.kp_l_take) (T.b_l_take) .nil pass0 (pa_cons (pv 0) (pa_cons pe_int pa_nil))) (fun _ _ => rfl))))
 pss_nil)
 (pss_one (ps_ret (pe_ix (ixL_K (K := K) rfl) (pe_lst (pa_cons pe_str (pa_cons pe_str (pa_cons pe_str (pa_cons (pe_op op_mulS pe_str pe_int) (pa_cons pe_str (pa_cons pe_str pa_nil))))))) (pe_call (ok_l_take T) (hr.mono (by decide)) rfl (T.glo 1) (T.kp_l_take) (T.b_l_take) .nil pass0 (pa_cons (pv 0) (pa_cons pe_int pa_nil))) (fun _ _ => rfl))))))), ?_⟩
    walk_at "g"
    refine w_take b0 (by decide) (by decide) fun i H1 i0 i1 c1 b1 => ?_
    walk_at "g"
    refine ⟨fun _ => ?_, fun _ => ?_⟩
    · walk_at "g"
      refine w_take b1 (by decide) (by decide) fun j H2 j0 j1 c2 b2 => ?_
      walk_at "g"
      exact q _ _ rfl (c1.trans c2) b2
    walk_at "g"
    refine ⟨fun _ => ?_, fun _ => ?_⟩
    · walk_at "g"
      refine ⟨by show 4 ≤ sizeLine; decide, fun p hp => ?_⟩
      walk_at "g"
      refine w_pickT hp b1 (by decide) rfl (by decide) fun v H2 hv c2 b2 => ?_
      refine q _ _ ?_ (c1.trans c2) b2
      simp only [List.mem_cons, List.not_mem_nil, or_false] at hv
      rcases hv with e | e | e | e <;> (rw [e]; rfl)
    walk_at "g"
    refine ⟨"~", 20, rfl, rfl, by decide, by decide, by decide +kernel, ?_⟩
    walk_at "g"
    refine ⟨by show 6 ≤ sizeLine; decide, fun p hp => ?_⟩
    walk_at "g"
    refine w_pickT hp b1 (by decide) rfl (by decide) fun v H2 hv c2 b2 => ?_
    refine q _ _ ?_ (c1.trans c2) b2
    simp only [List.mem_cons, List.not_mem_nil, or_false] at hv
    rcases hv with e | e | e | e | e | e <;> (rw [e]; decide +kernel)
theorem ok_l_maybe (T : Tx K mg) : FnOk P w K mg base CX0 3 (He.ga K "_law_maybe") (fdOf K (He.ga K "_law_maybe")) ["_law_box"] spMaybe := by
  refine T.f_l_maybe.ok sc_l_maybe
    (fun vs H Q E h => ?_) (fun cdv A outer s H vs Q E hr h => ?_)
  · obtain ⟨a, rfl, _⟩ := h
    rfl
  · obtain ⟨a, rfl, b0, q⟩ := h
    refine ⟨_, (pss_cons (ps_if (pt_cmpR op_eq (pe_call (ok_l_take T) (hr.mono (by decide)) rfl (T.glo 1) (T.kp_l_take) (T.b_l_take) .nil pass0 (pa_cons (pv 0) (pa_cons pe_int pa_nil))) pe_int (nomark _))
 (pss_one (ps_ret pe_non))
 pss_nil)
 (pss_one (ps_ret (pe_call (ok_l_value T) (hr.mono (by decide)) rfl (T.glo 5) (T.kp_l_value) (T.b_l_value) .nil pass0 (pa_cons (pv 0) pa_nil))))), ?_⟩
    walk_at "g"
    refine w_take b0 (by decide) (by decide) fun i H1 i0 i1 c1 b1 => ?_
    walk_at "g"
    refine ⟨fun _ => ?_, fun _ => ?_⟩
    · walk_at "g"
      exact q _ _ rfl c1 b1
    walk_at "g"
    exact ⟨a, rfl, b1, fun v H' hv c b => q _ _ (isVal.to0 hv) (c1.trans c) b⟩
theorem ok_l_deed (T : Tx K mg) : FnOk P w K mg base CX0 3 (He.ga K "_law_deed") (fdOf K (He.ga K "_law_deed")) ["_law_box", "_law_keys_here"] (spMkDeed K) := by
  refine T.f_l_deed.ok sc_l_deed
    (fun vs H Q E h => ?_) (fun cdv A outer s H vs Q E hr h => ?_)
  · obtain ⟨a, l, ks, rfl, _⟩ := h
    rfl
  · obtain ⟨a, l, ks, rfl, b0, hk, q⟩ := h
    refine ⟨_, (pss_cons (ps_set (i := 2) sc_l_deed.nd rfl (Or.inl rfl) (pe_ix (ixL_K (K := K) rfl) (pv 1) (pe_call (ok_l_take T) (hr.mono (by decide)) rfl (T.glo 1) (T.kp_l_take) (T.b_l_take) .nil pass0 (pa_cons (pv 0) (pa_cons (pe_callB (lenS_K (K := K) rfl) (by rfl) (T.fre 4) (by decide +kernel) (pa_cons (pv 1) pa_nil)) pa_nil))) (fun _ _ => rfl)))
 (pss_cons (ps_set (i := 3) sc_l_deed.nd rfl (Or.inl rfl) (pe_call (ok_l_take T) (hr.mono (by decide)) rfl (T.glo 1) (T.kp_l_take) (T.b_l_take) .nil pass0 (pa_cons (pv 0) (pa_cons pe_int pa_nil))))
 (pss_cons (ps_if (pt_cmpR op_eq (pv 3) pe_int (nomark _))
 (pss_one (ps_ret (pe_tup (pa_cons pe_str (pa_cons (pv 2) pa_nil)))))
 pss_nil)
 (pss_cons (ps_if (pt_cmpR op_eq (pv 3) pe_int (nomark _))
 (pss_one (ps_ret (pe_tup (pa_cons pe_str (pa_cons (pv 2) pa_nil)))))
 pss_nil)
 (pss_cons (ps_if (pt_cmpR op_eq (pv 3) pe_int (nomark _))
 (pss_one (ps_ret (pe_tup (pa_cons pe_str (pa_cons (pv 2) (pa_cons (pe_call (ok_l_value T) (hr.mono (by decide)) rfl (T.glo 5) (T.kp_l_value) (T.b_l_value) .nil pass0 (pa_cons (pv 0) pa_nil)) pa_nil))))))
 pss_nil)
 (pss_one (ps_ret (pe_tup (pa_cons pe_str (pa_cons (pv 2) (pa_cons (pe_ix (ixL_K (K := K) rfl) (pe_lst (pa_cons pe_int (pa_cons (pe_un un_neg pe_int) (pa_cons pe_int (pa_cons (pe_op op_pow pe_int pe_int) (pa_cons (pe_un un_neg (pe_op op_pow pe_int pe_int)) (pa_cons pe_int pa_nil))))))) (pe_call (ok_l_take T) (hr.mono (by decide)) rfl (T.glo 1) (T.kp_l_take) (T.b_l_take) .nil pass0 (pa_cons (pv 0) (pa_cons pe_int pa_nil))) (fun _ _ => rfl)) pa_nil))))))))))), ?_⟩
    have nl := hk.ne b0
    have few := hk.2.2.1
    have nk : 0 < ks.length := List.length_pos_iff.mpr hk.2.1
    walk_at "g"
    refine w_lenL (SqL.of hk.1) ?_
    walk_at "g"
    rw [List.length_map]
    refine w_take b0 (by omega) (by omega) fun i H1 i0 i1 c1 b1 => ?_
    have hk1 := hk.ch c1 (by simpa using nl)
    obtain ⟨v, m, ha⟩ := pick_mem (xs := ks.map V.str) i0 (by rw [List.length_map]; exact i1)
    obtain ⟨k, kk, rfl⟩ := List.mem_map.mp m
    have tk := hk.2.2.2 k kk
    refine w_ixL (SqL.of hk1.1) ha ?_
    walk_at "g"
    refine w_take b1 (by decide) (by decide) fun d H2 d0 d1 c2 b2 => ?_
    have c12 := c1.trans c2
    walk_at "g"
    refine ⟨fun _ => ?_, fun _ => ?_⟩
    · walk_at "g"
      refine ⟨by show 2 ≤ sizeLine; decide, fun t ht => ?_⟩
      exact q _ (.get k) _ tk.1 kk (c12.thenNew ht) (b2.same (Same.new ht)) (.tup (.inl upd_same) (Rps.p2 (.str _) (.str _)))
    walk_at "g"
    refine ⟨fun _ => ?_, fun _ => ?_⟩
    · walk_at "g"
      refine ⟨by show 2 ≤ sizeLine; decide, fun t ht => ?_⟩
      exact q _ (.del k) _ tk.1 kk (c12.thenNew ht) (b2.same (Same.new ht)) (.tup (.inl upd_same) (Rps.p2 (.str _) (.str _)))
    walk_at "g"
    refine ⟨fun _ => ?_, fun _ => ?_⟩
    · walk_at "g"
      refine ⟨a, rfl, b2, fun v H3 hv c3 b3 => ?_⟩
      walk_at "g"
      refine ⟨by show 3 ≤ sizeLine; decide, fun t ht => ?_⟩
      exact q _ (.put k v) _ ⟨tk.1, hv⟩ kk ((c12.trans c3).thenNew ht) (b3.same (Same.new ht)) (.tup (.inl upd_same) (Rps.p3 (.str _) (.str _) (rp_dV (isVal.to0 hv))))
    walk_at "g"
    refine ⟨by show 6 ≤ sizeLine; decide, fun p hp => ?_⟩
    walk_at "g"
    refine w_pickT hp b2 (by decide) rfl (by decide) fun v H3 hv c3 b3 => ?_
    obtain ⟨n, rfl, hn⟩ : ∃ n : Int, v = .int n ∧ n.natAbs ≤ 1000000000 := by
      simp only [List.mem_cons, List.not_mem_nil, or_false] at hv
      rcases hv with e | e | e | e | e | e <;> (rw [e]; exact ⟨_, rfl, by decide +kernel⟩)
    walk_at "g"
    refine ⟨by show 3 ≤ sizeLine; decide, fun t ht => ?_⟩
    exact q _ (.add k n) _ ⟨tk.1, hn⟩ kk ((c12.trans c3).thenNew ht) (b3.same (Same.new ht)) (.tup (.inl upd_same) (Rps.p3 (.str _) (.str _) (.int _)))
--CUT
theorem ok_l_deal (T : Tx K mg) : FnOk P w K mg base CX0 4 (He.ga K "_law_deal") (fdOf K (He.ga K "_law_deal")) ["_law_box", "_law_keys_here", "_law_rows"] (spMkDeal K) := by
  refine T.f_l_deal.ok sc_l_deal
    (fun vs H Q E h => ?_) (fun cdv A outer s H vs Q E hr h => ?_)
  · obtain ⟨a, l, ks, r, kvs, rfl, _⟩ := h
    rfl
  · obtain ⟨a, l, ks, r, kvs, rfl, b0, hk, hrw, rk, q⟩ := h
    refine ⟨_, (pss_cons (ps_set (i := 3) sc_l_deal.nd rfl (Or.inl rfl) (pe_lst pa_nil))
 (pss_cons (ps_for PassesOwn.never rfl (pi_range1 rfl (T.fre 2) (pa_cons (pe_ix (ixL_K (K := K) rfl) (pe_lst (pa_cons pe_int (pa_cons pe_int (pa_cons pe_int (pa_cons pe_int (pa_cons pe_int (pa_cons pe_int (pa_cons pe_int pa_nil)))))))) (pe_call (ok_l_take T) (hr.mono (by decide)) rfl (T.glo 1) (T.kp_l_take) (T.b_l_take) .nil pass0 (pa_cons (pv 0) (pa_cons pe_int pa_nil))) (fun _ _ => rfl)) pa_nil)) (pg_name (i := 4) sc_l_deal.nd rfl (Or.inl rfl))
 (pss_cons (ps_set (i := 5) sc_l_deal.nd rfl (Or.inl rfl) (pe_ix (ixL_K (K := K) rfl) (pv 1) (pe_call (ok_l_take T) (hr.mono (by decide)) rfl (T.glo 1) (T.kp_l_take) (T.b_l_take) .nil pass0 (pa_cons (pv 0) (pa_cons (pe_callB (lenS_K (K := K) rfl) (by rfl) (T.fre 4) (by decide +kernel) (pa_cons (pv 1) pa_nil)) pa_nil))) (fun _ _ => rfl)))
 (pss_cons (ps_set (i := 6) sc_l_deal.nd rfl (Or.inl rfl) (pe_dget1 (hu_of hr) (pv 2) (pv 5) ⟨rfl, rfl, rfl, rfl⟩))
 (Evl.pss_cut (ps_if (pt_cmpR op_eq (pe_call (ok_l_take T) (hr.mono (by decide)) rfl (T.glo 1) (T.kp_l_take) (T.b_l_take) .nil pass0 (pa_cons (pv 0) (pa_cons pe_int pa_nil))) pe_int (nomark _))
 (pss_one (ps_set (i := 6) sc_l_deal.nd rfl (Or.inl rfl) (pe_call (ok_l_maybe T) (hr.mono (by decide)) rfl (T.glo 6) (T.kp_l_maybe) (T.b_l_maybe) .nil pass0 (pa_cons (pv 0) pa_nil))))
 pss_nil)
 (pss_one (ps_expr (pe_bmK (K := K) rfl PySem.F.plainAttrs_list PySem.F.slot_list_append PySem.F.type_list_append mt_append (pv 3) (pa_cons (pe_tup (pa_cons (pv 5) (pa_cons (pv 6) pa_nil))) pa_nil))))))))
 (pss_cons (ps_setLc (i := 7) (own := [("_law_k", 4)]) rfl sc_l_deal.nd rfl rfl (sw_true rfl rfl rfl (by decide +kernel)) (pi_range1 rfl (T.fre 2) (pa_cons (pe_ix (ixL_K (K := K) rfl) (pe_lst (pa_cons pe_int (pa_cons pe_int (pa_cons pe_int (pa_cons pe_int (pa_cons pe_int (pa_cons pe_int pa_nil))))))) (pe_call (ok_l_take T) (hr.mono (by decide)) rfl (T.glo 1) (T.kp_l_take) (T.b_l_take) .nil pass0 (pa_cons (pv 0) (pa_cons pe_int pa_nil))) (fun _ _ => rfl)) pa_nil)) (blkOk_by (N := n_l_deal) (sc := defScope s_l_deal) (own := [("_law_k", 4)]) (by decide +kernel)) (fun _ _ _ _ _ => (pg_name (i := 4) sc_l_deal.nd rfl (Or.inl rfl))) (fun _ _ _ _ _ => pts_nil) (fun _ _ _ _ _ => (pe_call (ok_l_deed T) (hr.mono (by decide)) rfl (T.glo 7) (T.kp_l_deed) (T.b_l_deed) .nil pass0 (pa_cons (pv 0) (pa_cons (pv 1) pa_nil)))))
 (pss_one (ps_ret (pe_tup (pa_cons (pe_callTy (tupleS_K (K := K) rfl) (by rfl) (T.fre 8) (by decide +kernel) (pa_cons (pv 3) pa_nil)) (pa_cons (pe_callTy (tupleS_K (K := K) rfl) (by rfl) (T.fre 8) (by decide +kernel) (pa_cons (pv 7) pa_nil)) pa_nil)))))))), ?_⟩
    have nl := hk.ne b0
    have nr : r ≠ a := by
      rintro rfl
      obtain ⟨_, e⟩ := b0
      rw [e] at hrw; cases hrw
    have few := hk.2.2.1
    have nk : 0 < ks.length := List.length_pos_iff.mpr hk.2.1
    walk_at "g"
    refine ⟨Nat.zero_le _, fun lc hlc => ?_⟩
    have nlc : lc ≠ a := b0.ne_new hlc
    walk_at "g"
    refine ⟨by show 7 ≤ sizeLine; decide, fun p1 hp1 => ?_⟩
    walk_at "g"
    refine w_pickT hp1 (b0.same (Same.new hlc)) (by decide) rfl (by decide) fun v H1 hv c1 b1 => ?_
    obtain ⟨n, rfl, n0, n4⟩ : ∃ n : Int, v = .int n ∧ 0 ≤ n ∧ n ≤ 4 := by
      simp only [List.mem_cons, List.not_mem_nil, or_false] at hv
      rcases hv with e | e | e | e | e | e | e <;> (rw [e]; exact ⟨_, rfl, by decide, by decide⟩)
    refine ⟨n, rfl, by omega, by omega, ?_⟩
    have c01 : Ch [a] H H1 := (Same.ch (Same.new hlc)).trans c1
    have hlc1 : H1 lc = some (.lst []) := c1.2 _ _ upd_same (by simpa using nlc)
    refine for_range (lo := 0) (fun i σ' H' => ∃ (x4 x5 x6 : Option V) (cvs : List V) (cks : List (Str × V)), σ' = [some (.ref a), some (.ref l), some (.ref r), some (.ref lc), x4, x5, x6, none] ∧ Ch [a] H H' ∧ BoxAt H' a ∧ H' lc = some (.lst cvs) ∧ Rps K H' cvs (cks.map ckD) ∧ cks.length ≤ i ∧
      ∀ c ∈ cks, PyData.strOk c.1 = true ∧ isVal0 c.2 = true ∧ c.1 ∈ ks) ?_ ?_ ?_
    · exact ⟨none, none, none, [], [], rfl, c01, b1, hlc1, .nil, Nat.le_refl _, by simp⟩
    · rintro i σ' H2 hi ⟨x4, x5, x6, cvs, cks, rfl, c2, b2, hlc2, rp2, fw, ok2⟩
      have lv := rp2.length
      rw [List.length_map] at lv
      walk_at "g"
      have hk2 := hk.ch c2 (by simpa using nl)
      refine w_lenL (SqL.of hk2.1) ?_
      walk_at "g"
      rw [List.length_map]
      refine w_take b2 (by omega) (by omega) fun j H3 j0 j1 c3 b3 => ?_
      have hk3 := hk2.ch c3 (by simpa using nl)
      obtain ⟨v, m, ha⟩ := pick_mem (xs := ks.map V.str) j0 (by rw [List.length_map]; exact j1)
      obtain ⟨k, kk, rfl⟩ := List.mem_map.mp m
      have tk := hk.2.2.2 k kk
      refine w_ixL (SqL.of hk3.1) ha ?_
      have c23 := c2.trans c3
      have hr3 := c23.2 _ _ hrw (by simpa using nr)
      walk_at "g"
      refine ⟨r, rfl, .inl ⟨kvs, .inl hr3⟩, ?_⟩
      walk_at "g"
      refine ⟨_, dgS hr3, ?_⟩
      walk_at "g"
      refine w_cut (M := fun σ' H' => ∃ v, σ' = [some (.ref a), some (.ref l), some (.ref r), some (.ref lc), some (.int (0 + (i : Int))), some (.str k), some v, none] ∧ isVal0 v = true ∧ Ch [a] H3 H' ∧ BoxAt H' a) ?_ ?_
      · walk_at "g"
        refine w_take b3 (by decide) (by decide) fun d H4 d0 d1 c4 b4 => ?_
        walk_at "g"
        refine ⟨fun _ => ?_, fun _ => ?_⟩
        · walk_at "g"
          refine ⟨a, rfl, b4, fun v H5 hv c5 b5 => ?_⟩
          walk_at "g"
          exact ⟨v, rfl, hv, c4.trans c5, b5⟩
        · walk_at "g"
          exact ⟨look kvs k, rfl, rk.look k, c4, b4⟩
      · rintro _ H4 ⟨v, rfl, hv, c4, b4⟩
        walk_at "g"
        have c34 := c3.trans c4
        have hlc4 := c34.2 _ _ hlc2 (by simpa using nlc)
        refine ⟨tyL hlc4, ?_⟩
        walk_at "g"
        refine ⟨by show 2 ≤ sizeLine; decide, fun t ht => ?_⟩
        walk_at "g"
        have s5 : Same H4 (upd H4 t (.tup [.str k, v])) := Same.new ht
        have hlc5 := s5 _ _ hlc4
        refine w_appR hlc5 (sz_lt (by omega)) ?_
        have px := Px.upd (o := .lst (cvs ++ [.ref t])) hlc5 rfl
        walk_at "g"
        refine ⟨_, _, _, cvs ++ [.ref t], cks ++ [(k, v)], rfl, ((c2.trans c34).then s5).thenUpd hlc5 rfl (.inr hlc), ?_, upd_same, ?_, by simp; omega, ?_⟩
        · obtain ⟨m, e⟩ := b4.same s5
          exact ⟨m, by rw [upd_ne nlc.symm]; exact e⟩
        · rw [List.map_append]
          exact (rp2.to ((c34.px.trans (Same.px s5)).trans px)).append (Rps.p1 (.tup (.inl (px _ _ upd_same)) (Rps.p2 (.str _) (rp_dV hv))))
        · intro c hc
          rcases List.mem_append.mp hc with z | z
          · exact ok2 c z
          · rw [List.mem_singleton.mp z]; exact ⟨tk.1, hv, kk⟩
    · rintro σ' H2 ⟨x4, x5, x6, cvs, cks, rfl, c2, b2, hlc2, rp2, fw, ok2⟩
      have lv := rp2.length
      rw [List.length_map] at lv
      walk_at "g"
      refine ⟨by show 6 ≤ sizeLine; decide, fun p2 hp2 => ?_⟩
      walk_at "g"
      refine w_pickT hp2 b2 (by decide) rfl (by decide) fun v H3 hv c3 b3 => ?_
      obtain ⟨m, rfl, m0, m6⟩ : ∃ n : Int, v = .int n ∧ 1 ≤ n ∧ n ≤ 6 := by
        simp only [List.mem_cons, List.not_mem_nil, or_false] at hv
        rcases hv with e | e | e | e | e | e <;> (rw [e]; exact ⟨_, rfl, by decide, by decide⟩)
      refine ⟨m, rfl, by omega, by omega, ?_⟩
      have hlc3 := c3.2 _ _ hlc2 (by simpa using nlc)
      refine lc_rng_it (fun D i H' => Ch [a] H3 H' ∧ D ≠ a ∧ BoxAt H' a ∧ ∃ (vs : List V) (ds : List Deed), H' D = some (.lst vs) ∧ Rps K H' vs (ds.map Deed.d) ∧ ds.length = i ∧ ∀ d ∈ ds, d.ok ∧ d.key ∈ ks) (fun D hD => ?_) (fun D i H' hD hi h => ?_) fun D H' hD h => ?_
      · exact ⟨Same.ch (Same.new hD), b3.ne_new hD, b3.same (Same.new hD), [], [], upd_same, .nil, rfl, by simp⟩
      · obtain ⟨c4, nD, b4, vs, ds, hvs, rp4, ld, ok4⟩ := h
        have lds := rp4.length
        rw [List.length_map] at lds
        walk_at "g"
        refine ⟨rfl, w_yes (iteT ?_)⟩
        walk_at "g"
        refine ⟨a, l, ks, rfl, b4, hk.ch ((c2.trans c3).trans c4) (by simpa using nl), fun y d H5 od kd c5 b5 rd => ?_⟩
        have hvs5 := c5.2 _ _ hvs (by simpa using nD)
        have px := Px.upd (o := .lst (vs ++ [y])) hvs5 rfl
        refine ⟨vs, hvs5, sz_lt (by omega), (c4.trans c5).thenUpd hvs5 rfl (.inr hD), nD, ?_, vs ++ [y], ds ++ [d], upd_same, ?_, by simp; omega, ?_⟩
        · obtain ⟨m, e⟩ := b5
          exact ⟨m, by rw [upd_ne nD.symm]; exact e⟩
        · rw [List.map_append]
          exact ((rp4.to c5.px).to px).append (Rps.p1 (rd.to px))
        · intro c hc
          rcases List.mem_append.mp hc with z | z
          · exact ok4 c z
          · rw [List.mem_singleton.mp z]; exact ⟨od, kd⟩
      · obtain ⟨c4, nD, b4, vs, ds, hvs, rp4, ld, ok4⟩ := h
        have lds := rp4.length
        rw [List.length_map] at lds
        walk_at "g"
        have hlc4 := c4.2 _ _ hlc3 (by simpa using nlc)
        refine w_tupleL (SqL.of hlc4) fun t1 ht1 => ?_
        have s5 : Same H' (upd H' t1 (.tup cvs)) := Same.new ht1
        walk_at "g"
        refine w_tupleL (SqL.of (s5 _ _ hvs)) fun t2 ht2 => ?_
        have s6 := Same.new (o := HO.tup vs) ht2
        walk_at "g"
        refine ⟨by show 2 ≤ sizeLine; decide, fun t3 ht3 => ?_⟩
        have s7 := Same.new (o := HO.tup [.ref t1, .ref t2]) ht3
        have c5 := (((c2.trans (c3.trans c4)).then s5).then s6).then s7
        refine q _ ⟨cks, ds⟩ _ ⟨fun c hc => ⟨(ok2 c hc).1, (ok2 c hc).2.1⟩, fun d hd => (ok4 d hd).1, ⟨by show cks.length ≤ 4; omega, by show ds.length ≤ 6; omega⟩⟩ (fun c hc => (ok2 c hc).2.2) (fun d hd => (ok4 d hd).2) ?_ c5 (((b4.same s5).same s6).same s7) ?_
        · intro e
          have e : ds = [] := e
          rw [e] at ld
          simp at ld
          omega
        · refine .tup (.inl upd_same) (Rps.p2 (.tup (.inl (s7 _ _ (s6 _ _ upd_same))) ?_) (.tup (.inl (s7 _ _ upd_same)) ?_))
          · exact rp2.to (((c3.trans c4).px.trans (Same.px s5)).trans ((Same.px s6).trans (Same.px s7)))
          · exact rp4.to ((Same.px s5).trans ((Same.px s6).trans (Same.px s7)))
--CUT
theorem ok_l_done (T : Tx K mg) : FnOk P w K mg base CX0 1 (He.ga K "_law_done") (fdOf K (He.ga K "_law_done")) ["_law_rows", "_law_deed_here"] (spDeed K) := by
  refine T.f_l_done.ok sc_l_done
    (fun vs H Q E h => ?_) (fun cdv A outer s H vs Q E hr h => ?_)
  · obtain ⟨a, kvs, dv, x, rfl, _⟩ := h
    rfl
  · obtain ⟨a, kvs, dv, x, rfl, ha, hd, ok, rk, few, q⟩ := h
    refine ⟨_, (pss_cons (ps_set (i := 2) sc_l_done.nd rfl (Or.inl rfl) (pe_ix (ixT_K (K := K) rfl) (pv 1) pe_int (fun _ _ => rfl)))
 (pss_cons (ps_set (i := 3) sc_l_done.nd rfl (Or.inl rfl) (pe_dget1 (hu_of hr) (pv 0) (pv 2) ⟨rfl, rfl, rfl, rfl⟩))
 (Evl.pss_cut (ps_if (pt_cmpR op_eq (pe_ix (ixT_K (K := K) rfl) (pv 1) pe_int (fun _ _ => rfl)) pe_str (nomark _))
 (pss_one (ps_dput (hu_of hr) (pv 0) (pv 2) (pe_ix (ixT_K (K := K) rfl) (pv 1) pe_int (fun _ _ => rfl)) rfl))
 pss_nil)
 (Evl.pss_cut (ps_if (PW.pt (pw_and (pt_cmpR op_eq (pe_ix (ixT_K (K := K) rfl) (pv 1) pe_int (fun _ _ => rfl)) pe_str (nomark _)) (pw_and1 (pt_cmpR op_noNo (pv 3) pe_non (nomark _)))))
 (pss_one (ps_expr (pe_dpop1 (pv 0) (pv 2) ⟨rfl, rfl, rfl, rfl⟩)))
 pss_nil)
 (pss_cons (ps_if (pt_cmpR op_ne (pe_ix (ixT_K (K := K) rfl) (pv 1) pe_int (fun _ _ => rfl)) pe_str (nomark _))
 (pss_one (ps_ret (pv 3)))
 pss_nil)
 (pss_cons (ps_set (i := 4) sc_l_done.nd rfl (Or.inl rfl) (pe_ix (ixT_K (K := K) rfl) (pv 1) pe_int (fun _ _ => rfl)))
 (Evl.pss_cut (ps_if (pt_cmpR op_noNo (pv 3) pe_non (nomark _))
 (pss_cons (ps_if (PW.pt (pw_or (pt_not (pt_val (pe_callB (isi_K (K := K) rfl) (by rfl) (T.fre 10) (by decide +kernel) (pa_cons (pv 3) (pa_cons (pe_bltn (v := .ty "int") (by rfl) (T.fre 0) (by decide +kernel) rfl) pa_nil))))) (pw_or1 (pt_cmpR op_gt (pe_callB call_abs (by rfl) (T.fre 9) (by decide +kernel) (pa_cons (pe_op op_add (pv 3) (pv 4)) pa_nil)) (pe_op op_pow pe_int pe_int) (nomark _)))))
 (pss_one (ps_ret pe_non))
 pss_nil)
 (pss_one (ps_set (i := 4) sc_l_done.nd rfl (Or.inl rfl) (pe_op op_add (pv 3) (pv 4)))))
 pss_nil)
 (pss_cons (ps_dput (hu_of hr) (pv 0) (pv 2) (pv 4) rfl)
 (pss_one (ps_ret (pv 4))))))))))), ?_⟩
    walk_at "g"
    have lk : ∀ k, (look kvs k ≠ .non) ↔ (valV kvs (Sum.inr k)).isSome = true := fun k => by
      rw [ne_eq, rk.look_non]
      cases valV kvs (Sum.inr k) <;> simp
    cases x with
    | get k =>
      obtain ⟨p, u1, u2, rfl, t, h1, h2⟩ := (show Rp K H dv (.tuple [.str "get", .str k]) from hd).tup2
      cases h1.asStr
      cases h2.asStr
      refine w_ixP t (y := .str k) rfl ?_
      walk_at "g"
      refine ⟨a, rfl, .inl ⟨kvs, .inl ha⟩, ?_⟩
      walk_at "g"
      refine ⟨_, dgS ha, ?_⟩
      walk_at "g"
      refine w_cut (M := fun σ' H' => σ' = [some (.ref a), some (.ref p), some (.str k), some (look kvs k), none] ∧ H' = H) ?_ ?_
      · walk_at "g"
        refine w_ixP t (y := .str "get") rfl ?_
        walk_at "g"
        refine w_no (by decide +kernel) ?_
        walk_at "g"
        exact ⟨rfl, rfl⟩
      · rintro _ H ⟨rfl, rfl⟩
        walk_at "g"
        refine w_cut (M := fun σ' H' => σ' = [some (.ref a), some (.ref p), some (.str k), some (look kvs k), none] ∧ H' = H) ?_ ?_
        · walk_at "g"
          refine w_ixP t (y := .str "get") rfl ?_
          walk_at "g"
          refine w_no (by decide +kernel) ?_
          refine w_no rfl ?_
          walk_at "g"
          exact ⟨rfl, rfl⟩
        · rintro _ H ⟨rfl, rfl⟩
          walk_at "g"
          refine w_ixP t (y := .str "get") rfl ?_
          walk_at "g"
          refine w_ye (by decide +kernel) ?_
          walk_at "g"
          exact q _ (Ch.refl _) ha
    | del k =>
      obtain ⟨p, u1, u2, rfl, t, h1, h2⟩ := (show Rp K H dv (.tuple [.str "del", .str k]) from hd).tup2
      cases h1.asStr
      cases h2.asStr
      refine w_ixP t (y := .str k) rfl ?_
      walk_at "g"
      refine ⟨a, rfl, .inl ⟨kvs, .inl ha⟩, ?_⟩
      walk_at "g"
      refine ⟨_, dgS ha, ?_⟩
      walk_at "g"
      refine w_cut (M := fun σ' H' => σ' = [some (.ref a), some (.ref p), some (.str k), some (look kvs k), none] ∧ H' = H) ?_ ?_
      · walk_at "g"
        refine w_ixP t (y := .str "del") rfl ?_
        walk_at "g"
        refine w_no (by decide +kernel) ?_
        walk_at "g"
        exact ⟨rfl, rfl⟩
      · rintro _ H ⟨rfl, rfl⟩
        walk_at "g"
        refine w_cut (M := fun σ' H' => σ' = [some (.ref a), some (.ref p), some (.str k), some (look kvs k), none] ∧ Ch [a] H H' ∧ H' a = some (.dK (dropK kvs (Sum.inr k)))) ?_ ?_
        · walk_at "g"
          refine w_ixP t (y := .str "del") rfl ?_
          walk_at "g"
          refine w_ye (by decide +kernel) ?_
          walk_at "g"
          refine ⟨fun h => ?_, fun h => ?_⟩
          · have h : look kvs k ≠ .non := nd_true h
            obtain ⟨v, hv⟩ := Option.isSome_iff_exists.mp ((lk k).mp h)
            walk_at "g"
            refine ⟨a, rfl, .inl ⟨kvs, .inl ha⟩, ?_⟩
            walk_at "g"
            refine ⟨kvs, Sum.inr k, v, ha, rfl, hv, ?_⟩
            walk_at "g"
            exact ⟨rfl, Ch.upd ha rfl, upd_same⟩
          · have h : look kvs k = .non := nd_false h
            walk_at "g"
            exact ⟨rfl, Ch.refl _, by rw [dropK_none ((rk.look_non k).mp h)]; exact ha⟩
        · rintro _ H' ⟨rfl, c, e⟩
          walk_at "g"
          refine w_ixP (t.mono c.px) (y := .str "del") rfl ?_
          walk_at "g"
          refine w_ye (by decide +kernel) ?_
          walk_at "g"
          exact q _ c e
    | put k v =>
      obtain ⟨p, u1, u2, u3, rfl, t, h1, h2, h3⟩ := (show Rp K H dv (.tuple [.str "put", .str k, dV v]) from hd).tup3
      cases h1.asStr
      cases h2.asStr
      cases h3.asV (isVal.to0 ok.2)
      refine w_ixP t (y := .str k) rfl ?_
      walk_at "g"
      refine ⟨a, rfl, .inl ⟨kvs, .inl ha⟩, ?_⟩
      walk_at "g"
      refine ⟨_, dgS ha, ?_⟩
      walk_at "g"
      refine w_cut (M := fun σ' H' => σ' = [some (.ref a), some (.ref p), some (.str k), some (look kvs k), none] ∧ Ch [a] H H' ∧ H' a = some (.dK (putK kvs (Sum.inr k) v))) ?_ ?_
      · walk_at "g"
        refine w_ixP t (y := .str "put") rfl ?_
        walk_at "g"
        refine w_ye (by decide +kernel) ?_
        walk_at "g"
        refine w_ixP t (y := v) rfl ?_
        walk_at "g"
        exact ⟨a, _, rfl, dpS ha (by omega), rfl, Ch.upd ha rfl, upd_same⟩
      · rintro _ H' ⟨rfl, c, e⟩
        walk_at "g"
        refine w_cut (M := fun σ' H2 => σ' = [some (.ref a), some (.ref p), some (.str k), some (look kvs k), none] ∧ H2 = H') ?_ ?_
        · walk_at "g"
          refine w_ixP (t.mono c.px) (y := .str "put") rfl ?_
          walk_at "g"
          refine w_no (by decide +kernel) ?_
          refine w_no rfl ?_
          walk_at "g"
          exact ⟨rfl, rfl⟩
        · rintro _ H' ⟨rfl, rfl⟩
          walk_at "g"
          refine w_ixP (t.mono c.px) (y := .str "put") rfl ?_
          walk_at "g"
          refine w_ye (by decide +kernel) ?_
          walk_at "g"
          exact q _ c e
    | add k n =>
      obtain ⟨p, u1, u2, u3, rfl, t, h1, h2, h3⟩ := (show Rp K H dv (.tuple [.str "add", .str k, .int n]) from hd).tup3
      cases h1.asStr
      cases h2.asStr
      cases h3.asInt
      refine w_ixP t (y := .str k) rfl ?_
      walk_at "g"
      refine ⟨a, rfl, .inl ⟨kvs, .inl ha⟩, ?_⟩
      walk_at "g"
      refine ⟨_, dgS ha, ?_⟩
      walk_at "g"
      refine w_cut (M := fun σ' H' => σ' = [some (.ref a), some (.ref p), some (.str k), some (look kvs k), none] ∧ H' = H) ?_ ?_
      · walk_at "g"
        refine w_ixP t (y := .str "add") rfl ?_
        walk_at "g"
        refine w_no (by decide +kernel) ?_
        walk_at "g"
        exact ⟨rfl, rfl⟩
      rintro _ H ⟨rfl, rfl⟩
      walk_at "g"
      refine w_cut (M := fun σ' H' => σ' = [some (.ref a), some (.ref p), some (.str k), some (look kvs k), none] ∧ H' = H) ?_ ?_
      · walk_at "g"
        refine w_ixP t (y := .str "add") rfl ?_
        walk_at "g"
        refine w_no (by decide +kernel) ?_
        refine w_no rfl ?_
        walk_at "g"
        exact ⟨rfl, rfl⟩
      rintro _ H ⟨rfl, rfl⟩
      walk_at "g"
      refine w_ixP t (y := .str "add") rfl ?_
      walk_at "g"
      refine w_no (by decide +kernel) ?_
      walk_at "g"
      refine w_ixP t (y := .int n) rfl ?_
      walk_at "g"
      have fin : ∀ m : Int, doDeed kvs (.add k n) = (.int m, putK kvs (Sum.inr k) (.int m)) → ∃ H', DPut H a (.str k) (.int m) H' ∧ Q (.int m) H' := fun m e => by
        rw [e] at q
        exact ⟨_, dpS ha (by omega), q _ (Ch.upd ha rfl) upd_same⟩
      refine w_cut (M := fun σ' H' => ∃ m : Int, doDeed kvs (.add k n) = (.int m, putK kvs (Sum.inr k) (.int m)) ∧ σ' = [some (.ref a), some (.ref p), some (.str k), some (look kvs k), some (.int m)] ∧ H' = H) ?_ ?_
      · walk_at "g"
        have lv := rk.look k
        cases e : look kvs k <;> first | (rw [e] at lv; cases lv; done) | skip
        · refine w_no (by simp) ?_
          walk_at "g"
          exact ⟨n, by simp only [doDeed, e], rfl, rfl⟩
        · rename_i m
          refine w_ye (by simp) ?_
          walk_at "g"
          refine w_isi tyxInt (b := true) (by decide +kernel) ?_
          walk_at "g"
          refine w_no rfl ?_
          walk_at "g"
          refine ⟨_, rfl, ?_⟩
          walk_at "g"
          rw [show (10 : Int) ^ Int.toNat 15 = 1000000000000000 by decide +kernel]
          refine ⟨fun h => ?_, fun h => ?_⟩
          · have h := of_decide_eq_true h
            have e2 : doDeed kvs (.add k n) = (.non, kvs) := by
              simp only [doDeed, e]
              exact if_neg (by split at h <;> omega)
            rw [e2] at q
            walk_at "g"
            exact q _ (Ch.refl _) ha
          · have h := of_decide_eq_false h
            walk_at "g"
            exact ⟨m + n, by simp only [doDeed, e]; exact if_pos (by split at h <;> omega), rfl, rfl⟩
        · refine w_ye (by simp) ?_
          walk_at "g"
          refine w_isi tyxStr (b := false) (by decide +kernel) ?_
          walk_at "g"
          refine w_ye rfl ?_
          refine w_ye rfl ?_
          walk_at "g"
          have e2 : doDeed kvs (.add k n) = (.non, kvs) := by simp only [doDeed, e]
          rw [e2] at q
          exact q _ (Ch.refl _) ha
      · rintro _ _ ⟨m, e, rfl, rfl⟩
        obtain ⟨H', h1, h2⟩ := fin m e
        walk_at "g"
        refine ⟨a, _, rfl, h1, ?_⟩
        walk_at "g"
        exact h2
theorem ok_l_do (T : Tx K mg) : FnOk P w K mg base CX0 2 (He.ga K "_law_do") (fdOf K (He.ga K "_law_do")) ["_law_rows", "_law_deal_here"] (spDeal K) := by
  refine T.f_l_do.ok sc_l_do
    (fun vs H Q E h => ?_) (fun cdv A outer s H vs Q E hr h => ?_)
  · obtain ⟨a, kvs, dv, x, rfl, _⟩ := h
    rfl
  · obtain ⟨a, kvs, dv, x, rfl, ha, hd, ok, rk, few, q⟩ := h
    refine ⟨_, (pss_cons (ps_set (i := 2) sc_l_do.nd rfl (Or.inl rfl) (pe_callTy (tupleS_K (K := K) rfl) (by rfl) (T.fre 8) (by decide +kernel) (pa_cons (pe_lc (own := [("_law_check", 3)]) rfl sc_l_do.nd (pi_tupK (K := K) rfl (pe_ix (ixT_K (K := K) rfl) (pv 1) pe_int (fun _ _ => rfl))) (blkOk_by (N := n_l_do) (sc := defScope s_l_do) (own := [("_law_check", 3)]) (by decide +kernel)) (fun _ _ _ _ _ => (pg_name (i := 3) sc_l_do.nd rfl (Or.inl rfl))) (fun _ _ _ _ _ => pts_nil) (fun _ _ _ _ _ => (pe_dget1 (hu_of hr) (pv 0) (pe_ix (ixT_K (K := K) rfl) (pv 3) pe_int (fun _ _ => rfl)) ⟨rfl, rfl, rfl, rfl⟩))) pa_nil)))
 (pss_cons (ps_for PassesOwn.never rfl (pi_tupK (K := K) rfl (pe_ix (ixT_K (K := K) rfl) (pv 1) pe_int (fun _ _ => rfl))) (pg_name (i := 3) sc_l_do.nd rfl (Or.inl rfl))
 (pss_one (ps_if (pt_cmpR op_ne (pe_dget1 (hu_of hr) (pv 0) (pe_ix (ixT_K (K := K) rfl) (pv 3) pe_int (fun _ _ => rfl)) ⟨rfl, rfl, rfl, rfl⟩) (pe_ix (ixT_K (K := K) rfl) (pv 3) pe_int (fun _ _ => rfl)) (nomark _))
 (pss_one (ps_ret (pe_tup (pa_cons pe_str (pa_cons (pv 2) pa_nil)))))
 pss_nil)))
 (pss_one (ps_ret (pe_tup (pa_cons pe_str (pa_cons (pe_callTy (tupleS_K (K := K) rfl) (by rfl) (T.fre 8) (by decide +kernel) (pa_cons (pe_lc (own := [("_law_deed_here", 4)]) rfl sc_l_do.nd (pi_tupK (K := K) rfl (pe_ix (ixT_K (K := K) rfl) (pv 1) pe_int (fun _ _ => rfl))) (blkOk_by (N := n_l_do) (sc := defScope s_l_do) (own := [("_law_deed_here", 4)]) (by decide +kernel)) (fun _ _ _ _ _ => (pg_name (i := 4) sc_l_do.nd rfl (Or.inl rfl))) (fun _ _ _ _ _ => pts_nil) (fun _ _ _ _ _ => (pe_call (ok_l_done T) (hr.mono (by decide)) rfl (T.glo 11) (T.kp_l_done) (T.b_l_done) .nil pass0 (pa_cons (pv 0) (pa_cons (pv 4) pa_nil))))) pa_nil)) pa_nil))))))), ?_⟩
    obtain ⟨p, u1, u2, rfl, t, h1, h2⟩ := (show Rp K H dv (.tuple [.tuple (x.cks.map ckD), .tuple (x.dds.map Deed.d)]) from hd).tup2
    obtain ⟨c, cs, rfl, tc, rc⟩ := h1.tupL
    obtain ⟨d, dds, rfl, td, rd⟩ := h2.tupL
    have lc := rc.length
    have ld := rd.length
    rw [List.length_map] at lc ld
    have f1 := ok.few.1
    have f2 := ok.few.2
    walk_at "g"
    refine w_ixP t (y := .ref c) rfl ?_
    refine lc_tup_data (S := fun v b => Rp K H v (ckD b)) (fun _ y b => y = b) (fun _ => true) (fun b => look kvs b.1) (fun _ _ _ _ _ h => h) tc (rps_paired rc) (by omega) ?_ ?_
    · intro v b H' hb hv s1 N Y _ hY
      obtain ⟨e, v1, v2, rfl, te, g1, g2⟩ := (show Rp K H' v (.tuple [.str b.1, dV b.2]) from hv.same s1).tup2
      cases g1.asStr
      walk_at "g"
      refine ⟨rfl, w_yes (iteT ?_)⟩
      walk_at "g"
      refine ⟨a, rfl, .inl ⟨kvs, .inl (s1 _ _ ha)⟩, ?_⟩
      walk_at "g"
      refine w_ixP te (y := .str b.1) rfl ?_
      refine ⟨_, dgS (s1 _ _ ha), ?_⟩
      exact hY rfl _ H' (fun _ _ z => z) rfl
    intro p1 H1 ys np1 s1 hy1 hp1
    rw [List.filter_eq_self.mpr fun _ _ => rfl] at hp1
    cases paired_eq hp1
    have hy1 : H1 p1 = some (.lst (cksV kvs x)) := hy1
    walk_at "g"
    refine w_tupleL (SqL.of hy1) fun tv htv => ?_
    have s2 : Same H (upd H1 tv (.tup (cksV kvs x))) := s1.trans (Same.new htv)
    have v1 := cksV_ok rk x
    have r1 : Rp K (upd H1 tv (.tup (cksV kvs x))) (.ref tv) (.tuple ((cksV kvs x).map dV)) := .tup (.inl upd_same) (rps_dV v1)
    walk_at "g"
    refine w_ixP (t.mono (Same.px s2)) (y := .ref c) rfl ?_
    generalize upd H1 tv (.tup (cksV kvs x)) = H2 at *
    have pc := rps_paired rc
    have tc2 := tc.mono (Same.px s2)
    refine ⟨c, rfl, ⟨_, tc2.sq⟩, for_tup (xs := cs) (fun i σ' H' => ∃ x3, σ' = [some (.ref a), some (.ref p), some (.ref tv), x3, none] ∧ H' = H2 ∧ ∀ b ∈ x.cks.take i, look kvs b.1 = b.2) ⟨none, rfl, rfl, by simp⟩ (fun i σ' H' _ h => by
      obtain ⟨_, _, rfl, _⟩ := h
      exact tc2.sq) ?_ ?_⟩
    · rintro i v σ' H' hv ⟨x3, rfl, rfl, hold⟩
      obtain ⟨b, hb, hvb⟩ := Paired.getL pc hv
      have mb := List.mem_of_getElem? hb
      obtain ⟨e, v1, v2, rfl, te, g1, g2⟩ := (show Rp K H' v (.tuple [.str b.1, dV b.2]) from hvb.same s2).tup2
      cases g1.asStr
      cases g2.asV (ok.cks b mb).2
      walk_at "g"
      refine ⟨a, rfl, .inl ⟨kvs, .inl (s2 _ _ ha)⟩, ?_⟩
      walk_at "g"
      refine w_ixP te (y := .str b.1) rfl ?_
      refine ⟨_, dgS (s2 _ _ ha), ?_⟩
      walk_at "g"
      refine w_ixP te (y := b.2) rfl ?_
      refine w_ne (isVal0.scal (rk.look b.1) (ok.cks b mb).2) ?_
      walk_at "g"
      refine ⟨fun h => ?_, fun h => ?_⟩
      · have h : look kvs b.1 ≠ b.2 := nd_true h
        walk_at "g"
        refine ⟨by show 2 ≤ sizeLine; decide, fun ta hta => ?_⟩
        have e : ¬ holds kvs x = true := fun z => h (of_decide_eq_true (List.all_eq_true.mp z b mb))
        have e2 : doDeal kvs x = (.tuple [.str "unheld", .tuple ((cksV kvs x).map dV)], kvs) := by
          unfold doDeal
          rw [if_neg e]
        rw [e2] at q
        have s6 := s2.trans (Same.new (o := HO.tup [.str "unheld", .ref tv]) hta)
        exact q _ _ (Same.ch s6) (s6 _ _ ha) (.tup (.inl upd_same) (Rps.p2 (.str _) (r1.same (Same.new hta))))
      · have h : look kvs b.1 = b.2 := nd_false h
        walk_at "g"
        refine ⟨_, rfl, rfl, fun z hz => ?_⟩
        rw [List.take_succ, hb] at hz
        rcases List.mem_append.mp hz with m | m
        · exact hold z m
        · simp at m
          rw [m]
          exact h
    · rintro σ' H' ⟨x3, rfl, rfl, hold⟩
      rw [lc, List.take_length] at hold
      have e : holds kvs x = true := List.all_eq_true.mpr fun b hb => decide_eq_true (hold b hb)
      have e2 : doDeal kvs x = (.tuple [.str "done", .tuple ((doDeeds kvs x.dds).1.map dV)], (doDeeds kvs x.dds).2) := by
        unfold doDeal
        rw [if_pos e]
      rw [e2] at q
      walk_at "g"
      refine w_ixP (t.mono (Same.px s2)) (y := .ref d) rfl ?_
      have pd := rps_paired rd
      have td2 := td.mono (Same.px s2)
      refine lc_tup_it (fun D i H' => Ch [a] H H' ∧ a ≠ D ∧ H' a = some (.dK (doDeeds kvs (x.dds.take i)).2) ∧ H' D = some (.lst (doDeeds kvs (x.dds.take i)).1) ∧ (doDeeds kvs (x.dds.take i)).1.length ≤ i) td2 (fun D i H' h => ?_) (fun D hD => ?_) (fun D i y H3 hD hy h => ?_) fun D H' hD h => ?_
      · exact td.mono h.1.px
      · exact ⟨(Same.ch s2).thenNew hD, ne_of_none (s2 _ _ ha) hD, by rw [upd_ne (ne_of_none (s2 _ _ ha) hD)]; exact s2 _ _ ha, upd_same, Nat.zero_le _⟩
      · obtain ⟨c1, nD, hr1, hD1, l1⟩ := h
        obtain ⟨b, hb, hv⟩ := Paired.getL pd hy
        have ib := (List.getElem?_eq_some_iff.mp hb).1
        have sub : ∀ e ∈ x.dds.take i, e.ok := fun e he => ok.dds e (List.mem_of_mem_take he)
        obtain ⟨g1, g2, g3⟩ := doDeeds_ok (ds := x.dds.take i) rk sub
        have tk : x.dds.take (i + 1) = x.dds.take i ++ [b] := by rw [List.take_succ, hb]; rfl
        rw [List.length_take] at g3
        walk_at "g"
        refine ⟨rfl, w_yes (iteT ?_)⟩
        walk_at "g"
        refine ⟨a, _, y, b, rfl, hr1, hv.to c1.px, ok.dds b (List.mem_of_getElem? hb), g1, by omega, fun H4 c4 e4 => ?_⟩
        have hD4 : H4 D = _ := c4.2 _ _ hD1 (by simpa using Ne.symm nD)
        refine ⟨_, hD4, sz_lt (by omega), (c1.trans c4).thenUpd hD4 rfl (.inr (fresh_back (S := []) (Same.ch s2) hD (by simp))), nD, ?_, ?_, ?_⟩
        · rw [upd_ne nD, e4, tk, doDeeds_snoc]
        · rw [upd_same, tk, doDeeds_snoc]
        · rw [tk, doDeeds_snoc, List.length_append, List.length_singleton]; omega
      · obtain ⟨c1, nD, hr1, hD1, l1⟩ := h
        have l2 : x.dds.take dds.length = x.dds := by rw [ld, List.take_length]
        rw [l2] at hr1 hD1
        obtain ⟨g1, g2, g3⟩ := doDeeds_ok rk ok.dds
        walk_at "g"
        refine w_tupleL (SqL.of hD1) fun tp htp => ?_
        walk_at "g"
        refine ⟨by show 2 ≤ sizeLine; decide, fun tr htr => ?_⟩
        have s6 := (Same.new (o := HO.tup (doDeeds kvs x.dds).1) htp)
        have s7 := (Same.new (o := HO.tup [.str "done", .ref tp]) htr)
        exact q _ _ ((c1.then s6).then s7) (s7 _ _ (s6 _ _ hr1)) (.tup (.inl upd_same) (Rps.p2 (.str _) (.tup (.inl (s7 _ _ upd_same)) (rps_dV g2))))
--CUT
/-! ### the store -/
theorem ok_Store__init (T : Tx K mg) : FnOk P w K mg base CX0 1 (He.ma K (He.ga K "Store") "__init__") (fdOf K (He.ma K (He.ga K "Store") "__init__")) ["self", "rows"] (fun vs H Q _ => ∃ (a dx : Addr), vs = [.ref a, .non] ∧ H a = some (.ins (He.ga K "Store") dx []) ∧ ∀ r, H r = none → Q .non (upd (upd H r (.dK [])) a (.ins (He.ga K "Store") dx [("rows", .ref r)]))) := by
  refine T.f_Store__init.ok sc_Store__init
    (fun vs H Q E h => ?_) (fun cdv A outer s H vs Q E hr h => ?_)
  · obtain ⟨a, dx, rfl, _⟩ := h
    rfl
  · obtain ⟨a, dx, rfl, ha, q⟩ := h
    refine ⟨_, (pss_cons (ps_fldK (K := K) rfl (pv 0) pe_dnewK rfl)
 (pss_one (ps_if (pt_cmpR op_noNo (pv 1) pe_non (nomark _))
 (pss_one ps_never)
 pss_nil))), ?_⟩
    walk_at "g"
    intro r hr0
    walk_at "g"
    refine ⟨a, _, dx, [], rfl, by rw [upd_ne (ne_of_none ha hr0)]; exact ha, T.cls_Store, T.no_Store_rows, by decide, ?_⟩
    walk_at "g"
    refine w_no rfl ?_
    walk_at "g"
    exact q r hr0
theorem ok_Store_do (T : Tx K mg) : FnOk P w K mg base CX0 6 (He.ma K (He.ga K "Store") "do") (fdOf K (He.ma K (He.ga K "Store") "do")) ["self", "deal"] (fun vs H Q _ => ∃ (p dx a : Addr) (kvs : Rws) (dv : V) (x : Deal), vs = [.ref p, dv] ∧ H p = some (.ins (He.ga K "Store") dx [("rows", .ref a)]) ∧ H a = some (.dK kvs) ∧ Rp K H dv x.d ∧ x.ok ∧ Rok kvs ∧ kvs.length ≤ 10000 ∧ ∀ H' u, Ch [a] H H' → H' a = some (.dK (doDeal kvs x).2) → Rp K H' u (doDeal kvs x).1 → Q u H') := by
  refine T.f_Store_do.ok sc_Store_do
    (fun vs H Q E h => ?_) (fun cdv A outer s H vs Q E hr h => ?_)
  · obtain ⟨p, dx, a, kvs, dv, x, rfl, _⟩ := h
    rfl
  · obtain ⟨p, dx, a, kvs, dv, x, rfl, hp, ha, hd, ok, rk, few, q⟩ := h
    refine ⟨_, (pss_one (ps_ret (pe_call (ok_do_deal T) (hr.mono (by decide)) rfl (T.glo 30) (T.kp_do_deal) (T.b_do_deal) .nil pass0 (pa_cons (pe_fldK (K := K) rfl (pv 0) rfl) (pa_cons (pv 1) pa_nil))))), ?_⟩
    walk_at "g"
    refine ⟨p, _, dx, _, .ref a, rfl, hp, T.cls_Store, T.no_Store_rows, rfl, ?_⟩
    walk_at "g"
    exact ⟨a, kvs, dv, x, rfl, ha, hd, ok, rk, few, q⟩
/-! ### by name -/
theorem ok_by_name (T : Tx K mg) : FnOk P w K mg base CX0 1 (He.ga K "by_name") (fdOf K (He.ga K "by_name")) ["history"] (fun vs H Q _ => ∃ (l : Addr) (rs : List Rec), vs = [.ref l] ∧ LsAt K H l (rs.map Rec.d) ∧ GoodH rs ∧ ∀ D H' kvs, H D = none → Same H H' → H' D = some (.dT kvs) → ByName K H' kvs rs → Q (.ref D) H') := by
  refine T.f_by_name.ok sc_by_name
    (fun vs H Q E h => ?_) (fun cdv A outer s H vs Q E hr h => ?_)
  · obtain ⟨l, rs, rfl, _⟩ := h
    rfl
  · obtain ⟨l, rs, rfl, hl, g, q⟩ := h
    refine ⟨_, (pss_one (ps_ret (pe_dcP (o0 := .dT []) (own := [("row", 1)]) rfl (hu_of hr) sc_by_name.nd (Or.inr rfl) (pi_listK (K := K) rfl (pv 0)) (blkOk_by (N := n_by_name) (sc := defScope s_by_name) (own := [("row", 1)]) (by decide +kernel)) (fun _ _ _ _ _ => (pg_name (i := 1) sc_by_name.nd rfl (Or.inl rfl))) (fun _ _ _ _ _ => pts_nil) (fun _ _ _ _ _ => (pe_tup (pa_cons (pe_ix (ixT_K (K := K) rfl) (pv 1) pe_int (fun _ _ => rfl)) (pa_cons (pe_ix (ixT_K (K := K) rfl) (pv 1) pe_int (fun _ _ => rfl)) pa_nil)))) (fun _ _ _ _ _ => (pv 1))))), ?_⟩
    obtain ⟨vs, hv, rp⟩ := hl
    walk_at "g"
    have lv := rp.length
    rw [List.length_map] at lv
    have few := g.few
    refine ⟨.ref l, rfl, l, rfl, ⟨vs, SqL.of hv⟩, fun D hD => ?_⟩
    refine dcp_it walk_list (fun i H' => Same H H' ∧ ∃ kvs, H' D = some (.dT kvs) ∧ kvs.length ≤ i ∧ ByName K H' kvs (rs.take i)) ⟨Same.new hD, [], upd_same, Nat.le_refl _, ByName.nil⟩ (fun i H' _ h => SqL.of (h.1 _ _ hv)) ?_ ?_
    · rintro i x H' H'' hi ⟨s1, kvs, hk, lk, bn⟩ ⟨e, hx⟩
      subst e
      obtain ⟨r, hr, hxr⟩ := Paired.getL (rps_paired rp) hx
      have hxr := hxr.same s1
      obtain ⟨b, xv, spv, anv, rfl, t, _⟩ := rec_at hxr
      refine ⟨rfl, w_yes (iteT ?_)⟩
      walk_at "g"
      refine w_ixP t (y := .int r.c) rfl ?_
      walk_at "g"
      refine w_ixP t (y := .int r.n) rfl ?_
      walk_at "g"
      refine ⟨by show 2 ≤ sizeLine; decide, fun p hp => ?_⟩
      walk_at "g"
      have s2 := Same.new (o := HO.tup (nmV r.nm)) hp
      have hk2 := s2 _ _ hk
      have px := Px.upd (o := .dT (putK kvs (nmK r.nm) (.ref b))) hk2 rfl
      refine ⟨_, DPut.t (k := nmK r.nm) hk2 upd_same (sz_lt (by omega)), ?_, _, upd_same, ?_, ?_⟩
      · intro c o hc
        rw [upd_ne (ne_of_none hc hD)]
        exact s2 _ _ (s1 _ _ hc)
      · have := length_putK kvs (nmK r.nm) (.ref b)
        omega
      · have tk : rs.take (i + 1) = rs.take i ++ [r] := by rw [List.take_succ, hr]; rfl
        rw [tk]
        refine (bn.to ((Same.px s2).trans px)).snoc ?_ (hxr.to ((Same.px s2).trans px))
        exact nd_take g.nd hr
    · rintro H' ⟨s1, kvs, hk, lk, bn⟩
      rw [lv, List.take_length] at bn
      exact q D H' kvs hD s1 hk bn

/-! ### faults, by the judge -/
theorem ok_name_fault (T : Tx K mg) : FnOk P w K mg base CX0 2 (He.ga K "name_fault") (fdOf K (He.ga K "name_fault")) ["history", "order"] (spF K badName (fun _ os => os.length) fun _ _ => True) := by
  refine T.f_name_fault.ok sc_name_fault
    (fun vs H Q E h => ?_) (fun cdv A outer s H vs Q E hr h => ?_)
  · obtain ⟨hl, ol, rs, os, rfl, _⟩ := h
    rfl
  · obtain ⟨hl, ol, rs, os, rfl, lh, lo, gh, go, _, q⟩ := h
    refine ⟨_, (pss_cons (ps_set (i := 2) sc_name_fault.nd rfl (Or.inl rfl) (pe_call (ok_by_name T) (hr.mono (by decide)) rfl (T.glo 18) (T.kp_by_name) (T.b_by_name) .nil pass0 (pa_cons (pv 0) pa_nil)))
 (pss_cons (ps_set (i := 3) sc_name_fault.nd rfl (Or.inl rfl) (pe_lst pa_nil))
 (pss_cons (ps_for PassesOwn.never rfl (pi_enumK (K := K) rfl (by rfl) (T.fre 19) (pa_cons (pv 1) pa_nil)) (pg_tupK (K := K) (n := 2) rfl (by rfl) (pgs_cons (pg_name (i := 4) sc_name_fault.nd rfl (Or.inl rfl)) (pgs_cons (pg_name (i := 5) sc_name_fault.nd rfl (Or.inl rfl)) pgs_nil)))
 (pss_cons (ps_if (pt_cmp (pc_dnotin (hu_of hr) (pe_slice (slT_K (K := K) rfl) (pv 5) po_none (po_some pe_int)) (pv 2)))
 (pss_one (ps_ret (pe_tup (pa_cons pe_str (pa_cons (pv 4) pa_nil)))))
 pss_nil)
 (pss_cons (ps_if (pt_cmpR (inD_K (K := K) rfl (hu65 hr)) (pe_slice (slT_K (K := K) rfl) (pv 5) po_none (po_some pe_int)) (pv 3) (by rfl))
 (pss_one (ps_ret (pe_tup (pa_cons pe_str (pa_cons (pv 4) pa_nil)))))
 pss_nil)
 (pss_one (ps_expr (pe_bmK (K := K) rfl PySem.F.plainAttrs_list PySem.F.slot_list_append PySem.F.type_list_append mt_append (pv 3) (pa_cons (pe_slice (slT_K (K := K) rfl) (pv 5) po_none (po_some pe_int)) pa_nil)))))))
 (pss_one (ps_ret pe_non))))), ?_⟩
    walk_at "g"
    refine ⟨hl, rs, rfl, lh, gh, fun D H1 kvs nD s1 hD bn => ?_⟩
    have bn : ByName K H1 kvs rs := bn
    walk_at "g"
    refine ⟨Nat.zero_le _, fun sl hsl => ?_⟩
    obtain ⟨ovs, ho, ro⟩ := lo
    have lv := ro.length
    rw [List.length_map] at lv
    have few := go.few
    have sa : Same H1 (upd H1 sl (.lst [])) := Same.new hsl
    walk_at "g"
    refine ⟨ol, ovs, rfl, SqL.of (sa _ _ (s1 _ _ ho)), ?_⟩
    refine for_it walk_enum (fun i σ' H' => ∃ (x4 x5 : Option V) (svs : List V), σ' = [some (.ref hl), some (.ref ol), some (.ref D), some (.ref sl), x4, x5] ∧ Same H1 H' ∧ H' sl = some (.lst svs) ∧ Rps K H' svs ((os.take i).map fun e => nmD e.nm) ∧ ∀ j < i, ∀ w, ¬ badName rs os j w) ?_ (fun i σ' H' _ h => by
      obtain ⟨_, _, _, _, s2, _⟩ := h
      exact SqL.of (s2 _ _ (s1 _ _ ho))) ?_ ?_
    · exact ⟨none, none, [], rfl, sa, upd_same, .nil, fun j hj => absurd hj (Nat.not_lt_zero _)⟩
    · rintro i x σ' H2 H2' hi ⟨x4, x5, svs, rfl, s2, hs2, rs2, nb⟩ ⟨t, u, v, rfl, ht, rfl, hu, hv⟩
      cases hu
      obtain ⟨e, he, hev⟩ := Paired.getL (rps_paired ro) hv
      have s3 := Same.new (o := HO.tup [.int (i : Nat), v]) ht
      have sAll := s2.trans s3
      have hev := hev.same (s1.trans sAll)
      obtain ⟨b, av, rfl, te, _⟩ := ent_at hev
      have ls := rs2.length
      rw [List.length_map, List.length_take] at ls
      refine w_gTup (SqT.of upd_same) rfl ?_
      walk_at "g"
      refine w_sl2 te fun p hp => ?_
      walk_at "g"
      have s4 := Same.new (o := HO.tup (nmV e.nm)) hp
      have s24 := sAll.trans s4
      refine ⟨D, _, rfl, dg_nm (n := e.nm) (s24 _ _ hD) upd_same, ?_⟩
      walk_at "g"
      refine ⟨fun h => ?_, fun h => ?_⟩
      · walk_at "g"
        refine ⟨by show 2 ≤ sizeLine; decide, fun r hr => ?_⟩
        have z : recOf rs e.nm = none := by
          cases z : recOf rs e.nm with
          | none => rfl
          | some r =>
            obtain ⟨v, e1, _⟩ := (bn e.nm).2 r z
            rw [e1] at h
            cases h
        exact q (some ("unknown", i)) _ _ ((s1.trans s24).trans (Same.new hr)) (.inr ⟨i, _, rfl, by show i < os.length; omega, ⟨e, he, .inl ⟨rfl, z⟩⟩, nb⟩) (.tup (.inl upd_same) (Rps.p2 (.str _) (.int _)))
      have kn : recOf rs e.nm ≠ none := fun z => by
        rw [(bn e.nm).1 z] at h
        cases h
      walk_at "g"
      refine w_sl2 (te.mono (Same.px s4)) fun p2 hp2 => ?_
      walk_at "g"
      have s5 := Same.new (o := HO.tup (nmV e.nm)) hp2
      have s35 := (s3.trans s4).trans s5
      have q5 : Rps K (upd (upd (upd H2 t (.tup [.int (i : Nat), .ref b])) p (.tup (nmV e.nm))) p2 (.tup (nmV e.nm))) svs (((os.take i).map Ent.nm).map nmD) := rps_map (rs2.same s35)
      refine w_inRp (rp_nm (K := K) (n := e.nm) upd_same) (s35 _ _ hs2) q5 (nmD_shp (n := 59) _) (fun d hd => ?_) fun c hc => ?_
      · obtain ⟨n, _, rfl⟩ := List.mem_map.mp hd
        exact nmD_shp (n := 59) _
      rw [nmD_mem] at hc
      walk_at "g"
      refine ⟨fun h => ?_, fun h => ?_⟩
      · walk_at "g"
        refine ⟨by show 2 ≤ sizeLine; decide, fun r hr => ?_⟩
        exact q (some ("twice", i)) _ _ (((s1.trans s2).trans s35).trans (Same.new hr)) (.inr ⟨i, _, rfl, by show i < os.length; omega, ⟨e, he, .inr ⟨rfl, kn, hc.mp h⟩⟩, nb⟩) (.tup (.inl upd_same) (Rps.p2 (.str _) (.int _)))
      · walk_at "g"
        refine ⟨tyL (s35 _ _ hs2), ?_⟩
        walk_at "g"
        refine w_sl2 (te.mono (Same.px (s4.trans s5))) fun p3 hp3 => ?_
        walk_at "g"
        have s6 := Same.new (o := HO.tup (nmV e.nm)) hp3
        have s36 := s35.trans s6
        have hs6 := s36 _ _ hs2
        refine w_appR hs6 (sz_lt (by omega)) ?_
        have px := Px.upd (o := .lst (svs ++ [.ref p3])) hs6 rfl
        walk_at "g"
        refine ⟨_, _, svs ++ [.ref p3], rfl, fun c o hc => ?_, upd_same, ?_, fun j hj w hb => ?_⟩
        · rw [upd_ne (ne_of_none hc hsl)]
          exact s36 _ _ (s2 _ _ hc)
        · rw [List.take_succ, he, List.map_append]
          exact (rs2.to ((Same.px s36).trans px)).append (Rps.p1 (rp_nm (px _ _ upd_same)))
        · rcases Nat.lt_succ_iff_lt_or_eq.mp hj with z | z
          · exact nb j z w hb
          · subst z
            obtain ⟨e', h1, h2⟩ := hb
            rw [he] at h1
            cases h1
            rcases h2 with ⟨_, h2⟩ | ⟨_, _, h2⟩
            · exact kn h2
            · rw [hc.mpr h2] at h
              cases h
    · rintro σ' H2 ⟨x4, x5, svs, rfl, s2, hs2, rs2, nb⟩
      walk_at "g"
      exact q none _ _ (s1.trans s2) (.inl ⟨rfl, fun j hj => nb j (by rw [lv]; exact hj)⟩) .non
theorem ok_answer_fault (T : Tx K mg) : FnOk P w K mg base CX0 7 (He.ga K "answer_fault") (fdOf K (He.ga K "answer_fault")) ["history", "order"] (spF K badAns (fun _ os => os.length) Known) := by
  refine T.f_answer_fault.ok sc_answer_fault
    (fun vs H Q E h => ?_) (fun cdv A outer s H vs Q E hr h => ?_)
  · obtain ⟨hl, ol, rs, os, rfl, _⟩ := h
    rfl
  · obtain ⟨hl, ol, rs, os, rfl, lh, lo, gh, go, kn, q⟩ := h
    refine ⟨_, (pss_cons (ps_set (i := 2) sc_answer_fault.nd rfl (Or.inl rfl) (pe_call (ok_by_name T) (hr.mono (by decide)) rfl (T.glo 18) (T.kp_by_name) (T.b_by_name) .nil pass0 (pa_cons (pv 0) pa_nil)))
 (pss_cons (ps_set (i := 3) sc_answer_fault.nd rfl (Or.inl rfl) (pe_make0 (T.mk_Store) (ok_Store__init T) (hr.mono (by decide)) rfl (T.glo 32) (T.b1_Store__init).choose_spec.2 (T.b1_Store__init).choose_spec.1 pass0))
 (pss_cons (ps_for PassesOwn.never rfl (pi_enumK (K := K) rfl (by rfl) (T.fre 19) (pa_cons (pv 1) pa_nil)) (pg_tupK (K := K) (n := 2) rfl (by rfl) (pgs_cons (pg_name (i := 4) sc_answer_fault.nd rfl (Or.inl rfl)) (pgs_cons (pg_name (i := 5) sc_answer_fault.nd rfl (Or.inl rfl)) pgs_nil)))
 (pss_cons (ps_set (i := 6) sc_answer_fault.nd rfl (Or.inl rfl) (pe_dget (hu_of hr) (pv 2) (pe_slice (slT_K (K := K) rfl) (pv 5) po_none (po_some pe_int)) (fun _ _ => rfl)))
 (pss_cons (ps_if (pt_cmpR (neD_K (K := K) rfl hr.units) (pe_meth (pv 3) (T.cls_Store) (T.me_Store_do) (ok_Store_do T) (hr.mono (by decide)) (T.b_Store_do) .nil pass0 (pa_cons (pe_ix (ixT_K (K := K) rfl) (pv 6) pe_int (fun _ _ => rfl)) pa_nil)) (pe_ix (ixT_K (K := K) rfl) (pv 5) pe_int (fun _ _ => rfl)) (nomark _))
 (pss_one (ps_ret (pe_tup (pa_cons pe_str (pa_cons (pv 4) pa_nil)))))
 pss_nil)
 (pss_one (ps_if (PW.pt (pw_and (pt_cmpR op_noNo (pe_ix (ixT_K (K := K) rfl) (pv 6) pe_int (fun _ _ => rfl)) pe_non (nomark _)) (pw_and1 (pt_cmpR (neD_K (K := K) rfl hr.units) (pe_ix (ixT_K (K := K) rfl) (pv 6) pe_int (fun _ _ => rfl)) (pe_ix (ixT_K (K := K) rfl) (pv 5) pe_int (fun _ _ => rfl)) (nomark _)))))
 (pss_one (ps_ret (pe_tup (pa_cons pe_str (pa_cons (pv 4) pa_nil)))))
 pss_nil)))))
 (pss_one (ps_ret pe_non))))), ?_⟩
    walk_at "g"
    refine ⟨hl, rs, rfl, lh, gh, fun D H1 kvs nD s1 hD bn => ?_⟩
    have bn : ByName K H1 kvs rs := bn
    obtain ⟨ovs, ho, ro⟩ := lo
    have lv := ro.length
    rw [List.length_map] at lv
    have few := go.few
    walk_at "g"
    intro sp dx hsp hdx ne
    refine ⟨sp, dx, rfl, upd_same, fun r hr => ⟨rfl, ?_⟩⟩
    generalize hH2 : upd (upd (upd (upd H1 dx (.own sp)) sp (.ins (He.ga K "Store") dx [])) r (.dK [])) sp (.ins (He.ga K "Store") dx [("rows", .ref r)]) = H2
    refine at_heap hH2 ?_
    have nrs : r ≠ sp := by
      rintro rfl
      have hr : upd (upd H1 dx (.own r)) r (.ins (He.ga K "Store") dx []) r = none := hr
      rw [upd_same] at hr
      cases hr
    have nr : H1 r = none := by
      have hr : upd (upd H1 dx (.own sp)) sp (.ins (He.ga K "Store") dx []) r = none := hr
      rw [upd_ne nrs] at hr
      by_cases z : r = dx
      · rw [z]; exact hdx
      · rw [upd_ne z] at hr; exact hr
    have s2 : Same H1 H2 := fun b o hb => by
      rw [← hH2, upd_ne (ne_of_none hb hsp), upd_ne (ne_of_none hb nr), upd_ne (ne_of_none hb hsp), upd_ne (ne_of_none hb hdx)]
      exact hb
    have hp2 : H2 sp = some (.ins (He.ga K "Store") dx [("rows", .ref r)]) := by rw [← hH2, upd_same]
    have hr2 : H2 r = some (.dK []) := by rw [← hH2, upd_ne nrs, upd_same]
    walk_at "g"
    refine ⟨ol, ovs, rfl, SqL.of (s2 _ _ (s1 _ _ ho)), ?_⟩
    refine for_it walk_enum (fun i σ' H' => ∃ (x4 x5 x6 : Option V), σ' = [some (.ref hl), some (.ref ol), some (.ref D), some (.ref sp), x4, x5, x6] ∧ Same H1 H' ∧ H' sp = some (.ins (He.ga K "Store") dx [("rows", .ref r)]) ∧ H' r = some (.dK (replay rs (os.take i))) ∧ ∀ j < i, ∀ w, ¬ badAns rs os j w) ?_ (fun i σ' H' _ h => by
      obtain ⟨_, _, _, _, s2, _⟩ := h
      exact SqL.of (s2 _ _ (s1 _ _ ho))) ?_ ?_
    · exact ⟨none, none, none, rfl, s2, hp2, hr2, fun j hj => absurd hj (Nat.not_lt_zero _)⟩
    · rintro i x σ' H3 H3' hi ⟨x4, x5, x6, rfl, s3, hp3, hr3, nb⟩ ⟨t, u, v, rfl, ht, rfl, hu, hv⟩
      cases hu
      obtain ⟨e, he, hev⟩ := Paired.getL (rps_paired ro) hv
      have me := List.mem_of_getElem? he
      have s4 := Same.new (o := HO.tup [.int (i : Nat), v]) ht
      have s14 := s3.trans s4
      have hev := hev.same (s1.trans s14)
      obtain ⟨b, av, rfl, te, ra⟩ := ent_at hev
      obtain ⟨rc, hrc⟩ := kn e me
      obtain ⟨rv, e1, hrv⟩ := (bn e.nm).2 rc hrc
      have okr := gh.ok rc (recOf_mem hrc).1
      refine w_gTup (SqT.of upd_same) rfl ?_
      walk_at "g"
      refine w_sl2 te fun p hp => ?_
      have s5 := Same.new (o := HO.tup (nmV e.nm)) hp
      have s15 := s14.trans s5
      have s45 := s4.trans s5
      refine ⟨D, rv, rfl, dg_nm' (n := e.nm) (s15 _ _ hD) upd_same e1, ?_⟩
      obtain ⟨rb, xv, spv, anv, rfl, tr, rx, _, rn⟩ := rec_at (hrv.same s15)
      generalize hH5 : upd (upd H3 t (.tup [.int (i : Nat), .ref b])) p (.tup [.int e.c, .int e.n]) = H5 at *
      have ea : upd (upd H3 t (.tup [.int (i : Nat), .ref b])) p (.tup (nmV e.nm)) = H5 := hH5
      rw [ea] at s5 s15 s45 tr rx rn
      walk_at "g"
      refine ⟨sp, dx, _, rfl, s45 _ _ hp3, rfl, ?_⟩
      walk_at "g"
      refine w_ixP tr (y := xv) rfl ?_
      have okw := replay_ok gh.ok (os.take i)
      have lt : (os.take i).length ≤ 1000 := by rw [List.length_take]; omega
      refine ⟨sp, dx, r, _, xv, rc.x, rfl, s45 _ _ hp3, s45 _ _ hr3, rx, okr.x, okw.1, by omega, fun H6 u c6 hr6 ru => ?_⟩
      have ru : Rp K H6 u (doDeal (replay rs (os.take i)) rc.x).1 := ru
      have s16 : Same H1 H6 := fun b o hb => c6.2 _ _ (s15 _ _ hb) (by simpa using ne_of_none hb nr)
      have hp6 := c6.2 _ _ (s45 _ _ hp3) (by simpa using nrs.symm)
      have te6 := (te.mono (Same.px s5)).mono c6.px
      have tr6 := tr.mono c6.px
      have okd := (doDeal_ok okw.1 okr.x).2.1
      walk_at "g"
      refine w_ixP te6 (y := av) rfl ?_
      refine w_neRp ru ((ra.same s5).to c6.px) (okd.mono (by decide)) ((go.ok e me).shp.mono (by decide)) fun c hc => ?_
      walk_at "g"
      refine ⟨fun h => ?_, fun h => ?_⟩
      · walk_at "g"
        refine ⟨by show 2 ≤ sizeLine; decide, fun z hz => ?_⟩
        exact q (some ("wrong", i)) _ _ ((s1.trans s16).trans (Same.new hz)) (.inr ⟨i, _, rfl, by show i < os.length; omega, ⟨e, rc, he, hrc, .inl ⟨rfl, hc.mp h⟩⟩, nb⟩) (.tup (.inl upd_same) (Rps.p2 (.str _) (.int _)))
      have same : (doDeal (replay rs (os.take i)) rc.x).1 = e.an := by
        by_cases z : (doDeal (replay rs (os.take i)) rc.x).1 = e.an
        · exact z
        · rw [hc.mpr z] at h; cases h
      have next : (∀ a, rc.an = some a → a = e.an) → ∀ j < i + 1, ∀ w, ¬ badAns rs os j w := fun hh j hj w hb => by
        rcases Nat.lt_succ_iff_lt_or_eq.mp hj with z | z
        · exact nb j z w hb
        · subst z
          obtain ⟨e', r', h1, h2, h3⟩ := hb
          rw [he] at h1
          cases h1
          rw [hrc] at h2
          cases h2
          rcases h3 with ⟨_, h3⟩ | ⟨_, _, a, h3, h4⟩
          · exact h3 same
          · exact h4 (hh a h3)
      have rep : replay rs (os.take (i + 1)) = (doDeal (replay rs (os.take i)) rc.x).2 := by
        rw [List.take_succ, he]
        exact replay_snoc hrc
      walk_at "g"
      refine w_ixP tr6 (y := anv) rfl ?_
      walk_at "g"
      have rn6 := rn.to c6.px
      refine ⟨fun h => ?_, fun h => ?_⟩
      · have h := nd_true h
        cases ha : rc.an with
        | none =>
          rw [ha] at rn6
          exact absurd rn6.asNon h
        | some a =>
          rw [ha] at rn6
          have rn6 : Rp K H6 anv a := rn6
          walk_at "g"
          refine w_ixP tr6 (y := anv) rfl ?_
          walk_at "g"
          refine w_ixP te6 (y := av) rfl ?_
          refine w_neRp rn6 ((ra.same s5).to c6.px) ((okr.an a ha).shp.mono (by decide)) ((go.ok e me).shp.mono (by decide)) fun c2 hc2 => ?_
          walk_at "g"
          refine ⟨fun h => ?_, fun h => ?_⟩
          · walk_at "g"
            refine ⟨by show 2 ≤ sizeLine; decide, fun z hz => ?_⟩
            exact q (some ("other", i)) _ _ ((s1.trans s16).trans (Same.new hz)) (.inr ⟨i, _, rfl, by show i < os.length; omega, ⟨e, rc, he, hrc, .inr ⟨rfl, same, a, ha, hc2.mp h⟩⟩, nb⟩) (.tup (.inl upd_same) (Rps.p2 (.str _) (.int _)))
          · walk_at "g"
            refine ⟨_, _, _, rfl, s16, hp6, by rw [rep]; exact hr6, next fun a' ha' => ?_⟩
            rw [ha] at ha'
            cases ha'
            by_cases z : a = e.an
            · exact z
            · rw [hc2.mpr z] at h; cases h
      · have h := nd_false h
        refine w_no rfl ?_
        walk_at "g"
        refine ⟨_, _, _, rfl, s16, hp6, by rw [rep]; exact hr6, next fun a' ha' => ?_⟩
        rw [ha'] at rn6
        obtain ⟨w, ds, e2, _⟩ := okr.an a' ha'
        subst e2
        obtain ⟨_, _, e3, _⟩ := (show Rp K H6 anv (.tuple (.str w :: ds)) from rn6).tupL
        rw [h] at e3
        cases e3
    · rintro σ' H3 ⟨x4, x5, x6, rfl, s3, hp3, hr3, nb⟩
      walk_at "g"
      exact q none _ _ (s1.trans s3) (.inl ⟨rfl, fun j hj => nb j (by rw [lv]; exact hj)⟩) .non
theorem ok_missing_fault (T : Tx K mg) : FnOk P w K mg base CX0 1 (He.ga K "missing_fault") (fdOf K (He.ga K "missing_fault")) ["history", "order"] (spF K badMiss (fun hs _ => hs.length) fun _ _ => True) := by
  refine T.f_missing_fault.ok sc_missing_fault
    (fun vs H Q E h => ?_) (fun cdv A outer s H vs Q E hr h => ?_)
  · obtain ⟨hl, ol, rs, os, rfl, _⟩ := h
    rfl
  · obtain ⟨hl, ol, rs, os, rfl, lh, lo, gh, go, _, q⟩ := h
    refine ⟨_, (pss_cons (ps_setLc (i := 2) (own := [("row", 4)]) rfl sc_missing_fault.nd rfl rfl (sw_true rfl rfl rfl (by decide +kernel)) (pi_listK (K := K) rfl (pv 1)) (blkOk_by (N := n_missing_fault) (sc := defScope s_missing_fault) (own := [("row", 4)]) (by decide +kernel)) (fun _ _ _ _ _ => (pg_name (i := 4) sc_missing_fault.nd rfl (Or.inl rfl))) (fun _ _ _ _ _ => pts_nil) (fun _ _ _ _ _ => (pe_slice (slT_K (K := K) rfl) (pv 4) po_none (po_some pe_int))))
 (pss_cons (ps_for PassesOwn.never rfl (pi_enumK (K := K) rfl (by rfl) (T.fre 19) (pa_cons (pv 0) pa_nil)) (pg_tupK (K := K) (n := 2) rfl (by rfl) (pgs_cons (pg_name (i := 3) sc_missing_fault.nd rfl (Or.inl rfl)) (pgs_cons (pg_name (i := 4) sc_missing_fault.nd rfl (Or.inl rfl)) pgs_nil)))
 (pss_one (ps_if (PW.pt (pw_and (pt_cmpR op_noNo (pe_ix (ixT_K (K := K) rfl) (pv 4) pe_int (fun _ _ => rfl)) pe_non (nomark _)) (pw_and (pt_cmpR (inS_K (K := K) rfl) (pe_ix (ixT_K (K := K) rfl) (pe_ix (ixT_K (K := K) rfl) (pv 4) pe_int (fun _ _ => rfl)) pe_int (fun _ _ => rfl)) (pe_glob (v := .ref (He.ga K "DECIDED")) rfl (T.glo 35) rfl) (by rfl)) (pw_and1 (pt_cmpR (notInD_K (K := K) rfl (hu65 hr)) (pe_slice (slT_K (K := K) rfl) (pv 4) po_none (po_some pe_int)) (pv 2) (by rfl))))))
 (pss_one (ps_ret (pe_tup (pa_cons pe_str (pa_cons (pv 3) pa_nil)))))
 pss_nil)))
 (pss_one (ps_ret pe_non)))), ?_⟩
    obtain ⟨ovs, ho, ro⟩ := lo
    obtain ⟨hvs, hh, rh⟩ := lh
    have lv := ro.length
    have lhv := rh.length
    rw [List.length_map] at lv lhv
    have few := go.few
    have fewh := gh.few
    walk_at "g"
    refine lc_list_data (S := fun v b => Rp K H v (Ent.d b)) (fun H y (b : Nm2) => Rp K H y (nmD b)) (fun _ => true) Ent.nm (fun _ _ _ _ p h => h.to p) (SqL.of ho) (fun H' s' => SqL.of (s' _ _ ho)) (rps_paired ro) (by omega) ?_ ?_
    · intro v e H' he hv s1 N Y _ hY
      obtain ⟨b, av, rfl, te, _⟩ := ent_at (hv.same s1)
      walk_at "g"
      refine ⟨rfl, w_yes (iteT ?_)⟩
      walk_at "g"
      refine w_sl2 te fun p hp => ?_
      exact hY rfl _ _ (Same.new hp) (rp_nm (n := e.nm) upd_same)
    intro tl H1 tvs ntl s1 htl hpt
    rw [List.filter_eq_self.mpr fun _ _ => rfl] at hpt
    have rt := paired_rps hpt
    walk_at "g"
    refine ⟨hl, hvs, rfl, SqL.of (s1 _ _ hh), ?_⟩
    refine for_it walk_enum (fun i σ' H' => ∃ (x3 x4 : Option V), σ' = [some (.ref hl), some (.ref ol), some (.ref tl), x3, x4] ∧ Same H1 H' ∧ ∀ j < i, ∀ w, ¬ badMiss rs os j w) ?_ (fun i σ' H' _ h => by
      obtain ⟨_, _, _, s2, _⟩ := h
      exact SqL.of (s2 _ _ (s1 _ _ hh))) ?_ ?_
    · exact ⟨none, none, rfl, fun _ _ z => z, fun j hj => absurd hj (Nat.not_lt_zero _)⟩
    · rintro i x σ' H2 H2' hi ⟨x3, x4, rfl, s2, nb⟩ ⟨t, u, v, rfl, ht, rfl, hu, hv⟩
      cases hu
      obtain ⟨r, hr, hrv⟩ := Paired.getL (rps_paired rh) hv
      have mr := List.mem_of_getElem? hr
      have s3 := Same.new (o := HO.tup [.int (i : Nat), v]) ht
      have s13 := s2.trans s3
      obtain ⟨b, xv, spv, anv, rfl, tr, rx, _, rn⟩ := rec_at (hrv.same (s1.trans s13))
      have okr := gh.ok r mr
      have next : (∀ a, r.an = some a → decidedA a → r.nm ∈ os.map Ent.nm) → ∀ j < i + 1, ∀ w, ¬ badMiss rs os j w := fun hh j hj w hb => by
        rcases Nat.lt_succ_iff_lt_or_eq.mp hj with z | z
        · exact nb j z w hb
        · subst z
          obtain ⟨_, r', a, h1, h2, h3, h4⟩ := hb
          rw [hr] at h1
          cases h1
          exact h4 (hh a h2 h3)
      refine w_gTup (SqT.of upd_same) rfl ?_
      walk_at "g"
      refine w_ixP tr (y := anv) rfl ?_
      walk_at "g"
      refine ⟨fun h => ?_, fun h => ?_⟩
      · have h := nd_true h
        cases ha : r.an with
        | none =>
          rw [ha] at rn
          exact absurd rn.asNon h
        | some a =>
          rw [ha] at rn
          obtain ⟨wd, ds, e2, sa⟩ := okr.an a ha
          subst e2
          obtain ⟨ab, axs, rfl, ta, ra⟩ := (show Rp K _ anv (.tuple (.str wd :: ds)) from rn).tupL
          cases ra with
          | cons r1 ra =>
            cases r1.asStr
            walk_at "g"
            refine w_ixP tr (y := .ref ab) rfl ?_
            walk_at "g"
            refine w_ixP ta (y := .str wd) atI_zero ?_
            walk_at "g"
            refine w_inTF (.inr T.tb_DECIDED) rfl rfl fun c hc => ?_
            have dec : c = true ↔ decidedA (.tuple (.str wd :: ds)) := by
              rw [hc]
              simp [inV, eqV, decidedA]
              exact ⟨fun h => ⟨ds, h.imp (fun e => ⟨e.symm, rfl⟩) fun e => ⟨e.symm, rfl⟩⟩, fun ⟨_, h⟩ => h.imp (fun e => e.1.symm) fun e => e.1.symm⟩
            walk_at "g"
            refine ⟨fun h => ?_, fun h => ?_⟩
            · walk_at "g"
              refine w_sl2 tr fun p hp => ?_
              walk_at "g"
              have s4 := Same.new (o := HO.tup (nmV r.nm)) hp
              refine w_notInRp (rp_nm (K := K) (n := r.nm) upd_same) (s4 _ _ (s13 _ _ htl)) (rt.same (s13.trans s4)) (nmD_shp (n := 59) _) (fun d hd => ?_) fun c2 hc2 => ?_
              · obtain ⟨n, _, rfl⟩ := List.mem_map.mp hd
                exact nmD_shp (n := 59) _
              rw [nmD_mem] at hc2
              walk_at "g"
              refine ⟨fun h2 => ?_, fun h2 => ?_⟩
              · walk_at "g"
                refine ⟨by show 2 ≤ sizeLine; decide, fun z hz => ?_⟩
                exact q (some ("missing", i)) _ _ (((s1.trans s13).trans s4).trans (Same.new hz)) (.inr ⟨i, _, rfl, by show i < rs.length; omega, ⟨rfl, r, _, hr, ha, dec.mp h, hc2.mp h2⟩, nb⟩) (.tup (.inl upd_same) (Rps.p2 (.str _) (.int _)))
              · walk_at "g"
                refine ⟨_, _, rfl, s13.trans s4, next fun a' ha' hd => ?_⟩
                by_cases z : r.nm ∈ os.map Ent.nm
                · exact z
                · rw [hc2.mpr z] at h2; cases h2
            · refine w_no rfl ?_
              walk_at "g"
              refine ⟨_, _, rfl, s13, next fun a' ha' hd => ?_⟩
              rw [ha] at ha'
              cases ha'
              rw [dec.mpr hd] at h
              cases h
      · have h := nd_false h
        refine w_no rfl ?_
        walk_at "g"
        refine ⟨_, _, rfl, s13, next fun a ha => ?_⟩
        rw [ha] at rn
        obtain ⟨w, ds, e2, _⟩ := okr.an a ha
        subst e2
        obtain ⟨_, _, e3, _⟩ := (show Rp K _ anv (.tuple (.str w :: ds)) from rn).tupL
        rw [h] at e3
        cases e3
    · rintro σ' H2 ⟨x3, x4, rfl, s2, nb⟩
      walk_at "g"
      exact q none _ _ (s1.trans s2) (.inl ⟨rfl, fun j hj => nb j (by rw [lhv]; exact hj)⟩) .non
theorem ok_time_fault (T : Tx K mg) : FnOk P w K mg base CX0 2 (He.ga K "time_fault") (fdOf K (He.ga K "time_fault")) ["history", "order"] (spF K badLate (fun _ os => os.length) Known) := by
  refine T.f_time_fault.ok sc_time_fault
    (fun vs H Q E h => ?_) (fun cdv A outer s H vs Q E hr h => ?_)
  · obtain ⟨hl, ol, rs, os, rfl, _⟩ := h
    rfl
  · obtain ⟨hl, ol, rs, os, rfl, lh, lo, gh, go, kn, q⟩ := h
    refine ⟨_, (pss_cons (ps_set (i := 2) sc_time_fault.nd rfl (Or.inl rfl) (pe_call (ok_by_name T) (hr.mono (by decide)) rfl (T.glo 18) (T.kp_by_name) (T.b_by_name) .nil pass0 (pa_cons (pv 0) pa_nil)))
 (pss_cons (ps_set (i := 3) sc_time_fault.nd rfl (Or.inl rfl) (pe_un un_neg pe_int))
 (pss_cons (ps_for PassesOwn.never rfl (pi_enumK (K := K) rfl (by rfl) (T.fre 19) (pa_cons (pv 1) pa_nil)) (pg_tupK (K := K) (n := 2) rfl (by rfl) (pgs_cons (pg_name (i := 4) sc_time_fault.nd rfl (Or.inl rfl)) (pgs_cons (pg_name (i := 5) sc_time_fault.nd rfl (Or.inl rfl)) pgs_nil)))
 (pss_cons (ps_set (i := 6) sc_time_fault.nd rfl (Or.inl rfl) (pe_dget (hu_of hr) (pv 2) (pe_slice (slT_K (K := K) rfl) (pv 5) po_none (po_some pe_int)) (fun _ _ => rfl)))
 (pss_cons (ps_if (PW.pt (pw_and (pt_cmpR op_noNo (pe_ix (ixT_K (K := K) rfl) (pv 6) pe_int (fun _ _ => rfl)) pe_non (nomark _)) (pw_and1 (pt_cmpR op_lt (pe_ix (ixT_K (K := K) rfl) (pv 6) pe_int (fun _ _ => rfl)) (pv 3) (nomark _)))))
 (pss_one (ps_ret (pe_tup (pa_cons pe_str (pa_cons (pv 4) pa_nil)))))
 pss_nil)
 (pss_one (ps_set (i := 3) sc_time_fault.nd rfl (Or.inl rfl) (pe_callB (call_maxI rfl) (by rfl) (T.fre 36) (by decide +kernel) (pa_cons (pv 3) (pa_cons (pe_ix (ixT_K (K := K) rfl) (pv 6) pe_int (fun _ _ => rfl)) pa_nil))))))))
 (pss_one (ps_ret pe_non))))), ?_⟩
    walk_at "g"
    refine ⟨hl, rs, rfl, lh, gh, fun D H1 kvs nD s1 hD bn => ?_⟩
    have bn : ByName K H1 kvs rs := bn
    obtain ⟨ovs, ho, ro⟩ := lo
    have lv := ro.length
    rw [List.length_map] at lv
    walk_at "g"
    refine ⟨ol, ovs, rfl, SqL.of (s1 _ _ ho), ?_⟩
    refine for_it walk_enum (fun i σ' H' => ∃ (L : Int) (x4 x5 x6 : Option V), σ' = [some (.ref hl), some (.ref ol), some (.ref D), some (.int L), x4, x5, x6] ∧ Same H1 H' ∧ (∀ t : Int, 0 ≤ t → (t < L ↔ ∃ e' r', e' ∈ os.take i ∧ recOf rs e'.nm = some r' ∧ t < r'.st)) ∧ ∀ j < i, ∀ w, ¬ badLate rs os j w) ?_ (fun i σ' H' _ h => by
      obtain ⟨_, _, _, _, _, s2, _⟩ := h
      exact SqL.of (s2 _ _ (s1 _ _ ho))) ?_ ?_
    · refine ⟨-1, none, none, none, rfl, fun _ _ z => z, fun t ht => ?_, fun j hj => absurd hj (Nat.not_lt_zero _)⟩
      simp
      omega
    · rintro i x σ' H3 H3' hi ⟨L, x4, x5, x6, rfl, s3, hL, nb⟩ ⟨t, u, v, rfl, ht, rfl, hu, hv⟩
      cases hu
      obtain ⟨e, he, hev⟩ := Paired.getL (rps_paired ro) hv
      have me := List.mem_of_getElem? he
      have s4 := Same.new (o := HO.tup [.int (i : Nat), v]) ht
      have s14 := s3.trans s4
      obtain ⟨b, av, rfl, te, ra⟩ := ent_at (hev.same (s1.trans s14))
      obtain ⟨rc, hrc⟩ := kn e me
      obtain ⟨rv, e1, hrv⟩ := (bn e.nm).2 rc hrc
      have okr := gh.ok rc (recOf_mem hrc).1
      have tk : os.take (i + 1) = os.take i ++ [e] := by rw [List.take_succ, he]; rfl
      refine w_gTup (SqT.of upd_same) rfl ?_
      walk_at "g"
      refine w_sl2 te fun p hp => ?_
      have s5 := Same.new (o := HO.tup (nmV e.nm)) hp
      have s15 := s14.trans s5
      refine ⟨D, rv, rfl, dg_nm' (n := e.nm) (s15 _ _ hD) upd_same e1, ?_⟩
      obtain ⟨rb, xv, spv, anv, rfl, tr, rx, rsp, rn⟩ := rec_at (hrv.same s15)
      walk_at "g"
      refine w_ixP tr (y := spv) rfl ?_
      walk_at "g"
      have step : (∀ t, rc.sp = some t → ¬ t < L) → ∃ (L' : Int) (y4 y5 y6 : Option V), ((([some (.ref hl), some (.ref ol), some (.ref D), some (.int L), x4, x5, x6].set 4 (some (V.int (i : Nat)))).set 5 (some (.ref b))).set 6 (some (.ref rb))).set 3 (some (.int (if rc.st > L then rc.st else L))) = [some (.ref hl), some (.ref ol), some (.ref D), some (.int L'), y4, y5, y6] ∧
          Same H1 (upd (upd H3 t (.tup [.int (i : Nat), .ref b])) p (.tup (nmV e.nm))) ∧ (∀ t : Int, 0 ≤ t → (t < L' ↔ ∃ e' r', e' ∈ os.take (i + 1) ∧ recOf rs e'.nm = some r' ∧ t < r'.st)) ∧ ∀ j < i + 1, ∀ w, ¬ badLate rs os j w := fun hh => by
        refine ⟨_, _, _, _, rfl, s15, fun t ht => ?_, fun j hj w hb => ?_⟩
        · rw [tk]
          constructor
          · intro h
            by_cases z : t < L
            · obtain ⟨e', r', h1, h2, h3⟩ := (hL t ht).mp z
              exact ⟨e', r', List.mem_append_left _ h1, h2, h3⟩
            · exact ⟨e, rc, by simp, hrc, by split at h <;> omega⟩
          · rintro ⟨e', r', h1, h2, h3⟩
            rcases List.mem_append.mp h1 with m | m
            · have := (hL t ht).mpr ⟨e', r', m, h2, h3⟩
              split <;> omega
            · rw [List.mem_singleton.mp m, hrc] at h2
              cases h2
              split <;> omega
        · rcases Nat.lt_succ_iff_lt_or_eq.mp hj with z | z
          · exact nb j z w hb
          · subst z
            obtain ⟨_, e', r', t', h1, h2, h3, e2, r2, h4, h5, h6⟩ := hb
            rw [he] at h1
            cases h1
            rw [hrc] at h2
            cases h2
            exact hh t' h3 ((hL t' (okr.sp t' h3)).mpr ⟨e2, r2, h4, h5, h6⟩)
      refine ⟨fun h => ?_, fun h => ?_⟩
      · have h := nd_true h
        cases hsp : rc.sp with
        | none =>
          rw [hsp] at rsp
          exact absurd rsp.asNon h
        | some t0 =>
          rw [hsp] at rsp
          cases (show Rp K _ spv (.int t0) from rsp).asInt
          walk_at "g"
          refine w_ixP tr (y := .int t0) rfl ?_
          walk_at "g"
          refine ⟨fun h => ?_, fun h => ?_⟩
          · have h := of_decide_eq_true h
            walk_at "g"
            refine ⟨by show 2 ≤ sizeLine; decide, fun z hz => ?_⟩
            obtain ⟨e2, r2, h4, h5, h6⟩ := (hL t0 (okr.sp t0 hsp)).mp h
            exact q (some ("late", i)) _ _ ((s1.trans s15).trans (Same.new hz)) (.inr ⟨i, _, rfl, by show i < os.length; omega, ⟨rfl, e, rc, t0, he, hrc, hsp, e2, r2, h4, h5, h6⟩, nb⟩) (.tup (.inl upd_same) (Rps.p2 (.str _) (.int _)))
          · have h := of_decide_eq_false h
            walk_at "g"
            refine w_ixP tr (y := .int rc.st) rfl ?_
            walk_at "g"
            refine ⟨_, _, rfl, ?_⟩
            walk_at "g"
            exact step fun t ht => by
              rw [hsp] at ht
              cases ht
              exact h
      · have h := nd_false h
        refine w_no rfl ?_
        walk_at "g"
        refine w_ixP tr (y := .int rc.st) rfl ?_
        walk_at "g"
        refine ⟨_, _, rfl, ?_⟩
        walk_at "g"
        exact step fun t ht => by
          rw [ht] at rsp
          have := (show Rp K _ spv (.int t) from rsp).asInt
          rw [h] at this
          cases this
    · rintro σ' H3 ⟨L, x4, x5, x6, rfl, s3, hL, nb⟩
      walk_at "g"
      exact q none _ _ (s1.trans s3) (.inl ⟨rfl, fun j hj => nb j (by rw [lv]; exact hj)⟩) .non
theorem ok_fault_of (T : Tx K mg) : FnOk P w K mg base CX0 8 (He.ga K "fault_of") (fdOf K (He.ga K "fault_of")) ["history", "order"] (spFault K) := by
  refine T.f_fault_of.ok sc_fault_of
    (fun vs H Q E h => ?_) (fun cdv A outer s H vs Q E hr h => ?_)
  · obtain ⟨hl, ol, rs, os, rfl, _⟩ := h
    rfl
  · obtain ⟨hl, ol, rs, os, rfl, lh, lo, gh, go, q⟩ := h
    refine ⟨_, (pss_cons (ps_set (i := 2) sc_fault_of.nd rfl (Or.inl rfl) (pe_call (ok_name_fault T) (hr.mono (by decide)) rfl (T.glo 37) (T.kp_name_fault) (T.b_name_fault) .nil pass0 (pa_cons (pv 0) (pa_cons (pv 1) pa_nil))))
 (Evl.pss_cut (ps_if (pt_cmpR op_isNo (pv 2) pe_non (nomark _))
 (pss_one (ps_set (i := 2) sc_fault_of.nd rfl (Or.inl rfl) (pe_call (ok_answer_fault T) (hr.mono (by decide)) rfl (T.glo 38) (T.kp_answer_fault) (T.b_answer_fault) .nil pass0 (pa_cons (pv 0) (pa_cons (pv 1) pa_nil)))))
 pss_nil)
 (Evl.pss_cut (ps_if (pt_cmpR op_isNo (pv 2) pe_non (nomark _))
 (pss_one (ps_set (i := 2) sc_fault_of.nd rfl (Or.inl rfl) (pe_call (ok_missing_fault T) (hr.mono (by decide)) rfl (T.glo 39) (T.kp_missing_fault) (T.b_missing_fault) .nil pass0 (pa_cons (pv 0) (pa_cons (pv 1) pa_nil)))))
 pss_nil)
 (Evl.pss_cut (ps_if (pt_cmpR op_isNo (pv 2) pe_non (nomark _))
 (pss_one (ps_set (i := 2) sc_fault_of.nd rfl (Or.inl rfl) (pe_call (ok_time_fault T) (hr.mono (by decide)) rfl (T.glo 40) (T.kp_time_fault) (T.b_time_fault) .nil pass0 (pa_cons (pv 0) (pa_cons (pv 1) pa_nil)))))
 pss_nil)
 (pss_one (ps_ret (pv 2))))))), ?_⟩
    have isn : ∀ {H v} {f : Flt}, Rp K H v (fD f) → (v = .non ↔ f = none) := fun {H v f} r => by
      cases f with
      | none => exact ⟨fun _ => rfl, fun _ => r.asNon⟩
      | some p =>
        obtain ⟨a, _, e, _⟩ := (show Rp K H v (.tuple [.str p.1, .int p.2]) from r).tupL
        rw [e]
        simp
    walk_at "g"
    refine ⟨hl, ol, rs, os, rfl, lh, lo, gh, go, trivial, fun f1 v1 H1 s1 F1 r1 => ?_⟩
    walk_at "g"
    have i1 := isn r1
    refine w_cut (M := fun σ' H' => ∃ f v, σ' = [some (.ref hl), some (.ref ol), some v] ∧ Same H H' ∧ Rp K H' v (fD f) ∧ ((f1 ≠ none ∧ f = f1) ∨ (f1 = none ∧ FirstP (badAns rs os) os.length f))) ?_ ?_
    · walk_at "g"
      refine ⟨fun h => ?_, fun h => ?_⟩
      · have e := i1.mp (of_decide_eq_true h)
        subst e
        walk_at "g"
        exact ⟨hl, ol, rs, os, rfl, lh.same s1, lo.same s1, gh, go, known_of F1, fun f2 v2 H2 s2 F2 r2 => ⟨f2, v2, rfl, s1.trans s2, r2, .inr ⟨rfl, F2⟩⟩⟩
      · have e := of_decide_eq_false h
        walk_at "g"
        exact ⟨f1, v1, rfl, s1, r1, .inl ⟨fun z => e (i1.mpr z), rfl⟩⟩
    rintro _ H2 ⟨f2, v2, rfl, s2, r2, F2⟩
    have i2 := isn r2
    walk_at "g"
    refine w_cut (M := fun σ' H' => ∃ f v, σ' = [some (.ref hl), some (.ref ol), some v] ∧ Same H H' ∧ Rp K H' v (fD f) ∧ ((f2 ≠ none ∧ f = f2) ∨ (f2 = none ∧ FirstP (badMiss rs os) rs.length f))) ?_ ?_
    · walk_at "g"
      refine ⟨fun h => ?_, fun h => ?_⟩
      · have e := i2.mp (of_decide_eq_true h)
        subst e
        walk_at "g"
        exact ⟨hl, ol, rs, os, rfl, lh.same s2, lo.same s2, gh, go, trivial, fun f3 v3 H3 s3 F3 r3 => ⟨f3, v3, rfl, s2.trans s3, r3, .inr ⟨rfl, F3⟩⟩⟩
      · have e := of_decide_eq_false h
        walk_at "g"
        exact ⟨f2, v2, rfl, s2, r2, .inl ⟨fun z => e (i2.mpr z), rfl⟩⟩
    rintro _ H3 ⟨f3, v3, rfl, s3, r3, F3⟩
    have i3 := isn r3
    walk_at "g"
    refine w_cut (M := fun σ' H' => ∃ f v, σ' = [some (.ref hl), some (.ref ol), some v] ∧ Same H H' ∧ Rp K H' v (fD f) ∧ ((f3 ≠ none ∧ f = f3) ∨ (f3 = none ∧ FirstP (badLate rs os) os.length f))) ?_ ?_
    · walk_at "g"
      refine ⟨fun h => ?_, fun h => ?_⟩
      · have e := i3.mp (of_decide_eq_true h)
        subst e
        have f2n : f2 = none := by
          rcases F3 with ⟨a, b⟩ | ⟨a, _⟩
          · exact absurd b.symm a
          · exact a
        subst f2n
        have f1n : f1 = none := by
          rcases F2 with ⟨a, b⟩ | ⟨a, _⟩
          · exact absurd b.symm a
          · exact a
        subst f1n
        walk_at "g"
        exact ⟨hl, ol, rs, os, rfl, lh.same s3, lo.same s3, gh, go, known_of F1, fun f4 v4 H4 s4 F4 r4 => ⟨f4, v4, rfl, s3.trans s4, r4, .inr ⟨rfl, F4⟩⟩⟩
      · have e := of_decide_eq_false h
        walk_at "g"
        exact ⟨f3, v3, rfl, s3, r3, .inl ⟨fun z => e (i3.mpr z), rfl⟩⟩
    rintro _ H4 ⟨f4, v4, rfl, s4, r4, F4⟩
    walk_at "g"
    refine q f4 _ _ s4 ⟨f1, F1, ?_⟩ r4
    rcases F2 with ⟨a, b⟩ | ⟨a, F2⟩
    · subst b
      refine .inl ⟨a, ?_⟩
      rcases F3 with ⟨_, b⟩ | ⟨c, _⟩
      · subst b
        rcases F4 with ⟨_, b⟩ | ⟨c, _⟩
        · exact b
        · exact absurd c a
      · exact absurd c a
    · refine .inr ⟨a, f2, F2, ?_⟩
      rcases F3 with ⟨c, b⟩ | ⟨c, F3⟩
      · subst b
        refine .inl ⟨c, ?_⟩
        rcases F4 with ⟨_, b⟩ | ⟨d, _⟩
        · exact b
        · exact absurd d c
      · exact .inr ⟨c, f3, F3, F4⟩
--CUT
theorem ok_store_behind (T : Tx K mg) : FnOk P w K mg base CX0 7 (He.ga K "store_behind") (fdOf K (He.ga K "store_behind")) ["history", "order"] (fun vs H Q _ => ∃ (hl ol : Addr) (rs : List Rec) (os : List Ent), vs = [.ref hl, .ref ol] ∧ LsAt K H hl (rs.map Rec.d) ∧ LsAt K H ol (os.map Ent.d) ∧ GoodH rs ∧ GoodO os ∧ Known rs os ∧ ∀ p dx r H', Same H H' → H' p = some (.ins (He.ga K "Store") dx [("rows", .ref r)]) → H' r = some (.dK (replay rs os)) → Q (.ref p) H') := by
  refine T.f_store_behind.ok sc_store_behind
    (fun vs H Q E h => ?_) (fun cdv A outer s H vs Q E hr h => ?_)
  · obtain ⟨hl, ol, rs, os, rfl, _⟩ := h
    rfl
  · obtain ⟨hl, ol, rs, os, rfl, lh, lo, gh, go, kn, q⟩ := h
    refine ⟨_, (pss_cons (ps_set (i := 2) sc_store_behind.nd rfl (Or.inl rfl) (pe_call (ok_by_name T) (hr.mono (by decide)) rfl (T.glo 18) (T.kp_by_name) (T.b_by_name) .nil pass0 (pa_cons (pv 0) pa_nil)))
 (pss_cons (ps_set (i := 3) sc_store_behind.nd rfl (Or.inl rfl) (pe_make0 (T.mk_Store) (ok_Store__init T) (hr.mono (by decide)) rfl (T.glo 32) (T.b1_Store__init).choose_spec.2 (T.b1_Store__init).choose_spec.1 pass0))
 (pss_cons (ps_for PassesOwn.never rfl (pi_listK (K := K) rfl (pv 1)) (pg_name (i := 4) sc_store_behind.nd rfl (Or.inl rfl))
 (pss_one (ps_expr (pe_meth (pv 3) (T.cls_Store) (T.me_Store_do) (ok_Store_do T) (hr.mono (by decide)) (T.b_Store_do) .nil pass0 (pa_cons (pe_ix (ixT_K (K := K) rfl) (pe_dget (hu_of hr) (pv 2) (pe_slice (slT_K (K := K) rfl) (pv 4) po_none (po_some pe_int)) (fun _ _ => rfl)) pe_int (fun _ _ => rfl)) pa_nil)))))
 (pss_one (ps_ret (pv 3)))))), ?_⟩
    walk_at "g"
    refine ⟨hl, rs, rfl, lh, gh, fun D H1 kvs nD s1 hD bn => ?_⟩
    have bn : ByName K H1 kvs rs := bn
    obtain ⟨ovs, ho, ro⟩ := lo
    have lv := ro.length
    rw [List.length_map] at lv
    have few := go.few
    walk_at "g"
    intro sp dx hsp hdx ne
    refine ⟨sp, dx, rfl, upd_same, fun r hr => ⟨rfl, ?_⟩⟩
    generalize hH2 : upd (upd (upd (upd H1 dx (.own sp)) sp (.ins (He.ga K "Store") dx [])) r (.dK [])) sp (.ins (He.ga K "Store") dx [("rows", .ref r)]) = H2
    refine at_heap hH2 ?_
    have nrs : r ≠ sp := by
      rintro rfl
      have hr : upd (upd H1 dx (.own r)) r (.ins (He.ga K "Store") dx []) r = none := hr
      rw [upd_same] at hr
      cases hr
    have nr : H1 r = none := by
      have hr : upd (upd H1 dx (.own sp)) sp (.ins (He.ga K "Store") dx []) r = none := hr
      rw [upd_ne nrs] at hr
      by_cases z : r = dx
      · rw [z]; exact hdx
      · rw [upd_ne z] at hr; exact hr
    have s2 : Same H1 H2 := fun b o hb => by
      rw [← hH2, upd_ne (ne_of_none hb hsp), upd_ne (ne_of_none hb nr), upd_ne (ne_of_none hb hsp), upd_ne (ne_of_none hb hdx)]
      exact hb
    have hp2 : H2 sp = some (.ins (He.ga K "Store") dx [("rows", .ref r)]) := by rw [← hH2, upd_same]
    have hr2 : H2 r = some (.dK []) := by rw [← hH2, upd_ne nrs, upd_same]
    walk_at "g"
    refine ⟨ol, rfl, ⟨_, SqL.of (s2 _ _ (s1 _ _ ho))⟩, for_list (xs := ovs) (fun i σ' H' => ∃ (x4 : Option V), σ' = [some (.ref hl), some (.ref ol), some (.ref D), some (.ref sp), x4] ∧ Same H1 H' ∧ H' sp = some (.ins (He.ga K "Store") dx [("rows", .ref r)]) ∧ H' r = some (.dK (replay rs (os.take i)))) ⟨none, rfl, s2, hp2, hr2⟩ (fun i σ' H' _ h => by
      obtain ⟨_, _, s2, _⟩ := h
      exact SqL.of (s2 _ _ (s1 _ _ ho))) ?_ ?_⟩
    · rintro i v σ' H3 hv ⟨x4, rfl, s3, hp3, hr3⟩
      obtain ⟨e, he, hev⟩ := Paired.getL (rps_paired ro) hv
      have me := List.mem_of_getElem? he
      obtain ⟨b, av, rfl, te, ra⟩ := ent_at (hev.same (s1.trans s3))
      obtain ⟨rc, hrc⟩ := kn e me
      obtain ⟨rv, e1, hrv⟩ := (bn e.nm).2 rc hrc
      have okr := gh.ok rc (recOf_mem hrc).1
      walk_at "g"
      refine ⟨sp, dx, _, rfl, hp3, rfl, ?_⟩
      walk_at "g"
      refine w_sl2 te fun p hp => ?_
      have s5 := Same.new (o := HO.tup (nmV e.nm)) hp
      have s15 := s3.trans s5
      refine ⟨D, rv, rfl, dg_nm' (n := e.nm) (s15 _ _ hD) upd_same e1, ?_⟩
      obtain ⟨rb, xv, spv, anv, rfl, tr, rx, _, rn⟩ := rec_at (hrv.same s15)
      walk_at "g"
      refine w_ixP tr (y := xv) rfl ?_
      have okw := replay_ok gh.ok (os.take i)
      have lt : (os.take i).length ≤ 1000 := by rw [List.length_take]; omega
      refine ⟨sp, dx, r, _, xv, rc.x, rfl, s5 _ _ hp3, s5 _ _ hr3, rx, okr.x, okw.1, by omega, fun H6 u c6 hr6 ru => ?_⟩
      have s16 : Same H1 H6 := fun b o hb => c6.2 _ _ (s15 _ _ hb) (by simpa using ne_of_none hb nr)
      have hp6 := c6.2 _ _ (s5 _ _ hp3) (by simpa using nrs.symm)
      walk_at "g"
      refine ⟨_, rfl, s16, hp6, ?_⟩
      rw [List.take_succ, he]
      rw [show replay rs (os.take i ++ (some e).toList) = _ from replay_snoc hrc]
      exact hr6
    · rintro σ' H3 ⟨x4, rfl, s3, hp3, hr3⟩
      rw [lv, List.take_length] at hr3
      walk_at "g"
      exact q sp dx r _ (s1.trans s3) hp3 hr3
/-! ### faults, by the law -/
theorem ok_l_record (T : Tx K mg) : FnOk P w K mg base CX0 1 (He.ga K "_law_record") (fdOf K (He.ga K "_law_record")) ["_law_history_here", "_law_name"] (spRecord K) := by
  refine T.f_l_record.ok sc_l_record
    (fun vs H Q E h => ?_) (fun cdv A outer s H vs Q E hr h => ?_)
  · obtain ⟨hl, nv, rs, nm, rfl, _⟩ := h
    rfl
  · obtain ⟨hl, nv, rs, nm, rfl, lh, rn, few, q⟩ := h
    refine ⟨_, (pss_cons (ps_setLc (i := 2) (own := [("_law_row", 3)]) rfl sc_l_record.nd rfl rfl (sw_true rfl rfl rfl (by decide +kernel)) (pi_listK (K := K) rfl (pv 0)) (blkOk_by (N := n_l_record) (sc := defScope s_l_record) (own := [("_law_row", 3)]) (by decide +kernel)) (fun _ _ _ _ _ => (pg_name (i := 3) sc_l_record.nd rfl (Or.inl rfl))) (fun _ _ _ _ _ => pts_one (pt_cmpR (eqD_K (K := K) rfl hr.units) (pe_slice (slT_K (K := K) rfl) (pv 3) po_none (po_some pe_int)) (pv 1) (nomark _))) (fun _ _ _ _ _ => (pv 3)))
 (pss_cons (ps_if (pt_cmpR op_eq (pe_callB (lenS_K (K := K) rfl) (by rfl) (T.fre 4) (by decide +kernel) (pa_cons (pv 2) pa_nil)) pe_int (nomark _))
 (pss_one (ps_ret pe_non))
 pss_nil)
 (pss_one (ps_ret (pe_ix (ixL_K (K := K) rfl) (pv 2) pe_int (fun _ _ => rfl)))))), ?_⟩
    obtain ⟨hvs, hh, rh⟩ := lh
    have lhv := rh.length
    rw [List.length_map] at lhv
    walk_at "g"
    refine lc_list_data (S := fun v b => Rp K H v (Rec.d b)) (fun H y (b : Rec) => Rp K H y b.d) (fun r => decide (r.nm = nm)) id (fun _ _ _ _ p h => h.to p) (SqL.of hh) (fun H' s' => SqL.of (s' _ _ hh)) (rps_paired rh) (by omega) ?_ ?_
    · intro v r H' hr hv s1 N Y hN hY
      have hv := hv.same s1
      obtain ⟨b, xv, spv, anv, rfl, tr, _⟩ := rec_at hv
      walk_at "g"
      refine ⟨rfl, ?_⟩
      walk_at "g"
      refine w_sl2 tr fun p hp => ?_
      have s2 := Same.new (o := HO.tup (nmV r.nm)) hp
      walk_at "g"
      refine w_eqRp (rp_nm (K := K) (n := r.nm) upd_same) (rn.same (s1.trans s2)) (nmD_shp (n := 59) _) (nmD_shp (n := 59) _) fun c hc => ?_
      have hc : c = true ↔ r.nm = nm := hc.trans ⟨nmD_inj, fun e => by rw [e]⟩
      walk_at "g"
      cases c with
      | true =>
        refine iteT ?_
        walk_at "g"
        exact hY (decide_eq_true (hc.mp rfl)) _ _ s2 (hv.same s2)
      | false =>
        refine iteF ?_
        exact hN (decide_eq_false fun e => by cases hc.mpr e) _ s2
    intro p H1 ys np s1 hp1 hpp
    rw [List.map_id] at hpp
    have ly := Paired.length hpp
    walk_at "g"
    refine w_lenL (SqL.of hp1) ?_
    walk_at "g"
    have hf : (rs.filter fun r => decide (r.nm = nm)).head? = recOf rs nm := List.head?_filter
    refine ⟨fun h => ?_, fun h => ?_⟩
    · have h := of_decide_eq_true h
      have e : ys.length = 0 := by simpa using h
      walk_at "g"
      refine q _ _ s1 (.inl ⟨?_, rfl⟩)
      rw [← hf, List.head?_eq_none_iff]
      exact List.eq_nil_of_length_eq_zero (by omega)
    · walk_at "g"
      generalize (rs.filter fun r => decide (r.nm = nm)) = fs at hpp hf ly
      cases hpp with
      | nil => exact absurd h (by decide)
      | cons h1 r1 =>
        refine w_ixL (SqL.of hp1) atI_zero ?_
        exact q _ _ s1 (.inr ⟨_, hf.symm, h1⟩)
theorem ok_l_names_fault (T : Tx K mg) : FnOk P w K mg base CX0 2 (He.ga K "_law_names_fault") (fdOf K (He.ga K "_law_names_fault")) ["_law_history_here", "_law_order"] (spF K badName (fun _ os => os.length) fun _ _ => True) := by
  refine T.f_l_names_fault.ok sc_l_names_fault
    (fun vs H Q E h => ?_) (fun cdv A outer s H vs Q E hr h => ?_)
  · obtain ⟨hl, ol, rs, os, rfl, _⟩ := h
    rfl
  · obtain ⟨hl, ol, rs, os, rfl, lh, lo, gh, go, _, q⟩ := h
    refine ⟨_, (pss_cons (ps_for PassesOwn.never rfl (pi_range1 rfl (T.fre 2) (pa_cons (pe_callB (lenS_K (K := K) rfl) (by rfl) (T.fre 4) (by decide +kernel) (pa_cons (pv 1) pa_nil)) pa_nil)) (pg_name (i := 2) sc_l_names_fault.nd rfl (Or.inl rfl))
 (pss_cons (ps_if (pt_cmpR op_isNo (pe_call (ok_l_record T) (hr.mono (by decide)) rfl (T.glo 41) (T.kp_l_record) (T.b_l_record) .nil pass0 (pa_cons (pv 0) (pa_cons (pe_slice (slT_K (K := K) rfl) (pe_ix (ixL_K (K := K) rfl) (pv 1) (pv 2) (fun _ _ => rfl)) po_none (po_some pe_int)) pa_nil))) pe_non (nomark _))
 (pss_one (ps_ret (pe_tup (pa_cons pe_str (pa_cons (pv 2) pa_nil)))))
 pss_nil)
 (pss_one (ps_if (pt_cmpR (inD_K (K := K) rfl (hu65 hr)) (pe_slice (slT_K (K := K) rfl) (pe_ix (ixL_K (K := K) rfl) (pv 1) (pv 2) (fun _ _ => rfl)) po_none (po_some pe_int)) (pe_lc (own := [("_law_row", 3)]) rfl sc_l_names_fault.nd (pi_listK (K := K) rfl (pe_slice (slL_K (K := K) rfl) (pv 1) po_none (po_some (pv 2)))) (blkOk_by (N := n_l_names_fault) (sc := defScope s_l_names_fault) (own := [("_law_row", 3)]) (by decide +kernel)) (fun _ _ _ _ _ => (pg_name (i := 3) sc_l_names_fault.nd rfl (Or.inl rfl))) (fun _ _ _ _ _ => pts_nil) (fun _ _ _ _ _ => (pe_slice (slT_K (K := K) rfl) (pv 3) po_none (po_some pe_int)))) (by rfl))
 (pss_one (ps_ret (pe_tup (pa_cons pe_str (pa_cons (pv 2) pa_nil)))))
 pss_nil))))
 (pss_one (ps_ret pe_non))), ?_⟩
    obtain ⟨ovs, ho, ro⟩ := id lo
    have lv := ro.length
    rw [List.length_map] at lv
    have few := go.few
    walk_at "g"
    refine w_lenL (SqL.of ho) ?_
    walk_at "g"
    refine ⟨_, rfl, by omega, by omega, ?_⟩
    refine for_range (lo := 0) (fun i σ' H' => ∃ (x2 x3 : Option V), σ' = [some (.ref hl), some (.ref ol), x2, x3] ∧ Same H H' ∧ ∀ j < i, ∀ w, ¬ badName rs os j w) ⟨none, none, rfl, fun _ _ z => z, fun j hj => absurd hj (Nat.not_lt_zero _)⟩ ?_ ?_
    · rintro i σ' H1 hi ⟨x2, x3, rfl, s1, nb⟩
      have hi : i < os.length := by omega
      obtain ⟨e, he⟩ : ∃ e, os[i]? = some e := ⟨_, List.getElem?_eq_getElem hi⟩
      obtain ⟨vs, v, hv, av, rv⟩ := (lo.same s1).at he
      obtain ⟨b, anv, rfl, te, ra⟩ := ent_at rv
      rw [Int.zero_add]
      walk_at "g"
      refine w_ixL (SqL.of hv) av ?_
      walk_at "g"
      refine w_sl2 te fun p hp => ?_
      have s2 := Same.new (o := HO.tup (nmV e.nm)) hp
      have s12 := s1.trans s2
      walk_at "g"
      refine ⟨hl, .ref p, rs, e.nm, rfl, lh.same s12, rp_nm upd_same, gh.few, fun u H2 s3 ru => ?_⟩
      walk_at "g"
      have s23 := s2.trans s3
      have s13 := s1.trans s23
      refine ⟨fun h => ?_, fun h => ?_⟩
      · have h := of_decide_eq_true h
        have z : recOf rs e.nm = none := by
          rcases ru with ⟨z, _⟩ | ⟨r, _, z⟩
          · exact z
          · obtain ⟨_, _, _, _, e2, _⟩ := rec_at z
            rw [h] at e2
            cases e2
        walk_at "g"
        refine ⟨by show 2 ≤ sizeLine; decide, fun r hr => ?_⟩
        exact q (some ("unknown", i)) _ _ (s13.trans (Same.new hr)) (.inr ⟨i, _, rfl, hi, ⟨e, he, .inl ⟨rfl, z⟩⟩, nb⟩) (.tup (.inl upd_same) (Rps.p2 (.str _) (.int _)))
      · have h := of_decide_eq_false h
        have kn : recOf rs e.nm ≠ none := by
          rcases ru with ⟨_, z⟩ | ⟨r, z, _⟩
          · exact absurd z h
          · rw [z]; simp
        walk_at "g"
        refine w_ixL (SqL.of (s23 _ _ hv)) av ?_
        walk_at "g"
        refine w_sl2 (te.mono (Same.px s23)) fun p2 hp2 => ?_
        have s4 := Same.new (o := HO.tup (nmV e.nm)) hp2
        have s14 := s13.trans s4
        walk_at "g"
        refine w_takeL (SqL.of (s14 _ _ ho)) fun p3 hp3 => ?_
        have s5 := Same.new (o := HO.lst (ovs.take i)) hp3
        have s15 := s14.trans s5
        walk_at "g"
        refine lc_list_data (S := fun v b => Rp K H v (Ent.d b)) (fun H y (b : Nm2) => Rp K H y (nmD b)) (fun _ => true) Ent.nm (fun _ _ _ _ p h => h.to p) (SqL.of upd_same) (fun H' s' => SqL.of (s' _ _ upd_same)) (Kt.Paired.takeP i (rps_paired ro)) (by rw [List.length_take]; omega) ?_ ?_
        · intro v e H' he hv s6 N Y _ hY
          obtain ⟨b, av, rfl, te, _⟩ := ent_at (hv.same (s15.trans s6))
          walk_at "g"
          refine ⟨rfl, w_yes (iteT ?_)⟩
          walk_at "g"
          refine w_sl2 te fun p hp => ?_
          exact hY rfl _ _ (Same.new hp) (rp_nm (n := e.nm) upd_same)
        intro p4 H5 ys np4 s6 hp4 hpt
        rw [List.filter_eq_self.mpr fun _ _ => rfl] at hpt
        have rt := paired_rps hpt
        have s16 := s15.trans s6
        walk_at "g"
        refine w_inRp (rp_nm (K := K) (n := e.nm) (s6 _ _ (s5 _ _ upd_same))) hp4 rt (nmD_shp (n := 59) _) (fun d hd => ?_) fun c hc => ?_
        · obtain ⟨n, _, rfl⟩ := List.mem_map.mp hd
          exact nmD_shp (n := 59) _
        rw [nmD_mem] at hc
        walk_at "g"
        refine ⟨fun h => ?_, fun h => ?_⟩
        · walk_at "g"
          refine ⟨by show 2 ≤ sizeLine; decide, fun r hr => ?_⟩
          exact q (some ("twice", i)) _ _ (s16.trans (Same.new hr)) (.inr ⟨i, _, rfl, hi, ⟨e, he, .inr ⟨rfl, kn, hc.mp h⟩⟩, nb⟩) (.tup (.inl upd_same) (Rps.p2 (.str _) (.int _)))
        · walk_at "g"
          refine ⟨_, _, rfl, s16, fun j hj w hb => ?_⟩
          rcases Nat.lt_succ_iff_lt_or_eq.mp hj with z | z
          · exact nb j z w hb
          · subst z
            obtain ⟨e', h1, h2⟩ := hb
            rw [he] at h1
            cases h1
            rcases h2 with ⟨_, h2⟩ | ⟨_, _, h2⟩
            · exact kn h2
            · rw [hc.mpr h2] at h
              cases h
    · rintro σ' H1 ⟨x2, x3, rfl, s1, nb⟩
      walk_at "g"
      exact q none _ _ s1 (.inl ⟨rfl, fun j hj => nb j (by have hj : j < os.length := hj; omega)⟩) .non
theorem ok_l_answers_fault (T : Tx K mg) : FnOk P w K mg base CX0 3 (He.ga K "_law_answers_fault") (fdOf K (He.ga K "_law_answers_fault")) ["_law_history_here", "_law_order"] (spF K badAns (fun _ os => os.length) Known) := by
  refine T.f_l_answers_fault.ok sc_l_answers_fault
    (fun vs H Q E h => ?_) (fun cdv A outer s H vs Q E hr h => ?_)
  · obtain ⟨hl, ol, rs, os, rfl, _⟩ := h
    rfl
  · obtain ⟨hl, ol, rs, os, rfl, lh, lo, gh, go, kn, q⟩ := h
    refine ⟨_, (pss_cons (ps_set (i := 2) sc_l_answers_fault.nd rfl (Or.inl rfl) pe_dnewK)
 (pss_cons (ps_for PassesOwn.never rfl (pi_range1 rfl (T.fre 2) (pa_cons (pe_callB (lenS_K (K := K) rfl) (by rfl) (T.fre 4) (by decide +kernel) (pa_cons (pv 1) pa_nil)) pa_nil)) (pg_name (i := 3) sc_l_answers_fault.nd rfl (Or.inl rfl))
 (pss_cons (ps_set (i := 4) sc_l_answers_fault.nd rfl (Or.inl rfl) (pe_call (ok_l_record T) (hr.mono (by decide)) rfl (T.glo 41) (T.kp_l_record) (T.b_l_record) .nil pass0 (pa_cons (pv 0) (pa_cons (pe_slice (slT_K (K := K) rfl) (pe_ix (ixL_K (K := K) rfl) (pv 1) (pv 3) (fun _ _ => rfl)) po_none (po_some pe_int)) pa_nil))))
 (pss_cons (ps_if (pt_cmpR (neD_K (K := K) rfl hr.units) (pe_call (ok_l_do T) (hr.mono (by decide)) rfl (T.glo 12) (T.kp_l_do) (T.b_l_do) .nil pass0 (pa_cons (pv 2) (pa_cons (pe_ix (ixT_K (K := K) rfl) (pv 4) pe_int (fun _ _ => rfl)) pa_nil))) (pe_ix (ixT_K (K := K) rfl) (pe_ix (ixL_K (K := K) rfl) (pv 1) (pv 3) (fun _ _ => rfl)) pe_int (fun _ _ => rfl)) (nomark _))
 (pss_one (ps_ret (pe_tup (pa_cons pe_str (pa_cons (pv 3) pa_nil)))))
 pss_nil)
 (pss_one (ps_if (PW.pt (pw_and (pt_cmpR op_noNo (pe_ix (ixT_K (K := K) rfl) (pv 4) pe_int (fun _ _ => rfl)) pe_non (nomark _)) (pw_and1 (pt_cmpR (neD_K (K := K) rfl hr.units) (pe_ix (ixT_K (K := K) rfl) (pv 4) pe_int (fun _ _ => rfl)) (pe_ix (ixT_K (K := K) rfl) (pe_ix (ixL_K (K := K) rfl) (pv 1) (pv 3) (fun _ _ => rfl)) pe_int (fun _ _ => rfl)) (nomark _)))))
 (pss_one (ps_ret (pe_tup (pa_cons pe_str (pa_cons (pv 3) pa_nil)))))
 pss_nil)))))
 (pss_one (ps_ret pe_non)))), ?_⟩
    obtain ⟨ovs, ho, ro⟩ := id lo
    have lv := ro.length
    rw [List.length_map] at lv
    have few := go.few
    walk_at "g"
    intro r hr
    walk_at "g"
    have sr := Same.new (o := HO.dK []) hr
    refine w_lenL (SqL.of (sr _ _ ho)) ?_
    walk_at "g"
    refine ⟨_, rfl, by omega, by omega, ?_⟩
    refine for_range (lo := 0) (fun i σ' H' => ∃ (x3 x4 : Option V), σ' = [some (.ref hl), some (.ref ol), some (.ref r), x3, x4] ∧ Same H H' ∧ H' r = some (.dK (replay rs (os.take i))) ∧ ∀ j < i, ∀ w, ¬ badAns rs os j w) ⟨none, none, rfl, sr, upd_same, fun j hj => absurd hj (Nat.not_lt_zero _)⟩ ?_ ?_
    · rintro i σ' H1 hi ⟨x3, x4, rfl, s1, hr1, nb⟩
      have hi : i < os.length := by omega
      obtain ⟨e, he⟩ : ∃ e, os[i]? = some e := ⟨_, List.getElem?_eq_getElem hi⟩
      have me := List.mem_of_getElem? he
      obtain ⟨vs, v, hv, av, rv⟩ := (lo.same s1).at he
      obtain ⟨b, anv, rfl, te, ra⟩ := ent_at rv
      obtain ⟨rc, hrc⟩ := kn e me
      have okr := gh.ok rc (recOf_mem hrc).1
      rw [Int.zero_add]
      walk_at "g"
      refine w_ixL (SqL.of hv) av ?_
      walk_at "g"
      refine w_sl2 te fun p hp => ?_
      have s2 := Same.new (o := HO.tup (nmV e.nm)) hp
      have s12 := s1.trans s2
      walk_at "g"
      refine ⟨hl, .ref p, rs, e.nm, rfl, lh.same s12, rp_nm upd_same, gh.few, fun u H2 s3 ru => ?_⟩
      have s23 := s2.trans s3
      have s13 := s1.trans s23
      obtain ⟨rv2, e1⟩ : Rp K H2 u rc.d ∧ True := by
        rcases ru with ⟨z, _⟩ | ⟨r', z, h2⟩
        · rw [z] at hrc; cases hrc
        · rw [hrc] at z
          cases z
          exact ⟨h2, trivial⟩
      obtain ⟨rb, xv, spv, rnv, rfl, tr, rx, _, rn⟩ := rec_at rv2
      walk_at "g"
      refine w_ixP tr (y := xv) rfl ?_
      have okw := replay_ok gh.ok (os.take i)
      have lt : (os.take i).length ≤ 1000 := by rw [List.length_take]; omega
      walk_at "g"
      refine ⟨r, _, xv, rc.x, rfl, s23 _ _ hr1, rx, okr.x, okw.1, by omega, fun H6 u c6 hr6 ru => ?_⟩
      have ru : Rp K H6 u (doDeal (replay rs (os.take i)) rc.x).1 := ru
      have s16 : Same H H6 := fun b o hb => c6.2 _ _ (s13 _ _ hb) (by simpa using ne_of_none hb hr)
      have px6 := (Same.px s23).trans c6.px
      have te6 := te.mono px6
      have tr6 := tr.mono c6.px
      have okd := (doDeal_ok okw.1 okr.x).2.1
      have hv6 : H6 ol = some (.lst vs) := by
        have e := s1 _ _ ho
        rw [hv] at e
        cases e
        exact s16 _ _ ho
      walk_at "g"
      refine w_ixL (SqL.of hv6) av ?_
      walk_at "g"
      refine w_ixP te6 (y := anv) rfl ?_
      refine w_neRp ru (ra.to px6) (okd.mono (by decide)) ((go.ok e me).shp.mono (by decide)) fun c hc => ?_
      walk_at "g"
      refine ⟨fun h => ?_, fun h => ?_⟩
      · walk_at "g"
        refine ⟨by show 2 ≤ sizeLine; decide, fun z hz => ?_⟩
        exact q (some ("wrong", i)) _ _ (s16.trans (Same.new hz)) (.inr ⟨i, _, rfl, hi, ⟨e, rc, he, hrc, .inl ⟨rfl, hc.mp h⟩⟩, nb⟩) (.tup (.inl upd_same) (Rps.p2 (.str _) (.int _)))
      have same : (doDeal (replay rs (os.take i)) rc.x).1 = e.an := by
        by_cases z : (doDeal (replay rs (os.take i)) rc.x).1 = e.an
        · exact z
        · rw [hc.mpr z] at h; cases h
      have next : (∀ a, rc.an = some a → a = e.an) → ∀ j < i + 1, ∀ w, ¬ badAns rs os j w := fun hh j hj w hb => by
        rcases Nat.lt_succ_iff_lt_or_eq.mp hj with z | z
        · exact nb j z w hb
        · subst z
          obtain ⟨e', r', h1, h2, h3⟩ := hb
          rw [he] at h1
          cases h1
          rw [hrc] at h2
          cases h2
          rcases h3 with ⟨_, h3⟩ | ⟨_, _, a, h3, h4⟩
          · exact h3 same
          · exact h4 (hh a h3)
      have rep : replay rs (os.take (i + 1)) = (doDeal (replay rs (os.take i)) rc.x).2 := by
        rw [List.take_succ, he]
        exact replay_snoc hrc
      walk_at "g"
      refine w_ixP tr6 (y := rnv) rfl ?_
      walk_at "g"
      have rn6 := rn.to c6.px
      refine ⟨fun h => ?_, fun h => ?_⟩
      · have h := nd_true h
        cases ha : rc.an with
        | none =>
          rw [ha] at rn6
          exact absurd rn6.asNon h
        | some a =>
          rw [ha] at rn6
          have rn6 : Rp K H6 rnv a := rn6
          walk_at "g"
          refine w_ixP tr6 (y := rnv) rfl ?_
          walk_at "g"
          refine w_ixL (SqL.of hv6) av ?_
          walk_at "g"
          refine w_ixP te6 (y := anv) rfl ?_
          refine w_neRp rn6 (ra.to px6) ((okr.an a ha).shp.mono (by decide)) ((go.ok e me).shp.mono (by decide)) fun c2 hc2 => ?_
          walk_at "g"
          refine ⟨fun h => ?_, fun h => ?_⟩
          · walk_at "g"
            refine ⟨by show 2 ≤ sizeLine; decide, fun z hz => ?_⟩
            exact q (some ("other", i)) _ _ (s16.trans (Same.new hz)) (.inr ⟨i, _, rfl, hi, ⟨e, rc, he, hrc, .inr ⟨rfl, same, a, ha, hc2.mp h⟩⟩, nb⟩) (.tup (.inl upd_same) (Rps.p2 (.str _) (.int _)))
          · walk_at "g"
            refine ⟨_, _, rfl, s16, by rw [rep]; exact hr6, next fun a' ha' => ?_⟩
            rw [ha] at ha'
            cases ha'
            by_cases z : a = e.an
            · exact z
            · rw [hc2.mpr z] at h; cases h
      · have h := nd_false h
        refine w_no rfl ?_
        walk_at "g"
        refine ⟨_, _, rfl, s16, by rw [rep]; exact hr6, next fun a' ha' => ?_⟩
        rw [ha'] at rn6
        obtain ⟨w, ds, e2, _⟩ := okr.an a' ha'
        subst e2
        obtain ⟨_, _, e3, _⟩ := (show Rp K H6 rnv (.tuple (.str w :: ds)) from rn6).tupL
        rw [h] at e3
        cases e3
    · rintro σ' H1 ⟨x3, x4, rfl, s1, hr1, nb⟩
      walk_at "g"
      exact q none _ _ s1 (.inl ⟨rfl, fun j hj => nb j (by have hj : j < os.length := hj; omega)⟩) .non
theorem ok_l_rest_fault (T : Tx K mg) : FnOk P w K mg base CX0 2 (He.ga K "_law_rest_fault") (fdOf K (He.ga K "_law_rest_fault")) ["_law_history_here", "_law_order"] (fun vs H Q _ => ∃ (hl ol : Addr) (hs : List Rec) (os : List Ent), vs = [.ref hl, .ref ol] ∧ LsAt K H hl (hs.map Rec.d) ∧ LsAt K H ol (os.map Ent.d) ∧ GoodH hs ∧ GoodO os ∧ Known hs os ∧ ∀ f v H', Same H H' → (∃ f3, FirstP (badMiss hs os) hs.length f3 ∧ ((f3 ≠ none ∧ f = f3) ∨ (f3 = none ∧ FirstP (badLate hs os) os.length f))) → Rp K H' v (fD f) → Q v H') := by
  refine T.f_l_rest_fault.ok sc_l_rest_fault
    (fun vs H Q E h => ?_) (fun cdv A outer s H vs Q E hr h => ?_)
  · obtain ⟨hl, ol, rs, os, rfl, _⟩ := h
    rfl
  · obtain ⟨hl, ol, rs, os, rfl, lh, lo, gh, go, kn, q⟩ := h
    refine ⟨_, (pss_cons (ps_for PassesOwn.never rfl (pi_range1 rfl (T.fre 2) (pa_cons (pe_callB (lenS_K (K := K) rfl) (by rfl) (T.fre 4) (by decide +kernel) (pa_cons (pv 0) pa_nil)) pa_nil)) (pg_name (i := 2) sc_l_rest_fault.nd rfl (Or.inl rfl))
 (pss_cons (ps_set (i := 3) sc_l_rest_fault.nd rfl (Or.inl rfl) (pe_ix (ixL_K (K := K) rfl) (pv 0) (pv 2) (fun _ _ => rfl)))
 (pss_one (ps_if (PW.pt (pw_and (pt_cmpR op_noNo (pe_ix (ixT_K (K := K) rfl) (pv 3) pe_int (fun _ _ => rfl)) pe_non (nomark _)) (pw_and1 (pt_cmpR (inS_K (K := K) rfl) (pe_ix (ixT_K (K := K) rfl) (pe_ix (ixT_K (K := K) rfl) (pv 3) pe_int (fun _ _ => rfl)) pe_int (fun _ _ => rfl)) (pe_lst (pa_cons pe_str (pa_cons pe_str pa_nil))) (by rfl)))))
 (pss_one (ps_if (pt_cmpR (notInD_K (K := K) rfl (hu65 hr)) (pe_slice (slT_K (K := K) rfl) (pv 3) po_none (po_some pe_int)) (pe_lc (own := [("_law_other_here", 5)]) rfl sc_l_rest_fault.nd (pi_listK (K := K) rfl (pv 1)) (blkOk_by (N := n_l_rest_fault) (sc := defScope s_l_rest_fault) (own := [("_law_other_here", 5)]) (by decide +kernel)) (fun _ _ _ _ _ => (pg_name (i := 5) sc_l_rest_fault.nd rfl (Or.inl rfl))) (fun _ _ _ _ _ => pts_nil) (fun _ _ _ _ _ => (pe_slice (slT_K (K := K) rfl) (pv 5) po_none (po_some pe_int)))) (by rfl))
 (pss_one (ps_ret (pe_tup (pa_cons pe_str (pa_cons (pv 2) pa_nil)))))
 pss_nil))
 pss_nil))))
 (pss_cons (ps_for PassesOwn.never rfl (pi_range1 rfl (T.fre 2) (pa_cons (pe_callB (lenS_K (K := K) rfl) (by rfl) (T.fre 4) (by decide +kernel) (pa_cons (pv 1) pa_nil)) pa_nil)) (pg_name (i := 2) sc_l_rest_fault.nd rfl (Or.inl rfl))
 (pss_cons (ps_set (i := 4) sc_l_rest_fault.nd rfl (Or.inl rfl) (pe_call (ok_l_record T) (hr.mono (by decide)) rfl (T.glo 41) (T.kp_l_record) (T.b_l_record) .nil pass0 (pa_cons (pv 0) (pa_cons (pe_slice (slT_K (K := K) rfl) (pe_ix (ixL_K (K := K) rfl) (pv 1) (pv 2) (fun _ _ => rfl)) po_none (po_some pe_int)) pa_nil))))
 (pss_one (ps_for PassesOwn.never rfl (pi_listK (K := K) rfl (pe_slice (slL_K (K := K) rfl) (pv 1) po_none (po_some (pv 2)))) (pg_name (i := 5) sc_l_rest_fault.nd rfl (Or.inl rfl))
 (pss_one (ps_if (PW.pt (pw_and (pt_cmpR op_noNo (pe_ix (ixT_K (K := K) rfl) (pv 4) pe_int (fun _ _ => rfl)) pe_non (nomark _)) (pw_and1 (pt_cmpR op_lt (pe_ix (ixT_K (K := K) rfl) (pv 4) pe_int (fun _ _ => rfl)) (pe_ix (ixT_K (K := K) rfl) (pe_call (ok_l_record T) (hr.mono (by decide)) rfl (T.glo 41) (T.kp_l_record) (T.b_l_record) .nil pass0 (pa_cons (pv 0) (pa_cons (pe_slice (slT_K (K := K) rfl) (pv 5) po_none (po_some pe_int)) pa_nil))) pe_int (fun _ _ => rfl)) (nomark _)))))
 (pss_one (ps_ret (pe_tup (pa_cons pe_str (pa_cons (pv 2) pa_nil)))))
 pss_nil))))))
 (pss_one (ps_ret pe_non)))), ?_⟩
    obtain ⟨ovs, ho, ro⟩ := id lo
    have lv := ro.length
    rw [List.length_map] at lv
    have few := go.few
    obtain ⟨hvs, hh, rh⟩ := id lh
    have lhv := rh.length
    rw [List.length_map] at lhv
    have fewh := gh.few
    walk_at "g"
    refine w_lenL (SqL.of hh) ?_
    walk_at "g"
    refine ⟨_, rfl, by omega, by omega, ?_⟩
    refine for_range (lo := 0) (fun i σ' H' => ∃ (x2 x3 x4 x5 : Option V), σ' = [some (.ref hl), some (.ref ol), x2, x3, x4, x5] ∧ Same H H' ∧ ∀ j < i, ∀ w, ¬ badMiss rs os j w) ⟨none, none, none, none, rfl, fun _ _ z => z, fun j hj => absurd hj (Nat.not_lt_zero _)⟩ ?_ ?_
    · rintro i σ' H1 hi ⟨x2, x3, x4, x5, rfl, s1, nb⟩
      have hi : i < rs.length := by omega
      obtain ⟨r, hr⟩ : ∃ e, rs[i]? = some e := ⟨_, List.getElem?_eq_getElem hi⟩
      have mr := List.mem_of_getElem? hr
      have okr := gh.ok r mr
      obtain ⟨vs, v, hv, av, rv⟩ := (lh.same s1).at hr
      obtain ⟨b, xv, spv, anv, rfl, tr, rx, _, rn⟩ := rec_at rv
      have next : (∀ a, r.an = some a → decidedA a → r.nm ∈ os.map Ent.nm) → ∀ j < i + 1, ∀ w, ¬ badMiss rs os j w := fun hh j hj w hb => by
        rcases Nat.lt_succ_iff_lt_or_eq.mp hj with z | z
        · exact nb j z w hb
        · subst z
          obtain ⟨_, r', a, h1, h2, h3, h4⟩ := hb
          rw [hr] at h1
          cases h1
          exact h4 (hh a h2 h3)
      rw [Int.zero_add]
      walk_at "g"
      refine w_ixL (SqL.of hv) av ?_
      walk_at "g"
      refine w_ixP tr (y := anv) rfl ?_
      walk_at "g"
      refine ⟨fun h => ?_, fun h => ?_⟩
      · have h := nd_true h
        cases ha : r.an with
        | none =>
          rw [ha] at rn
          exact absurd rn.asNon h
        | some a =>
          rw [ha] at rn
          obtain ⟨wd, ds, e2, sa⟩ := okr.an a ha
          subst e2
          obtain ⟨ab, axs, rfl, ta, ra⟩ := (show Rp K _ anv (.tuple (.str wd :: ds)) from rn).tupL
          cases ra with
          | cons r1 ra =>
            cases r1.asStr
            walk_at "g"
            refine w_ixP tr (y := .ref ab) rfl ?_
            walk_at "g"
            refine w_ixP ta (y := .str wd) atI_zero ?_
            walk_at "g"
            refine ⟨by show 2 ≤ sizeLine; decide, fun tw htw => ?_⟩
            have s2 := Same.new (o := HO.lst [.str "done", .str "unheld"]) htw
            have s12 := s1.trans s2
            walk_at "g"
            refine w_inF upd_same rfl rfl fun c hc => ?_
            have dec : c = true ↔ decidedA (.tuple (.str wd :: ds)) := by
              rw [hc]
              simp [inV, eqV, decidedA]
              exact ⟨fun h => ⟨ds, h.imp (fun e => ⟨e.symm, rfl⟩) fun e => ⟨e.symm, rfl⟩⟩, fun ⟨_, h⟩ => h.imp (fun e => e.1.symm) fun e => e.1.symm⟩
            walk_at "g"
            refine ⟨fun h => ?_, fun h => ?_⟩
            · walk_at "g"
              refine w_sl2 (tr.mono (Same.px s2)) fun p hp => ?_
              walk_at "g"
              have s3 := Same.new (o := HO.tup (nmV r.nm)) hp
              have s13 := s12.trans s3
              refine lc_list_data (S := fun v b => Rp K H v (Ent.d b)) (fun H y (b : Nm2) => Rp K H y (nmD b)) (fun _ => true) Ent.nm (fun _ _ _ _ p h => h.to p) (SqL.of (s13 _ _ ho)) (fun H' s' => SqL.of (s' _ _ (s13 _ _ ho))) (rps_paired ro) (by omega) ?_ ?_
              · intro v e H' he hv s6 N Y _ hY
                obtain ⟨b, av, rfl, te, _⟩ := ent_at (hv.same (s13.trans s6))
                walk_at "g"
                refine ⟨rfl, w_yes (iteT ?_)⟩
                walk_at "g"
                refine w_sl2 te fun p hp => ?_
                exact hY rfl _ _ (Same.new hp) (rp_nm (n := e.nm) upd_same)
              intro p4 H5 ys np4 s6 hp4 hpt
              rw [List.filter_eq_self.mpr fun _ _ => rfl] at hpt
              have rt := paired_rps hpt
              have s16 := s13.trans s6
              walk_at "g"
              refine w_notInRp (rp_nm (K := K) (n := r.nm) (s6 _ _ upd_same)) hp4 rt (nmD_shp (n := 59) _) (fun d hd => ?_) fun c2 hc2 => ?_
              · obtain ⟨n, _, rfl⟩ := List.mem_map.mp hd
                exact nmD_shp (n := 59) _
              rw [nmD_mem] at hc2
              walk_at "g"
              refine ⟨fun h2 => ?_, fun h2 => ?_⟩
              · walk_at "g"
                refine ⟨by show 2 ≤ sizeLine; decide, fun z hz => ?_⟩
                refine q (some ("missing", i)) _ _ (s16.trans (Same.new hz)) ⟨_, .inr ⟨i, _, rfl, hi, ⟨rfl, r, _, hr, ha, dec.mp h, hc2.mp h2⟩, nb⟩, .inl ⟨nofun, rfl⟩⟩ (.tup (.inl upd_same) (Rps.p2 (.str _) (.int _)))
              · walk_at "g"
                refine ⟨_, _, _, _, rfl, s16, next fun a' ha' hd => ?_⟩
                by_cases z : r.nm ∈ os.map Ent.nm
                · exact z
                · rw [hc2.mpr z] at h2; cases h2
            · walk_at "g"
              refine ⟨_, _, _, _, rfl, s12, next fun a' ha' hd => ?_⟩
              rw [ha] at ha'
              cases ha'
              rw [dec.mpr hd] at h
              cases h
      · have h := nd_false h
        refine w_no rfl ?_
        walk_at "g"
        refine ⟨_, _, _, _, rfl, s1, next fun a ha => ?_⟩
        rw [ha] at rn
        obtain ⟨w, ds, e2, _⟩ := okr.an a ha
        subst e2
        obtain ⟨_, _, e3, _⟩ := (show Rp K _ anv (.tuple (.str w :: ds)) from rn).tupL
        rw [h] at e3
        cases e3
    · rintro σ' H1 ⟨x2, x3, x4, x5, rfl, s1, nbm⟩
      have F3 : FirstP (badMiss rs os) rs.length none := .inl ⟨rfl, fun j hj => nbm j (by omega)⟩
      walk_at "g"
      refine w_lenL (SqL.of (s1 _ _ ho)) ?_
      walk_at "g"
      refine ⟨_, rfl, by omega, by omega, ?_⟩
      refine for_range (lo := 0) (fun i σ' H' => ∃ (x2 x3 x4 x5 : Option V), σ' = [some (.ref hl), some (.ref ol), x2, x3, x4, x5] ∧ Same H H' ∧ ∀ j < i, ∀ w, ¬ badLate rs os j w) ⟨x2, x3, x4, x5, rfl, s1, fun j hj => absurd hj (Nat.not_lt_zero _)⟩ ?_ ?_
      · rintro i σ' H1 hi ⟨x2, x3, x4, x5, rfl, s1, nb⟩
        have hi : i < os.length := by omega
        obtain ⟨e, he⟩ : ∃ e, os[i]? = some e := ⟨_, List.getElem?_eq_getElem hi⟩
        have me := List.mem_of_getElem? he
        obtain ⟨vs, v, hv, av, rv⟩ := (lo.same s1).at he
        obtain ⟨b, anv, rfl, te, ra⟩ := ent_at rv
        obtain ⟨rc, hrc⟩ := kn e me
        have okr := gh.ok rc (recOf_mem hrc).1
        rw [Int.zero_add]
        walk_at "g"
        refine w_ixL (SqL.of hv) av ?_
        walk_at "g"
        refine w_sl2 te fun p hp => ?_
        have s2 := Same.new (o := HO.tup (nmV e.nm)) hp
        have s12 := s1.trans s2
        walk_at "g"
        refine ⟨hl, .ref p, rs, e.nm, rfl, lh.same s12, rp_nm upd_same, gh.few, fun u H2 s3 ru => ?_⟩
        have s13 := s12.trans s3
        have rv2 : Rp K H2 u rc.d := by
          rcases ru with ⟨z, _⟩ | ⟨r', z, h2⟩
          · rw [z] at hrc; cases hrc
          · rw [hrc] at z
            cases z
            exact h2
        obtain ⟨rb, xv, spv, rnv, rfl, tr, rx, rsp, rn⟩ := rec_at rv2
        walk_at "g"
        refine w_takeL (SqL.of (s13 _ _ ho)) fun p3 hp3 => ?_
        have s4 := Same.new (o := HO.lst (ovs.take i)) hp3
        have s14 := s13.trans s4
        have pt := Kt.Paired.takeP i (rps_paired ro)
        walk_at "g"
        refine ⟨p3, rfl, ⟨_, SqL.of upd_same⟩, for_list (xs := ovs.take i) (fun k σ' H' => ∃ (x3 x5 : Option V), σ' = [some (.ref hl), some (.ref ol), some (.int (i : Nat)), x3, some (.ref rb), x5] ∧ Same (upd H2 p3 (.lst (ovs.take i))) H' ∧ ∀ t, rc.sp = some t → ∀ e' ∈ (os.take i).take k, ∀ r', recOf rs e'.nm = some r' → ¬ t < r'.st) ⟨_, _, rfl, fun _ _ z => z, by simp⟩ (fun k σ' H' _ h => by
          obtain ⟨_, _, _, s5, _⟩ := h
          exact SqL.of (s5 _ _ upd_same)) ?_ ?_⟩
        · rintro k v σ' H5 hv ⟨x3, x5, rfl, s5, nl⟩
          obtain ⟨e', he', hev⟩ := Paired.getL pt hv
          have me' : e' ∈ os := List.mem_of_mem_take (List.mem_of_getElem? he')
          have s15 := s14.trans s5
          have s25 := s4.trans s5
          obtain ⟨b', anv', rfl, te', _⟩ := ent_at (hev.same s15)
          obtain ⟨rc', hrc'⟩ := kn e' me'
          have tk : (os.take i).take (k + 1) = (os.take i).take k ++ [e'] := by rw [List.take_succ, he']; rfl
          walk_at "g"
          refine w_ixP (tr.mono (Same.px s25)) (y := spv) rfl ?_
          walk_at "g"
          refine ⟨fun h => ?_, fun h => ?_⟩
          · have h := nd_true h
            cases hsp : rc.sp with
            | none =>
              rw [hsp] at rsp
              exact absurd rsp.asNon h
            | some t0 =>
              rw [hsp] at rsp
              cases (show Rp K _ spv (.int t0) from rsp).asInt
              walk_at "g"
              refine w_ixP (tr.mono (Same.px s25)) (y := .int t0) rfl ?_
              walk_at "g"
              refine w_sl2 te' fun p5 hp5 => ?_
              have s6 := Same.new (o := HO.tup (nmV e'.nm)) hp5
              walk_at "g"
              refine ⟨hl, .ref p5, rs, e'.nm, rfl, lh.same (s15.trans s6), rp_nm upd_same, gh.few, fun u H7 s7 ru => ?_⟩
              have rv3 : Rp K H7 u rc'.d := by
                rcases ru with ⟨z, _⟩ | ⟨r', z, h2⟩
                · rw [z] at hrc'; cases hrc'
                · rw [hrc'] at z
                  cases z
                  exact h2
              obtain ⟨rb', xv', spv', rnv', rfl, tr', _⟩ := rec_at rv3
              have s67 := s6.trans s7
              walk_at "g"
              refine w_ixP tr' (y := .int rc'.st) rfl ?_
              walk_at "g"
              refine ⟨fun h => ?_, fun h => ?_⟩
              · have h := of_decide_eq_true h
                walk_at "g"
                refine ⟨by show 2 ≤ sizeLine; decide, fun z hz => ?_⟩
                exact q (some ("late", i)) _ _ ((s15.trans s67).trans (Same.new hz)) ⟨none, F3, .inr ⟨rfl, .inr ⟨i, _, rfl, hi, ⟨rfl, e, rc, t0, he, hrc, hsp, e', rc', List.mem_of_getElem? he', hrc', h⟩, nb⟩⟩⟩ (.tup (.inl upd_same) (Rps.p2 (.str _) (.int _)))
              · have h := of_decide_eq_false h
                walk_at "g"
                refine ⟨_, _, rfl, s5.trans s67, fun t ht e2 he2 r2 hr2 => ?_⟩
                rw [tk] at he2
                rcases List.mem_append.mp he2 with m | m
                · exact nl t (hsp.trans ht) e2 m r2 hr2
                · rw [List.mem_singleton.mp m, hrc'] at hr2
                  cases hr2
                  cases ht
                  exact h
          · have h := nd_false h
            refine w_no rfl ?_
            walk_at "g"
            refine ⟨_, _, rfl, s5, fun t ht => ?_⟩
            rw [ht] at rsp
            have := (show Rp K _ spv (.int t) from rsp).asInt
            rw [h] at this
            cases this
        · rintro σ' H5 ⟨x3, x5, rfl, s5, nl⟩
          have lt : (ovs.take i).length = (os.take i).length := Paired.length pt
          rw [lt, List.take_length] at nl
          refine ⟨_, _, _, _, rfl, s14.trans s5, fun j hj w hb => ?_⟩
          rcases Nat.lt_succ_iff_lt_or_eq.mp hj with z | z
          · exact nb j z w hb
          · subst z
            obtain ⟨_, e', r', t', h1, h2, h3, e2, r2, h4, h5, h6⟩ := hb
            rw [he] at h1
            cases h1
            rw [hrc] at h2
            cases h2
            exact nl t' h3 e2 h4 r2 h5 h6
      · rintro σ' H1 ⟨x2, x3, x4, x5, rfl, s1, nb⟩
        walk_at "g"
        exact q none _ _ s1 ⟨none, F3, .inr ⟨rfl, .inl ⟨rfl, fun j hj => nb j (by omega)⟩⟩⟩ .non
theorem ok_l_fault (T : Tx K mg) : FnOk P w K mg base CX0 4 (He.ga K "_law_fault") (fdOf K (He.ga K "_law_fault")) ["_law_history_here", "_law_order"] (spFault K) := by
  refine T.f_l_fault.ok sc_l_fault
    (fun vs H Q E h => ?_) (fun cdv A outer s H vs Q E hr h => ?_)
  · obtain ⟨hl, ol, rs, os, rfl, _⟩ := h
    rfl
  · obtain ⟨hl, ol, rs, os, rfl, lh, lo, gh, go, q⟩ := h
    refine ⟨_, (pss_cons (ps_set (i := 2) sc_l_fault.nd rfl (Or.inl rfl) (pe_call (ok_l_names_fault T) (hr.mono (by decide)) rfl (T.glo 42) (T.kp_l_names_fault) (T.b_l_names_fault) .nil pass0 (pa_cons (pv 0) (pa_cons (pv 1) pa_nil))))
 (Evl.pss_cut (ps_if (pt_cmpR op_isNo (pv 2) pe_non (nomark _))
 (pss_one (ps_set (i := 2) sc_l_fault.nd rfl (Or.inl rfl) (pe_call (ok_l_answers_fault T) (hr.mono (by decide)) rfl (T.glo 43) (T.kp_l_answers_fault) (T.b_l_answers_fault) .nil pass0 (pa_cons (pv 0) (pa_cons (pv 1) pa_nil)))))
 pss_nil)
 (Evl.pss_cut (ps_if (pt_cmpR op_isNo (pv 2) pe_non (nomark _))
 (pss_one (ps_set (i := 2) sc_l_fault.nd rfl (Or.inl rfl) (pe_call (ok_l_rest_fault T) (hr.mono (by decide)) rfl (T.glo 44) (T.kp_l_rest_fault) (T.b_l_rest_fault) .nil pass0 (pa_cons (pv 0) (pa_cons (pv 1) pa_nil)))))
 pss_nil)
 (pss_one (ps_ret (pv 2)))))), ?_⟩
    have isn : ∀ {H v} {f : Flt}, Rp K H v (fD f) → (v = .non ↔ f = none) := fun {H v f} r => by
      cases f with
      | none => exact ⟨fun _ => rfl, fun _ => r.asNon⟩
      | some p =>
        obtain ⟨a, _, e, _⟩ := (show Rp K H v (.tuple [.str p.1, .int p.2]) from r).tupL
        rw [e]
        simp
    walk_at "g"
    refine ⟨hl, ol, rs, os, rfl, lh, lo, gh, go, trivial, fun f1 v1 H1 s1 F1 r1 => ?_⟩
    walk_at "g"
    have i1 := isn r1
    refine w_cut (M := fun σ' H' => ∃ f v, σ' = [some (.ref hl), some (.ref ol), some v] ∧ Same H H' ∧ Rp K H' v (fD f) ∧ ((f1 ≠ none ∧ f = f1) ∨ (f1 = none ∧ FirstP (badAns rs os) os.length f))) ?_ ?_
    · walk_at "g"
      refine ⟨fun h => ?_, fun h => ?_⟩
      · have e := i1.mp (of_decide_eq_true h)
        subst e
        walk_at "g"
        exact ⟨hl, ol, rs, os, rfl, lh.same s1, lo.same s1, gh, go, known_of F1, fun f2 v2 H2 s2 F2 r2 => ⟨f2, v2, rfl, s1.trans s2, r2, .inr ⟨rfl, F2⟩⟩⟩
      · have e := of_decide_eq_false h
        walk_at "g"
        exact ⟨f1, v1, rfl, s1, r1, .inl ⟨fun z => e (i1.mpr z), rfl⟩⟩
    rintro _ H2 ⟨f2, v2, rfl, s2, r2, F2⟩
    have i2 := isn r2
    walk_at "g"
    refine w_cut (M := fun σ' H' => ∃ f v, σ' = [some (.ref hl), some (.ref ol), some v] ∧ Same H H' ∧ Rp K H' v (fD f) ∧ ((f2 ≠ none ∧ f = f2) ∨ (f2 = none ∧ ∃ f3, FirstP (badMiss rs os) rs.length f3 ∧ ((f3 ≠ none ∧ f = f3) ∨ (f3 = none ∧ FirstP (badLate rs os) os.length f))))) ?_ ?_
    · walk_at "g"
      refine ⟨fun h => ?_, fun h => ?_⟩
      · have e := i2.mp (of_decide_eq_true h)
        subst e
        have f1n : f1 = none := by
          rcases F2 with ⟨a, b⟩ | ⟨a, _⟩
          · exact absurd b.symm a
          · exact a
        subst f1n
        walk_at "g"
        exact ⟨hl, ol, rs, os, rfl, lh.same s2, lo.same s2, gh, go, known_of F1, fun f3 v3 H3 s3 F3 r3 => ⟨f3, v3, rfl, s2.trans s3, r3, .inr ⟨rfl, F3⟩⟩⟩
      · have e := of_decide_eq_false h
        walk_at "g"
        exact ⟨f2, v2, rfl, s2, r2, .inl ⟨fun z => e (i2.mpr z), rfl⟩⟩
    rintro _ H4 ⟨f4, v4, rfl, s4, r4, F4⟩
    walk_at "g"
    refine q f4 _ _ s4 ⟨f1, F1, ?_⟩ r4
    rcases F2 with ⟨a, b⟩ | ⟨a, F2⟩
    · subst b
      refine .inl ⟨a, ?_⟩
      rcases F4 with ⟨_, b⟩ | ⟨c, _⟩
      · exact b
      · exact absurd c a
    · refine .inr ⟨a, f2, F2, ?_⟩
      rcases F4 with ⟨c, b⟩ | ⟨c, f3, F3, F4⟩
      · exact .inl ⟨c, b⟩
      · exact .inr ⟨c, f3, F3, F4⟩
--CUT
/-! ### changed histories -/
theorem ok_l_other (T : Tx K mg) : FnOk P w K mg base CX0 1 (He.ga K "_law_other") (fdOf K (He.ga K "_law_other")) ["_law_record_here", "_law_name"] (fun vs H Q _ => ∃ (rv nv : V) (r : Rec) (nm : Nm2), vs = [rv, nv] ∧ Rp K H rv r.d ∧ r.ok ∧ Rp K H nv (nmD nm) ∧ ∀ v (r' : Rec) H', Same H H' → r'.nm = r.nm → r'.ok → Rp K H' v r'.d → Q v H') := by
  refine T.f_l_other.ok sc_l_other
    (fun vs H Q E h => ?_) (fun cdv A outer s H vs Q E hr h => ?_)
  · obtain ⟨rv, nv, r, nm, rfl, _⟩ := h
    rfl
  · obtain ⟨rv, nv, r, nm, rfl, rr, ok, rn, q⟩ := h
    refine ⟨_, (pss_cons (ps_if (PW.pt (pw_and (pt_cmpR (eqD_K (K := K) rfl hr.units) (pe_slice (slT_K (K := K) rfl) (pv 0) po_none (po_some pe_int)) (pv 1) (nomark _)) (pw_and1 (pt_cmpR op_noNo (pe_ix (ixT_K (K := K) rfl) (pv 0) pe_int (fun _ _ => rfl)) pe_non (nomark _)))))
 (pss_one (ps_ret (pe_op (catT_K (K := K) rfl) (pe_slice (slT_K (K := K) rfl) (pv 0) po_none (po_some pe_int)) (pe_tup (pa_cons (pe_tup (pa_cons pe_str pa_nil)) pa_nil)))))
 pss_nil)
 (pss_one (ps_ret (pv 0)))), ?_⟩
    obtain ⟨b, xv, spv, anv, rfl, tr, r1, r2, r3⟩ := rec_at rr
    walk_at "g"
    refine w_sl2 tr fun p hp => ?_
    have s1 := Same.new (o := HO.tup (nmV r.nm)) hp
    walk_at "g"
    refine w_eqRp (rp_nm (K := K) (n := r.nm) upd_same) (rn.same s1) (nmD_shp (n := 59) _) (nmD_shp (n := 59) _) fun c hc => ?_
    walk_at "g"
    refine ⟨fun _ => ?_, fun _ => ?_⟩
    · walk_at "g"
      refine w_ixP (tr.mono (Same.px s1)) (y := spv) rfl ?_
      walk_at "g"
      refine ⟨fun _ => ?_, fun _ => ?_⟩
      · walk_at "g"
        refine w_sl5 (tr.mono (Same.px s1)) fun p2 hp2 => ?_
        have s2 := Same.new (o := HO.tup [.int r.c, .int r.n, xv, .int r.st, spv]) hp2
        walk_at "g"
        refine ⟨by show 1 ≤ sizeLine; decide, fun p3 hp3 => ?_⟩
        have s3 := Same.new (o := HO.tup [.str "busy"]) hp3
        walk_at "g"
        refine ⟨by show 1 ≤ sizeLine; decide, fun p4 hp4 => ?_⟩
        have s4 := Same.new (o := HO.tup [.ref p3]) hp4
        refine w_catP (.inl (s4 _ _ (s3 _ _ upd_same))) (.inl upd_same) (by simp) (by simp) (by show 6 ≤ sizeLine; decide) fun p5 hp5 => ?_
        have s5 := Same.new (o := HO.tup ([.int r.c, .int r.n, xv, .int r.st, spv] ++ [.ref p3])) hp5
        have sA := ((s1.trans s2).trans (s3.trans s4)).trans s5
        refine q _ { r with an := some (.tuple [.str "busy"]) } _ sA rfl ⟨ok.x, fun a ha => ?_, ok.st, ok.sp⟩ ?_
        · cases ha
          exact ansOk_of (by decide +kernel) (by simp)
        · exact .tup (.inl upd_same) (.cons (.int _) (.cons (.int _) (.cons (r1.same sA) (.cons (.int _) (.cons (r2.same sA) (.cons (.tup (.inl (s5 _ _ (s4 _ _ upd_same))) (Rps.p1 (.str _))) .nil))))))
      · walk_at "g"
        exact q _ r _ s1 rfl ok (rr.same s1)
    · refine w_no rfl ?_
      walk_at "g"
      exact q _ r _ s1 rfl ok (rr.same s1)
theorem ok_l_changed (T : Tx K mg) : FnOk P w K mg base CX0 2 (He.ga K "_law_changed") (fdOf K (He.ga K "_law_changed")) ["_law_history_here", "_law_order", "_law_box"] (fun vs H Q _ => ∃ (hl ol bx : Addr) (hs : List Rec) (os : List Ent), vs = [.ref hl, .ref ol, .ref bx] ∧ LsAt K H hl (hs.map Rec.d) ∧ LsAt K H ol (os.map Ent.d) ∧ GoodH hs ∧ GoodO os ∧ os.length ≤ 100 ∧ BoxAt H bx ∧ bx ≠ hl ∧ bx ≠ ol ∧ ∀ l hl' ol' hs' os' H', Ch [bx] H H' → H' l = some (.lst [.ref hl', .ref ol']) → LsAt K H' hl' (hs'.map Rec.d) → LsAt K H' ol' (os'.map Ent.d) → GoodH hs' → GoodO os' → Q (.ref l) H') := by
  refine T.f_l_changed.ok sc_l_changed
    (fun vs H Q E h => ?_) (fun cdv A outer s H vs Q E hr h => ?_)
  · obtain ⟨hl, ol, bx, hs, os, rfl, _⟩ := h
    rfl
  · obtain ⟨hl, ol, bx, hs, os, rfl, lh, lo, gh, go, fw, b0, nbh, nbo, q⟩ := h
    refine ⟨_, (pss_cons (ps_set (i := 3) sc_l_changed.nd rfl (Or.inl rfl) (pe_call (ok_l_take T) (hr.mono (by decide)) rfl (T.glo 1) (T.kp_l_take) (T.b_l_take) .nil pass0 (pa_cons (pv 2) (pa_cons pe_int pa_nil))))
 (pss_cons (ps_if (pt_cmpR op_eq (pe_callB (lenS_K (K := K) rfl) (by rfl) (T.fre 4) (by decide +kernel) (pa_cons (pv 1) pa_nil)) pe_int (nomark _))
 (pss_one (ps_ret (pe_lst (pa_cons (pv 0) (pa_cons (pe_lst (pa_cons (pe_tup (pa_cons pe_int (pa_cons pe_int (pa_cons (pe_tup (pa_cons pe_str (pa_cons (pe_tup pa_nil) pa_nil))) pa_nil)))) pa_nil)) pa_nil)))))
 pss_nil)
 (pss_cons (ps_set (i := 4) sc_l_changed.nd rfl (Or.inl rfl) (pe_call (ok_l_take T) (hr.mono (by decide)) rfl (T.glo 1) (T.kp_l_take) (T.b_l_take) .nil pass0 (pa_cons (pv 2) (pa_cons (pe_callB (lenS_K (K := K) rfl) (by rfl) (T.fre 4) (by decide +kernel) (pa_cons (pv 1) pa_nil)) pa_nil))))
 (pss_cons (ps_set (i := 5) sc_l_changed.nd rfl (Or.inr rfl) (pe_ix (ixL_K (K := K) rfl) (pv 1) (pv 4) (fun _ _ => rfl)))
 (pss_cons (ps_if (pt_cmpR op_eq (pv 3) pe_int (nomark _))
 (pss_one (ps_ret (pe_lst (pa_cons (pv 0) (pa_cons (pe_op op_cat (pe_slice (slL_K (K := K) rfl) (pv 1) po_none (po_some (pv 4))) (pe_slice (slL_K (K := K) rfl) (pv 1) (po_some (pe_op op_add (pv 4) pe_int)) po_none)) pa_nil)))))
 pss_nil)
 (pss_cons (ps_if (pt_cmpR op_eq (pv 3) pe_int (nomark _))
 (pss_one (ps_ret (pe_lst (pa_cons (pv 0) (pa_cons (pe_op op_cat (pv 1) (pe_lst (pa_cons (pv 5) pa_nil))) pa_nil)))))
 pss_nil)
 (pss_cons (ps_if (pt_cmpR op_eq (pv 3) pe_int (nomark _))
 (pss_one (ps_ret (pe_lst (pa_cons (pv 0) (pa_cons (pe_op op_cat (pe_op op_cat (pe_slice (slL_K (K := K) rfl) (pv 1) po_none (po_some (pv 4))) (pe_lst (pa_cons (pe_tup (pa_cons (pe_op op_sub pe_int (pe_ix (ixT_K (K := K) rfl) (pv 5) pe_int (fun _ _ => rfl))) (pa_cons pe_int (pa_cons (pe_ix (ixT_K (K := K) rfl) (pv 5) pe_int (fun _ _ => rfl)) pa_nil)))) pa_nil))) (pe_slice (slL_K (K := K) rfl) (pv 1) (po_some (pe_op op_add (pv 4) pe_int)) po_none)) pa_nil)))))
 pss_nil)
 (pss_cons (ps_if (pt_cmpR op_eq (pv 3) pe_int (nomark _))
 (pss_one (ps_ret (pe_lst (pa_cons (pv 0) (pa_cons (pe_op op_cat (pe_op op_cat (pe_slice (slL_K (K := K) rfl) (pv 1) po_none (po_some (pv 4))) (pe_lst (pa_cons (pe_op (catT_K (K := K) rfl) (pe_slice (slT_K (K := K) rfl) (pv 5) po_none (po_some pe_int)) (pe_tup (pa_cons (pe_tup (pa_cons pe_str (pa_cons (pe_tup (pa_cons pe_int pa_nil)) pa_nil))) pa_nil))) pa_nil))) (pe_slice (slL_K (K := K) rfl) (pv 1) (po_some (pe_op op_add (pv 4) pe_int)) po_none)) pa_nil)))))
 pss_nil)
 (pss_cons (ps_if (pt_cmpR op_eq (pv 3) pe_int (nomark _))
 (pss_one (ps_ret (pe_lst (pa_cons (pv 0) (pa_cons (pe_op op_cat (pe_op op_cat (pe_op op_cat (pe_slice (slL_K (K := K) rfl) (pv 1) po_none (po_some (pv 4))) (pe_slice (slL_K (K := K) rfl) (pv 1) (po_some (pe_op op_add (pv 4) pe_int)) (po_some (pe_op op_add (pv 4) pe_int)))) (pe_lst (pa_cons (pv 5) pa_nil))) (pe_slice (slL_K (K := K) rfl) (pv 1) (po_some (pe_op op_add (pv 4) pe_int)) po_none)) pa_nil)))))
 pss_nil)
 (pss_cons (ps_if (pt_cmpR op_eq (pv 3) pe_int (nomark _))
 (pss_one (ps_ret (pe_lst (pa_cons (pe_lc (own := [("_law_one", 6)]) rfl sc_l_changed.nd (pi_listK (K := K) rfl (pv 0)) (blkOk_by (N := n_l_changed) (sc := defScope s_l_changed) (own := [("_law_one", 6)]) (by decide +kernel)) (fun _ _ _ _ _ => (pg_name (i := 6) sc_l_changed.nd rfl (Or.inl rfl))) (fun _ _ _ _ _ => pts_nil) (fun _ _ _ _ _ => (pe_call (ok_l_other T) (hr.mono (by decide)) rfl (T.glo 17) (T.kp_l_other) (T.b_l_other) .nil pass0 (pa_cons (pv 6) (pa_cons (pe_slice (slT_K (K := K) rfl) (pv 5) po_none (po_some pe_int)) pa_nil))))) (pa_cons (pv 1) pa_nil)))))
 pss_nil)
 (pss_one (ps_ret (pe_lst (pa_cons (pv 0) (pa_cons (pe_op op_cat (pe_slice (slL_K (K := K) rfl) (pv 1) (po_some (pv 4)) po_none) (pe_slice (slL_K (K := K) rfl) (pv 1) po_none (po_some (pv 4)))) pa_nil))))))))))))))), ?_⟩
    obtain ⟨ovs, ho, ro⟩ := id lo
    have lv := ro.length
    rw [List.length_map] at lv
    walk_at "g"
    refine w_take b0 (by decide) (by decide) fun kd H1 k0 k1 c1 b1 => ?_
    have ho1 := c1.2 _ _ ho (by simpa using nbo.symm)
    have lh1 := lh.ch c1 (by simpa using nbh.symm)
    walk_at "g"
    refine w_lenL (SqL.of ho1) ?_
    walk_at "g"
    refine ⟨fun h => ?_, fun h => ?_⟩
    · walk_at "g"
      refine ⟨Nat.zero_le _, fun p1 hp1 => ?_⟩
      have s1 := Same.new (o := HO.tup []) hp1
      walk_at "g"
      refine ⟨by show 2 ≤ sizeLine; decide, fun p2 hp2 => ?_⟩
      have s2 := Same.new (o := HO.tup [.str "done", .ref p1]) hp2
      walk_at "g"
      refine ⟨by show 3 ≤ sizeLine; decide, fun p3 hp3 => ?_⟩
      have s3 := Same.new (o := HO.tup [.int 0, .int 99, .ref p2]) hp3
      walk_at "g"
      refine ⟨by show 1 ≤ sizeLine; decide, fun p4 hp4 => ?_⟩
      have s4 := Same.new (o := HO.lst [.ref p3]) hp4
      walk_at "g"
      refine ⟨by show 2 ≤ sizeLine; decide, fun p5 hp5 => ?_⟩
      have s5 := Same.new (o := HO.lst [.ref hl, .ref p4]) hp5
      have sA := ((s1.trans s2).trans (s3.trans s4)).trans s5
      refine q _ hl p4 hs [⟨0, 99, .tuple [.str "done", .tuple []]⟩] _ (c1.then sA) upd_same (lh1.same sA) ⟨_, s5 _ _ upd_same, Rps.p1 (.tup (.inl (s5 _ _ (s4 _ _ upd_same))) (Rps.p3 (.int _) (.int _) (.tup (.inl (s5 _ _ (s4 _ _ (s3 _ _ upd_same)))) (Rps.p2 (.str _) (.tup (.inl (s5 _ _ (s4 _ _ (s3 _ _ (s2 _ _ upd_same))))) .nil)))))⟩ gh ⟨fun e he => ?_, by decide⟩
      rw [List.mem_singleton.mp he]
      exact ansOk_of (by decide +kernel) fun d hd => by
        rw [List.mem_singleton.mp hd]
        exact .tup (n := 0) (by simp)
    have ne : 0 < os.length := by
      have h := of_decide_eq_false h
      have : ¬ ovs.length = 0 := fun z => h (by rw [z]; rfl)
      omega
    walk_at "g"
    refine w_lenL (SqL.of ho1) ?_
    walk_at "g"
    refine w_take b1 (by omega) (by omega) fun at_ H2 a0 a1 c2 b2 => ?_
    have c12 := c1.trans c2
    have ho2 := c2.2 _ _ ho1 (by simpa using nbo.symm)
    have lh2 := lh1.ch c2 (by simpa using nbh.symm)
    obtain ⟨row, ha, hrow⟩ := atI_int a0 a1
    obtain ⟨e, he, hev⟩ := Paired.getL (rps_paired ro) hrow
    have me := List.mem_of_getElem? he
    have rrow := hev.to c12.px
    have el : EL K H2 ovs := ⟨os, ro.to c12.px, go.ok⟩
    walk_at "g"
    refine w_ixL (SqL.of ho2) ha ?_
    obtain ⟨b, av, rfl, te, ra⟩ := ent_at rrow
    have ln : ∀ lo hi, (cutV ovs lo hi).length ≤ 100 := fun lo hi => Nat.le_trans (cutV_length _ _ _) (by omega)
    have fin : ∀ (l p : Addr) (ws : List V) (H' : Hp), Ch [] H2 H' → H' l = some (.lst [.ref hl, .ref p]) → H' p = some (.lst ws) → EL K H' ws → ws.length ≤ 1000 → Q (.ref l) H' := fun l p ws H' c h1 h2 h3 h4 => by
      obtain ⟨os', lo', go'⟩ := h3.good h2 h4
      exact q l hl p hs os' H' (c12.trans (c.mono (by simp))) h1 (lh2.ch c (by simp)) lo' gh go'
    walk_at "g"
    refine ⟨fun _ => ?_, fun _ => ?_⟩
    · walk_at "g"
      refine w_slL (SqL.of ho2) fun p1 hp1 => ?_
      have s1 := Same.new (o := HO.lst (cutV ovs none (some at_))) hp1
      walk_at "g"
      refine w_slL (SqL.of (s1 _ _ ho2)) fun p2 hp2 => ?_
      have s2 := Same.new (o := HO.lst (cutV ovs (some (at_ + 1)) none)) hp2
      walk_at "g"
      have l1 := ln none (some at_)
      have l2 := ln (some (at_ + 1)) none
      refine w_catL (s2 _ _ upd_same) upd_same (sz_le (by omega)) fun p3 hp3 => ?_
      have s3 := Same.new (o := HO.lst (cutV ovs none (some at_) ++ cutV ovs (some (at_ + 1)) none)) hp3
      walk_at "g"
      refine ⟨by show 2 ≤ sizeLine; decide, fun p4 hp4 => ?_⟩
      have s4 := Same.new (o := HO.lst [.ref hl, .ref p3]) hp4
      have sA := (s1.trans s2).trans (s3.trans s4)
      exact fin p4 p3 _ _ (Same.ch sA) upd_same (s4 _ _ upd_same) (((el.cut _ _).app (el.cut _ _)).to (Same.px sA)) (by rw [List.length_append]; omega)
    walk_at "g"
    refine ⟨fun _ => ?_, fun _ => ?_⟩
    · walk_at "g"
      refine ⟨by show 1 ≤ sizeLine; decide, fun p1 hp1 => ?_⟩
      have s1 := Same.new (o := HO.lst [.ref b]) hp1
      walk_at "g"
      refine w_catL (s1 _ _ ho2) upd_same (sz_le (by simp; omega)) fun p3 hp3 => ?_
      have s3 := Same.new (o := HO.lst (ovs ++ [.ref b])) hp3
      walk_at "g"
      refine ⟨by show 2 ≤ sizeLine; decide, fun p4 hp4 => ?_⟩
      have s4 := Same.new (o := HO.lst [.ref hl, .ref p3]) hp4
      have sA := s1.trans (s3.trans s4)
      exact fin p4 p3 _ _ (Same.ch sA) upd_same (s4 _ _ upd_same) ((el.app (EL.one rrow (go.ok e me))).to (Same.px sA)) (by simp; omega)
    walk_at "g"
    refine ⟨fun _ => ?_, fun _ => ?_⟩
    · walk_at "g"
      refine w_slL (SqL.of ho2) fun p1 hp1 => ?_
      have s1 := Same.new (o := HO.lst (cutV ovs none (some at_))) hp1
      walk_at "g"
      refine w_ixP (te.mono (Same.px s1)) (y := .int e.c) rfl ?_
      walk_at "g"
      refine w_ixP (te.mono (Same.px s1)) (y := av) rfl ?_
      walk_at "g"
      refine ⟨by show 3 ≤ sizeLine; decide, fun p2 hp2 => ?_⟩
      have s2 := Same.new (o := HO.tup [.int (3 - e.c), .int 90, av]) hp2
      walk_at "g"
      refine ⟨by show 1 ≤ sizeLine; decide, fun p3 hp3 => ?_⟩
      have s3 := Same.new (o := HO.lst [.ref p2]) hp3
      have l1 := ln none (some at_)
      have l2 := ln (some (at_ + 1)) none
      refine w_catL (s3 _ _ (s2 _ _ upd_same)) upd_same (sz_le (by simp; omega)) fun p4 hp4 => ?_
      have s4 := Same.new (o := HO.lst (cutV ovs none (some at_) ++ [.ref p2])) hp4
      have s14 := (s1.trans s2).trans (s3.trans s4)
      walk_at "g"
      refine w_slL (SqL.of (s14 _ _ ho2)) fun p5 hp5 => ?_
      have s5 := Same.new (o := HO.lst (cutV ovs (some (at_ + 1)) none)) hp5
      walk_at "g"
      refine w_catL (s5 _ _ upd_same) upd_same (sz_le (by simp; omega)) fun p6 hp6 => ?_
      have s6 := Same.new (o := HO.lst (cutV ovs none (some at_) ++ [.ref p2] ++ cutV ovs (some (at_ + 1)) none)) hp6
      walk_at "g"
      refine ⟨by show 2 ≤ sizeLine; decide, fun p7 hp7 => ?_⟩
      have s7 := Same.new (o := HO.lst [.ref hl, .ref p6]) hp7
      have s37 := (s3.trans s4).trans (s5.trans (s6.trans s7))
      have sA := (s1.trans s2).trans s37
      have r2 := (rrow.same sA)
      refine fin p7 p6 _ _ (Same.ch sA) upd_same (s7 _ _ upd_same) ((((el.cut _ _).to (Same.px sA)).app (EL.one (e := ⟨3 - e.c, 90, e.an⟩) (.tup (.inl (s37 _ _ upd_same)) (Rps.p3 (.int _) (.int _) (ra.same sA))) (go.ok e me))).app ((el.cut _ _).to (Same.px sA))) (by simp; omega)
    walk_at "g"
    refine ⟨fun _ => ?_, fun _ => ?_⟩
    · walk_at "g"
      have l1 := ln none (some at_)
      have l2 := ln (some (at_ + 1)) none
      refine w_slL (SqL.of ho2) fun p1 hp1 => ?_
      have s1 := Same.new (o := HO.lst (cutV ovs none (some at_))) hp1
      walk_at "g"
      refine w_sl2 (te.mono (Same.px s1)) fun p2 hp2 => ?_
      have s2 := Same.new (o := HO.tup [.int e.c, .int e.n]) hp2
      walk_at "g"
      refine ⟨by show 1 ≤ sizeLine; decide, fun p3 hp3 => ?_⟩
      have s3 := Same.new (o := HO.tup [.int 12345]) hp3
      walk_at "g"
      refine ⟨by show 2 ≤ sizeLine; decide, fun p4 hp4 => ?_⟩
      have s4 := Same.new (o := HO.tup [.str "done", .ref p3]) hp4
      walk_at "g"
      refine ⟨by show 1 ≤ sizeLine; decide, fun p5 hp5 => ?_⟩
      have s5 := Same.new (o := HO.tup [.ref p4]) hp5
      refine w_catP (.inl (s5 _ _ (s4 _ _ (s3 _ _ upd_same)))) (.inl upd_same) (by simp) (by simp) (by show 3 ≤ sizeLine; decide) fun p6 hp6 => ?_
      have s6 := Same.new (o := HO.tup ([.int e.c, .int e.n] ++ [.ref p4])) hp6
      walk_at "g"
      refine ⟨by show 1 ≤ sizeLine; decide, fun p7 hp7 => ?_⟩
      have s7 := Same.new (o := HO.lst [.ref p6]) hp7
      have s27 := (((s2.trans s3).trans s4).trans (s5.trans s6)).trans s7
      refine w_catL (s27 _ _ upd_same) upd_same (sz_le (by simp; omega)) fun p8 hp8 => ?_
      have s8 := Same.new (o := HO.lst (cutV ovs none (some at_) ++ [.ref p6])) hp8
      walk_at "g"
      refine w_slL (SqL.of (s8 _ _ (s27 _ _ (s1 _ _ ho2)))) fun p9 hp9 => ?_
      have s9 := Same.new (o := HO.lst (cutV ovs (some (at_ + 1)) none)) hp9
      walk_at "g"
      refine w_catL (s9 _ _ upd_same) upd_same (sz_le (by simp; omega)) fun pa hpa => ?_
      have sa := Same.new (o := HO.lst (cutV ovs none (some at_) ++ [.ref p6] ++ cutV ovs (some (at_ + 1)) none)) hpa
      walk_at "g"
      refine ⟨by show 2 ≤ sizeLine; decide, fun pb hpb => ?_⟩
      have sb := Same.new (o := HO.lst [.ref hl, .ref pa]) hpb
      have s7b := s7.trans (s8.trans (s9.trans (sa.trans sb)))
      have s4b := s5.trans (s6.trans s7b)
      have sA := s1.trans (s2.trans (s3.trans (s4.trans s4b)))
      refine fin pb pa _ _ (Same.ch sA) upd_same (sb _ _ upd_same) ((((el.cut _ _).to (Same.px sA)).app (EL.one (e := ⟨e.c, e.n, .tuple [.str "done", .tuple [.int 12345]]⟩) (.tup (.inl (s7b _ _ upd_same)) (Rps.p3 (.int _) (.int _) (.tup (.inl (s4b _ _ upd_same)) (Rps.p2 (.str _) (.tup (.inl (s4b _ _ (s4 _ _ upd_same))) (Rps.p1 (.int _))))))) ?_)).app ((el.cut _ _).to (Same.px sA))) (by simp; omega)
      exact ansOk_of (by decide +kernel) fun d hd => by
        rw [List.mem_singleton.mp hd]
        exact .tup1 (n := 0) .int
    walk_at "g"
    refine ⟨fun _ => ?_, fun _ => ?_⟩
    · walk_at "g"
      have l1 := ln none (some at_)
      have l2 := ln (some (at_ + 1)) (some (at_ + 2))
      have l3 := ln (some (at_ + 2)) none
      refine w_slL (SqL.of ho2) fun p1 hp1 => ?_
      have s1 := Same.new (o := HO.lst (cutV ovs none (some at_))) hp1
      walk_at "g"
      refine w_slL (SqL.of (s1 _ _ ho2)) fun p2 hp2 => ?_
      have s2 := Same.new (o := HO.lst (cutV ovs (some (at_ + 1)) (some (at_ + 2)))) hp2
      refine w_catL (s2 _ _ upd_same) upd_same (sz_le (by omega)) fun p3 hp3 => ?_
      have s3 := Same.new (o := HO.lst (cutV ovs none (some at_) ++ cutV ovs (some (at_ + 1)) (some (at_ + 2)))) hp3
      walk_at "g"
      refine ⟨by show 1 ≤ sizeLine; decide, fun p4 hp4 => ?_⟩
      have s4 := Same.new (o := HO.lst [.ref b]) hp4
      refine w_catL (s4 _ _ upd_same) upd_same (sz_le (by simp; omega)) fun p5 hp5 => ?_
      have s5 := Same.new (o := HO.lst (cutV ovs none (some at_) ++ cutV ovs (some (at_ + 1)) (some (at_ + 2)) ++ [.ref b])) hp5
      have s15 := s1.trans (s2.trans (s3.trans (s4.trans s5)))
      walk_at "g"
      refine w_slL (SqL.of (s15 _ _ ho2)) fun p6 hp6 => ?_
      have s6 := Same.new (o := HO.lst (cutV ovs (some (at_ + 2)) none)) hp6
      refine w_catL (s6 _ _ upd_same) upd_same (sz_le (by simp; omega)) fun p7 hp7 => ?_
      have s7 := Same.new (o := HO.lst (cutV ovs none (some at_) ++ cutV ovs (some (at_ + 1)) (some (at_ + 2)) ++ [.ref b] ++ cutV ovs (some (at_ + 2)) none)) hp7
      walk_at "g"
      refine ⟨by show 2 ≤ sizeLine; decide, fun p8 hp8 => ?_⟩
      have s8 := Same.new (o := HO.lst [.ref hl, .ref p7]) hp8
      have sA := s15.trans (s6.trans (s7.trans s8))
      exact fin p8 p7 _ _ (Same.ch sA) upd_same (s8 _ _ upd_same) (((((el.cut _ _).app (el.cut _ _)).app (EL.one rrow (go.ok e me))).app (el.cut _ _)).to (Same.px sA)) (by simp; omega)
    walk_at "g"
    refine ⟨fun _ => ?_, fun _ => ?_⟩
    · walk_at "g"
      obtain ⟨hvs, hh, rh⟩ := id lh2
      have lhv := rh.length
      rw [List.length_map] at lhv
      have fewh := gh.few
      refine lc_list_it (fun D i H' => Same H2 H' ∧ ∃ (ys : List V) (rs : List Rec), H' D = some (.lst ys) ∧ Rps K H' ys (rs.map Rec.d) ∧ rs.map Rec.nm = (hs.take i).map Rec.nm ∧ ∀ r ∈ rs, r.ok) (SqL.of hh) (fun D i H' _ h => SqL.of (h.1 _ _ hh)) (fun D hD => ⟨Same.new hD, [], [], upd_same, .nil, rfl, by simp⟩) (fun D i v H3 hD hv h => ?_) fun D H3 hD h => ?_
      · obtain ⟨s3, ys, rs, hy, ry, rn, ok⟩ := h
        obtain ⟨r, hr, hrv⟩ := Paired.getL (rps_paired rh) hv
        have hi := (List.getElem?_eq_some_iff.mp hr).1
        have ly := ry.length
        have lr := congrArg List.length rn
        rw [List.length_map] at ly
        rw [List.length_map, List.length_map, List.length_take] at lr
        walk_at "g"
        refine ⟨rfl, w_yes (iteT ?_)⟩
        walk_at "g"
        refine w_sl2 (te.mono (Same.px s3)) fun p1 hp1 => ?_
        have s4 := Same.new (o := HO.tup (nmV e.nm)) hp1
        walk_at "g"
        refine ⟨v, .ref p1, r, e.nm, rfl, (hrv.same s3).same s4, gh.ok r (List.mem_of_getElem? hr), rp_nm upd_same, fun u r' H5 s5 e1 ok' ru => ?_⟩
        have s45 := s4.trans s5
        have hy5 := s45 _ _ hy
        have px := Px.upd (o := .lst (ys ++ [u])) hy5 rfl
        refine ⟨_, hy5, sz_lt (by omega), fun c o hc => ?_, ys ++ [u], rs ++ [r'], upd_same, ?_, ?_, ?_⟩
        · rw [upd_ne (ne_of_none hc hD)]
          exact s45 _ _ (s3 _ _ hc)
        · rw [List.map_append]
          exact (ry.to ((Same.px s45).trans px)).append (Rps.p1 (ru.to px))
        · rw [List.map_append, rn, List.take_succ, hr, List.map_append]
          simp [e1]
        · intro z hz
          rcases List.mem_append.mp hz with m | m
          · exact ok z m
          · rw [List.mem_singleton.mp m]; exact ok'
      · obtain ⟨s3, ys, rs, hy, ry, rn, ok⟩ := h
        rw [lhv, List.take_length] at rn
        walk_at "g"
        refine ⟨by show 2 ≤ sizeLine; decide, fun p1 hp1 => ?_⟩
        have s4 := Same.new (o := HO.lst [.ref D, .ref ol]) hp1
        have lr := congrArg List.length rn
        rw [List.length_map, List.length_map] at lr
        exact q p1 D ol rs os _ (c12.then (s3.trans s4)) upd_same ⟨ys, s4 _ _ hy, ry.same s4⟩ ⟨ovs, s4 _ _ (s3 _ _ ho2), (ro.to c12.px).same (s3.trans s4)⟩ ⟨ok, by rw [rn]; exact gh.nd, by omega⟩ go
    walk_at "g"
    refine w_slL (SqL.of ho2) fun p1 hp1 => ?_
    have s1 := Same.new (o := HO.lst (cutV ovs (some at_) none)) hp1
    walk_at "g"
    refine w_slL (SqL.of (s1 _ _ ho2)) fun p2 hp2 => ?_
    have s2 := Same.new (o := HO.lst (cutV ovs none (some at_))) hp2
    have l1 := ln none (some at_)
    have l2 := ln (some at_) none
    refine w_catL (s2 _ _ upd_same) upd_same (sz_le (by omega)) fun p3 hp3 => ?_
    have s3 := Same.new (o := HO.lst (cutV ovs (some at_) none ++ cutV ovs none (some at_))) hp3
    walk_at "g"
    refine ⟨by show 2 ≤ sizeLine; decide, fun p4 hp4 => ?_⟩
    have s4 := Same.new (o := HO.lst [.ref hl, .ref p3]) hp4
    have sA := (s1.trans s2).trans (s3.trans s4)
    exact fin p4 p3 _ _ (Same.ch sA) upd_same (s4 _ _ upd_same) (((el.cut _ _).app (el.cut _ _)).to (Same.px sA)) (by rw [List.length_append]; omega)
--CUT
/-! ### a history grows -/
theorem ok_l_closed (T : Tx K mg) : FnOk P w K mg base CX0 1 (He.ga K "_law_closed") (fdOf K (He.ga K "_law_closed")) ["_law_row", "_law_call", "_law_events"] (fun vs H Q _ => ∃ (rv : V) (p : Addr) (r : Rec) (k : Call) (ev : Int), vs = [rv, .ref p, .int ev] ∧ Rp K H rv r.d ∧ CallAt K H p k ∧ ∀ v H', Same H H' → Rp K H' v (closeR k.nm ev k.f r).d → Q v H') := by
  refine T.f_l_closed.ok sc_l_closed
    (fun vs H Q E h => ?_) (fun cdv A outer s H vs Q E hr h => ?_)
  · obtain ⟨rv, p, r, k, ev, rfl, _⟩ := h
    rfl
  · obtain ⟨rv, p, r, k, ev, rfl, rr, hk, q⟩ := h
    refine ⟨_, (pss_cons (ps_if (pt_cmpR (eqD_K (K := K) rfl hr.units) (pe_slice (slT_K (K := K) rfl) (pv 0) po_none (po_some pe_int)) (pe_tup (pa_cons (pe_ix (ixL_K (K := K) rfl) (pv 1) pe_int (fun _ _ => rfl)) (pa_cons (pe_ix (ixL_K (K := K) rfl) (pv 1) pe_int (fun _ _ => rfl)) pa_nil))) (nomark _))
 (pss_one (ps_ret (pe_op (catT_K (K := K) rfl) (pe_slice (slT_K (K := K) rfl) (pv 0) po_none (po_some pe_int)) (pe_tup (pa_cons (pv 2) (pa_cons (pe_ix (ixL_K (K := K) rfl) (pv 1) pe_int (fun _ _ => rfl)) pa_nil))))))
 pss_nil)
 (pss_one (ps_ret (pv 0)))), ?_⟩
    obtain ⟨b, xv, spv, anv, rfl, tr, r1, r2, r3⟩ := rec_at rr
    obtain ⟨kx, kf, hp, _, rf⟩ := hk
    walk_at "g"
    refine w_sl2 tr fun p1 hp1 => ?_
    have s1 := Same.new (o := HO.tup (nmV r.nm)) hp1
    walk_at "g"
    refine w_ixL (SqL.of (s1 _ _ hp)) (v := .int k.c) rfl ?_
    walk_at "g"
    refine w_ixL (SqL.of (s1 _ _ hp)) (v := .int k.n) rfl ?_
    walk_at "g"
    refine ⟨by show 2 ≤ sizeLine; decide, fun p2 hp2 => ?_⟩
    have s2 := Same.new (o := HO.tup (nmV k.nm)) hp2
    have s12 := s1.trans s2
    refine w_eqRp (rp_nm (K := K) (n := r.nm) (s2 _ _ upd_same)) (rp_nm (K := K) (n := k.nm) upd_same) (nmD_shp (n := 59) _) (nmD_shp (n := 59) _) fun c hc => ?_
    have hc : c = true ↔ r.nm = k.nm := hc.trans ⟨nmD_inj, fun e => by rw [e]⟩
    walk_at "g"
    refine ⟨fun h => ?_, fun h => ?_⟩
    · have e : closeR k.nm ev k.f r = { r with sp := some ev, an := k.f } := if_pos (hc.mp h)
      rw [e] at q
      walk_at "g"
      refine w_sl4 (tr.mono (Same.px s12)) fun p3 hp3 => ?_
      have s3 := Same.new (o := HO.tup [.int r.c, .int r.n, xv, .int r.st]) hp3
      walk_at "g"
      refine w_ixL (SqL.of (s3 _ _ (s12 _ _ hp))) (v := kf) rfl ?_
      walk_at "g"
      refine ⟨by show 2 ≤ sizeLine; decide, fun p4 hp4 => ?_⟩
      have s4 := Same.new (o := HO.tup [.int ev, kf]) hp4
      refine w_catP (.inl (s4 _ _ upd_same)) (.inl upd_same) (by simp) (by simp) (by show 6 ≤ sizeLine; decide) fun p5 hp5 => ?_
      have s5 := Same.new (o := HO.tup ([.int r.c, .int r.n, xv, .int r.st] ++ [.int ev, kf])) hp5
      have sA := s12.trans (s3.trans (s4.trans s5))
      exact q _ _ sA (.tup (.inl upd_same) (.cons (.int _) (.cons (.int _) (.cons (r1.same sA) (.cons (.int _) (.cons (.int _) (.cons (rf.same sA) .nil)))))))
    · have e : closeR k.nm ev k.f r = r := if_neg fun z => by rw [hc.mpr z] at h; cases h
      rw [e] at q
      walk_at "g"
      exact q _ _ s12 (rr.same s12)
theorem ok_l_fate (T : Tx K mg) : FnOk P w K mg base CX0 3 (He.ga K "_law_fate") (fdOf K (He.ga K "_law_fate")) ["_law_box", "_law_rows", "_law_call", "_law_order"] (spFate K) := by
  refine T.f_l_fate.ok sc_l_fate
    (fun vs H Q E h => ?_) (fun cdv A outer s H vs Q E hr h => ?_)
  · obtain ⟨bx, r, p, ol, kvs, k, ovs, rfl, _⟩ := h
    rfl
  · obtain ⟨bx, r, p, ol, kvs, k, ovs, rfl, b0, hrw, rk, few, hk, ok, ho, lo, n1, n2, n3, q1, q2⟩ := h
    refine ⟨_, (pss_cons (ps_if (pt_cmpR op_eq (pe_call (ok_l_take T) (hr.mono (by decide)) rfl (T.glo 1) (T.kp_l_take) (T.b_l_take) .nil pass0 (pa_cons (pv 0) (pa_cons pe_int pa_nil))) pe_int (nomark _))
 (pss_one (ps_ret (pe_ix (ixL_K (K := K) rfl) (pe_lst (pa_cons (pe_tup (pa_cons pe_str pa_nil)) (pa_cons (pe_tup (pa_cons pe_str (pa_cons (pe_tup pa_nil) pa_nil))) pa_nil))) (pe_call (ok_l_take T) (hr.mono (by decide)) rfl (T.glo 1) (T.kp_l_take) (T.b_l_take) .nil pass0 (pa_cons (pv 0) (pa_cons pe_int pa_nil))) (fun _ _ => rfl))))
 pss_nil)
 (pss_cons (ps_set (i := 4) sc_l_fate.nd rfl (Or.inl rfl) (pe_call (ok_l_do T) (hr.mono (by decide)) rfl (T.glo 12) (T.kp_l_do) (T.b_l_do) .nil pass0 (pa_cons (pv 1) (pa_cons (pe_ix (ixL_K (K := K) rfl) (pv 2) pe_int (fun _ _ => rfl)) pa_nil))))
 (pss_cons (ps_expr (pe_bmK (K := K) rfl PySem.F.plainAttrs_list PySem.F.slot_list_append PySem.F.type_list_append mt_append (pv 3) (pa_cons (pe_tup (pa_cons (pe_ix (ixL_K (K := K) rfl) (pv 2) pe_int (fun _ _ => rfl)) (pa_cons (pe_ix (ixL_K (K := K) rfl) (pv 2) pe_int (fun _ _ => rfl)) (pa_cons (pv 4) pa_nil)))) pa_nil)))
 (pss_one (ps_ret (pv 4)))))), ?_⟩
    have nbr : r ≠ bx := by
      rintro rfl
      obtain ⟨_, e⟩ := b0
      rw [e] at hrw
      cases hrw
    have nro : r ≠ ol := fun z => by
      rw [z, ho] at hrw
      cases hrw
    have nrp : r ≠ p := fun z => by
      obtain ⟨_, _, e, _⟩ := hk
      rw [z, e] at hrw
      cases hrw
    walk_at "g"
    refine w_take b0 (by decide) (by decide) fun i H1 i0 i1 c1 b1 => ?_
    walk_at "g"
    refine ⟨fun _ => ?_, fun _ => ?_⟩
    · walk_at "g"
      refine ⟨by show 1 ≤ sizeLine; decide, fun p1 hp1 => ?_⟩
      have s1 := Same.new (o := HO.tup [.str "busy"]) hp1
      walk_at "g"
      refine ⟨Nat.zero_le _, fun p2 hp2 => ?_⟩
      have s2 := Same.new (o := HO.tup []) hp2
      walk_at "g"
      refine ⟨by show 2 ≤ sizeLine; decide, fun p3 hp3 => ?_⟩
      have s3 := Same.new (o := HO.tup [.str "moved", .ref p2]) hp3
      walk_at "g"
      refine ⟨by show 2 ≤ sizeLine; decide, fun p4 hp4 => ?_⟩
      have s13 := s1.trans (s2.trans s3)
      walk_at "g"
      refine w_pickT hp4 (b1.same s13) (by decide) rfl (by decide) fun v H2 hv c2 b2 => ?_
      have c12 := (c1.then s13).trans c2
      simp only [List.mem_cons, List.not_mem_nil, or_false] at hv
      rcases hv with e | e
      · subst e
        exact q1 _ (.tuple [.str "busy"]) _ (ansOk_of (by decide +kernel) (by simp)) (nd_word (by decide +kernel) (by decide +kernel)) c12 (.tup (.inl (c2.px _ _ (s3 _ _ (s2 _ _ upd_same)))) (Rps.p1 (.str _))) b2
      · subst e
        exact q1 _ (.tuple [.str "moved", .tuple []]) _ (ansOk_of (by decide +kernel) fun d hd => by
            rw [List.mem_singleton.mp hd]
            exact .tup (n := 0) (by simp)) (nd_word (by decide +kernel) (by decide +kernel)) c12 (.tup (.inl (c2.px _ _ upd_same)) (Rps.p2 (.str _) (.tup (.inl (c2.px _ _ (s3 _ _ upd_same))) .nil))) b2
    · have hk1 := hk.ch c1 (by simpa using n2.symm)
      obtain ⟨xv, fv, hp1, rx, _⟩ := hk1
      walk_at "g"
      refine w_ixL (SqL.of hp1) (v := xv) rfl ?_
      walk_at "g"
      have hr1 := c1.2 _ _ hrw (by simpa using nbr)
      refine ⟨r, kvs, xv, k.x, rfl, hr1, rx, ok, rk, few, fun H2 u c2 hr2 ru => ?_⟩
      have c12 : Ch [bx, r, ol] H H2 := (c1.mono (by simp)).trans (c2.mono (by simp))
      have ho2 : H2 ol = some (.lst ovs) := c2.2 _ _ (c1.2 _ _ ho (by simpa using n1.symm)) (by simpa using nro.symm)
      have hp2 := c2.2 _ _ hp1 (by simpa using nrp.symm)
      have b2 : BoxAt H2 bx := let ⟨m, e⟩ := b1; ⟨m, c2.2 _ _ e (by simpa using nbr.symm)⟩
      walk_at "g"
      refine ⟨tyL ho2, ?_⟩
      walk_at "g"
      refine w_ixL (SqL.of hp2) (v := .int k.c) rfl ?_
      walk_at "g"
      refine w_ixL (SqL.of hp2) (v := .int k.n) rfl ?_
      walk_at "g"
      refine ⟨by show 3 ≤ sizeLine; decide, fun t ht => ?_⟩
      have s3 := Same.new (o := HO.tup [.int k.c, .int k.n, u]) ht
      have ho3 := s3 _ _ ho2
      walk_at "g"
      refine w_appR ho3 (sz_lt (by omega)) ?_
      have px := Px.upd (o := .lst (ovs ++ [.ref t])) ho3 rfl
      have px2 := (Same.px s3).trans px
      walk_at "g"
      refine q2 _ (.ref t) _ ((c12.then s3).thenUpd ho3 rfl (.inl (by simp))) ?_ upd_same (.tup (.inl (px _ _ upd_same)) (Rps.p3 (.int _) (.int _) (ru.to px2))) (ru.to px2) ?_
      · rw [upd_ne nro]
        exact s3 _ _ hr2
      · obtain ⟨m, e⟩ := b2
        exact ⟨m, by rw [upd_ne n1]; exact s3 _ _ e⟩
theorem ok_l_history (T : Tx K mg) : FnOk P w K mg base CX0 5 (He.ga K "_law_history") (fdOf K (He.ga K "_law_history")) ["_law_script", "_law_keys_here", "_law_count"] (fun vs H Q _ => ∃ (sa kl : Addr) (sc : List Int) (ks : List Str) (n : Int), vs = [.ref sa, .ref kl, .int n] ∧ Scr K H sa sc ∧ KsAt H kl ks ∧ 0 ≤ n ∧ n ≤ 30 ∧ ∀ (l hl ol : Addr) (hs : List Rec) (os : List Ent) (kvs : Rws) (cs : List Call) (ns : List Int) (ev : Int) (H' : Hp), Same H H' → H' l = some (.lst [.ref hl, .ref ol]) → LsAt K H' hl (hs.map Rec.d) → LsAt K H' ol (os.map Ent.d) → HInv hs os kvs cs ns ev → ev ≤ 30 → Q (.ref l) H') := by
  refine T.f_l_history.ok sc_l_history
    (fun vs H Q E h => ?_) (fun cdv A outer s H vs Q E hr h => ?_)
  · obtain ⟨sa, kl, sc, ks, n, rfl, _⟩ := h
    rfl
  · obtain ⟨sa, kl, sc, ks, n, rfl, hsc, hks, n0, n1, q⟩ := h
    refine ⟨_, (pss_cons (ps_set (i := 3) sc_l_history.nd rfl (Or.inl rfl) pe_dnewK)
 (pss_cons (ps_set (i := 4) sc_l_history.nd rfl (Or.inl rfl) (pe_lst pa_nil))
 (pss_cons (ps_set (i := 5) sc_l_history.nd rfl (Or.inl rfl) (pe_lst pa_nil))
 (pss_cons (ps_set (i := 6) sc_l_history.nd rfl (Or.inr rfl) pe_int)
 (pss_cons (ps_set (i := 7) sc_l_history.nd rfl (Or.inl rfl) (pe_lst pa_nil))
 (pss_cons (ps_set (i := 8) sc_l_history.nd rfl (Or.inl rfl) (pe_lst (pa_cons pe_int (pa_cons pe_int (pa_cons pe_int (pa_cons pe_int pa_nil))))))
 (pss_cons (ps_for PassesOwn.never rfl (pi_range1 rfl (T.fre 2) (pa_cons (pv 2) pa_nil)) (pg_name (i := 9) sc_l_history.nd rfl (Or.inl rfl))
 (pss_cons (ps_set (i := 10) sc_l_history.nd rfl (Or.inl rfl) (pe_lst (pa_cons (pe_call (ok_l_number T) (hr.mono (by decide)) rfl (T.glo 13) (T.kp_l_number) (T.b_l_number) .nil pass0 (pa_cons (pv 0) (pa_cons (pe_op op_add pe_int (pv 9)) pa_nil))) pa_nil)))
 (pss_cons (ps_set (i := 11) sc_l_history.nd rfl (Or.inr rfl) (pe_call (ok_l_take T) (hr.mono (by decide)) rfl (T.glo 1) (T.kp_l_take) (T.b_l_take) .nil pass0 (pa_cons (pv 10) (pa_cons pe_int pa_nil))))
 (Evl.pss_cut (ps_if (pt_cmpR (inS_K (K := K) rfl) (pv 11) (pe_lc (own := [("_law_call", 12)]) rfl sc_l_history.nd (pi_listK (K := K) rfl (pv 7)) (blkOk_by (N := n_l_history) (sc := defScope s_l_history) (own := [("_law_call", 12)]) (by decide +kernel)) (fun _ _ _ _ _ => (pg_name (i := 12) sc_l_history.nd rfl (Or.inl rfl))) (fun _ _ _ _ _ => pts_nil) (fun _ _ _ _ _ => (pe_ix (ixL_K (K := K) rfl) (pv 12) pe_int (fun _ _ => rfl)))) (by rfl))
 (pss_cons (ps_set (i := 12) sc_l_history.nd rfl (Or.inr rfl) (pe_ix (ixL_K (K := K) rfl) (pe_lc (own := [("_law_other_here", 14)]) rfl sc_l_history.nd (pi_listK (K := K) rfl (pv 7)) (blkOk_by (N := n_l_history) (sc := defScope s_l_history) (own := [("_law_other_here", 14)]) (by decide +kernel)) (fun _ _ _ _ _ => (pg_name (i := 14) sc_l_history.nd rfl (Or.inl rfl))) (fun _ _ _ _ _ => pts_one (pt_cmpR op_eq (pe_ix (ixL_K (K := K) rfl) (pv 14) pe_int (fun _ _ => rfl)) (pv 11) (nomark _))) (fun _ _ _ _ _ => (pv 14))) pe_int (fun _ _ => rfl)))
 (pss_cons (ps_setLc (i := 7) (own := [("_law_other_here", 14)]) rfl sc_l_history.nd rfl rfl (sw_true rfl rfl rfl (by decide +kernel)) (pi_listK (K := K) rfl (pv 7)) (blkOk_by (N := n_l_history) (sc := defScope s_l_history) (own := [("_law_other_here", 14)]) (by decide +kernel)) (fun _ _ _ _ _ => (pg_name (i := 14) sc_l_history.nd rfl (Or.inl rfl))) (fun _ _ _ _ _ => pts_one (pt_cmpR op_ne (pe_ix (ixL_K (K := K) rfl) (pv 14) pe_int (fun _ _ => rfl)) (pv 11) (nomark _))) (fun _ _ _ _ _ => (pv 14)))
 (Evl.pss_cut (ps_if (pt_cmpR op_isNo (pe_ix (ixL_K (K := K) rfl) (pv 12) pe_int (fun _ _ => rfl)) pe_non (nomark _))
 (pss_one (ps_asg (pe_call (ok_l_fate T) (hr.mono (by decide)) rfl (T.glo 14) (T.kp_l_fate) (T.b_l_fate) .nil pass0 (pa_cons (pv 10) (pa_cons (pv 3) (pa_cons (pv 12) (pa_cons (pv 4) pa_nil))))) (pg_sub (pv 12) pe_int set_list)))
 pss_nil)
 (pss_one (ps_setLc (i := 5) (own := [("_law_row", 15)]) rfl sc_l_history.nd rfl rfl (sw_true rfl rfl rfl (by decide +kernel)) (pi_listK (K := K) rfl (pv 5)) (blkOk_by (N := n_l_history) (sc := defScope s_l_history) (own := [("_law_row", 15)]) (by decide +kernel)) (fun _ _ _ _ _ => (pg_name (i := 15) sc_l_history.nd rfl (Or.inl rfl))) (fun _ _ _ _ _ => pts_nil) (fun _ _ _ _ _ => (pe_call (ok_l_closed T) (hr.mono (by decide)) rfl (T.glo 15) (T.kp_l_closed) (T.b_l_closed) .nil pass0 (pa_cons (pv 15) (pa_cons (pv 12) (pa_cons (pv 6) pa_nil))))))))))
 (pss_cons (ps_asg (pe_op op_add (pe_ix (ixL_K (K := K) rfl) (pv 8) (pv 11) (fun _ _ => rfl)) pe_int) (pg_sub (pv 8) (pv 11) set_list))
 (pss_cons (ps_set (i := 13) sc_l_history.nd rfl (Or.inl rfl) (pe_call (ok_l_deal T) (hr.mono (by decide)) rfl (T.glo 16) (T.kp_l_deal) (T.b_l_deal) .nil pass0 (pa_cons (pv 10) (pa_cons (pv 1) (pa_cons (pv 3) pa_nil)))))
 (pss_cons (ps_expr (pe_bmK (K := K) rfl PySem.F.plainAttrs_list PySem.F.slot_list_append PySem.F.type_list_append mt_append (pv 7) (pa_cons (pe_lst (pa_cons (pv 11) (pa_cons (pe_ix (ixL_K (K := K) rfl) (pv 8) (pv 11) (fun _ _ => rfl)) (pa_cons (pv 13) (pa_cons pe_non pa_nil))))) pa_nil)))
 (pss_one (ps_expr (pe_bmK (K := K) rfl PySem.F.plainAttrs_list PySem.F.slot_list_append PySem.F.type_list_append mt_append (pv 5) (pa_cons (pe_tup (pa_cons (pv 11) (pa_cons (pe_ix (ixL_K (K := K) rfl) (pv 8) (pv 11) (fun _ _ => rfl)) (pa_cons (pv 13) (pa_cons (pv 6) (pa_cons pe_non (pa_cons pe_non pa_nil))))))) pa_nil))))))))
 (pss_cons (ps_set (i := 6) sc_l_history.nd rfl (Or.inr rfl) (pe_op op_add (pv 6) pe_int))
 (pss_one (ps_for PassesOwn.never rfl (pi_listK (K := K) rfl (pv 7)) (pg_name (i := 12) sc_l_history.nd rfl (Or.inr rfl))
 (pss_one (ps_if (PW.pt (pw_and (pt_cmpR op_isNo (pe_ix (ixL_K (K := K) rfl) (pv 12) pe_int (fun _ _ => rfl)) pe_non (nomark _)) (pw_and1 (pt_cmpR op_eq (pe_call (ok_l_take T) (hr.mono (by decide)) rfl (T.glo 1) (T.kp_l_take) (T.b_l_take) .nil pass0 (pa_cons (pv 10) (pa_cons pe_int pa_nil))) pe_int (nomark _)))))
 (pss_one (ps_asg (pe_call (ok_l_fate T) (hr.mono (by decide)) rfl (T.glo 14) (T.kp_l_fate) (T.b_l_fate) .nil pass0 (pa_cons (pv 10) (pa_cons (pv 3) (pa_cons (pv 12) (pa_cons (pv 4) pa_nil))))) (pg_sub (pv 12) pe_int set_list)))
 pss_nil)))))))))
 (pss_one (ps_ret (pe_lst (pa_cons (pv 5) (pa_cons (pv 4) pa_nil)))))))))))), ?_⟩
    walk_at "g"
    intro r hr0
    have s1 := Same.new (o := HO.dK []) hr0
    walk_at "g"
    refine ⟨Nat.zero_le _, fun ol hol => ?_⟩
    have s2 := Same.new (o := HO.lst []) hol
    walk_at "g"
    refine ⟨Nat.zero_le _, fun hl hhl => ?_⟩
    have s3 := Same.new (o := HO.lst []) hhl
    walk_at "g"
    refine ⟨Nat.zero_le _, fun cl hcl => ?_⟩
    have s4 := Same.new (o := HO.lst []) hcl
    walk_at "g"
    refine ⟨by show 4 ≤ sizeLine; decide, fun nl hnl => ?_⟩
    have s5 := Same.new (o := HO.lst [.int 0, .int 0, .int 0, .int 0]) hnl
    walk_at "g"
    refine ⟨n, rfl, by omega, by omega, ?_⟩
    have st0 : HSt K H (upd (upd (upd (upd (upd H r (.dK [])) ol (.lst [])) hl (.lst [])) cl (.lst [])) nl (.lst [.int 0, .int 0, .int 0, .int 0])) r ol hl cl nl [] [] [] [] [0, 0, 0, 0] 0 := by
      have e1 := s5 _ _ (s4 _ _ (s3 _ _ (s2 _ _ (upd_same : upd H r (.dK []) r = _))))
      have e2 := s5 _ _ (s4 _ _ (s3 _ _ (upd_same : upd (upd H r (.dK [])) ol (.lst []) ol = _)))
      have e3 := s5 _ _ (s4 _ _ (upd_same : upd (upd (upd H r (.dK [])) ol (.lst [])) hl (.lst []) hl = _))
      have e4 := s5 _ _ (upd_same : upd (upd (upd (upd H r (.dK [])) ol (.lst [])) hl (.lst [])) cl (.lst []) cl = _)
      refine ⟨s1.trans (s2.trans (s3.trans (s4.trans s5))), ?_, ?_, e1, ⟨_, e2, .nil⟩, ⟨_, e3, .nil⟩, upd_same, e4, by simp, HInv.start⟩
      · have a1 := ne_of_none (upd_same : upd H r (.dK []) r = _) hol
        have a2 := ne_of_none (s2 _ _ (upd_same : upd H r (.dK []) r = _)) hhl
        have a3 := ne_of_none (s3 _ _ (s2 _ _ (upd_same : upd H r (.dK []) r = _))) hcl
        have a4 := ne_of_none (s4 _ _ (s3 _ _ (s2 _ _ (upd_same : upd H r (.dK []) r = _)))) hnl
        have b2 := ne_of_none (upd_same : upd (upd H r (.dK [])) ol (.lst []) ol = _) hhl
        have b3 := ne_of_none (s3 _ _ (upd_same : upd (upd H r (.dK [])) ol (.lst []) ol = _)) hcl
        have b4 := ne_of_none (s4 _ _ (s3 _ _ (upd_same : upd (upd H r (.dK [])) ol (.lst []) ol = _))) hnl
        have d3 := ne_of_none (upd_same : upd (upd (upd H r (.dK [])) ol (.lst [])) hl (.lst []) hl = _) hcl
        have d4 := ne_of_none (s4 _ _ (upd_same : upd (upd (upd H r (.dK [])) ol (.lst [])) hl (.lst []) hl = _)) hnl
        have f4 := ne_of_none (upd_same : upd (upd (upd (upd H r (.dK [])) ol (.lst [])) hl (.lst [])) cl (.lst []) cl = _) hnl
        simp [a1, a2, a3, a4, b2, b3, b4, d3, d4, f4]
      · intro d hd
        simp only [List.map_nil, List.mem_cons, List.not_mem_nil, or_false] at hd
        rcases hd with e | e | e | e | e <;> rw [e]
        · exact hr0
        · exact fresh_back (S := []) (Same.ch s1) hol (by simp)
        · exact fresh_back (S := []) (Same.ch (s1.trans s2)) hhl (by simp)
        · exact fresh_back (S := []) (Same.ch (s1.trans (s2.trans s3))) hcl (by simp)
        · exact fresh_back (S := []) (Same.ch (s1.trans (s2.trans (s3.trans s4)))) hnl (by simp)
    refine for_range (lo := 0) (fun i σ' H' => ∃ (hl cl : Addr) (pk : List (Addr × Call)) (hs : List Rec) (os : List Ent) (kvs : Rws) (ns : List Int) (x9 x10 x11 x12 x13 x14 x15 : Option V), σ' = [some (.ref sa), some (.ref kl), some (.int n), some (.ref r), some (.ref ol), some (.ref hl), some (.int (i : Nat)), some (.ref cl), some (.ref nl), x9, x10, x11, x12, x13, x14, x15] ∧ HSt K H H' r ol hl cl nl pk hs os kvs ns (i : Nat)) ⟨hl, cl, [], [], [], [], [0, 0, 0, 0], none, none, none, none, none, none, none, rfl, st0⟩ ?_ ?_
    · clear st0 s1 s2 s3 s4 s5 hol hhl hcl hnl hl cl
      rintro i σ' H1 hi ⟨hl, cl, pk, hs, os, kvs, ns, x9, x10, x11, x12, x13, x14, x15, rfl, st⟩
      walk_at "g"
      refine w_number (hsc.same st.s) (by omega) fun b0 => ?_
      walk_at "g"
      refine ⟨by show 1 ≤ sizeLine; decide, fun bx hbx => ?_⟩
      have nb := st.fresh hbx
      have bn : H bx = none := fresh_back (S := []) (Same.ch st.s) hbx (by simp)
      have st1 := st.same (Same.new (o := HO.lst [.int b0]) hbx)
      walk_at "g"
      refine w_take ⟨_, upd_same⟩ (by decide) (by decide) fun c H2 c0 c1 ch2 b2 => ?_
      have st2 := st1.ch1 ch2 nb bn
      clear st1 ch2
      walk_at "g"
      refine w_cut (M := fun σ' H' => ∃ (hl cl : Addr) (pk : List (Addr × Call)) (hs : List Rec) (os : List Ent) (kvs : Rws) (ns : List Int) (x12 x13 x14 x15 : Option V), σ' = [some (.ref sa), some (.ref kl), some (.int n), some (.ref r), some (.ref ol), some (.ref hl), some (.int (i : Nat)), some (.ref cl), some (.ref nl), some (.int (0 + (i : Int))), some (.ref bx), some (.int c), x12, x13, x14, x15] ∧ HSt K H H' r ol hl cl nl pk hs os kvs ns ((i : Int) + 1) ∧ BoxAt H' bx ∧ bx ∉ r :: ol :: hl :: cl :: nl :: pk.map Prod.fst) ?_ ?_
      · walk_at "g"
        have lp := st2.lp
        refine lc_list_data (S := fun v (d : Addr × Call) => v = .ref d.1) (fun _ y b => y = b) (fun _ => true) (fun d => V.int d.2.c) (fun _ _ _ _ _ h => h) (SqL.of st2.c) (fun H' s' => SqL.of (s' _ _ st2.c)) (paired_map pk) (by rw [List.length_map]; omega) ?_ ?_
        · intro v d H' hd hv s' N Y _ hY
          subst hv
          obtain ⟨xv, fv, hp, _⟩ := (st2.k d hd).same s'
          walk_at "g"
          refine ⟨rfl, w_yes (iteT ?_)⟩
          walk_at "g"
          refine w_ixL (SqL.of hp) (v := .int d.2.c) rfl ?_
          exact hY rfl _ H' (fun _ _ z => z) rfl
        intro p1 H3 ys np1 s3 hy hp
        rw [List.filter_eq_self.mpr fun _ _ => rfl] at hp
        cases paired_eq hp
        have st3 := st2.same s3
        have b3 := b2.same s3
        have hy : H3 p1 = some (.lst ((pk.map fun d => d.2.c).map V.int)) := by rw [List.map_map]; exact hy
        walk_at "g"
        refine w_inF hy rfl (by rw [List.all_map]; exact List.all_eq_true.mpr fun _ _ => rfl) fun b hb => ?_
        have hb : b = true ↔ c ∈ pk.map fun d => d.2.c := by rw [hb]; exact inV_ints
        walk_at "g"
        refine ⟨fun h => ?_, fun h => ?_⟩
        · walk_at "g"
          refine lc_list_data (S := fun v (d : Addr × Call) => v = .ref d.1) (fun _ y (d : Addr × Call) => y = .ref d.1) (fun d => decide (d.2.c = c)) id (fun _ _ _ _ _ h => h) (SqL.of st3.c) (fun H' s' => SqL.of (s' _ _ st3.c)) (paired_map pk) (by rw [List.length_map]; omega) ?_ ?_
          · intro v d H' hd hv s' N Y hN hY
            subst hv
            obtain ⟨xv, fv, hp, _⟩ := (st3.k d hd).same s'
            walk_at "g"
            refine ⟨rfl, ?_⟩
            walk_at "g"
            refine w_ixL (SqL.of hp) (v := .int d.2.c) rfl ?_
            walk_at "g"
            by_cases e : d.2.c = c
            · rw [if_pos (decide_eq_true (by rw [e]))]
              walk_at "g"
              exact hY (decide_eq_true e) _ H' (fun _ _ z => z) rfl
            · rw [if_neg (by simpa using e)]
              exact hN (decide_eq_false e) _ (fun _ _ z => z)
          intro p2 H4 ys2 np2 s4 hy4 hp4
          rw [List.map_id] at hp4
          have e4 := paired_mapEq hp4
          subst e4
          have st4 := st3.same s4
          have b4 := b3.same s4
          obtain ⟨d0, rest, hf⟩ : ∃ d0 rest, pk.filter (fun d => decide (d.2.c = c)) = d0 :: rest := by
            cases z : pk.filter (fun d => decide (d.2.c = c)) with
            | cons d0 rest => exact ⟨d0, rest, rfl⟩
            | nil =>
              obtain ⟨d, hd, e⟩ := List.mem_map.mp (hb.mp h)
              have : d ∈ pk.filter (fun d => decide (d.2.c = c)) := List.mem_filter.mpr ⟨hd, decide_eq_true e⟩
              rw [z] at this
              cases this
          have md : d0 ∈ pk.filter (fun d => decide (d.2.c = c)) := by rw [hf]; exact List.mem_cons_self
          obtain ⟨m0, ec⟩ := List.mem_filter.mp md
          have ec := of_decide_eq_true ec
          obtain ⟨a0, k0⟩ := d0
          rw [hf] at hy4
          walk_at "g"
          refine w_ixL (v := .ref a0) (SqL.of hy4) atI_zero ?_
          walk_at "g"
          refine lc_list_data (S := fun v (d : Addr × Call) => v = .ref d.1) (fun _ y (d : Addr × Call) => y = .ref d.1) (fun d => decide (d.2.c ≠ c)) id (fun _ _ _ _ _ h => h) (SqL.of st4.c) (fun H' s' => SqL.of (s' _ _ st4.c)) (paired_map pk) (by rw [List.length_map]; omega) ?_ ?_
          · intro v d H' hd hv s' N Y hN hY
            subst hv
            obtain ⟨xv, fv, hp, _⟩ := (st4.k d hd).same s'
            walk_at "g"
            refine ⟨rfl, ?_⟩
            walk_at "g"
            refine w_ixL (SqL.of hp) (v := .int d.2.c) rfl ?_
            walk_at "g"
            by_cases e : d.2.c = c
            · rw [if_neg (by simp [e])]
              exact hN (by simp [e]) _ (fun _ _ z => z)
            · rw [if_pos (by simpa using e)]
              walk_at "g"
              exact hY (decide_eq_true e) _ H' (fun _ _ z => z) rfl
          intro p3 H5 ys3 np3 s5 hy5 hp5
          rw [List.map_id] at hp5
          have e5 := paired_mapEq hp5
          subst e5
          have st5 := st4.same s5
          have b5 := b4.same s5
          have n3 := st4.fresh np3
          have z3 : H p3 = none := fresh_back (S := []) (Same.ch st4.s) np3 (by simp)
          have nbx3 : p3 ≠ bx := fun z => by
            obtain ⟨_, e⟩ := b4
            rw [z, e] at np3
            cases np3
          obtain ⟨j, hj⟩ : ∃ j, pk[j]? = some (a0, k0) := by
            obtain ⟨j, hj, e⟩ := List.mem_iff_getElem.mp m0
            exact ⟨j, by rw [List.getElem?_eq_getElem hj, e]⟩
          obtain ⟨xv, fv, hp0, rx, rf⟩ := id (st5.k _ m0)
          have mk0 : k0 ∈ pk.map Prod.snd := List.mem_map.mpr ⟨_, m0, rfl⟩
          have hjs : (pk.map Prod.snd)[j]? = some k0 := by rw [List.getElem?_map, hj]; rfl
          have ma0 : a0 ∈ pk.map Prod.fst := List.mem_map.mpr ⟨_, m0, rfl⟩
          have e30 : p3 ≠ a0 := fun z => n3 (by simp only [List.mem_cons]; exact .inr (.inr (.inr (.inr (.inr (z ▸ ma0))))))
          walk_at "g"
          refine w_cut (M := fun σ' H' => ∃ (k' : Call) (a : PyData) (os : List Ent) (kvs : Rws) (pk' : List (Addr × Call)), σ' = [some (.ref sa), some (.ref kl), some (.int n), some (.ref r), some (.ref ol), some (.ref hl), some (.int (i : Nat)), some (.ref p3), some (.ref nl), some (.int (0 + (i : Int))), some (.ref bx), some (.int c), some (.ref a0), x13, x14, x15] ∧ k'.f = some a ∧ k'.c = c ∧ (a0, k') ∈ pk' ∧ pk'.map Prod.fst = pk.map Prod.fst ∧ pk'.filter (fun d => decide (d.2.c ≠ c)) = pk.filter (fun d => decide (d.2.c ≠ c)) ∧ HSt K H H' r ol hl cl nl pk' hs os kvs ns (i : Nat) ∧ BoxAt H' bx ∧ H' p3 = some (.lst ((pk.filter (fun d => decide (d.2.c ≠ c))).map fun d => V.ref d.1))) ?_ ?_
          · walk_at "g"
            refine w_ixL (SqL.of hp0) (v := fv) rfl ?_
            walk_at "g"
            have ec0 : k0.c = c := ec
            refine ⟨fun h => ?_, fun h => ?_⟩
            · have h : fv = .non := of_decide_eq_true h
              have fn : k0.f = none := by
                cases z : k0.f with
                | none => rfl
                | some a =>
                  obtain ⟨⟨w, ds, e, _⟩, _⟩ := (st5.i.cf k0 mk0).2 a z
                  subst e
                  have rf : Rp K H5 fv (.tuple (.str w :: ds)) := by
                    have rf : Rp K H5 fv (optD k0.f) := rf
                    rw [z] at rf
                    exact rf
                  obtain ⟨_, _, e2, _⟩ := rf.tupL
                  rw [h] at e2
                  cases e2
              walk_at "g"
              refine st5.callFate (by omega) hj nb bn b5 hp0 fn fun v H6 a os' kvs' hp6 st6 b6 ch6 => ?_
              walk_at "g"
              refine w_setL hp6 rfl ?_
              walk_at "g"
              refine ⟨{ k0 with f := some a }, a, os', kvs', _, rfl, rfl, ec0, List.mem_of_getElem? (by rw [List.getElem?_set_self (List.getElem?_eq_some_iff.mp hj).1]), ?_, filter_set hj (by simp [ec0]) (by simp [ec0]), st6, b6, ch6.2 _ _ hy5 ?_⟩
              · rw [List.map_set]
                refine List.ext_getElem? fun m => ?_
                rw [List.getElem?_set]
                split
                · rename_i e
                  subst e
                  rw [List.getElem?_map, hj]
                  simp [(List.getElem?_eq_some_iff.mp hj).1]
                · rfl
              · have n3' := n3
                simp only [List.mem_cons, not_or] at n3'
                simp [nbx3, n3'.1, n3'.2.1, e30]
            · have h : fv ≠ .non := of_decide_eq_false h
              obtain ⟨a, fa⟩ : ∃ a, k0.f = some a := by
                cases z : k0.f with
                | some a => exact ⟨a, rfl⟩
                | none =>
                  have rf : Rp K H5 fv (optD k0.f) := rf
                  rw [z] at rf
                  exact absurd rf.asNon h
              walk_at "g"
              exact ⟨k0, a, os, kvs, pk, rfl, fa, ec0, m0, rfl, rfl, st5, b5, hy5⟩
          · rintro _ H6 ⟨k', a, os, kvs, pk', rfl, kf, kc, mk', efst, efil, st6, b6, hy6⟩
            obtain ⟨hvs, hh, rh⟩ := id st6.h
            have lhv := rh.length
            rw [List.length_map] at lhv
            have fewh := (st6.i.gh (by omega)).few
            have ck := st6.k _ mk'
            walk_at "g"
            refine lc_list_data (S := fun v b => Rp K H6 v (Rec.d b)) (fun H y (b : Rec) => Rp K H y b.d) (fun _ => true) (closeR k'.nm (i : Nat) k'.f) (fun _ _ _ _ p h => h.to p) (SqL.of hh) (fun H' s' => SqL.of (s' _ _ hh)) (rps_paired rh) (by omega) ?_ ?_
            · intro v rc H' hr_ hv s' N Y _ hY
              walk_at "g"
              refine ⟨rfl, w_yes (iteT ?_)⟩
              walk_at "g"
              exact ⟨v, a0, rc, k', _, rfl, hv.same s', ck.same s', fun u H7 s7 ru => hY rfl u H7 s7 ru⟩
            intro p4 H7 ys4 np4 s7 hy7 hp7
            rw [List.filter_eq_self.mpr fun _ _ => rfl] at hp7
            have rt := paired_rps hp7
            have n4 := st6.fresh np4
            have z4 : H p4 = none := fresh_back (S := []) (Same.ch st6.s) np4 (by simp)
            walk_at "g"
            have n4' := n4
            have n3' := n3
            rw [efst] at n4'
            have inv := st6.i.close (List.mem_map.mpr ⟨_, mk', rfl⟩) kf
            have cs' : ((pk'.map Prod.snd).filter fun q => decide (q.c ≠ k'.c)) = (pk'.filter (fun d => decide (d.2.c ≠ c))).map Prod.snd := by
              rw [List.filter_map, kc]
              rfl
            rw [cs', ← kf] at inv
            have n43 : p4 ≠ p3 := fun z => by
              rw [z, hy6] at np4
              cases np4
            have st7 : HSt K H H7 r ol p4 p3 nl (pk'.filter (fun d => decide (d.2.c ≠ c))) (hs.map (closeR k'.nm (i : Nat) k'.f)) os kvs ns ((i : Int) + 1) :=
              st6.left s7 z3 z4 (by rw [efst]; exact n3) n4 n43 List.filter_sublist (by rw [efil]; exact s7 _ _ hy6) ⟨_, hy7, rt⟩ inv
            have nb' := nb
            simp only [List.mem_cons, not_or] at nb'
            refine ⟨p4, p3, _, _, os, kvs, ns, _, _, _, _, rfl, st7, b6.same s7, ?_⟩
            have nb4 : bx ≠ p4 := fun z => by
              obtain ⟨_, e⟩ := b6
              rw [z, np4] at e
              cases e
            simp only [List.mem_cons, not_or]
            refine ⟨nb'.1, nb'.2.1, nb4, Ne.symm nbx3, nb'.2.2.2.2.1, fun m => nb'.2.2.2.2.2 ?_⟩
            rw [← efst]
            exact (List.Sublist.map _ List.filter_sublist).subset m
        · have hcn : c ∉ (pk.map Prod.snd).map Call.c := fun m => by
            rw [List.map_map] at m
            rw [hb.mpr m] at h
            cases h
          have ln := st3.i.ln
          have nd := st3.nd
          have nb' := nb
          simp only [List.nodup_cons, List.mem_cons, not_or] at nd nb'
          obtain ⟨⟨r1, r2, r3, r4, r5⟩, ⟨o1, o2, o3, o4⟩, ⟨h1, h2, h3⟩, ⟨cc1, cc3⟩, nn1, pn⟩ := nd
          obtain ⟨a1, a2, a3, a4, a5, a6⟩ := nb'
          have av := atI_num ln c0 c1
          have av2 : atI ((ns.set c.toNat (num ns c + 1)).map V.int) c = some (.int (num ns c + 1)) := by
            have z := atI_num (ns := ns.set c.toNat (num ns c + 1)) (by rw [List.length_set]; exact ln) c0 c1
            rwa [num_set ln c0 c1 c0, if_pos rfl] at z
          obtain ⟨hvs, hh, rh⟩ := st3.h
          have lhv := rh.length
          rw [List.length_map] at lhv
          have fewh := (st3.i.gh (by omega)).few
          have rok := replay_ok st3.i.ok os
          rw [st3.i.rep] at rok
          have l2 := st3.i.lh
          have l3 := st3.i.lo
          walk_at "g"
          refine w_ixL (SqL.of st3.n) av ?_
          walk_at "g"
          refine w_setL (j := c.toNat) st3.n (by rw [List.length_map, ln]; unfold ixN; rw [if_pos c0, if_pos (by omega)]) ?_
          have hset : (ns.map V.int).set c.toNat (.int (num ns c + 1)) = (ns.set c.toNat (num ns c + 1)).map V.int := by rw [List.map_set]
          rw [hset]
          have c34 : Ch [nl] H3 (upd H3 nl (.lst ((ns.set c.toNat (num ns c + 1)).map V.int))) := Ch.upd st3.n rfl
          have hn4 : upd H3 nl (.lst ((ns.set c.toNat (num ns c + 1)).map V.int)) nl = some (.lst ((ns.set c.toNat (num ns c + 1)).map V.int)) := upd_same
          generalize upd H3 nl (.lst ((ns.set c.toNat (num ns c + 1)).map V.int)) = H4 at *
          have b4 : BoxAt H4 bx := let ⟨m, e⟩ := b3; ⟨m, c34.2 _ _ e (by simpa using a5)⟩
          have hr4 : H4 r = some (.dK kvs) := c34.2 _ _ st3.r (by simpa using r4)
          have ks4 : KsAt H4 kl ks := (hks.ch (S := []) (Same.ch st3.s) (by simp)).ch c34 (by simpa using ne_of_none hks.1 (st3.new nl (by simp)))
          walk_at "g"
          refine ⟨bx, kl, ks, r, kvs, rfl, b4, ks4, hr4, rok.1, fun xv x H5 xok _ _ _ c45 b5 rx => ?_⟩
          have rx : Rp K H5 xv x.d := rx
          have c35 : Ch [nl, bx] H3 H5 := (c34.mono (by simp)).trans (c45.mono (by simp))
          have hn5 : H5 nl = _ := c45.2 _ _ hn4 (by simpa using Ne.symm a5)
          have hc5 : H5 cl = _ := c35.2 _ _ st3.c (by simp [cc1, Ne.symm a4])
          have hh5 : H5 hl = _ := c35.2 _ _ hh (by simp [h2, Ne.symm a3])
          have ex5 : ∀ d ∈ r :: ol :: hl :: cl :: nl :: pk.map Prod.fst, ∃ o, H5 d = some o := fun d hd => by
            obtain ⟨o, e⟩ := st3.ex d hd
            by_cases z : d = nl
            · exact ⟨_, z ▸ hn5⟩
            · exact ⟨o, c35.2 _ _ e (by simp [z]; rintro rfl; exact nb hd)⟩
          walk_at "g"
          refine ⟨tyL hc5, ?_⟩
          walk_at "g"
          refine w_ixL (SqL.of hn5) av2 ?_
          walk_at "g"
          refine ⟨by show 4 ≤ sizeLine; decide, fun p hp => ?_⟩
          have np : p ∉ r :: ol :: hl :: cl :: nl :: pk.map Prod.fst := fun m => by
            obtain ⟨o, e⟩ := ex5 p m
            rw [hp] at e
            cases e
          have npb : p ≠ bx := fun z => by
            obtain ⟨_, e⟩ := b5
            rw [z, e] at hp
            cases hp
          have np' := np
          simp only [List.mem_cons, not_or] at np'
          obtain ⟨p1', p2', p3', p4', p5', p6'⟩ := np'
          have zp : H p = none := by
            refine fresh_back (S := [nl, bx]) (H' := H5) (by
              have z := (Same.ch st3.s : Ch [nl, bx] H H3).trans c35
              exact z) hp (by simp [p5', npb])
          have s6 := Same.new (o := HO.lst [.int c, .int (num ns c + 1), xv, .non]) hp
          walk_at "g"
          refine w_appR (s6 _ _ hc5) (sz_lt (by rw [List.length_map]; omega)) ?_
          have hc7 : ∀ o, upd (upd H5 p (.lst [.int c, .int (num ns c + 1), xv, .non])) cl o cl = some o := fun o => upd_same
          have c67 : Ch [cl] (upd H5 p (.lst [.int c, .int (num ns c + 1), xv, .non])) (upd (upd H5 p (.lst [.int c, .int (num ns c + 1), xv, .non])) cl (.lst ((pk.map fun d => V.ref d.1) ++ [.ref p]))) := Ch.upd (s6 _ _ hc5) rfl
          have hcc := hc7 (.lst ((pk.map fun d => V.ref d.1) ++ [.ref p]))
          have hp7 := c67.2 _ _ (upd_same : upd H5 p (.lst [.int c, .int (num ns c + 1), xv, .non]) p = _) (by simpa using p4')
          generalize upd (upd H5 p (.lst [.int c, .int (num ns c + 1), xv, .non])) cl (.lst ((pk.map fun d => V.ref d.1) ++ [.ref p])) = H7 at *
          have c57 : Ch [cl] H5 H7 := (Same.ch s6).trans c67
          have hh7 := c57.2 _ _ hh5 (by simpa using h1)
          have hn7 := c57.2 _ _ hn5 (by simpa using Ne.symm cc1)
          walk_at "g"
          refine ⟨tyL hh7, ?_⟩
          walk_at "g"
          refine w_ixL (SqL.of hn7) av2 ?_
          walk_at "g"
          refine ⟨by show 6 ≤ sizeLine; decide, fun t ht => ?_⟩
          have s8 := Same.new (o := HO.tup [.int c, .int (num ns c + 1), xv, .int (i : Nat), .non, .non]) ht
          have hh8 := s8 _ _ hh7
          walk_at "g"
          refine w_appR hh8 (sz_lt (by omega)) ?_
          have c89 := Ch.upd (o := .lst (hvs ++ [.ref t])) hh8 rfl
          have e9 : ∀ o, upd (upd H7 t (.tup [.int c, .int (num ns c + 1), xv, .int (i : Nat), .non, .non])) hl o hl = some o := fun o => upd_same
          have hh9 := e9 (.lst (hvs ++ [.ref t]))
          have ht9 := c89.px _ _ (upd_same : upd H7 t (.tup [.int c, .int (num ns c + 1), xv, .int (i : Nat), .non, .non]) t = _)
          generalize upd (upd H7 t (.tup [.int c, .int (num ns c + 1), xv, .int (i : Nat), .non, .non])) hl (.lst (hvs ++ [.ref t])) = H9 at *
          have c79 : Ch [hl] H7 H9 := (Same.ch s8).trans c89
          have c59 : Ch [cl, hl] H5 H9 := (c57.mono (by simp)).trans (c79.mono (by simp))
          have c39 : Ch [nl, bx, cl, hl] H3 H9 := (c35.mono (by intro z hz; simp at hz ⊢; rcases hz with e | e <;> simp [e])).trans (c59.mono (by intro z hz; simp at hz ⊢; rcases hz with e | e <;> simp [e]))
          have rx9 := rx.to c59.px
          walk_at "g"
          refine ⟨hl, cl, pk ++ [(p, ⟨c, num ns c + 1, x, none⟩)], hs ++ [⟨c, num ns c + 1, x, (i : Nat), none, none⟩], os, kvs, ns.set c.toNat (num ns c + 1), _, _, _, _, rfl, ⟨?_, ?_, ?_, ?_, ?_, ?_, ?_, ?_, ?_, ?_⟩, ?_, ?_⟩
          · intro q o e
            exact c39.2 _ _ (st3.s _ _ e) (by
              have z1 := ne_of_none e (st3.new nl (by simp))
              have z2 := ne_of_none e bn
              have z3 := ne_of_none e (st3.new cl (by simp))
              have z4 := ne_of_none e (st3.new hl (by simp))
              simp [z1, z2, z3, z4])
          · rw [List.map_append]
            show ((r :: ol :: hl :: cl :: nl :: pk.map Prod.fst) ++ [p]).Nodup
            refine List.nodup_append.mpr ⟨st3.nd, by simp, fun a ha b hb e => ?_⟩
            rw [List.mem_singleton.mp hb] at e
            exact np (e ▸ ha)
          · rw [List.map_append]
            show ∀ d ∈ (r :: ol :: hl :: cl :: nl :: pk.map Prod.fst) ++ [p], H d = none
            intro d hd
            rcases List.mem_append.mp hd with m | m
            · exact st3.new d m
            · rw [List.mem_singleton.mp m]; exact zp
          · exact c39.2 _ _ st3.r (by simp [r4, Ne.symm a1, r3, r2])
          · exact st3.o.ch c39 (by simp [o3, Ne.symm a2, o2, o1])
          · refine ⟨_, hh9, ?_⟩
            rw [List.map_append]
            exact (rh.to c39.px).append (Rps.p1 (.tup (.inl ht9) (.cons (.int _) (.cons (.int _) (.cons rx9 (.cons (.int _) (.cons .non (.cons .non .nil))))))))
          · exact c79.2 _ _ hn7 (by simpa using Ne.symm h2)
          · rw [List.map_append]
            exact c79.2 _ _ hcc (by simpa using Ne.symm h1)
          · intro d hd
            rcases List.mem_append.mp hd with m | m
            · have md : d.1 ∈ pk.map Prod.fst := List.mem_map.mpr ⟨d, m, rfl⟩
              refine (st3.k d m).ch c39 ?_
              simp only [List.mem_cons, List.not_mem_nil, or_false, not_or]
              exact ⟨fun e => nn1 (e ▸ md), fun e => a6 (e ▸ md), fun e => cc3 (e ▸ md), fun e => h3 (e ▸ md)⟩
            · rw [List.mem_singleton.mp m]
              exact ⟨xv, .non, c79.2 _ _ hp7 (by simpa using p3'), rx9, .non⟩
          · rw [List.map_append]
            exact st3.i.open_ c0 c1 hcn xok
          · obtain ⟨m, e⟩ := b5
            exact ⟨m, c59.2 _ _ e (by simp [a4, a3])⟩
          · rw [List.map_append]
            show bx ∉ (r :: ol :: hl :: cl :: nl :: pk.map Prod.fst) ++ [p]
            intro m
            rcases List.mem_append.mp m with m | m
            · exact nb m
            · exact npb (List.mem_singleton.mp m).symm
      · rintro _ H3 ⟨hl, cl, pk, hs, os, kvs, ns, x12, x13, x14, x15, rfl, st3, b3, nb3⟩
        walk_at "g"
        refine ⟨cl, rfl, ⟨_, SqL.of st3.c⟩, for_list (xs := pk.map fun d => V.ref d.1) (fun m σ' H' => ∃ (x12 : Option V) (pk' : List (Addr × Call)) (os : List Ent) (kvs : Rws), σ' = [some (.ref sa), some (.ref kl), some (.int n), some (.ref r), some (.ref ol), some (.ref hl), some (.int ((i : Nat) + 1)), some (.ref cl), some (.ref nl), some (.int (0 + (i : Int))), some (.ref bx), some (.int c), x12, x13, x14, x15] ∧ pk'.map Prod.fst = pk.map Prod.fst ∧ HSt K H H' r ol hl cl nl pk' hs os kvs ns ((i : Int) + 1) ∧ BoxAt H' bx) ⟨x12, pk, os, kvs, rfl, rfl, st3, b3⟩ (fun m σ' H' _ h => by
          obtain ⟨_, pk', _, _, _, e, s', _⟩ := h
          have e2 : (pk'.map fun d => V.ref d.1) = pk.map fun d => V.ref d.1 := by
            have z : ∀ l : List (Addr × Call), l.map (fun d => V.ref d.1) = (l.map Prod.fst).map V.ref := fun l => by rw [List.map_map]; rfl
            rw [z, z, e]
          exact e2 ▸ SqL.of s'.c) ?_ ?_⟩
        · rintro m v σ' H4 hv ⟨x12, pk', os, kvs, rfl, efst, st4, b4⟩
          have nb4 : bx ∉ r :: ol :: hl :: cl :: nl :: pk'.map Prod.fst := by rw [efst]; exact nb3
          obtain ⟨⟨a0, k0⟩, hj, e0⟩ : ∃ d, pk'[m]? = some d ∧ v = .ref d.1 := by
            rw [List.getElem?_map] at hv
            obtain ⟨d, h1, h2⟩ := Option.map_eq_some_iff.mp hv
            have z1 : (pk.map Prod.fst)[m]? = some d.1 := by rw [List.getElem?_map, h1]; rfl
            rw [← efst, List.getElem?_map] at z1
            obtain ⟨d', h3, h4⟩ := Option.map_eq_some_iff.mp z1
            exact ⟨d', h3, by rw [h4]; exact h2.symm⟩
          subst e0
          have m0 := List.mem_of_getElem? hj
          have mk0 : k0 ∈ pk'.map Prod.snd := List.mem_map.mpr ⟨_, m0, rfl⟩
          obtain ⟨xv, fv, hp0, rx, rf⟩ := id (st4.k _ m0)
          have lp4 := st4.lp
          walk_at "g"
          refine w_ixL (SqL.of hp0) (v := fv) rfl ?_
          walk_at "g"
          refine ⟨fun h => ?_, fun h => ?_⟩
          · have h : fv = .non := of_decide_eq_true h
            have fn : k0.f = none := by
              cases z : k0.f with
              | none => rfl
              | some a =>
                obtain ⟨⟨w, ds, e, _⟩, _⟩ := (st4.i.cf k0 mk0).2 a z
                subst e
                have rf : Rp K H4 fv (.tuple (.str w :: ds)) := by
                  have rf : Rp K H4 fv (optD k0.f) := rf
                  rw [z] at rf
                  exact rf
                obtain ⟨_, _, e2, _⟩ := rf.tupL
                rw [h] at e2
                cases e2
            walk_at "g"
            refine w_take b4 (by decide) (by decide) fun d H5 d0 d1 c5 b5 => ?_
            have st5 := st4.ch1 c5 nb4 bn
            have nb0 : a0 ≠ bx := fun z => nb4 (by simp only [List.mem_cons]; exact .inr (.inr (.inr (.inr (.inr (List.mem_map.mpr ⟨_, m0, z⟩))))))
            have hp5 := c5.2 _ _ hp0 (by simpa using nb0)
            walk_at "g"
            refine ⟨fun _ => ?_, fun _ => ?_⟩
            · walk_at "g"
              refine st5.callFate (by omega) hj nb4 bn b5 hp5 fn fun v H6 a os' kvs' hp6 st6 b6 ch6 => ?_
              walk_at "g"
              refine w_setL hp6 rfl ?_
              walk_at "g"
              refine ⟨_, _, os', kvs', rfl, ?_, st6, b6⟩
              rw [← efst, List.map_set]
              refine List.ext_getElem? fun q => ?_
              rw [List.getElem?_set]
              split
              · rename_i e
                subst e
                rw [List.getElem?_map, hj]
                simp [(List.getElem?_eq_some_iff.mp hj).1]
              · rfl
            · walk_at "g"
              exact ⟨_, pk', os, kvs, rfl, efst, st5, b5⟩
          · refine w_no rfl ?_
            walk_at "g"
            exact ⟨_, pk', os, kvs, rfl, efst, st4, b4⟩
        · rintro σ' H4 ⟨x12, pk', os, kvs, rfl, efst, st4, b4⟩
          exact ⟨hl, cl, pk', hs, os, kvs, ns, _, _, _, _, _, _, _, rfl, st4⟩
    · rintro σ' H1 ⟨hl, cl, pk, hs, os, kvs, ns, x9, x10, x11, x12, x13, x14, x15, rfl, st⟩
      walk_at "g"
      refine ⟨by show 2 ≤ sizeLine; decide, fun l hl_ => ?_⟩
      have s := Same.new (o := HO.lst [.ref hl, .ref ol]) hl_
      have st := st.same s
      exact q l hl ol hs os kvs _ ns _ _ st.s upd_same st.h st.o st.i (by omega)
--CUT
theorem two_shaped {as bs : List PyData} (h1 : ∀ d ∈ as, Shp 4 d) (h2 : ∀ d ∈ bs, Shp 4 d) : SeqAt.shaped (.list [.list as, .list bs]) = true := by
  have d1 := depthAll_le fun d hd => (h1 d hd).2
  have d2 := depthAll_le fun d hd => (h2 d hd).2
  have l1 := plnAll_lay as (PlnAll_iff.mpr fun d hd => (h1 d hd).1)
  have l2 := plnAll_lay bs (PlnAll_iff.mpr fun d hd => (h2 d hd).1)
  unfold SeqAt.shaped
  have z : PyData.canLay0 (.list [.list as, .list bs]) = true := by simp only [PyData.canLay0, PyData.canLayAll0, l1, l2, Bool.and_self]
  rw [z, decide_eq_true (by simp only [PyData.depth, PyData.depthAll]; omega)]
  rfl
theorem eqv_self {d : PyData} (h : SeqAt.shaped d = true) : PyData.eqv d d = true := SeqAt.eqv_refl d (SeqAt.canLay_of_shaped h)
theorem fD_shp {f : Flt} (h : ∀ w i, f = some (w, i) → PyData.strOk w = true) : Shp 60 (fD f) := by
  cases f with
  | none => exact .non
  | some p => exact .tup2 (n := 59) (.str (h p.1 p.2 rfl)) .int
theorem fault_word {hs : List Rec} {os : List Ent} {f : Flt} (F : Fault hs os f) : ∀ w i, f = some (w, i) → PyData.strOk w = true := by
  rintro w i rfl
  obtain ⟨f1, a1, F⟩ := F
  rcases F with ⟨n, e⟩ | ⟨_, f2, a2, F⟩
  · subst e
    rcases a1 with ⟨e, _⟩ | ⟨i', w', e, _, ⟨_, _, ⟨e2, _⟩ | ⟨e2, _⟩⟩, _⟩
    · cases e
    · cases e; rw [e2]; decide +kernel
    · cases e; rw [e2]; decide +kernel
  rcases F with ⟨n, e⟩ | ⟨_, f3, a3, F⟩
  · subst e
    rcases a2 with ⟨e, _⟩ | ⟨i', w', e, _, ⟨_, _, _, _, ⟨e2, _⟩ | ⟨e2, _⟩⟩, _⟩
    · cases e
    · cases e; rw [e2]; decide +kernel
    · cases e; rw [e2]; decide +kernel
  rcases F with ⟨n, e⟩ | ⟨_, a4⟩
  · subst e
    rcases a3 with ⟨e, _⟩ | ⟨i', w', e, _, ⟨e2, _⟩, _⟩
    · cases e
    · cases e; rw [e2]; decide +kernel
  rcases a4 with ⟨e, _⟩ | ⟨i', w', e, _, ⟨e2, _⟩, _⟩
  · cases e
  · cases e; rw [e2]; decide +kernel
theorem ok_law (T : Tx K mg) : FnOk P w K mg base CX0 9 (He.ga K "law") (fdOf K (He.ga K "law")) ["_law_script"] (spLaw K) := by
  refine T.f_law.ok sc_law
    (fun vs H Q E h => ?_) (fun cdv A outer s H vs Q E hr h => ?_)
  · obtain ⟨a, ns, rfl, _⟩ := h
    rfl
  · obtain ⟨a, sc, rfl, hs, hlen, q⟩ := h
    refine ⟨_, (pss_cons (ps_set (i := 1) sc_law.nd rfl (Or.inl rfl) (pe_lst (pa_cons (pe_call (ok_l_number T) (hr.mono (by decide)) rfl (T.glo 13) (T.kp_l_number) (T.b_l_number) .nil pass0 (pa_cons (pv 0) (pa_cons pe_int pa_nil))) pa_nil)))
 (pss_cons (ps_set (i := 2) sc_law.nd rfl (Or.inl rfl) (pe_call (ok_l_keys T) (hr.mono (by decide)) rfl (T.glo 45) (T.kp_l_keys) (T.b_l_keys) .nil pass0 (pa_cons (pv 1) pa_nil)))
 (pss_cons (ps_set (i := 3) sc_law.nd rfl (Or.inl rfl) (pe_call (ok_l_history T) (hr.mono (by decide)) rfl (T.glo 46) (T.kp_l_history) (T.b_l_history) .nil pass0 (pa_cons (pv 0) (pa_cons (pv 2) (pa_cons (pe_op op_add pe_int (pe_call (ok_l_take T) (hr.mono (by decide)) rfl (T.glo 1) (T.kp_l_take) (T.b_l_take) .nil pass0 (pa_cons (pv 1) (pa_cons pe_int pa_nil)))) pa_nil)))))
 (pss_cons (ps_set (i := 4) sc_law.nd rfl (Or.inl rfl) (pe_ix (ixL_K (K := K) rfl) (pv 3) pe_int (fun _ _ => rfl)))
 (pss_cons (ps_set (i := 5) sc_law.nd rfl (Or.inl rfl) (pe_ix (ixL_K (K := K) rfl) (pv 3) pe_int (fun _ _ => rfl)))
 (pss_cons (ps_if (PW.pt (pw_or (pt_cmpR op_noNo (pe_call (ok_fault_of T) (hr.mono (by decide)) rfl (T.glo 48) (T.kp_fault_of) (T.b_fault_of) .nil pass0 (pa_cons (pv 4) (pa_cons (pv 5) pa_nil))) pe_non (nomark _)) (pw_or1 (pt_cmpR op_noNo (pe_call (ok_l_fault T) (hr.mono (by decide)) rfl (T.glo 47) (T.kp_l_fault) (T.b_l_fault) .nil pass0 (pa_cons (pv 4) (pa_cons (pv 5) pa_nil))) pe_non (nomark _)))))
 (pss_one (ps_ret pe_bl))
 pss_nil)
 (pss_cons (ps_set (i := 6) sc_law.nd rfl (Or.inl rfl) pe_dnewK)
 (pss_cons (ps_for PassesOwn.never rfl (pi_listK (K := K) rfl (pv 5)) (pg_name (i := 7) sc_law.nd rfl (Or.inl rfl))
 (pss_one (ps_expr (pe_call (ok_l_do T) (hr.mono (by decide)) rfl (T.glo 12) (T.kp_l_do) (T.b_l_do) .nil pass0 (pa_cons (pv 6) (pa_cons (pe_ix (ixT_K (K := K) rfl) (pe_call (ok_l_record T) (hr.mono (by decide)) rfl (T.glo 41) (T.kp_l_record) (T.b_l_record) .nil pass0 (pa_cons (pv 4) (pa_cons (pe_slice (slT_K (K := K) rfl) (pv 7) po_none (po_some pe_int)) pa_nil))) pe_int (fun _ _ => rfl)) pa_nil))))))
 (pss_cons (ps_if (pt_cmpR (op_ne_dictA hr.units0) (pe_fldK (K := K) rfl (pe_call (ok_store_behind T) (hr.mono (by decide)) rfl (T.glo 49) (T.kp_store_behind) (T.b_store_behind) .nil pass0 (pa_cons (pv 4) (pa_cons (pv 5) pa_nil))) rfl) (pv 6) (nomark _))
 (pss_one (ps_ret pe_bl))
 pss_nil)
 (pss_cons (ps_set (i := 8) sc_law.nd rfl (Or.inl rfl) (pe_call (ok_l_changed T) (hr.mono (by decide)) rfl (T.glo 50) (T.kp_l_changed) (T.b_l_changed) .nil pass0 (pa_cons (pv 4) (pa_cons (pv 5) (pa_cons (pe_lst (pa_cons (pe_call (ok_l_number T) (hr.mono (by decide)) rfl (T.glo 13) (T.kp_l_number) (T.b_l_number) .nil pass0 (pa_cons (pv 0) (pa_cons pe_int pa_nil))) pa_nil)) pa_nil)))))
 (pss_cons (ps_set (i := 9) sc_law.nd rfl (Or.inl rfl) (pe_lst (pa_cons (pe_callTy (listS_K (K := K) rfl) (by rfl) (T.fre 51) (by decide +kernel) (pa_cons (pe_ix (ixL_K (K := K) rfl) (pv 8) pe_int (fun _ _ => rfl)) pa_nil)) (pa_cons (pe_callTy (listS_K (K := K) rfl) (by rfl) (T.fre 51) (by decide +kernel) (pa_cons (pe_ix (ixL_K (K := K) rfl) (pv 8) pe_int (fun _ _ => rfl)) pa_nil)) pa_nil))))
 (pss_cons (ps_set (i := 10) sc_law.nd rfl (Or.inl rfl) (pe_call (ok_fault_of T) (hr.mono (by decide)) rfl (T.glo 48) (T.kp_fault_of) (T.b_fault_of) .nil pass0 (pa_cons (pe_ix (ixL_K (K := K) rfl) (pv 9) pe_int (fun _ _ => rfl)) (pa_cons (pe_ix (ixL_K (K := K) rfl) (pv 9) pe_int (fun _ _ => rfl)) pa_nil))))
 (pss_one (ps_ret (pe_and (pe_cmpR (eqD_K (K := K) rfl hr.units) (pv 9) (pv 8) (nomark _)) (pe_and (pe_cmpR (eqD_K (K := K) rfl hr.units) (pv 10) (pe_call (ok_l_fault T) (hr.mono (by decide)) rfl (T.glo 47) (T.kp_l_fault) (T.b_l_fault) .nil pass0 (pa_cons (pe_ix (ixL_K (K := K) rfl) (pv 8) pe_int (fun _ _ => rfl)) (pa_cons (pe_ix (ixL_K (K := K) rfl) (pv 8) pe_int (fun _ _ => rfl)) pa_nil))) (nomark _)) (pe_one (pe_or (pe_cmpR op_isNo (pv 10) pe_non (nomark _)) (pe_one (pe_callB (isi_K (K := K) rfl) (by rfl) (T.fre 10) (by decide +kernel) (pa_cons (pv 10) (pa_cons (pe_bltn (v := .ty "tuple") (by rfl) (T.fre 8) (by decide +kernel) rfl) pa_nil)))))))))))))))))))))), ?_⟩
    walk_at "g"
    refine w_number hs (by decide) fun i0 => ?_
    walk_at "g"
    refine ⟨by show 1 ≤ sizeLine; decide, fun bx hbx => ?_⟩
    have s1 := Same.new (o := HO.lst [.int i0]) hbx
    have b1 : BoxAt (upd H bx (.lst [.int i0])) bx := ⟨_, upd_same⟩
    have hs1 := hs.same s1
    walk_at "g"
    refine ⟨bx, rfl, b1, fun kl ks H2 nkl c2 b2 hk => ?_⟩
    have hs2 : Scr K H2 a sc := c2.scr hs1 (by simp [upd_same])
    walk_at "g"
    refine w_take b2 (by decide) (by decide) fun n H3 n0 n1 c3 b3 => ?_
    have hs3 : Scr K H3 a sc := c3.scr hs2 (by
      obtain ⟨m, e⟩ := b2
      simp [e])
    have hk3 := hk.ch c3 (by simpa using hk.ne b2)
    walk_at "g"
    refine ⟨a, kl, sc, ks, 4 + n, rfl, hs3, hk3, by omega, by omega, fun l hl ol rs os kvs cs ns ev H4 s4 hl4 lh lo inv le => ?_⟩
    have gh := inv.gh (by omega)
    have go := inv.go (by omega)
    have hs4 := hs3.same s4
    walk_at "g"
    refine w_ixL (SqL.of hl4) (v := .ref hl) rfl ?_
    walk_at "g"
    refine w_ixL (SqL.of hl4) (v := .ref ol) rfl ?_
    walk_at "g"
    refine ⟨hl, ol, rs, os, rfl, lh, lo, gh, go, fun f v H5 s5 F rv => ?_⟩
    cases inv.fault F
    cases rv.asNon
    walk_at "g"
    refine w_no rfl ?_
    walk_at "g"
    have lh5 := lh.same s5
    have lo5 := lo.same s5
    refine ⟨hl, ol, rs, os, rfl, lh5, lo5, gh, go, fun f v H6 s6 F2 rv => ?_⟩
    cases inv.fault F2
    cases rv.asNon
    have kn := inv.kn
    walk_at "g"
    refine w_no rfl ?_
    walk_at "g"
    intro r hr0
    have s7 := Same.new (o := HO.dK []) hr0
    have s67 := s6.trans s7
    obtain ⟨ovs, ho, ro⟩ := lo5.same s67
    have lv := ro.length
    rw [List.length_map] at lv
    have few := go.few
    walk_at "g"
    refine ⟨ol, rfl, ⟨_, SqL.of ho⟩, for_list (xs := ovs) (fun i σ' H' => ∃ (x7 : Option V), σ' = [some (.ref a), some (.ref bx), some (.ref kl), some (.ref l), some (.ref hl), some (.ref ol), some (.ref r), x7, none, none, none] ∧ Same H6 H' ∧ H' ol = some (.lst ovs) ∧ H' r = some (.dK (replay rs (os.take i)))) ⟨none, rfl, s7, ho, upd_same⟩ (fun i σ' H' _ h => by
      obtain ⟨_, _, _, h, _⟩ := h
      exact SqL.of h) ?_ ?_⟩
    · rintro i v σ' H8 hv ⟨x7, rfl, s8, ho8, hr8⟩
      have sA : Same H5 H8 := s6.trans s8
      obtain ⟨e, he, hev⟩ := Paired.getL (rps_paired (LsAt.len (lo5.same sA) ho8).2) hv
      have me := List.mem_of_getElem? he
      obtain ⟨b, av, rfl, te, ra⟩ := ent_at hev
      obtain ⟨rc, hrc⟩ := kn e me
      have okr := gh.ok rc (recOf_mem hrc).1
      walk_at "g"
      refine w_sl2 te fun p hp => ?_
      have s9 := Same.new (o := HO.tup (nmV e.nm)) hp
      walk_at "g"
      refine ⟨hl, .ref p, rs, e.nm, rfl, (lh5.same sA).same s9, rp_nm upd_same, gh.few, fun u H10 s10 ru => ?_⟩
      have rv2 : Rp K H10 u rc.d := by
        rcases ru with ⟨z, _⟩ | ⟨r', z, h2⟩
        · rw [z] at hrc; cases hrc
        · rw [hrc] at z
          cases z
          exact h2
      have s910 := s9.trans s10
      obtain ⟨rb, xv, spv, rnv, rfl, tr, rx, _⟩ := rec_at rv2
      walk_at "g"
      refine w_ixP tr (y := xv) rfl ?_
      have okw := replay_ok gh.ok (os.take i)
      have lt : (os.take i).length ≤ 1000 := by rw [List.length_take]; omega
      refine ⟨r, _, xv, rc.x, rfl, s910 _ _ hr8, rx, okr.x, okw.1, by omega, fun H11 u c11 hr11 ru => ?_⟩
      walk_at "g"
      have nor : ol ≠ r := fun z => by
        rw [z, hr8] at ho8
        cases ho8
      refine ⟨_, rfl, fun q o hq => c11.2 _ _ (s910 _ _ (s8 _ _ hq)) (by simpa using ne_of_none hq hr0), c11.2 _ _ (s910 _ _ ho8) (by simpa using nor), ?_⟩
      rw [List.take_succ, he]
      rw [show replay rs (os.take i ++ (some e).toList) = _ from replay_snoc hrc]
      exact hr11
    · rintro σ' H8 ⟨x7, rfl, s8, ho8, hr8⟩
      rw [lv, List.take_length] at hr8
      have s58 := s6.trans s8
      have lh8 := lh5.same s58
      have lo8 := lo5.same s58
      walk_at "g"
      refine ⟨hl, ol, rs, os, rfl, lh8, lo8, gh, go, kn, fun p dx r2 H9 s9 hp9 hr9 => ?_⟩
      walk_at "g"
      refine ⟨p, _, dx, _, .ref r2, rfl, hp9, T.cls_Store, T.no_Store_rows, rfl, ?_⟩
      walk_at "g"
      have rok := (replay_ok gh.ok os).1
      refine ⟨r2, r, _, _, rfl, rfl, hr9, s9 _ _ hr8, rfl, rok.flat, ?_⟩
      walk_at "g"
      refine w_no rfl ?_
      walk_at "g"
      have hs9 : Scr K H9 a sc := hs4.same ((s5.trans s58).trans s9)
      refine w_number hs9 (by decide) fun i2 => ?_
      walk_at "g"
      refine ⟨by show 1 ≤ sizeLine; decide, fun bx2 hb2 => ?_⟩
      have sb := Same.new (o := HO.lst [.int i2]) hb2
      have lh9 := (lh8.same s9).same sb
      have lo9 := (lo8.same s9).same sb
      have nbh : bx2 ≠ hl := fun z => by
        obtain ⟨_, e⟩ := (lh8.same s9).ex
        rw [← z, hb2] at e
        cases e
      have nbo : bx2 ≠ ol := fun z => by
        obtain ⟨_, e⟩ := (lo8.same s9).ex
        rw [← z, hb2] at e
        cases e
      walk_at "g"
      refine ⟨hl, ol, bx2, rs, os, rfl, lh9, lo9, gh, go, by have := inv.lh; have := inv.lo; omega, ⟨_, upd_same⟩, nbh, nbo, fun l2 hl2 ol2 rs2 os2 H10 c10 hl10 lh10 lo10 gh2 go2 => ?_⟩
      obtain ⟨hvs, hh, rh⟩ := id lh10
      obtain ⟨ovs2, ho2, ro2⟩ := id lo10
      walk_at "g"
      refine w_ixL (SqL.of hl10) (v := .ref hl2) rfl ?_
      walk_at "g"
      refine w_listL (SqL.of hh) fun g1 hg1 => ?_
      have t1 := Same.new (o := HO.lst hvs) hg1
      walk_at "g"
      refine w_ixL (SqL.of (t1 _ _ hl10)) (v := .ref ol2) rfl ?_
      walk_at "g"
      refine w_listL (SqL.of (t1 _ _ ho2)) fun g2 hg2 => ?_
      have t2 := Same.new (o := HO.lst ovs2) hg2
      walk_at "g"
      refine ⟨by show 2 ≤ sizeLine; decide, fun gv hgv => ?_⟩
      have t3 := Same.new (o := HO.lst [.ref g1, .ref g2]) hgv
      have t12 := t1.trans t2
      have t13 := t12.trans t3
      have e1 := t3 _ _ (t2 _ _ (upd_same : upd H10 g1 (.lst hvs) g1 = _))
      have e2 := t3 _ _ (upd_same : upd (upd H10 g1 (.lst hvs)) g2 (.lst ovs2) g2 = _)
      have e3 : upd (upd (upd H10 g1 (.lst hvs)) g2 (.lst ovs2)) gv (.lst [.ref g1, .ref g2]) gv = some (.lst [.ref g1, .ref g2]) := upd_same
      generalize upd (upd (upd H10 g1 (.lst hvs)) g2 (.lst ovs2)) gv (.lst [.ref g1, .ref g2]) = H11 at *
      walk_at "g"
      refine w_ixL (SqL.of e3) (v := .ref g1) rfl ?_
      walk_at "g"
      refine w_ixL (SqL.of e3) (v := .ref g2) rfl ?_
      walk_at "g"
      refine ⟨g1, g2, rs2, os2, rfl, ⟨_, e1, rh.same t13⟩, ⟨_, e2, ro2.same t13⟩, gh2, go2, fun f v H12 s12 F rv => ?_⟩
      have tA := t13.trans s12
      walk_at "g"
      have sh : SeqAt.shaped (.list [.list (rs2.map Rec.d), .list (os2.map Ent.d)]) = true := two_shaped (fun d hd => by
        obtain ⟨r, hr, rfl⟩ := List.mem_map.mp hd
        exact Rec.shp (gh2.ok r hr)) fun d hd => by
        obtain ⟨e, he, rfl⟩ := List.mem_map.mp hd
        exact Ent.shp (go2.ok e he)
      refine ⟨.list [.list (rs2.map Rec.d), .list (os2.map Ent.d)], .list [.list (rs2.map Rec.d), .list (os2.map Ent.d)], .lst (SqL.of (s12 _ _ e3)) (.cons (.lst (SqL.of (s12 _ _ e1)) (rh.same tA).d) (.cons (.lst (SqL.of (s12 _ _ e2)) (ro2.same tA).d) .nil)),
        .lst (SqL.of (tA _ _ hl10)) (.cons (.lst (SqL.of (tA _ _ hh)) (rh.same tA).d) (.cons (.lst (SqL.of (tA _ _ ho2)) (ro2.same tA).d) .nil)), sh, sh, ?_⟩
      rw [eqv_self sh]
      refine ⟨_, rfl, fun _ => ?_, nofun⟩
      walk_at "g"
      refine w_ixL (SqL.of (tA _ _ hl10)) (v := .ref hl2) rfl ?_
      walk_at "g"
      refine w_ixL (SqL.of (tA _ _ hl10)) (v := .ref ol2) rfl ?_
      walk_at "g"
      refine ⟨hl2, ol2, rs2, os2, rfl, lh10.same tA, lo10.same tA, gh2, go2, fun f2 v2 H13 s13 F2 rv2 => ?_⟩
      cases F.uniq F2
      refine w_eqRp (rv.same s13) rv2 (fD_shp (fault_word F)) (fD_shp (fault_word F)) fun c hc => ?_
      obtain rfl : c = true := hc.mpr rfl
      refine ⟨_, rfl, fun _ => ?_, nofun⟩
      walk_at "g"
      refine ⟨fun _ => q _, fun hn => ?_⟩
      have hn := of_decide_eq_false hn
      walk_at "g"
      cases f with
      | none => exact absurd rv.asNon hn
      | some p =>
        obtain ⟨a', xs, e, t, _⟩ := (show Rp K H12 v (.tuple [.str p.1, .int p.2]) from rv).tupL
        subst e
        refine w_isi (tyxTup (t.mono (Same.px s13))) (b := true) (by decide +kernel) ?_
        exact q _
end
/-! ### the head -/
abbrev R : PySem.W.OpenRow := PySem.W.OpenLaw.row PySem.Challenge.rw_crosskeep_k80_orders_are_judged
abbrev hk : PySem.W.Hook := He.hookX 6 faL fnL [] [] exB
def ob (s : PySem.W.SharedT) : He.AlX := He.obsX 6 faL fnL [] [] exB (HandSHeadRun.getT s)
theorem ob_eq (s : PySem.W.SharedT) : ob s = hk.obs s.abs := He.obsX_eq (HandSHeadRun.getT_eq s)
theorem run (w : World) : HandSHeadRun.RunEq R (PySem.W.view R.prog [44]) hk ob 4000 ("_wall" :: "is_integer" :: "is_value" :: "apply_add" :: "apply_deed" :: "do_deal" :: "Store" :: "by_name" :: "name_fault" :: "answer_fault" :: "missing_fault" :: "time_fault" :: "fault_of" :: "store_behind" :: "_law_number" :: "_law_take" :: "_law_key" :: "_law_keys" :: "_law_value" :: "_law_maybe" :: "_law_deed" :: "_law_deal" :: "_law_done" :: "_law_do" :: "_law_names" :: "_law_history" :: "_law_closed" :: "_law_fate" :: "_law_record" :: "_law_names_fault" :: "_law_answers_fault" :: "_law_rest_fault" :: "_law_fault" :: "_law_changed" :: "_law_other" :: "VALUE_SIGNS" :: "MOST_VALUE" :: "DECIDED" :: [] : List PySem.Str) w := by
  intro os
  kernel_rfl
theorem facts {P : Program} {w : World} {K : PySem.W.Frag} {h : Heap} {mg : Str → Option Value} {f : Addr} (X : K.In h) (G : h.Ns mainGlobals mg) (hfa : mg ("law" : Str) = some (.ref f)) (c : He.SaysD faL fnL K) (m : exB K = true) :
    ∃ fd : FuncData, (∀ (s : Shared) (v : Value), BindsTo s fd ⟨[v], []⟩ [("_law_script", v)]) ∧ ∀ base : Heap, K.In base → base.Ns mainGlobals mg → FnOk P w K mg base CX0 9 f fd ["_law_script"] (spLaw K) := by
  have T : Tx K mg := ⟨c, m, h, X, G⟩
  have e := hfa.symm.trans (T.glo 52)
  cases e
  exact ⟨_, fun s v => T.bT_law s [v] rfl, fun base _ _ => ok_law T⟩
end K80
open PySem PySem.W PySem.Calls PyProof.Rows
set_option maxRecDepth 100000 in
set_option maxHeartbeats 0 in
theorem PySem.Challenge.cw_crosskeep_k80_orders_are_judged_holds : PySem.Challenge.rw_crosskeep_k80_orders_are_judged.Holds := by
  w_on; o_law
  refine HandSHeadRun.head_any (r := OpenLaw.row PySem.Challenge.rw_crosskeep_k80_orders_are_judged) (q := view (OpenLaw.row PySem.Challenge.rw_crosskeep_k80_orders_are_judged).prog [44]) (H := K80.hk) (ob := K80.ob) (M := 4000) (loose := ("_wall" :: "is_integer" :: "is_value" :: "apply_add" :: "apply_deed" :: "do_deal" :: "Store" :: "by_name" :: "name_fault" :: "answer_fault" :: "missing_fault" :: "time_fault" :: "fault_of" :: "store_behind" :: "_law_number" :: "_law_take" :: "_law_key" :: "_law_keys" :: "_law_value" :: "_law_maybe" :: "_law_deed" :: "_law_deal" :: "_law_done" :: "_law_do" :: "_law_names" :: "_law_history" :: "_law_closed" :: "_law_fate" :: "_law_record" :: "_law_names_fault" :: "_law_answers_fault" :: "_law_rest_fault" :: "_law_fault" :: "_law_changed" :: "_law_other" :: "VALUE_SIGNS" :: "MOST_VALUE" :: "DECIDED" :: [] : List PySem.Str)) (d := HandSHeadRun.topDef (OpenLaw.row PySem.Challenge.rw_crosskeep_k80_orders_are_judged).prog 44) (kwd := []) K80.ob_eq
    (by kernel_rfl) (fun s => by kernel_rfl) K80.run (by kernel_rfl) (by kernel_rfl) (by kernel_rfl) (by rfl) (by first | assumption | decide +kernel) (by decide +kernel) ⟨rfl, rfl, rfl, rfl, rfl, by decide +kernel⟩ ?hw ?hc
  case hw => w_witness2
  case hc =>
    refine L2.walk_ofE (l := PySem.Challenge.rw_crosskeep_k80_orders_are_judged) (n := 63) (k := 9) (x := "_law_script") (CX := L2.CX0) rfl (by decide) (by kernel_rfl) ⟨rfl, by decide, by decide⟩ ?F (fun _ _ _ _ z => z)
    intro w mg fa h Y G hmg0
    obtain ⟨K, KX, c⟩ := Y
    have hmg : mg ("law" : PySem.Str) = some (.ref fa) := by
      have e : (HandSHeadRun.topDef (OpenLaw.row PySem.Challenge.rw_crosskeep_k80_orders_are_judged).prog 44).name = ("law" : PySem.Str) := by kernel_rfl
      rw [← e]
      exact hmg0
    obtain ⟨fd, hb, hF⟩ := K80.facts (P := (PySem.Challenge.rw_crosskeep_k80_orders_are_judged).prog) (w := w) KX G hmg c.t.d c.more
    exact ⟨K, fd, Kt.spLaw K, KX, hb, fun H a ns hl ho hS => ⟨a, ns, rfl, Kt.scr_of ho hS, hl, fun _ => rfl⟩, hF⟩
#print axioms PySem.Challenge.cw_crosskeep_k80_orders_are_judged_holds

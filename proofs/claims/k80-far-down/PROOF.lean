import PyProof.Rows.All
import Wide.All
import OpenK.AllK
import Wide.FinOn
import HandS.ForMost
import HandS.Zip
import HandS.TupAny
import HandS.Deep
import HandS.Conv
import HandS.TupLen
import HandS.IsInst
import HandS.Style
import HandS.Nested
import HandS.NestedK
import HandS.EndTab
import PySem.Challenge.RW_boughbook_k80_whole_parted_far_down
import KE.KeyNested
import KE.KDictKeyed
import KE.KNestM
set_option Elab.async false
set_option linter.all false
set_option maxRecDepth 100000
set_option maxHeartbeats 4000000
/-! Data over the abstract heap, and readings told by data. -/
namespace K80
open PySem PySem.Spec L2
open PyProof.Rows hiding St

abbrev PD := PyData
theorem same_upd {H : Hp} {p : Addr} {o : HO} (h : H p = none) : Same H (upd H p o) := fun b x e => by
  rw [upd_ne (ne_of_none e h)]
  exact e
theorem same_upd2 {H H1 : Hp} {p : Addr} {o : HO} (s : Same H H1) (h : H p = none) : Same H (upd H1 p o) := fun b x e => by
  rw [upd_ne (ne_of_none e h)]
  exact s b x e
theorem same_rd {H H' : Hp} {a : Addr} {u : HO} (s : Same H H') (h : Rd H a u) : Rd H' a u := by
  rcases h with h | ⟨o, h⟩
  · exact .inl (s _ _ h)
  · exact .inr ⟨o, s _ _ h⟩
/-- tuples stay -/
def Tk (H H' : Hp) : Prop := ∀ a xs, Rd H a (.tup xs) → Rd H' a (.tup xs)
theorem Same.tt {H H' : Hp} (s : Same H H') : Tk H H' := fun _ _ h => same_rd s h
theorem Tk.refl (H : Hp) : Tk H H := fun _ _ h => h
theorem Tk.trans {H H1 H2 : Hp} (a : Tk H H1) (b : Tk H1 H2) : Tk H H2 := fun x xs h => b x xs (a x xs h)
/-- an object that is no tuple is written -/
theorem tt_upd {H : Hp} {p : Addr} {u o : HO} (h : H p = some u) (n1 : ∀ xs, u ≠ .tup xs) (n2 : ∀ ob xs, u ≠ .frz ob (.tup xs)) : Tk H (upd H p o) := fun a xs r => by
  rcases r with r | ⟨ob, r⟩
  · exact .inl (by rw [upd_ne (fun z => n1 xs (Option.some.inj (h.symm.trans (by rw [← z]; exact r))))]; exact r)
  · exact .inr ⟨ob, by rw [upd_ne (fun z => n2 ob xs (Option.some.inj (h.symm.trans (by rw [← z]; exact r))))]; exact r⟩
theorem tt_lst {H : Hp} {p : Addr} {xs : List V} {o : HO} (h : H p = some (.lst xs)) : Tk H (upd H p o) := tt_upd h (fun _ z => nomatch z) (fun _ _ z => nomatch z)
theorem tt_dT {H : Hp} {p : Addr} {xs : List (List Key × V)} {o : HO} (h : H p = some (.dT xs)) : Tk H (upd H p o) := tt_upd h (fun _ z => nomatch z) (fun _ _ z => nomatch z)
theorem Tk.sqt {K : PySem.W.Frag} {H H' : Hp} {a : Addr} {xs : List V} (t : Tk H H') (h : SqT K H a xs) : SqT K H' a xs := by
  rcases h with h | h
  · exact .inl (t _ _ h)
  · exact .inr h

mutual
/-- v stands for the datum d: None, bools, ints, texts, tuples of such -/
inductive Tp (K : PySem.W.Frag) (H : Hp) : V → PD → Prop
  | non : Tp K H .non .none
  | bl (b : Bool) : Tp K H (.bl b) (.bool b)
  | int (i : Int) : Tp K H (.int i) (.int i)
  | str (x : Str) : Tp K H (.str x) (.str x)
  | tup {a : Addr} {xs : List V} {ds : List PD} : SqT K H a xs → TpAll K H xs ds → Tp K H (.ref a) (.tuple ds)
inductive TpAll (K : PySem.W.Frag) (H : Hp) : List V → List PD → Prop
  | nil : TpAll K H [] []
  | cons {v : V} {vs : List V} {d : PD} {ds : List PD} : Tp K H v d → TpAll K H vs ds → TpAll K H (v :: vs) (d :: ds)
end
section
variable {K : PySem.W.Frag} {H H' : Hp}
mutual
theorem Tp.tt (t : Tk H H') : ∀ (d : PD) (v : V), Tp K H v d → Tp K H' v d
  | .none, _, h => by cases h; exact .non
  | .bool b, _, h => by cases h; exact .bl b
  | .int i, _, h => by cases h; exact .int i
  | .str x, _, h => by cases h; exact .str x
  | .list _, _, h => by cases h
  | .dict _, _, h => by cases h
  | .tuple ds, _, h => by
    cases h with
    | tup q r => exact .tup (t.sqt q) (TpAll.tt t ds _ r)
theorem TpAll.tt (t : Tk H H') : ∀ (ds : List PD) (vs : List V), TpAll K H vs ds → TpAll K H' vs ds
  | [], _, h => by cases h; exact .nil
  | d :: ds, _, h => by
    cases h with
    | cons q r => exact .cons (Tp.tt t d _ q) (TpAll.tt t ds _ r)
end
mutual
theorem Tp.dp : ∀ (d : PD) (v : V), Tp K H v d → Dp K H v d
  | .none, _, h => by cases h; exact .non
  | .bool b, _, h => by cases h; exact .bl b
  | .int i, _, h => by cases h; exact .int i
  | .str x, _, h => by cases h; exact .str x
  | .list _, _, h => by cases h
  | .dict _, _, h => by cases h
  | .tuple ds, _, h => by
    cases h with
    | tup q r => exact .tup q (TpAll.dp ds _ r)
theorem TpAll.dp : ∀ (ds : List PD) (vs : List V), TpAll K H vs ds → DpAll K H vs ds
  | [], _, h => by cases h; exact .nil
  | d :: ds, _, h => by
    cases h with
    | cons q r => exact .cons (Tp.dp d _ q) (TpAll.dp ds _ r)
end
theorem Tp.mv {d : PD} {v : V} (h : Tp K H v d) (t : Tk H H') : Tp K H' v d := Tp.tt t d v h
theorem TpAll.mv {ds : List PD} {vs : List V} (h : TpAll K H vs ds) (t : Tk H H') : TpAll K H' vs ds := TpAll.tt t ds vs h
theorem Tp.sm {d : PD} {v : V} (h : Tp K H v d) (t : Same H H') : Tp K H' v d := Tp.tt (Same.tt t) d v h
theorem TpAll.sm {ds : List PD} {vs : List V} (h : TpAll K H vs ds) (t : Same H H') : TpAll K H' vs ds := TpAll.tt (Same.tt t) ds vs h
theorem Tp.i {i : Int} {v : V} (h : Tp K H v (.int i)) : v = .int i := by cases h; rfl
theorem Tp.s {x : Str} {v : V} (h : Tp K H v (.str x)) : v = .str x := by cases h; rfl
theorem Tp.b {b : Bool} {v : V} (h : Tp K H v (.bool b)) : v = .bl b := by cases h; rfl
theorem Tp.n {v : V} (h : Tp K H v .none) : v = .non := by cases h; rfl
theorem Tp.t {ds : List PD} {v : V} (h : Tp K H v (.tuple ds)) : ∃ a xs, v = .ref a ∧ SqT K H a xs ∧ TpAll K H xs ds := by
  cases h with
  | tup q r => exact ⟨_, _, rfl, q, r⟩
theorem TpAll.length : ∀ {vs : List V} {ds : List PD}, TpAll K H vs ds → vs.length = ds.length
  | _, _, .nil => rfl
  | _, _, .cons _ r => by rw [List.length_cons, List.length_cons, TpAll.length r]
theorem TpAll.get : ∀ {vs : List V} {ds : List PD} {i : Nat} {d : PD}, TpAll K H vs ds → ds[i]? = some d → ∃ v, vs[i]? = some v ∧ Tp K H v d
  | _, _, _, _, .nil, e => by simp at e
  | _, _, 0, _, .cons q _, e => by
    simp at e; subst e; exact ⟨_, rfl, q⟩
  | _, _, i + 1, d, .cons _ r, e => by
    obtain ⟨v, h1, h2⟩ := TpAll.get (i := i) (d := d) r (by simpa using e)
    exact ⟨v, by simpa using h1, h2⟩
theorem TpAll.getV : ∀ {vs : List V} {ds : List PD} {i : Nat} {v : V}, TpAll K H vs ds → vs[i]? = some v → ∃ d, ds[i]? = some d ∧ Tp K H v d
  | _, _, _, _, .nil, e => by simp at e
  | _, _, 0, _, .cons q _, e => by
    simp at e; subst e; exact ⟨_, rfl, q⟩
  | _, _, i + 1, d, .cons _ r, e => by
    obtain ⟨v, h1, h2⟩ := TpAll.getV (i := i) (v := d) r (by simpa using e)
    exact ⟨v, by simpa using h1, h2⟩
theorem TpAll.app : ∀ {vs ws : List V} {ds es : List PD}, TpAll K H vs ds → TpAll K H ws es → TpAll K H (vs ++ ws) (ds ++ es)
  | _, _, _, _, .nil, s => s
  | _, _, _, _, .cons q r, s => .cons q (TpAll.app r s)
theorem TpAll.take : ∀ {vs : List V} {ds : List PD} (n : Nat), TpAll K H vs ds → TpAll K H (vs.take n) (ds.take n)
  | _, _, 0, _ => by simpa using TpAll.nil
  | _, _, n + 1, .nil => .nil
  | _, _, n + 1, .cons q r => .cons q (TpAll.take n r)
theorem TpAll.drop : ∀ {vs : List V} {ds : List PD} (n : Nat), TpAll K H vs ds → TpAll K H (vs.drop n) (ds.drop n)
  | _, _, 0, r => r
  | _, _, n + 1, .nil => .nil
  | _, _, n + 1, .cons _ r => TpAll.drop n r
theorem TpAll.set {v : V} {d : PD} (q : Tp K H v d) : ∀ {vs : List V} {ds : List PD} (n : Nat), TpAll K H vs ds → TpAll K H (vs.set n v) (ds.set n d)
  | _, _, _, .nil => .nil
  | _, _, 0, .cons _ r => .cons q r
  | _, _, n + 1, .cons p r => .cons p (TpAll.set q n r)
theorem TpAll.rev : ∀ {vs : List V} {ds : List PD}, TpAll K H vs ds → TpAll K H vs.reverse ds.reverse
  | _, _, .nil => .nil
  | _, _, .cons q r => by rw [List.reverse_cons, List.reverse_cons]; exact TpAll.app (TpAll.rev r) (.cons q .nil)
theorem TpAll.nil' {ds : List PD} (h : TpAll K H [] ds) : ds = [] := by cases h; rfl
theorem tpAll_ints {vs : List V} {ns : List Int} (h : TpAll K H vs (ns.map PyData.int)) : vs = ns.map V.int := by
  induction ns generalizing vs with
  | nil => cases h; rfl
  | cons n ns ih =>
    cases h with
    | cons q r => rw [q.i, ih r]; rfl
theorem ints_tpAll {ns : List Int} : TpAll K H (ns.map V.int) (ns.map PyData.int) := by
  induction ns with
  | nil => exact .nil
  | cons n ns ih => exact .cons (.int n) ih
theorem atI_map {α β : Type} {xs : List α} {ys : List β} {i : Int} {y : β} {R : α → β → Prop} (hl : xs.length = ys.length) (hg : ∀ (j : Nat) (y : β), ys[j]? = some y → ∃ x : α, xs[j]? = some x ∧ R x y) (h : atI ys i = some y) : ∃ x, atI xs i = some x ∧ R x y := by
  unfold atI at h ⊢
  rw [hl]
  cases e : ixN ys.length i with
  | none => rw [e] at h; cases h
  | some j =>
    rw [e] at h
    obtain ⟨x, h1, h2⟩ := hg j y h
    exact ⟨x, h1, h2⟩
theorem TpAll.at {vs : List V} {ds : List PD} {i : Int} {d : PD} (h : TpAll K H vs ds) (e : atI ds i = some d) : ∃ v, atI vs i = some v ∧ Tp K H v d :=
  atI_map (R := fun v d => Tp K H v d) h.length (fun _ _ q => h.get q) e
/-- the same indices for lists of one length -/
def cutD (ds : List PD) (lo hi : Option Int) : List PD := (ds.drop (HT.sIx ds.length 0 lo)).take (HT.sIx ds.length ds.length hi - HT.sIx ds.length 0 lo)
theorem TpAll.cut {vs : List V} {ds : List PD} {lo hi : Option Int} (h : TpAll K H vs ds) : TpAll K H (cutV vs lo hi) (cutD ds lo hi) := by
  unfold cutV cutD
  rw [h.length]
  exact (h.drop _).take _
theorem cutD_tail (d : PD) (ds : List PD) : cutD (d :: ds) (some 1) none = ds := by
  unfold cutD
  rw [show HT.sIx (d :: ds).length 0 (some 1) = min 1 (d :: ds).length from HT.sIx_nat (d :: ds).length 0 1, HT.sIx_none]
  have e : min 1 (d :: ds).length = 1 := by rw [List.length_cons]; omega
  rw [e]
  show List.take ((d :: ds).length - 1) ds = ds
  rw [List.length_cons, Nat.add_sub_cancel]
  exact List.take_length
end

/-! ### slots -/
/-- what is known of a slot: nothing; a datum; a list of data as it stands; the value itself -/
inductive Sl where
  | no | d (x : PD) | l (ds : List PD) | v (x : V) | x (φ : V → Hp → Prop)
section
variable (K : PySem.W.Frag) (H : Hp)
def SlAt : Option V → Sl → Prop
  | _, .no => True
  | o, .d x => ∃ v, o = some v ∧ Tp K H v x
  | o, .l ds => ∃ a xs, o = some (.ref a) ∧ H a = some (.lst xs) ∧ TpAll K H xs ds
  | o, .v x => o = some x
  | o, .x φ => ∃ v, o = some v ∧ ∀ H', Same H H' → φ v H'
def SD : St → List Sl → Prop
  | [], [] => True
  | o :: σ, s :: δ => SlAt K H o s ∧ SD σ δ
  | _, _ => False
def SlAll : List V → List Sl → Prop
  | [], [] => True
  | v :: vs, s :: ss => SlAt K H (some v) s ∧ SlAll vs ss
  | _, _ => False
end
section
variable {K : PySem.W.Frag} {H H' : Hp}
theorem SlAt.sm {o : Option V} {s : Sl} (h : SlAt K H o s) (t : Same H H') : SlAt K H' o s := by
  cases s with
  | no => trivial
  | d x => obtain ⟨v, e, q⟩ := h; exact ⟨v, e, q.sm t⟩
  | l ds => obtain ⟨a, xs, e, q, r⟩ := h; exact ⟨a, xs, e, t _ _ q, r.sm t⟩
  | v x => exact h
  | x φ => obtain ⟨v, e, q⟩ := h; exact ⟨v, e, fun H2 s2 => q H2 (t.trans s2)⟩
theorem SD.sm : ∀ {σ : St} {δ : List Sl}, SD K H σ δ → Same H H' → SD K H' σ δ
  | [], [], _, _ => trivial
  | o :: σ, s :: δ, h, t => ⟨h.1.sm t, SD.sm h.2 t⟩
  | [], _ :: _, h, _ => h
  | _ :: _, [], h, _ => h
theorem SlAll.sm : ∀ {vs : List V} {ss : List Sl}, SlAll K H vs ss → Same H H' → SlAll K H' vs ss
  | [], [], _, _ => trivial
  | o :: σ, s :: δ, h, t => ⟨h.1.sm t, SlAll.sm h.2 t⟩
  | [], _ :: _, h, _ => h
  | _ :: _, [], h, _ => h
/-- no list among what is known -/
def noL : List Sl → Bool
  | [] => true
  | .l _ :: _ => false
  | .x _ :: _ => false
  | .no :: δ => noL δ
  | .d _ :: δ => noL δ
  | .v _ :: δ => noL δ
def noX : List Sl → Bool
  | [] => true
  | .x _ :: _ => false
  | .l _ :: δ => noX δ
  | .no :: δ => noX δ
  | .d _ :: δ => noX δ
  | .v _ :: δ => noX δ
theorem SD.tt : ∀ {σ : St} {δ : List Sl}, SD K H σ δ → Tk H H' → noL δ = true → SD K H' σ δ
  | [], [], _, _, _ => trivial
  | o :: σ, .no :: δ, h, t, n => ⟨trivial, SD.tt h.2 t n⟩
  | o :: σ, .d x :: δ, h, t, n => ⟨by obtain ⟨v, e, q⟩ := h.1; exact ⟨v, e, q.mv t⟩, SD.tt h.2 t n⟩
  | o :: σ, .v x :: δ, h, t, n => ⟨h.1, SD.tt h.2 t n⟩
  | o :: σ, .l x :: δ, h, t, n => by cases n
  | o :: σ, .x x :: δ, h, t, n => by cases n
  | [], _ :: _, h, _, _ => h
  | _ :: _, [], h, _, _ => h
/-- a list is written; the lists known stand elsewhere -/
theorem SD.wr {p : Addr} {o : HO} : ∀ {σ : St} {δ : List Sl}, SD K H σ δ → Tk H (upd H p o) → (∀ (i : Nat) ds a, δ[i]? = some (.l ds) → σ[i]? = some (some (.ref a)) → a ≠ p) → noX δ = true → SD K (upd H p o) σ δ
  | [], [], _, _, _, _ => trivial
  | o :: σ, s :: δ, h, t, n, nx => ⟨(by
      cases s with
      | no => trivial
      | d x => obtain ⟨v, e, q⟩ := h.1; exact ⟨v, e, q.mv t⟩
      | l ds => obtain ⟨a, xs, e, q, r⟩ := h.1; exact ⟨a, xs, e, by rw [upd_ne (n 0 ds a rfl (by rw [e]; rfl))]; exact q, r.mv t⟩
      | v x => exact h.1
      | x φ => exact Bool.noConfusion nx), SD.wr h.2 t (fun i ds a e1 e2 => n (i + 1) ds a e1 e2) (by cases s <;> first | exact nx | cases nx)⟩
  | [], _ :: _, h, _, _, _ => h
  | _ :: _, [], h, _, _, _ => h
theorem SD.get : ∀ {σ : St} {δ : List Sl} {i : Nat} {s : Sl}, SD K H σ δ → δ[i]? = some s → ∃ o, σ[i]? = some o ∧ SlAt K H o s
  | [], [], _, _, _, e => by simp at e
  | o :: σ, s :: δ, 0, _, h, e => by simp at e; subst e; exact ⟨o, rfl, h.1⟩
  | o :: σ, s :: δ, i + 1, _, h, e => SD.get (i := i) h.2 (by simpa using e)
  | [], _ :: _, _, _, h, _ => h.elim
  | _ :: _, [], _, _, h, _ => h.elim
theorem SD.set {v : V} {s : Sl} (q : SlAt K H (some v) s) : ∀ {σ : St} {δ : List Sl} (i : Nat), SD K H σ δ → SD K H (σ.set i (some v)) (δ.set i s)
  | [], [], _, _ => trivial
  | o :: σ, u :: δ, 0, h => ⟨q, h.2⟩
  | o :: σ, u :: δ, i + 1, h => ⟨h.1, SD.set q i h.2⟩
  | [], _ :: _, _, h => h.elim
  | _ :: _, [], _, h => h.elim
theorem SD.forget : ∀ {σ : St} {δ : List Sl} (i : Nat) (o : Option V), SD K H σ δ → SD K H (σ.set i o) (δ.set i .no)
  | [], [], _, _, _ => trivial
  | o :: σ, u :: δ, 0, _, h => ⟨trivial, h.2⟩
  | o :: σ, u :: δ, i + 1, o', h => ⟨h.1, SD.forget i o' h.2⟩
  | [], _ :: _, _, _, h => h.elim
  | _ :: _, [], _, _, h => h.elim
def wipeS (δ : List Sl) : List Nat → List Sl
  | [] => δ
  | v :: vs => (wipeS δ vs).set v .no
theorem SD.wipe {σ : St} {δ : List Sl} (h : SD K H σ δ) : ∀ vs : List Nat, SD K H (L2.wipe σ vs) (wipeS δ vs)
  | [] => h
  | v :: vs => SD.forget v none (SD.wipe h vs)
theorem SlAll.length : ∀ {vs : List V} {ss : List Sl}, SlAll K H vs ss → vs.length = ss.length
  | [], [], _ => rfl
  | _ :: _, _ :: _, h => by rw [List.length_cons, List.length_cons, SlAll.length h.2]
  | [], _ :: _, h => h.elim
  | _ :: _, [], h => h.elim
theorem sd_start : ∀ {vs : List V} {ss : List Sl} (n : Nat), SlAll K H vs ss → SD K H (vs.map some ++ List.replicate n none) (ss ++ List.replicate n .no)
  | [], [], 0, _ => trivial
  | [], [], n + 1, _ => ⟨trivial, sd_start (vs := []) (ss := []) n trivial⟩
  | _ :: _, _ :: _, n, h => ⟨h.1, sd_start n h.2⟩
  | [], _ :: _, _, h => h.elim
  | _ :: _, [], _, h => h.elim
end
end K80

/-! Readings told by data: expressions, tests, arguments, targets, statements. -/
namespace K80
open PySem PySem.Spec L2
open PyProof.Rows hiding St

abbrev Sls := List Sl
/-- an expression comes to s; a test to b; arguments to ss; a slice's part to o; a target turns δ into δ' (and stores at js alone) -/
def Ee (K : PySem.W.Frag) (te : TE) (δ : Sls) (s : Sl) : Prop := ∀ σ H (Q : VK), SD K H σ δ → (∀ v H', Same H H' → SlAt K H' (some v) s → Q v H') → te σ H Q
def Et (K : PySem.W.Frag) (tt : TT) (δ : Sls) (b : Bool) : Prop := ∀ σ H (Q : Bool → Hp → Prop), SD K H σ δ → (∀ H', Same H H' → Q b H') → tt σ H Q
def Ea (K : PySem.W.Frag) (ta : TA) (δ : Sls) (ss : Sls) : Prop := ∀ σ H (Q : List V → Hp → Prop), SD K H σ δ → (∀ vs H', Same H H' → SlAll K H' vs ss → Q vs H') → ta σ H Q
def Eo (K : PySem.W.Frag) (to : TO) (δ : Sls) (o : Option Int) : Prop := ∀ σ H (Q : Option Int → Hp → Prop), SD K H σ δ → (∀ H', Same H H' → Q o H') → to σ H Q
def Eg (K : PySem.W.Frag) (g : TG) (js : List Nat) (s : Sl) (δ δ' : Sls) : Prop := ∀ σ H v (Q : L2.St → Hp → Prop), SD K H σ δ → SlAt K H (some v) s →
  (∀ σ', SD K H σ' δ' → (∀ vs : List Nat, (∀ j ∈ js, j ∈ vs) → wipe σ' vs = wipe σ vs) → Q σ' H) → g v σ H Q
def Egs (K : PySem.W.Frag) (g : TGs) (js : List Nat) (ss : Sls) (δ δ' : Sls) : Prop := ∀ σ H vs (Q : L2.St → Hp → Prop), SD K H σ δ → SlAll K H vs ss →
  (∀ σ', SD K H σ' δ' → (∀ vs : List Nat, (∀ j ∈ js, j ∈ vs) → wipe σ' vs = wipe σ vs) → Q σ' H) → g vs σ H Q

theorem sz5 {n : Nat} (h : n ≤ 100000) : n ≤ sizeLine := Nat.le_trans h (by decide)
theorem sz5' {n : Nat} (h : n < 100000) : n < sizeLine := Nat.lt_of_lt_of_le h (by decide)
section
variable {K : PySem.W.Frag} {δ : Sls} {s : Sl} {ta tb te : TE}
theorem e_vd {i : Nat} {d : PD} (h : δ[i]? = some (.d d)) : Ee K (tVar i) δ (.d d) := fun σ H Q sd q => by
  obtain ⟨o, h1, v, rfl, h2⟩ := sd.get h
  exact ⟨v, h1, q v H (Same.refl H) ⟨v, rfl, h2⟩⟩
theorem e_vl {i : Nat} {ds : List PD} (h : δ[i]? = some (.l ds)) : Ee K (tVar i) δ (.l ds) := fun σ H Q sd q => by
  obtain ⟨o, h1, a, xs, rfl, h2⟩ := sd.get h
  exact ⟨_, h1, q _ H (Same.refl H) ⟨a, xs, rfl, h2⟩⟩
theorem e_vv {i : Nat} {v : V} (h : δ[i]? = some (.v v)) : Ee K (tVar i) δ (.v v) := fun σ H Q sd q => by
  obtain ⟨o, h1, h2⟩ := sd.get h
  cases (show o = some v from h2)
  exact ⟨_, h1, q _ H (Same.refl H) rfl⟩
theorem e_c {v : V} {d : PD} (h : ∀ H, Tp K H v d) : Ee K (tC v) δ (.d d) := fun σ H Q sd q => q v H (Same.refl H) ⟨v, rfl, h H⟩
theorem e_ci {i : Int} : Ee K (tC (.int i)) δ (.d (.int i)) := e_c fun _ => .int i
theorem e_cs {x : Str} : Ee K (tC (.str x)) δ (.d (.str x)) := e_c fun _ => .str x
theorem e_cb {b : Bool} : Ee K (tC (.bl b)) δ (.d (.bool b)) := e_c fun _ => .bl b
theorem e_cn : Ee K (tC .non) δ (.d .none) := e_c fun _ => .non
theorem e_cv {v : V} : Ee K (tC v) δ (.v v) := fun σ H Q sd q => q v H (Same.refl H) rfl
theorem e_vx {i : Nat} {φ : V → Hp → Prop} (h : δ[i]? = some (.x φ)) : Ee K (tVar i) δ (.x φ) := fun σ H Q sd q => by
  obtain ⟨o, h1, v, e, h2⟩ := sd.get h
  subst e
  exact ⟨v, h1, q v H (Same.refl H) ⟨v, rfl, h2⟩⟩
/-- a datum that is a scalar is known as a value -/
theorem Ee.toI {i : Int} (h : Ee K te δ (.d (.int i))) : Ee K te δ (.v (.int i)) := fun σ H Q sd q => h σ H Q sd fun v H' sm ⟨w, e, t⟩ => q v H' sm (by cases e; rw [t.i]; rfl)
theorem Ee.to {s s' : Sl} (h : Ee K te δ s) (e : s = s') : Ee K te δ s' := e ▸ h
theorem e_ixTa {ds : List PD} {i : Int} {d : PD} (ha : Ee K ta δ (.d (.tuple ds))) (hb : Ee K tb δ (.d (.int i))) (hi : atI ds i = some d) : Ee K (tOp (rIxT K) ta tb) δ (.d d) := fun σ H Q sd q => by
  refine ha σ H _ sd fun v H1 s1 ⟨w, e1, t1⟩ => ?_
  cases e1
  refine hb σ H1 _ (sd.sm s1) fun u H2 s2 ⟨w2, e2, t2⟩ => ?_
  cases e2
  obtain ⟨a, xs, rfl, h1, h2⟩ := (t1.sm s2).t
  obtain ⟨y, h3, h4⟩ := h2.at hi
  exact ⟨a, xs, i, y, rfl, t2.i, h1, h3, q y H2 (s1.trans s2) ⟨y, rfl, h4⟩⟩
theorem e_ixLa {ds : List PD} {i : Int} {d : PD} (ha : Ee K ta δ (.l ds)) (hb : Ee K tb δ (.d (.int i))) (hi : atI ds i = some d) : Ee K (tOp (rIxL K) ta tb) δ (.d d) := fun σ H Q sd q => by
  refine ha σ H _ sd fun v H1 s1 ⟨a, xs, e1, h1, t1⟩ => ?_
  cases e1
  refine hb σ H1 _ (sd.sm s1) fun u H2 s2 ⟨w2, e2, t2⟩ => ?_
  cases e2
  obtain ⟨y, h3, h4⟩ := (t1.sm s2).at hi
  exact ⟨a, xs, i, y, rfl, t2.i, SqL.of (s2 _ _ h1), h3, q y H2 (s1.trans s2) ⟨y, rfl, h4⟩⟩
theorem atI_nn {α : Type} {xs : List α} {i : Int} {x : α} (h0 : 0 ≤ i) (h : xs[i.toNat]? = some x) : atI xs i = some x := by
  have e : i = ((i.toNat : Nat) : Int) := by omega
  rw [e]
  exact atI_nat h
theorem e_ixT {ds : List PD} {i : Int} {d : PD} (ha : Ee K ta δ (.d (.tuple ds))) (hb : Ee K tb δ (.d (.int i))) (h0 : 0 ≤ i) (hi : ds[i.toNat]? = some d) : Ee K (tOp (rIxT K) ta tb) δ (.d d) := e_ixTa ha hb (atI_nn h0 hi)
theorem e_ixL {ds : List PD} {i : Int} {d : PD} (ha : Ee K ta δ (.l ds)) (hb : Ee K tb δ (.d (.int i))) (h0 : 0 ≤ i) (hi : ds[i.toNat]? = some d) : Ee K (tOp (rIxL K) ta tb) δ (.d d) := e_ixLa ha hb (atI_nn h0 hi)
/-- two scalars in, by their values -/
theorem e_op2 {r : R2} {d1 d2 : PD} {s : Sl} (ha : Ee K ta δ (.d d1)) (hb : Ee K tb δ (.d d2)) (hr : ∀ x y H (Q : VK), Tp K H x d1 → Tp K H y d2 → (∀ v H', Same H H' → SlAt K H' (some v) s → Q v H') → r x y H Q) : Ee K (tOp r ta tb) δ s := fun σ H Q sd q => by
  refine ha σ H _ sd fun v H1 s1 ⟨w, e1, t1⟩ => ?_
  cases e1
  refine hb σ H1 _ (sd.sm s1) fun u H2 s2 ⟨w2, e2, t2⟩ => ?_
  cases e2
  exact hr _ _ H2 Q (t1.sm s2) t2 fun v H' s3 h => q v H' ((s1.trans s2).trans s3) h
theorem e_eqS {x y : Str} (ha : Ee K ta δ (.d (.str x))) (hb : Ee K tb δ (.d (.str y))) : Ee K (tOp rEq ta tb) δ (.d (.bool (decide (x = y)))) := e_op2 ha hb fun u v H Q h1 h2 q => by
  rw [h1.s, h2.s]
  refine ⟨rfl, q _ H (Same.refl H) ⟨_, rfl, ?_⟩⟩
  have e : decide (V.str x = V.str y) = decide (x = y) := by by_cases h : x = y <;> simp [h]
  rw [e]; exact .bl _
theorem e_neS {x y : Str} (ha : Ee K ta δ (.d (.str x))) (hb : Ee K tb δ (.d (.str y))) : Ee K (tOp rNe ta tb) δ (.d (.bool (!decide (x = y)))) := e_op2 ha hb fun u v H Q h1 h2 q => by
  rw [h1.s, h2.s]
  refine ⟨rfl, q _ H (Same.refl H) ⟨_, rfl, ?_⟩⟩
  have e : decide (V.str x = V.str y) = decide (x = y) := by by_cases h : x = y <;> simp [h]
  rw [e]; exact .bl _
theorem e_eqI {x y : Int} (ha : Ee K ta δ (.d (.int x))) (hb : Ee K tb δ (.d (.int y))) : Ee K (tOp rEq ta tb) δ (.d (.bool (decide (x = y)))) := e_op2 ha hb fun u v H Q h1 h2 q => by
  rw [h1.i, h2.i]
  refine ⟨rfl, q _ H (Same.refl H) ⟨_, rfl, ?_⟩⟩
  have e : decide (V.int x = V.int y) = decide (x = y) := by by_cases h : x = y <;> simp [h]
  rw [e]; exact .bl _
theorem e_neI {x y : Int} (ha : Ee K ta δ (.d (.int x))) (hb : Ee K tb δ (.d (.int y))) : Ee K (tOp rNe ta tb) δ (.d (.bool (!decide (x = y)))) := e_op2 ha hb fun u v H Q h1 h2 q => by
  rw [h1.i, h2.i]
  refine ⟨rfl, q _ H (Same.refl H) ⟨_, rfl, ?_⟩⟩
  have e : decide (V.int x = V.int y) = decide (x = y) := by by_cases h : x = y <;> simp [h]
  rw [e]; exact .bl _
theorem e_neB {x y : Bool} (ha : Ee K ta δ (.d (.bool x))) (hb : Ee K tb δ (.d (.bool y))) : Ee K (tOp rNe ta tb) δ (.d (.bool (!decide (x = y)))) := e_op2 ha hb fun u v H Q h1 h2 q => by
  rw [h1.b, h2.b]
  refine ⟨rfl, q _ H (Same.refl H) ⟨_, rfl, ?_⟩⟩
  have e : decide (V.bl x = V.bl y) = decide (x = y) := by cases x <;> cases y <;> rfl
  rw [e]; exact .bl _
/-- data of any depth -/
theorem e_eqD {x y : PD} (ha : Ee K ta δ (.d x)) (hb : Ee K tb δ (.d y)) (h1 : SeqAt.shaped x = true) (h2 : SeqAt.shaped y = true) : Ee K (tOp (rEqD K) ta tb) δ (.d (.bool (PyData.eqv x y))) := e_op2 ha hb fun u v H Q t1 t2 q =>
  ⟨x, y, Tp.dp _ _ t1, Tp.dp _ _ t2, h1, h2, q _ H (Same.refl H) ⟨_, rfl, .bl _⟩⟩
theorem e_neD {x y : PD} (ha : Ee K ta δ (.d x)) (hb : Ee K tb δ (.d y)) (h1 : SeqAt.shaped x = true) (h2 : SeqAt.shaped y = true) : Ee K (tOp (rNeD K) ta tb) δ (.d (.bool (!PyData.eqv x y))) := e_op2 ha hb fun u v H Q t1 t2 q =>
  ⟨x, y, Tp.dp _ _ t1, Tp.dp _ _ t2, h1, h2, q _ H (Same.refl H) ⟨_, rfl, .bl _⟩⟩
/-- ints -/
theorem e_i0 {f : Int → Int → Int} {i j : Int} (ha : Ee K ta δ (.d (.int i))) (hb : Ee K tb δ (.d (.int j))) : Ee K (tOp (rI0 fun i j => .int (f i j)) ta tb) δ (.d (.int (f i j))) := e_op2 ha hb fun u v H Q h1 h2 q =>
  ⟨i, j, h1.i, h2.i, q _ H (Same.refl H) ⟨_, rfl, .int _⟩⟩
theorem e_b0 {f : Int → Int → Bool} {i j : Int} (ha : Ee K ta δ (.d (.int i))) (hb : Ee K tb δ (.d (.int j))) : Ee K (tOp (rI0 fun i j => .bl (f i j)) ta tb) δ (.d (.bool (f i j))) := e_op2 ha hb fun u v H Q h1 h2 q =>
  ⟨i, j, h1.i, h2.i, q _ H (Same.refl H) ⟨_, rfl, .bl _⟩⟩
theorem e_iC {C : Int → Int → Prop} {f : Int → Int → Int} {i j : Int} (ha : Ee K ta δ (.d (.int i))) (hb : Ee K tb δ (.d (.int j))) (hc : C i j) : Ee K (tOp (rI C fun i j => .int (f i j)) ta tb) δ (.d (.int (f i j))) := e_op2 ha hb fun u v H Q h1 h2 q =>
  ⟨i, j, h1.i, h2.i, hc, q _ H (Same.refl H) ⟨_, rfl, .int _⟩⟩
theorem e_neg {i : Int} (ha : Ee K ta δ (.d (.int i))) : Ee K (tUn (rU fun i => .int (-i)) ta) δ (.d (.int (-i))) := fun σ H Q sd q => by
  refine ha σ H _ sd fun v H1 s1 ⟨w, e1, t1⟩ => ?_
  cases e1
  exact ⟨i, t1.i, q _ H1 s1 ⟨_, rfl, .int _⟩⟩
/-- whether a datum is None -/
def isN : PD → Bool
  | .none => true
  | _ => false
theorem isN_v {H : Hp} {v : V} {d : PD} (h : Tp K H v d) : decide (v = .non) = isN d := by
  cases h <;> rfl
theorem e_isN {d : PD} (ha : Ee K ta δ (.d d)) : Ee K (tIsN ta) δ (.d (.bool (isN d))) := fun σ H Q sd q => by
  refine ha σ H _ sd fun v H1 s1 ⟨w, e1, t1⟩ => ?_
  cases e1
  show Q (.bl (decide (v = .non))) H1
  rw [isN_v t1]
  exact q _ H1 s1 ⟨_, rfl, .bl _⟩
theorem e_notN {d : PD} (ha : Ee K ta δ (.d d)) : Ee K (tNotN ta) δ (.d (.bool (!isN d))) := fun σ H Q sd q => by
  refine ha σ H _ sd fun v H1 s1 ⟨w, e1, t1⟩ => ?_
  cases e1
  show Q (.bl (!decide (v = .non))) H1
  rw [isN_v t1]
  exact q _ H1 s1 ⟨_, rfl, .bl _⟩

/-! ### arguments, tuples -/
theorem a_nil : Ea K tNil δ [] := fun σ H Q sd q => q [] H (Same.refl H) trivial
theorem a_cons {tr : TA} {ss : Sls} (ha : Ee K te δ s) (hr : Ea K tr δ ss) : Ea K (tCons te tr) δ (s :: ss) := fun σ H Q sd q => by
  refine ha σ H _ sd fun v H1 s1 h1 => ?_
  refine hr σ H1 _ (sd.sm s1) fun vs H2 s2 h2 => ?_
  exact q (v :: vs) H2 (s1.trans s2) ⟨h1.sm s2, h2⟩
/-- data alone -/
def datas : Sls → Option (List PD)
  | [] => some []
  | .d x :: r => (datas r).map (x :: ·)
  | _ :: _ => none
theorem datas_all {H : Hp} : ∀ {ss : Sls} {ds : List PD} {vs : List V}, datas ss = some ds → SlAll K H vs ss → TpAll K H vs ds
  | [], ds, [], e, _ => by cases e; exact .nil
  | .d x :: r, ds, v :: vs, e, h => by
    cases q : datas r with
    | none => simp [datas, q] at e
    | some es =>
      simp [datas, q] at e
      subst e
      obtain ⟨w, e1, t⟩ := h.1
      cases e1
      exact .cons t (datas_all q h.2)
  | .no :: r, _, _, e, _ => by cases e
  | .l _ :: r, _, _, e, _ => by cases e
  | .v _ :: r, _, _, e, _ => by cases e
  | .x _ :: r, _, _, e, _ => by cases e
  | [], _, _ :: _, _, h => h.elim
  | _ :: _, _, [], _, h => h.elim
theorem e_tup {ta : TA} {ss : Sls} {ds : List PD} (ha : Ea K ta δ ss) (hd : datas ss = some ds) (hl : ss.length ≤ 1000) : Ee K (tTup ta) δ (.d (.tuple ds)) := fun σ H Q sd q => by
  refine ha σ H _ sd fun vs H1 s1 h => ?_
  have t := datas_all hd h
  refine ⟨sz5 (by rw [h.length]; omega), fun p hp => ?_⟩
  exact q _ _ (same_upd2 s1 (s1.free hp)) ⟨_, rfl, .tup (.inl (.inl upd_same)) (t.sm (same_upd hp))⟩
theorem e_lst {ta : TA} {ss : Sls} {ds : List PD} (ha : Ea K ta δ ss) (hd : datas ss = some ds) (hl : ss.length ≤ 1000) : Ee K (tLst ta) δ (.l ds) := fun σ H Q sd q => by
  refine ha σ H _ sd fun vs H1 s1 h => ?_
  have t := datas_all hd h
  refine ⟨sz5 (by rw [h.length]; omega), fun p hp => ?_⟩
  exact q _ _ (same_upd2 s1 (s1.free hp)) ⟨_, _, rfl, upd_same, t.sm (same_upd hp)⟩
theorem e_cat {ds es : List PD} (ha : Ee K ta δ (.d (.tuple ds))) (hb : Ee K tb δ (.d (.tuple es))) (hl : ds.length + es.length ≤ 100000) : Ee K (tOp (rCatA K) ta tb) δ (.d (.tuple (ds ++ es))) := e_op2 ha hb fun u v H Q h1 h2 q => by
  obtain ⟨a, xs, rfl, p1, p2⟩ := h1.t
  obtain ⟨b, ys, rfl, q1, q2⟩ := h2.t
  refine ⟨a, b, xs, ys, rfl, rfl, p1, q1, sz5 (by rw [p2.length, q2.length]; exact hl), fun e => ?_, fun _ e => ?_, fun _ _ p hp => ?_⟩
  · subst e
    have := p2.nil'
    subst this
    exact q _ H (Same.refl H) ⟨_, rfl, h2⟩
  · subst e
    have := q2.nil'
    subst this
    rw [List.append_nil] at q
    exact q _ H (Same.refl H) ⟨_, rfl, h1⟩
  · exact q _ _ (same_upd hp) ⟨_, rfl, .tup (.inl (.inl upd_same)) ((p2.app q2).sm (same_upd hp))⟩
theorem o_none : Eo K tNoPart δ none := fun σ H Q sd q => q H (Same.refl H)
theorem o_some {i : Int} (h : Ee K te δ (.d (.int i))) : Eo K (tPart te) δ (some i) := fun σ H Q sd q => by
  refine h σ H _ sd fun v H1 s1 ⟨w, e1, t1⟩ => ?_
  cases e1
  exact ⟨i, t1.i, q H1 s1⟩
theorem cutV_whole {xs : List V} {lo hi : Option Int} (h : HT.sIx xs.length 0 lo = 0 ∧ HT.sIx xs.length xs.length hi = xs.length) : cutV xs lo hi = xs := by
  unfold cutV
  rw [h.1, h.2]
  simp
theorem e_slT {tl th : TO} {ds es : List PD} {lo hi : Option Int} (ha : Ee K te δ (.d (.tuple ds))) (hlo : Eo K tl δ lo) (hhi : Eo K th δ hi) (e : cutD ds lo hi = es) : Ee K (tSl (rSlA K) te tl th) δ (.d (.tuple es)) := fun σ H Q sd q => by
  refine ha σ H _ sd fun v H1 s1 ⟨w, e1, t1⟩ => ?_
  cases e1
  refine hlo σ H1 _ (sd.sm s1) fun H2 s2 => ?_
  refine hhi σ H2 _ (sd.sm (s1.trans s2)) fun H3 s3 => ?_
  obtain ⟨a, xs, rfl, p1, p2⟩ := (t1.sm (s2.trans s3)).t
  subst e
  refine ⟨a, xs, rfl, p1, fun hw => ?_, fun hw p hp => ?_⟩
  · have t := p2.cut (lo := lo) (hi := hi)
    rw [cutV_whole hw] at t
    exact q _ H3 ((s1.trans s2).trans s3) ⟨_, rfl, .tup p1 t⟩
  · exact q _ _ (same_upd2 ((s1.trans s2).trans s3) (((s1.trans s2).trans s3).free hp)) ⟨_, rfl, .tup (.inl (.inl upd_same)) (p2.cut.sm (same_upd hp))⟩
theorem e_tail {d : PD} {ds : List PD} {tb : TE} (ha : Ee K te δ (.d (.tuple (d :: ds)))) (hb : Ee K tb δ (.d (.int 1))) : Ee K (tSl (rSlA K) te (tPart tb) tNoPart) δ (.d (.tuple ds)) := e_slT ha (o_some hb) o_none (cutD_tail d ds)
abbrev rLenQ (K : PySem.W.Frag) : List V → Hp → VK → Prop := fun xs H Q => ∃ p ys, xs = [.ref p] ∧ (SqL K H p ys ∨ SqT K H p ys) ∧ Q (.int (ys.length : Nat)) H
theorem e_lenT {ds : List PD} (ha : Ee K te δ (.d (.tuple ds))) : Ee K (tCB (rLenQ K) (tCons te tNil)) δ (.d (.int (ds.length : Nat))) := fun σ H Q sd q => by
  refine ha σ H _ sd fun v H1 s1 ⟨w, e1, t1⟩ => ?_
  cases e1
  obtain ⟨a, xs, rfl, p1, p2⟩ := t1.t
  refine ⟨a, xs, rfl, .inr p1, ?_⟩
  rw [p2.length]
  exact q _ H1 s1 ⟨_, rfl, .int _⟩
theorem e_lenL {ds : List PD} (ha : Ee K te δ (.l ds)) : Ee K (tCB (rLenQ K) (tCons te tNil)) δ (.d (.int (ds.length : Nat))) := fun σ H Q sd q => by
  refine ha σ H _ sd fun v H1 s1 ⟨a, xs, e1, h1, t1⟩ => ?_
  cases e1
  refine ⟨a, xs, rfl, .inl (SqL.of h1), ?_⟩
  rw [t1.length]
  exact q _ H1 s1 ⟨_, rfl, .int _⟩
abbrev rTupOf (K : PySem.W.Frag) : List V → Hp → VK → Prop := fun xs H Q => ∃ p ys, xs = [.ref p] ∧ ((SqL K H p ys ∧ ∀ l, H l = none → Q (.ref l) (upd H l (.tup ys))) ∨ (SqT K H p ys ∧ Q (.ref p) H))
theorem e_tupOf {ds : List PD} (ha : Ee K te δ (.l ds)) : Ee K (tCB (rTupOf K) (tCons te tNil)) δ (.d (.tuple ds)) := fun σ H Q sd q => by
  refine ha σ H _ sd fun v H1 s1 ⟨a, xs, e1, h1, t1⟩ => ?_
  cases e1
  refine ⟨a, xs, rfl, .inl ⟨SqL.of h1, fun l hl => ?_⟩⟩
  exact q _ _ (same_upd2 s1 (s1.free hl)) ⟨_, rfl, .tup (.inl (.inl upd_same)) (t1.sm (same_upd hl))⟩
theorem e_sum {ns : List Int} (ha : Ee K te δ (.l (ns.map PyData.int))) : Ee K (tCB (rSum K) (tCons te tNil)) δ (.d (.int ns.sum)) := fun σ H Q sd q => by
  refine ha σ H _ sd fun v H1 s1 ⟨a, xs, e1, h1, t1⟩ => ?_
  cases e1
  have e := tpAll_ints t1
  subst e
  exact ⟨a, ns, rfl, SqL.of h1, q _ H1 s1 ⟨_, rfl, .int _⟩⟩

/-! ### tests -/
theorem t_B {b : Bool} {t : TE} (h : Ee K t δ (.d (.bool b))) : Et K (tB t) δ b := fun σ H Q sd q => by
  refine h σ H _ sd fun v H1 s1 ⟨w, e1, t1⟩ => ?_
  cases e1
  exact ⟨b, t1.b, q H1 s1⟩
theorem t_T {b : Bool} {t : TE} (h : Ee K t δ (.d (.bool b))) : Et K (tTest t) δ b := t_B h
theorem t_not {b : Bool} {t : TT} (h : Et K t δ b) : Et K (tNot t) δ (!b) := fun σ H Q sd q => h σ H _ sd q
theorem t_and {a b : Bool} {t u : TT} (h : Et K t δ a) (h2 : a = true → Et K u δ b) : Et K (tAnd t u) δ (a && b) := fun σ H Q sd q => by
  refine h σ H _ sd fun H1 s1 => ?_
  cases a with
  | true => exact iteT (h2 rfl σ H1 Q (sd.sm s1) fun H2 s2 => q H2 (s1.trans s2))
  | false => exact iteF (q H1 s1)
theorem t_or {a b : Bool} {t u : TT} (h : Et K t δ a) (h2 : a = false → Et K u δ b) : Et K (tOr t u) δ (a || b) := fun σ H Q sd q => by
  refine h σ H _ sd fun H1 s1 => ?_
  cases a with
  | true => exact iteT (q H1 s1)
  | false => exact iteF (h2 rfl σ H1 Q (sd.sm s1) fun H2 s2 => q H2 (s1.trans s2))
theorem Et.to {a b : Bool} {t : TT} (h : Et K t δ a) (e : a = b) : Et K t δ b := e ▸ h
theorem e_andV {a b : Bool} (ha : Ee K ta δ (.d (.bool a))) (hb : a = true → Ee K tb δ (.d (.bool b))) : Ee K (tAndV ta tb) δ (.d (.bool (a && b))) := fun σ H Q sd q => by
  refine ha σ H _ sd fun v H1 s1 ⟨w, e1, t1⟩ => ?_
  cases e1
  refine ⟨a, t1.b, ?_⟩
  cases a with
  | true => exact iteT (hb rfl σ H1 Q (sd.sm s1) fun v H2 s2 h => q v H2 (s1.trans s2) h)
  | false => exact iteF (q _ H1 s1 ⟨_, rfl, .bl _⟩)
theorem e_if {b : Bool} {t : TT} (h : Et K t δ b) (h1 : b = true → Ee K ta δ s) (h2 : b = false → Ee K tb δ s) : Ee K (tIf t ta tb) δ s := fun σ H Q sd q => by
  refine h σ H _ sd fun H1 s1 => ?_
  cases b with
  | true => exact iteT (h1 rfl σ H1 Q (sd.sm s1) fun v H2 s2 h => q v H2 (s1.trans s2) h)
  | false => exact iteF (h2 rfl σ H1 Q (sd.sm s1) fun v H2 s2 h => q v H2 (s1.trans s2) h)

/-! ### calls -/
/-- a def that reads data and tells data: R of its arguments and its answer -/
def spD (K : PySem.W.Frag) (R : Sls → Sl → Prop) : Sp := fun vs H Q _ => ∃ ss s, SlAll K H vs ss ∧ R ss s ∧ ∀ v H', Same H H' → SlAt K H' (some v) s → Q v H'
theorem e_call {R : Sls → Sl → Prop} {E : XK} {t : TA} {ss : Sls} (ha : Ea K t δ ss) (hr : R ss s) : Ee K (tCall (spD K R) [] E t) δ s := fun σ H Q sd q => by
  refine ha σ H _ sd fun vs H1 s1 h => ?_
  refine ⟨ss, s, by rw [List.append_nil]; exact h, hr, fun v H2 s2 h2 => q v H2 (s1.trans s2) h2⟩

/-! ### targets -/
theorem wipe_set (σ : L2.St) (j : Nat) (o : Option V) : ∀ vs : List Nat, j ∈ vs → wipe (σ.set j o) vs = wipe σ vs
  | [], h => by cases h
  | v :: vs, h => by
    unfold wipe
    by_cases e : j ∈ vs
    · rw [wipe_set σ j o vs e]
    · have ej : v = j := by
        rcases List.mem_cons.mp h with h | h
        · exact h.symm
        · exact absurd h e
      subst ej
      have out : ∀ (ws : List Nat), v ∉ ws → wipe (σ.set v o) ws = (wipe σ ws).set v o := by
        intro ws
        induction ws with
        | nil => intro _; rfl
        | cons u us ih =>
          intro hn
          unfold wipe
          rw [ih (fun z => hn (List.mem_cons_of_mem _ z)), List.set_comm]
          exact fun z => hn (by rw [z]; exact List.mem_cons_self)
      rw [out vs e, List.set_set]
theorem wipe_wipe (σ : L2.St) : ∀ vs : List Nat, wipe (wipe σ vs) vs = wipe σ vs := by
  have key : ∀ (ws vs : List Nat), (∀ j ∈ ws, j ∈ vs) → wipe (wipe σ ws) vs = wipe σ vs := by
    intro ws
    induction ws with
    | nil => intro vs _; rfl
    | cons u us ih =>
      intro vs h
      show wipe ((wipe σ us).set u none) vs = _
      rw [wipe_set _ _ _ vs (h u List.mem_cons_self)]
      exact ih vs fun j hj => h j (List.mem_cons_of_mem _ hj)
  exact fun vs => key vs vs fun _ h => h
theorem g_name {j : Nat} : Eg K (gName j) [j] s δ (δ.set j s) := fun σ H v Q sd h q => q _ (SD.set h j sd) fun vs hv => wipe_set σ j _ vs (hv j (by simp))
theorem gs_nil : Egs K gNil [] [] δ δ := fun σ H vs Q sd h q => by
  cases vs with
  | nil => exact ⟨rfl, q σ sd fun _ _ => rfl⟩
  | cons _ _ => exact h.elim
theorem gs_cons {t : TG} {u : TGs} {js ks : List Nat} {ss : Sls} {δ' δ2 : Sls} (h1 : Eg K t js s δ δ') (h2 : Egs K u ks ss δ' δ2) : Egs K (gCons t u) (js ++ ks) (s :: ss) δ δ2 := fun σ H vs Q sd h q => by
  cases vs with
  | nil => exact h.elim
  | cons v vs =>
    refine ⟨v, vs, rfl, h1 σ H v _ sd h.1 fun σ1 sd1 w1 => ?_⟩
    exact h2 σ1 H vs _ sd1 h.2 fun σ2 sd2 w2 => q σ2 sd2 fun ws hw => (w2 ws fun j hj => hw j (List.mem_append_right _ hj)).trans (w1 ws fun j hj => hw j (List.mem_append_left _ hj))
theorem all_datas {H : Hp} : ∀ {vs : List V} {ds : List PD}, TpAll K H vs ds → SlAll K H vs (ds.map Sl.d)
  | _, _, .nil => trivial
  | _, _, .cons h t => ⟨⟨_, rfl, h⟩, all_datas t⟩
theorem g_tup {n : Nat} {t : TGs} {js : List Nat} {ds : List PD} {δ' : Sls} (h : Egs K t js (ds.map Sl.d) δ δ') (hn : ds.length = n) : Eg K (gTup K n t) js (.d (.tuple ds)) δ δ' := fun σ H v Q sd hv q => by
  obtain ⟨w, e, tp⟩ := hv
  cases e
  obtain ⟨a, xs, rfl, p1, p2⟩ := tp.t
  exact ⟨a, xs, rfl, p1, p2.length.trans hn, h σ H xs _ sd (all_datas p2) q⟩

/-! ### statements -/
structure DD where
  nx : Sls → Prop
  rt : Sl → Prop
  bk : Sls → Prop := fun _ => False
  ct : Sls → Prop := fun _ => False
structure DD.Le (K : PySem.W.Frag) (H : Hp) (D : DD) (E : Ends) : Prop where
  nx : ∀ σ' H' δ', Same H H' → SD K H' σ' δ' → D.nx δ' → E.nx σ' H'
  rt : ∀ v H' s, Same H H' → SlAt K H' (some v) s → D.rt s → E.rt v H'
  bk : ∀ σ' H' δ', Same H H' → SD K H' σ' δ' → D.bk δ' → E.bk σ' H'
  ct : ∀ σ' H' δ', Same H H' → SD K H' σ' δ' → D.ct δ' → E.ct σ' H'
theorem DD.Le.sm {H H1 : Hp} {D : DD} {E : Ends} (h : DD.Le K H D E) (s : Same H H1) : DD.Le K H1 D E :=
  ⟨fun σ' H' δ' t => h.nx σ' H' δ' (s.trans t), fun v H' x t => h.rt v H' x (s.trans t), fun σ' H' δ' t => h.bk σ' H' δ' (s.trans t), fun σ' H' δ' t => h.ct σ' H' δ' (s.trans t)⟩
def Es (K : PySem.W.Frag) (t : TS) (D : DD) (δ : Sls) : Prop := ∀ σ H (E : Ends), SD K H σ δ → DD.Le K H D E → t E σ H
variable {D : DD} {t u : TS}
theorem s_seq (h : Es K t { D with nx := fun δ' => Es K u D δ' } δ) : Es K (tSeq t u) D δ := fun σ H E sd le =>
  h σ H { E with nx := u E } sd ⟨fun σ' H' δ' s1 sd1 h1 => h1 σ' H' E sd1 (le.sm s1), le.rt, le.bk, le.ct⟩
theorem s_next (h : D.nx δ) : Es K tNext D δ := fun σ H E sd le => le.nx σ H δ (Same.refl H) sd h
theorem s_brk (h : D.bk δ) : Es K tBreak D δ := fun σ H E sd le => le.bk σ H δ (Same.refl H) sd h
theorem s_cont (h : D.ct δ) : Es K tCont D δ := fun σ H E sd le => le.ct σ H δ (Same.refl H) sd h
theorem s_ret (he : Ee K te δ s) (h : D.rt s) : Es K (tRet te) D δ := fun σ H E sd le => he σ H _ sd fun v H1 s1 hv => le.rt v H1 s s1 hv h
theorem s_retN (h : D.rt (.d .none)) : Es K tRetN D δ := fun σ H E sd le => le.rt .non H (.d .none) (Same.refl H) ⟨_, rfl, .non⟩ h
theorem s_drop (he : Ee K te δ s) (h : D.nx δ) : Es K (tDrop te) D δ := fun σ H E sd le => he σ H _ sd fun v H1 s1 _ => le.nx σ H1 δ s1 (sd.sm s1) h
theorem s_asg {g : TG} {js : List Nat} {δ' : Sls} (he : Ee K te δ s) (hg : Eg K g js s δ δ') (h : D.nx δ') : Es K (tAsg te g) D δ := fun σ H E sd le =>
  he σ H _ sd fun v H1 s1 hv => hg σ H1 v _ (sd.sm s1) hv fun σ1 sd1 _ => le.nx σ1 H1 δ' s1 sd1 h
theorem s_set {j : Nat} (he : Ee K te δ s) (h : D.nx (δ.set j s)) : Es K (tAsg te (gName j)) D δ := s_asg he g_name h
theorem s_if {b : Bool} {c : TT} (hc : Et K c δ b) (h1 : b = true → Es K t D δ) (h2 : b = false → Es K u D δ) : Es K (tIfS c t u) D δ := fun σ H E sd le => by
  refine hc σ H _ sd fun H1 s1 => ?_
  cases b with
  | true => exact iteT (h1 rfl σ H1 E (sd.sm s1) (le.sm s1))
  | false => exact iteF (h2 rfl σ H1 E (sd.sm s1) (le.sm s1))
theorem s_ifT {b : Bool} {c : TT} (hc : Et K c δ b) (e : b = true) (h : Es K t D δ) : Es K (tIfS c t u) D δ := s_if hc (fun _ => h) (fun z => by rw [e] at z; cases z)
theorem s_ifF {b : Bool} {c : TT} (hc : Et K c δ b) (e : b = false) (h : Es K u D δ) : Es K (tIfS c t u) D δ := s_if hc (fun z => by rw [e] at z; cases z) (fun _ => h)
theorem s_while {c : TT} {tb : TS} (W : Nat → Sls → Prop) (m0 : Nat) (h0 : W m0 δ)
    (hs : ∀ m δ', W m δ' → ∃ b, Et K c δ' b ∧ (b = true → Es K tb { D with nx := fun δ2 => ∃ m', m' < m ∧ W m' δ2, ct := fun δ2 => ∃ m', m' < m ∧ W m' δ2, bk := D.nx } δ') ∧ (b = false → D.nx δ')) : Es K (tWhile c tb) D δ := fun σ H E sd le => by
  refine ⟨fun m σ' H' => Same H H' ∧ ∃ δ', SD K H' σ' δ' ∧ W m δ', ⟨m0, Same.refl H, δ, sd, h0⟩, ?_⟩
  rintro m σ' H' ⟨s1, δ', sd1, w⟩
  obtain ⟨b, hc, ht, hf⟩ := hs m δ' w
  refine hc σ' H' _ sd1 fun H2 s2 => ?_
  cases b with
  | true =>
    refine iteT ⟨fun σ3 H3 => ∃ m', m' < m ∧ Same H H3 ∧ ∃ δ3, SD K H3 σ3 δ3 ∧ W m' δ3, fun _ _ h => h, ?_⟩
    refine ht rfl σ' H2 _ (sd1.sm s2) ⟨fun σ3 H3 δ3 s3 sd3 ⟨m', hm, w3⟩ => ⟨m', hm, (s1.trans s2).trans s3, δ3, sd3, w3⟩, fun v H3 x s3 => le.rt v H3 x ((s1.trans s2).trans s3), fun σ3 H3 δ3 s3 sd3 h3 => le.nx σ3 H3 δ3 ((s1.trans s2).trans s3) sd3 h3, fun σ3 H3 δ3 s3 sd3 ⟨m', hm, w3⟩ => ⟨m', hm, (s1.trans s2).trans s3, δ3, sd3, w3⟩⟩
  | false => exact iteF (le.nx σ' H2 δ' (s1.trans s2) (sd1.sm s2) (hf rfl))
/-- the loops' common end -/
theorem s_forR {ta : TA} {g : TG} {js : List Nat} {tb : TS} {lo hi : Int} (ha : Ea K ta δ [.d (.int lo), .d (.int hi)]) (b1 : -1000000 ≤ lo ∧ lo ≤ 1000000) (b2 : -1000000 ≤ hi ∧ hi ≤ 1000000) (Pv : Nat → Sls → Prop) (h0 : Pv 0 δ)
    (hs : ∀ (i : Nat) δ', i < (hi - lo).toNat → Pv i δ' → ∃ δ2, Eg K g js (.d (.int (lo + i))) δ' δ2 ∧ Es K tb { D with nx := Pv (i + 1), ct := Pv (i + 1), bk := D.nx } δ2) (hd : ∀ δ', Pv (hi - lo).toNat δ' → D.nx δ') : Es K (tFor (iRng2 ta) g tb) D δ := fun σ H E sd le => by
  refine ha σ H _ sd fun vs H1 s1 h => ?_
  match vs, h with
  | [v1, v2], ⟨⟨w1, e1, t1⟩, ⟨w2, e2, t2⟩, _⟩ =>
    cases e1
    cases e2
    refine ⟨lo, hi, by rw [t1.i, t2.i], ⟨by omega, by omega, by omega, by omega⟩, ?_⟩
    refine for_range (Pv := fun i σ' H' => Same H H' ∧ ∃ δ', SD K H' σ' δ' ∧ Pv i δ') ⟨s1, δ, sd.sm s1, h0⟩ (fun i σ' H' hi ⟨s2, δ', sd2, p⟩ => ?_) (fun σ' H' ⟨s2, δ', sd2, p⟩ => le.nx σ' H' δ' s2 sd2 (hd δ' p))
    obtain ⟨δ2, hg, hb⟩ := hs i δ' hi p
    refine hg σ' H' _ _ sd2 ⟨_, rfl, .int _⟩ fun σ3 sd3 _ => ?_
    exact hb σ3 H' _ sd3 ⟨fun σ4 H4 δ4 s4 sd4 p4 => ⟨s2.trans s4, δ4, sd4, p4⟩, fun v H4 x s4 => le.rt v H4 x (s2.trans s4), fun σ4 H4 δ4 s4 sd4 p4 => le.nx σ4 H4 δ4 (s2.trans s4) sd4 p4, fun σ4 H4 δ4 s4 sd4 p4 => ⟨s2.trans s4, δ4, sd4, p4⟩⟩
  | [], h => exact h.elim
  | [_], h => exact h.2.elim
  | _ :: _ :: _ :: _, h => exact h.2.2.elim
theorem s_forR1 {ta : TA} {g : TG} {js : List Nat} {tb : TS} {n : Int} (ha : Ea K ta δ [.d (.int n)]) (b2 : -1000000 ≤ n ∧ n ≤ 1000000) (Pv : Nat → Sls → Prop) (h0 : Pv 0 δ)
    (hs : ∀ (i : Nat) δ', i < n.toNat → Pv i δ' → ∃ δ2, Eg K g js (.d (.int (0 + i))) δ' δ2 ∧ Es K tb { D with nx := Pv (i + 1), ct := Pv (i + 1), bk := D.nx } δ2) (hd : ∀ δ', Pv n.toNat δ' → D.nx δ') : Es K (tFor (iRng1 ta) g tb) D δ := fun σ H E sd le => by
  refine ha σ H _ sd fun vs H1 s1 h => ?_
  match vs, h with
  | [v1], ⟨⟨w1, e1, t1⟩, _⟩ =>
    cases e1
    refine ⟨n, by rw [t1.i], by omega, by omega, ?_⟩
    refine for_range (Pv := fun i σ' H' => Same H H' ∧ ∃ δ', SD K H' σ' δ' ∧ Pv i δ') ⟨s1, δ, sd.sm s1, h0⟩ (fun i σ' H' hi ⟨s2, δ', sd2, p⟩ => ?_) (fun σ' H' ⟨s2, δ', sd2, p⟩ => le.nx σ' H' δ' s2 sd2 (hd δ' p))
    obtain ⟨δ2, hg, hb⟩ := hs i δ' hi p
    refine hg σ' H' _ _ sd2 ⟨_, rfl, .int _⟩ fun σ3 sd3 _ => ?_
    exact hb σ3 H' _ sd3 ⟨fun σ4 H4 δ4 s4 sd4 p4 => ⟨s2.trans s4, δ4, sd4, p4⟩, fun v H4 x s4 => le.rt v H4 x (s2.trans s4), fun σ4 H4 δ4 s4 sd4 p4 => le.nx σ4 H4 δ4 (s2.trans s4) sd4 p4, fun σ4 H4 δ4 s4 sd4 p4 => ⟨s2.trans s4, δ4, sd4, p4⟩⟩
  | [], h => exact h.elim
  | _ :: _ :: _, h => exact h.2.elim
theorem s_forT {ts : TE} {g : TG} {js : List Nat} {tb : TS} {ds : List PD} (ha : Ee K ts δ (.d (.tuple ds))) (Pv : Nat → Sls → Prop) (h0 : Pv 0 δ)
    (hs : ∀ (i : Nat) d δ', ds[i]? = some d → Pv i δ' → ∃ δ2, Eg K g js (.d d) δ' δ2 ∧ Es K tb { D with nx := Pv (i + 1), ct := Pv (i + 1), bk := D.nx } δ2) (hd : ∀ δ', Pv ds.length δ' → D.nx δ') : Es K (tFor (iTup K ts) g tb) D δ := fun σ H E sd le => by
  refine ha σ H _ sd fun v H1 s1 ⟨w, e1, t1⟩ => ?_
  cases e1
  obtain ⟨a, xs, rfl, p1, p2⟩ := t1.t
  refine ⟨a, rfl, ⟨_, p1⟩, ?_⟩
  refine for_tup (xs := xs) (Pv := fun i σ' H' => Same H1 H' ∧ ∃ δ', SD K H' σ' δ' ∧ Pv i δ') ⟨Same.refl H1, δ, sd.sm s1, h0⟩ (fun i σ' H' _ ⟨s2, _⟩ => Tk.sqt (Same.tt s2) p1) (fun i x σ' H' hx ⟨s2, δ', sd2, p⟩ => ?_) (fun σ' H' ⟨s2, δ', sd2, p⟩ => le.nx σ' H' δ' (s1.trans s2) sd2 (hd δ' (by rw [← p2.length]; exact p)))
  obtain ⟨d, hd', tp⟩ := p2.getV hx
  obtain ⟨δ2, hg, hb⟩ := hs i d δ' hd' p
  refine hg σ' H' _ _ sd2 ⟨_, rfl, tp.sm s2⟩ fun σ3 sd3 _ => ?_
  exact hb σ3 H' _ sd3 ⟨fun σ4 H4 δ4 s4 sd4 p4 => ⟨s2.trans s4, δ4, sd4, p4⟩, fun v H4 x s4 => le.rt v H4 x (s1.trans (s2.trans s4)), fun σ4 H4 δ4 s4 sd4 p4 => le.nx σ4 H4 δ4 (s1.trans (s2.trans s4)) sd4 p4, fun σ4 H4 δ4 s4 sd4 p4 => ⟨s2.trans s4, δ4, sd4, p4⟩⟩
theorem s_forL {ts : TE} {g : TG} {js : List Nat} {tb : TS} {ds : List PD} (ha : Ee K ts δ (.l ds)) (Pv : Nat → Sls → Prop) (h0 : Pv 0 δ)
    (hs : ∀ (i : Nat) d δ', ds[i]? = some d → Pv i δ' → ∃ δ2, Eg K g js (.d d) δ' δ2 ∧ Es K tb { D with nx := Pv (i + 1), ct := Pv (i + 1), bk := D.nx } δ2) (hd : ∀ δ', Pv ds.length δ' → D.nx δ') : Es K (tFor (iList K ts) g tb) D δ := fun σ H E sd le => by
  refine ha σ H _ sd fun v H1 s1 ⟨a, xs, e1, p1, p2⟩ => ?_
  cases e1
  refine ⟨a, rfl, ⟨_, SqL.of p1⟩, ?_⟩
  refine for_list (xs := xs) (Pv := fun i σ' H' => Same H1 H' ∧ ∃ δ', SD K H' σ' δ' ∧ Pv i δ') ⟨Same.refl H1, δ, sd.sm s1, h0⟩ (fun i σ' H' _ ⟨s2, _⟩ => SqL.of (s2 _ _ p1)) (fun i x σ' H' hx ⟨s2, δ', sd2, p⟩ => ?_) (fun σ' H' ⟨s2, δ', sd2, p⟩ => le.nx σ' H' δ' (s1.trans s2) sd2 (hd δ' (by rw [← p2.length]; exact p)))
  obtain ⟨d, hd', tp⟩ := p2.getV hx
  obtain ⟨δ2, hg, hb⟩ := hs i d δ' hd' p
  refine hg σ' H' _ _ sd2 ⟨_, rfl, tp.sm s2⟩ fun σ3 sd3 _ => ?_
  exact hb σ3 H' _ sd3 ⟨fun σ4 H4 δ4 s4 sd4 p4 => ⟨s2.trans s4, δ4, sd4, p4⟩, fun v H4 x s4 => le.rt v H4 x (s1.trans (s2.trans s4)), fun σ4 H4 δ4 s4 sd4 p4 => le.nx σ4 H4 δ4 (s1.trans (s2.trans s4)) sd4 p4, fun σ4 H4 δ4 s4 sd4 p4 => ⟨s2.trans s4, δ4, sd4, p4⟩⟩

/-! ### comprehensions -/
theorem lc_turn {H1 H' : Hp} {Dl : Addr} {g : TG} {te : TE} {vs : List Nat} {js : List Nat} {σ : L2.St} {x : V} {δ1 δ2 : Sls} {sx : Sl} {e : PD} {es : List PD} {i : Nat} (nD : H1 Dl = none) (s2 : Same H1 H') (sd : SD K H' (wipe σ vs) δ1) (hx : SlAt K H' (some x) sx) (hg : Eg K g js sx δ1 δ2) (hj : ∀ j ∈ js, j ∈ vs)
    (he : Ee K te δ2 (.d e)) (hei : es[i]? = some e) (hl : es.length ≤ 100000) (acc : ∃ xs, H' Dl = some (.lst xs) ∧ TpAll K H' xs (es.take i)) :
    g x (wipe σ vs) H' fun σ2 H2 => wipe σ2 vs = wipe σ vs ∧ tYes σ2 H2 fun b H3 =>
      if b = true then te σ2 H3 fun y H4 => ∃ acc, H4 Dl = some (.lst acc) ∧ acc.length < sizeLine ∧ (Same H1 (upd H4 Dl (.lst (acc ++ [y]))) ∧ ∃ xs, upd H4 Dl (.lst (acc ++ [y])) Dl = some (.lst xs) ∧ TpAll K (upd H4 Dl (.lst (acc ++ [y]))) xs (es.take (i + 1)))
      else (Same H1 H3 ∧ ∃ xs, H3 Dl = some (.lst xs) ∧ TpAll K H3 xs (es.take (i + 1))) := by
  refine hg _ H' x _ sd hx fun σ2 sd2 w2 => ⟨(w2 vs hj).trans (wipe_wipe σ vs), ?_⟩
  unfold tYes
  simp only [if_true]
  refine he σ2 H' _ sd2 fun y H4 s4 ⟨w, e1, ty⟩ => ?_
  cases e1
  obtain ⟨xs, h1, h2⟩ := acc
  have h1' := s4 _ _ h1
  refine ⟨xs, h1', ?_, ?_, xs ++ [y], upd_same, ?_⟩
  · have q := h2.length
    rw [List.length_take] at q
    have hi : i < es.length := (List.getElem?_eq_some_iff.mp hei).1
    exact sz5' (by omega)
  · exact same_upd2 (s2.trans s4) nD
  · rw [List.take_add_one, hei]
    exact ((h2.sm s4).app (.cons ty .nil)).mv (tt_lst h1')
theorem e_lcT {ts : TE} {g : TG} {vs js : List Nat} {ds es : List PD} {δ2 : PD → Sls} (hs : Ee K ts δ (.d (.tuple ds))) (hj : ∀ j ∈ js, j ∈ vs) (hlen : es.length = ds.length) (hl : es.length ≤ 100000)
    (he : ∀ (i : Nat) d, ds[i]? = some d → ∃ e, es[i]? = some e ∧ Eg K g js (.d d) (wipeS δ vs) (δ2 d) ∧ Ee K te (δ2 d) (.d e)) : Ee K (tLc (iTup K ts) g tYes te vs) δ (.l es) := fun σ H Q sd q => by
  refine hs σ H _ sd fun v H1 s1 ⟨w, e1, t1⟩ => ?_
  cases e1
  obtain ⟨a, xs, rfl, p1, p2⟩ := t1.t
  refine ⟨a, rfl, ⟨_, p1⟩, fun Dl nD => ?_⟩
  refine lc_tup (xs := xs) (Pv := fun i H' => Same H1 H' ∧ ∃ xs, H' Dl = some (.lst xs) ∧ TpAll K H' xs (es.take i)) ⟨same_upd nD, [], upd_same, .nil⟩ (fun i H' _ ⟨s2, _⟩ => Tk.sqt (Same.tt s2) p1) (fun i x H' hx ⟨s2, acc⟩ => ?_) (fun H' ⟨s2, acc⟩ => ?_)
  · obtain ⟨d, hd, tp⟩ := p2.getV hx
    obtain ⟨e, hei, hg, hee⟩ := he i d hd
    exact lc_turn (sx := .d _) nD s2 ((sd.sm (s1.trans s2)).wipe vs) ⟨_, rfl, tp.sm s2⟩ hg hj hee hei hl acc
  · obtain ⟨ys, h1, h2⟩ := acc
    rw [p2.length, ← hlen, List.take_length] at h2
    exact q _ H' (s1.trans s2) ⟨Dl, ys, rfl, h1, h2⟩
theorem e_lcL {ts : TE} {g : TG} {vs js : List Nat} {ds es : List PD} {δ2 : PD → Sls} (hs : Ee K ts δ (.l ds)) (hj : ∀ j ∈ js, j ∈ vs) (hlen : es.length = ds.length) (hl : es.length ≤ 100000)
    (he : ∀ (i : Nat) d, ds[i]? = some d → ∃ e, es[i]? = some e ∧ Eg K g js (.d d) (wipeS δ vs) (δ2 d) ∧ Ee K te (δ2 d) (.d e)) : Ee K (tLc (iList K ts) g tYes te vs) δ (.l es) := fun σ H Q sd q => by
  refine hs σ H _ sd fun v H1 s1 ⟨a, xs, e1, p1, p2⟩ => ?_
  cases e1
  refine ⟨a, rfl, ⟨_, SqL.of p1⟩, fun Dl nD => ?_⟩
  refine lc_list (xs := xs) (Pv := fun i H' => Same H1 H' ∧ ∃ xs, H' Dl = some (.lst xs) ∧ TpAll K H' xs (es.take i)) ⟨same_upd nD, [], upd_same, .nil⟩ (fun i H' _ ⟨s2, _⟩ => SqL.of (s2 _ _ p1)) (fun i x H' hx ⟨s2, acc⟩ => ?_) (fun H' ⟨s2, acc⟩ => ?_)
  · obtain ⟨d, hd, tp⟩ := p2.getV hx
    obtain ⟨e, hei, hg, hee⟩ := he i d hd
    exact lc_turn (sx := .d _) nD s2 ((sd.sm (s1.trans s2)).wipe vs) ⟨_, rfl, tp.sm s2⟩ hg hj hee hei hl acc
  · obtain ⟨ys, h1, h2⟩ := acc
    rw [p2.length, ← hlen, List.take_length] at h2
    exact q _ H' (s1.trans s2) ⟨Dl, ys, rfl, h1, h2⟩
theorem e_lcR {ta : TA} {g : TG} {vs js : List Nat} {n : Int} {es : List PD} {δ2 : Nat → Sls} (ha : Ea K ta δ [.d (.int n)]) (b2 : -1000000 ≤ n ∧ n ≤ 1000000) (hj : ∀ j ∈ js, j ∈ vs) (hlen : es.length = n.toNat) (hl : es.length ≤ 100000)
    (he : ∀ (i : Nat), i < n.toNat → ∃ e, es[i]? = some e ∧ Eg K g js (.d (.int (0 + i))) (wipeS δ vs) (δ2 i) ∧ Ee K te (δ2 i) (.d e)) : Ee K (tLc (iRng1 ta) g tYes te vs) δ (.l es) := fun σ H Q sd q => by
  refine ha σ H _ sd fun ws H1 s1 h => ?_
  match ws, h with
  | [v1], ⟨⟨w1, e1, t1⟩, _⟩ =>
    cases e1
    refine ⟨n, by rw [t1.i], by omega, by omega, fun Dl nD => ?_⟩
    refine lc_range (Pv := fun i H' => Same H1 H' ∧ ∃ xs, H' Dl = some (.lst xs) ∧ TpAll K H' xs (es.take i)) ⟨same_upd nD, [], upd_same, .nil⟩ (fun i H' hx ⟨s2, acc⟩ => ?_) (fun H' ⟨s2, acc⟩ => ?_)
    · obtain ⟨e, hei, hg, hee⟩ := he i hx
      exact lc_turn (sx := .d _) nD s2 ((sd.sm (s1.trans s2)).wipe vs) ⟨_, rfl, .int _⟩ hg hj hee hei hl acc
    · obtain ⟨ys, h1, h2⟩ := acc
      rw [← hlen, List.take_length] at h2
      exact q _ H' (s1.trans s2) ⟨Dl, ys, rfl, h1, h2⟩
  | [], h => exact h.elim
  | _ :: _ :: _, h => exact h.2.elim
end

/-! ### rules with the written part told (for comprehensions) -/
section
variable {X : Cx} {K : PySem.W.Frag}
theorem ix_tupK (h : X.K = K) : IxR X (rIxT K) := h ▸ ix_tup
theorem ix_listK (h : X.K = K) : IxR X (rIxL K) := h ▸ ix_list
theorem op_catK (h : X.K = K) : OpR X (binaryOp .Add) (rCatA K) := h ▸ op_catA
theorem call_lenK (h : X.K = K) : CallR X (.builtin "len") (rLenQ K) := h ▸ call_len_seq
theorem call_tupleK (h : X.K = K) : CallR X (.type "tuple") (rTupOf K) := h ▸ call_tuple_of
theorem pi_listK {tg l : Expr} {tl : TE} (h : X.K = K) (hl : PE X l tl) : PI X tg l (iList K tl) := h ▸ pi_list hl
theorem pi_tupK {tg l : Expr} {tl : TE} (h : X.K = K) (hl : PE X l tl) : PI X tg l (iTup K tl) := h ▸ pi_tup hl
theorem pg_tupK {es : List Expr} {k n : Nat} {t : TGs} {pos : Pos} (hK : X.K = K) (hc : X.calm = true) (h : PGs X es t)
    (hn : (assignEach es X.env).length = n := by rfl) (hst : (assignEach es X.env).findIdx? (·.1) = none := by rfl) : PG X (.Tuple es k pos) (gTup K n t) := hK ▸ pg_tup hc h hn hst
theorem sl_tupK (h : X.K = K) : SlR X (rSlA K) := h ▸ sl_tupA
end

/-! ### defs of the text -/
/-- the global def x keeps sp, at most k levels deep -/
def GOk (P : Program) (w : World) (K : PySem.W.Frag) (mg : Str → Option Value) (base : Heap) (k : Nat) (x : Str) (ps : List Str) (sp : Sp) : Prop :=
  ∃ f fd, mg x = some (.ref f) ∧ PySem.W.keepIn K (.ref f) = true ∧ Binds K fd ps [] ∧ FnOk P w K mg base CX0 k f fd ps sp
/-- the def x stands there as the text says -/
def GDef (K : PySem.W.Frag) (mg : Str → Option Value) (x : Str) (st : Stmt) (ps : List Str) : Prop := ∃ f fd, mg x = some (.ref f) ∧ Binds K fd ps [] ∧ Fun K x x st f fd
section
variable {P : Program} {w : World} {K : PySem.W.Frag} {mg : Str → Option Value} {base : Heap}
theorem GOk.mono {k j : Nat} {x : Str} {ps : List Str} {sp : Sp} (G : GOk P w K mg base k x ps sp) (h : k ≤ j) : GOk P w K mg base j x ps sp := by
  obtain ⟨f, fd, h1, h2, h3, F⟩ := G
  exact ⟨f, fd, h1, h2, h3, F.mono h⟩
theorem GOk.imp {k : Nat} {x : Str} {ps : List Str} {sp sp' : Sp} (G : GOk P w K mg base k x ps sp) (h : ∀ vs H Q E, sp' vs H Q E → sp vs H Q E) : GOk P w K mg base k x ps sp' := by
  obtain ⟨f, fd, h1, h2, h3, F⟩ := G
  exact ⟨f, fd, h1, h2, h3, F.imp h⟩
theorem pe_g {X : Cx} {k : Nat} {x : Str} {ps : List Str} {sp : Sp} {e : Expr} {es : List Expr} {t : TA} {p pos : Pos} (G : GOk X.prog X.w X.K X.mg X.base k x ps sp) (hr : Room k X.A) (hg : Gl X x) (ha : PA X (e :: es) t) (hdb : (x == ("__debug__" : Str)) = false := by decide)
    (he : starEach (e :: es) X.env = (false, eval e X.env) :: starEach es X.env := by rfl) (hpl : (backTo pos (starEach es X.env)).any (·.1) = false := by rfl) : PE X (.Call (.Name x p) (e :: es) [] pos) (tCall sp [] E0 t) := by
  obtain ⟨f, fd, h1, h2, h3, F⟩ := G
  exact pe_call F hr hg h1 h2 h3 .nil pass0 ha hdb he hpl
theorem g_ok {x : Str} {st : Stmt} {N ps : List Str} {k : Nat} {sp : Sp} (G : GDef K mg x st ps) (S : FnScope N ps (defScope st)) (len : ∀ vs H Q E, sp vs H Q E → vs.length = ps.length)
    (hbody : ∀ (f : Addr) (cdv : Value) (A : Around) (outer : List Env) (s : Shared) (H : Hp) (vs : List V) (Q : VK) (E : XK), Room k (A.deeper (envOfC x (defScope st) s.heap.objs.size f cdv)) → sp vs H Q E →
      ∃ t, PSs (cxOf CX0 P w K mg base N x (defScope st) f cdv A outer s H E).nox (defBody st) t ∧ t { nx := fun _ H' => Q .non H', rt := Q } (L2.start N vs) H) : GOk P w K mg base (k + 1) x ps sp := by
  obtain ⟨f, fd, h1, h2, F⟩ := G
  exact ⟨f, fd, h1, F.kp, h2, F.ok S len (hbody f)⟩
/-- a def told by data alone -/
theorem g_pure {x : Str} {st : Stmt} {N ps : List Str} {k : Nat} {R : Sls → Sl → Prop} (G : GDef K mg x st ps) (S : FnScope N ps (defScope st)) (len : ∀ ss s, R ss s → ss.length = ps.length)
    (hbody : ∀ (f : Addr) (cdv : Value) (A : Around) (outer : List Env) (s : Shared) (H : Hp) (E : XK), Room k (A.deeper (envOfC x (defScope st) s.heap.objs.size f cdv)) →
      ∃ t, PSs (cxOf CX0 P w K mg base N x (defScope st) f cdv A outer s H E).nox (defBody st) t ∧ ∀ ss s, R ss s → Es K t { nx := fun _ => s = .d .none, rt := fun s' => s' = s } (ss ++ List.replicate (N.length - ss.length) .no)) : GOk P w K mg base (k + 1) x ps (spD K R) := by
  refine g_ok G S (fun vs H Q E h => ?_) (fun f cdv A outer s H vs Q E hr h => ?_)
  · obtain ⟨ss, s, h1, h2, _⟩ := h
    rw [h1.length]
    exact len ss s h2
  · obtain ⟨t, ht, hb⟩ := hbody f cdv A outer s H E hr
    obtain ⟨ss, s', h1, h2, q⟩ := h
    refine ⟨t, ht, ?_⟩
    have sd := sd_start (K := K) (H := H) (N.length - ss.length) h1
    unfold L2.start
    rw [h1.length]
    exact hb ss s' h2 _ H _ sd ⟨fun σ' H' δ' s1 _ e => q _ H' s1 (by rw [e]; exact ⟨_, rfl, .non⟩), fun v H' x s1 hx e => q v H' s1 (by rw [← e]; exact hx), fun _ _ _ _ _ z => z.elim, fun _ _ _ _ _ z => z.elim⟩
end
end K80

/-! The text by places; what the top leaves. -/
namespace K80
open PySem PySem.Spec L2
open PyProof.Rows hiding St
def topS (i : Nat) : Stmt := PySem.Challenge.pw_boughbook_k80_whole_parted_far_down.main.body.getD i (.Pass ⟨0, 0, 0, 0⟩)
abbrev sKnotAt : Stmt := topS 7
abbrev nKnotAt : List Str := ["tree", "place", "k"]
theorem scKnotAt : FnScope nKnotAt ["tree", "place"] (defScope sKnotAt) := ⟨rfl, rfl, rfl, by decide +kernel, rfl, by decide +kernel, by decide +kernel⟩
abbrev sIsKnot : Stmt := topS 11
abbrev nIsKnot : List Str := ["thing"]
theorem scIsKnot : FnScope nIsKnot ["thing"] (defScope sIsKnot) := ⟨rfl, rfl, rfl, by decide +kernel, rfl, by decide +kernel, by decide +kernel⟩
abbrev sKnotsOf : Stmt := topS 12
abbrev nKnotsOf : List Str := ["pattern", "part"]
theorem scKnotsOf : FnScope nKnotsOf ["pattern"] (defScope sKnotsOf) := ⟨rfl, rfl, rfl, by decide +kernel, rfl, by decide +kernel, by decide +kernel⟩
abbrev sTallOf : Stmt := topS 13
abbrev nTallOf : List Str := ["pattern", "part"]
theorem scTallOf : FnScope nTallOf ["pattern"] (defScope sTallOf) := ⟨rfl, rfl, rfl, by decide +kernel, rfl, by decide +kernel, by decide +kernel⟩
abbrev sCallsIn : Stmt := topS 14
abbrev nCallsIn : List Str := ["pattern", "found", "k", "place", "call"]
theorem scCallsIn : FnScope nCallsIn ["pattern"] (defScope sCallsIn) := ⟨rfl, rfl, rfl, by decide +kernel, rfl, by decide +kernel, by decide +kernel⟩
abbrev sFilled : Stmt := topS 15
abbrev nFilled : List Str := ["pattern", "table", "part"]
theorem scFilled : FnScope nFilled ["pattern", "table"] (defScope sFilled) := ⟨rfl, rfl, rfl, by decide +kernel, rfl, by decide +kernel, by decide +kernel⟩
abbrev sHolesIn : Stmt := topS 16
abbrev nHolesIn : List Str := ["front", "found", "k", "place"]
theorem scHolesIn : FnScope nHolesIn ["front"] (defScope sHolesIn) := ⟨rfl, rfl, rfl, by decide +kernel, rfl, by decide +kernel, by decide +kernel⟩
abbrev sLikeKnots : Stmt := topS 17
abbrev nLikeKnots : List Str := ["one", "two"]
theorem scLikeKnots : FnScope nLikeKnots ["one", "two"] (defScope sLikeKnots) := ⟨rfl, rfl, rfl, by decide +kernel, rfl, by decide +kernel, by decide +kernel⟩
abbrev sHungBy : Stmt := topS 18
abbrev nHungBy : List Str := ["front", "parts", "used", "made", "k", "part"]
theorem scHungBy : FnScope nHungBy ["front", "parts", "used"] (defScope sHungBy) := ⟨rfl, rfl, rfl, by decide +kernel, rfl, by decide +kernel, by decide +kernel⟩
abbrev sHung : Stmt := topS 19
abbrev nHung : List Str := ["front", "parts"]
theorem scHung : FnScope nHung ["front", "parts"] (defScope sHung) := ⟨rfl, rfl, rfl, by decide +kernel, rfl, by decide +kernel, by decide +kernel⟩
abbrev sSmallPattern : Stmt := topS 25
abbrev nSmallPattern : List Str := ["pattern"]
theorem scSmallPattern : FnScope nSmallPattern ["pattern"] (defScope sSmallPattern) := ⟨rfl, rfl, rfl, by decide +kernel, rfl, by decide +kernel, by decide +kernel⟩
abbrev sPatternOf : Stmt := topS 26
abbrev nPatternOf : List Str := ["book", "state", "name", "at"]
theorem scPatternOf : FnScope nPatternOf ["book", "state", "name"] (defScope sPatternOf) := ⟨rfl, rfl, rfl, by decide +kernel, rfl, by decide +kernel, by decide +kernel⟩
abbrev sKnotWith : Stmt := topS 29
abbrev nKnotWith : List Str := ["kind", "leaf", "kid", "tree", "made", "k"]
theorem scKnotWith : FnScope nKnotWith ["kind", "leaf", "kid", "tree"] (defScope sKnotWith) := ⟨rfl, rfl, rfl, by decide +kernel, rfl, by decide +kernel, by decide +kernel⟩
abbrev sNarrowedBy : Stmt := topS 30
abbrev nNarrowedBy : List Str := ["front", "other", "kind", "leaf", "kid", "made", "k"]
theorem scNarrowedBy : FnScope nNarrowedBy ["front", "other", "kind", "leaf", "kid"] (defScope sNarrowedBy) := ⟨rfl, rfl, rfl, by decide +kernel, rfl, by decide +kernel, by decide +kernel⟩
abbrev sNarrowed : Stmt := topS 31
abbrev nNarrowed : List Str := ["front", "pattern", "fronts", "kind", "leaf", "made", "k"]
theorem scNarrowed : FnScope nNarrowed ["front", "pattern", "fronts", "kind", "leaf"] (defScope sNarrowed) := ⟨rfl, rfl, rfl, by decide +kernel, rfl, by decide +kernel, by decide +kernel⟩
abbrev sFirstLeaf : Stmt := topS 32
abbrev nFirstLeaf : List Str := ["ins", "at"]
theorem scFirstLeaf : FnScope nFirstLeaf ["ins"] (defScope sFirstLeaf) := ⟨rfl, rfl, rfl, by decide +kernel, rfl, by decide +kernel, by decide +kernel⟩
abbrev sPartedFronts : Stmt := topS 33
abbrev nPartedFronts : List Str := ["book", "at", "leaf", "fronts", "row", "order", "turned", "state", "front", "kind", "pattern"]
theorem scPartedFronts : FnScope nPartedFronts ["book"] (defScope sPartedFronts) := ⟨rfl, rfl, rfl, by decide +kernel, rfl, by decide +kernel, by decide +kernel⟩
abbrev sBare : Stmt := topS 34
abbrev nBare : List Str := ["front", "part"]
theorem scBare : FnScope nBare ["front"] (defScope sBare) := ⟨rfl, rfl, rfl, by decide +kernel, rfl, by decide +kernel, by decide +kernel⟩
abbrev sPairsAt : Stmt := topS 35
abbrev nPairsAt : List Str := ["front", "found", "part"]
theorem scPairsAt : FnScope nPairsAt ["front"] (defScope sPairsAt) := ⟨rfl, rfl, rfl, by decide +kernel, rfl, by decide +kernel, by decide +kernel⟩
abbrev sFrontsOf : Stmt := topS 36
abbrev nFrontsOf : List Str := ["book", "front"]
theorem scFrontsOf : FnScope nFrontsOf ["book"] (defScope sFrontsOf) := ⟨rfl, rfl, rfl, by decide +kernel, rfl, by decide +kernel, by decide +kernel⟩
abbrev sPartingsOf : Stmt := topS 37
abbrev nPartingsOf : List Str := ["book", "front"]
theorem scPartingsOf : FnScope nPartingsOf ["book"] (defScope sPartingsOf) := ⟨rfl, rfl, rfl, by decide +kernel, rfl, by decide +kernel, by decide +kernel⟩
abbrev sMetIn : Stmt := topS 39
abbrev nMetIn : List Str := ["pattern", "numbers", "place", "call"]
theorem scMetIn : FnScope nMetIn ["pattern", "numbers"] (defScope sMetIn) := ⟨rfl, rfl, rfl, by decide +kernel, rfl, by decide +kernel, by decide +kernel⟩
abbrev sRenamed : Stmt := topS 40
abbrev nRenamed : List Str := ["pattern", "numbers", "table", "place", "call"]
theorem scRenamed : FnScope nRenamed ["pattern", "numbers"] (defScope sRenamed) := ⟨rfl, rfl, rfl, by decide +kernel, rfl, by decide +kernel, by decide +kernel⟩
abbrev sNumbered : Stmt := topS 41
abbrev nNumbered : List Str := ["head", "patterns_of", "most", "numbers", "met", "rules", "patterns", "pattern", "told"]
theorem scNumbered : FnScope nNumbered ["head", "patterns_of", "most"] (defScope sNumbered) := ⟨rfl, rfl, rfl, by decide +kernel, rfl, by decide +kernel, by decide +kernel⟩
abbrev sEarly : Stmt := topS 43
abbrev nEarly : List Str := ["pattern", "fronts", "table", "place", "call", "front", "parts", "hole"]
theorem scEarly : FnScope nEarly ["pattern", "fronts"] (defScope sEarly) := ⟨rfl, rfl, rfl, by decide +kernel, rfl, by decide +kernel, by decide +kernel⟩
abbrev sLookedAt : Stmt := topS 44
abbrev nLookedAt : List Str := ["pattern"]
theorem scLookedAt : FnScope nLookedAt ["pattern"] (defScope sLookedAt) := ⟨rfl, rfl, rfl, by decide +kernel, rfl, by decide +kernel, by decide +kernel⟩
abbrev sEarliest : Stmt := topS 45
abbrev nEarliest : List Str := ["book", "fronts", "patterns_of", "head", "rules"]
theorem scEarliest : FnScope nEarliest ["book"] (defScope sEarliest) := ⟨rfl, rfl, rfl, by decide +kernel, rfl, by decide +kernel, by decide +kernel⟩
abbrev sSeenAt : Stmt := topS 47
abbrev nSeenAt : List Str := ["book", "pattern", "trees", "place", "at", "tree"]
theorem scSeenAt : FnScope nSeenAt ["book", "pattern", "trees", "place"] (defScope sSeenAt) := ⟨rfl, rfl, rfl, by decide +kernel, rfl, by decide +kernel, by decide +kernel⟩
abbrev sPeekedBy : Stmt := topS 48
abbrev nPeekedBy : List Str := ["book", "state", "tree", "place"]
theorem scPeekedBy : FnScope nPeekedBy ["book", "state", "tree", "place"] (defScope sPeekedBy) := ⟨rfl, rfl, rfl, by decide +kernel, rfl, by decide +kernel, by decide +kernel⟩
abbrev sSideBySide : Stmt := topS 50
abbrev nSideBySide : List Str := ["one", "two", "place", "calls", "k", "parting"]
theorem scSideBySide : FnScope nSideBySide ["one", "two", "place", "calls"] (defScope sSideBySide) := ⟨rfl, rfl, rfl, by decide +kernel, rfl, by decide +kernel, by decide +kernel⟩
abbrev sNoted : Stmt := topS 51
abbrev nNoted : List Str := ["row", "known", "calls", "came", "kind", "place", "one", "two"]
theorem scNoted : FnScope nNoted ["row", "known", "calls", "came", "kind"] (defScope sNoted) := ⟨rfl, rfl, rfl, by decide +kernel, rfl, by decide +kernel, by decide +kernel⟩
abbrev sMetPairs : Stmt := topS 52
abbrev nMetPairs : List Str := ["one", "two", "calls", "place", "row", "known", "at", "pair", "k"]
theorem scMetPairs : FnScope nMetPairs ["one", "two"] (defScope sMetPairs) := ⟨rfl, rfl, rfl, by decide +kernel, rfl, by decide +kernel, by decide +kernel⟩
abbrev sOneKind : Stmt := topS 53
abbrev nOneKind : List Str := ["one", "two"]
theorem scOneKind : FnScope nOneKind ["one", "two"] (defScope sOneKind) := ⟨rfl, rfl, rfl, by decide +kernel, rfl, by decide +kernel, by decide +kernel⟩
abbrev sPairsOf : Stmt := topS 54
abbrev nPairsOf : List Str := ["one", "two", "row", "parting", "pair", "came"]
theorem scPairsOf : FnScope nPairsOf ["one", "two"] (defScope sPairsOf) := ⟨rfl, rfl, rfl, by decide +kernel, rfl, by decide +kernel, by decide +kernel⟩
abbrev sAlike : Stmt := topS 55
abbrev nAlike : List Str := ["one", "two", "first"]
theorem scAlike : FnScope nAlike ["one", "two"] (defScope sAlike) := ⟨rfl, rfl, rfl, by decide +kernel, rfl, by decide +kernel, by decide +kernel⟩
abbrev sTreeUnlike : Stmt := topS 56
abbrev nTreeUnlike : List Str := ["book", "call", "name", "pair"]
theorem scTreeUnlike : FnScope nTreeUnlike ["book", "call", "name"] (defScope sTreeUnlike) := ⟨rfl, rfl, rfl, by decide +kernel, rfl, by decide +kernel, by decide +kernel⟩
abbrev sKidFor : Stmt := topS 57
abbrev nKidFor : List Str := ["one", "two", "things", "leaf", "first", "second"]
theorem scKidFor : FnScope nKidFor ["one", "two", "things", "leaf"] (defScope sKidFor) := ⟨rfl, rfl, rfl, by decide +kernel, rfl, by decide +kernel, by decide +kernel⟩
abbrev sPatternsAt : Stmt := topS 58
abbrev nPatternsAt : List Str := ["one", "two", "row", "parting", "at", "k", "place", "pair"]
theorem scPatternsAt : FnScope nPatternsAt ["one", "two", "row", "parting"] (defScope sPatternsAt) := ⟨rfl, rfl, rfl, by decide +kernel, rfl, by decide +kernel, by decide +kernel⟩
abbrev sParted : Stmt := topS 59
abbrev nParted : List Str := ["one", "two", "first", "second", "row", "parting", "at", "k", "place", "leaf", "patterns", "things", "kid", "tree", "ahead"]
theorem scParted : FnScope nParted ["one", "two"] (defScope sParted) := ⟨rfl, rfl, rfl, by decide +kernel, rfl, by decide +kernel, by decide +kernel⟩
abbrev sLCell : Stmt := topS 61
abbrev nLCell : List Str := ["script", "k"]
theorem scLCell : FnScope nLCell ["script", "k"] (defScope sLCell) := ⟨rfl, rfl, rfl, by decide +kernel, rfl, by decide +kernel, by decide +kernel⟩
abbrev sLFolded : Stmt := topS 62
abbrev nLFolded : List Str := ["cells", "many", "found", "k"]
theorem scLFolded : FnScope nLFolded ["cells", "many"] (defScope sLFolded) := ⟨rfl, rfl, rfl, by decide +kernel, rfl, by decide +kernel, by decide +kernel⟩
abbrev sLNames : Stmt := topS 63
abbrev nLNames : List Str := ["cell", "every", "step", "at", "word", "k", "names", "turn"]
theorem scLNames : FnScope nLNames ["cell"] (defScope sLNames) := ⟨rfl, rfl, rfl, by decide +kernel, rfl, by decide +kernel, by decide +kernel⟩
abbrev sLNameAt : Stmt := topS 64
abbrev nLNameAt : List Str := ["book", "state", "tree", "place", "names", "kind", "thing", "at"]
theorem scLNameAt : FnScope nLNameAt ["book", "state", "tree", "place"] (defScope sLNameAt) := ⟨rfl, rfl, rfl, by decide +kernel, rfl, by decide +kernel, by decide +kernel⟩
abbrev sLOutcomeName : Stmt := topS 65
abbrev nLOutcomeName : List Str := ["book", "tree", "place", "thing", "at"]
theorem scLOutcomeName : FnScope nLOutcomeName ["book", "tree", "place"] (defScope sLOutcomeName) := ⟨rfl, rfl, rfl, by decide +kernel, rfl, by decide +kernel, by decide +kernel⟩
abbrev sLIsTree : Stmt := topS 66
abbrev nLIsTree : List Str := ["ins", "tree", "most", "waiting", "many", "knot", "deep", "kid"]
theorem scLIsTree : FnScope nLIsTree ["ins", "tree", "most"] (defScope sLIsTree) := ⟨rfl, rfl, rfl, by decide +kernel, rfl, by decide +kernel, by decide +kernel⟩
abbrev sLShows : Stmt := topS 67
abbrev nLShows : List Str := ["one", "two", "found", "number", "first", "second"]
theorem scLShows : FnScope nLShows ["one", "two", "found"] (defScope sLShows) := ⟨rfl, rfl, rfl, by decide +kernel, rfl, by decide +kernel, by decide +kernel⟩
abbrev sLChain : Stmt := topS 68
abbrev nLChain : List Str := ["script", "outs", "ins", "last", "turn", "states", "cells", "rules", "k", "state", "call", "head"]
theorem scLChain : FnScope nLChain ["script", "outs", "ins", "last", "turn"] (defScope sLChain) := ⟨rfl, rfl, rfl, by decide +kernel, rfl, by decide +kernel, by decide +kernel⟩
abbrev sLRound : Stmt := topS 69
abbrev nLRound : List Str := ["states", "outs", "ins", "rules", "k"]
theorem scLRound : FnScope nLRound ["states", "outs", "ins"] (defScope sLRound) := ⟨rfl, rfl, rfl, by decide +kernel, rfl, by decide +kernel, by decide +kernel⟩
abbrev sLRounds : Stmt := topS 70
abbrev nLRounds : List Str := ["outs", "ins", "many", "more", "one", "two", "due"]
theorem scLRounds : FnScope nLRounds ["outs", "ins", "many", "more"] (defScope sLRounds) := ⟨rfl, rfl, rfl, by decide +kernel, rfl, by decide +kernel, by decide +kernel⟩
abbrev sLaw : Stmt := topS 71
abbrev nLaw : List Str := ["script", "names", "outs", "ins", "lasts", "one", "two", "found", "back", "told"]
theorem scLaw : FnScope nLaw ["script"] (defScope sLaw) := ⟨rfl, rfl, rfl, by decide +kernel, rfl, by decide +kernel, by decide +kernel⟩
/-- the module's constant ('*',) -/
def IsHole (K : PySem.W.Frag) (a : Addr) : Prop := ∃ (o : Obj) (its : Array Value) (n : Nat), K.lookup a = some o ∧ o.cls = .type "tuple" ∧ o.data = .seq its n ∧ its.size ≤ sizeLine ∧ Vals [.str "*"] its.toList
structure Top (K : PySem.W.Frag) (mg : Str → Option Value) : Prop where
  d_knot_at : GDef K mg "knot_at" sKnotAt ["tree", "place"]
  d_is_knot : GDef K mg "is_knot" sIsKnot ["thing"]
  d_knots_of : GDef K mg "knots_of" sKnotsOf ["pattern"]
  d_tall_of : GDef K mg "tall_of" sTallOf ["pattern"]
  d_calls_in : GDef K mg "calls_in" sCallsIn ["pattern"]
  d_filled : GDef K mg "filled" sFilled ["pattern", "table"]
  d_holes_in : GDef K mg "holes_in" sHolesIn ["front"]
  d_like_knots : GDef K mg "like_knots" sLikeKnots ["one", "two"]
  d_hung_by : GDef K mg "hung_by" sHungBy ["front", "parts", "used"]
  d_hung : GDef K mg "hung" sHung ["front", "parts"]
  d_small_pattern : GDef K mg "small_pattern" sSmallPattern ["pattern"]
  d_pattern_of : GDef K mg "pattern_of" sPatternOf ["book", "state", "name"]
  d_knot_with : GDef K mg "knot_with" sKnotWith ["kind", "leaf", "kid", "tree"]
  d_narrowed_by : GDef K mg "narrowed_by" sNarrowedBy ["front", "other", "kind", "leaf", "kid"]
  d_narrowed : GDef K mg "narrowed" sNarrowed ["front", "pattern", "fronts", "kind", "leaf"]
  d_first_leaf : GDef K mg "first_leaf" sFirstLeaf ["ins"]
  d_parted_fronts : GDef K mg "parted_fronts" sPartedFronts ["book"]
  d_bare : GDef K mg "bare" sBare ["front"]
  d_pairs_at : GDef K mg "pairs_at" sPairsAt ["front"]
  d_fronts_of : GDef K mg "fronts_of" sFrontsOf ["book"]
  d_partings_of : GDef K mg "partings_of" sPartingsOf ["book"]
  d_met_in : GDef K mg "met_in" sMetIn ["pattern", "numbers"]
  d_renamed : GDef K mg "renamed" sRenamed ["pattern", "numbers"]
  d_numbered : GDef K mg "numbered" sNumbered ["head", "patterns_of", "most"]
  d_early : GDef K mg "early" sEarly ["pattern", "fronts"]
  d_looked_at : GDef K mg "looked_at" sLookedAt ["pattern"]
  d_seen_at : GDef K mg "seen_at" sSeenAt ["book", "pattern", "trees", "place"]
  d_peeked_by : GDef K mg "peeked_by" sPeekedBy ["book", "state", "tree", "place"]
  d_side_by_side : GDef K mg "side_by_side" sSideBySide ["one", "two", "place", "calls"]
  d_noted : GDef K mg "noted" sNoted ["row", "known", "calls", "came", "kind"]
  d_met_pairs : GDef K mg "met_pairs" sMetPairs ["one", "two"]
  d_one_kind : GDef K mg "one_kind" sOneKind ["one", "two"]
  d_pairs_of : GDef K mg "pairs_of" sPairsOf ["one", "two"]
  d_alike : GDef K mg "alike" sAlike ["one", "two"]
  d_tree_unlike : GDef K mg "tree_unlike" sTreeUnlike ["book", "call", "name"]
  d_kid_for : GDef K mg "kid_for" sKidFor ["one", "two", "things", "leaf"]
  d_patterns_at : GDef K mg "patterns_at" sPatternsAt ["one", "two", "row", "parting"]
  d_parted : GDef K mg "parted" sParted ["one", "two"]
  d_law_cell : GDef K mg "_law_cell" sLCell ["script", "k"]
  d_law_folded : GDef K mg "_law_folded" sLFolded ["cells", "many"]
  d_law_names : GDef K mg "_law_names" sLNames ["cell"]
  d_law_name_at : GDef K mg "_law_name_at" sLNameAt ["book", "state", "tree", "place"]
  d_law_outcome_name : GDef K mg "_law_outcome_name" sLOutcomeName ["book", "tree", "place"]
  d_law_is_tree : GDef K mg "_law_is_tree" sLIsTree ["ins", "tree", "most"]
  d_law_shows : GDef K mg "_law_shows" sLShows ["one", "two", "found"]
  d_law_chain : GDef K mg "_law_chain" sLChain ["script", "outs", "ins", "last", "turn"]
  d_law_round : GDef K mg "_law_round" sLRound ["states", "outs", "ins"]
  d_law_rounds : GDef K mg "_law_rounds" sLRounds ["outs", "ins", "many", "more"]
  d_law : GDef K mg "law" sLaw ["script"]
  c_CALL : ∃ t, mg "CALL" = some (.str "?" t)
  c_HOLED : ∃ t, mg "HOLED" = some (.str "*" t)
  c_MOST_STATES : ∃ t, mg "MOST_STATES" = some (.int 20 t)
  c_MOST_KNOTS : ∃ t, mg "MOST_KNOTS" = some (.int 400 t)
  c_MOST_CALLS : ∃ t, mg "MOST_CALLS" = some (.int 200 t)
  c_TALLEST : ∃ t, mg "TALLEST" = some (.int 20 t)
  c_HOLE : ∃ a, mg "HOLE" = some (.ref a) ∧ IsHole K a
  b_len : mg "len" = none
  b_range : mg "range" = none
  b_sum : mg "sum" = none
  b_max : mg "max" = none
  b_tuple : mg "tuple" = none
  b_list : mg "list" = none
  b_zip : mg "zip" = none
  b_isinstance : mg "isinstance" = none
  b_str : mg "str" = none
  b_int : mg "int" = none
  b_bool : mg "bool" = none
def hHole : PD := .tuple [.str "*"]
theorem IsHole.tp {K : PySem.W.Frag} {a : Addr} (h : IsHole K a) (H : Hp) : Tp K H (.ref a) hHole := .tup (.inr h) (.cons (.str _) .nil)
section
variable {X : Cx} {x : Str} {pos : Pos}
theorem pe_gS {z : Str} (hg : Gl X x) (h : ∃ t, X.mg x = some (.str z t)) (hd : (x == ("__debug__" : Str)) = false := by decide) : PE X (.Name x pos) (tC (.str z)) := by
  obtain ⟨t, h⟩ := h
  exact pe_glob hg h ⟨_, rfl⟩ hd
theorem pe_gI {z : Int} (hg : Gl X x) (h : ∃ t, X.mg x = some (.int z t)) (hd : (x == ("__debug__" : Str)) = false := by decide) : PE X (.Name x pos) (tC (.int z)) := by
  obtain ⟨t, h⟩ := h
  exact pe_glob hg h ⟨_, rfl⟩ hd
/-- HOLE -/
def tHole (K : PySem.W.Frag) : TE := fun _ H Q => ∀ v, (∀ H', Tp K H' v hHole) → Q v H
theorem pe_gR (hg : Gl X x) (h : ∃ a, X.mg x = some (.ref a) ∧ IsHole X.K a) (hd : (x == ("__debug__" : Str)) = false := by decide) : PE X (.Name x pos) (tHole X.K) := by
  obtain ⟨a, h, hh⟩ := h
  exact ⟨fun pins s σ H Q I q => ld_glob I hg h ⟨.ref a, H, I, rfl, q _ fun H' => hh.tp H'⟩ hd⟩
theorem e_hole {K : PySem.W.Frag} {δ : Sls} : Ee K (tHole K) δ (.d hHole) := fun σ H Q sd q v hv => q v H (Same.refl H) ⟨v, rfl, hv H⟩
end
end K80

/-! max(l, default=d) of a list of at most one int. -/
namespace K80
open PySem PySem.Spec L2
open PyProof.Rows hiding St
theorem args_max1d (a d : Value) : argsOk "max" ⟨[a], [(Str.ofString "default", d)]⟩ := by unfold argsOk; first | rfl | kernel_rfl
section
variable {prog : Program} {w : World} {A : Around} {E : Value → Shared → Prop} {s : Shared}
theorem call_function_treeK {id : String} {b : Builtin} {args : List Value} {kw : List (Str × Value)} {Q : Value → Shared → Prop} (hk : builtinKind id = none) (hp : plainId id = true)
    (hb : entryFor table id = some b) (ha : argsOk id ⟨args, kw⟩)
    (hc : wpAny (model prog w) A.in1 (b ⟨args, kw⟩) (fun fin s' => match fin with
      | .done f => (match (Except.ok f : Result) with | .ok (.ret v) => Q v s' | .ok _ => False | .error e => E e s')
      | .again c' => c'.quiet = true ∧ codeAny (model prog w) A c' (fun r s' => match r with | .ok (.ret v) => Q v s' | .ok _ => False | .error e => E e s') s') E s) :
    wpAny (model prog w) A (call (.builtin id) args kw) Q E s := by
  refine wpAny_call (codeAny_call_builtin hp hb ?_)
  simp only [checkBuiltinCall, hk]
  cases hsig : Manifest.signature? id with
  | none => exact wpAny_pure hc
  | some sig =>
    simp only [argsOk, hsig] at ha
    have h2 : Bind.checkArgs id sig ⟨args, kw⟩ = pure () := ha
    simp only [h2]
    exact wpAny_pure hc
theorem loop_fin {I S : Addr} {fp wr : List Addr} {n : Nat} {P : Nat → Value → Prop} {Stt : Nat → Heap → Prop} {R : Result → Shared → Prop} {kw : List (Str × Value)} {vb : Value} {c : Nat} {s : Shared} (W : Walks prog w A.in1 I fp wr n P Stt) (hSf : S ∉ fp) (hst : Stt n s.heap)
    (hS : s.heap.get? S = some { cls := .type "list", dict := none, data := .seq #[vb, vb] c, slots := #[] })
    (hR : ∀ h' tk, (∀ b o, b ∉ wr → b ≠ S → s.heap.get? b = some o → h'.get? b = some o) → R (.ok (.ret vb)) { s with heap := h', toks := tk }) :
    codeAny (model prog w) A (.builtin "max.loop" ⟨[.ref I, .none, .ref S], kw⟩) R s := by
  have hSw : S ∉ wr := fun h => hSf (W.sub _ h)
  refine codeAny_builtin F.entry_max_loop ?_
  rw [Around.under_plainId F.plain_max_loop _]
  show wpAny _ A.in1 (seqItems? (.ref S) >>= _) _ _ s
  refine wpAny_bind (wpAny_seqItems hS rfl ?_)
  show wpAny _ A.in1 (tryCatch (pyNext (.ref I)) _ >>= _) _ _ s
  refine wpAny_bind (wpAny_tryCatch (W.done s _ _ hst fun h' tk hk' => ?_))
  have hS' := hk' S _ hSw hS
  show wpAny _ A.in1 (updateSeq S (fun _ => #[]) >>= _) _ _ _
  refine wpAny_bind ?_
  refine wpAny_updateSeq hS' rfl (wpAny_bind (wpAny_letGo (wpAny_pure ?_)))
  refine hR _ tk fun b o hbw hbS e => (Heap.get?_update_other _ _ (Ne.symm hbS)).trans (hk' b o hbw e)
theorem loop_dflt {I S : Addr} {fp wr : List Addr} {P : Nat → Value → Prop} {Stt : Nat → Heap → Prop} {R : Result → Shared → Prop} {d : Value} {c : Nat} {s : Shared} (W : Walks prog w A.in1 I fp wr 0 P Stt) (hSf : S ∉ fp) (hst : Stt 0 s.heap)
    (hS : s.heap.get? S = some { cls := .type "list", dict := none, data := .seq #[] c, slots := #[] })
    (hR : ∀ h' tk, (∀ b o, b ∉ wr → b ≠ S → s.heap.get? b = some o → h'.get? b = some o) → R (.ok (.ret d)) { s with heap := h', toks := tk }) :
    codeAny (model prog w) A (.builtin "max.loop" ⟨[.ref I, .none, .ref S], [(Str.ofString "default", d)]⟩) R s := by
  have hSw : S ∉ wr := fun h => hSf (W.sub _ h)
  refine codeAny_builtin F.entry_max_loop ?_
  rw [Around.under_plainId F.plain_max_loop _]
  show wpAny _ A.in1 (seqItems? (.ref S) >>= _) _ _ s
  refine wpAny_bind (wpAny_seqItems hS rfl ?_)
  show wpAny _ A.in1 (tryCatch (pyNext (.ref I)) _ >>= _) _ _ s
  refine wpAny_bind (wpAny_tryCatch (W.done s _ _ hst fun h' tk hk' => ?_))
  refine wpAny_bind (wpAny_rule (wpAny_pure ?_))
  exact hR _ tk fun b o hbw _ e => hk' b o hbw e
theorem loop_one {I S : Addr} {fp wr : List Addr} {P : Nat → Value → Prop} {Stt : Nat → Heap → Prop} {R : Result → Shared → Prop} {kw : List (Str × Value)} {c : Nat} {s : Shared} (W : Walks prog w A.in1 I fp wr 1 P Stt) (hSf : S ∉ fp) (hst : Stt 0 s.heap)
    (hS : s.heap.get? S = some { cls := .type "list", dict := none, data := .seq #[] c, slots := #[] })
    (hR : ∀ v h' tk, P 0 v → (∀ b o, b ∉ wr → b ≠ S → s.heap.get? b = some o → h'.get? b = some o) → R (.ok (.ret v)) { s with heap := h', toks := tk }) :
    codeAny (model prog w) A (.builtin "max.loop" ⟨[.ref I, .none, .ref S], kw⟩) R s := by
  have hSw : S ∉ wr := fun h => hSf (W.sub _ h)
  have hname : (toString "max" ++ toString ".loop" : String) = "max.loop" := by decide
  refine codeAny_builtin F.entry_max_loop ?_
  rw [Around.under_plainId F.plain_max_loop _]
  show wpAny _ A.in1 (seqItems? (.ref S) >>= _) _ _ s
  refine wpAny_bind (wpAny_seqItems hS rfl ?_)
  show wpAny _ A.in1 (tryCatch (pyNext (.ref I)) _ >>= _) _ _ s
  refine wpAny_bind (wpAny_tryCatch (W.item 0 s _ _ (by decide) hst fun v h' tk hP hst' hk' => ?_))
  have hS' := hk' S _ hSw hS
  show wpAny _ A.in1 (updateSeq S (fun _ => #[v, v]) >>= _) _ _ _
  refine wpAny_bind ?_
  refine wpAny_updateSeq hS' rfl ?_
  rw [hname]
  refine wpAny_pure ⟨plainId_quiet F.plain_max_loop _, loop_fin W hSf (W.frame _ _ _ hst' fun b hbf o e => ?_) (Heap.get?_update_self _ hS' rfl) fun h'' tk'' hk'' => ?_⟩
  · exact (Heap.get?_update_other _ _ (fun h : S = b => hSf (by rw [h]; exact hbf))).trans e
  · exact hR v h'' tk'' hP fun b o hbw hbS e => hk'' b o hbw hbS ((Heap.get?_update_other _ _ (Ne.symm hbS)).trans (hk' b o hbw e))
theorem call_max_d {l : Addr} {its : List Value} {d : Value} {Q : Value → Shared → Prop} (hh : A.handled = none) (hl : s.heap.IsList l its.toArray) (h1 : its.length ≤ 1)
    (h : ∀ h' tk, (∀ b o, s.heap.get? b = some o → h'.get? b = some o) → Q (its.headD d) { s with heap := h', toks := tk }) :
    wpAny (model prog w) A (call (.builtin "max") [.ref l] [(Str.ofString "default", d)]) Q E s := by
  have hname : (toString "max" ++ toString ".loop" : String) = "max.loop" := by decide
  have hlt : l < s.heap.objs.size := by obtain ⟨_, e, _⟩ := hl; exact Heap.lt_size e
  refine call_function_treeK F.kind_max F.plain_max F.entry_max (args_max1d _ _) ?_
  show wpAny _ A.in1 (Builtin.Builtins.bindParams "max" ["key", "default"] 0 ⟨[], [(Str.ofString "default", d)]⟩ >>= _) _ _ s
  refine wpAny_bind (wpAny_of_eq (show Builtin.Builtins.bindParams "max" ["key", "default"] 0 ⟨[], [(Str.ofString "default", d)]⟩ = pure [none, some d] by first | rfl | kernel_rfl) ?_)
  refine wpAny_bind (wpAny_pure ?_)
  refine wpAny_bind (wpAny_pyIter_list hl ?_)
  refine wpAny_bind (wpAny_newObj_type ?_)
  rw [hname]
  have hl2 : (s.heap.push { cls := .type "list_iterator", data := .fields #[.ref l, .int 0 0] }).IsList l its.toArray := hl.push _
  have hIt : ((s.heap.push { cls := .type "list_iterator", data := .fields #[.ref l, .int 0 0] }).push { cls := .type "list", data := .seq #[] }).IsListIter s.heap.objs.size l 0 := ⟨_, Heap.get?_push_of_some _ (Heap.get?_push_size _ rfl), rfl, rfl⟩
  have hSz : (s.heap.push { cls := .type "list_iterator", data := .fields #[.ref l, .int 0 0] }).objs.size = s.heap.objs.size + 1 := Heap.size_push ..
  have W := Walks.list (prog := prog) (w := w) (A := A.in1) hh s.heap.objs.size l (Nat.ne_of_lt hlt) its.toArray
  have hSf : (s.heap.push { cls := .type "list_iterator", data := .fields #[.ref l, .int 0 0] }).objs.size ∉ [s.heap.objs.size, l] := fun hm => by
    rw [hSz] at hm
    rcases List.mem_cons.mp hm with e | hm
    · exact absurd e (Nat.succ_ne_self _)
    · rcases List.mem_cons.mp hm with e | hm
      · rw [← e] at hlt
        exact absurd hlt (Nat.not_lt.mpr (Nat.le_succ _))
      · cases hm
  have kept : ∀ h' : Heap, (∀ b o, b ∉ [s.heap.objs.size] → b ≠ (s.heap.push { cls := .type "list_iterator", data := .fields #[.ref l, .int 0 0] }).objs.size → ((s.heap.push { cls := .type "list_iterator", data := .fields #[.ref l, .int 0 0] }).push { cls := .type "list", data := .seq #[] }).get? b = some o → h'.get? b = some o) →
      ∀ b o, s.heap.get? b = some o → h'.get? b = some o := fun h' hk b o e => by
    have hb : (b : Nat) < s.heap.objs.size := Heap.lt_size e
    refine hk b o (fun hm => ?_) (by rw [hSz]; exact Nat.ne_of_lt (Nat.lt_succ_of_lt hb)) (Heap.get?_push_of_some _ (Heap.get?_push_of_some _ e))
    rcases List.mem_cons.mp hm with e1 | hm
    · exact absurd e1 (Nat.ne_of_lt hb)
    · cases hm
  refine wpAny_pure ⟨plainId_quiet F.plain_max_loop _, ?_⟩
  match its, h1 with
  | [], _ =>
    exact loop_dflt W hSf ⟨hIt, hl2.push _⟩ (Heap.get?_push_size _ rfl) fun h' tk hk => h h' tk (kept h' hk)
  | [v], _ =>
    refine loop_one W hSf ⟨hIt, hl2.push _⟩ (Heap.get?_push_size _ rfl) fun v' h' tk hP hk => ?_
    have e : v = v' := by simpa using hP
    subst e
    exact h h' tk (kept h' hk)
  | _ :: _ :: _, h1 => exact absurd h1 (by simp)
end
/-- max(l, default=n) -/
def tMaxD (K : PySem.W.Frag) (te td : TE) : TE := fun σ H Q => te σ H fun x H1 => td σ H1 fun d H2 => ∃ (a : Addr) (xs : List V), x = .ref a ∧ SqL K H2 a xs ∧ xs.length ≤ 1 ∧ Q (xs.headD d) H2
theorem pe_maxD {X : Cx} {e d : Expr} {te td : TE} {p pos kp : Pos} (hc : X.calm = true) (hg : Gl X "max") (hm : X.mg "max" = none) (hv : bootBuiltins "max" = some (.builtin "max")) (he : PE X e te) (hd : PE X d td)
    (h1 : backTo pos (starEach [e] X.env) = (false, eval e X.env) :: backTo pos (starEach [] X.env) := by rfl)
    (hall : (backToKw pos (keywordEach [⟨some "default", d, kp⟩] X.env)).all (·.1.isSome) = true := by rfl)
    (hkw : (backToKw pos (keywordEach [⟨some "default", d, kp⟩] X.env)).any (·.1.isNone) = false := by rfl)
    (hnm : (backToKw pos (keywordEach [⟨some "default", d, kp⟩] X.env)).filterMap (·.1) = [Str.ofString "default"] := by rfl)
    (hpl : (backTo pos (starEach [e] X.env)).any (·.1) = false := by rfl) : PE X (.Call (.Name "max" p) [e] [⟨some "default", d, kp⟩] pos) (tMaxD X.K te td) := by
  refine ⟨fun pins s σ H Q I h => ?_⟩
  refine wpAny_Call_Name_kw (ld_blt I hg hm hv ?_)
  refine callWith_kw ?_ h1 hpl hall hkw
  rw [h1, hnm]
  refine Calls.spliced_cons (thn (he.run pins s σ H _ I h) fun u s1 ⟨x, H1, I1, r1, q1⟩ => ?_)
  refine Calls.spliced_nil ?_
  refine kws_cons (thn (hd.run pins s1 σ H1 _ I1 q1) fun u2 s2 ⟨y, H2, I2, r2, q2⟩ => ?_)
  refine kws_nil ?_
  obtain ⟨a, xs, rfl, hq, hl, q⟩ := q2
  obtain ⟨its, rv, pl, _⟩ := I2.list hq
  cases r1
  refine call_max_d (I2.ok.hd hc) pl.isList (by rw [← rv.length]; exact hl) fun h' tk hk => ?_
  refine ⟨xs.headD y, H2, I2.kept hk, ?_, q⟩
  cases rv with
  | nil => exact r2
  | cons r _ => exact r
theorem e_max0 {K : PySem.W.Frag} {δ : Sls} {te td : TE} {n : Int} (he : Ee K te δ (.l [])) (hd : Ee K td δ (.d (.int n))) : Ee K (tMaxD K te td) δ (.d (.int n)) := fun σ H Q sd q => by
  refine he σ H _ sd fun v H1 s1 ⟨a, xs, e1, h1, t1⟩ => ?_
  cases e1
  cases t1
  refine hd σ H1 _ (sd.sm s1) fun u H2 s2 hu => ?_
  exact ⟨a, [], rfl, SqL.of (s2 _ _ h1), Nat.zero_le _, q u H2 (s1.trans s2) hu⟩
theorem e_max1 {K : PySem.W.Frag} {δ : Sls} {te td : TE} {n m : Int} (he : Ee K te δ (.l [.int m])) (hd : Ee K td δ (.d (.int n))) : Ee K (tMaxD K te td) δ (.d (.int m)) := fun σ H Q sd q => by
  refine he σ H _ sd fun v H1 s1 ⟨a, xs, e1, h1, t1⟩ => ?_
  cases e1
  cases t1 with
  | cons hm t2 =>
    cases t2
    refine hd σ H1 _ (sd.sm s1) fun u H2 s2 hu => ?_
    exact ⟨a, _, rfl, SqL.of (s2 _ _ h1), Nat.le_refl _, q _ H2 (s1.trans s2) ⟨_, rfl, hm.sm s2⟩⟩
end K80

/-! Short loops and comprehensions; patterns as data. -/
namespace K80
open PySem PySem.Spec L2
open PyProof.Rows hiding St
section
variable {K : PySem.W.Frag} {δ δ2 δ3 : Sls} {ts te : TE} {g : TG} {js vs : List Nat} {d d2 e e2 : PD} {D : DD} {tb : TS}
theorem e_lc0 (hs : Ee K ts δ (.d (.tuple []))) : Ee K (tLc (iTup K ts) g tYes te vs) δ (.l []) :=
  e_lcT (js := []) (δ2 := fun _ => []) hs (fun _ h => nomatch h) rfl (show _ ≤ 100000 by simp) fun i d h => by simp at h
theorem jin {js vs : List Nat} (h : (js.all fun j => vs.contains j) = true) : ∀ j ∈ js, j ∈ vs := fun j hj => by
  have q := List.all_eq_true.mp h j hj
  simpa using q
theorem e_lc1 (hs : Ee K ts δ (.d (.tuple [d]))) (hg : Eg K g js (.d d) (wipeS δ vs) δ2) (he : Ee K te δ2 (.d e)) (hj : (js.all fun j => vs.contains j) = true := by rfl) : Ee K (tLc (iTup K ts) g tYes te vs) δ (.l [e]) :=
  e_lcT (js := js) (δ2 := fun _ => δ2) hs (jin hj) rfl (show _ ≤ 100000 by simp) fun i x h => by
    match i with
    | 0 =>
      have e0 : d = x := by simpa using h
      subst e0
      exact ⟨e, rfl, hg, he⟩
    | i + 1 => simp at h
theorem e_lc2 {δ4 : Sls} (hs : Ee K ts δ (.d (.tuple [d, d2]))) (hg : Eg K g js (.d d) (wipeS δ vs) δ2) (he : Ee K te δ2 (.d e)) (hg2 : Eg K g js (.d d2) (wipeS δ vs) δ4) (he2 : Ee K te δ4 (.d e2)) (hj : (js.all fun j => vs.contains j) = true := by rfl) : Ee K (tLc (iTup K ts) g tYes te vs) δ (.l [e, e2]) := fun σ H Q sd q => by
  refine hs σ H _ sd fun v H1 s1 ⟨w, e1, t1⟩ => ?_
  cases e1
  obtain ⟨a, xs, rfl, p1, p2⟩ := t1.t
  refine ⟨a, rfl, ⟨_, p1⟩, fun Dl nD => ?_⟩
  refine lc_tup (xs := xs) (Pv := fun i H' => Same H1 H' ∧ ∃ xs, H' Dl = some (.lst xs) ∧ TpAll K H' xs ([e, e2].take i)) ⟨same_upd nD, [], upd_same, .nil⟩ (fun i H' _ ⟨s2, _⟩ => Tk.sqt (Same.tt s2) p1) (fun i x H' hx ⟨s2, acc⟩ => ?_) (fun H' ⟨s2, acc⟩ => ?_)
  · obtain ⟨z, hd, tp⟩ := p2.getV hx
    match i with
    | 0 =>
      have e0 : d = z := by simpa using hd
      subst e0
      exact lc_turn (sx := .d _) (e := e) (es := [e, e2]) nD s2 ((sd.sm (s1.trans s2)).wipe vs) ⟨_, rfl, tp.sm s2⟩ hg (jin hj) he rfl (show _ ≤ 100000 by simp) acc
    | 1 =>
      have e0 : d2 = z := by simpa using hd
      subst e0
      exact lc_turn (sx := .d _) (e := e2) (es := [e, e2]) nD s2 ((sd.sm (s1.trans s2)).wipe vs) ⟨_, rfl, tp.sm s2⟩ hg2 (jin hj) he2 rfl (show _ ≤ 100000 by simp) acc
    | i + 2 => simp at hd
  · obtain ⟨ys, h1, h2⟩ := acc
    rw [p2.length] at h2
    exact q _ H' (s1.trans s2) ⟨Dl, ys, rfl, h1, h2⟩
theorem e_lcL0 (hs : Ee K ts δ (.l [])) : Ee K (tLc (iList K ts) g tYes te vs) δ (.l []) :=
  e_lcL (js := []) (δ2 := fun _ => []) hs (fun _ h => nomatch h) rfl (show _ ≤ 100000 by simp) fun i d h => by simp at h
theorem e_lcL1 (hs : Ee K ts δ (.l [d])) (hg : Eg K g js (.d d) (wipeS δ vs) δ2) (he : Ee K te δ2 (.d e)) (hj : (js.all fun j => vs.contains j) = true := by rfl) : Ee K (tLc (iList K ts) g tYes te vs) δ (.l [e]) :=
  e_lcL (js := js) (δ2 := fun _ => δ2) hs (jin hj) rfl (show _ ≤ 100000 by simp) fun i x h => by
    match i with
    | 0 =>
      have e0 : d = x := by simpa using h
      subst e0
      exact ⟨e, rfl, hg, he⟩
    | i + 1 => simp at h
theorem s_forR0 {ta : TA} {lo hi : Int} (ha : Ea K ta δ [.d (.int lo), .d (.int hi)]) (b1 : -1000000 ≤ lo ∧ lo ≤ 1000000 := by decide) (b2 : -1000000 ≤ hi ∧ hi ≤ 1000000 := by decide) (h : hi ≤ lo := by decide) (hn : D.nx δ) : Es K (tFor (iRng2 ta) g tb) D δ :=
  s_forR (js := []) ha b1 b2 (fun _ δ' => δ' = δ) rfl (fun i δ' hi => by omega) fun δ' e => by rw [e]; exact hn
theorem s_forR1' {ta : TA} {lo hi : Int} (ha : Ea K ta δ [.d (.int lo), .d (.int hi)]) (b1 : -1000000 ≤ lo ∧ lo ≤ 1000000 := by decide) (b2 : -1000000 ≤ hi ∧ hi ≤ 1000000 := by decide) (h : hi = lo + 1 := by decide) (hg : Eg K g js (.d (.int lo)) δ δ2) (hb : Es K tb { D with nx := D.nx, ct := D.nx, bk := D.nx } δ2) : Es K (tFor (iRng2 ta) g tb) D δ :=
  s_forR (js := js) ha b1 b2 (fun i δ' => (i = 0 ∧ δ' = δ) ∨ (i = 1 ∧ D.nx δ')) (.inl ⟨rfl, rfl⟩) (fun i δ' hi p => by
    have e0 : i = 0 := by omega
    subst e0
    rcases p with ⟨_, rfl⟩ | ⟨z, _⟩
    · refine ⟨δ2, by rw [show lo + ((0 : Nat) : Int) = lo by omega]; exact hg, fun σ H E sd le => hb σ H E sd ⟨fun σ' H' δ' s1 sd1 h1 => le.nx σ' H' δ' s1 sd1 (.inr ⟨rfl, h1⟩), le.rt, le.bk, fun σ' H' δ' s1 sd1 h1 => le.ct σ' H' δ' s1 sd1 (.inr ⟨rfl, h1⟩)⟩⟩
    · cases z) fun δ' p => by
    rcases p with ⟨z, _⟩ | ⟨_, p⟩
    · omega
    · exact p
theorem s_forT0 (ha : Ee K ts δ (.d (.tuple []))) (hn : D.nx δ) : Es K (tFor (iTup K ts) g tb) D δ :=
  s_forT (js := []) ha (fun _ δ' => δ' = δ) rfl (fun i d δ' h => by simp at h) fun δ' e => by rw [e]; exact hn
theorem s_forL0 (ha : Ee K ts δ (.l [])) (hn : D.nx δ) : Es K (tFor (iList K ts) g tb) D δ :=
  s_forL (js := []) ha (fun _ δ' => δ' = δ) rfl (fun i d δ' h => by simp at h) fun δ' e => by rw [e]; exact hn
theorem s_forT1 (ha : Ee K ts δ (.d (.tuple [d]))) (hg : Eg K g js (.d d) δ δ2) (hb : Es K tb { D with nx := D.nx, ct := D.nx, bk := D.nx } δ2) : Es K (tFor (iTup K ts) g tb) D δ :=
  s_forT (js := js) ha (fun i δ' => (i = 0 ∧ δ' = δ) ∨ (i = 1 ∧ D.nx δ')) (.inl ⟨rfl, rfl⟩) (fun i x δ' hi p => by
    match i with
    | 0 =>
      have e0 : d = x := by simpa using hi
      subst e0
      rcases p with ⟨_, rfl⟩ | ⟨z, _⟩
      · refine ⟨δ2, hg, fun σ H E sd le => hb σ H E sd ⟨fun σ' H' δ' s1 sd1 h1 => le.nx σ' H' δ' s1 sd1 (.inr ⟨rfl, h1⟩), le.rt, le.bk, fun σ' H' δ' s1 sd1 h1 => le.ct σ' H' δ' s1 sd1 (.inr ⟨rfl, h1⟩)⟩⟩
      · cases z
    | i + 1 => simp at hi) fun δ' p => by
    rcases p with ⟨z, _⟩ | ⟨_, p⟩
    · cases z
    · exact p
end
section
variable {P : Program} {w : World} {K : PySem.W.Frag} {mg : Str → Option Value} {base : Heap}
theorem g_none {x : Str} {st : Stmt} {ps : List Str} {k : Nat} {R : Sls → Sl → Prop} (G : GDef K mg x st ps) (h : ∀ ss s, ¬ R ss s) : GOk P w K mg base k x ps (spD K R) := by
  obtain ⟨f, fd, h1, h2, F⟩ := G
  refine ⟨f, fd, h1, F.kp, h2, ⟨fun vs H Q E q => ?_, fun A outer s H args us vs Q E _ _ _ _ q => ?_⟩⟩
  · obtain ⟨ss, s, _, r, _⟩ := q
    exact (h ss s r).elim
  · obtain ⟨ss, s, _, r, _⟩ := q
    exact (h ss s r).elim
end

/-! ### patterns: a leaf, a call, a knot with one kid -/
inductive Pat where
  | lf (x : Str) | call (s : PD) (k : Int) | g (x : Str) (p : Pat)
def Pat.e : Pat → PD
  | .lf x => .tuple [.str x]
  | .call s k => .tuple [.str "?", s, .int k]
  | .g x p => .tuple [.str x, p.e]
def notSign (x : Str) : Bool := !decide (x = "?") && !decide (x = "*")
def Pat.ok : Pat → Prop
  | .lf x => notSign x = true
  | .call _ _ => True
  | .g x p => notSign x = true ∧ p.ok
def Pat.dep : Pat → Nat
  | .lf _ => 0
  | .call _ _ => 0
  | .g _ p => p.dep + 1
def Pat.knots : Pat → Int
  | .lf _ => 1
  | .call _ _ => 0
  | .g _ p => 1 + p.knots
def Pat.tall : Pat → Int
  | .lf _ => 1
  | .call _ _ => 1
  | .g _ p => 1 + p.tall
/-- how deep the call stands, and the call -/
def Pat.at : Pat → Option (Nat × PD × Int)
  | .lf _ => none
  | .call s k => some (0, s, k)
  | .g _ p => p.at.map fun q => (q.1 + 1, q.2)
def zeros (n : Nat) : PD := .tuple (List.replicate n (.int 0))
def callE (q : Nat × PD × Int) : PD := .tuple [zeros q.1, .tuple [q.2.1, .int q.2.2]]
def Pat.calls (p : Pat) : List PD := match p.at with
  | none => []
  | some q => [callE q]
/-- the call replaced -/
def Pat.sub (r : Pat) : Pat → Pat
  | .lf x => .lf x
  | .call _ _ => r
  | .g x p => .g x (Pat.sub r p)
theorem notSign_q {x : Str} (h : notSign x = true) : decide (x = "?") = false := by
  unfold notSign at h
  rw [Bool.and_eq_true] at h
  simpa using h.1
theorem notSign_h {x : Str} (h : notSign x = true) : decide (x = "*") = false := by
  unfold notSign at h
  rw [Bool.and_eq_true] at h
  simpa using h.2
theorem Pat.tall_dep : ∀ p : Pat, p.tall = (p.dep : Nat) + 1
  | .lf _ => rfl
  | .call _ _ => rfl
  | .g _ p => by
    show 1 + p.tall = ((p.dep + 1 : Nat) : Int) + 1
    rw [Pat.tall_dep p]; omega
theorem Pat.knots_dep : ∀ p : Pat, 0 ≤ p.knots ∧ p.knots ≤ (p.dep : Nat) + 1
  | .lf _ => by show (0 : Int) ≤ 1 ∧ (1 : Int) ≤ 0 + 1; omega
  | .call _ _ => by show (0 : Int) ≤ 0 ∧ (0 : Int) ≤ 0 + 1; omega
  | .g _ p => by
    have h := Pat.knots_dep p
    show 0 ≤ 1 + p.knots ∧ 1 + p.knots ≤ ((p.dep + 1 : Nat) : Int) + 1
    omega
end K80

/-! Steps with lists of one's own, at the heap. -/
namespace K80
open PySem PySem.Spec L2
open PyProof.Rows hiding St
/-- all but p stays -/
def Off (p : Addr) (H H' : Hp) : Prop := ∀ b o, b ≠ p → H b = some o → H' b = some o
theorem Off.of {p : Addr} {H H' : Hp} (s : Same H H') : Off p H H' := fun b o _ h => s b o h
theorem Off.upd {p : Addr} {H : Hp} {o : HO} : Off p H (upd H p o) := fun b u n h => by rw [upd_ne n]; exact h
theorem Off.trans {p : Addr} {H H1 H2 : Hp} (a : Off p H H1) (b : Off p H1 H2) : Off p H H2 := fun c o n h => b c o n (a c o n h)
/-- what is new at p is no change for who did not know p -/
theorem Off.same {p : Addr} {H0 H H' : Hp} (s : Same H0 H) (n : H0 p = none) (o : Off p H H') : Same H0 H' := fun b u h => o b u (ne_of_none h n) (s b u h)
theorem Off.tk {p : Addr} {H H' : Hp} {xs : List V} (o : Off p H H') (h : H p = some (.lst xs)) : Tk H H' := fun a ys r => by
  rcases r with r | ⟨ob, r⟩
  · exact .inl (o a _ (fun z => by rw [z, h] at r; cases r) r)
  · exact .inr ⟨ob, o a _ (fun z => by rw [z, h] at r; cases r) r⟩
theorem Off.tkD {p : Addr} {H H' : Hp} {xs : List (List Key × V)} (o : Off p H H') (h : H p = some (.dT xs)) : Tk H H' := fun a ys r => by
  rcases r with r | ⟨ob, r⟩
  · exact .inl (o a _ (fun z => by rw [z, h] at r; cases r) r)
  · exact .inr ⟨ob, o a _ (fun z => by rw [z, h] at r; cases r) r⟩
/-- the list at p holds ds -/
def Ls (K : PySem.W.Frag) (H : Hp) (p : Addr) (ds : List PD) : Prop := ∃ xs, H p = some (.lst xs) ∧ TpAll K H xs ds
section
variable {K : PySem.W.Frag} {δ δ2 : Sls} {te : TE} {D : Ends} {σ : L2.St} {H : Hp} {t u : TS} {p : Addr} {ds : List PD}
theorem Ls.sm {H' : Hp} (h : Ls K H p ds) (s : Same H H') : Ls K H' p ds := by
  obtain ⟨xs, h1, h2⟩ := h
  exact ⟨xs, s _ _ h1, h2.sm s⟩
theorem Ls.l (h : Ls K H p ds) : SlAt K H (some (.ref p)) (.l ds) := by
  obtain ⟨xs, h1, h2⟩ := h
  exact ⟨p, xs, rfl, h1, h2⟩
theorem SD.off {H' : Hp} (sd : SD K H σ δ) (o : Off p H H') (h : Ls K H p ds) (n : noL δ = true) : SD K H' σ δ := by
  obtain ⟨xs, h1, _⟩ := h
  exact sd.tt (o.tk h1) n
/-- a block told by data, then the rest -/
theorem r_seq {N : Sls → Prop} (h : Es K t { nx := N, rt := fun _ => False } δ) (sd : SD K H σ δ) (k : ∀ σ' H' δ', Same H H' → SD K H' σ' δ' → N δ' → u D σ' H') : tSeq t u D σ H :=
  h σ H { D with nx := u D } sd ⟨fun σ' H' δ' s sd' n => k σ' H' δ' s sd' n, fun _ _ _ _ _ z => z.elim, fun _ _ _ _ _ z => z.elim, fun _ _ _ _ _ z => z.elim⟩
theorem r_one {N : Sls → Prop} (h : Es K t { nx := N, rt := fun _ => False } δ) (sd : SD K H σ δ) (k : ∀ σ' H' δ', Same H H' → SD K H' σ' δ' → N δ' → D.nx σ' H') : t D σ H :=
  h σ H D sd ⟨fun σ' H' δ' s sd' n => k σ' H' δ' s sd' n, fun _ _ _ _ _ z => z.elim, fun _ _ _ _ _ z => z.elim, fun _ _ _ _ _ z => z.elim⟩
theorem r_set {j : Nat} {s : Sl} (he : Ee K te δ s) (sd : SD K H σ δ) (k : ∀ v H', Same H H' → SD K H' (σ.set j (some v)) (δ.set j s) → u D (σ.set j (some v)) H') : tSeq (tAsg te (gName j)) u D σ H :=
  he σ H _ sd fun v H1 s1 hv => k v H1 s1 (SD.set hv j (sd.sm s1))
/-- x = [] -/
theorem r_newL {j : Nat} (sd : SD K H σ δ) (k : ∀ p H', Same H H' → H p = none → Ls K H' p [] → SD K H' (σ.set j (some (.ref p))) (δ.set j (.v (.ref p))) → u D (σ.set j (some (.ref p))) H') : tSeq (tAsg (tLst tNil) (gName j)) u D σ H := by
  refine ⟨Nat.zero_le _, fun p hp => ?_⟩
  exact k p _ (same_upd hp) hp ⟨[], upd_same, .nil⟩ (SD.set (show SlAt K _ (some (.ref p)) (.v (.ref p)) from rfl) j (sd.sm (same_upd hp)))
theorem r_ret {s : Sl} (he : Ee K te δ s) (sd : SD K H σ δ) (k : ∀ v H', Same H H' → SlAt K H' (some v) s → D.rt v H') : tRet te D σ H := he σ H _ sd k
/-- x.append(e) -/
theorem r_append {i : Nat} {e : PD} (sd : SD K H σ δ) (hi : δ[i]? = some (.v (.ref p))) (he : Ee K te δ (.d e)) (hp : Ls K H p ds) (hl : ds.length < 100000) (n : noL δ = true)
    (k : ∀ H', Off p H H' → Ls K H' p (ds ++ [e]) → SD K H' σ δ → D.nx σ H') : tDrop (tBM K "list" rAppend (tVar i) (tCons te tNil)) D σ H := by
  obtain ⟨xs, h1, h2⟩ := hp
  obtain ⟨o, g1, g2⟩ := sd.get hi
  cases (show o = some (.ref p) from g2)
  refine ⟨_, g1, .inl ⟨rfl, _, SqL.of h1⟩, ?_⟩
  refine he σ H _ sd fun v H1 s1 ⟨w, e1, t1⟩ => ?_
  cases e1
  have h1' := s1 _ _ h1
  refine ⟨p, xs, v, rfl, rfl, h1', sz5' (by rw [h2.length]; exact hl), ?_⟩
  refine k _ ((Off.of s1).trans Off.upd) ⟨_, upd_same, ((h2.sm s1).app (.cons t1 .nil)).mv (tt_lst h1')⟩ ((sd.sm s1).tt (tt_lst h1') n)
/-- .. where lists are known, apart from it -/
theorem r_appendL {i : Nat} {e : PD} (sd : SD K H σ δ) (hi : δ[i]? = some (.v (.ref p))) (he : Ee K te δ (.d e)) (hp : Ls K H p ds) (hl : ds.length < 100000) (n : ∀ (i : Nat) ds a, δ[i]? = some (.l ds) → σ[i]? = some (some (.ref a)) → a ≠ p) (nx : noX δ = true)
    (k : ∀ H', Off p H H' → Ls K H' p (ds ++ [e]) → SD K H' σ δ → D.nx σ H') : tDrop (tBM K "list" rAppend (tVar i) (tCons te tNil)) D σ H := by
  obtain ⟨xs, h1, h2⟩ := hp
  obtain ⟨o, g1, g2⟩ := sd.get hi
  cases (show o = some (.ref p) from g2)
  refine ⟨_, g1, .inl ⟨rfl, _, SqL.of h1⟩, ?_⟩
  refine he σ H _ sd fun v H1 s1 ⟨w, e1, t1⟩ => ?_
  cases e1
  have h1' := s1 _ _ h1
  refine ⟨p, xs, v, rfl, rfl, h1', sz5' (by rw [h2.length]; exact hl), ?_⟩
  refine k _ ((Off.of s1).trans Off.upd) ⟨_, upd_same, ((h2.sm s1).app (.cons t1 .nil)).mv (tt_lst h1')⟩ ((sd.sm s1).wr (tt_lst h1') n nx)
/-- x.extend(e), e another list -/
theorem r_extend {i : Nat} {es : List PD} (sd : SD K H σ δ) (hi : δ[i]? = some (.v (.ref p))) (he : Ee K te δ (.l es)) (hp : Ls K H p ds) (hl : ds.length + es.length < 100000) (n : noL δ = true)
    (k : ∀ H', Off p H H' → Ls K H' p (ds ++ es) → SD K H' σ δ → D.nx σ H') : tDrop (tBM K "list" rExtend (tVar i) (tCons te tNil)) D σ H := by
  obtain ⟨xs, h1, h2⟩ := hp
  obtain ⟨o, g1, g2⟩ := sd.get hi
  cases (show o = some (.ref p) from g2)
  refine ⟨_, g1, .inl ⟨rfl, _, SqL.of h1⟩, ?_⟩
  refine he σ H _ sd fun v H1 s1 ⟨b, ys, e1, h3, t1⟩ => ?_
  cases e1
  have h1' := s1 _ _ h1
  refine ⟨p, b, xs, ys, rfl, rfl, h1', h3, sz5 (by rw [h2.length, t1.length]; omega), ?_⟩
  refine k _ ((Off.of s1).trans Off.upd) ⟨_, upd_same, ((h2.sm s1).app t1).mv (tt_lst h1')⟩ ((sd.sm s1).tt (tt_lst h1') n)
theorem r_for0 {ta : TA} {g : TG} {tb : TS} {lo hi : Int} (ha : Ea K ta δ [.d (.int lo), .d (.int hi)]) (sd : SD K H σ δ) (b1 : -1000000 ≤ lo ∧ lo ≤ 1000000) (b2 : -1000000 ≤ hi ∧ hi ≤ 1000000) (hh : hi ≤ lo) (k : ∀ H', Same H H' → D.nx σ H') : tFor (iRng2 ta) g tb D σ H := by
  refine ha σ H _ sd fun vs H1 s1 h => ?_
  match vs, h with
  | [v1, v2], ⟨⟨w1, e1, t1⟩, ⟨w2, e2, t2⟩, _⟩ =>
    cases e1
    cases e2
    refine ⟨lo, hi, by rw [t1.i, t2.i], ⟨by omega, by omega, by omega, by omega⟩, ?_⟩
    refine for_range (Pv := fun i σ' H' => σ' = σ ∧ Same H H') ⟨rfl, s1⟩ (fun i σ' H' hi _ => by omega) (fun σ' H' ⟨e, s2⟩ => by rw [e]; exact k H' s2)
  | [], h => exact h.elim
  | [_], h => exact h.2.elim
  | _ :: _ :: _ :: _, h => exact h.2.2.elim
theorem r_for1 {ta : TA} {g : TG} {js : List Nat} {tb : TS} {lo hi : Int} (ha : Ea K ta δ [.d (.int lo), .d (.int hi)]) (sd : SD K H σ δ) (b1 : -1000000 ≤ lo ∧ lo ≤ 1000000) (b2 : -1000000 ≤ hi ∧ hi ≤ 1000000) (hh : hi = lo + 1) (hg : Eg K g js (.d (.int lo)) δ δ2)
    (k : ∀ σ' H', Same H H' → SD K H' σ' δ2 → tb { D with nx := D.nx, ct := D.nx, bk := D.nx } σ' H') : tFor (iRng2 ta) g tb D σ H := by
  refine ha σ H _ sd fun vs H1 s1 h => ?_
  match vs, h with
  | [v1, v2], ⟨⟨w1, e1, t1⟩, ⟨w2, e2, t2⟩, _⟩ =>
    cases e1
    cases e2
    refine ⟨lo, hi, by rw [t1.i, t2.i], ⟨by omega, by omega, by omega, by omega⟩, ?_⟩
    subst hh
    have e : (lo + 1 - lo).toNat = 1 := by omega
    rw [e]
    refine ⟨fun i m σ' H' => (i = 0 ∧ m = 1 ∧ σ' = σ ∧ Same H H') ∨ (i = 1 ∧ D.nx σ' H'), ⟨1, .inl ⟨rfl, rfl, rfl, s1⟩⟩, ?_⟩
    rintro i m σ' H' (⟨rfl, rfl, rfl, s2⟩ | ⟨rfl, q⟩)
    · refine .inr ⟨by show 0 < 1; decide, fun σ3 H3 => D.nx σ3 H3, fun σ3 H3 n3 => ⟨0, by decide, .inr ⟨rfl, n3⟩⟩, fun x H3 hy => ?_⟩
      obtain ⟨rfl, rfl⟩ := hy
      refine hg σ' _ _ _ (sd.sm s2) ⟨_, rfl, ?_⟩ fun σ4 sd4 _ => k σ4 _ s2 sd4
      rw [show lo + ((0 : Nat) : Int) = lo by omega]
      exact .int _
    · exact .inl ⟨Nat.le_refl _, q⟩
  | [], h => exact h.elim
  | [_], h => exact h.2.elim
  | _ :: _ :: _ :: _, h => exact h.2.2.elim
/-- for k in range(n), at the heap -/
theorem r_forR {ta : TA} {j : Nat} {tb : TS} {n : Int} (ha : Ea K ta δ [.d (.int n)]) (sd : SD K H σ δ) (b2 : -1000000 ≤ n ∧ n ≤ 1000000) (Pv : Nat → L2.St → Hp → Prop) (h0 : ∀ H', Same H H' → Pv 0 σ H')
    (hs : ∀ (i : Nat) σ' H', i < n.toNat → Pv i σ' H' → tb { D with nx := Pv (i + 1), ct := Pv (i + 1), bk := D.nx } (σ'.set j (some (.int (i : Nat)))) H') (hd : ∀ σ' H', Pv n.toNat σ' H' → D.nx σ' H') : tFor (iRng1 ta) (gName j) tb D σ H := by
  refine ha σ H _ sd fun vs H1 s1 h => ?_
  match vs, h with
  | [v1], ⟨⟨w1, e1, t1⟩, _⟩ =>
    cases e1
    refine ⟨n, by rw [t1.i], by omega, by omega, ?_⟩
    refine for_range Pv (h0 H1 s1) (fun i σ' H' hi p => ?_) hd
    have q := hs i σ' H' hi p
    show tb _ (σ'.set j (some (.int (0 + (i : Nat))))) H'
    rw [Int.zero_add]
    exact q
  | [], h => exact h.elim
  | _ :: _ :: _, h => exact h.2.elim
theorem r_forR2 {ta : TA} {j : Nat} {tb : TS} {lo hi : Int} (ha : Ea K ta δ [.d (.int lo), .d (.int hi)]) (sd : SD K H σ δ) (b1 : -1000000 ≤ lo ∧ lo ≤ 1000000) (b2 : -1000000 ≤ hi ∧ hi ≤ 1000000) (Pv : Nat → L2.St → Hp → Prop) (h0 : ∀ H', Same H H' → Pv 0 σ H')
    (hs : ∀ (i : Nat) σ' H', i < (hi - lo).toNat → Pv i σ' H' → tb { D with nx := Pv (i + 1), ct := Pv (i + 1), bk := D.nx } (σ'.set j (some (.int (lo + i)))) H') (hd : ∀ σ' H', Pv (hi - lo).toNat σ' H' → D.nx σ' H') : tFor (iRng2 ta) (gName j) tb D σ H := by
  refine ha σ H _ sd fun vs H1 s1 h => ?_
  match vs, h with
  | [v1, v2], ⟨⟨w1, e1, t1⟩, ⟨w2, e2, t2⟩, _⟩ =>
    cases e1
    cases e2
    refine ⟨lo, hi, by rw [t1.i, t2.i], ⟨by omega, by omega, by omega, by omega⟩, ?_⟩
    exact for_range Pv (h0 H1 s1) hs hd
  | [], h => exact h.elim
  | [_], h => exact h.2.elim
  | _ :: _ :: _ :: _, h => exact h.2.2.elim
end
end K80

/-! Dicts whose keys are tuples of ints, one of which may be a pair of ints. -/
namespace K80
open PySem PySem.Spec L2
open PyProof.Rows hiding St
inductive KeyOk : PD → Prop
  | flat (a b : Int) : KeyOk (.tuple [.int a, .int b])
  | nest (a b c : Int) : KeyOk (.tuple [.tuple [.int a, .int b], .int c])
def nk : PD → NestedKey
  | .tuple [.int a, .int b] => .tup [.num a, .num b]
  | .tuple [.tuple [.int a, .int b], .int c] => .tup [.tup [.num a, .num b], .num c]
  | _ => .none
theorem nk_inj {x y : PD} (hx : KeyOk x) (hy : KeyOk y) (h : nk x = nk y) : x = y := by
  cases hx with
  | flat a b =>
    cases hy with
    | flat c d =>
      simp only [nk, NestedKey.tup.injEq, List.cons.injEq, NestedKey.num.injEq, and_true] at h
      rw [h.1, h.2]
    | nest c d e => simp [nk] at h
  | nest a b c =>
    cases hy with
    | flat c d => simp [nk] at h
    | nest d e f =>
      simp only [nk, NestedKey.tup.injEq, List.cons.injEq, NestedKey.num.injEq, and_true] at h
      rw [h.1.1, h.1.2, h.2]
theorem nis {X : Cx} {pins : List (Addr × Obj)} {σ : L2.St} {H : Hp} {s : Shared} {q : Addr} {k : PD} (I : Inv X pins σ H s) (t : Tp X.K H (.ref q) k) (hk : KeyOk k) : (nestedKind X.prog X.w).is s.heap (nk k) q := by
  cases hk with
  | flat a b =>
    obtain ⟨a', xs, e, h1, h2⟩ := t.t
    cases e
    obtain ⟨its, rv, ⟨o, ho, hc, n, hd⟩, _⟩ := I.tuple h1
    cases h2 with
    | cons t1 h2 =>
      cases h2 with
      | cons t2 h2 =>
        cases h2
        cases t1
        cases t2
        cases rv with
        | cons r1 rv =>
          cases rv with
          | cons r2 rv =>
            cases rv
            obtain ⟨u1, rfl⟩ := r1
            obtain ⟨u2, rfl⟩ := r2
            exact ⟨NestedIs.tup ho hc hd (.cons (.int _ _) (.cons (.int _ _) .nil)), by simp [nk, NestedKey.depth, NestedKey.depthAll]⟩
  | nest a b c =>
    obtain ⟨a', xs, e, h1, h2⟩ := t.t
    cases e
    obtain ⟨its, rv, ⟨o, ho, hc, n, hd⟩, _⟩ := I.tuple h1
    cases h2 with
    | cons t1 h2 =>
      cases h2 with
      | cons t2 h2 =>
        cases h2
        cases t2
        obtain ⟨a2, ys, rfl, g1, g2⟩ := t1.t
        obtain ⟨its2, rv2, ⟨o2, ho2, hc2, n2, hd2⟩, _⟩ := I.tuple g1
        cases g2 with
        | cons t3 g2 =>
          cases g2 with
          | cons t4 g2 =>
            cases g2
            cases t3
            cases t4
            cases rv with
            | cons r1 rv =>
              cases rv with
              | cons r2 rv =>
                cases rv
                cases rv2 with
                | cons r3 rv2 =>
                  cases rv2 with
                  | cons r4 rv2 =>
                    cases rv2
                    cases r1
                    obtain ⟨u2, rfl⟩ := r2
                    obtain ⟨u3, rfl⟩ := r3
                    obtain ⟨u4, rfl⟩ := r4
                    exact ⟨NestedIs.tup ho hc hd (.cons (NestedIs.tup ho2 hc2 hd2 (.cons (.int _ _) (.cons (.int _ _) .nil))) (.cons (.int _ _) .nil)), by simp [nk, NestedKey.depth, NestedKey.depthAll]⟩
/-- the dict's own object -/
def DcR (x : PD × Addr × V) (y : NestedKey × Addr × Value) : Prop := y.1 = nk x.1 ∧ y.2.1 = x.2.1 ∧ RelV x.2.2 y.2.2
def DcO (P : Program) (w : World) (d : Addr) (xs : List (PD × Addr × V)) : HO := .ext fun h => xs.length ≤ sizeLine ∧ (d == sysModules) = false ∧ ∃ ys : List (NestedKey × Addr × Value), Paired DcR xs ys ∧
  ∃ o es ep, h.get? d = some o ∧ o.ExactDict ∧ o.data = .dict es ep ∧ es.toList = ys.map (entryOfKey (nestedKind P w))
inductive DcAll (K : PySem.W.Frag) (H : Hp) : List (PD × Addr × V) → List (PD × PD) → Prop
  | nil : DcAll K H [] []
  | cons {k : PD} {q : Addr} {v : V} {e : PD} {xs kvs} : Tp K H (.ref q) k → KeyOk k → Tp K H v e → DcAll K H xs kvs → DcAll K H ((k, q, v) :: xs) ((k, e) :: kvs)
/-- the dict at d holds kvs, in their order -/
def Dc (P : Program) (w : World) (K : PySem.W.Frag) (H : Hp) (d : Addr) (kvs : List (PD × PD)) : Prop := ∃ xs, H d = some (DcO P w d xs) ∧ DcAll K H xs kvs ∧ (kvs.map (·.1)).Nodup
section
variable {P : Program} {w : World} {K : PySem.W.Frag} {H H' : Hp} {d : Addr} {kvs : List (PD × PD)} {xs : List (PD × Addr × V)} {ys : List (NestedKey × Addr × Value)}
theorem DcAll.tk (t : Tk H H') : ∀ {xs kvs}, DcAll K H xs kvs → DcAll K H' xs kvs
  | _, _, .nil => .nil
  | _, _, .cons a b c r => .cons (a.mv t) b (c.mv t) (DcAll.tk t r)
theorem DcAll.length : ∀ {xs kvs}, DcAll K H xs kvs → xs.length = kvs.length
  | _, _, .nil => rfl
  | _, _, .cons _ _ _ r => by rw [List.length_cons, List.length_cons, DcAll.length r]
theorem Dc.sm (h : Dc P w K H d kvs) (s : Same H H') : Dc P w K H' d kvs := by
  obtain ⟨xs, h1, h2, h3⟩ := h
  exact ⟨xs, s _ _ h1, h2.tk (Same.tt s), h3⟩
theorem Dc.off {p : Addr} {zs : List V} (h : Dc P w K H d kvs) (o : Off p H H') (hp : H p = some (.lst zs)) : Dc P w K H' d kvs := by
  obtain ⟨xs, h1, h2, h3⟩ := h
  exact ⟨xs, o _ _ (fun z => by rw [z, hp] at h1; cases h1) h1, h2.tk (o.tk hp), h3⟩
theorem tk_dc {o : HO} {xs : List (PD × Addr × V)} (h : H d = some (DcO P w d xs)) : Tk H (upd H d o) := tt_upd h (fun _ z => nomatch z) (fun _ _ z => nomatch z)
theorem Off.tkC (o : Off d H H') (h : Dc P w K H d kvs) : Tk H H' := fun a ys r => by
  obtain ⟨xs, h1, _⟩ := h
  rcases r with r | ⟨ob, r⟩
  · exact .inl (o a _ (fun z => by rw [z, h1] at r; cases r) r)
  · exact .inr ⟨ob, o a _ (fun z => by rw [z, h1] at r; cases r) r⟩
theorem at_none (r : Paired DcR xs ys) (k : PD) (hk : KeyOk k) (a : DcAll K H xs kvs) (n : k ∉ kvs.map (·.1)) : atKey ys (nk k) = none := by
  induction a generalizing ys with
  | nil => cases r; rfl
  | @cons k' q v e xs kvs t1 t2 t3 a ih =>
    cases r with
    | @cons _ y _ ys r1 r2 =>
      have hn : ¬ k = k' := fun z => n (by simp [z])
      have hn2 : k ∉ kvs.map (·.1) := fun z => n (by simp [z])
      have q := ih r2 hn2
      have e1 : decide (y.1 = nk k) = false := decide_eq_false fun z => hn (nk_inj hk t2 (z.symm.trans r1.1))
      unfold atKey at q ⊢
      rw [List.find?_cons, e1]
      exact q
theorem at_some (r : Paired DcR xs ys) (k e : PD) (hk : KeyOk k) (a : DcAll K H xs kvs) (nd : (kvs.map (·.1)).Nodup) (m : (k, e) ∈ kvs) : ∃ p v, atKey ys (nk k) = some p ∧ RelV v p.2 ∧ Tp K H v e := by
  induction a generalizing ys with
  | nil => cases m
  | @cons k' q v e' xs kvs t1 t2 t3 a ih =>
    cases r with
    | @cons _ y _ ys r1 r2 =>
      by_cases hkk : k = k'
      · subst hkk
        have ee : e = e' := by
          rcases List.mem_cons.mp m with z | z
          · exact (Prod.mk.inj z).2
          · exact absurd (List.mem_map.mpr ⟨_, z, rfl⟩) (List.nodup_cons.mp nd).1
        subst ee
        refine ⟨y.2, v, ?_, r1.2.2, t3⟩
        unfold atKey
        rw [List.find?_cons, decide_eq_true r1.1]
        rfl
      · have m2 : (k, e) ∈ kvs := by
          rcases List.mem_cons.mp m with z | z
          · exact absurd (Prod.mk.inj z).1 hkk
          · exact z
        obtain ⟨p, u, h1, h2⟩ := ih r2 (List.nodup_cons.mp nd).2 m2
        refine ⟨p, u, ?_, h2⟩
        have e1 : decide (y.1 = nk k) = false := decide_eq_false fun z => hkk (nk_inj hk t2 (z.symm.trans r1.1))
        unfold atKey at h1 ⊢
        rw [List.find?_cons, e1]
        exact h1
theorem dc_keys (a : DcAll K H xs kvs) : xs.map (·.1) = kvs.map (·.1) := by
  induction a with
  | nil => rfl
  | cons _ _ _ _ ih => simp [ih]
end
section
variable {X : Cx} {pins : List (Addr × Obj)} {σ : L2.St} {H : Hp} {s : Shared} {d : Addr} {kvs : List (PD × PD)} {xs : List (PD × Addr × V)}
theorem dc_is (I : Inv X pins σ H s) {kvs : List (PD × PD)} {xs : List (PD × Addr × V)} (a : DcAll X.K H xs kvs) : ∀ {ys : List (NestedKey × Addr × Value)}, Paired DcR xs ys → ∀ x ∈ ys, (nestedKind X.prog X.w).is s.heap x.1 x.2.1 := by
  induction a with
  | nil => intro ys r; cases r; intro x hx; cases hx
  | @cons k q v e xs kvs t1 t2 t3 a ih =>
    intro ys r
    cases r with
    | @cons _ y _ ys r1 r2 =>
      intro x hx
      rcases List.mem_cons.mp hx with e1 | hx
      · subst e1
        obtain ⟨a1, a2, a3⟩ := r1
        rw [a1, a2]
        exact nis I t1 t2
      · exact ih r2 x hx
theorem dc_nd {K : PySem.W.Frag} {H : Hp} {kvs : List (PD × PD)} {xs : List (PD × Addr × V)} (a : DcAll K H xs kvs) : ∀ {ys : List (NestedKey × Addr × Value)}, Paired DcR xs ys → (kvs.map (·.1)).Nodup → (ys.map (·.1)).Nodup := by
  induction a with
  | nil => intro ys r _; cases r; exact List.nodup_nil
  | @cons k q v e xs kvs t1 t2 t3 a ih =>
    intro ys r nd
    cases r with
    | @cons _ y _ ys r1 r2 =>
      have n2 := List.nodup_cons.mp nd
      rw [List.map_cons]
      refine List.nodup_cons.mpr ⟨fun hm => ?_, ih r2 n2.2⟩
      have q := at_none r2 k t2 a n2.1
      obtain ⟨z, hz, ez⟩ := List.mem_map.mp hm
      unfold atKey at q
      rw [Option.map_eq_none_iff, List.find?_eq_none] at q
      exact q z hz (decide_eq_true (ez.trans r1.1))
theorem dc_at (I : Inv X pins σ H s) (hd : H d = some (DcO X.prog X.w d xs)) (a : DcAll X.K H xs kvs) (nd : (kvs.map (·.1)).Nodup) : xs.length ≤ sizeLine ∧ (d == sysModules) = false ∧ ∃ ys, Paired DcR xs ys ∧ s.heap.DictOfH (nestedKind X.prog X.w) d ys := by
  obtain ⟨⟨h1, h2, ys, r, o, es, ep, h3, h4, h5, h6⟩, _, _⟩ := I.hok d _ hd
  exact ⟨h1, h2, ys, r, o, es, ep, h3, h4, h5, h6, dc_is I a r, dc_nd a r nd⟩
/-- an object as a dict's -/
theorem dcO_ok {h : Heap} {ys : List (NestedKey × Addr × Value)} (h1 : xs.length ≤ sizeLine) (h2 : (d == sysModules) = false) (r : Paired DcR xs ys) (hm : h.DictOfH (nestedKind X.prog X.w) d ys) {H' : Hp} : ObjOk X.prog X.w H' h d (DcO X.prog X.w d xs) := by
  obtain ⟨o, es, ep, h3, h4, h5, h6, _⟩ := hm
  refine ⟨⟨h1, h2, ys, r, o, es, ep, h3, h4, h5, h6⟩, ⟨o, h3⟩, fun a b ⟨c1, c2, ys', r', o', es', ep', c3, c4⟩ st => ⟨c1, c2, ys', r', o', es', ep', st _ c3, c4⟩⟩
/-- {} -/
def tDcNew (P : Program) (w : World) (K : PySem.W.Frag) : TE := fun _ H Q => ∀ p H', H p = none → Same H H' → Dc P w K H' p [] → Q (.ref p) H'
theorem pe_dcNew {pos : Pos} : PE X (.Dict [] [] pos) (tDcNew X.prog X.w X.K) := ⟨fun pins s σ H Q I h => by
  have nf : H s.heap.objs.size = none := I.hok.fresh (Nat.le_refl _)
  have ok : ObjOk X.prog X.w (upd H s.heap.objs.size (DcO X.prog X.w s.heap.objs.size [])) (s.heap.push { cls := .type "dict", data := .dict #[] }) s.heap.objs.size (DcO X.prog X.w s.heap.objs.size []) :=
    dcO_ok (Nat.zero_le _) (by
      have q := (dt_empty (P := X.prog) (w := X.w) s.heap I.big (H := upd H s.heap.objs.size (.dT [])))
      exact q.2.1) .nil (Heap.DictOfH.new _)
  exact wpAny_Dict_empty ⟨.ref s.heap.objs.size, _, I.laid (a := s.heap.objs.size) (o := DcO X.prog X.w s.heap.objs.size []) (t' := s.toks) (fun _ _ q => Heap.get?_push_of_some _ q) (Nat.le_refl _) ok, rfl, h _ _ nf (same_upd nf) ⟨[], upd_same, .nil, List.nodup_nil⟩⟩⟩
/-- d[k] -/
def rIxDc (P : Program) (w : World) (K : PySem.W.Frag) : R2 := fun x y H Q => ∃ d kvs k e, x = .ref d ∧ Dc P w K H d kvs ∧ Tp K H y k ∧ KeyOk k ∧ (k, e) ∈ kvs ∧ ∀ v, Tp K H v e → Q v H
theorem key_ref {K : PySem.W.Frag} {H : Hp} {y : V} {k : PD} (t : Tp K H y k) (hk : KeyOk k) : ∃ q, y = .ref q := by
  cases hk with
  | flat a b => obtain ⟨q, _, e, _⟩ := t.t; exact ⟨q, e⟩
  | nest a b c => obtain ⟨q, _, e, _⟩ := t.t; exact ⟨q, e⟩
theorem ix_dc (hu : X.A.units + 64 < cLine) : IxR X (rIxDc X.prog X.w X.K) := by
  intro value slice pins s σ H x y v u Q I rx ry h hs
  obtain ⟨d, kvs, k, e, rfl, ⟨xs, hd, a, nd⟩, t, hk, m, q⟩ := h
  obtain ⟨b, rfl⟩ := key_ref t hk
  cases rx
  cases ry
  obtain ⟨z1, z2, ys, r, hm⟩ := dc_at I hd a nd
  obtain ⟨p, w', h1, h2, h3⟩ := at_some r k e hk a nd m
  exact tail_any hm.typeIs PySem.F.slot_dict_getitem.lookup (wpAny_getItem_heap (knd := nestedKind X.prog X.w) (by show X.A.units + 1 + 8 < cLine; omega) (nis I t hk) hm h1 ⟨w', H, I.tok _, h2, q w' h3⟩) hs
/-- d[k] = v, k not there -/
def rSetDc (P : Program) (w : World) (K : PySem.W.Frag) : V → V → V → Hp → (Hp → Prop) → Prop := fun o i v H Q => ∃ d kvs k e, o = .ref d ∧ Dc P w K H d kvs ∧ Tp K H i k ∧ KeyOk k ∧ k ∉ kvs.map (·.1) ∧ Tp K H v e ∧ kvs.length < 100000 ∧
  ∀ H', Off d H H' → Dc P w K H' d (kvs ++ [(k, e)]) → Q H'
theorem paired_snoc {α β : Type} {F : α → β → Prop} : ∀ {l₁ : List α} {l₂ : List β} {a : α} {b : β}, Paired F l₁ l₂ → F a b → Paired F (l₁ ++ [a]) (l₂ ++ [b])
  | _, _, _, _, .nil, h => .cons h .nil
  | _, _, _, _, .cons r t, h => .cons r (paired_snoc t h)
theorem dcAll_snoc {K : PySem.W.Frag} {H : Hp} {k : PD} {q : Addr} {v : V} {e : PD} (h1 : Tp K H (.ref q) k) (h2 : KeyOk k) (h3 : Tp K H v e) : ∀ {xs kvs}, DcAll K H xs kvs → DcAll K H (xs ++ [(k, q, v)]) (kvs ++ [(k, e)])
  | _, _, .nil => .cons h1 h2 h3 .nil
  | _, _, .cons a b c r => .cons a b c (dcAll_snoc h1 h2 h3 r)
theorem set_dc (hu : X.A.units + 64 < cLine) : PSet X (rSetDc X.prog X.w X.K) := by
  intro pins s σ H o i v ov iv u Q I ro ri rv h
  obtain ⟨d, kvs, k, e, rfl, ⟨xs, hd, a, nd⟩, t, hk, nm, te, hl, q⟩ := h
  obtain ⟨b, rfl⟩ := key_ref t hk
  cases ro
  cases ri
  obtain ⟨z1, z2, ys, r, hm⟩ := dc_at I hd a nd
  have hlen := a.length
  have hly : ys.length = xs.length := (Paired.length r).symm
  refine wpAny_setItem_heap (knd := nestedKind X.prog X.w) (by show X.A.units + 1 + 8 < cLine; omega) (nis I t hk) hm (fun h' hm' sb => ?_) (by omega)
  have hno := at_none r k hk a nm
  have est : storedH ys (nk k) b u = ys ++ [(nk k, b, u)] := by unfold storedH; rw [hno]; rfl
  rw [est] at hm'
  have hzl : (xs ++ [(k, b, v)]).length ≤ sizeLine := by rw [List.length_append, List.length_singleton]; exact sz5 (by omega)
  have mu : Mut (H d) := by rw [hd]; trivial
  obtain ⟨o', es, ep, ho', _⟩ := id hm'
  refine ⟨upd H d (DcO X.prog X.w d (xs ++ [(k, b, v)])), I.write (x := d) (e := d) mu (.inl rfl) (fun c ob hc e => (sb.2 c hc).trans e) ⟨o', ho'⟩ (dcO_ok hzl z2 (paired_snoc r ⟨rfl, rfl, rv⟩) hm'), q _ Off.upd ⟨_, upd_same, (dcAll_snoc t hk te a).tk (tk_dc hd), ?_⟩⟩
  rw [List.map_append, List.map_singleton]
  exact List.nodup_append.mpr ⟨nd, by simp, fun x hx y hy => by
    have e1 : y = k := by simpa using hy
    rw [e1]
    exact fun z => nm (z ▸ hx)⟩
/-- k in d, k not in d -/
def rInDc (P : Program) (w : World) (K : PySem.W.Frag) (neg : Bool) : R2 := fun x y H Q => ∃ d kvs k b, y = .ref d ∧ Dc P w K H d kvs ∧ Tp K H x k ∧ KeyOk k ∧ (b = true → ∃ e, (k, e) ∈ kvs) ∧ (b = false → k ∉ kvs.map (·.1)) ∧ Q (.bl (if neg then !b else b)) H
theorem op_notInDc (hu : X.A.units + 64 < cLine) : OpR X (compareOp .NotIn) (rInDc X.prog X.w X.K true) := by
  intro pins s σ H x y v u Q I rx ry h
  obtain ⟨d, kvs, k, b, rfl, ⟨xs, hd, a, nd⟩, t, hk, m1, m2, q⟩ := h
  obtain ⟨c, rfl⟩ := key_ref t hk
  cases rx
  cases ry
  obtain ⟨z1, z2, ys, r, hm⟩ := dc_at I hd a nd
  refine notIn_keyed (knd := nestedKind X.prog X.w) (kvs := pairsH ys) (by show X.A.units + 1 + 8 < cLine; omega) (nis I t hk) z2 ⟨ys, hm, rfl⟩ ?_
  rw [valueAt_pairsH, Option.isSome_map]
  cases b with
  | true =>
    obtain ⟨e, m⟩ := m1 rfl
    obtain ⟨p, w', h1, _⟩ := at_some r k e hk a nd m
    rw [h1]
    exact ⟨.bl false, H, I.tok _, rfl, q⟩
  | false =>
    rw [at_none r k hk a (m2 rfl)]
    exact ⟨.bl true, H, I.tok _, rfl, q⟩
/-- len(d) -/
def rLenDc (P : Program) (w : World) (K : PySem.W.Frag) : List V → Hp → VK → Prop := fun vs H Q => ∃ d kvs, vs = [.ref d] ∧ Dc P w K H d kvs ∧ Q (.int (kvs.length : Nat)) H
theorem call_len_dc : CallR X (.builtin "len") (rLenDc X.prog X.w X.K) := by
  intro pins s σ H vs us Q I r h
  obtain ⟨d, kvs, rfl, ⟨xs, hd, a, nd⟩, q⟩ := h
  rw [Vals.ref1 r]
  obtain ⟨z1, z2, ys, rr, hm⟩ := dc_at I hd a nd
  have hlen := a.length
  have hly : xs.length = ys.length := Paired.length rr
  rw [sizeLine_eq] at z1
  refine call_len_dictH (knd := nestedKind X.prog X.w) z2 hm (by omega) ?_
  rw [← hly, hlen]
  exact ⟨.int (kvs.length : Nat), H, I.tok _, ⟨_, rfl⟩, q⟩
/-- list(d): the keys -/
def rListDc (P : Program) (w : World) (K : PySem.W.Frag) : List V → Hp → VK → Prop := fun vs H Q => ∃ d kvs, vs = [.ref d] ∧ Dc P w K H d kvs ∧ ∀ p H', H p = none → Same H H' → Ls K H' p (kvs.map (·.1)) → Q (.ref p) H'
theorem keys_all {K : PySem.W.Frag} {H : Hp} : ∀ {xs kvs}, DcAll K H xs kvs → TpAll K H (xs.map fun x => V.ref x.2.1) (kvs.map (·.1))
  | _, _, .nil => .nil
  | _, _, .cons a _ _ r => .cons a (keys_all r)
theorem call_list_dc (hc : X.calm = true) : CallR X (.type "list") (rListDc X.prog X.w X.K) := by
  intro pins s σ H vs us Q I r h
  obtain ⟨d, kvs, rfl, ⟨xs, hd, a, nd⟩, q⟩ := h
  rw [Vals.ref1 r]
  obtain ⟨z1, z2, ys, rr, hm⟩ := dc_at I hd a nd
  obtain ⟨o, es, ep, ho, hx, hdt, he, _⟩ := hm
  have l1 : es.size = ys.length := size_of_entries he
  have l2 : xs.length = ys.length := Paired.length rr
  refine PySem.W.kdl_call (kdl_raw z2 hx hdt) (I.ok.hd hc) ho (by omega) fun h' tk acc' c' kp e it => ?_
  have ea : acc'.toList = ys.map fun x => Value.ref x.2.1 := by
    have hl : acc'.toList.length = ys.length := by rw [Array.length_toList, it.1]; exact l1
    apply List.ext_getElem?
    intro j
    rw [List.getElem?_map]
    cases hj : acc'.toList[j]? with
    | none =>
      have h1 := List.getElem?_eq_none_iff.mp hj
      rw [List.getElem?_eq_none (by omega)]
      all_goals rfl
    | some v =>
      obtain ⟨en, hen, hv⟩ := it.2 j v (by rw [← Array.getElem?_toList]; exact hj)
      have qe := entry_at he j
      rw [hen] at qe
      cases hb : ys[j]? with
      | none =>
        rw [hb] at qe
        exact nomatch (show some en = none from qe)
      | some b =>
        rw [hb] at qe
        have e2 : en = entryOfKey (nestedKind X.prog X.w) b := Option.some.inj qe
        rw [hv, e2]
        all_goals rfl
  have eq2 : ∀ {xs : List (PD × Addr × V)} {ys : List (NestedKey × Addr × Value)}, Paired DcR xs ys → (xs.map fun x => x.2.1) = ys.map fun x => x.2.1 := by
    intro xs ys r
    induction r with
    | nil => rfl
    | cons h t ih => rw [List.map_cons, List.map_cons, ih, h.2.1]
  have eb : acc'.toList = (xs.map fun x => x.2.1).map Value.ref := by rw [ea, eq2 rr, List.map_map]; all_goals rfl
  have rv : Vals ((xs.map fun x => x.2.1).map V.ref) acc'.toList := by rw [eb]; exact vals_refs _
  have hz : ((xs.map fun x => x.2.1).map V.ref).length ≤ sizeLine := by rw [List.length_map, List.length_map]; omega
  have nf : H s.heap.objs.size = none := I.hok.fresh (Nat.le_refl _)
  refine ⟨.ref s.heap.objs.size, _, I.laid (t' := tk) (o := .lst ((xs.map fun x => x.2.1).map V.ref)) kp (Nat.le_refl _) ?_, rfl, q _ _ nf (same_upd nf) ⟨_, upd_same, ?_⟩⟩
  · exact ⟨hz, acc'.toList, c', rv, by rw [Array.toArray_toList]; exact e⟩
  · rw [List.map_map]
    exact (keys_all a).sm (same_upd nf)
end
/-- a dict among what is known -/
def isDc (P : Program) (w : World) (K : PySem.W.Frag) (kvs : List (PD × PD)) (v : V) (H : Hp) : Prop := ∃ d, v = .ref d ∧ Dc P w K H d kvs
theorem isDc_at {P : Program} {w : World} {K : PySem.W.Frag} {H : Hp} {d : Addr} {kvs : List (PD × PD)} (h : Dc P w K H d kvs) : SlAt K H (some (.ref d)) (.x (isDc P w K kvs)) := ⟨_, rfl, fun _ s => ⟨d, rfl, h.sm s⟩⟩
theorem e_ixDc {P : Program} {w : World} {K : PySem.W.Frag} {δ : Sls} {ta tb : TE} {kvs : List (PD × PD)} {k e : PD} (ha : Ee K ta δ (.x (isDc P w K kvs))) (hb : Ee K tb δ (.d k)) (hk : KeyOk k) (m : (k, e) ∈ kvs) : Ee K (tOp (rIxDc P w K) ta tb) δ (.d e) := fun σ H Q sd q => by
  refine ha σ H _ sd fun v H1 s1 ⟨w1, e1, f⟩ => ?_
  cases e1
  refine hb σ H1 _ (sd.sm s1) fun u H2 s2 ⟨w2, e2, t2⟩ => ?_
  cases e2
  obtain ⟨d, rfl, hd⟩ := f H2 s2
  exact ⟨d, kvs, k, e, rfl, hd, t2, hk, m, fun v tv => q v H2 (s1.trans s2) ⟨v, rfl, tv⟩⟩
end K80

namespace K80
open PySem PySem.Spec L2
open PyProof.Rows hiding St
local macro_rules | `(tactic| walk_at "ee") => `(tactic| first
  | ((with_reducible apply e_vd); exact rfl)
  | ((with_reducible apply e_vl); exact rfl)
  | ((with_reducible apply e_vv); exact rfl)
  | (with_reducible exact e_ci)
  | (with_reducible exact e_cs)
  | (with_reducible exact e_cb)
  | (with_reducible exact e_cn)
  | (with_reducible exact e_hole)
  | ((with_reducible apply e_ixT); (walk_at "ee"); (walk_at "ee"); (first | decide | omega); exact rfl)
  | ((with_reducible apply e_ixL); (walk_at "ee"); (walk_at "ee"); (first | decide | omega); exact rfl)
  | ((with_reducible apply e_tup); (walk_at "ea"); (exact rfl); (exact Nat.le_of_ble_eq_true rfl))
  | ((with_reducible apply e_lst); (walk_at "ea"); (exact rfl); (exact Nat.le_of_ble_eq_true rfl))
  | ((with_reducible apply e_lenT); (walk_at "ee"))
  | ((with_reducible apply e_lenL); (walk_at "ee"))
  | ((with_reducible apply e_eqS); (walk_at "ee"); (walk_at "ee"))
  | ((with_reducible apply e_eqI); (walk_at "ee"); (walk_at "ee"))
  | ((with_reducible apply e_neS); (walk_at "ee"); (walk_at "ee"))
  | ((with_reducible apply e_neI); (walk_at "ee"); (walk_at "ee"))
  | ((with_reducible apply e_i0); (walk_at "ee"); (walk_at "ee"))
  | ((with_reducible apply e_b0); (walk_at "ee"); (walk_at "ee"))
  | ((with_reducible apply e_isN); (walk_at "ee"))
  | ((with_reducible apply e_notN); (walk_at "ee"))
  | ((with_reducible apply e_tupOf); (walk_at "ee"))
  | ((with_reducible apply e_tail); (walk_at "ee"); (walk_at "ee"))
  | ((with_reducible apply e_call); (walk_at "ea"); (walk_at "own"))
  | ((with_reducible apply e_cat); (walk_at "ee"); (walk_at "ee"); (exact Nat.le_of_ble_eq_true rfl))
  | ((with_reducible apply e_andV); (walk_at "ee"); intro _; (walk_at "ee"))
  | walk_at "ee2")
local macro_rules | `(tactic| walk_at "ea") => `(tactic| first | (with_reducible exact a_nil) | ((with_reducible apply a_cons); (walk_at "ee"); (walk_at "ea")))
local macro_rules | `(tactic| walk_at "et") => `(tactic| first
  | ((with_reducible apply t_B); (walk_at "ee"))
  | ((with_reducible apply t_T); (walk_at "ee"))
  | ((with_reducible apply t_not); (walk_at "et")))
local macro_rules | `(tactic| walk_at "own") => `(tactic| fail "own")
local macro_rules | `(tactic| walk_at "ee2") => `(tactic| fail "ee2")
local macro_rules | `(tactic| walk_at "ret") => `(tactic| ((with_reducible apply s_ret); (walk_at "ee"); exact rfl))
local macro_rules | `(tactic| walk_at "retS") => `(tactic| ((with_reducible apply s_ret); (walk_at "ee"); rotate_left))

local macro_rules | `(tactic| walk_at "own") => `(tactic| first
  | exact ⟨_, _, rfl, rfl⟩
  | exact ⟨_, _, _, _, rfl, rfl⟩
  | (refine ⟨_, ?_, ?_, rfl, rfl⟩; (first | omega | assumption); assumption))
section
variable {P : Program} {w : World} {K : PySem.W.Frag} {mg : Str → Option Value} {base : Heap}
/-! ### is_knot, like_knots -/
def RIsKnot (ss : Sls) (s : Sl) : Prop := ∃ x r, ss = [.d (.tuple (.str x :: r))] ∧ s = .d (.bool (notSign x))
theorem ok_is_knot (T : Top K mg) : GOk P w K mg base 1 "is_knot" ["thing"] (spD K RIsKnot) := by
  refine g_pure T.d_is_knot scIsKnot (fun ss s h => ?_) (fun f cdv A outer s H E hr => ⟨_, (pss_one (ps_ret (pe_and (pe_cmpR op_ne (pe_ix ix_tup (pv 0) pe_int (fun _ _ => rfl)) (pe_gS rfl T.c_CALL) (nomark _)) (pe_one (pe_cmpR op_ne (pe_ix ix_tup (pv 0) pe_int (fun _ _ => rfl)) pe_str (nomark _)))))), fun ss s h => ?_⟩)
  · obtain ⟨x, r, rfl, _⟩ := h; rfl
  · obtain ⟨x, r, rfl, rfl⟩ := h
    dsimp only [cxOf]
    walk_at "ret"
def likeB (x : Str) (n : Nat) (y : Str) (m : Nat) : Bool := notSign x && (decide (x = y) && decide ((n : Int) = (m : Int)))
def RLike (ss : Sls) (s : Sl) : Prop := ∃ x r y q, ss = [.d (.tuple (.str x :: r)), .d (.tuple (.str y :: q))] ∧ s = .d (.bool (likeB x (r.length + 1) y (q.length + 1)))
theorem ok_like_knots (T : Top K mg) (g_is_knot : GOk P w K mg base 1 "is_knot" ["thing"] (spD K RIsKnot)) : GOk P w K mg base 2 "like_knots" ["one", "two"] (spD K RLike) := by
  refine g_pure T.d_like_knots scLikeKnots (fun ss s h => ?_) (fun f cdv A outer s H E hr => ⟨_, (pss_one (ps_ret (pe_and (pe_g g_is_knot (hr.mono (by omega)) rfl (pa_cons (pv 0) pa_nil)) (pe_and (pe_cmpR op_eq (pe_ix ix_tup (pv 0) pe_int (fun _ _ => rfl)) (pe_ix ix_tup (pv 1) pe_int (fun _ _ => rfl)) (nomark _)) (pe_one (pe_cmpR op_eq (pe_callB call_len_seq (by rfl) T.b_len PySem.boot_len (pa_cons (pv 0) pa_nil)) (pe_callB call_len_seq (by rfl) T.b_len PySem.boot_len (pa_cons (pv 1) pa_nil)) (nomark _))))))), fun ss s h => ?_⟩)
  · obtain ⟨x, r, y, q, rfl, _⟩ := h; rfl
  · obtain ⟨x, r, y, q, rfl, rfl⟩ := h
    dsimp only [cxOf]
    walk_at "ret"
/-! ### knots_of -/
def RKnots (n : Nat) (ss : Sls) (s : Sl) : Prop := 0 < n ∧ ((∃ p : Pat, p.dep < n ∧ p.ok ∧ ss = [.d p.e] ∧ s = .d (.int p.knots)) ∨ ∃ x r, notSign x = false ∧ ss = [.d (.tuple (.str x :: r))] ∧ s = .d (.int 0))
theorem st_knots_of {n : Nat} (T : Top K mg) (g_is_knot : GOk P w K mg base 1 "is_knot" ["thing"] (spD K RIsKnot)) (g_knots_of : GOk P w K mg base (n + 1) "knots_of" ["pattern"] (spD K (RKnots n))) : GOk P w K mg base (n + 2) "knots_of" ["pattern"] (spD K (RKnots (n + 1))) := by
  refine g_pure T.d_knots_of scKnotsOf (fun ss s h => ?_) (fun f cdv A outer s H E hr => ⟨_, (pss_cons (ps_if (pt_not (pt_val (pe_g g_is_knot (hr.mono (by omega)) rfl (pa_cons (pv 0) pa_nil)))) (pss_one (ps_ret pe_int)) pss_nil)
      (pss_one (ps_ret (pe_op op_add pe_int (pe_callB (cr_sum rfl) (by rfl) T.b_sum (by decide +kernel) (pa_cons (pe_lc (own := [("part", 1)]) rfl scKnotsOf.nd (pi_tup (pe_slice sl_tupA (pv 0) (po_some pe_int) po_none)) (blkOk_by (N := nKnotsOf) (sc := (defScope sKnotsOf)) (by decide +kernel)) (fun _ _ _ _ _ => (pg_name (i := 1) scKnotsOf.nd rfl (Or.inl rfl) (hf := Or.inr rfl))) (fun _ _ _ _ _ => pts_nil) (fun _ _ _ _ _ => (pe_g g_knots_of (hr.mono (by omega)) rfl (pa_cons (pv 1) pa_nil)))) pa_nil)))))), fun ss s h => ?_⟩)
  · obtain ⟨_, ⟨p, _, _, rfl, _⟩ | ⟨x, r, _, rfl, _⟩⟩ := h <;> rfl
  · dsimp only [cxOf]
    obtain ⟨_, ⟨p, hd, hk, rfl, rfl⟩ | ⟨x, r, hk, rfl, rfl⟩⟩ := h
    rotate_left
    · refine s_seq (s_ifT (by walk_at "et") (by rw [hk]; rfl) ?_)
      walk_at "ret"
    cases p with
    | lf x =>
      have hk' : notSign x = true := hk
      refine s_seq (s_ifF (by walk_at "et") (by rw [hk']; rfl) (s_next ?_))
      exact s_ret (e_i0 e_ci (e_sum (ns := []) (e_lc0 (by walk_at "ee")))) rfl
    | call s k =>
      refine s_seq (s_ifT (by walk_at "et") (by decide) ?_)
      walk_at "ret"
    | g x p =>
      have hk' : notSign x = true := hk.1
      have hk2 : p.ok := hk.2
      have hd2 : p.dep + 1 < n + 1 := hd
      refine s_seq (s_ifF (by walk_at "et") (by rw [hk']; rfl) (s_next ?_))
      refine s_ret (e_i0 e_ci (e_sum (ns := [p.knots]) (e_lc1 (by walk_at "ee") g_name (e_call (ss := [.d p.e]) (by walk_at "ea") ⟨by omega, .inl ⟨p, by omega, hk2, rfl, rfl⟩⟩)))) ?_
      show Sl.d (.int (1 + [p.knots].sum)) = Sl.d (.int (1 + p.knots))
      simp
theorem ok_knots_of (T : Top K mg) (g_is_knot : GOk P w K mg base 1 "is_knot" ["thing"] (spD K RIsKnot)) : ∀ n, GOk P w K mg base (n + 1) "knots_of" ["pattern"] (spD K (RKnots n))
  | 0 => g_none T.d_knots_of fun ss s h => by obtain ⟨h, _⟩ := h; omega
  | n + 1 => st_knots_of T g_is_knot (ok_knots_of T g_is_knot n)
/-! ### tall_of -/
def RTall (n : Nat) (ss : Sls) (s : Sl) : Prop := ∃ p : Pat, p.dep < n ∧ p.ok ∧ ss = [.d p.e] ∧ s = .d (.int p.tall)
theorem st_tall_of {n : Nat} (T : Top K mg) (g_is_knot : GOk P w K mg base 1 "is_knot" ["thing"] (spD K RIsKnot)) (g_tall_of : GOk P w K mg base (n + 1) "tall_of" ["pattern"] (spD K (RTall n))) : GOk P w K mg base (n + 2) "tall_of" ["pattern"] (spD K (RTall (n + 1))) := by
  refine g_pure T.d_tall_of scTallOf (fun ss s h => ?_) (fun f cdv A outer s H E hr => ⟨_, (pss_cons (ps_if (pt_not (pt_val (pe_g g_is_knot (hr.mono (by omega)) rfl (pa_cons (pv 0) pa_nil)))) (pss_one (ps_ret pe_int)) pss_nil)
      (pss_one (ps_ret (pe_op op_add pe_int (pe_maxD rfl rfl T.b_max (by decide +kernel) (pe_lc (own := [("part", 1)]) rfl scTallOf.nd (pi_tup (pe_slice sl_tupA (pv 0) (po_some pe_int) po_none)) (blkOk_by (N := nTallOf) (sc := (defScope sTallOf)) (by decide +kernel)) (fun _ _ _ _ _ => (pg_name (i := 1) scTallOf.nd rfl (Or.inl rfl) (hf := Or.inr rfl))) (fun _ _ _ _ _ => pts_nil) (fun _ _ _ _ _ => (pe_g g_tall_of (hr.mono (by omega)) rfl (pa_cons (pv 1) pa_nil)))) pe_int))))), fun ss s h => ?_⟩)
  · obtain ⟨p, _, _, rfl, _⟩ := h; rfl
  · obtain ⟨p, hd, hk, rfl, rfl⟩ := h
    dsimp only [cxOf]
    cases p with
    | lf x =>
      have hk' : notSign x = true := hk
      refine s_seq (s_ifF (by walk_at "et") (by rw [hk']; rfl) (s_next ?_))
      exact s_ret (e_i0 e_ci (e_max0 (e_lc0 (by walk_at "ee")) e_ci)) rfl
    | call s k =>
      refine s_seq (s_ifT (by walk_at "et") (by decide) ?_)
      walk_at "ret"
    | g x p =>
      have hk' : notSign x = true := hk.1
      have hk2 : p.ok := hk.2
      have hd2 : p.dep + 1 < n + 1 := hd
      refine s_seq (s_ifF (by walk_at "et") (by rw [hk']; rfl) (s_next ?_))
      exact s_ret (e_i0 e_ci (e_max1 (e_lc1 (by walk_at "ee") g_name (by walk_at "ee")) e_ci)) rfl
theorem ok_tall_of (T : Top K mg) (g_is_knot : GOk P w K mg base 1 "is_knot" ["thing"] (spD K RIsKnot)) : ∀ n, GOk P w K mg base (n + 1) "tall_of" ["pattern"] (spD K (RTall n))
  | 0 => g_none T.d_tall_of fun ss s h => by obtain ⟨p, h, _⟩ := h; omega
  | n + 1 => st_tall_of T g_is_knot (ok_tall_of T g_is_knot n)
/-! ### calls_in -/
def RCalls (n : Nat) (ss : Sls) (s : Sl) : Prop := ∃ p : Pat, p.dep < n ∧ p.ok ∧ ss = [.d p.e] ∧ s = .l p.calls
theorem zeros_cons (m : Nat) : PyData.tuple ([.int 0] ++ List.replicate m (.int 0)) = zeros (m + 1) := rfl
theorem st_calls_in {n : Nat} (hn : n ≤ 1000) (T : Top K mg) (g_calls_in : GOk P w K mg base (n + 1) "calls_in" ["pattern"] (spD K (RCalls n))) : GOk P w K mg base (n + 2) "calls_in" ["pattern"] (spD K (RCalls (n + 1))) := by
  refine g_pure T.d_calls_in scCallsIn (fun ss s h => ?_) (fun f cdv A outer s H E hr => ⟨_, (pss_cons (ps_if (pt_cmpR op_eq (pe_ix ix_tup (pv 0) pe_int (fun _ _ => rfl)) (pe_gS rfl T.c_CALL) (nomark _)) (pss_one (ps_ret (pe_lst (pa_cons (pe_tup (pa_cons (pe_tup pa_nil) (pa_cons (pe_tup (pa_cons (pe_ix ix_tup (pv 0) pe_int (fun _ _ => rfl)) (pa_cons (pe_ix ix_tup (pv 0) pe_int (fun _ _ => rfl)) pa_nil))) pa_nil))) pa_nil)))) pss_nil)
      (pss_cons (ps_set (i := 1) scCallsIn.nd rfl (Or.inl rfl) (pe_lst pa_nil))
      (pss_cons (ps_for PassesOwn.never rfl (pi_range2 rfl T.b_range (pa_cons pe_int (pa_cons (pe_callB call_len_seq (by rfl) T.b_len PySem.boot_len (pa_cons (pv 0) pa_nil)) pa_nil))) (pg_name (i := 2) scCallsIn.nd rfl (Or.inr rfl)) (pss_one (ps_expr (pe_bm PySem.F.plainAttrs_list PySem.F.slot_list_extend PySem.F.type_list_extend mt_extend (pv 1) (pa_cons (pe_lc (own := [("place", 3), ("call", 4)]) rfl scCallsIn.nd (pi_list (pe_g g_calls_in (hr.mono (by omega)) rfl (pa_cons (pe_ix ix_tup (pv 0) (pv 2) (fun _ _ => rfl)) pa_nil))) (blkOk_by (N := nCallsIn) (sc := (defScope sCallsIn)) (by decide +kernel)) (fun _ _ _ _ _ => (pg_tupK (K := K) (n := 2) rfl rfl (pgs_cons (pg_name (i := 3) scCallsIn.nd rfl (Or.inl rfl) (hf := Or.inr rfl)) (pgs_cons (pg_name (i := 4) scCallsIn.nd rfl (Or.inl rfl) (hf := Or.inr rfl)) pgs_nil)))) (fun _ _ _ _ _ => pts_nil) (fun _ _ _ _ _ => (pe_tup (pa_cons (pe_op (op_catK (K := K) rfl) (pe_tup (pa_cons (pe_op op_sub (pv 2) pe_int) pa_nil)) (pv 3)) (pa_cons (pv 4) pa_nil))))) pa_nil)))))
      (pss_one (ps_ret (pv 1)))))), fun ss s h => ?_⟩)
  · obtain ⟨p, _, _, rfl, _⟩ := h; rfl
  · obtain ⟨p, hd, hk, rfl, rfl⟩ := h
    dsimp only [cxOf]
    cases p with
    | lf x =>
      have hk' : notSign x = true := hk
      refine s_seq (s_ifF (by walk_at "et") (notSign_q hk') (s_next ?_))
      intro σ H E sd le
      refine r_newL sd fun p H1 s1 n1 l1 sd1 => ?_
      refine r_for0 (by walk_at "ea") sd1 (by decide) (by simp) (by simp) fun H2 s2 => ?_
      exact r_ret (e_vv rfl) (sd1.sm s2) fun v H3 s3 hv => le.rt v H3 _ ((s1.trans s2).trans s3) (by cases hv; exact ((l1.sm s2).sm s3).l) rfl
    | call s k =>
      refine s_seq (s_ifT (by walk_at "et") (by decide) ?_)
      walk_at "ret"
    | g x p =>
      have hk' : notSign x = true := hk.1
      have hk2 : p.ok := hk.2
      have hd2 : p.dep + 1 < n + 1 := hd
      refine s_seq (s_ifF (by walk_at "et") (notSign_q hk') (s_next ?_))
      intro σ H E sd le
      refine r_newL sd fun a H1 s1 n1 l1 sd1 => ?_
      refine r_for1 (by walk_at "ea") sd1 (by decide) (by simp) (by simp) g_name fun σ2 H2 s2 sd2 => ?_
      cases hat : p.at with
      | none =>
        have ec : p.calls = [] := by unfold Pat.calls; rw [hat]
        have ec2 : (Pat.g x p).calls = [] := by unfold Pat.calls Pat.at; rw [hat]; rfl
        refine r_extend (es := []) sd2 rfl (e_lcL0 ((show Ee K _ _ (.l p.calls) from by walk_at "ee").to (by rw [ec]))) (l1.sm s2) (by simp) rfl fun H3 o3 l3 sd3 => ?_
        refine r_ret (e_vv rfl) sd3 fun v H4 s4 hv => le.rt v H4 _ ((o3.same (s1.trans s2) n1).trans s4) ?_ rfl
        cases hv
        rw [ec2]
        exact (l3.sm s4).l
      | some q =>
        obtain ⟨m, st, k⟩ := q
        have hm : m ≤ 1000 := by
          have aux : ∀ (p : Pat) q, p.at = some q → q.1 ≤ p.dep := by
            intro p
            induction p with
            | lf x => intro q h; cases h
            | call s k => intro q h; cases h; exact Nat.zero_le _
            | g x p ih =>
              intro q h
              have h' : (p.at.map fun q => (q.1 + 1, q.2)) = some q := h
              cases e : p.at with
              | none => rw [e] at h'; cases h'
              | some r =>
                rw [e] at h'
                cases h'
                exact Nat.succ_le_succ (ih r e)
          have := aux p _ hat
          simp only at this
          omega
        have ec : p.calls = [callE (m, st, k)] := by unfold Pat.calls; rw [hat]
        have ec2 : (Pat.g x p).calls = [callE (m + 1, st, k)] := by unfold Pat.calls Pat.at; rw [hat]; rfl
        refine r_extend (es := [callE (m + 1, st, k)]) sd2 rfl ?_ (l1.sm s2) (by simp) rfl fun H3 o3 l3 sd3 => ?_
        · refine e_lcL1 (d := callE (m, st, k)) ((show Ee K _ _ (.l p.calls) from by walk_at "ee").to (by rw [ec])) (js := [3, 4]) (g_tup (ds := [zeros m, .tuple [st, .int k]]) (gs_cons g_name (gs_cons g_name gs_nil)) rfl) ?_
          apply e_tup
          · apply a_cons
            · apply e_cat
              · walk_at "ee"
              · exact e_vd rfl
              · show 1 + (List.replicate m _).length ≤ _
                rw [List.length_replicate]
                omega
            · walk_at "ea"
          · exact rfl
          · show 2 ≤ 1000; decide
        · refine r_ret (e_vv rfl) sd3 fun v H4 s4 hv => le.rt v H4 _ ((o3.same (s1.trans s2) n1).trans s4) ?_ rfl
          cases hv
          rw [ec2]
          exact (l3.sm s4).l
theorem ok_calls_in (T : Top K mg) : ∀ n, n ≤ 1000 → GOk P w K mg base (n + 1) "calls_in" ["pattern"] (spD K (RCalls n))
  | 0, _ => g_none T.d_calls_in fun ss s h => by obtain ⟨p, h, _⟩ := h; omega
  | n + 1, h => st_calls_in (by omega) T (ok_calls_in T n (by omega))
end
end K80

namespace K80
open PySem PySem.Spec L2
open PyProof.Rows hiding St
local macro_rules | `(tactic| walk_at "ee") => `(tactic| first
  | ((with_reducible apply e_vd); exact rfl)
  | ((with_reducible apply e_vl); exact rfl)
  | ((with_reducible apply e_vv); exact rfl)
  | (with_reducible exact e_ci)
  | (with_reducible exact e_cs)
  | (with_reducible exact e_cb)
  | (with_reducible exact e_cn)
  | (with_reducible exact e_hole)
  | ((with_reducible apply e_ixT); (walk_at "ee"); (walk_at "ee"); (first | decide | omega); exact rfl)
  | ((with_reducible apply e_ixL); (walk_at "ee"); (walk_at "ee"); (first | decide | omega); exact rfl)
  | ((with_reducible apply e_tup); (walk_at "ea"); (exact rfl); (exact Nat.le_of_ble_eq_true rfl))
  | ((with_reducible apply e_lst); (walk_at "ea"); (exact rfl); (exact Nat.le_of_ble_eq_true rfl))
  | ((with_reducible apply e_lenT); (walk_at "ee"))
  | ((with_reducible apply e_lenL); (walk_at "ee"))
  | ((with_reducible apply e_eqS); (walk_at "ee"); (walk_at "ee"))
  | ((with_reducible apply e_eqI); (walk_at "ee"); (walk_at "ee"))
  | ((with_reducible apply e_neS); (walk_at "ee"); (walk_at "ee"))
  | ((with_reducible apply e_neI); (walk_at "ee"); (walk_at "ee"))
  | ((with_reducible apply e_i0); (walk_at "ee"); (walk_at "ee"))
  | ((with_reducible apply e_b0); (walk_at "ee"); (walk_at "ee"))
  | ((with_reducible apply e_isN); (walk_at "ee"))
  | ((with_reducible apply e_notN); (walk_at "ee"))
  | ((with_reducible apply e_tupOf); (walk_at "ee"))
  | ((with_reducible apply e_tail); (walk_at "ee"); (walk_at "ee"))
  | ((with_reducible apply e_call); (walk_at "ea"); (walk_at "own"))
  | ((with_reducible apply e_cat); (walk_at "ee"); (walk_at "ee"); (exact Nat.le_of_ble_eq_true rfl))
  | ((with_reducible apply e_andV); (walk_at "ee"); intro _; (walk_at "ee"))
  | walk_at "ee2")
local macro_rules | `(tactic| walk_at "ea") => `(tactic| first | (with_reducible exact a_nil) | ((with_reducible apply a_cons); (walk_at "ee"); (walk_at "ea")))
local macro_rules | `(tactic| walk_at "et") => `(tactic| first
  | ((with_reducible apply t_B); (walk_at "ee"))
  | ((with_reducible apply t_T); (walk_at "ee"))
  | ((with_reducible apply t_not); (walk_at "et")))
local macro_rules | `(tactic| walk_at "own") => `(tactic| fail "own")
local macro_rules | `(tactic| walk_at "ee2") => `(tactic| fail "ee2")
local macro_rules | `(tactic| walk_at "ret") => `(tactic| ((with_reducible apply s_ret); (walk_at "ee"); exact rfl))
local macro_rules | `(tactic| walk_at "retS") => `(tactic| ((with_reducible apply s_ret); (walk_at "ee"); rotate_left))

local macro_rules | `(tactic| walk_at "own") => `(tactic| first
  | exact ⟨_, _, rfl, rfl⟩
  | exact ⟨_, _, _, _, rfl, rfl⟩
  | (refine ⟨_, ?_, ?_, rfl, rfl⟩; (first | omega | assumption); assumption)
  | (refine ⟨by omega, .inl ⟨_, ?_, ?_, rfl, rfl⟩⟩; (first | omega | assumption); assumption))
section
variable {P : Program} {w : World} {K : PySem.W.Frag} {mg : Str → Option Value} {base : Heap}
theorem calls_len (p : Pat) : p.calls.length ≤ 1 := by
  unfold Pat.calls
  cases p.at with
  | none => exact Nat.zero_le _
  | some q => exact Nat.le_refl _
/-! ### small_pattern, looked_at -/
def RSmall (ss : Sls) (s : Sl) : Prop := ∃ p : Pat, p.dep < 4 ∧ p.ok ∧ ss = [.d p.e] ∧ s = .d (.bool true)
theorem ok_small_pattern (T : Top K mg) (g_tall_of : GOk P w K mg base 5 "tall_of" ["pattern"] (spD K (RTall 4))) (g_knots_of : GOk P w K mg base 5 "knots_of" ["pattern"] (spD K (RKnots 4)))
    (g_calls_in : GOk P w K mg base 5 "calls_in" ["pattern"] (spD K (RCalls 4))) : GOk P w K mg base 6 "small_pattern" ["pattern"] (spD K RSmall) := by
  refine g_pure T.d_small_pattern scSmallPattern (fun ss s h => ?_) (fun f cdv A outer s H E hr => ⟨_, (pss_cons (ps_if (PW.pt (pw_or (pt_cmpR op_gt (pe_g g_tall_of (hr.mono (by omega)) rfl (pa_cons (pv 0) pa_nil)) (pe_gI rfl T.c_TALLEST) (nomark _)) (pw_or1 (pt_cmpR op_gt (pe_g g_knots_of (hr.mono (by omega)) rfl (pa_cons (pv 0) pa_nil)) (pe_gI rfl T.c_MOST_KNOTS) (nomark _))))) (pss_one (ps_ret pe_bl)) pss_nil)
      (pss_one (ps_ret (pe_cmpR op_le (pe_callB call_len_seq (by rfl) T.b_len PySem.boot_len (pa_cons (pe_g g_calls_in (hr.mono (by omega)) rfl (pa_cons (pv 0) pa_nil)) pa_nil)) (pe_gI rfl T.c_MOST_CALLS) (nomark _))))), fun ss s h => ?_⟩)
  · obtain ⟨p, _, _, rfl, _⟩ := h; rfl
  · obtain ⟨p, hd, hk, rfl, rfl⟩ := h
    try dsimp only [cxOf]
    have ht := p.tall_dep
    have hn := p.knots_dep
    have hc := calls_len p
    refine s_seq (s_ifF (t_or (by walk_at "et") fun _ => by walk_at "et") (by simp; omega) (s_next ?_))
    apply s_ret
    · walk_at "ee"
    · show Sl.d (.bool (decide ((p.calls.length : Int) ≤ 200))) = _
      rw [decide_eq_true (by omega)]
def RLooked (ss : Sls) (s : Sl) : Prop := ∃ p : Pat, p.dep < 4 ∧ p.ok ∧ ss = [.d p.e] ∧ s = .d p.e
theorem ok_looked_at (T : Top K mg) (g_small_pattern : GOk P w K mg base 6 "small_pattern" ["pattern"] (spD K RSmall)) : GOk P w K mg base 7 "looked_at" ["pattern"] (spD K RLooked) := by
  refine g_pure T.d_looked_at scLookedAt (fun ss s h => ?_) (fun f cdv A outer s H E hr => ⟨_, (pss_cons (ps_if (pt_not (pt_val (pe_g g_small_pattern (hr.mono (by omega)) rfl (pa_cons (pv 0) pa_nil)))) (pss_one ps_never) pss_nil)
      (pss_one (ps_ret (pv 0)))), fun ss s h => ?_⟩)
  · obtain ⟨p, _, _, rfl, _⟩ := h; rfl
  · obtain ⟨p, hd, hk, rfl, rfl⟩ := h
    try dsimp only [cxOf]
    refine s_seq (s_ifF (by walk_at "et") (by rfl) (s_next ?_))
    walk_at "ret"
/-! ### fronts without trees: a hole (none) or a leaf -/
def fbE : Option Str → PD
  | none => hHole
  | some x => .tuple [.str x]
theorem hole_sh : SeqAt.shaped hHole = true := by decide +kernel
theorem leaf_sh {x : Str} (h : PyData.strOk x = true) : SeqAt.shaped (.tuple [.str x]) = true := by simp [SeqAt.shaped, PyData.canLay0, PyData.canLayAll0, PyData.depth, PyData.depthAll, h]
theorem leaf_hole {x : Str} (h : notSign x = true) : PyData.eqv (.tuple [.str x]) hHole = false := by
  have q := notSign_h h
  have e : PyData.eqv (.tuple [.str x]) hHole = (decide (x = "*") && true) := by
    simp only [hHole, PyData.eqv, PyData.eqvAll]
    rw [Bool.beq_eq_decide_eq]
  rw [e, q]; rfl
theorem hole_hole : PyData.eqv hHole hHole = true := SeqAt.eqv_refl _ (by decide +kernel)
def fbOk : Option Str → Prop
  | none => True
  | some x => notSign x = true ∧ PyData.strOk x = true
def RHoles (ss : Sls) (s : Sl) : Prop := ∃ o : Option Str, fbOk o ∧ ss = [.d (fbE o)] ∧ s = .l (match o with | none => [zeros 0] | some _ => [])
theorem ok_holes_in (T : Top K mg) : GOk P w K mg base 1 "holes_in" ["front"] (spD K RHoles) := by
  have g_holes_in : GOk P w K mg base 0 "holes_in" ["front"] (spD K fun _ _ => False) := g_none T.d_holes_in fun ss s h => h
  refine g_pure T.d_holes_in scHolesIn (fun ss s h => ?_) (fun f cdv A outer s H E hr => ⟨_, (pss_cons (ps_if (pt_cmpR (op_eqD hr.units) (pv 0) (pe_gR rfl T.c_HOLE) (nomark _)) (pss_one (ps_ret (pe_lst (pa_cons (pe_tup pa_nil) pa_nil)))) pss_nil)
      (pss_cons (ps_set (i := 1) scHolesIn.nd rfl (Or.inl rfl) (pe_lst pa_nil))
      (pss_cons (ps_for PassesOwn.never rfl (pi_range2 rfl T.b_range (pa_cons pe_int (pa_cons (pe_callB call_len_seq (by rfl) T.b_len PySem.boot_len (pa_cons (pv 0) pa_nil)) pa_nil))) (pg_name (i := 2) scHolesIn.nd rfl (Or.inr rfl)) (pss_one (ps_expr (pe_bm PySem.F.plainAttrs_list PySem.F.slot_list_extend PySem.F.type_list_extend mt_extend (pv 1) (pa_cons (pe_lc (own := [("place", 3)]) rfl scHolesIn.nd (pi_list (pe_g g_holes_in (hr.mono (by omega)) rfl (pa_cons (pe_ix ix_tup (pv 0) (pv 2) (fun _ _ => rfl)) pa_nil))) (blkOk_by (N := nHolesIn) (sc := (defScope sHolesIn)) (by decide +kernel)) (fun _ _ _ _ _ => (pg_name (i := 3) scHolesIn.nd rfl (Or.inl rfl) (hf := Or.inr rfl))) (fun _ _ _ _ _ => pts_nil) (fun _ _ _ _ _ => (pe_op (op_catK (K := K) rfl) (pe_tup (pa_cons (pe_op op_sub (pv 2) pe_int) pa_nil)) (pv 3)))) pa_nil)))))
      (pss_one (ps_ret (pv 1)))))), fun ss s h => ?_⟩)
  · obtain ⟨o, _, rfl, _⟩ := h; rfl
  · obtain ⟨o, ho, rfl, rfl⟩ := h
    try dsimp only [cxOf]
    cases o with
    | none =>
      refine s_seq (s_ifT (t_T (e_eqD (x := hHole) (e_vd rfl) e_hole hole_sh hole_sh)) hole_hole ?_)
      walk_at "ret"
    | some x =>
      refine s_seq (s_ifF (t_T (e_eqD (x := .tuple [.str x]) (e_vd rfl) e_hole (leaf_sh ho.2) hole_sh)) (leaf_hole ho.1) (s_next ?_))
      intro σ H E sd le
      refine r_newL sd fun p H1 s1 n1 l1 sd1 => ?_
      refine r_for0 (by walk_at "ea") sd1 (by decide) (by simp) (by simp) fun H2 s2 => ?_
      exact r_ret (e_vv rfl) (sd1.sm s2) fun v H3 s3 hv => le.rt v H3 _ ((s1.trans s2).trans s3) (by cases hv; exact ((l1.sm s2).sm s3).l) rfl
def RHungBy (ss : Sls) (s : Sl) : Prop := ∃ (o : Option Str) (ds : List PD), fbOk o ∧ ss = [.d (fbE o), .l ds, .d (.int 0)] ∧ (match o with | none => ∃ d, ds[0]? = some d ∧ s = .d (.tuple [d, .int 1]) | some x => s = .d (.tuple [.tuple [.str x], .int 0]))
theorem ok_hung_by (T : Top K mg) : GOk P w K mg base 1 "hung_by" ["front", "parts", "used"] (spD K RHungBy) := by
  have g_hung_by : GOk P w K mg base 0 "hung_by" ["front", "parts", "used"] (spD K fun _ _ => False) := g_none T.d_hung_by fun ss s h => h
  refine g_pure T.d_hung_by scHungBy (fun ss s h => ?_) (fun f cdv A outer s H E hr => ⟨_, (pss_cons (ps_if (pt_cmpR (op_eqD hr.units) (pv 0) (pe_gR rfl T.c_HOLE) (nomark _)) (pss_one (ps_ret (pe_tup (pa_cons (pe_ix ix_list (pv 1) (pv 2) (fun _ _ => rfl)) (pa_cons (pe_op op_add (pv 2) pe_int) pa_nil))))) pss_nil)
      (pss_cons (ps_set (i := 3) scHungBy.nd rfl (Or.inl rfl) (pe_tup (pa_cons (pe_ix ix_tup (pv 0) pe_int (fun _ _ => rfl)) pa_nil)))
      (pss_cons (ps_for PassesOwn.never rfl (pi_range2 rfl T.b_range (pa_cons pe_int (pa_cons (pe_callB call_len_seq (by rfl) T.b_len PySem.boot_len (pa_cons (pv 0) pa_nil)) pa_nil))) (pg_name (i := 4) scHungBy.nd rfl (Or.inl rfl)) (pss_cons (ps_asg (pe_g g_hung_by (hr.mono (by omega)) rfl (pa_cons (pe_ix ix_tup (pv 0) (pv 4) (fun _ _ => rfl)) (pa_cons (pv 1) (pa_cons (pv 2) pa_nil)))) (pg_tup rfl (pgs_cons (pg_name (i := 5) scHungBy.nd rfl (Or.inl rfl)) (pgs_cons (pg_name (i := 2) scHungBy.nd rfl (Or.inl rfl)) pgs_nil))))
      (pss_one (ps_set (i := 3) scHungBy.nd rfl (Or.inl rfl) (pe_op op_catA (pv 3) (pe_tup (pa_cons (pv 5) pa_nil)))))))
      (pss_one (ps_ret (pe_tup (pa_cons (pv 3) (pa_cons (pv 2) pa_nil)))))))), fun ss s h => ?_⟩)
  · obtain ⟨o, ds, _, rfl, _⟩ := h; rfl
  · obtain ⟨o, ds, ho, rfl, h⟩ := h
    try dsimp only [cxOf]
    cases o with
    | none =>
      obtain ⟨d, hd, rfl⟩ := h
      refine s_seq (s_ifT (t_T (e_eqD (x := hHole) (e_vd rfl) e_hole hole_sh hole_sh)) hole_hole ?_)
      refine s_ret (e_tup (a_cons (e_ixL (e_vl rfl) (e_vd rfl) (by decide) hd) (a_cons (by walk_at "ee") a_nil)) rfl (Nat.le_of_ble_eq_true rfl)) rfl
    | some x =>
      subst h
      refine s_seq (s_ifF (t_T (e_eqD (x := .tuple [.str x]) (e_vd rfl) e_hole (leaf_sh ho.2) hole_sh)) (leaf_hole ho.1) (s_next ?_))
      refine s_seq (s_set (s := .d (.tuple [.str x])) (by walk_at "ee") ?_)
      refine s_seq (s_forR0 (by walk_at "ea") (by decide) (by simp) (by simp) ?_)
      walk_at "ret"
def RHung (ss : Sls) (s : Sl) : Prop := ∃ (o : Option Str) (ds : List PD), fbOk o ∧ ss = [.d (fbE o), .l ds] ∧ (match o with | none => ∃ d, ds[0]? = some d ∧ s = .d d | some x => s = .d (.tuple [.str x]))
theorem ok_hung (T : Top K mg) (g_hung_by : GOk P w K mg base 1 "hung_by" ["front", "parts", "used"] (spD K RHungBy)) : GOk P w K mg base 2 "hung" ["front", "parts"] (spD K RHung) := by
  refine g_pure T.d_hung scHung (fun ss s h => ?_) (fun f cdv A outer s H E hr => ⟨_, (pss_one (ps_ret (pe_ix ix_tup (pe_g g_hung_by (hr.mono (by omega)) rfl (pa_cons (pv 0) (pa_cons (pv 1) (pa_cons pe_int pa_nil)))) pe_int (fun _ _ => rfl)))), fun ss s h => ?_⟩)
  · obtain ⟨o, ds, _, rfl, _⟩ := h; rfl
  · obtain ⟨o, ds, ho, rfl, h⟩ := h
    try dsimp only [cxOf]
    cases o with
    | none =>
      obtain ⟨d, hd, rfl⟩ := h
      exact s_ret (e_ixT (ds := [d, .int 1]) (e_call (ss := [.d hHole, .l ds, .d (.int 0)]) (by walk_at "ea") ⟨none, ds, trivial, rfl, d, hd, rfl⟩) e_ci (by decide) rfl) rfl
    | some x =>
      subst h
      exact s_ret (e_ixT (ds := [.tuple [.str x], .int 0]) (e_call (ss := [.d (.tuple [.str x]), .l ds, .d (.int 0)]) (by walk_at "ea") ⟨some x, ds, ho, rfl, rfl⟩) e_ci (by decide) rfl) rfl
/-! ### filled -/
def hasKey (p r : Pat) (kvs : List (PD × PD)) : Prop := ∀ q, p.at = some q → KeyOk (.tuple [q.2.1, .int q.2.2]) ∧ (.tuple [q.2.1, .int q.2.2], r.e) ∈ kvs
theorem hasKey_g {x : Str} {p r : Pat} {kvs : List (PD × PD)} (h : hasKey (.g x p) r kvs) : hasKey p r kvs := fun q hq => h (q.1 + 1, q.2) (by
  show (p.at.map fun q => (q.1 + 1, q.2)) = _
  rw [hq]; rfl)
def RFilled (P : Program) (w : World) (K : PySem.W.Frag) (n : Nat) (ss : Sls) (s : Sl) : Prop := ∃ (p r : Pat) (kvs : List (PD × PD)), p.dep < n ∧ p.ok ∧ hasKey p r kvs ∧ ss = [.d p.e, .x (isDc P w K kvs)] ∧ s = .d (Pat.sub r p).e
theorem st_filled {n : Nat} (T : Top K mg) (g_filled : GOk P w K mg base (n + 1) "filled" ["pattern", "table"] (spD K (RFilled P w K n))) : GOk P w K mg base (n + 2) "filled" ["pattern", "table"] (spD K (RFilled P w K (n + 1))) := by
  refine g_pure T.d_filled scFilled (fun ss s h => ?_) (fun f cdv A outer s H E hr => ⟨_, (pss_cons (ps_if (pt_cmpR op_eq (pe_ix ix_tup (pv 0) pe_int (fun _ _ => rfl)) (pe_gS rfl T.c_CALL) (nomark _)) (pss_one (ps_ret (pe_ix (ix_dc hr.units) (pv 1) (pe_tup (pa_cons (pe_ix ix_tup (pv 0) pe_int (fun _ _ => rfl)) (pa_cons (pe_ix ix_tup (pv 0) pe_int (fun _ _ => rfl)) pa_nil))) (fun _ _ => rfl)))) pss_nil)
      (pss_one (ps_ret (pe_op op_catA (pe_tup (pa_cons (pe_ix ix_tup (pv 0) pe_int (fun _ _ => rfl)) pa_nil)) (pe_callTy call_tuple_of (by rfl) T.b_tuple (by decide +kernel) (pa_cons (pe_lc (own := [("part", 2)]) rfl scFilled.nd (pi_tup (pe_slice sl_tupA (pv 0) (po_some pe_int) po_none)) (blkOk_by (N := nFilled) (sc := (defScope sFilled)) (by decide +kernel)) (fun _ _ _ _ _ => (pg_name (i := 2) scFilled.nd rfl (Or.inl rfl) (hf := Or.inr rfl))) (fun _ _ _ _ _ => pts_nil) (fun _ _ _ _ _ => (pe_g g_filled (hr.mono (by omega)) rfl (pa_cons (pv 2) (pa_cons (pv 1) pa_nil))))) pa_nil)))))), fun ss s h => ?_⟩)
  · obtain ⟨p, r, kvs, _, _, _, rfl, _⟩ := h; rfl
  · obtain ⟨p, r, kvs, hd, hk, hm, rfl, rfl⟩ := h
    try dsimp only [cxOf]
    cases p with
    | lf x =>
      have hk' : notSign x = true := hk
      refine s_seq (s_ifF (by walk_at "et") (notSign_q hk') (s_next ?_))
      exact s_ret (e_cat (by walk_at "ee") (e_tupOf (e_lc0 (by walk_at "ee"))) (Nat.le_of_ble_eq_true rfl)) rfl
    | call s k =>
      refine s_seq (s_ifT (by walk_at "et") (by decide) ?_)
      obtain ⟨h1, h2⟩ := hm _ rfl
      exact s_ret (e_ixDc (e_vx rfl) (by walk_at "ee") h1 h2) rfl
    | g x p =>
      have hk' : notSign x = true := hk.1
      have hk2 : p.ok := hk.2
      have hd2 : p.dep + 1 < n + 1 := hd
      refine s_seq (s_ifF (by walk_at "et") (notSign_q hk') (s_next ?_))
      exact s_ret (e_cat (by walk_at "ee") (e_tupOf (e_lc1 (d := p.e) (by walk_at "ee") g_name (e_call (ss := [.d p.e, .x (isDc P w K kvs)]) (a_cons (e_vd rfl) (a_cons (e_vx rfl) a_nil)) ⟨p, r, kvs, by omega, hk2, hasKey_g hm, rfl, rfl⟩))) (Nat.le_of_ble_eq_true rfl)) rfl
theorem ok_filled (T : Top K mg) : ∀ n, GOk P w K mg base (n + 1) "filled" ["pattern", "table"] (spD K (RFilled P w K n))
  | 0 => g_none T.d_filled fun ss s h => by obtain ⟨p, _, _, h, _⟩ := h; omega
  | n + 1 => st_filled T (ok_filled T n)
/-! ### knot_at -/
/-- what stands under m knots -/
def Pat.dig : Pat → Nat → Option Pat
  | p, 0 => some p
  | .g _ p, m + 1 => p.dig m
  | .lf _, _ + 1 => none
  | .call _ _, _ + 1 => none
theorem dig_g {x : Str} {p : Pat} {m : Nat} : (Pat.g x p).dig (m + 1) = p.dig m := rfl
theorem dig_more : ∀ {p q : Pat} {m i : Nat}, p.dig m = some q → i < m → ∃ x r, p.dig i = some (.g x r) ∧ p.dig (i + 1) = some r
  | .g x p, q, m + 1, 0, h, _ => ⟨x, p, rfl, by cases p <;> rfl⟩
  | .g x p, q, m + 1, i + 1, h, hi => dig_more (p := p) (q := q) (m := m) (i := i) h (by omega)
  | .lf _, _, _ + 1, _, h, _ => by cases h
  | .call _ _, _, _ + 1, _, h, _ => by cases h
def RKnotAt (ss : Sls) (s : Sl) : Prop := ∃ (p q : Pat) (m : Nat), p.dig m = some q ∧ ss = [.d p.e, .d (zeros m)] ∧ s = .d q.e
theorem ok_knot_at (T : Top K mg) : GOk P w K mg base 1 "knot_at" ["tree", "place"] (spD K RKnotAt) := by
  refine g_pure T.d_knot_at scKnotAt (fun ss s h => ?_) (fun f cdv A outer s H E hr => ⟨_, (pss_cons (ps_for PassesOwn.never rfl (pi_tup (pv 1)) (pg_name (i := 2) scKnotAt.nd rfl (Or.inl rfl)) (pss_cons (ps_if (PW.pt (pw_or (pt_cmpR op_lt (pv 2) pe_int (nomark _)) (pw_or1 (pt_cmpR op_ge (pv 2) (pe_op op_sub (pe_callB call_len_seq (by rfl) T.b_len PySem.boot_len (pa_cons (pv 0) pa_nil)) pe_int) (nomark _))))) (pss_one ps_never) pss_nil)
      (pss_one (ps_set (i := 0) scKnotAt.nd rfl (Or.inl rfl) (pe_ix ix_tup (pv 0) (pe_op op_add (pv 2) pe_int) (fun _ _ => rfl))))))
      (pss_one (ps_ret (pv 0)))), fun ss s h => ?_⟩)
  · obtain ⟨p, q, m, _, rfl, _⟩ := h; rfl
  · obtain ⟨p, q, m, hq, rfl, rfl⟩ := h
    try dsimp only [cxOf]
    refine s_seq (s_forT (ds := List.replicate m (.int 0)) (js := [2]) (e_vd rfl) (fun i δ => ∃ r z, p.dig i = some r ∧ δ = [.d r.e, .d (zeros m), z]) ⟨p, .no, by cases p <;> rfl, rfl⟩ (fun i d δ hi ⟨r, z, hr, e⟩ => ?_) (fun δ ⟨r, z, hr, e⟩ => ?_))
    · have him : i < m := by
        have q := (List.getElem?_eq_some_iff.mp hi).1
        rw [List.length_replicate] at q
        exact q
      have ed : d = .int 0 := by
        rw [List.getElem?_replicate, if_pos him] at hi
        exact (Option.some.inj hi).symm
      subst ed e
      obtain ⟨x, r', h1, h2⟩ := dig_more hq him
      rw [hr] at h1
      cases h1
      refine ⟨[.d (Pat.g x r').e, .d (zeros m), .d (.int 0)], g_name, ?_⟩
      refine s_seq (s_ifF (t_or (by walk_at "et") fun _ => by walk_at "et") (by rfl) (s_next ?_))
      refine s_set (s := .d r'.e) (by walk_at "ee") ⟨r', _, h2, rfl⟩
    · subst e
      rw [List.length_replicate, hq] at hr
      cases hr
      walk_at "ret"
end
end K80

namespace K80
open PySem PySem.Spec L2
open PyProof.Rows hiding St
local macro_rules | `(tactic| walk_at "ee") => `(tactic| first
  | ((with_reducible apply e_vd); exact rfl)
  | ((with_reducible apply e_vl); exact rfl)
  | ((with_reducible apply e_vv); exact rfl)
  | (with_reducible exact e_ci)
  | (with_reducible exact e_cs)
  | (with_reducible exact e_cb)
  | (with_reducible exact e_cn)
  | (with_reducible exact e_hole)
  | ((with_reducible apply e_ixT); (walk_at "ee"); (walk_at "ee"); (first | decide | omega); exact rfl)
  | ((with_reducible apply e_ixL); (walk_at "ee"); (walk_at "ee"); (first | decide | omega); exact rfl)
  | ((with_reducible apply e_tup); (walk_at "ea"); (exact rfl); (exact Nat.le_of_ble_eq_true rfl))
  | ((with_reducible apply e_lst); (walk_at "ea"); (exact rfl); (exact Nat.le_of_ble_eq_true rfl))
  | ((with_reducible apply e_lenT); (walk_at "ee"))
  | ((with_reducible apply e_lenL); (walk_at "ee"))
  | ((with_reducible apply e_eqS); (walk_at "ee"); (walk_at "ee"))
  | ((with_reducible apply e_eqI); (walk_at "ee"); (walk_at "ee"))
  | ((with_reducible apply e_neS); (walk_at "ee"); (walk_at "ee"))
  | ((with_reducible apply e_neI); (walk_at "ee"); (walk_at "ee"))
  | ((with_reducible apply e_i0); (walk_at "ee"); (walk_at "ee"))
  | ((with_reducible apply e_b0); (walk_at "ee"); (walk_at "ee"))
  | ((with_reducible apply e_isN); (walk_at "ee"))
  | ((with_reducible apply e_notN); (walk_at "ee"))
  | ((with_reducible apply e_tupOf); (walk_at "ee"))
  | ((with_reducible apply e_tail); (walk_at "ee"); (walk_at "ee"))
  | ((with_reducible apply e_call); (walk_at "ea"); (walk_at "own"))
  | ((with_reducible apply e_cat); (walk_at "ee"); (walk_at "ee"); (exact Nat.le_of_ble_eq_true rfl))
  | ((with_reducible apply e_andV); (walk_at "ee"); intro _; (walk_at "ee"))
  | walk_at "ee2")
local macro_rules | `(tactic| walk_at "ea") => `(tactic| first | (with_reducible exact a_nil) | ((with_reducible apply a_cons); (walk_at "ee"); (walk_at "ea")))
local macro_rules | `(tactic| walk_at "et") => `(tactic| first
  | ((with_reducible apply t_B); (walk_at "ee"))
  | ((with_reducible apply t_T); (walk_at "ee"))
  | ((with_reducible apply t_not); (walk_at "et")))
local macro_rules | `(tactic| walk_at "own") => `(tactic| fail "own")
local macro_rules | `(tactic| walk_at "ee2") => `(tactic| fail "ee2")
local macro_rules | `(tactic| walk_at "ret") => `(tactic| ((with_reducible apply s_ret); (walk_at "ee"); exact rfl))
local macro_rules | `(tactic| walk_at "retS") => `(tactic| ((with_reducible apply s_ret); (walk_at "ee"); rotate_left))

local macro_rules | `(tactic| walk_at "own") => `(tactic| first
  | exact ⟨_, _, rfl, rfl⟩
  | exact ⟨_, _, _, _, rfl, rfl⟩
  | (refine ⟨_, ?_, ?_, rfl, rfl⟩; (first | omega | assumption); assumption))
/-! ### kinds, trees, fronts with trees -/
/-- ins: a leaf kind, a kind of many kids -/
structure Ins where
  l : Str
  k : Str
  m : Nat
def Ins.kd (I : Ins) : PD := .tuple [.str I.k, .int (I.m : Nat)]
def Ins.ld (I : Ins) : PD := .tuple [.str I.l, .int 0]
def Ins.e (I : Ins) : PD := .tuple [I.ld, I.kd]
def Ins.leaf (I : Ins) : PD := .tuple [.str I.l]
structure Ins.ok (I : Ins) : Prop where
  ne : I.l ≠ I.k
  m1 : 1 ≤ I.m
  m3 : I.m ≤ 3
  sl : notSign I.l = true ∧ PyData.strOk I.l = true
  sk : notSign I.k = true ∧ PyData.strOk I.k = true
/-- a tree: a leaf, or a knot with the rest at one kid and leaves elsewhere -/
abbrev Tr := List Nat
def kidsD (I : Ins) (k : Nat) (d : PD) : List PD := (List.range I.m).map fun j => if j = k then d else I.leaf
def trE (I : Ins) : Tr → PD
  | [] => I.leaf
  | k :: r => .tuple (.str I.k :: kidsD I k (trE I r))
/-- a front with trees: a leaf, or a hole with two trees -/
abbrev FT := Option (Tr × Tr)
def ftE (I : Ins) (a : Str) : FT → PD
  | none => .tuple [.str a]
  | some t => .tuple [.str "*", trE I t.1, trE I t.2]
section
variable {P : Program} {w : World} {K : PySem.W.Frag} {mg : Str → Option Value} {base : Heap}
theorem kidsD_len (I : Ins) (k : Nat) (d : PD) : (kidsD I k d).length = I.m := by unfold kidsD; rw [List.length_map, List.length_range]
theorem kidsD_at {I : Ins} {k i : Nat} {d : PD} (h : i < I.m) : (kidsD I k d)[i]? = some (if i = k then d else I.leaf) := by
  unfold kidsD
  rw [List.getElem?_map, List.getElem?_range h]; rfl
/-! ### knot_with -/
def RKnotWith (ss : Sls) (s : Sl) : Prop := ∃ (I : Ins) (k : Nat) (d : PD), I.m ≤ 3 ∧ ss = [.d I.kd, .d I.leaf, .d (.int (k : Nat)), .d d] ∧ s = .d (.tuple (.str I.k :: kidsD I k d))
theorem ok_knot_with (T : Top K mg) : GOk P w K mg base 1 "knot_with" ["kind", "leaf", "kid", "tree"] (spD K RKnotWith) := by
  refine g_pure T.d_knot_with scKnotWith (fun ss s h => ?_) (fun f cdv A outer s H E hr => ⟨_, (pss_cons (ps_set (i := 4) scKnotWith.nd rfl (Or.inl rfl) (pe_tup (pa_cons (pe_ix ix_tup (pv 0) pe_int (fun _ _ => rfl)) pa_nil)))
      (pss_cons (ps_for PassesOwn.never rfl (pi_range1 rfl T.b_range (pa_cons (pe_ix ix_tup (pv 0) pe_int (fun _ _ => rfl)) pa_nil)) (pg_name (i := 5) scKnotWith.nd rfl (Or.inl rfl)) (pss_one (ps_if (pt_cmpR op_eq (pv 5) (pv 2) (nomark _)) (pss_one (ps_set (i := 4) scKnotWith.nd rfl (Or.inl rfl) (pe_op op_catA (pv 4) (pe_tup (pa_cons (pv 3) pa_nil))))) (pss_one (ps_set (i := 4) scKnotWith.nd rfl (Or.inl rfl) (pe_op op_catA (pv 4) (pe_tup (pa_cons (pv 1) pa_nil))))))))
      (pss_one (ps_ret (pv 4))))), fun ss s h => ?_⟩)
  · obtain ⟨I, k, d, _, rfl, _⟩ := h; rfl
  · obtain ⟨I, k, d, hm, rfl, rfl⟩ := h
    try dsimp only [cxOf]
    refine s_seq (s_set (s := .d (.tuple [.str I.k])) (by walk_at "ee") ?_)
    refine s_seq (s_forR1 (n := (I.m : Nat)) (js := [5]) (by walk_at "ea") (by omega) (fun i δ => ∃ z, δ = [.d I.kd, .d I.leaf, .d (.int (k : Nat)), .d d, .d (.tuple (.str I.k :: (kidsD I k d).take i)), z]) ⟨.no, rfl⟩ (fun i δ hi ⟨z, e⟩ => ?_) (fun δ ⟨z, e⟩ => ?_))
    · subst e
      have hi' : i < I.m := by omega
      have at_ := kidsD_at (I := I) (k := k) (d := d) hi'
      have tk : (kidsD I k d).take (i + 1) = (kidsD I k d).take i ++ [if i = k then d else I.leaf] := by rw [List.take_add_one, at_]; rfl
      have hl : (PyData.str I.k :: (kidsD I k d).take i).length + [if i = k then d else I.leaf].length ≤ 100000 := by
        rw [List.length_cons, List.length_take, kidsD_len]
        simp
        omega
      refine ⟨_, g_name, ?_⟩
      refine s_if (b := decide ((0 + (i : Nat) : Int) = (k : Nat))) (t_T (e_eqI (e_vd rfl) (e_vd rfl))) (fun hb => ?_) (fun hb => ?_)
      · have e : i = k := by have := of_decide_eq_true hb; omega
        refine s_set (s := .d (.tuple ((.str I.k :: (kidsD I k d).take i) ++ [d]))) (e_cat (e_vd rfl) (by walk_at "ee") (by rw [if_pos e] at hl; exact hl)) ⟨.d (.int (0 + (i : Nat))), ?_⟩
        rw [tk, if_pos e]
        rfl
      · have e : i ≠ k := by have := of_decide_eq_false hb; omega
        refine s_set (s := .d (.tuple ((.str I.k :: (kidsD I k d).take i) ++ [I.leaf]))) (e_cat (e_vd rfl) (by walk_at "ee") (by rw [if_neg e] at hl; exact hl)) ⟨.d (.int (0 + (i : Nat))), ?_⟩
        rw [tk, if_neg e]
        rfl
    · subst e
      refine s_ret (e_vd rfl) ?_
      show Sl.d _ = Sl.d _
      rw [show (((I.m : Nat) : Int).toNat) = (kidsD I k d).length by rw [kidsD_len]; omega, List.take_length]
/-! ### first_leaf -/
def RFirstLeaf (ss : Sls) (s : Sl) : Prop := ∃ I : Ins, ss = [.d I.e] ∧ s = .d (.int 0)
theorem ok_first_leaf (T : Top K mg) : GOk P w K mg base 1 "first_leaf" ["ins"] (spD K RFirstLeaf) := by
  refine g_pure T.d_first_leaf scFirstLeaf (fun ss s h => ?_) (fun f cdv A outer s H E hr => ⟨_, (pss_cons (ps_set (i := 1) scFirstLeaf.nd rfl (Or.inl rfl) pe_int)
      (pss_cons (ps_while PassesOwn.never (pt_cmpR op_gt (pe_ix ix_tup (pe_ix ix_tup (pv 0) (pv 1) (fun _ _ => rfl)) pe_int (fun _ _ => rfl)) pe_int (nomark _)) (pss_one (ps_set (i := 1) scFirstLeaf.nd rfl (Or.inl rfl) (pe_op op_add (pv 1) pe_int))))
      (pss_one (ps_ret (pv 1))))), fun ss s h => ?_⟩)
  · obtain ⟨I, rfl, _⟩ := h; rfl
  · obtain ⟨I, rfl, rfl⟩ := h
    try dsimp only [cxOf]
    refine s_seq (s_set (s := .d (.int 0)) (by walk_at "ee") ?_)
    refine s_seq (s_while (fun _ δ => δ = [.d I.e, .d (.int 0)]) 0 rfl fun m δ e => ?_)
    subst e
    refine ⟨_, by walk_at "et", fun hb => ?_, fun _ => ?_⟩
    · exact absurd hb (by decide)
    · walk_at "ret"
/-! ### narrowed_by, narrowed -/
/-- what a pattern makes of a leaf front, the fronts of the states known -/
def narA (a : Str) (F : List FT) : Pat → FT
  | .lf x => if x = a then none else some ([], [0])
  | .g _ _ => some ([], [0])
  | .call s k => match s, k with
    | .int s, k => match F[s.toNat]? with
      | some (some t) => some (k.toNat :: t.1, k.toNat :: t.2)
      | _ => none
    | _, _ => none
def nar (a : Str) (F : List FT) (f : FT) (p : Pat) : FT := match f with
  | some t => some t
  | none => narA a F p
def RNarrowedBy (ss : Sls) (s : Sl) : Prop := ∃ (I : Ins) (a : Str) (o : FT) (k : Nat), I.m ≤ 3 ∧ notSign a = true ∧ ss = [.d (.tuple [.str a]), .d (ftE I a o), .d I.kd, .d I.leaf, .d (.int (k : Nat))] ∧ s = .d (ftE I a (match o with | some t => some (k :: t.1, k :: t.2) | none => none))
theorem ok_narrowed_by (T : Top K mg) (g_knot_with : GOk P w K mg base 1 "knot_with" ["kind", "leaf", "kid", "tree"] (spD K RKnotWith)) (g_like_knots : GOk P w K mg base 2 "like_knots" ["one", "two"] (spD K RLike)) :
    GOk P w K mg base 3 "narrowed_by" ["front", "other", "kind", "leaf", "kid"] (spD K RNarrowedBy) := by
  have g_narrowed_by : GOk P w K mg base 0 "narrowed_by" ["front", "other", "kind", "leaf", "kid"] (spD K fun _ _ => False) := g_none T.d_narrowed_by fun ss s h => h
  refine g_pure T.d_narrowed_by scNarrowedBy (fun ss s h => ?_) (fun f cdv A outer s H E hr => ⟨_, (pss_cons (ps_if (pt_cmpR op_eq (pe_ix ix_tup (pv 0) pe_int (fun _ _ => rfl)) (pe_gS rfl T.c_HOLED) (nomark _)) (pss_one (ps_ret (pv 0))) pss_nil)
      (pss_cons (ps_if (pt_cmpR op_eq (pe_ix ix_tup (pv 1) pe_int (fun _ _ => rfl)) (pe_gS rfl T.c_HOLED) (nomark _)) (pss_one (ps_ret (pe_tup (pa_cons (pe_gS rfl T.c_HOLED) (pa_cons (pe_g g_knot_with (hr.mono (by omega)) rfl (pa_cons (pv 2) (pa_cons (pv 3) (pa_cons (pv 4) (pa_cons (pe_ix ix_tup (pv 1) pe_int (fun _ _ => rfl)) pa_nil))))) (pa_cons (pe_g g_knot_with (hr.mono (by omega)) rfl (pa_cons (pv 2) (pa_cons (pv 3) (pa_cons (pv 4) (pa_cons (pe_ix ix_tup (pv 1) pe_int (fun _ _ => rfl)) pa_nil))))) pa_nil)))))) pss_nil)
      (pss_cons (ps_if (pt_not (pt_val (pe_g g_like_knots (hr.mono (by omega)) rfl (pa_cons (pv 0) (pa_cons (pv 1) pa_nil))))) (pss_one (ps_ret (pe_tup (pa_cons (pe_gS rfl T.c_HOLED) (pa_cons (pv 3) (pa_cons (pe_g g_knot_with (hr.mono (by omega)) rfl (pa_cons (pv 2) (pa_cons (pv 3) (pa_cons pe_int (pa_cons (pv 3) pa_nil))))) pa_nil)))))) pss_nil)
      (pss_cons (ps_set (i := 5) scNarrowedBy.nd rfl (Or.inl rfl) (pe_tup (pa_cons (pe_ix ix_tup (pv 0) pe_int (fun _ _ => rfl)) pa_nil)))
      (pss_cons (ps_for PassesOwn.never rfl (pi_range2 rfl T.b_range (pa_cons pe_int (pa_cons (pe_callB call_len_seq (by rfl) T.b_len PySem.boot_len (pa_cons (pv 0) pa_nil)) pa_nil))) (pg_name (i := 6) scNarrowedBy.nd rfl (Or.inl rfl)) (pss_one (ps_set (i := 5) scNarrowedBy.nd rfl (Or.inl rfl) (pe_op op_catA (pv 5) (pe_tup (pa_cons (pe_g g_narrowed_by (hr.mono (by omega)) rfl (pa_cons (pe_ix ix_tup (pv 0) (pv 6) (fun _ _ => rfl)) (pa_cons (pe_ix ix_tup (pv 1) (pv 6) (fun _ _ => rfl)) (pa_cons (pv 2) (pa_cons (pv 3) (pa_cons (pv 4) pa_nil)))))) pa_nil))))))
      (pss_one (ps_ret (pv 5)))))))), fun ss s h => ?_⟩)
  · obtain ⟨I, a, o, k, _, _, rfl, _⟩ := h; rfl
  · obtain ⟨I, a, o, k, hm, ha, rfl, rfl⟩ := h
    try dsimp only [cxOf]
    refine s_seq (s_ifF (by walk_at "et") (notSign_h ha) (s_next ?_))
    cases o with
    | some t =>
      refine s_seq (s_ifT (by walk_at "et") (by decide) ?_)
      refine s_ret (e_tup (a_cons e_cs (a_cons (e_call (ss := [.d I.kd, .d I.leaf, .d (.int (k : Nat)), .d (trE I t.1)]) (by walk_at "ea") ⟨I, k, trE I t.1, hm, rfl, rfl⟩)
        (a_cons (e_call (ss := [.d I.kd, .d I.leaf, .d (.int (k : Nat)), .d (trE I t.2)]) (by walk_at "ea") ⟨I, k, trE I t.2, hm, rfl, rfl⟩) a_nil))) rfl (Nat.le_of_ble_eq_true rfl)) rfl
    | none =>
      refine s_seq (s_ifF (by walk_at "et") (notSign_h ha) (s_next ?_))
      refine s_seq (s_ifF (by walk_at "et") (by simp [likeB, ha]) (s_next ?_))
      refine s_seq (s_set (s := .d (.tuple [.str a])) (by walk_at "ee") ?_)
      refine s_seq (s_forR0 (by walk_at "ea") (by decide) (by simp) (by simp) ?_)
      walk_at "ret"
/-- a pattern as a state has it: calls of states below n -/
def Pat.inn (n m : Nat) : Pat → Prop
  | .lf _ => True
  | .call s k => ∃ (i j : Nat), s = .int (i : Nat) ∧ k = (j : Nat) ∧ i < n ∧ j < m
  | .g _ p => p.inn n m
def RNarrowed (ss : Sls) (s : Sl) : Prop := ∃ (I : Ins) (a : Str) (F : List FT) (f : FT) (p : Pat), I.m ≤ 3 ∧ notSign a = true ∧ p.ok ∧
  ((p.inn F.length I.m ∧ ss = [.d (ftE I a f), .d p.e, .l (F.map (ftE I a)), .d I.kd, .d I.leaf] ∧ s = .d (ftE I a (nar a F f p))) ∨
   (p = .lf a ∧ ss = [.d (ftE I a f), .d p.e, .l (F.map (ftE I a)), .d I.ld, .d I.leaf] ∧ s = .d (ftE I a f)))
theorem ok_narrowed (T : Top K mg) (g_knot_with : GOk P w K mg base 1 "knot_with" ["kind", "leaf", "kid", "tree"] (spD K RKnotWith)) (g_like_knots : GOk P w K mg base 2 "like_knots" ["one", "two"] (spD K RLike))
    (g_narrowed_by : GOk P w K mg base 3 "narrowed_by" ["front", "other", "kind", "leaf", "kid"] (spD K RNarrowedBy)) : GOk P w K mg base 4 "narrowed" ["front", "pattern", "fronts", "kind", "leaf"] (spD K RNarrowed) := by
  have g_narrowed : GOk P w K mg base 0 "narrowed" ["front", "pattern", "fronts", "kind", "leaf"] (spD K fun _ _ => False) := g_none T.d_narrowed fun ss s h => h
  refine g_pure T.d_narrowed scNarrowed (fun ss s h => ?_) (fun f cdv A outer s H E hr => ⟨_, (pss_cons (ps_if (pt_cmpR op_eq (pe_ix ix_tup (pv 0) pe_int (fun _ _ => rfl)) (pe_gS rfl T.c_HOLED) (nomark _)) (pss_one (ps_ret (pv 0))) pss_nil)
      (pss_cons (ps_if (pt_cmpR op_eq (pe_ix ix_tup (pv 1) pe_int (fun _ _ => rfl)) (pe_gS rfl T.c_CALL) (nomark _)) (pss_one (ps_ret (pe_g g_narrowed_by (hr.mono (by omega)) rfl (pa_cons (pv 0) (pa_cons (pe_ix ix_list (pv 2) (pe_ix ix_tup (pv 1) pe_int (fun _ _ => rfl)) (fun _ _ => rfl)) (pa_cons (pv 3) (pa_cons (pv 4) (pa_cons (pe_ix ix_tup (pv 1) pe_int (fun _ _ => rfl)) pa_nil)))))))) pss_nil)
      (pss_cons (ps_if (pt_not (pt_val (pe_g g_like_knots (hr.mono (by omega)) rfl (pa_cons (pv 0) (pa_cons (pv 1) pa_nil))))) (pss_one (ps_ret (pe_tup (pa_cons (pe_gS rfl T.c_HOLED) (pa_cons (pv 4) (pa_cons (pe_g g_knot_with (hr.mono (by omega)) rfl (pa_cons (pv 3) (pa_cons (pv 4) (pa_cons pe_int (pa_cons (pv 4) pa_nil))))) pa_nil)))))) pss_nil)
      (pss_cons (ps_set (i := 5) scNarrowed.nd rfl (Or.inl rfl) (pe_tup (pa_cons (pe_ix ix_tup (pv 0) pe_int (fun _ _ => rfl)) pa_nil)))
      (pss_cons (ps_for PassesOwn.never rfl (pi_range2 rfl T.b_range (pa_cons pe_int (pa_cons (pe_callB call_len_seq (by rfl) T.b_len PySem.boot_len (pa_cons (pv 0) pa_nil)) pa_nil))) (pg_name (i := 6) scNarrowed.nd rfl (Or.inl rfl)) (pss_one (ps_set (i := 5) scNarrowed.nd rfl (Or.inl rfl) (pe_op op_catA (pv 5) (pe_tup (pa_cons (pe_g g_narrowed (hr.mono (by omega)) rfl (pa_cons (pe_ix ix_tup (pv 0) (pv 6) (fun _ _ => rfl)) (pa_cons (pe_ix ix_tup (pv 1) (pv 6) (fun _ _ => rfl)) (pa_cons (pv 2) (pa_cons (pv 3) (pa_cons (pv 4) pa_nil)))))) pa_nil))))))
      (pss_one (ps_ret (pv 5)))))))), fun ss s h => ?_⟩)
  · obtain ⟨I, a, F, f, p, _, _, _, ⟨_, rfl, _⟩ | ⟨_, rfl, _⟩⟩ := h <;> rfl
  · obtain ⟨I, a, F, f, p, hm, ha, hp, h⟩ := h
    try dsimp only [cxOf]
    rcases h with ⟨hin, rfl, rfl⟩ | ⟨rfl, rfl, rfl⟩
    · cases f with
      | some t =>
        refine s_seq (s_ifT (by walk_at "et") (by decide) ?_)
        walk_at "ret"
      | none =>
        refine s_seq (s_ifF (by walk_at "et") (notSign_h ha) (s_next ?_))
        cases p with
        | lf x =>
          have hx : notSign x = true := hp
          refine s_seq (s_ifF (by walk_at "et") (notSign_q hx) (s_next ?_))
          by_cases e : x = a
          · subst e
            refine s_seq (s_ifF (by walk_at "et") (by simp [likeB, hx]) (s_next ?_))
            refine s_seq (s_set (s := .d (.tuple [.str x])) (by walk_at "ee") ?_)
            refine s_seq (s_forR0 (by walk_at "ea") (by decide) (by simp) (by simp) ?_)
            apply s_ret
            · exact e_vd rfl
            · show _ = Sl.d (ftE I x (if x = x then none else some ([], [0])))
              rw [if_pos rfl]; rfl
          · refine s_seq (s_ifT (by walk_at "et") (by simp only [likeB, decide_eq_false (show ¬ a = x from fun z => e z.symm)]; simp) ?_)
            refine s_ret (e_tup (a_cons e_cs (a_cons (e_vd rfl) (a_cons (e_call (ss := [.d I.kd, .d I.leaf, .d (.int ((0 : Nat) : Int)), .d I.leaf]) (a_cons (e_vd rfl) (a_cons (e_vd rfl) (a_cons e_ci (a_cons (e_vd rfl) a_nil)))) ⟨I, 0, I.leaf, hm, rfl, rfl⟩) a_nil))) rfl (Nat.le_of_ble_eq_true rfl)) ?_
            show _ = Sl.d (ftE I a (if x = a then none else some ([], [0])))
            rw [if_neg e]; rfl
        | call s k =>
          obtain ⟨i, j, rfl, rfl, hi, hj⟩ := hin
          refine s_seq (s_ifT (by walk_at "et") (by decide) ?_)
          have hF : F[i]? = some F[i] := List.getElem?_eq_getElem hi
          refine s_ret (e_call (ss := [.d (.tuple [.str a]), .d (ftE I a F[i]), .d I.kd, .d I.leaf, .d (.int (j : Nat))]) (a_cons (e_vd rfl) (a_cons (e_ixL (e_vl rfl) (by walk_at "ee") (by omega) (by rw [Int.toNat_natCast, List.getElem?_map, hF]; rfl)) (by walk_at "ea"))) ⟨I, a, F[i], j, hm, ha, rfl, rfl⟩) ?_
          show _ = Sl.d (ftE I a (match F[((i : Nat) : Int).toNat]? with | some (some t) => some (((j : Nat) : Int).toNat :: t.1, ((j : Nat) : Int).toNat :: t.2) | _ => none))
          rw [Int.toNat_natCast, Int.toNat_natCast, hF]
          cases F[i] <;> rfl
        | g x p =>
          have hx : notSign x = true := hp.1
          refine s_seq (s_ifF (by walk_at "et") (notSign_q hx) (s_next ?_))
          refine s_seq (s_ifT (by walk_at "et") (by simp [likeB]) ?_)
          exact s_ret (e_tup (a_cons e_cs (a_cons (e_vd rfl) (a_cons (e_call (ss := [.d I.kd, .d I.leaf, .d (.int ((0 : Nat) : Int)), .d I.leaf]) (a_cons (e_vd rfl) (a_cons (e_vd rfl) (a_cons e_ci (a_cons (e_vd rfl) a_nil)))) ⟨I, 0, I.leaf, hm, rfl, rfl⟩) a_nil))) rfl (Nat.le_of_ble_eq_true rfl)) rfl
    · cases f with
      | some t =>
        refine s_seq (s_ifT (by walk_at "et") (by decide) ?_)
        walk_at "ret"
      | none =>
        refine s_seq (s_ifF (by walk_at "et") (notSign_h ha) (s_next ?_))
        refine s_seq (s_ifF (by walk_at "et") (notSign_q ha) (s_next ?_))
        refine s_seq (s_ifF (by walk_at "et") (by simp [likeB, ha]) (s_next ?_))
        refine s_seq (s_set (s := .d (.tuple [.str a])) (by walk_at "ee") ?_)
        refine s_seq (s_forR0 (by walk_at "ea") (by decide) (by simp) (by simp) ?_)
        walk_at "ret"
/-! ### bare, pairs_at -/
def RBare (ss : Sls) (s : Sl) : Prop := ∃ (I : Ins) (a : Str) (f : FT), notSign a = true ∧ ss = [.d (ftE I a f)] ∧ s = .d (fbE (match f with | none => some a | some _ => none))
theorem ok_bare (T : Top K mg) : GOk P w K mg base 1 "bare" ["front"] (spD K RBare) := by
  have g_bare : GOk P w K mg base 0 "bare" ["front"] (spD K fun _ _ => False) := g_none T.d_bare fun ss s h => h
  refine g_pure T.d_bare scBare (fun ss s h => ?_) (fun f cdv A outer s H E hr => ⟨_, (pss_cons (ps_if (pt_cmpR op_eq (pe_ix ix_tup (pv 0) pe_int (fun _ _ => rfl)) (pe_gS rfl T.c_HOLED) (nomark _)) (pss_one (ps_ret (pe_gR rfl T.c_HOLE))) pss_nil)
      (pss_one (ps_ret (pe_op op_catA (pe_tup (pa_cons (pe_ix ix_tup (pv 0) pe_int (fun _ _ => rfl)) pa_nil)) (pe_callTy call_tuple_of (by rfl) T.b_tuple (by decide +kernel) (pa_cons (pe_lc (own := [("part", 1)]) rfl scBare.nd (pi_tup (pe_slice sl_tupA (pv 0) (po_some pe_int) po_none)) (blkOk_by (N := nBare) (sc := (defScope sBare)) (by decide +kernel)) (fun _ _ _ _ _ => (pg_name (i := 1) scBare.nd rfl (Or.inl rfl) (hf := Or.inr rfl))) (fun _ _ _ _ _ => pts_nil) (fun _ _ _ _ _ => (pe_g g_bare (hr.mono (by omega)) rfl (pa_cons (pv 1) pa_nil)))) pa_nil)))))), fun ss s h => ?_⟩)
  · obtain ⟨I, a, f, _, rfl, _⟩ := h; rfl
  · obtain ⟨I, a, f, ha, rfl, rfl⟩ := h
    try dsimp only [cxOf]
    cases f with
    | some t =>
      refine s_seq (s_ifT (by walk_at "et") (by decide) ?_)
      walk_at "ret"
    | none =>
      refine s_seq (s_ifF (by walk_at "et") (notSign_h ha) (s_next ?_))
      exact s_ret (e_cat (by walk_at "ee") (e_tupOf (e_lc0 (by walk_at "ee"))) (Nat.le_of_ble_eq_true rfl)) rfl
def ptE (I : Ins) : FT → List PD
  | none => []
  | some t => [.tuple [trE I t.1, trE I t.2]]
def RPairsAt (ss : Sls) (s : Sl) : Prop := ∃ (I : Ins) (a : Str) (f : FT), notSign a = true ∧ ss = [.d (ftE I a f)] ∧ s = .l (ptE I f)
theorem ok_pairs_at (T : Top K mg) : GOk P w K mg base 1 "pairs_at" ["front"] (spD K RPairsAt) := by
  have g_pairs_at : GOk P w K mg base 0 "pairs_at" ["front"] (spD K fun _ _ => False) := g_none T.d_pairs_at fun ss s h => h
  refine g_pure T.d_pairs_at scPairsAt (fun ss s h => ?_) (fun f cdv A outer s H E hr => ⟨_, (pss_cons (ps_if (pt_cmpR op_eq (pe_ix ix_tup (pv 0) pe_int (fun _ _ => rfl)) (pe_gS rfl T.c_HOLED) (nomark _)) (pss_one (ps_ret (pe_lst (pa_cons (pe_tup (pa_cons (pe_ix ix_tup (pv 0) pe_int (fun _ _ => rfl)) (pa_cons (pe_ix ix_tup (pv 0) pe_int (fun _ _ => rfl)) pa_nil))) pa_nil)))) pss_nil)
      (pss_cons (ps_set (i := 1) scPairsAt.nd rfl (Or.inl rfl) (pe_lst pa_nil))
      (pss_cons (ps_for PassesOwn.never rfl (pi_tup (pe_slice sl_tupA (pv 0) (po_some pe_int) po_none)) (pg_name (i := 2) scPairsAt.nd rfl (Or.inl rfl)) (pss_one (ps_expr (pe_bm PySem.F.plainAttrs_list PySem.F.slot_list_extend PySem.F.type_list_extend mt_extend (pv 1) (pa_cons (pe_g g_pairs_at (hr.mono (by omega)) rfl (pa_cons (pv 2) pa_nil)) pa_nil)))))
      (pss_one (ps_ret (pv 1)))))), fun ss s h => ?_⟩)
  · obtain ⟨I, a, f, _, rfl, _⟩ := h; rfl
  · obtain ⟨I, a, f, ha, rfl, rfl⟩ := h
    try dsimp only [cxOf]
    cases f with
    | some t =>
      refine s_seq (s_ifT (by walk_at "et") (by decide) ?_)
      walk_at "ret"
    | none =>
      refine s_seq (s_ifF (by walk_at "et") (notSign_h ha) (s_next ?_))
      refine s_seq (s_set (s := .l []) (by walk_at "ee") ?_)
      refine s_seq (s_forT0 (by walk_at "ee") ?_)
      walk_at "ret"
end
end K80

/-! More steps: new lists by their address, lists known by their address, zip. -/
namespace K80
open PySem PySem.Spec L2
open PyProof.Rows hiding St
section
variable {K : PySem.W.Frag} {δ δ2 : Sls} {te ts : TE} {D : Ends} {σ : L2.St} {H : Hp} {t u : TS} {p : Addr} {ds es : List PD} {g : TG} {vs js : List Nat}
/-- a new list -/
def En (K : PySem.W.Frag) (te : TE) (δ : Sls) (es : List PD) : Prop := ∀ σ H (Q : VK), SD K H σ δ → (∀ p H', Same H H' → H p = none → Ls K H' p es → Q (.ref p) H') → te σ H Q
theorem En.l (h : En K te δ es) : Ee K te δ (.l es) := fun σ H Q sd q => h σ H Q sd fun p H' s _ l => q _ H' s l.l
theorem n_lst {ta : TA} {ss : Sls} {ds : List PD} (ha : Ea K ta δ ss) (hd : datas ss = some ds) (hl : ss.length ≤ 1000) : En K (tLst ta) δ ds := fun σ H Q sd q => by
  refine ha σ H _ sd fun vs H1 s1 h => ?_
  have t := datas_all hd h
  refine ⟨sz5 (by rw [h.length]; omega), fun p hp => ?_⟩
  exact q p _ (same_upd2 s1 (s1.free hp)) (s1.free hp) ⟨_, upd_same, t.sm (same_upd hp)⟩
theorem n_lcT {δ2 : PD → Sls} (hs : Ee K ts δ (.d (.tuple ds))) (hj : ∀ j ∈ js, j ∈ vs) (hlen : es.length = ds.length) (hl : es.length ≤ 100000)
    (he : ∀ (i : Nat) d, ds[i]? = some d → ∃ e, es[i]? = some e ∧ Eg K g js (.d d) (wipeS δ vs) (δ2 d) ∧ Ee K te (δ2 d) (.d e)) : En K (tLc (iTup K ts) g tYes te vs) δ es := fun σ H Q sd q => by
  refine hs σ H _ sd fun v H1 s1 ⟨w, e1, t1⟩ => ?_
  cases e1
  obtain ⟨a, xs, rfl, p1, p2⟩ := t1.t
  refine ⟨a, rfl, ⟨_, p1⟩, fun Dl nD => ?_⟩
  refine lc_tup (xs := xs) (Pv := fun i H' => Same H1 H' ∧ ∃ xs, H' Dl = some (.lst xs) ∧ TpAll K H' xs (es.take i)) ⟨same_upd nD, [], upd_same, .nil⟩ (fun i H' _ ⟨s2, _⟩ => Tk.sqt (Same.tt s2) p1) (fun i x H' hx ⟨s2, acc⟩ => ?_) (fun H' ⟨s2, acc⟩ => ?_)
  · obtain ⟨d, hd, tp⟩ := p2.getV hx
    obtain ⟨e, hei, hg, hee⟩ := he i d hd
    exact lc_turn (sx := .d _) nD s2 ((sd.sm (s1.trans s2)).wipe vs) ⟨_, rfl, tp.sm s2⟩ hg hj hee hei hl acc
  · obtain ⟨ys, h1, h2⟩ := acc
    rw [p2.length, ← hlen, List.take_length] at h2
    exact q Dl H' (s1.trans s2) (s1.free nD) ⟨ys, h1, h2⟩
theorem n_lcR {ta : TA} {n : Int} {δ2 : Nat → Sls} (ha : Ea K ta δ [.d (.int n)]) (b2 : -1000000 ≤ n ∧ n ≤ 1000000) (hj : ∀ j ∈ js, j ∈ vs) (hlen : es.length = n.toNat) (hl : es.length ≤ 100000)
    (he : ∀ (i : Nat), i < n.toNat → ∃ e, es[i]? = some e ∧ Eg K g js (.d (.int (0 + i))) (wipeS δ vs) (δ2 i) ∧ Ee K te (δ2 i) (.d e)) : En K (tLc (iRng1 ta) g tYes te vs) δ es := fun σ H Q sd q => by
  refine ha σ H _ sd fun ws H1 s1 h => ?_
  match ws, h with
  | [v1], ⟨⟨w1, e1, t1⟩, _⟩ =>
    cases e1
    refine ⟨n, by rw [t1.i], by omega, by omega, fun Dl nD => ?_⟩
    refine lc_range (Pv := fun i H' => Same H1 H' ∧ ∃ xs, H' Dl = some (.lst xs) ∧ TpAll K H' xs (es.take i)) ⟨same_upd nD, [], upd_same, .nil⟩ (fun i H' hx ⟨s2, acc⟩ => ?_) (fun H' ⟨s2, acc⟩ => ?_)
    · obtain ⟨e, hei, hg, hee⟩ := he i hx
      exact lc_turn (sx := .d _) nD s2 ((sd.sm (s1.trans s2)).wipe vs) ⟨_, rfl, .int _⟩ hg hj hee hei hl acc
    · obtain ⟨ys, h1, h2⟩ := acc
      rw [← hlen, List.take_length] at h2
      exact q Dl H' (s1.trans s2) (s1.free nD) ⟨ys, h1, h2⟩
  | [], h => exact h.elim
  | _ :: _ :: _, h => exact h.2.elim
/-- list(range(n)) -/
def intsTo (n : Nat) : List PD := (List.range n).map fun i => .int (i : Nat)
theorem n_listRg {n : Nat} (he : Ee K te δ (.d (.int (n : Nat)))) (hn : n ≤ 1000) : En K (tLstRg (tRg1 te)) δ (intsTo n) := fun σ H Q sd q => by
  refine he σ H _ sd fun v H1 s1 ⟨w, e1, t1⟩ => ?_
  cases e1
  refine ⟨(n : Nat), t1.i, RgOk.of_le (by omega) (by omega) (by omega) (by omega), fun p hp => ?_⟩
  refine q p _ (same_upd2 s1 (s1.free hp)) (s1.free hp) ⟨_, upd_same, ?_⟩
  have e : rgV 0 (n : Nat) = ((List.range n).map fun i => ((i : Nat) : Int)).map V.int := by
    unfold rgV
    rw [List.map_map]
    have e2 : (((n : Nat) : Int) - 0).toNat = n := by omega
    rw [e2]
    refine List.map_congr_left fun i _ => ?_
    show V.int (0 + (i : Nat)) = V.int (i : Nat)
    rw [Int.zero_add]
  have e3 : intsTo n = ((List.range n).map fun i => ((i : Nat) : Int)).map PyData.int := by unfold intsTo; rw [List.map_map]; rfl
  rw [e, e3]
  exact ints_tpAll
theorem r_setN {j : Nat} (he : En K te δ es) (sd : SD K H σ δ) (k : ∀ p H', Same H H' → H p = none → Ls K H' p es → SD K H' (σ.set j (some (.ref p))) (δ.set j (.v (.ref p))) → u D (σ.set j (some (.ref p))) H') : tSeq (tAsg te (gName j)) u D σ H :=
  he σ H _ sd fun p H1 s1 n1 l1 => k p H1 s1 n1 l1 (SD.set (show SlAt K H1 (some (.ref p)) (.v (.ref p)) from rfl) j (sd.sm s1))
theorem SD.chg : ∀ {σ : L2.St} {δ : Sls} {i : Nat} {o : Option V} {s : Sl}, SD K H σ δ → σ[i]? = some o → SlAt K H o s → SD K H σ (δ.set i s)
  | [], [], _, _, _, _, e, _ => by simp at e
  | o :: σ, s :: δ, 0, _, _, h, e, q => ⟨by simp at e; subst e; exact q, h.2⟩
  | o :: σ, s :: δ, i + 1, _, _, h, e, q => ⟨h.1, SD.chg (i := i) h.2 (by simpa using e) q⟩
  | [], _ :: _, _, _, _, h, _, _ => h.elim
  | _ :: _, [], _, _, _, h, _, _ => h.elim
/-- the list at p, told with its address -/
def isLs (K : PySem.W.Frag) (p : Addr) (ds : List PD) (v : V) (H : Hp) : Prop := v = .ref p ∧ Ls K H p ds
theorem isLs_at {ds : List PD} (h : Ls K H p ds) : SlAt K H (some (.ref p)) (.x (isLs K p ds)) := ⟨_, rfl, fun _ s => ⟨rfl, h.sm s⟩⟩
theorem e_vxl {i : Nat} {ds : List PD} (h : δ[i]? = some (.x (isLs K p ds))) : Ee K (tVar i) δ (.l ds) := fun σ H Q sd q => by
  obtain ⟨o, h1, v, e, h2⟩ := sd.get h
  subst e
  obtain ⟨e2, l⟩ := h2 H (Same.refl H)
  subst e2
  exact ⟨_, h1, q _ H (Same.refl H) l.l⟩
theorem SD.vx {i : Nat} {ds : List PD} (sd : SD K H σ δ) (h : δ[i]? = some (.v (.ref p))) (l : Ls K H p ds) : SD K H σ (δ.set i (.x (isLs K p ds))) := by
  obtain ⟨o, h1, h2⟩ := sd.get h
  cases (show o = some (.ref p) from h2)
  exact sd.chg h1 (isLs_at l)
theorem SD.xv {i : Nat} {ds : List PD} (sd : SD K H σ δ) (h : δ[i]? = some (.x (isLs K p ds))) : SD K H σ (δ.set i (.v (.ref p))) ∧ Ls K H p ds := by
  obtain ⟨o, h1, v, e, h2⟩ := sd.get h
  subst e
  obtain ⟨e2, l⟩ := h2 H (Same.refl H)
  subst e2
  exact ⟨sd.chg h1 rfl, l⟩
/-- forgetting -/
inductive Wk : Sls → Sls → Prop
  | nil : Wk [] []
  | no {s δ δ'} : Wk δ δ' → Wk (s :: δ) (.no :: δ')
  | same {s δ δ'} : Wk δ δ' → Wk (s :: δ) (s :: δ')
theorem SD.wk : ∀ {σ : L2.St} {δ δ' : Sls}, SD K H σ δ → Wk δ δ' → SD K H σ δ'
  | [], _, _, _, .nil => trivial
  | o :: σ, _, _, h, .no w => ⟨trivial, SD.wk h.2 w⟩
  | o :: σ, _, _, h, .same w => ⟨h.1, SD.wk h.2 w⟩
  | [], _, _, h, .no _ => h.elim
  | [], _, _, h, .same _ => h.elim
  | _ :: _, _, _, h, .nil => h.elim
/-- xs.reverse() -/
theorem r_reverse {i : Nat} (sd : SD K H σ δ) (hi : δ[i]? = some (.v (.ref p))) (hp : Ls K H p ds) (n : noL δ = true)
    (k : ∀ H', Off p H H' → Ls K H' p ds.reverse → SD K H' σ δ → D.nx σ H') : tDrop (tBM0 K "list" rReverse (tVar i)) D σ H := by
  obtain ⟨xs, h1, h2⟩ := hp
  obtain ⟨o, g1, g2⟩ := sd.get hi
  cases (show o = some (.ref p) from g2)
  refine ⟨_, g1, .inl ⟨rfl, _, SqL.of h1⟩, ?_⟩
  refine ⟨p, xs, rfl, rfl, h1, ?_⟩
  exact k _ Off.upd ⟨_, upd_same, h2.rev.mv (tt_lst h1)⟩ (sd.tt (tt_lst h1) n)
/-- xs[i] = e -/
theorem r_setAt {i : Nat} {n : Nat} {e : PD} {ti : TE} (sd : SD K H σ δ) (he : Ee K te δ (.d e)) (hi : δ[i]? = some (.v (.ref p))) (hx : Ee K ti δ (.d (.int (n : Nat)))) (hp : Ls K H p ds) (hn : n < ds.length) (nl : noL δ = true)
    (k : ∀ H', Off p H H' → Ls K H' p (ds.set n e) → SD K H' σ δ → D.nx σ H') : tAsg te (gSub (tVar i) ti rSetL) D σ H := by
  obtain ⟨xs, h1, h2⟩ := hp
  obtain ⟨o, g1, g2⟩ := sd.get hi
  cases (show o = some (.ref p) from g2)
  refine he σ H _ sd fun v H1 s1 ⟨w, e1, t1⟩ => ?_
  cases e1
  refine ⟨_, g1, ?_⟩
  refine hx σ H1 _ (sd.sm s1) fun u H2 s2 ⟨w2, e2, t2⟩ => ?_
  cases e2
  have h1' := (s1.trans s2) _ _ h1
  have hl := h2.length
  refine ⟨p, xs, (n : Nat), n, rfl, t2.i, h1', ?_, ?_⟩
  · unfold ixN
    rw [if_pos (by omega), if_pos (by omega), Int.toNat_natCast]
  · exact k _ ((Off.of (s1.trans s2)).trans Off.upd) ⟨_, upd_same, (((h2.sm (s1.trans s2)).set (t1.sm s2) n)).mv (tt_lst h1')⟩ ((sd.sm (s1.trans s2)).tt (tt_lst h1') nl)
/-- for x in xs, xs a list that stays, at the heap -/
theorem r_forL {i j : Nat} {tb : TS} (sd : SD K H σ δ) (hi : δ[i]? = some (.v (.ref p))) (hp : Ls K H p ds) (Pv : Nat → L2.St → Hp → Prop) (h0 : Pv 0 σ H) (hl : ∀ i σ' H', Pv i σ' H' → Ls K H' p ds)
    (hs : ∀ (i : Nat) d v σ' H', ds[i]? = some d → Tp K H' v d → Pv i σ' H' → tb { D with nx := Pv (i + 1), ct := Pv (i + 1), bk := D.nx } (σ'.set j (some v)) H') (hd : ∀ σ' H', Pv ds.length σ' H' → D.nx σ' H') : tFor (iList K (tVar i)) (gName j) tb D σ H := by
  obtain ⟨xs, h1, h2⟩ := hp
  obtain ⟨o, g1, g2⟩ := sd.get hi
  cases (show o = some (.ref p) from g2)
  refine ⟨_, g1, p, rfl, ⟨_, SqL.of h1⟩, ?_⟩
  refine ⟨fun i m σ' H' => m = ds.length - i ∧ i ≤ ds.length ∧ Pv i σ' H', ⟨_, rfl, Nat.zero_le _, h0⟩, ?_⟩
  rintro i m σ' H' ⟨rfl, hi, pv⟩
  obtain ⟨ys, q1, q2⟩ := hl i σ' H' pv
  by_cases hlt : i < ds.length
  · have hd' : ds[i]? = some ds[i] := List.getElem?_eq_getElem hlt
    obtain ⟨v, e1, e2⟩ := q2.get hd'
    refine .inr ⟨⟨ys, v, SqL.of q1, e1⟩, Pv (i + 1), fun σ3 H3 p3 => ⟨ds.length - (i + 1), by omega, rfl, hlt, p3⟩, fun x H3 hy => ?_⟩
    obtain ⟨rfl, f⟩ := hy
    have ex : x = v := Option.some.inj ((f ys (SqL.of q1)).symm.trans e1)
    subst ex
    exact hs i _ x σ' _ hd' e2 pv
  · have e : i = ds.length := by omega
    subst e
    exact .inl ⟨⟨ys, SqL.of q1, by rw [q2.length]; exact Nat.le_refl _⟩, hd σ' H' pv⟩
end
section
variable {K : PySem.W.Frag} {δ : Sls} {D : DD} {tb : TS} {g : TG} {js : List Nat}
/-- zip of two tuples of two -/
theorem s_forZ2 {ta : TA} {d1 d2 e1 e2 : PD} {δ1 : Sls} (ha : Ea K ta δ [.d (.tuple [d1, d2]), .d (.tuple [e1, e2])]) (hg : Eg K g js (.d (.tuple [d1, e1])) δ δ1)
    (hb : Es K tb { D with nx := fun δ2 => ∃ δ3, Eg K g js (.d (.tuple [d2, e2])) δ2 δ3 ∧ Es K tb { D with nx := D.nx, ct := D.nx, bk := D.nx } δ3, ct := fun _ => False, bk := D.nx } δ1) : Es K (tFor (RZ.iZipA K ta) g tb) D δ := fun σ H E sd le => by
  refine ha σ H _ sd fun vs H1 s1 h => ?_
  match vs, h with
  | [v1, v2], ⟨⟨w1, q1, t1⟩, ⟨w2, q2, t2⟩, _⟩ =>
    cases q1
    cases q2
    obtain ⟨a, xs, rfl, p1, p2⟩ := t1.t
    obtain ⟨b, ys, rfl, p3, p4⟩ := t2.t
    refine ⟨a, b, xs, ys, rfl, .inr ⟨p1, p3, ?_⟩⟩
    have lx := p2.length
    have ly := p4.length
    refine RZ.for_zipT (lx.trans ly.symm) (fun i σ' H' => Same H1 H' ∧ ((i = 0 ∧ SD K H' σ' δ) ∨ (i = 1 ∧ ∃ δ2, SD K H' σ' δ2 ∧ ∃ δ3, Eg K g js (.d (.tuple [d2, e2])) δ2 δ3 ∧ Es K tb { D with nx := D.nx, ct := D.nx, bk := D.nx } δ3) ∨ (i = 2 ∧ ∃ δ2, SD K H' σ' δ2 ∧ D.nx δ2)))
      ⟨Same.refl H1, .inl ⟨rfl, sd.sm s1⟩⟩ (fun i σ' H' ⟨s2, _⟩ => ⟨Tk.sqt (Same.tt s2) p1, Tk.sqt (Same.tt s2) p3⟩) (fun i x y T σ' H' hx hy ⟨s2, pv⟩ nT => ?_) (fun σ' H' ⟨s2, pv⟩ => ?_)
    · obtain ⟨dx, hdx, tx⟩ := p2.getV hx
      obtain ⟨dy, hdy, ty⟩ := p4.getV hy
      have sT : Same H' (upd H' T (.tup [x, y])) := same_upd nT
      have tT : SlAt K (upd H' T (.tup [x, y])) (some (.ref T)) (.d (.tuple [dx, dy])) := ⟨_, rfl, .tup (.inl (.inl upd_same)) (.cons (tx.sm (s2.trans sT)) (.cons (ty.sm (s2.trans sT)) .nil))⟩
      rcases pv with ⟨rfl, sd2⟩ | ⟨rfl, δ2, sd2, δ3, hg3, hb3⟩ | ⟨rfl, _⟩
      · have e1' : d1 = dx := by simpa using hdx
        have e2' : e1 = dy := by simpa using hdy
        subst e1' e2'
        refine hg σ' _ _ _ (sd2.sm sT) tT fun σ4 sd4 _ => ?_
        exact hb σ4 _ _ sd4 ⟨fun σ5 H5 δ5 s5 sd5 n5 => ⟨(s2.trans sT).trans s5, .inr (.inl ⟨rfl, δ5, sd5, n5⟩)⟩, fun v H5 z s5 => le.rt v H5 z (s1.trans ((s2.trans sT).trans s5)), fun σ5 H5 δ5 s5 sd5 n5 => le.nx σ5 H5 δ5 (s1.trans ((s2.trans sT).trans s5)) sd5 n5, fun _ _ _ _ _ z => z.elim⟩
      · have e1' : d2 = dx := by simpa using hdx
        have e2' : e2 = dy := by simpa using hdy
        subst e1' e2'
        refine hg3 σ' _ _ _ (sd2.sm sT) tT fun σ4 sd4 _ => ?_
        exact hb3 σ4 _ _ sd4 ⟨fun σ5 H5 δ5 s5 sd5 n5 => ⟨(s2.trans sT).trans s5, .inr (.inr ⟨rfl, δ5, sd5, n5⟩)⟩, fun v H5 z s5 => le.rt v H5 z (s1.trans ((s2.trans sT).trans s5)), fun σ5 H5 δ5 s5 sd5 n5 => le.nx σ5 H5 δ5 (s1.trans ((s2.trans sT).trans s5)) sd5 n5, fun σ5 H5 δ5 s5 sd5 n5 => ⟨(s2.trans sT).trans s5, .inr (.inr ⟨rfl, δ5, sd5, n5⟩)⟩⟩
      · simp at hdx
    · rw [lx] at pv
      rcases pv with ⟨z, _⟩ | ⟨z, _⟩ | ⟨_, δ2, sd2, n2⟩
      · cases z
      · cases z
      · exact le.nx σ' H' δ2 (s1.trans s2) sd2 n2
  | [], h => exact h.elim
  | [_], h => exact h.2.elim
  | _ :: _ :: _ :: _, h => exact h.2.2.elim
end
/-! ### the fronts, in plain Lean -/
structure LB where
  I : Ins
  outs : PD
  a : Str
  head : Pat
  rs : List Pat
def LB.rowE (B : LB) (p : Pat) : PD := .tuple [.tuple [.str B.a], p.e]
def LB.e (B : LB) : PD := .tuple [B.I.e, B.outs, B.head.e, .tuple (B.rs.map B.rowE)]
structure LB.ok (B : LB) : Prop where
  I : B.I.ok
  a : notSign B.a = true ∧ PyData.strOk B.a = true
  n : B.rs.length ≤ 20
  rs : ∀ p ∈ B.rs, p.ok ∧ p.inn B.rs.length B.I.m ∧ p.dep < 3
/-- f turns of the narrowing at once -/
def LB.frs (B : LB) : Nat → List FT
  | 0 => List.replicate B.rs.length none
  | f + 1 => B.rs.map (narA B.a (B.frs f))
theorem LB.frs_len (B : LB) : ∀ f, (B.frs f).length = B.rs.length
  | 0 => List.length_replicate
  | f + 1 => List.length_map _
theorem LB.frs_at (B : LB) {f s : Nat} {p : Pat} (h : B.rs[s]? = some p) : (B.frs (f + 1))[s]? = some (narA B.a (B.frs f) p) := by
  show (B.rs.map _)[s]? = _
  rw [List.getElem?_map, h]; rfl
/-- more is known of the states: a pattern's hole stays -/
theorem narA_mono {a : Str} {F G : List FT} (h : ∀ (s : Nat) t, F[s]? = some (some t) → G[s]? = some (some t)) {p : Pat} {t : Tr × Tr} (e : narA a F p = some t) : narA a G p = some t := by
  cases p with
  | lf x => exact e
  | g x p => exact e
  | call s k =>
    cases s with
    | int s =>
      unfold narA at e ⊢
      cases q : F[s.toNat]? with
      | none => simp only [q] at e; cases e
      | some o =>
        cases o with
        | none => simp only [q] at e; cases e
        | some u =>
          simp only [q] at e
          simp only [h _ _ q]
          exact e
    | _ => cases e
theorem LB.frs_mono (B : LB) : ∀ (f s : Nat) (t : Tr × Tr), (B.frs f)[s]? = some (some t) → (B.frs (f + 1))[s]? = some (some t)
  | 0, s, t, h => by
    have e : (List.replicate B.rs.length (none : FT))[s]? = some (some t) := h
    rw [List.getElem?_replicate] at e
    split at e <;> cases e
  | f + 1, s, t, h => by
    have hs : s < B.rs.length := by rw [← B.frs_len (f + 1)]; exact (List.getElem?_eq_some_iff.mp h).1
    have hp : B.rs[s]? = some B.rs[s] := List.getElem?_eq_getElem hs
    rw [B.frs_at hp] at h ⊢
    rw [narA_mono (B.frs_mono f) (Option.some.inj h)]
theorem LB.frs_le (B : LB) {f g s : Nat} {t : Tr × Tr} (hfg : f ≤ g) (h : (B.frs f)[s]? = some (some t)) : (B.frs g)[s]? = some (some t) := by
  induction hfg with
  | refl => exact h
  | step _ ih => exact B.frs_mono _ _ _ ih
/-- F is what the narrowing comes to -/
structure IsFr (B : LB) (F : List FT) : Prop where
  len : F.length = B.rs.length
  sound : ∀ (s : Nat) t, F[s]? = some (some t) → ∃ f, (B.frs f)[s]? = some (some t)
  fix : ∀ (s : Nat) p, B.rs[s]? = some p → F[s]? = some none → narA B.a F p = none
theorem IsFr.full {B : LB} {F : List FT} (h : IsFr B F) : ∀ (f s : Nat) t, (B.frs f)[s]? = some (some t) → ∃ t', F[s]? = some (some t')
  | 0, s, t, e => by
    have e : (List.replicate B.rs.length (none : FT))[s]? = some (some t) := e
    rw [List.getElem?_replicate] at e
    split at e <;> cases e
  | f + 1, s, t, e => by
    have hs : s < B.rs.length := by rw [← B.frs_len (f + 1)]; exact (List.getElem?_eq_some_iff.mp e).1
    have hp : B.rs[s]? = some B.rs[s] := List.getElem?_eq_getElem hs
    rw [B.frs_at hp] at e
    have e := Option.some.inj e
    have hF : F[s]? = some (F[s]'(by rw [h.len]; exact hs)) := List.getElem?_eq_getElem _
    cases q : F[s]'(by rw [h.len]; exact hs) with
    | some t' => exact ⟨t', by rw [hF, q]⟩
    | none =>
      rw [q] at hF
      have z := h.fix s _ hp hF
      exfalso
      cases hpp : B.rs[s] with
      | lf x => rw [hpp] at e z; rw [show narA B.a F (.lf x) = narA B.a (B.frs f) (.lf x) from rfl, e] at z; cases z
      | g x p => rw [hpp] at e z; cases z
      | call i k =>
        rw [hpp] at e z
        cases i with
        | int i =>
          unfold narA at e z
          cases q2 : (B.frs f)[i.toNat]? with
          | none => simp only [q2] at e; cases e
          | some o =>
            cases o with
            | none => simp only [q2] at e; cases e
            | some u =>
              obtain ⟨u', hu⟩ := h.full f _ _ q2
              simp only [hu] at z
              cases z
        | _ => cases e
theorem IsFr.uniq {B : LB} {F G : List FT} (hF : IsFr B F) (hG : IsFr B G) : F = G := by
  apply List.ext_getElem?
  intro s
  by_cases hs : s < B.rs.length
  · have eF : F[s]? = some (F[s]'(by rw [hF.len]; exact hs)) := List.getElem?_eq_getElem _
    have eG : G[s]? = some (G[s]'(by rw [hG.len]; exact hs)) := List.getElem?_eq_getElem _
    cases q : F[s]'(by rw [hF.len]; exact hs) with
    | some t =>
      rw [q] at eF
      obtain ⟨f, hf⟩ := hF.sound s t eF
      obtain ⟨t', ht⟩ := hG.full f s t hf
      obtain ⟨g, hg⟩ := hG.sound s t' ht
      have a1 := B.frs_le (Nat.le_max_left f g) hf
      have a2 := B.frs_le (Nat.le_max_right f g) hg
      rw [a1] at a2
      rw [eF, ht, Option.some.inj a2]
    | none =>
      rw [q] at eF
      cases q2 : G[s]'(by rw [hG.len]; exact hs) with
      | none => rw [q2] at eG; rw [eF, eG]
      | some t =>
        rw [q2] at eG
        obtain ⟨f, hf⟩ := hG.sound s t eG
        obtain ⟨t', ht⟩ := hF.full f s t hf
        rw [eF] at ht
        cases Option.some.inj ht
  · rw [List.getElem?_eq_none (by rw [hF.len]; omega), List.getElem?_eq_none (by rw [hG.len]; omega)]
/-- one state narrowed: what is sound stays so -/
def Sound (B : LB) (F : List FT) : Prop := ∀ (s : Nat) t, F[s]? = some (some t) → ∃ f, (B.frs f)[s]? = some (some t)
theorem sound_set {B : LB} {F : List FT} (h : Sound B F) {s : Nat} {p : Pat} (hl : F.length = B.rs.length) (hp : B.rs[s]? = some p) (f0 : FT) (hf : F[s]? = some f0) : Sound B (F.set s (nar B.a F f0 p)) := fun i t e => by
  by_cases hi : s = i
  · subst hi
    have hs : s < F.length := (List.getElem?_eq_some_iff.mp hf).1
    rw [List.getElem?_set_self hs] at e
    have e := Option.some.inj e
    cases f0 with
    | some u =>
      have e' : some u = some t := e
      cases e'
      exact h s t hf
    | none =>
      have e' : narA B.a F p = some t := e
      -- a common number of turns
      cases p with
      | lf x => exact ⟨1, by rw [B.frs_at hp]; exact congrArg some e'⟩
      | g x q => exact ⟨1, by rw [B.frs_at hp]; exact congrArg some e'⟩
      | call j k =>
        cases j with
        | int j =>
          unfold narA at e'
          cases q : F[j.toNat]? with
          | none => simp only [q] at e'; cases e'
          | some o =>
            cases o with
            | none => simp only [q] at e'; cases e'
            | some u =>
              obtain ⟨f, hf2⟩ := h _ _ q
              refine ⟨f + 1, ?_⟩
              rw [B.frs_at hp]
              congr 1
              unfold narA
              simp only [q] at e'
              simp only [hf2]
              exact e'
        | _ => cases e'
  · rw [List.getElem?_set_ne hi] at e
    exact h i t e
/-- how many are no hole -/
def cnt (F : List FT) : Nat := (F.filter Option.isNone).length
theorem cnt_set : ∀ {F : List FT} {s : Nat} {t : Tr × Tr}, F[s]? = some none → cnt (F.set s (some t)) + 1 = cnt F
  | [], _, _, h => by simp at h
  | f :: F, 0, t, h => by
    have e : f = none := by simpa using h
    subst e
    simp [cnt]
  | f :: F, s + 1, t, h => by
    have ih := cnt_set (F := F) (s := s) (t := t) (by simpa using h)
    cases f with
    | none =>
      simp only [cnt, List.set_cons_succ, List.filter_cons, Option.isNone_none, if_true, List.length_cons] at ih ⊢
      omega
    | some u =>
      simp only [cnt, List.set_cons_succ, List.filter_cons, Option.isNone_some, Bool.false_eq_true, if_false] at ih ⊢
      exact ih
end K80

namespace K80
open PySem PySem.Spec L2
open PyProof.Rows hiding St
local macro_rules | `(tactic| walk_at "ee") => `(tactic| first
  | ((with_reducible apply e_vd); exact rfl)
  | ((with_reducible apply e_vl); exact rfl)
  | ((with_reducible apply e_vv); exact rfl)
  | (with_reducible exact e_ci)
  | (with_reducible exact e_cs)
  | (with_reducible exact e_cb)
  | (with_reducible exact e_cn)
  | (with_reducible exact e_hole)
  | ((with_reducible apply e_ixT); (walk_at "ee"); (walk_at "ee"); (first | decide | omega); exact rfl)
  | ((with_reducible apply e_ixL); (walk_at "ee"); (walk_at "ee"); (first | decide | omega); exact rfl)
  | ((with_reducible apply e_tup); (walk_at "ea"); (exact rfl); (exact Nat.le_of_ble_eq_true rfl))
  | ((with_reducible apply e_lst); (walk_at "ea"); (exact rfl); (exact Nat.le_of_ble_eq_true rfl))
  | ((with_reducible apply e_lenT); (walk_at "ee"))
  | ((with_reducible apply e_lenL); (walk_at "ee"))
  | ((with_reducible apply e_eqS); (walk_at "ee"); (walk_at "ee"))
  | ((with_reducible apply e_eqI); (walk_at "ee"); (walk_at "ee"))
  | ((with_reducible apply e_neS); (walk_at "ee"); (walk_at "ee"))
  | ((with_reducible apply e_neI); (walk_at "ee"); (walk_at "ee"))
  | ((with_reducible apply e_i0); (walk_at "ee"); (walk_at "ee"))
  | ((with_reducible apply e_b0); (walk_at "ee"); (walk_at "ee"))
  | ((with_reducible apply e_isN); (walk_at "ee"))
  | ((with_reducible apply e_notN); (walk_at "ee"))
  | ((with_reducible apply e_tupOf); (walk_at "ee"))
  | ((with_reducible apply e_tail); (walk_at "ee"); (walk_at "ee"))
  | ((with_reducible apply e_call); (walk_at "ea"); (walk_at "own"))
  | ((with_reducible apply e_cat); (walk_at "ee"); (walk_at "ee"); (exact Nat.le_of_ble_eq_true rfl))
  | ((with_reducible apply e_andV); (walk_at "ee"); intro _; (walk_at "ee"))
  | walk_at "ee2")
local macro_rules | `(tactic| walk_at "ea") => `(tactic| first | (with_reducible exact a_nil) | ((with_reducible apply a_cons); (walk_at "ee"); (walk_at "ea")))
local macro_rules | `(tactic| walk_at "et") => `(tactic| first
  | ((with_reducible apply t_B); (walk_at "ee"))
  | ((with_reducible apply t_T); (walk_at "ee"))
  | ((with_reducible apply t_not); (walk_at "et")))
local macro_rules | `(tactic| walk_at "own") => `(tactic| fail "own")
local macro_rules | `(tactic| walk_at "ee2") => `(tactic| fail "ee2")
local macro_rules | `(tactic| walk_at "ret") => `(tactic| ((with_reducible apply s_ret); (walk_at "ee"); exact rfl))
local macro_rules | `(tactic| walk_at "retS") => `(tactic| ((with_reducible apply s_ret); (walk_at "ee"); rotate_left))

local macro_rules | `(tactic| walk_at "ee2") => `(tactic| first
  | ((with_reducible apply e_vxl); exact rfl))
local macro_rules | `(tactic| walk_at "wk") => `(tactic| first
  | exact Wk.nil
  | ((apply Wk.same); (walk_at "wk"))
  | ((apply Wk.no); (walk_at "wk")))
section
variable {P : Program} {w : World} {K : PySem.W.Frag} {mg : Str → Option Value} {base : Heap}
theorem Ls.off {H H' : Hp} {p q : Addr} {ds : List PD} {xs : List V} (h : Ls K H p ds) (o : Off q H H') (n : p ≠ q) (hq : H q = some (.lst xs)) : Ls K H' p ds := by
  obtain ⟨ys, h1, h2⟩ := h
  exact ⟨ys, o _ _ n h1, h2.mv (o.tk hq)⟩
theorem Ls.offL {H H' : Hp} {p q : Addr} {ds es : List PD} (h : Ls K H p ds) (o : Off q H H') (n : p ≠ q) (hq : Ls K H q es) : Ls K H' p ds := by
  obtain ⟨xs, hq, _⟩ := hq
  exact h.off o n hq
/-- one more or less knot -/
def kn (f : FT) : Int := if f.isNone then 1 else 0
theorem rknots_ft {I : Ins} {a : Str} (ha : notSign a = true) (f : FT) : RKnots 4 [.d (ftE I a f)] (.d (.int (kn f))) := by
  cases f with
  | none => exact ⟨by decide, .inl ⟨.lf a, by show 0 < 4; decide, ha, rfl, rfl⟩⟩
  | some t => exact ⟨by decide, .inr ⟨"*", _, by decide, rfl, rfl⟩⟩
def δPF (B : LB) (pF pO : Addr) (b : Bool) : Sls := [.d B.e, .d (.int 0), .d B.I.leaf, .v (.ref pF), .no, .v (.ref pO), .d (.bool b), .no, .no, .no, .no]
def ftL (B : LB) (F : List FT) : List PD := F.map (ftE B.I B.a)
theorem ftL_set (B : LB) (F : List FT) (s : Nat) (f : FT) : (ftL B F).set s (ftE B.I B.a f) = ftL B (F.set s f) := by
  unfold ftL
  rw [List.map_set]
def RPF (ss : Sls) (s : Sl) : Prop := ∃ (B : LB) (F : List FT), B.ok ∧ IsFr B F ∧ ss = [.d B.e] ∧ s = .l (ftL B F)
/-- the fronts at the start of a pass -/
structure PassI (K : PySem.W.Frag) (B : LB) (H0 : Hp) (pF pO : Addr) (b : Bool) (F : List FT) (os : List PD) (σ : L2.St) (H : Hp) : Prop where
  sd : SD K H σ (δPF B pF pO b)
  lF : Ls K H pF (ftL B F)
  lO : Ls K H pO os
  sm : Same H0 H
  o1 : ∀ d ∈ os, ∃ i : Nat, i < B.rs.length ∧ d = .int (i : Nat)
  o2 : ∀ i : Nat, i < B.rs.length → PyData.int (i : Nat) ∈ os
  len : F.length = B.rs.length
  snd : Sound B F
  fix : b = false → ∀ (s : Nat) p, B.rs[s]? = some p → F[s]? = some none → narA B.a F p = none
/-- within a pass that began with F -/
structure PassJ (K : PySem.W.Frag) (B : LB) (H0 : Hp) (pF pO : Addr) (F : List FT) (os : List PD) (i : Nat) (σ : L2.St) (H : Hp) (t : Bool) (G : List FT) : Prop where
  sd : SD K H σ (δPF B pF pO t)
  lF : Ls K H pF (ftL B G)
  lO : Ls K H pO os
  sm : Same H0 H
  len : G.length = B.rs.length
  snd : Sound B G
  lt : t = true → cnt G < cnt F
  eq : t = false → G = F ∧ ∀ (j s : Nat) p, j < i → os[j]? = some (.int (s : Nat)) → B.rs[s]? = some p → F[s]? = some none → narA B.a F p = none
theorem ok_parted_fronts (T : Top K mg) (g_first_leaf : GOk P w K mg base 1 "first_leaf" ["ins"] (spD K RFirstLeaf)) (g_narrowed : GOk P w K mg base 4 "narrowed" ["front", "pattern", "fronts", "kind", "leaf"] (spD K RNarrowed))
    (g_knots_of : GOk P w K mg base 5 "knots_of" ["pattern"] (spD K (RKnots 4))) : GOk P w K mg base 6 "parted_fronts" ["book"] (spD K RPF) := by
  refine g_pure T.d_parted_fronts scPartedFronts (fun ss s h => ?_) (fun f cdv A outer s H E hr => ⟨_, (pss_cons (ps_set (i := 1) scPartedFronts.nd rfl (Or.inr rfl) (pe_g g_first_leaf (hr.mono (by omega)) rfl (pa_cons (pe_ix ix_tup (pv 0) pe_int (fun _ _ => rfl)) pa_nil)))
      (pss_cons (ps_set (i := 2) scPartedFronts.nd rfl (Or.inl rfl) (pe_tup (pa_cons (pe_ix ix_tup (pe_ix ix_tup (pe_ix ix_tup (pv 0) pe_int (fun _ _ => rfl)) (pv 1) (fun _ _ => rfl)) pe_int (fun _ _ => rfl)) pa_nil)))
      (pss_cons (ps_setLc (i := 3) (own := [("row", 4)]) rfl scPartedFronts.nd rfl rfl (sw_true rfl rfl rfl (by decide +kernel)) (pi_tup (pe_ix ix_tup (pv 0) pe_int (fun _ _ => rfl))) (blkOk_by (N := nPartedFronts) (sc := (defScope sPartedFronts)) (by decide +kernel)) (fun _ _ _ _ _ => (pg_name (i := 4) scPartedFronts.nd rfl (Or.inl rfl) (hf := Or.inr rfl))) (fun _ _ _ _ _ => pts_nil) (fun _ _ _ _ _ => (pe_ix (ix_tupK (K := K) rfl) (pv 4) (pv 1) (fun _ _ => rfl))))
      (pss_cons (ps_set (i := 5) scPartedFronts.nd rfl (Or.inl rfl) (pe_listRg rfl rfl T.b_list (prg_1 rfl T.b_range (pe_callB call_len_seq (by rfl) T.b_len PySem.boot_len (pa_cons (pv 3) pa_nil)))))
      (pss_cons (ps_set (i := 6) scPartedFronts.nd rfl (Or.inl rfl) pe_bl)
      (pss_cons (ps_while PassesOwn.never (pt_val (pv 6)) (pss_cons (ps_set (i := 6) scPartedFronts.nd rfl (Or.inl rfl) pe_bl)
      (pss_cons (ps_expr (pe_bm0 PySem.F.plainAttrs_list PySem.F.slot_list_reverse PySem.F.type_list_reverse mt_reverse (pv 5)))
      (pss_one (ps_for PassesOwn.never rfl (pi_list (pv 5)) (pg_name (i := 7) scPartedFronts.nd rfl (Or.inl rfl)) (pss_cons (ps_set (i := 8) scPartedFronts.nd rfl (Or.inl rfl) (pe_ix ix_list (pv 3) (pv 7) (fun _ _ => rfl)))
      (pss_cons (ps_for PassesOwn.never rfl (RZ.pi_zipA rfl T.b_zip (pa_cons (pe_ix ix_tup (pv 0) pe_int (fun _ _ => rfl)) (pa_cons (pe_ix ix_tup (pe_ix ix_tup (pv 0) pe_int (fun _ _ => rfl)) (pv 7) (fun _ _ => rfl)) pa_nil))) (pg_tup rfl (pgs_cons (pg_name (i := 9) scPartedFronts.nd rfl (Or.inl rfl)) (pgs_cons (pg_name (i := 10) scPartedFronts.nd rfl (Or.inl rfl)) pgs_nil))) (pss_one (ps_set (i := 8) scPartedFronts.nd rfl (Or.inl rfl) (pe_g g_narrowed (hr.mono (by omega)) rfl (pa_cons (pv 8) (pa_cons (pv 10) (pa_cons (pv 3) (pa_cons (pv 9) (pa_cons (pv 2) pa_nil)))))))))
      (pss_cons (ps_if (pt_cmpR op_lt (pe_g g_knots_of (hr.mono (by omega)) rfl (pa_cons (pv 8) pa_nil)) (pe_g g_knots_of (hr.mono (by omega)) rfl (pa_cons (pe_ix ix_list (pv 3) (pv 7) (fun _ _ => rfl)) pa_nil)) (nomark _)) (pss_one (ps_set (i := 6) scPartedFronts.nd rfl (Or.inl rfl) pe_bl)) pss_nil)
      (pss_one (ps_asg (pv 8) (pg_sub (pv 3) (pv 7) set_list)))))))))))
      (pss_one (ps_ret (pv 3))))))))), fun ss s h => ?_⟩)
  · obtain ⟨B, F, _, _, rfl, _⟩ := h; rfl
  obtain ⟨B, F0, ok, fr, rfl, rfl⟩ := h
  try dsimp only [cxOf]
  intro σ H0 E sd le
  have hm := ok.I.m3
  have hn := ok.n
  refine r_set (s := .d (.int 0)) (e_call (ss := [.d B.I.e]) (by walk_at "ea") ⟨B.I, rfl, rfl⟩) sd fun v1 H1 s1 sd1 => ?_
  refine r_set (s := .d B.I.leaf) (e_tup (ds := [.str B.I.l]) (a_cons (e_ixT (ds := [.str B.I.l, .int 0]) (e_ixT (ds := [B.I.ld, B.I.kd]) (e_ixT (ds := [B.I.e, B.outs, B.head.e, .tuple (B.rs.map B.rowE)]) (e_vd rfl) e_ci (by decide) rfl) (e_vd rfl) (by decide) rfl) e_ci (by decide) rfl) a_nil) rfl (Nat.le_of_ble_eq_true rfl)) sd1 fun v2 H2 s2 sd2 => ?_
  refine r_setN (es := ftL B (List.replicate B.rs.length none)) (n_lcT (ds := B.rs.map B.rowE) (js := [4]) (δ2 := fun d => [.d B.e, .d (.int 0), .d B.I.leaf, .no, .d d, .no, .no, .no, .no, .no, .no]) (by walk_at "ee") (by decide) (by unfold ftL; rw [List.length_map, List.length_map, List.length_replicate]) (by unfold ftL; rw [List.length_map, List.length_replicate]; omega) (fun i d hd => ?_)) sd2 fun pF H3 s3 n3 l3 sd3 => ?_
  · rw [List.getElem?_map] at hd
    cases e : B.rs[i]? with
    | none => rw [e] at hd; cases hd
    | some p =>
      rw [e] at hd
      cases hd
      have hi := (List.getElem?_eq_some_iff.mp e).1
      refine ⟨ftE B.I B.a none, ?_, g_name, ?_⟩
      · unfold ftL
        rw [List.getElem?_map, List.getElem?_replicate, if_pos hi]; rfl
      · exact e_ixT (ds := [.tuple [.str B.a], p.e]) (e_vd rfl) (e_vd rfl) (by decide) rfl
  have sd3' := sd3.vx (i := 3) rfl l3
  refine r_setN (n_listRg (n := B.rs.length) ((e_lenL (e_vxl (ds := ftL B (List.replicate B.rs.length none)) rfl)).to (by unfold ftL; rw [List.length_map, List.length_replicate])) (by omega)) sd3' fun pO H4 s4 n4 l4 sd4 => ?_
  obtain ⟨sd4, l3⟩ := sd4.xv (i := 3) rfl
  have nFO : pF ≠ pO := by
    obtain ⟨xs, q, _⟩ := ‹Ls K H3 pF _›
    exact ne_of_none q n4
  have s04 : Same H0 H4 := ((s1.trans s2).trans s3).trans s4
  have nF0 : H0 pF = none := (s1.trans s2).free n3
  have nO0 : H0 pO = none := ((s1.trans s2).trans s3).free n4
  refine r_set (s := .d (.bool true)) e_cb sd4 fun v5 H5 s5 sd5 => ?_
  -- the loop
  refine ⟨fun m σ' H' => ∃ b F os, PassI K B H0 pF pO b F os σ' H' ∧ m = cnt F + (if b = true then 1 else 0),
    ⟨_, true, List.replicate B.rs.length none, intsTo B.rs.length, ⟨sd5.wk (by walk_at "wk"), l3.sm s5, l4.sm s5, s04.trans s5, fun d hd => ?_, fun i hi => ?_, List.length_replicate, fun s t e => ?_, fun z => nomatch z⟩, rfl⟩, ?_⟩
  · obtain ⟨i, hi, e⟩ := List.mem_map.mp hd
    exact ⟨i, List.mem_range.mp hi, e.symm⟩
  · exact List.mem_map.mpr ⟨i, List.mem_range.mpr hi, rfl⟩
  · rw [List.getElem?_replicate] at e
    split at e <;> cases e
  rintro m σ6 H6 ⟨b, F, os, I6, rfl⟩
  refine t_B (e_vd rfl) σ6 H6 _ I6.sd fun H7 s7 => ?_
  cases b with
  | false =>
    refine iteF ?_
    refine r_ret (s := .v (.ref pF)) (e_vv rfl) (I6.sd.sm s7) fun v H8 s8 hv => ?_
    cases hv
    have e : F = F0 := IsFr.uniq ⟨I6.len, I6.snd, I6.fix rfl⟩ fr
    exact le.rt _ H8 (.l (ftL B F0)) ((I6.sm.trans s7).trans s8) (by rw [← e]; exact ((I6.lF.sm s7).sm s8).l) rfl
  | true =>
    refine iteT ⟨_, fun _ _ h => h, ?_⟩
    refine r_set (s := .d (.bool false)) e_cb (I6.sd.sm s7) fun v8 H8 s8 sd8 => ?_
    have lF8 := (I6.lF.sm s7).sm s8
    have lO8 := (I6.lO.sm s7).sm s8
    refine r_reverse sd8 rfl lO8 rfl fun H9 o9 l9 sd9 => ?_
    have s9 : Same H0 H9 := o9.same ((I6.sm.trans s7).trans s8) nO0
    have lF9 : Ls K H9 pF (ftL B F) := lF8.offL o9 nFO lO8
    refine r_forL sd9 rfl l9 (fun i σ' H' => ∃ t G, PassJ K B H0 pF pO F os.reverse i σ' H' t G) ⟨false, F, sd9, lF9, l9, s9, I6.len, I6.snd, (fun z => nomatch z), fun _ => ⟨rfl, fun j s p hj => by omega⟩⟩ (fun i σ' H' ⟨t, G, J⟩ => J.lO) (fun i d v σ' H' hd tv ⟨t, G, J⟩ => ?_) (fun σ' H' ⟨t, G, J⟩ => ?_)
    · -- one state
      obtain ⟨x, hx, rfl⟩ := I6.o1 d (List.mem_reverse.mp (List.mem_of_getElem? hd))
      have hp : B.rs[x]? = some B.rs[x] := List.getElem?_eq_getElem hx
      have hxG : x < G.length := by rw [J.len]; exact hx
      have hG : G[x]? = some G[x] := List.getElem?_eq_getElem hxG
      obtain ⟨p1, p2, p3⟩ := ok.rs _ (List.mem_of_getElem? hp)
      have sdA : SD K H' (σ'.set 7 (some v)) [.d B.e, .d (.int 0), .d B.I.leaf, .x (isLs K pF (ftL B G)), .no, .v (.ref pO), .d (.bool t), .d (.int (x : Nat)), .no, .no, .no] := (SD.set (s := .d (.int (x : Nat))) ⟨v, rfl, tv⟩ 7 J.sd).vx (i := 3) rfl J.lF
      refine r_set (s := .d (ftE B.I B.a G[x])) (e_ixL (e_vxl (p := pF) (ds := ftL B G) rfl) (e_vd rfl) (by omega) (by unfold ftL; rw [Int.toNat_natCast, List.getElem?_map, hG]; rfl)) sdA fun vB HB sB sdB => ?_
      refine r_seq (N := fun δ' => δ' = [.d B.e, .d (.int 0), .d B.I.leaf, .x (isLs K pF (ftL B G)), .no, .v (.ref pO), .d (.bool t), .d (.int (x : Nat)), .d (ftE B.I B.a (nar B.a G G[x] B.rs[x])), .d B.I.kd, .d B.rs[x].e])
        (s_forZ2 (d1 := B.I.ld) (d2 := B.I.kd) (e1 := .tuple [.str B.a]) (e2 := B.rs[x].e) (js := [9, 10]) (a_cons (by walk_at "ee") (a_cons (e_ixT (ds := B.rs.map B.rowE) (d := B.rowE B.rs[x]) (by walk_at "ee") (e_vd rfl) (by omega) (by rw [Int.toNat_natCast, List.getElem?_map, hp]; rfl)) a_nil)) (g_tup (ds := [B.I.ld, .tuple [.str B.a]]) (gs_cons g_name (gs_cons g_name gs_nil)) rfl)
          (s_set (s := .d (ftE B.I B.a G[x])) (e_call (ss := [.d (ftE B.I B.a G[x]), .d (Pat.lf B.a).e, .l (ftL B G), .d B.I.ld, .d B.I.leaf]) (by walk_at "ea") ⟨B.I, B.a, G, G[x], .lf B.a, hm, ok.a.1, ok.a.1, .inr ⟨rfl, rfl, rfl⟩⟩)
            ⟨_, g_tup (ds := [B.I.kd, B.rs[x].e]) (gs_cons g_name (gs_cons g_name gs_nil)) rfl, s_set (s := .d (ftE B.I B.a (nar B.a G G[x] B.rs[x]))) (e_call (ss := [.d (ftE B.I B.a G[x]), .d B.rs[x].e, .l (ftL B G), .d B.I.kd, .d B.I.leaf]) (by walk_at "ea") ⟨B.I, B.a, G, G[x], B.rs[x], hm, ok.a.1, p1, .inl ⟨by rw [J.len]; exact p2, rfl, rfl⟩⟩) rfl⟩)) sdB fun σC HC δC sC sdC eC => ?_
      subst eC
      refine r_seq (N := fun δ' => δ' = [.d B.e, .d (.int 0), .d B.I.leaf, .x (isLs K pF (ftL B G)), .no, .v (.ref pO), .d (.bool (t || decide (kn (nar B.a G G[x] B.rs[x]) < kn G[x]))), .d (.int (x : Nat)), .d (ftE B.I B.a (nar B.a G G[x] B.rs[x])), .d B.I.kd, .d B.rs[x].e])
        (s_if (b := decide (kn (nar B.a G G[x] B.rs[x]) < kn G[x])) (t_T (e_b0 (f := fun i j => decide (i < j)) (e_call (ss := [.d (ftE B.I B.a (nar B.a G G[x] B.rs[x]))]) (by walk_at "ea") (rknots_ft ok.a.1 _)) (e_call (ss := [.d (ftE B.I B.a G[x])]) (a_cons (e_ixL (e_vxl (p := pF) (ds := ftL B G) rfl) (e_vd rfl) (by omega) (by unfold ftL; rw [Int.toNat_natCast, List.getElem?_map, hG]; rfl)) a_nil) (rknots_ft ok.a.1 _))))
          (fun hb => s_set (s := .d (.bool true)) e_cb (by rw [hb, Bool.or_true]; rfl)) (fun hb => s_next (by rw [hb, Bool.or_false]))) sdC fun σD HD δD sD sdD eD => ?_
      subst eD
      obtain ⟨sdD, lFD⟩ := sdD.xv (i := 3) rfl
      have smD : Same H0 HD := ((J.sm.trans sB).trans sC).trans sD
      have lOD := ((J.lO.sm sB).sm sC).sm sD
      refine r_setAt (n := x) (e := ftE B.I B.a (nar B.a G G[x] B.rs[x])) sdD (e_vd rfl) rfl (e_vd rfl) lFD (by unfold ftL; rw [List.length_map]; exact hxG) rfl fun HE oE lE sdE => ?_
      rw [ftL_set] at lE
      refine ⟨_, G.set x (nar B.a G G[x] B.rs[x]), sdE.wk (by walk_at "wk"), lE, lOD.offL oE (Ne.symm nFO) lFD, oE.same smD nF0, by rw [List.length_set]; exact J.len, sound_set J.snd J.len hp _ hG, fun hb => ?_, fun hb => ?_⟩
      · -- some front has been narrowed
        cases q : G[x] with
        | some u =>
          have hb2 : (t || decide (kn (some u) < kn (some u))) = true := by rw [q] at hb; exact hb
          have ht : t = true := by simpa using hb2
          have e : G.set x (nar B.a G (some u) B.rs[x]) = G := by
            show G.set x (some u) = G
            rw [← q]
            exact List.set_getElem_self hxG
          rw [e]
          exact J.lt ht
        | none =>
          rw [q] at hb
          cases q2 : narA B.a G B.rs[x] with
          | none =>
            have e1 : nar B.a G none B.rs[x] = none := q2
            rw [e1] at hb
            have ht : t = true := by simpa using hb
            have e : G.set x (nar B.a G none B.rs[x]) = G := by
              rw [e1, ← q]
              exact List.set_getElem_self hxG
            rw [e]
            exact J.lt ht
          | some u =>
            have e1 : nar B.a G none B.rs[x] = some u := q2
            rw [e1]
            rw [q] at hG
            have := cnt_set (t := u) hG
            cases t with
            | true => have := J.lt rfl; omega
            | false => obtain ⟨z, _⟩ := J.eq rfl; rw [z] at this; rw [z]; omega
      · rw [Bool.or_eq_false_iff] at hb
        obtain ⟨ht, hk⟩ := hb
        obtain ⟨z, jf⟩ := J.eq ht
        have hk := of_decide_eq_false hk
        have same : nar B.a G G[x] B.rs[x] = G[x] ∧ (G[x] = none → narA B.a G B.rs[x] = none) := by
          cases q : G[x] with
          | some u => exact ⟨rfl, fun z => nomatch z⟩
          | none =>
            rw [q] at hk
            cases q2 : narA B.a G B.rs[x] with
            | none => exact ⟨q2, fun _ => rfl⟩
            | some u =>
              have e1 : nar B.a G none B.rs[x] = some u := q2
              rw [e1] at hk
              exact absurd (show kn (some u) < kn none from (by decide : (0 : Int) < 1)) hk
        refine ⟨?_, fun j y p hj hy hpy hFy => ?_⟩
        · rw [same.1, List.set_getElem_self hxG]
          exact z
        · by_cases hji : j = i
          · subst hji
            rw [hd] at hy
            have exy : x = y := by
              have := Option.some.inj hy
              have e2 : ((x : Nat) : Int) = (y : Nat) := PyData.int.inj this
              omega
            subst exy
            rw [hp] at hpy
            cases hpy
            rw [← z] at hFy ⊢
            rw [hG] at hFy
            exact same.2 (Option.some.inj hFy)
          · exact jf j y p (by omega) hy hpy hFy
    · -- the pass is over
      refine ⟨cnt G + (if t = true then 1 else 0), ?_, t, G, os.reverse, ⟨J.sd, J.lF, J.lO, J.sm, fun d hd => I6.o1 d (List.mem_reverse.mp hd), fun i hi => List.mem_reverse.mpr (I6.o2 i hi), J.len, J.snd, fun ht s p hp hf => ?_⟩, rfl⟩
      · cases t with
        | true =>
          have := J.lt rfl
          simp only [if_true]
          omega
        | false =>
          obtain ⟨z, _⟩ := J.eq rfl
          rw [z]
          simp
      · obtain ⟨z, jf⟩ := J.eq ht
        rw [z] at hf ⊢
        have hs : s < B.rs.length := (List.getElem?_eq_some_iff.mp hp).1
        obtain ⟨j, hj⟩ := List.mem_iff_getElem?.mp (List.mem_reverse.mpr (I6.o2 s hs))
        exact jf j s p (List.getElem?_eq_some_iff.mp hj).1 hj hp hf
end
end K80

/-! Steps with dicts, lists of lists, new lists told by a def. -/
namespace K80
open PySem PySem.Spec L2
open PyProof.Rows hiding St
/-- a def that tells a new list -/
def spN (K : PySem.W.Frag) (R : Sls → List PD → Prop) : Sp := fun vs H Q _ => ∃ ss es, SlAll K H vs ss ∧ R ss es ∧ ∀ p H', Same H H' → H p = none → Ls K H' p es → Q (.ref p) H'
section
variable {P : Program} {w : World} {K : PySem.W.Frag} {δ δ2 : Sls} {te ti ts : TE} {D : Ends} {σ : L2.St} {H H' : Hp} {t u : TS} {p d : Addr} {ds es : List PD} {kvs : List (PD × PD)} {g : TG} {js vs : List Nat} {tb : TS}
theorem n_call {R : Sls → List PD → Prop} {E : XK} {t : TA} {ss : Sls} (ha : Ea K t δ ss) (hr : R ss es) : En K (tCall (spN K R) [] E t) δ es := fun σ H Q sd q => by
  refine ha σ H _ sd fun vs H1 s1 h => ?_
  exact ⟨ss, es, by rw [List.append_nil]; exact h, hr, fun p H2 s2 n2 l2 => q p H2 (s1.trans s2) (s1.free n2) l2⟩
theorem r_retN (he : En K te δ es) (sd : SD K H σ δ) (k : ∀ p H', Same H H' → H p = none → Ls K H' p es → D.rt (.ref p) H') : tRet te D σ H := he σ H _ sd k
theorem r_ifS {c : TT} {b : Bool} (hc : Et K c δ b) (sd : SD K H σ δ) (h1 : b = true → ∀ H', Same H H' → t D σ H') (h2 : b = false → ∀ H', Same H H' → u D σ H') : tIfS c t u D σ H := by
  refine hc σ H _ sd fun H1 s1 => ?_
  cases b with
  | true => exact iteT (h1 rfl H1 s1)
  | false => exact iteF (h2 rfl H1 s1)
/-! ### dicts -/
theorem r_newD {j : Nat} (sd : SD K H σ δ) (k : ∀ p H', Same H H' → H p = none → Dc P w K H' p [] → SD K H' (σ.set j (some (.ref p))) (δ.set j (.v (.ref p))) → u D (σ.set j (some (.ref p))) H') : tSeq (tAsg (tDcNew P w K) (gName j)) u D σ H :=
  fun p H1 n1 s1 l1 => k p H1 s1 n1 l1 (SD.set (show SlAt K H1 (some (.ref p)) (.v (.ref p)) from rfl) j (sd.sm s1))
theorem Dc.offC (h : Dc P w K H d kvs) (o : Off p H H') (n : d ≠ p) (t : Tk H H') : Dc P w K H' d kvs := by
  obtain ⟨xs, h1, h2, h3⟩ := h
  exact ⟨xs, o _ _ n h1, h2.tk t, h3⟩
theorem Ls.offD (h : Ls K H p ds) (o : Off d H H') (hd : Dc P w K H d kvs) : Ls K H' p ds := by
  obtain ⟨xs, h1, h2⟩ := h
  have n : p ≠ d := fun z => by
    obtain ⟨ys, q, _⟩ := hd
    rw [z, q] at h1
    cases h1
  exact ⟨xs, o _ _ n h1, h2.mv (o.tkC hd)⟩
theorem SD.offG (t : Tk H H') (f : ∀ a xs, H a = some (.lst xs) → H' a = some (.lst xs)) : ∀ {σ : L2.St} {δ : Sls}, SD K H σ δ → noX δ = true → SD K H' σ δ
  | [], [], _, _ => trivial
  | o :: σ, .no :: δ, h, n => ⟨trivial, SD.offG t f h.2 n⟩
  | o :: σ, .d x :: δ, h, n => ⟨by obtain ⟨v, e, q⟩ := h.1; exact ⟨v, e, q.mv t⟩, SD.offG t f h.2 n⟩
  | o :: σ, .v x :: δ, h, n => ⟨h.1, SD.offG t f h.2 n⟩
  | o :: σ, .l x :: δ, h, n => ⟨by obtain ⟨a, xs, e, q, r⟩ := h.1; exact ⟨a, xs, e, f a xs q, r.mv t⟩, SD.offG t f h.2 n⟩
  | o :: σ, .x x :: δ, h, n => by cases n
  | [], _ :: _, h, _ => h
  | _ :: _, [], h, _ => h
theorem SD.offD (sd : SD K H σ δ) (o : Off d H H') (hd : Dc P w K H d kvs) (n : noX δ = true) : SD K H' σ δ :=
  SD.offG (o.tkC hd) (fun a xs h => o _ _ (fun z => by
    obtain ⟨ys, q, _⟩ := hd
    rw [z, q] at h
    cases h) h) sd n
theorem SD.xd {i : Nat} (sd : SD K H σ δ) (h : δ[i]? = some (.x (isDc P w K kvs))) : ∃ d, SD K H σ (δ.set i (.v (.ref d))) ∧ Dc P w K H d kvs := by
  obtain ⟨o, h1, v, e, h2⟩ := sd.get h
  subst e
  obtain ⟨d, e2, l⟩ := h2 H (Same.refl H)
  subst e2
  exact ⟨d, sd.chg h1 rfl, l⟩
theorem SD.dx {i : Nat} (sd : SD K H σ δ) (h : δ[i]? = some (.v (.ref d))) (hd : Dc P w K H d kvs) : SD K H σ (δ.set i (.x (isDc P w K kvs))) := by
  obtain ⟨o, h1, h2⟩ := sd.get h
  cases (show o = some (.ref d) from h2)
  exact sd.chg h1 (isDc_at hd)
/-- d[k] = e, k being new -/
theorem r_setDc {i : Nat} {k e : PD} (sd : SD K H σ δ) (he : Ee K te δ (.d e)) (hi : σ[i]? = some (some (.ref d))) (hx : Ee K ti δ (.d k)) (hk : KeyOk k) (nk : k ∉ kvs.map (·.1)) (hd : Dc P w K H d kvs) (hl : kvs.length < 100000)
    (kk : ∀ H', Off d H H' → Dc P w K H' d (kvs ++ [(k, e)]) → D.nx σ H') : tAsg te (gSub (tVar i) ti (rSetDc P w K)) D σ H := by
  refine he σ H _ sd fun v H1 s1 ⟨w1, e1, t1⟩ => ?_
  cases e1
  refine ⟨_, hi, ?_⟩
  refine hx σ H1 _ (sd.sm s1) fun u H2 s2 ⟨w2, e2, t2⟩ => ?_
  cases e2
  exact ⟨d, kvs, k, e, rfl, hd.sm (s1.trans s2), t2, hk, nk, t1.sm s2, hl, fun H' o h => kk H' ((Off.of (s1.trans s2)).trans o) h⟩
/-- k not in d -/
theorem e_notInDc {ta tc : TE} {k : PD} {b : Bool} (ha : Ee K ta δ (.d k)) (hb : Ee K tc δ (.x (isDc P w K kvs))) (hk : KeyOk k) (h1 : b = true → k ∉ kvs.map (·.1)) (h2 : b = false → ∃ e, (k, e) ∈ kvs) : Ee K (tOp (rInDc P w K true) ta tc) δ (.d (.bool b)) := fun σ H Q sd q => by
  refine ha σ H _ sd fun v H1 s1 ⟨w1, e1, t1⟩ => ?_
  cases e1
  refine hb σ H1 _ (sd.sm s1) fun u H2 s2 ⟨w2, e2, f⟩ => ?_
  cases e2
  obtain ⟨d, rfl, hd⟩ := f H2 (Same.refl H2)
  refine ⟨d, kvs, k, !b, rfl, hd, t1.sm s2, hk, fun z => h2 (by cases b <;> first | rfl | cases z), fun z => h1 (by cases b <;> first | rfl | cases z), ?_⟩
  have e : (if true = true then !!b else !b) = b := by cases b <;> rfl
  rw [e]
  exact q _ H2 (s1.trans s2) ⟨_, rfl, .bl _⟩
theorem e_lenDc {ta : TE} (ha : Ee K ta δ (.x (isDc P w K kvs))) : Ee K (tCB (rLenDc P w K) (tCons ta tNil)) δ (.d (.int (kvs.length : Nat))) := fun σ H Q sd q => by
  refine ha σ H _ sd fun v H1 s1 ⟨w1, e1, f⟩ => ?_
  cases e1
  obtain ⟨d, rfl, hd⟩ := f H1 (Same.refl H1)
  exact ⟨d, kvs, rfl, hd, q _ H1 s1 ⟨_, rfl, .int _⟩⟩
theorem n_listDc {ta : TE} (ha : Ee K ta δ (.x (isDc P w K kvs))) : En K (tCB (rListDc P w K) (tCons ta tNil)) δ (kvs.map (·.1)) := fun σ H Q sd q => by
  refine ha σ H _ sd fun v H1 s1 ⟨w1, e1, f⟩ => ?_
  cases e1
  obtain ⟨d, rfl, hd⟩ := f H1 (Same.refl H1)
  exact ⟨d, kvs, rfl, hd, fun p H2 n2 s2 l2 => q p H2 (s1.trans s2) (s1.free n2) l2⟩
/-! ### loops over a list told by data, at the heap -/
theorem r_forE (he : Ee K te δ (.l ds)) (sd : SD K H σ δ) (k : ∀ p H1, Same H H1 → Ls K H1 p ds → ∃ Pv : Nat → L2.St → Hp → Prop, Pv 0 σ H1 ∧ (∀ i σ' H', Pv i σ' H' → Ls K H' p ds) ∧
    (∀ (i : Nat) d v σ' H', ds[i]? = some d → Tp K H' v d → Pv i σ' H' → g v σ' H' fun σ2 H2 => tb { D with nx := Pv (i + 1), ct := Pv (i + 1), bk := D.nx } σ2 H2) ∧ (∀ σ' H', Pv ds.length σ' H' → D.nx σ' H')) : tFor (iList K te) g tb D σ H := by
  refine he σ H _ sd fun v H1 s1 ⟨p, xs, e1, h1, h2⟩ => ?_
  cases e1
  obtain ⟨Pv, h0, hl, hs, hd⟩ := k p H1 s1 ⟨xs, h1, h2⟩
  refine ⟨p, rfl, ⟨_, SqL.of h1⟩, ?_⟩
  refine ⟨fun i m σ' H' => m = ds.length - i ∧ i ≤ ds.length ∧ Pv i σ' H', ⟨_, rfl, Nat.zero_le _, h0⟩, ?_⟩
  rintro i m σ' H' ⟨rfl, hi, pv⟩
  obtain ⟨ys, q1, q2⟩ := hl i σ' H' pv
  by_cases hlt : i < ds.length
  · have hd' : ds[i]? = some ds[i] := List.getElem?_eq_getElem hlt
    obtain ⟨v, e1, e2⟩ := q2.get hd'
    refine .inr ⟨⟨ys, v, SqL.of q1, e1⟩, Pv (i + 1), fun σ3 H3 p3 => ⟨ds.length - (i + 1), by omega, rfl, hlt, p3⟩, fun x H3 hy => ?_⟩
    obtain ⟨rfl, f⟩ := hy
    have ex : x = v := Option.some.inj ((f ys (SqL.of q1)).symm.trans e1)
    subst ex
    exact hs i _ x σ' _ hd' e2 pv
  · have e : i = ds.length := by omega
    subst e
    exact .inl ⟨⟨ys, SqL.of q1, by rw [q2.length]; exact Nat.le_refl _⟩, hd σ' H' pv⟩
theorem r_forE0 (he : Ee K te δ (.l [])) (sd : SD K H σ δ) (k : ∀ H', Same H H' → D.nx σ H') : tFor (iList K te) g tb D σ H :=
  r_forE he sd fun p H1 s1 l1 => ⟨fun i σ' H' => i = 0 ∧ σ' = σ ∧ H' = H1, ⟨rfl, rfl, rfl⟩, fun i σ' H' h => by rw [h.2.2]; exact l1, fun i d v σ' H' h => by simp at h, fun σ' H' h => by rw [h.2.1, h.2.2]; exact k H1 s1⟩
theorem r_forE1 {d : PD} (he : Ee K te δ (.l [d])) (hg : Eg K g js (.d d) δ δ2) (sd : SD K H σ δ)
    (k : ∀ p σ' H', Same H H' → Ls K H' p [d] → SD K H' σ' δ2 → tb { D with nx := fun σ2 H2 => Ls K H2 p [d] ∧ D.nx σ2 H2, ct := fun σ2 H2 => Ls K H2 p [d] ∧ D.nx σ2 H2, bk := D.nx } σ' H') : tFor (iList K te) g tb D σ H := by
  refine r_forE he sd fun p H1 s1 l1 => ⟨fun i σ' H' => (i = 0 ∧ σ' = σ ∧ H' = H1) ∨ (i = 1 ∧ Ls K H' p [d] ∧ D.nx σ' H'), .inl ⟨rfl, rfl, rfl⟩, fun i σ' H' h => ?_, fun i d' v σ' H' hd tv h => ?_, fun σ' H' h => ?_⟩
  · rcases h with ⟨_, _, h⟩ | ⟨_, h, _⟩
    · rw [h]; exact l1
    · exact h
  · match i, hd with
    | 0, hd =>
      have e0 : d = d' := by simpa using hd
      subst e0
      rcases h with ⟨_, rfl, rfl⟩ | ⟨z, _⟩
      · refine hg σ' H' v _ (sd.sm s1) ⟨v, rfl, tv⟩ fun σ2 sd2 _ => ?_
        have q := k p σ2 H' s1 l1 sd2
        have e : (fun (σ2 : L2.St) (H2 : Hp) => (0 + 1 = 0 ∧ σ2 = σ' ∧ H2 = H') ∨ (0 + 1 = 1 ∧ Ls K H2 p [d] ∧ D.nx σ2 H2)) = fun σ2 H2 => Ls K H2 p [d] ∧ D.nx σ2 H2 := by
          funext σ2 H2
          simp
        exact Eq.mpr (congrArg (fun (f : L2.St → Hp → Prop) => tb { D with nx := f, ct := f, bk := D.nx } σ2 H') e) q
      · cases z
    | i + 1, hd => simp at hd
  · rcases h with ⟨z, _⟩ | ⟨_, _, h⟩
    · cases z
    · exact h
/-! ### lists of lists -/
def LL (K : PySem.W.Frag) (H : Hp) (p : Addr) (ess : List (List PD)) : Prop := ∃ xs, H p = some (.lst xs) ∧ xs.length = ess.length ∧ ∀ (i : Nat) es, ess[i]? = some es → ∃ q, xs[i]? = some (.ref q) ∧ q ≠ p ∧ Ls K H q es
def isLL (K : PySem.W.Frag) (ess : List (List PD)) (v : V) (H : Hp) : Prop := ∃ p, v = .ref p ∧ LL K H p ess
theorem LL.sm {ess : List (List PD)} (h : LL K H p ess) (s : Same H H') : LL K H' p ess := by
  obtain ⟨xs, h1, h2, h3⟩ := h
  exact ⟨xs, s _ _ h1, h2, fun i es e => by obtain ⟨q, a, b, c⟩ := h3 i es e; exact ⟨q, a, b, c.sm s⟩⟩
theorem LL.offD {ess : List (List PD)} (h : LL K H p ess) (o : Off d H H') (hd : Dc P w K H d kvs) : LL K H' p ess := by
  obtain ⟨xs, h1, h2, h3⟩ := h
  have n : p ≠ d := fun z => by
    obtain ⟨ys, q, _⟩ := hd
    rw [z, q] at h1
    cases h1
  exact ⟨xs, o _ _ n h1, h2, fun i es e => by obtain ⟨q, a, b, c⟩ := h3 i es e; exact ⟨q, a, b, c.offD o hd⟩⟩
theorem isLL_at {ess : List (List PD)} (h : LL K H p ess) : SlAt K H (some (.ref p)) (.x (isLL K ess)) := ⟨_, rfl, fun _ s => ⟨p, rfl, h.sm s⟩⟩
theorem e_ixLL {ta tc : TE} {ess : List (List PD)} {i : Int} (ha : Ee K ta δ (.x (isLL K ess))) (hb : Ee K tc δ (.d (.int i))) (h0 : 0 ≤ i) (hi : ess[i.toNat]? = some es) : Ee K (tOp (rIxL K) ta tc) δ (.l es) := fun σ H Q sd q => by
  refine ha σ H _ sd fun v H1 s1 ⟨w1, e1, f⟩ => ?_
  cases e1
  refine hb σ H1 _ (sd.sm s1) fun u H2 s2 ⟨w2, e2, t2⟩ => ?_
  cases e2
  obtain ⟨p, rfl, xs, h1, h2, h3⟩ := f H2 s2
  obtain ⟨a, e1, _, l⟩ := h3 _ _ hi
  exact ⟨p, xs, i, _, rfl, t2.i, SqL.of h1, atI_nn h0 e1, q _ H2 (s1.trans s2) l.l⟩
/-- a comprehension of new lists -/
theorem n_lcLL {δ2 : PD → Sls} {ess : List (List PD)} (hs : Ee K ts δ (.l ds)) (hj : ∀ j ∈ js, j ∈ vs) (hlen : ess.length = ds.length) (hl : ess.length ≤ 100000)
    (he : ∀ (i : Nat) d, ds[i]? = some d → ∃ e, ess[i]? = some e ∧ Eg K g js (.d d) (wipeS δ vs) (δ2 d) ∧ En K te (δ2 d) e) : Ee K (tLc (iList K ts) g tYes te vs) δ (.x (isLL K ess)) := fun σ H Q sd q => by
  refine hs σ H _ sd fun v H1 s1 ⟨a, xs, e1, p1, p2⟩ => ?_
  cases e1
  refine ⟨a, rfl, ⟨_, SqL.of p1⟩, fun Dl nD => ?_⟩
  refine lc_list (xs := xs) (Pv := fun i H' => Same H1 H' ∧ LL K H' Dl (ess.take i)) ⟨same_upd nD, [], upd_same, rfl, fun i es h => by simp at h⟩ (fun i H' _ ⟨s2, _⟩ => SqL.of (s2 _ _ p1)) (fun i x H' hx ⟨s2, acc⟩ => ?_) (fun H' ⟨s2, acc⟩ => ?_)
  · obtain ⟨d, hd, tp⟩ := p2.getV hx
    obtain ⟨e, hei, hg, hee⟩ := he i d hd
    refine hg _ H' x _ ((sd.sm (s1.trans s2)).wipe vs) ⟨_, rfl, tp.sm s2⟩ fun σ2 sd2 w2 => ⟨(w2 vs hj).trans (wipe_wipe σ vs), ?_⟩
    unfold tYes
    simp only [if_true]
    refine hee σ2 H' _ sd2 fun y H4 s4 n4 l4 => ?_
    obtain ⟨zs, h1, h2, h3⟩ := acc
    have h1' := s4 _ _ h1
    have hi : i < ess.length := (List.getElem?_eq_some_iff.mp hei).1
    have nyD : y ≠ Dl := fun z => by rw [z, h1] at n4; cases n4
    rw [List.length_take] at h2
    have oD : Off Dl H4 (upd H4 Dl (.lst (zs ++ [V.ref y]))) := Off.upd
    refine ⟨zs, h1', sz5' (by omega), same_upd2 (s2.trans s4) nD, zs ++ [.ref y], upd_same, ?_, fun k es hk => ?_⟩
    · rw [List.length_append, List.length_take]
      simp
      omega
    · rw [List.take_add_one, hei] at hk
      by_cases hki : k < i
      · rw [List.getElem?_append_left (by rw [List.length_take]; omega)] at hk
        obtain ⟨q1, a1, a2, a3⟩ := h3 k es hk
        refine ⟨q1, by rw [List.getElem?_append_left (by omega)]; exact a1, a2, (a3.sm s4).off oD a2 h1'⟩
      · rw [List.getElem?_append_right (by rw [List.length_take]; omega)] at hk
        have hk0 : k - (ess.take i).length = 0 := by
          have q := (List.getElem?_eq_some_iff.mp hk).1
          simp at q ⊢
          omega
        rw [hk0] at hk
        have ee : e = es := by simpa using hk
        subst ee
        refine ⟨y, ?_, nyD, l4.off oD nyD h1'⟩
        rw [List.length_take] at hk0
        rw [List.getElem?_append_right (by omega), show k - zs.length = 0 by omega]
        rfl
  · rw [p2.length, ← hlen, List.take_length] at acc
    exact q _ H' (s1.trans s2) (isLL_at acc)
end
end K80

namespace K80
open PySem PySem.Spec L2
open PyProof.Rows hiding St
local macro_rules | `(tactic| walk_at "ee") => `(tactic| first
  | ((with_reducible apply e_vd); exact rfl)
  | ((with_reducible apply e_vl); exact rfl)
  | ((with_reducible apply e_vv); exact rfl)
  | (with_reducible exact e_ci)
  | (with_reducible exact e_cs)
  | (with_reducible exact e_cb)
  | (with_reducible exact e_cn)
  | (with_reducible exact e_hole)
  | ((with_reducible apply e_ixT); (walk_at "ee"); (walk_at "ee"); (first | decide | omega); exact rfl)
  | ((with_reducible apply e_ixL); (walk_at "ee"); (walk_at "ee"); (first | decide | omega); exact rfl)
  | ((with_reducible apply e_tup); (walk_at "ea"); (exact rfl); (exact Nat.le_of_ble_eq_true rfl))
  | ((with_reducible apply e_lst); (walk_at "ea"); (exact rfl); (exact Nat.le_of_ble_eq_true rfl))
  | ((with_reducible apply e_lenT); (walk_at "ee"))
  | ((with_reducible apply e_lenL); (walk_at "ee"))
  | ((with_reducible apply e_eqS); (walk_at "ee"); (walk_at "ee"))
  | ((with_reducible apply e_eqI); (walk_at "ee"); (walk_at "ee"))
  | ((with_reducible apply e_neS); (walk_at "ee"); (walk_at "ee"))
  | ((with_reducible apply e_neI); (walk_at "ee"); (walk_at "ee"))
  | ((with_reducible apply e_i0); (walk_at "ee"); (walk_at "ee"))
  | ((with_reducible apply e_b0); (walk_at "ee"); (walk_at "ee"))
  | ((with_reducible apply e_isN); (walk_at "ee"))
  | ((with_reducible apply e_notN); (walk_at "ee"))
  | ((with_reducible apply e_tupOf); (walk_at "ee"))
  | ((with_reducible apply e_tail); (walk_at "ee"); (walk_at "ee"))
  | ((with_reducible apply e_call); (walk_at "ea"); (walk_at "own"))
  | ((with_reducible apply e_cat); (walk_at "ee"); (walk_at "ee"); (exact Nat.le_of_ble_eq_true rfl))
  | ((with_reducible apply e_andV); (walk_at "ee"); intro _; (walk_at "ee"))
  | walk_at "ee2")
local macro_rules | `(tactic| walk_at "ea") => `(tactic| first | (with_reducible exact a_nil) | ((with_reducible apply a_cons); (walk_at "ee"); (walk_at "ea")))
local macro_rules | `(tactic| walk_at "et") => `(tactic| first
  | ((with_reducible apply t_B); (walk_at "ee"))
  | ((with_reducible apply t_T); (walk_at "ee"))
  | ((with_reducible apply t_not); (walk_at "et")))
local macro_rules | `(tactic| walk_at "own") => `(tactic| fail "own")
local macro_rules | `(tactic| walk_at "ee2") => `(tactic| fail "ee2")
local macro_rules | `(tactic| walk_at "ret") => `(tactic| ((with_reducible apply s_ret); (walk_at "ee"); exact rfl))
local macro_rules | `(tactic| walk_at "retS") => `(tactic| ((with_reducible apply s_ret); (walk_at "ee"); rotate_left))

local macro_rules | `(tactic| walk_at "own") => `(tactic| first
  | exact ⟨_, _, rfl, rfl⟩
  | exact ⟨_, _, _, _, rfl, rfl⟩
  | (refine ⟨_, ?_, ?_, rfl, rfl⟩; (first | omega | assumption); assumption))
local macro_rules | `(tactic| walk_at "ee2") => `(tactic| first
  | ((with_reducible apply e_vx); exact rfl)
  | ((with_reducible apply e_vxl); exact rfl))
section
variable {P : Program} {w : World} {K : PySem.W.Frag} {mg : Str → Option Value} {base : Heap}
theorem sd_st {H : Hp} {N : List Str} {vs : List V} {ss : Sls} (h : SlAll K H vs ss) : SD K H (L2.start N vs) (ss ++ List.replicate (N.length - ss.length) .no) := by
  unfold L2.start
  rw [h.length]
  exact sd_start _ h
/-! ### pairs_at once more, fronts_of, partings_of -/
def RPairsN (ss : Sls) (es : List PD) : Prop := ∃ (I : Ins) (a : Str) (f : FT), notSign a = true ∧ ss = [.d (ftE I a f)] ∧ es = ptE I f
theorem ok_pairs_atN (T : Top K mg) : GOk P w K mg base 1 "pairs_at" ["front"] (spN K RPairsN) := by
  have g_pairs_at : GOk P w K mg base 0 "pairs_at" ["front"] (spD K fun _ _ => False) := g_none T.d_pairs_at fun ss s h => h
  refine g_ok T.d_pairs_at scPairsAt (fun vs H Q E h => ?_) (fun fn cdv A outer s H vs Q E hr h => ⟨_, (pss_cons (ps_if (pt_cmpR op_eq (pe_ix ix_tup (pv 0) pe_int (fun _ _ => rfl)) (pe_gS rfl T.c_HOLED) (nomark _)) (pss_one (ps_ret (pe_lst (pa_cons (pe_tup (pa_cons (pe_ix ix_tup (pv 0) pe_int (fun _ _ => rfl)) (pa_cons (pe_ix ix_tup (pv 0) pe_int (fun _ _ => rfl)) pa_nil))) pa_nil)))) pss_nil)
      (pss_cons (ps_set (i := 1) scPairsAt.nd rfl (Or.inl rfl) (pe_lst pa_nil))
      (pss_cons (ps_for PassesOwn.never rfl (pi_tup (pe_slice sl_tupA (pv 0) (po_some pe_int) po_none)) (pg_name (i := 2) scPairsAt.nd rfl (Or.inl rfl)) (pss_one (ps_expr (pe_bm PySem.F.plainAttrs_list PySem.F.slot_list_extend PySem.F.type_list_extend mt_extend (pv 1) (pa_cons (pe_g g_pairs_at (hr.mono (by omega)) rfl (pa_cons (pv 2) pa_nil)) pa_nil)))))
      (pss_one (ps_ret (pv 1)))))), ?_⟩)
  · obtain ⟨ss, es, h1, ⟨I, a, f, _, rfl, _⟩, _⟩ := h
    exact h1.length
  · obtain ⟨ss, es, h1, ⟨I, a, f, ha, rfl, rfl⟩, q⟩ := h
    try dsimp only [cxOf]
    have sd := sd_st (N := nPairsAt) h1
    cases f with
    | some t =>
      refine r_ifS (t_T (e_eqS (e_ixT (ds := [.str "*", trE I t.1, trE I t.2]) (e_vd rfl) e_ci (by decide) rfl) e_cs)) sd (fun _ H1 s1 => ?_) (fun hb => absurd hb (by decide))
      exact r_retN (n_lst (ss := [.d (.tuple [trE I t.1, trE I t.2])]) (by walk_at "ea") rfl (Nat.le_of_ble_eq_true rfl)) (sd.sm s1) fun p H2 s2 n2 l2 => q p H2 (s1.trans s2) (s1.free n2) l2
    | none =>
      refine r_seq (N := fun δ' => δ' = [.d (.tuple [.str a]), .no, .no]) (s_ifF (by walk_at "et") (notSign_h ha) (s_next rfl)) sd fun σ1 H1 δ1 s1 sd1 e1 => ?_
      subst e1
      refine r_setN (n_lst (ss := []) (by walk_at "ea") rfl (Nat.le_of_ble_eq_true rfl)) sd1 fun p H2 s2 n2 l2 sd2 => ?_
      refine r_seq (N := fun δ' => δ' = [.d (.tuple [.str a]), .v (.ref p), .no]) (s_forT0 (by walk_at "ee") rfl) sd2 fun σ3 H3 δ3 s3 sd3 e3 => ?_
      subst e3
      refine r_ret (e_vv rfl) sd3 fun v H4 s4 hv => ?_
      cases hv
      exact q p H4 (((s1.trans s2).trans s3).trans s4) (s1.free n2) ((l2.sm s3).sm s4)
def bareO (a : Str) : FT → Option Str
  | none => some a
  | some _ => none
def fbL (a : Str) (F : List FT) : List PD := F.map fun f => fbE (bareO a f)
def RFrontsOf (ss : Sls) (s : Sl) : Prop := ∃ (B : LB) (F : List FT), B.ok ∧ IsFr B F ∧ ss = [.d B.e] ∧ s = .l (fbL B.a F)
theorem fr_len {B : LB} {F : List FT} (ok : B.ok) (h : IsFr B F) : F.length ≤ 100000 := by rw [h.len]; have := ok.n; omega
theorem ok_fronts_of (T : Top K mg) (g_parted_fronts : GOk P w K mg base 6 "parted_fronts" ["book"] (spD K RPF)) (g_bare : GOk P w K mg base 1 "bare" ["front"] (spD K RBare)) : GOk P w K mg base 7 "fronts_of" ["book"] (spD K RFrontsOf) := by
  refine g_pure T.d_fronts_of scFrontsOf (fun ss s h => ?_) (fun f cdv A outer s H E hr => ⟨_, (pss_one (ps_ret (pe_lc (own := [("front", 1)]) rfl scFrontsOf.nd (pi_list (pe_g g_parted_fronts (hr.mono (by omega)) rfl (pa_cons (pv 0) pa_nil))) (blkOk_by (N := nFrontsOf) (sc := (defScope sFrontsOf)) (by decide +kernel)) (fun _ _ _ _ _ => (pg_name (i := 1) scFrontsOf.nd rfl (Or.inl rfl) (hf := Or.inr rfl))) (fun _ _ _ _ _ => pts_nil) (fun _ _ _ _ _ => (pe_g g_bare (hr.mono (by omega)) rfl (pa_cons (pv 1) pa_nil)))))), fun ss s h => ?_⟩)
  · obtain ⟨B, F, _, _, rfl, _⟩ := h; rfl
  · obtain ⟨B, F, ok, fr, rfl, rfl⟩ := h
    try dsimp only [cxOf]
    have hl := fr_len ok fr
    refine s_ret (e_lcL (ds := ftL B F) (js := [1]) (δ2 := fun d => [.d B.e, .d d]) (e_call (ss := [.d B.e]) (by walk_at "ea") ⟨B, F, ok, fr, rfl, rfl⟩) (by decide) (by unfold fbL ftL; rw [List.length_map, List.length_map]) (by unfold fbL; rw [List.length_map]; exact hl) (fun i d hd => ?_)) rfl
    unfold ftL at hd
    rw [List.getElem?_map] at hd
    cases e : F[i]? with
    | none => rw [e] at hd; cases hd
    | some f =>
      rw [e] at hd
      cases hd
      refine ⟨fbE (bareO B.a f), by unfold fbL; rw [List.getElem?_map, e]; rfl, g_name, ?_⟩
      exact e_call (ss := [.d (ftE B.I B.a f)]) (by walk_at "ea") ⟨B.I, B.a, f, ok.a.1, rfl, by cases f <;> rfl⟩
def RPartings (K : PySem.W.Frag) (ss : Sls) (s : Sl) : Prop := ∃ (B : LB) (F : List FT), B.ok ∧ IsFr B F ∧ ss = [.d B.e] ∧ s = .x (isLL K (F.map (ptE B.I)))
theorem ok_partings_of (T : Top K mg) (g_parted_fronts : GOk P w K mg base 6 "parted_fronts" ["book"] (spD K RPF)) (g_pairs_at : GOk P w K mg base 1 "pairs_at" ["front"] (spN K RPairsN)) : GOk P w K mg base 7 "partings_of" ["book"] (spD K (RPartings K)) := by
  refine g_pure T.d_partings_of scPartingsOf (fun ss s h => ?_) (fun f cdv A outer s H E hr => ⟨_, (pss_one (ps_ret (pe_lc (own := [("front", 1)]) rfl scPartingsOf.nd (pi_list (pe_g g_parted_fronts (hr.mono (by omega)) rfl (pa_cons (pv 0) pa_nil))) (blkOk_by (N := nPartingsOf) (sc := (defScope sPartingsOf)) (by decide +kernel)) (fun _ _ _ _ _ => (pg_name (i := 1) scPartingsOf.nd rfl (Or.inl rfl) (hf := Or.inr rfl))) (fun _ _ _ _ _ => pts_nil) (fun _ _ _ _ _ => (pe_g g_pairs_at (hr.mono (by omega)) rfl (pa_cons (pv 1) pa_nil)))))), fun ss s h => ?_⟩)
  · obtain ⟨B, F, _, _, rfl, _⟩ := h; rfl
  · obtain ⟨B, F, ok, fr, rfl, rfl⟩ := h
    try dsimp only [cxOf]
    have hl := fr_len ok fr
    refine s_ret (n_lcLL (ds := ftL B F) (js := [1]) (δ2 := fun d => [.d B.e, .d d]) (e_call (ss := [.d B.e]) (by walk_at "ea") ⟨B, F, ok, fr, rfl, rfl⟩) (by decide) (by unfold ftL; rw [List.length_map, List.length_map]) (by rw [List.length_map]; exact hl) (fun i d hd => ?_)) rfl
    unfold ftL at hd
    rw [List.getElem?_map] at hd
    cases e : F[i]? with
    | none => rw [e] at hd; cases hd
    | some f =>
      rw [e] at hd
      cases hd
      refine ⟨ptE B.I f, by rw [List.getElem?_map, e]; rfl, g_name, ?_⟩
      exact n_call (ss := [.d (ftE B.I B.a f)]) (by walk_at "ea") ⟨B.I, B.a, f, ok.a.1, rfl, rfl⟩
/-! ### met_in -/
def MetR (p : Pat) (kvs kvs' : List (PD × PD)) : Prop := (p.at = none ∧ kvs' = kvs) ∨ ∃ m st k, p.at = some (m, st, k) ∧ KeyOk st ∧ (((∃ e, (st, e) ∈ kvs) ∧ kvs' = kvs) ∨ (st ∉ kvs.map (·.1) ∧ kvs' = kvs ++ [(st, .int (kvs.length : Nat))]))
def spMet (P : Program) (w : World) (K : PySem.W.Frag) : Sp := fun vs H Q _ => ∃ (p : Pat) (d : Addr) (kvs kvs' : List (PD × PD)), SlAll K H vs [.d p.e, .v (.ref d)] ∧ p.dep < 4 ∧ p.ok ∧ Dc P w K H d kvs ∧ kvs.length < 1000 ∧ MetR p kvs kvs' ∧ ∀ H', Off d H H' → Dc P w K H' d kvs' → Q .non H'
theorem calls_none {p : Pat} (h : p.at = none) : p.calls = [] := by unfold Pat.calls; rw [h]
theorem calls_some {p : Pat} {q : Nat × PD × Int} (h : p.at = some q) : p.calls = [callE q] := by unfold Pat.calls; rw [h]
theorem ok_met_in (T : Top K mg) (g_calls_in : GOk P w K mg base 5 "calls_in" ["pattern"] (spD K (RCalls 4))) : GOk P w K mg base 6 "met_in" ["pattern", "numbers"] (spMet P w K) := by
  refine g_ok T.d_met_in scMetIn (fun vs H Q E h => ?_) (fun fn cdv A outer s H vs Q E hr h => ⟨_, (pss_one (ps_for PassesOwn.never rfl (pi_list (pe_g g_calls_in (hr.mono (by omega)) rfl (pa_cons (pv 0) pa_nil))) (pg_tup rfl (pgs_cons (pg_name (i := 2) scMetIn.nd rfl (Or.inl rfl)) (pgs_cons (pg_name (i := 3) scMetIn.nd rfl (Or.inl rfl)) pgs_nil))) (pss_one (ps_if (pt_cmpR (op_notInDc hr.units) (pe_ix ix_tup (pv 3) pe_int (fun _ _ => rfl)) (pv 1) (by rfl)) (pss_one (ps_asg (pe_callB call_len_dc (by rfl) T.b_len PySem.boot_len (pa_cons (pv 1) pa_nil)) (pg_sub (pv 1) (pe_ix ix_tup (pv 3) pe_int (fun _ _ => rfl)) (set_dc hr.units)))) pss_nil)))), ?_⟩)
  · obtain ⟨p, d, kvs, kvs', h1, _⟩ := h
    exact h1.length
  · obtain ⟨p, d, kvs, kvs', h1, hd4, hk, hd, hl, hm, q⟩ := h
    try dsimp only [cxOf]
    have sd := sd_st (N := nMetIn) h1
    have hc : Ee K (tCall (spD K (RCalls 4)) [] E0 (tCons (tVar 0) tNil)) [.d p.e, .v (.ref d), .no, .no] (.l p.calls) := e_call (ss := [.d p.e]) (by walk_at "ea") ⟨p, hd4, hk, rfl, rfl⟩
    rcases hm with ⟨hn, rfl⟩ | ⟨m, st, k, hat, ko, hm⟩
    · rw [calls_none hn] at hc
      exact r_forE0 hc sd fun H1 s1 => q H1 (Off.of s1) (hd.sm s1)
    · rw [calls_some hat] at hc
      refine r_forE1 hc (js := [2, 3]) (g_tup (ds := [zeros m, .tuple [st, .int k]]) (gs_cons g_name (gs_cons g_name gs_nil)) rfl) sd fun a σ1 H1 s1 l1 sd1 => ?_
      have hd1 := hd.sm s1
      have sdx := SD.dx (i := 1) sd1 rfl hd1
      obtain ⟨o, g1, g2⟩ := SD.get (i := 1) sd1 rfl
      cases (show o = some (.ref d) from g2)
      rcases hm with ⟨h, rfl⟩ | ⟨h, rfl⟩
      · refine r_ifS (b := false) (t_T (e_notInDc (k := st) (by walk_at "ee") (e_vx rfl) ko (fun z => nomatch z) (fun _ => h))) sdx (fun hb => nomatch hb) (fun _ H2 s2 => ?_)
        exact ⟨l1.sm s2, q H2 (Off.of (s1.trans s2)) (hd1.sm s2)⟩
      · refine r_ifS (b := true) (t_T (e_notInDc (k := st) (by walk_at "ee") (e_vx rfl) ko (fun _ => h) (fun z => nomatch z))) sdx (fun _ H2 s2 => ?_) (fun hb => nomatch hb)
        refine r_setDc (k := st) (e := .int (kvs.length : Nat)) (sdx.sm s2) (e_lenDc (e_vx rfl)) g1 (by walk_at "ee") ko h (hd1.sm s2) (by omega) fun H3 o3 d3 => ?_
        exact ⟨(l1.sm s2).offD o3 (hd1.sm s2), q H3 ((Off.of (s1.trans s2)).trans o3) d3⟩
/-! ### renamed -/
def RenR (p : Pat) (kvs : List (PD × PD)) (p' : Pat) : Prop := (p.at = none ∧ p' = p) ∨ ∃ m a b k n, p.at = some (m, .tuple [.int a, .int b], k) ∧ (.tuple [.int a, .int b], .int n) ∈ kvs ∧ p' = Pat.sub (.call (.int n) k) p
def RRenamed (P : Program) (w : World) (K : PySem.W.Frag) (ss : Sls) (s : Sl) : Prop := ∃ (p p' : Pat) (kvs : List (PD × PD)), p.dep < 4 ∧ p.ok ∧ RenR p kvs p' ∧ ss = [.d p.e, .x (isDc P w K kvs)] ∧ s = .d p'.e
theorem sub_none {r : Pat} : ∀ {p : Pat}, p.at = none → Pat.sub r p = p
  | .lf x, _ => rfl
  | .call _ _, h => by cases h
  | .g x p, h => by
    have h' : p.at = none := by
      have q : (p.at.map fun q => (q.1 + 1, q.2)) = none := h
      cases e : p.at with
      | none => rfl
      | some r => rw [e] at q; cases q
    show Pat.g x (Pat.sub r p) = _
    rw [sub_none h']
theorem ok_renamed (T : Top K mg) (g_calls_in : GOk P w K mg base 5 "calls_in" ["pattern"] (spD K (RCalls 4))) (g_filled : GOk P w K mg base 5 "filled" ["pattern", "table"] (spD K (RFilled P w K 4))) : GOk P w K mg base 6 "renamed" ["pattern", "numbers"] (spD K (RRenamed P w K)) := by
  refine g_pure T.d_renamed scRenamed (fun ss s h => ?_) (fun f cdv A outer s H E hr => ⟨_, (pss_cons (ps_set (i := 2) scRenamed.nd rfl (Or.inl rfl) pe_dcNew)
      (pss_cons (ps_for PassesOwn.never rfl (pi_list (pe_g g_calls_in (hr.mono (by omega)) rfl (pa_cons (pv 0) pa_nil))) (pg_tup rfl (pgs_cons (pg_name (i := 3) scRenamed.nd rfl (Or.inl rfl)) (pgs_cons (pg_name (i := 4) scRenamed.nd rfl (Or.inl rfl)) pgs_nil))) (pss_one (ps_asg (pe_tup (pa_cons (pe_gS rfl T.c_CALL) (pa_cons (pe_ix (ix_dc hr.units) (pv 1) (pe_ix ix_tup (pv 4) pe_int (fun _ _ => rfl)) (fun _ _ => rfl)) (pa_cons (pe_ix ix_tup (pv 4) pe_int (fun _ _ => rfl)) pa_nil)))) (pg_sub (pv 2) (pv 4) (set_dc hr.units)))))
      (pss_one (ps_ret (pe_g g_filled (hr.mono (by omega)) rfl (pa_cons (pv 0) (pa_cons (pv 2) pa_nil))))))), fun ss s h => ?_⟩)
  · obtain ⟨p, p', kvs, _, _, _, rfl, _⟩ := h; rfl
  · obtain ⟨p, p', kvs, hd4, hk, hr, rfl, rfl⟩ := h
    try dsimp only [cxOf]
    intro σ H E sd le
    refine r_newD sd fun t H1 s1 n1 d1 sd1 => ?_
    have hc : Ee K (tCall (spD K (RCalls 4)) [] E0 (tCons (tVar 0) tNil)) [.d p.e, .x (isDc P w K kvs), .v (.ref t), .no, .no] (.l p.calls) := e_call (ss := [.d p.e]) (by walk_at "ea") ⟨p, hd4, hk, rfl, rfl⟩
    rcases hr with ⟨hn, rfl⟩ | ⟨m, a, b, k, n, hat, hkv, rfl⟩
    · rw [calls_none hn] at hc
      refine r_forE0 hc sd1 fun H2 s2 => ?_
      have sdx := SD.dx (i := 2) (sd1.sm s2) rfl (d1.sm s2)
      have hR : RFilled P w K 4 [.d p'.e, .x (isDc P w K [])] (.d p'.e) := ⟨p', .call .none 0, [], hd4, hk, (fun q hq => by rw [hn] at hq; cases hq), rfl, by rw [sub_none hn]⟩
      refine r_ret (e_call (a_cons (e_vd rfl) (a_cons (e_vx rfl) a_nil)) hR) sdx fun v H3 s3 hv => ?_
      exact le.rt v H3 _ ((s1.trans s2).trans s3) hv rfl
    · rw [calls_some hat] at hc
      refine r_forE1 hc (js := [3, 4]) (g_tup (ds := [zeros m, .tuple [.tuple [.int a, .int b], .int k]]) (gs_cons g_name (gs_cons g_name gs_nil)) rfl) sd1 fun l σ2 H2 s2 l2 sd2 => ?_
      obtain ⟨o, g1, g2⟩ := SD.get (i := 2) sd2 rfl
      cases (show o = some (.ref t) from g2)
      have d2 := d1.sm s2
      refine r_setDc (kvs := []) (k := .tuple [.tuple [.int a, .int b], .int k]) (e := (Pat.call (.int n) k).e) sd2
        (e_tup (ss := [.d (.str "?"), .d (.int n), .d (.int k)]) (a_cons e_cs (a_cons (e_ixDc (e_vx rfl) (e_ixT (ds := [.tuple [.int a, .int b], .int k]) (e_vd rfl) e_ci (by decide) rfl) (.flat a b) hkv) (a_cons (e_ixT (ds := [.tuple [.int a, .int b], .int k]) (e_vd rfl) e_ci (by decide) rfl) a_nil))) rfl (Nat.le_of_ble_eq_true rfl))
        g1 (e_vd rfl) (.nest a b k) (by simp) d2 (by simp) fun H3 o3 d3 => ?_
      refine ⟨l2.offD o3 d2, ?_⟩
      have sm3 : Same H H3 := o3.same (s1.trans s2) n1
      obtain ⟨dn, sdn, hdn⟩ := SD.xd (i := 1) sd2 rfl
      have sd3 := sdn.offD o3 d2 rfl
      have sdx := SD.dx (i := 2) sd3 rfl d3
      have hR : RFilled P w K 4 [.d p.e, .x (isDc P w K ([] ++ [(.tuple [.tuple [.int a, .int b], .int k], (Pat.call (.int n) k).e)]))] (.d (Pat.sub (.call (.int n) k) p).e) := ⟨p, .call (.int n) k, _, hd4, hk, fun q hq => by
        rw [hat] at hq
        cases hq
        exact ⟨.nest a b k, by simp⟩, rfl, rfl⟩
      refine r_ret (e_call (a_cons (e_vd rfl) (a_cons (e_vx rfl) a_nil)) hR) sdx fun v H4 s4 hv => ?_
      exact le.rt v H4 _ (sm3.trans s4) hv rfl
end
end K80

namespace K80
open PySem PySem.Spec L2
open PyProof.Rows hiding St
local macro_rules | `(tactic| walk_at "ee") => `(tactic| first
  | ((with_reducible apply e_vd); exact rfl)
  | ((with_reducible apply e_vl); exact rfl)
  | ((with_reducible apply e_vv); exact rfl)
  | (with_reducible exact e_ci)
  | (with_reducible exact e_cs)
  | (with_reducible exact e_cb)
  | (with_reducible exact e_cn)
  | (with_reducible exact e_hole)
  | ((with_reducible apply e_ixT); (walk_at "ee"); (walk_at "ee"); (first | decide | omega); exact rfl)
  | ((with_reducible apply e_ixL); (walk_at "ee"); (walk_at "ee"); (first | decide | omega); exact rfl)
  | ((with_reducible apply e_tup); (walk_at "ea"); (exact rfl); (exact Nat.le_of_ble_eq_true rfl))
  | ((with_reducible apply e_lst); (walk_at "ea"); (exact rfl); (exact Nat.le_of_ble_eq_true rfl))
  | ((with_reducible apply e_lenT); (walk_at "ee"))
  | ((with_reducible apply e_lenL); (walk_at "ee"))
  | ((with_reducible apply e_eqS); (walk_at "ee"); (walk_at "ee"))
  | ((with_reducible apply e_eqI); (walk_at "ee"); (walk_at "ee"))
  | ((with_reducible apply e_neS); (walk_at "ee"); (walk_at "ee"))
  | ((with_reducible apply e_neI); (walk_at "ee"); (walk_at "ee"))
  | ((with_reducible apply e_i0); (walk_at "ee"); (walk_at "ee"))
  | ((with_reducible apply e_b0); (walk_at "ee"); (walk_at "ee"))
  | ((with_reducible apply e_isN); (walk_at "ee"))
  | ((with_reducible apply e_notN); (walk_at "ee"))
  | ((with_reducible apply e_tupOf); (walk_at "ee"))
  | ((with_reducible apply e_tail); (walk_at "ee"); (walk_at "ee"))
  | ((with_reducible apply e_call); (walk_at "ea"); (walk_at "own"))
  | ((with_reducible apply e_cat); (walk_at "ee"); (walk_at "ee"); (exact Nat.le_of_ble_eq_true rfl))
  | ((with_reducible apply e_andV); (walk_at "ee"); intro _; (walk_at "ee"))
  | walk_at "ee2")
local macro_rules | `(tactic| walk_at "ea") => `(tactic| first | (with_reducible exact a_nil) | ((with_reducible apply a_cons); (walk_at "ee"); (walk_at "ea")))
local macro_rules | `(tactic| walk_at "et") => `(tactic| first
  | ((with_reducible apply t_B); (walk_at "ee"))
  | ((with_reducible apply t_T); (walk_at "ee"))
  | ((with_reducible apply t_not); (walk_at "et")))
local macro_rules | `(tactic| walk_at "own") => `(tactic| fail "own")
local macro_rules | `(tactic| walk_at "ee2") => `(tactic| fail "ee2")
local macro_rules | `(tactic| walk_at "ret") => `(tactic| ((with_reducible apply s_ret); (walk_at "ee"); exact rfl))
local macro_rules | `(tactic| walk_at "retS") => `(tactic| ((with_reducible apply s_ret); (walk_at "ee"); rotate_left))

local macro_rules | `(tactic| walk_at "own") => `(tactic| first
  | exact ⟨_, _, rfl, rfl⟩
  | exact ⟨_, _, _, _, rfl, rfl⟩
  | (refine ⟨_, ?_, ?_, rfl, rfl⟩; (first | omega | assumption); assumption))
local macro_rules | `(tactic| walk_at "ee2") => `(tactic| first
  | ((with_reducible apply e_vx); exact rfl)
  | ((with_reducible apply e_vxl); exact rfl))
section
variable {P : Program} {w : World} {K : PySem.W.Frag} {mg : Str → Option Value} {base : Heap}
/-! ### early -/
def earP (a : Str) (s : Nat) (k : Int) : FT → Pat
  | none => .lf a
  | some _ => .call (.tuple [.int (s : Nat), .int 0]) k
def EarR (a : Str) (F : List FT) (p p' : Pat) : Prop := (p.at = none ∧ p' = p) ∨ ∃ m s k f, p.at = some (m, .int ((s : Nat) : Int), k) ∧ F[s]? = some f ∧ p' = Pat.sub (earP a s k f) p
def REarly (ss : Sls) (s : Sl) : Prop := ∃ (a : Str) (F : List FT) (p p' : Pat), p.dep < 4 ∧ p.ok ∧ (notSign a = true ∧ PyData.strOk a = true) ∧ EarR a F p p' ∧ ss = [.d p.e, .l (fbL a F)] ∧ s = .d p'.e
theorem ok_early (T : Top K mg) (g_calls_in : GOk P w K mg base 5 "calls_in" ["pattern"] (spD K (RCalls 4))) (g_filled : GOk P w K mg base 5 "filled" ["pattern", "table"] (spD K (RFilled P w K 4)))
    (g_holes_in : GOk P w K mg base 1 "holes_in" ["front"] (spD K RHoles)) (g_hung : GOk P w K mg base 2 "hung" ["front", "parts"] (spD K RHung)) : GOk P w K mg base 6 "early" ["pattern", "fronts"] (spD K REarly) := by
  refine g_pure T.d_early scEarly (fun ss s h => ?_) (fun f cdv A outer s H E hr => ⟨_, (pss_cons (ps_set (i := 2) scEarly.nd rfl (Or.inl rfl) pe_dcNew)
      (pss_cons (ps_for PassesOwn.never rfl (pi_list (pe_g g_calls_in (hr.mono (by omega)) rfl (pa_cons (pv 0) pa_nil))) (pg_tup rfl (pgs_cons (pg_name (i := 3) scEarly.nd rfl (Or.inl rfl)) (pgs_cons (pg_name (i := 4) scEarly.nd rfl (Or.inr rfl)) pgs_nil))) (pss_cons (ps_set (i := 5) scEarly.nd rfl (Or.inl rfl) (pe_ix ix_list (pv 1) (pe_ix ix_tup (pv 4) pe_int (fun _ _ => rfl)) (fun _ _ => rfl)))
      (pss_cons (ps_setLc (i := 6) (own := [("hole", 7)]) rfl scEarly.nd rfl rfl (sw_true rfl rfl rfl (by decide +kernel)) (pi_range1 rfl T.b_range (pa_cons (pe_callB call_len_seq (by rfl) T.b_len PySem.boot_len (pa_cons (pe_g g_holes_in (hr.mono (by omega)) rfl (pa_cons (pv 5) pa_nil)) pa_nil)) pa_nil)) (blkOk_by (N := nEarly) (sc := (defScope sEarly)) (by decide +kernel)) (fun _ _ _ _ _ => (pg_name (i := 7) scEarly.nd rfl (Or.inl rfl) (hf := Or.inr rfl))) (fun _ _ _ _ _ => pts_nil) (fun _ _ _ _ _ => (pe_tup (pa_cons (pe_gS rfl T.c_CALL) (pa_cons (pe_tup (pa_cons (pe_ix (ix_tupK (K := K) rfl) (pv 4) pe_int (fun _ _ => rfl)) (pa_cons (pv 7) pa_nil))) (pa_cons (pe_ix (ix_tupK (K := K) rfl) (pv 4) pe_int (fun _ _ => rfl)) pa_nil))))))
      (pss_one (ps_asg (pe_g g_hung (hr.mono (by omega)) rfl (pa_cons (pv 5) (pa_cons (pv 6) pa_nil))) (pg_sub (pv 2) (pv 4) (set_dc hr.units)))))))
      (pss_one (ps_ret (pe_g g_filled (hr.mono (by omega)) rfl (pa_cons (pv 0) (pa_cons (pv 2) pa_nil))))))), fun ss s h => ?_⟩)
  · obtain ⟨a, F, p, p', _, _, _, _, rfl, _⟩ := h; rfl
  · obtain ⟨a, F, p, p', hd4, hk, ha, hr, rfl, rfl⟩ := h
    try dsimp only [cxOf]
    intro σ H E sd le
    refine r_newD sd fun t H1 s1 n1 d1 sd1 => ?_
    have hc : Ee K (tCall (spD K (RCalls 4)) [] E0 (tCons (tVar 0) tNil)) [.d p.e, .l (fbL a F), .v (.ref t), .no, .no, .no, .no, .no] (.l p.calls) := e_call (ss := [.d p.e]) (by walk_at "ea") ⟨p, hd4, hk, rfl, rfl⟩
    rcases hr with ⟨hn, rfl⟩ | ⟨m, s, k, f, hat, hF, rfl⟩
    · rw [calls_none hn] at hc
      refine r_forE0 hc sd1 fun H2 s2 => ?_
      have sdx := SD.dx (i := 2) (sd1.sm s2) rfl (d1.sm s2)
      have hR : RFilled P w K 4 [.d p'.e, .x (isDc P w K [])] (.d p'.e) := ⟨p', .call .none 0, [], hd4, hk, (fun q hq => by rw [hn] at hq; cases hq), rfl, by rw [sub_none hn]⟩
      refine r_ret (e_call (a_cons (e_vd rfl) (a_cons (e_vx rfl) a_nil)) hR) sdx fun v H3 s3 hv => ?_
      exact le.rt v H3 _ ((s1.trans s2).trans s3) hv rfl
    · rw [calls_some hat] at hc
      refine r_forE1 hc (js := [3, 4]) (g_tup (ds := [zeros m, .tuple [.int ((s : Nat) : Int), .int k]]) (gs_cons g_name (gs_cons g_name gs_nil)) rfl) sd1 fun l σ2 H2 s2 l2 sd2 => ?_
      have hb : fbOk (bareO a f) := by cases f <;> first | exact ha | trivial
      refine r_set (s := .d (fbE (bareO a f))) (e_ixL (ds := fbL a F) (e_vl rfl) (e_ixT (ds := [.int ((s : Nat) : Int), .int k]) (e_vd rfl) e_ci (by decide) rfl) (by omega) (by unfold fbL; rw [Int.toNat_natCast, List.getElem?_map, hF]; rfl)) sd2 fun v3 H3 s3 sd3 => ?_
      have hparts : ∃ ds : List PD, (match bareO a f with | none => ds = [.tuple [.str "?", .tuple [.int ((s : Nat) : Int), .int 0], .int k]] | some _ => ds = []) ∧ ∀ σ H, SD K H σ [.d p.e, .l (fbL a F), .v (.ref t), .d (zeros m), .d (.tuple [.int ((s : Nat) : Int), .int k]), .d (fbE (bareO a f)), .no, .no] →
          Ee K (tLc (iRng1 (tCons (tCB (rLenQ K) (tCons (tCall (spD K RHoles) [] E0 (tCons (tVar 5) tNil)) tNil)) tNil)) (gName 7) tYes
            (tTup (tCons (tC (.str "?")) (tCons (tTup (tCons (tOp (rIxT K) (tVar 4) (tC (.int 0))) (tCons (tVar 7) tNil))) (tCons (tOp (rIxT K) (tVar 4) (tC (.int 1))) tNil)))) [7])
            [.d p.e, .l (fbL a F), .v (.ref t), .d (zeros m), .d (.tuple [.int ((s : Nat) : Int), .int k]), .d (fbE (bareO a f)), .no, .no] (.l ds) := by
        cases f with
        | none =>
          refine ⟨[], rfl, fun σ H sd => ?_⟩
          exact e_lcR (js := [7]) (n := 0) (δ2 := fun _ => []) (a_cons (e_lenL (ds := []) (e_call (ss := [.d (fbE (some a))]) (by walk_at "ea") ⟨some a, ha, rfl, rfl⟩)) a_nil) (by decide) (by decide) rfl (by simp) (fun i hi => by simp at hi)
        | some u =>
          refine ⟨[.tuple [.str "?", .tuple [.int ((s : Nat) : Int), .int 0], .int k]], rfl, fun σ H sd => ?_⟩
          refine e_lcR (js := [7]) (n := 1) (δ2 := fun i => [.d p.e, .l (fbL a F), .v (.ref t), .d (zeros m), .d (.tuple [.int ((s : Nat) : Int), .int k]), .d (fbE (bareO a (some u))), .no, .d (.int (0 + (i : Nat)))]) (a_cons (e_lenL (ds := [zeros 0]) (e_call (ss := [.d (fbE none)]) (by walk_at "ea") ⟨none, trivial, rfl, rfl⟩)) a_nil) (by decide) (by decide) rfl (by simp) (fun i hi => ?_)
          have i0 : i = 0 := by simp at hi; exact hi
          subst i0
          exact ⟨_, rfl, g_name, by walk_at "ee"⟩
      obtain ⟨ds, hds, hparts⟩ := hparts
      refine r_set (s := .l ds) (hparts _ _ sd3) sd3 fun v4 H4 s4 sd4 => ?_
      obtain ⟨o, g1, g2⟩ := SD.get (i := 2) sd4 rfl
      cases (show o = some (.ref t) from g2)
      have d4 := ((d1.sm s2).sm s3).sm s4
      have hh : RHung [.d (fbE (bareO a f)), .l ds] (.d (earP a s k f).e) := by
        cases f with
        | none => exact ⟨some a, ds, ha, rfl, rfl⟩
        | some u =>
          have hds' : ds = [.tuple [.str "?", .tuple [.int ((s : Nat) : Int), .int 0], .int k]] := hds
          subst hds'
          exact ⟨none, _, trivial, rfl, _, rfl, rfl⟩
      refine r_setDc (kvs := []) (k := .tuple [.int ((s : Nat) : Int), .int k]) (e := (earP a s k f).e) sd4 (e_call (ss := [.d (fbE (bareO a f)), .l ds]) (a_cons (e_vd rfl) (a_cons (e_vl rfl) a_nil)) hh)
        g1 (e_vd rfl) (.flat _ k) (by simp) d4 (by simp) fun H5 o5 d5 => ?_
      refine ⟨((l2.sm s3).sm s4).offD o5 d4, ?_⟩
      have sm5 : Same H H5 := o5.same (((s1.trans s2).trans s3).trans s4) n1
      have sd5 := sd4.offD o5 d4 rfl
      have sdx := SD.dx (i := 2) sd5 rfl d5
      have hR : RFilled P w K 4 [.d p.e, .x (isDc P w K ([] ++ [(.tuple [.int ((s : Nat) : Int), .int k], (earP a s k f).e)]))] (.d (Pat.sub (earP a s k f) p).e) := ⟨p, earP a s k f, _, hd4, hk, fun q hq => by
        rw [hat] at hq
        cases hq
        exact ⟨.flat _ k, by simp⟩, rfl, rfl⟩
      refine r_ret (e_call (a_cons (e_vd rfl) (a_cons (e_vx rfl) a_nil)) hR) sdx fun v H6 s6 hv => ?_
      exact le.rt v H6 _ (sm5.trans s6) hv rfl
/-! ### pattern_of -/
def RPatternOf (ss : Sls) (s : Sl) : Prop := ∃ (B : LB) (st : Nat) (p : Pat), B.ok ∧ B.rs[st]? = some p ∧ ((ss = [.d B.e, .d (.int (st : Nat)), .d (.str B.I.l)] ∧ s = .d (Pat.lf B.a).e) ∨ (ss = [.d B.e, .d (.int (st : Nat)), .d (.str B.I.k)] ∧ s = .d p.e))
theorem rows_at {B : LB} {st : Nat} {p : Pat} (h : B.rs[st]? = some p) : (B.rs.map B.rowE)[((st : Nat) : Int).toNat]? = some (B.rowE p) := by rw [Int.toNat_natCast, List.getElem?_map, h]; rfl
theorem ok_pattern_of (T : Top K mg) : GOk P w K mg base 1 "pattern_of" ["book", "state", "name"] (spD K RPatternOf) := by
  refine g_pure T.d_pattern_of scPatternOf (fun ss s h => ?_) (fun f cdv A outer s H E hr => ⟨_, (pss_cons (ps_set (i := 3) scPatternOf.nd rfl (Or.inl rfl) pe_int)
      (pss_cons (ps_while PassesOwn.never (pt_cmpR op_ne (pe_ix ix_tup (pe_ix ix_tup (pe_ix ix_tup (pv 0) pe_int (fun _ _ => rfl)) (pv 3) (fun _ _ => rfl)) pe_int (fun _ _ => rfl)) (pv 2) (nomark _)) (pss_one (ps_set (i := 3) scPatternOf.nd rfl (Or.inl rfl) (pe_op op_add (pv 3) pe_int))))
      (pss_one (ps_ret (pe_ix ix_tup (pe_ix ix_tup (pe_ix ix_tup (pv 0) pe_int (fun _ _ => rfl)) (pv 1) (fun _ _ => rfl)) (pv 3) (fun _ _ => rfl)))))), fun ss s h => ?_⟩)
  · obtain ⟨B, st, p, _, _, ⟨rfl, _⟩ | ⟨rfl, _⟩⟩ := h <;> rfl
  · obtain ⟨B, st, p, ok, hp, h⟩ := h
    try dsimp only [cxOf]
    rcases h with ⟨rfl, rfl⟩ | ⟨rfl, rfl⟩
    · refine s_seq (s_set (s := .d (.int 0)) (by walk_at "ee") ?_)
      refine s_seq (s_while (fun _ δ => δ = [.d B.e, .d (.int (st : Nat)), .d (.str B.I.l), .d (.int 0)]) 0 rfl fun m δ e => ?_)
      subst e
      refine ⟨!decide (B.I.l = B.I.l), t_T (e_neS (e_ixT (ds := [.str B.I.l, .int 0]) (e_ixT (ds := [B.I.ld, B.I.kd]) (e_ixT (ds := [B.I.e, B.outs, B.head.e, .tuple (B.rs.map B.rowE)]) (e_vd rfl) e_ci (by decide) rfl) (e_vd rfl) (by decide) rfl) e_ci (by decide) rfl) (e_vd rfl)), fun hb => absurd hb (by simp), fun _ => ?_⟩
      exact s_ret (e_ixT (ds := [.tuple [.str B.a], p.e]) (e_ixT (ds := B.rs.map B.rowE) (e_ixT (ds := [B.I.e, B.outs, B.head.e, .tuple (B.rs.map B.rowE)]) (e_vd rfl) e_ci (by decide) rfl) (e_vd rfl) (by omega) (rows_at hp)) (e_vd rfl) (by decide) rfl) rfl
    · refine s_seq (s_set (s := .d (.int 0)) (by walk_at "ee") ?_)
      refine s_seq (s_while (fun m δ => (m = 1 ∧ δ = [.d B.e, .d (.int (st : Nat)), .d (.str B.I.k), .d (.int 0)]) ∨ (m = 0 ∧ δ = [.d B.e, .d (.int (st : Nat)), .d (.str B.I.k), .d (.int 1)])) 1 (.inl ⟨rfl, rfl⟩) fun m δ e => ?_)
      rcases e with ⟨rfl, rfl⟩ | ⟨rfl, rfl⟩
      · refine ⟨!decide (B.I.l = B.I.k), t_T (e_neS (e_ixT (ds := [.str B.I.l, .int 0]) (e_ixT (ds := [B.I.ld, B.I.kd]) (e_ixT (ds := [B.I.e, B.outs, B.head.e, .tuple (B.rs.map B.rowE)]) (e_vd rfl) e_ci (by decide) rfl) (e_vd rfl) (by decide) rfl) e_ci (by decide) rfl) (e_vd rfl)), fun _ => ?_, fun hb => ?_⟩
        · exact s_set (s := .d (.int (0 + 1))) (by walk_at "ee") ⟨0, by decide, .inr ⟨rfl, rfl⟩⟩
        · rw [decide_eq_false ok.I.ne] at hb; cases hb
      · refine ⟨!decide (B.I.k = B.I.k), t_T (e_neS (e_ixT (ds := [.str B.I.k, .int (B.I.m : Nat)]) (e_ixT (ds := [B.I.ld, B.I.kd]) (e_ixT (ds := [B.I.e, B.outs, B.head.e, .tuple (B.rs.map B.rowE)]) (e_vd rfl) e_ci (by decide) rfl) (e_vd rfl) (by decide) rfl) e_ci (by decide) rfl) (e_vd rfl)), fun hb => absurd hb (by simp), fun _ => ?_⟩
        exact s_ret (e_ixT (ds := [.tuple [.str B.a], p.e]) (e_ixT (ds := B.rs.map B.rowE) (e_ixT (ds := [B.I.e, B.outs, B.head.e, .tuple (B.rs.map B.rowE)]) (e_vd rfl) e_ci (by decide) rfl) (e_vd rfl) (by omega) (rows_at hp)) (e_vd rfl) (by decide) rfl) rfl
/-! ### seen_at, peeked_by -/
/-- the name at the outcome's root, from a state at a tree -/
inductive Root (B : LB) : Nat → Tr → Str → Prop
  | leaf {s p} : B.rs[s]? = some p → Root B s [] B.a
  | lf {s k r x} : B.rs[s]? = some (.lf x) → Root B s (k :: r) x
  | g {s k r x p} : B.rs[s]? = some (.g x p) → Root B s (k :: r) x
  | call {s k r s' k' x} : B.rs[s]? = some (.call (.int ((s' : Nat) : Int)) ((k' : Nat) : Int)) → k' < B.I.m → Root B s' (if k' = k then r else []) x → Root B s (k :: r) x
theorem Root.sign {B : LB} (ok : B.ok) {s : Nat} {t : Tr} {x : Str} (h : Root B s t x) : notSign x = true := by
  induction h with
  | leaf _ => exact ok.a.1
  | lf h => exact (ok.rs _ (List.mem_of_getElem? h)).1
  | g h => exact ((ok.rs _ (List.mem_of_getElem? h)).1).1
  | call _ _ _ ih => exact ih
theorem trE_if {I : Ins} {k k' : Nat} {r : Tr} : (if k' = k then trE I r else I.leaf) = trE I (if k' = k then r else []) := by by_cases h : k' = k <;> simp [h, trE]
def RSeen (ss : Sls) (s : Sl) : Prop := ∃ (B : LB) (st : Nat) (t : Tr) (x : Str), B.ok ∧ Root B st t x ∧ ss = [.d B.e, .d (Pat.call (.int (st : Nat)) 0).e, .d (.tuple [trE B.I t]), .d (.tuple [])] ∧ s = .d (.str x)
theorem root_row {B : LB} {s : Nat} {t : Tr} {x : Str} (h : Root B s t x) : ∃ p, B.rs[s]? = some p := by
  cases h with
  | leaf h => exact ⟨_, h⟩
  | lf h => exact ⟨_, h⟩
  | g h => exact ⟨_, h⟩
  | call h _ _ => exact ⟨_, h⟩
theorem pat_ok_e {p : Pat} : ∃ x r, p.e = .tuple (.str x :: r) := by
  cases p with
  | lf x => exact ⟨x, [], rfl⟩
  | call s k => exact ⟨"?", _, rfl⟩
  | g x p => exact ⟨x, _, rfl⟩
theorem ok_seen_at (T : Top K mg) (g_pattern_of : GOk P w K mg base 1 "pattern_of" ["book", "state", "name"] (spD K RPatternOf)) : GOk P w K mg base 2 "seen_at" ["book", "pattern", "trees", "place"] (spD K RSeen) := by
  refine g_pure T.d_seen_at scSeenAt (fun ss s h => ?_) (fun f cdv A outer s H E hr => ⟨_, (pss_cons (ps_set (i := 4) scSeenAt.nd rfl (Or.inl rfl) pe_int)
      (pss_cons (ps_while PassesOwn.never (PW.pt (pw_or (pt_cmpR op_eq (pe_ix ix_tup (pv 1) pe_int (fun _ _ => rfl)) (pe_gS rfl T.c_CALL) (nomark _)) (pw_or1 (pt_cmpR op_lt (pv 4) (pe_callB call_len_seq (by rfl) T.b_len PySem.boot_len (pa_cons (pv 3) pa_nil)) (nomark _))))) (pss_one (ps_if (pt_cmpR op_eq (pe_ix ix_tup (pv 1) pe_int (fun _ _ => rfl)) (pe_gS rfl T.c_CALL) (nomark _)) (pss_cons (ps_set (i := 5) scSeenAt.nd rfl (Or.inl rfl) (pe_ix ix_tup (pv 2) (pe_ix ix_tup (pv 1) pe_int (fun _ _ => rfl)) (fun _ _ => rfl)))
      (pss_cons (ps_set (i := 1) scSeenAt.nd rfl (Or.inl rfl) (pe_g g_pattern_of (hr.mono (by omega)) rfl (pa_cons (pv 0) (pa_cons (pe_ix ix_tup (pv 1) pe_int (fun _ _ => rfl)) (pa_cons (pe_ix ix_tup (pv 5) pe_int (fun _ _ => rfl)) pa_nil)))))
      (pss_one (ps_set (i := 2) scSeenAt.nd rfl (Or.inl rfl) (pe_slice sl_tupA (pv 5) (po_some pe_int) po_none))))) (pss_cons (ps_if (PW.pt (pw_or (pt_cmpR op_lt (pe_ix ix_tup (pv 3) (pv 4) (fun _ _ => rfl)) pe_int (nomark _)) (pw_or1 (pt_cmpR op_ge (pe_ix ix_tup (pv 3) (pv 4) (fun _ _ => rfl)) (pe_op op_sub (pe_callB call_len_seq (by rfl) T.b_len PySem.boot_len (pa_cons (pv 1) pa_nil)) pe_int) (nomark _))))) (pss_one ps_never) pss_nil)
      (pss_cons (ps_set (i := 1) scSeenAt.nd rfl (Or.inl rfl) (pe_ix ix_tup (pv 1) (pe_op op_add (pe_ix ix_tup (pv 3) (pv 4) (fun _ _ => rfl)) pe_int) (fun _ _ => rfl)))
      (pss_one (ps_set (i := 4) scSeenAt.nd rfl (Or.inl rfl) (pe_op op_add (pv 4) pe_int))))))))
      (pss_one (ps_ret (pe_ix ix_tup (pv 1) pe_int (fun _ _ => rfl)))))), fun ss s h => ?_⟩)
  · obtain ⟨B, st, t, x, _, _, rfl, _⟩ := h; rfl
  · obtain ⟨B, st, t, x, ok, hroot, rfl, rfl⟩ := h
    try dsimp only [cxOf]
    refine s_seq (s_set (s := .d (.int 0)) (by walk_at "ee") ?_)
    refine s_seq (s_while (fun m δ => (∃ (s k : Nat) (ds : List PD) (t : Tr) (z : Sl), m = t.length + 1 ∧ Root B s t x ∧ ds[k]? = some (trE B.I t) ∧ δ = [.d B.e, .d (Pat.call (.int (s : Nat)) (k : Nat)).e, .d (.tuple ds), .d (.tuple []), .d (.int 0), z]) ∨
      (∃ (r ds : List PD) (z : Sl), m = 0 ∧ δ = [.d B.e, .d (.tuple (.str x :: r)), .d (.tuple ds), .d (.tuple []), .d (.int 0), z])) (t.length + 1) (.inl ⟨st, 0, _, t, .no, rfl, hroot, rfl, rfl⟩) fun m δ e => ?_)
    rcases e with ⟨s, k, ds, t, z, rfl, hr, hds, rfl⟩ | ⟨r, ds, z, rfl, rfl⟩
    · refine ⟨true, (t_or (a := decide (("?" : Str) = "?")) (by walk_at "et") fun _ => by walk_at "et").to (b := true) (by simp), fun _ => ?_, fun hb => by cases hb⟩
      refine s_ifT (by walk_at "et") (by decide) ?_
      refine s_seq (s_set (s := .d (trE B.I t)) (e_ixT (ds := ds) (e_vd rfl) (e_ixT (ds := [.str "?", .int (s : Nat), .int (k : Nat)]) (e_vd rfl) e_ci (by decide) rfl) (by omega) (by rw [Int.toNat_natCast]; exact hds)) ?_)
      obtain ⟨p, hp⟩ := root_row hr
      cases t with
      | nil =>
        have hx : x = B.a := by cases hr; rfl
        subst hx
        refine s_seq (s_set (s := .d (Pat.lf B.a).e) (e_call (ss := [.d B.e, .d (.int (s : Nat)), .d (.str B.I.l)]) (a_cons (e_vd rfl) (a_cons (e_ixT (ds := [.str "?", .int (s : Nat), .int (k : Nat)]) (e_vd rfl) e_ci (by decide) rfl) (a_cons (e_ixT (ds := [.str B.I.l]) (e_vd rfl) e_ci (by decide) rfl) a_nil))) ⟨B, s, p, ok, hp, .inl ⟨rfl, rfl⟩⟩) ?_)
        refine s_set (s := .d (.tuple [])) (e_tail (d := .str B.I.l) (ds := []) (e_vd rfl) e_ci) ⟨0, by omega, .inr ⟨_, _, _, rfl, rfl⟩⟩
      | cons kk r =>
        refine s_seq (s_set (s := .d p.e) (e_call (ss := [.d B.e, .d (.int (s : Nat)), .d (.str B.I.k)]) (a_cons (e_vd rfl) (a_cons (e_ixT (ds := [.str "?", .int (s : Nat), .int (k : Nat)]) (e_vd rfl) e_ci (by decide) rfl) (a_cons (e_ixT (ds := .str B.I.k :: kidsD B.I kk (trE B.I r)) (e_vd rfl) e_ci (by decide) rfl) a_nil))) ⟨B, s, p, ok, hp, .inr ⟨rfl, rfl⟩⟩) ?_)
        have hN : (∃ (s k : Nat) (ds : List PD) (t : Tr), t.length + 1 < (kk :: r).length + 1 ∧ Root B s t x ∧ ds[k]? = some (trE B.I t) ∧ p.e = (Pat.call (.int (s : Nat)) (k : Nat)).e ∧ ds = kidsD B.I kk (trE B.I r)) ∨ ∃ q, p.e = .tuple (.str x :: q) := by
          cases hr with
          | lf h => rw [hp] at h; cases h; exact .inr ⟨[], rfl⟩
          | g h => rw [hp] at h; cases h; exact .inr ⟨_, rfl⟩
          | @call _ _ _ s' k' _ h hk h2 =>
            rw [hp] at h
            cases h
            refine .inl ⟨s', k', _, _, ?_, h2, ?_, rfl, rfl⟩
            · by_cases e : k' = kk <;> simp [e]
            · rw [kidsD_at hk, trE_if]
        rcases hN with ⟨s2, k2, ds2, t2, hlt, hr2, hd2, he, rfl⟩ | ⟨q, he⟩
        · rw [he]
          refine s_set (s := .d (.tuple (kidsD B.I kk (trE B.I r)))) (e_tail (d := .str B.I.k) (e_vd rfl) e_ci) ⟨_, hlt, .inl ⟨s2, k2, _, t2, _, rfl, hr2, hd2, rfl⟩⟩
        · rw [he]
          refine s_set (s := .d (.tuple (kidsD B.I kk (trE B.I r)))) (e_tail (d := .str B.I.k) (e_vd rfl) e_ci) ⟨0, by omega, .inr ⟨_, _, _, rfl, rfl⟩⟩
    · have hx := hroot.sign ok
      refine ⟨false, (t_or (a := decide (x = "?")) (by walk_at "et") fun _ => by walk_at "et").to (b := false) (by rw [notSign_q hx]; rfl), (fun hb => nomatch hb), fun _ => ?_⟩
      walk_at "ret"
def RPeeked (ss : Sls) (s : Sl) : Prop := ∃ (B : LB) (st : Nat) (t : Tr) (x : Str), B.ok ∧ Root B st t x ∧ ss = [.d B.e, .d (.int (st : Nat)), .d (trE B.I t), .d (.tuple [])] ∧ s = .d (.str x)
theorem ok_peeked_by (T : Top K mg) (g_seen_at : GOk P w K mg base 2 "seen_at" ["book", "pattern", "trees", "place"] (spD K RSeen)) : GOk P w K mg base 3 "peeked_by" ["book", "state", "tree", "place"] (spD K RPeeked) := by
  refine g_pure T.d_peeked_by scPeekedBy (fun ss s h => ?_) (fun f cdv A outer s H E hr => ⟨_, (pss_one (ps_ret (pe_g g_seen_at (hr.mono (by omega)) rfl (pa_cons (pv 0) (pa_cons (pe_tup (pa_cons (pe_gS rfl T.c_CALL) (pa_cons (pv 1) (pa_cons pe_int pa_nil)))) (pa_cons (pe_tup (pa_cons (pv 2) pa_nil)) (pa_cons (pv 3) pa_nil))))))), fun ss s h => ?_⟩)
  · obtain ⟨B, st, t, x, _, _, rfl, _⟩ := h; rfl
  · obtain ⟨B, st, t, x, ok, hroot, rfl, rfl⟩ := h
    try dsimp only [cxOf]
    exact s_ret (e_call (ss := [.d B.e, .d (Pat.call (.int (st : Nat)) 0).e, .d (.tuple [trE B.I t]), .d (.tuple [])]) (a_cons (e_vd rfl) (a_cons (e_tup (ss := [.d (.str "?"), .d (.int (st : Nat)), .d (.int 0)]) (a_cons e_cs (a_cons (e_vd rfl) (a_cons e_ci a_nil))) rfl (Nat.le_of_ble_eq_true rfl)) (a_cons (e_tup (ss := [.d (trE B.I t)]) (a_cons (e_vd rfl) a_nil) rfl (Nat.le_of_ble_eq_true rfl)) (a_cons (e_vd rfl) a_nil)))) ⟨B, st, t, x, ok, hroot, rfl, rfl⟩) rfl
end
end K80

namespace K80
open PySem PySem.Spec L2
open PyProof.Rows hiding St
local macro_rules | `(tactic| walk_at "ee") => `(tactic| first
  | ((with_reducible apply e_vd); exact rfl)
  | ((with_reducible apply e_vl); exact rfl)
  | ((with_reducible apply e_vv); exact rfl)
  | (with_reducible exact e_ci)
  | (with_reducible exact e_cs)
  | (with_reducible exact e_cb)
  | (with_reducible exact e_cn)
  | (with_reducible exact e_hole)
  | ((with_reducible apply e_ixT); (walk_at "ee"); (walk_at "ee"); (first | decide | omega); exact rfl)
  | ((with_reducible apply e_ixL); (walk_at "ee"); (walk_at "ee"); (first | decide | omega); exact rfl)
  | ((with_reducible apply e_tup); (walk_at "ea"); (exact rfl); (exact Nat.le_of_ble_eq_true rfl))
  | ((with_reducible apply e_lst); (walk_at "ea"); (exact rfl); (exact Nat.le_of_ble_eq_true rfl))
  | ((with_reducible apply e_lenT); (walk_at "ee"))
  | ((with_reducible apply e_lenL); (walk_at "ee"))
  | ((with_reducible apply e_eqS); (walk_at "ee"); (walk_at "ee"))
  | ((with_reducible apply e_eqI); (walk_at "ee"); (walk_at "ee"))
  | ((with_reducible apply e_neS); (walk_at "ee"); (walk_at "ee"))
  | ((with_reducible apply e_neI); (walk_at "ee"); (walk_at "ee"))
  | ((with_reducible apply e_i0); (walk_at "ee"); (walk_at "ee"))
  | ((with_reducible apply e_b0); (walk_at "ee"); (walk_at "ee"))
  | ((with_reducible apply e_isN); (walk_at "ee"))
  | ((with_reducible apply e_notN); (walk_at "ee"))
  | ((with_reducible apply e_tupOf); (walk_at "ee"))
  | ((with_reducible apply e_tail); (walk_at "ee"); (walk_at "ee"))
  | ((with_reducible apply e_call); (walk_at "ea"); (walk_at "own"))
  | ((with_reducible apply e_cat); (walk_at "ee"); (walk_at "ee"); (exact Nat.le_of_ble_eq_true rfl))
  | ((with_reducible apply e_andV); (walk_at "ee"); intro _; (walk_at "ee"))
  | walk_at "ee2")
local macro_rules | `(tactic| walk_at "ea") => `(tactic| first | (with_reducible exact a_nil) | ((with_reducible apply a_cons); (walk_at "ee"); (walk_at "ea")))
local macro_rules | `(tactic| walk_at "et") => `(tactic| first
  | ((with_reducible apply t_B); (walk_at "ee"))
  | ((with_reducible apply t_T); (walk_at "ee"))
  | ((with_reducible apply t_not); (walk_at "et")))
local macro_rules | `(tactic| walk_at "own") => `(tactic| fail "own")
local macro_rules | `(tactic| walk_at "ee2") => `(tactic| fail "ee2")
local macro_rules | `(tactic| walk_at "ret") => `(tactic| ((with_reducible apply s_ret); (walk_at "ee"); exact rfl))
local macro_rules | `(tactic| walk_at "retS") => `(tactic| ((with_reducible apply s_ret); (walk_at "ee"); rotate_left))

local macro_rules | `(tactic| walk_at "own") => `(tactic| first
  | exact ⟨_, _, rfl, rfl⟩
  | exact ⟨_, _, _, _, rfl, rfl⟩
  | (refine ⟨_, ?_, ?_, rfl, rfl⟩; (first | omega | assumption); assumption))
local macro_rules | `(tactic| walk_at "ee2") => `(tactic| first
  | ((with_reducible apply e_vx); exact rfl)
  | ((with_reducible apply e_vxl); exact rfl))
/-! ### more steps -/
section
variable {P : Program} {w : World} {K : PySem.W.Frag} {δ δ2 : Sls} {te ti ts : TE} {D : Ends} {σ : L2.St} {H H' : Hp} {t u : TS} {p d : Addr} {ds es : List PD} {kvs : List (PD × PD)} {g : TG} {js vs : List Nat} {tb : TS}
theorem r_callR {sp : Sp} {E : XK} {ta : TA} {ss : Sls} {j : Nat} (ha : Ea K ta δ ss) (sd : SD K H σ δ) (k : ∀ vs H', Same H H' → SlAll K H' vs ss → sp vs H' (fun v H2 => u D (σ.set j (some v)) H2) E) : tSeq (tAsg (tCall sp [] E ta) (gName j)) u D σ H := by
  refine ha σ H _ sd fun vs H1 s1 h => ?_
  show sp (vs ++ []) H1 _ E
  rw [List.append_nil]
  exact k vs H1 s1 h
theorem r_callD {sp : Sp} {E : XK} {ta : TA} {ss : Sls} (ha : Ea K ta δ ss) (sd : SD K H σ δ) (k : ∀ vs H', Same H H' → SlAll K H' vs ss → sp vs H' (fun v H2 => D.nx σ H2) E) : tDrop (tCall sp [] E ta) D σ H := by
  refine ha σ H _ sd fun vs H1 s1 h => ?_
  show sp (vs ++ []) H1 _ E
  rw [List.append_nil]
  exact k vs H1 s1 h
theorem r_seqIf {c : TT} {b : Bool} {v : TS} (hc : Et K c δ b) (sd : SD K H σ δ) (h1 : b = true → ∀ H', Same H H' → t { D with nx := v D } σ H') (h2 : b = false → ∀ H', Same H H' → u { D with nx := v D } σ H') : tSeq (tIfS c t u) v D σ H := r_ifS hc sd h1 h2
theorem g_noneS {mg : Str → Option Value} {base : Heap} {x : Str} {st : Stmt} {ps : List Str} {k : Nat} {sp : Sp} (G : GDef K mg x st ps) (h : ∀ vs H Q E, ¬ sp vs H Q E) : GOk P w K mg base k x ps sp := by
  obtain ⟨f, fd, h1, h2, F⟩ := G
  refine ⟨f, fd, h1, F.kp, h2, ⟨fun vs H Q E q => (h _ _ _ _ q).elim, fun A outer s H args us vs Q E _ _ _ _ q => (h _ _ _ _ q).elim⟩⟩
/-- for over the list at p, at the heap -/
theorem r_forP (he : Ee K te δ (.v (.ref p))) (sd : SD K H σ δ) (hp : Ls K H p ds) (k : ∀ H1, Same H H1 → ∃ Pv : Nat → L2.St → Hp → Prop, Pv 0 σ H1 ∧ (∀ i σ' H', Pv i σ' H' → Ls K H' p ds) ∧
    (∀ (i : Nat) d v σ' H', ds[i]? = some d → Tp K H' v d → Pv i σ' H' → g v σ' H' fun σ2 H2 => tb { D with nx := Pv (i + 1), ct := Pv (i + 1), bk := D.nx } σ2 H2) ∧ (∀ σ' H', Pv ds.length σ' H' → D.nx σ' H')) : tFor (iList K te) g tb D σ H := by
  refine he σ H _ sd fun v H1 s1 e1 => ?_
  cases e1
  obtain ⟨Pv, h0, hl, hs, hd⟩ := k H1 s1
  obtain ⟨xs, h1, h2⟩ := hp.sm s1
  refine ⟨p, rfl, ⟨_, SqL.of h1⟩, ?_⟩
  refine ⟨fun i m σ' H' => m = ds.length - i ∧ i ≤ ds.length ∧ Pv i σ' H', ⟨_, rfl, Nat.zero_le _, h0⟩, ?_⟩
  rintro i m σ' H' ⟨rfl, hi, pv⟩
  obtain ⟨ys, q1, q2⟩ := hl i σ' H' pv
  by_cases hlt : i < ds.length
  · have hd' : ds[i]? = some ds[i] := List.getElem?_eq_getElem hlt
    obtain ⟨v, e1, e2⟩ := q2.get hd'
    refine .inr ⟨⟨ys, v, SqL.of q1, e1⟩, Pv (i + 1), fun σ3 H3 p3 => ⟨ds.length - (i + 1), by omega, rfl, hlt, p3⟩, fun x H3 hy => ?_⟩
    obtain ⟨rfl, f⟩ := hy
    have ex : x = v := Option.some.inj ((f ys (SqL.of q1)).symm.trans e1)
    subst ex
    exact hs i _ x σ' _ hd' e2 pv
  · have e : i = ds.length := by omega
    subst e
    exact .inl ⟨⟨ys, SqL.of q1, by rw [q2.length]; exact Nat.le_refl _⟩, hd σ' H' pv⟩
theorem r_forP0 (he : Ee K te δ (.v (.ref p))) (sd : SD K H σ δ) (hp : Ls K H p []) (k : ∀ H', Same H H' → D.nx σ H') : tFor (iList K te) g tb D σ H :=
  r_forP he sd hp fun H1 s1 => ⟨fun i σ' H' => i = 0 ∧ σ' = σ ∧ H' = H1, ⟨rfl, rfl, rfl⟩, fun i σ' H' h => by rw [h.2.2]; exact hp.sm s1, fun i d v σ' H' h => by simp at h, fun σ' H' h => by rw [h.2.1, h.2.2]; exact k H1 s1⟩
theorem r_forP1 {d : PD} (he : Ee K te δ (.v (.ref p))) (hg : Eg K g js (.d d) δ δ2) (sd : SD K H σ δ) (hp : Ls K H p [d])
    (k : ∀ σ' H', Same H H' → SD K H' σ' δ2 → tb { D with nx := fun σ2 H2 => Ls K H2 p [d] ∧ D.nx σ2 H2, ct := fun σ2 H2 => Ls K H2 p [d] ∧ D.nx σ2 H2, bk := D.nx } σ' H') : tFor (iList K te) g tb D σ H := by
  refine r_forP he sd hp fun H1 s1 => ⟨fun i σ' H' => (i = 0 ∧ σ' = σ ∧ H' = H1) ∨ (i = 1 ∧ Ls K H' p [d] ∧ D.nx σ' H'), .inl ⟨rfl, rfl, rfl⟩, fun i σ' H' h => ?_, fun i d' v σ' H' hd tv h => ?_, fun σ' H' h => ?_⟩
  · rcases h with ⟨_, _, h⟩ | ⟨_, h, _⟩
    · rw [h]; exact hp.sm s1
    · exact h
  · match i, hd with
    | 0, hd =>
      have e0 : d = d' := by simpa using hd
      subst e0
      rcases h with ⟨_, rfl, rfl⟩ | ⟨z, _⟩
      · refine hg σ' H' v _ (sd.sm s1) ⟨v, rfl, tv⟩ fun σ2 sd2 _ => ?_
        have q := k σ2 H' s1 sd2
        have e : (fun (σ2 : L2.St) (H2 : Hp) => (0 + 1 = 0 ∧ σ2 = σ' ∧ H2 = H') ∨ (0 + 1 = 1 ∧ Ls K H2 p [d] ∧ D.nx σ2 H2)) = fun σ2 H2 => Ls K H2 p [d] ∧ D.nx σ2 H2 := by
          funext σ2 H2
          simp
        exact Eq.mpr (congrArg (fun (f : L2.St → Hp → Prop) => tb { D with nx := f, ct := f, bk := D.nx } σ2 H') e) q
      · cases z
    | i + 1, hd => simp at hd
  · rcases h with ⟨z, _⟩ | ⟨_, _, h⟩
    · cases z
    · exact h
/-- all but a list and a dict stays -/
def Off2 (p d : Addr) (H H' : Hp) : Prop := ∀ b o, b ≠ p → b ≠ d → H b = some o → H' b = some o
theorem Off2.of (s : Same H H') : Off2 p d H H' := fun b o _ _ h => s b o h
theorem Off2.ofP (s : Off p H H') : Off2 p d H H' := fun b o n _ h => s b o n h
theorem Off2.ofD (s : Off d H H') : Off2 p d H H' := fun b o _ n h => s b o n h
theorem Off2.trans {H1 H2 : Hp} (a : Off2 p d H H1) (b : Off2 p d H1 H2) : Off2 p d H H2 := fun c o n m h => b c o n m (a c o n m h)
theorem Off2.same {H0 : Hp} (s : Same H0 H) (n : H0 p = none) (m : H0 d = none) (o : Off2 p d H H') : Same H0 H' := fun b u h => o b u (ne_of_none h n) (ne_of_none h m) (s b u h)
theorem Off2.tk (o : Off2 p d H H') (hp : Ls K H p ds) (hd : Dc P w K H d kvs) : Tk H H' := fun a ys r => by
  obtain ⟨xs, h1, _⟩ := hp
  obtain ⟨zs, h2, _⟩ := hd
  rcases r with r | ⟨ob, r⟩
  · exact .inl (o a _ (fun z => by rw [z, h1] at r; cases r) (fun z => by rw [z, h2] at r; cases r) r)
  · exact .inr ⟨ob, o a _ (fun z => by rw [z, h1] at r; cases r) (fun z => by rw [z, h2] at r; cases r) r⟩
theorem Dc.offL (h : Dc P w K H d kvs) (o : Off p H H') (hp : Ls K H p ds) : Dc P w K H' d kvs := by
  obtain ⟨xs, h1, _⟩ := hp
  exact h.off o h1
end
section
variable {P : Program} {w : World} {K : PySem.W.Frag} {mg : Str → Option Value} {base : Heap}
/-! ### side_by_side -/
def Pat.hd : Pat → Str
  | .lf x => x
  | .call _ _ => "?"
  | .g x _ => x
def Pat.tl : Pat → List PD
  | .lf _ => []
  | .call s k => [s, .int k]
  | .g _ p => [p.e]
def Pat.kid : Pat → Int
  | .call _ k => k
  | _ => 0
theorem Pat.e_eq : ∀ p : Pat, p.e = .tuple (.str p.hd :: p.tl)
  | .lf _ => rfl
  | .call _ _ => rfl
  | .g _ _ => rfl
/-- two patterns side by side: where they part, and the call that both have -/
def sbs : Pat → Pat → Nat → Option Nat × Option (Nat × PD × PD × Int)
  | .call s k, .call s' k', m => if k = k' then (none, some (m, s, s', k)) else (some m, none)
  | .lf x, .lf y, m => (if x = y then none else some m, none)
  | .g x p, .g y q, m => if x = y then sbs p q (m + 1) else (some m, none)
  | _, _, m => (some m, none)
def sbE : Option (Nat × PD × PD × Int) → List PD
  | none => []
  | some (m, s, s', k) => [.tuple [zeros m, (Pat.call s k).e, (Pat.call s' k).e]]
def plE : Option Nat → PD
  | none => .none
  | some m => zeros m
def both (p q : Pat) : Bool := decide (p.hd = "?") && (decide (q.hd = "?") && decide (p.kid = q.kid))
def alikeP (p q : Pat) : Bool := likeB p.hd (p.tl.length + 1) q.hd (q.tl.length + 1)
theorem hd_call {p : Pat} (h : p.ok) (e : p.hd = "?") : ∃ s k, p = .call s k := by
  cases p with
  | lf x =>
    have q := notSign_q (x := x) h
    exact absurd e (of_decide_eq_false q)
  | call s k => exact ⟨s, k, rfl⟩
  | g x p =>
    have q := notSign_q (x := x) h.1
    exact absurd e (of_decide_eq_false q)
theorem both_true {p q : Pat} (h1 : p.ok) (h2 : q.ok) (h : both p q = true) : ∃ s s' k, p = .call s k ∧ q = .call s' k := by
  unfold both at h
  rw [Bool.and_eq_true, Bool.and_eq_true, decide_eq_true_eq, decide_eq_true_eq, decide_eq_true_eq] at h
  obtain ⟨s, k, rfl⟩ := hd_call h1 h.1
  obtain ⟨s', k', rfl⟩ := hd_call h2 h.2.1
  have e : k = k' := h.2.2
  subst e
  exact ⟨s, s', k, rfl, rfl⟩
theorem alike_true {p q : Pat} (h1 : p.ok) (h2 : q.ok) (h : alikeP p q = true) : (∃ x, p = .lf x ∧ q = .lf x) ∨ ∃ x p' q', p = .g x p' ∧ q = .g x q' := by
  unfold alikeP likeB at h
  rw [Bool.and_eq_true, Bool.and_eq_true, decide_eq_true_eq, decide_eq_true_eq] at h
  obtain ⟨h3, h4, h5⟩ := h
  cases p with
  | call s k => cases h3
  | lf x =>
    cases q with
    | lf y => exact .inl ⟨x, rfl, by rw [show x = y from h4]⟩
    | call s k => simp [Pat.tl] at h5
    | g y q => simp [Pat.tl] at h5
  | g x p =>
    cases q with
    | g y q => exact .inr ⟨x, p, q, rfl, by rw [show x = y from h4]⟩
    | call s k => simp [Pat.tl] at h5
    | lf y => simp [Pat.tl] at h5
theorem sbs_part {p q : Pat} {m : Nat} (h1 : p.ok) (h2 : both p q = false) (h3 : alikeP p q = false) : sbs p q m = (some m, none) := by
  cases p with
  | lf x =>
    cases q with
    | lf y =>
      by_cases e : x = y
      · subst e
        have h1' : notSign x = true := h1
        simp [alikeP, likeB, Pat.hd, Pat.tl, h1'] at h3
      · show ((if x = y then none else some m), none) = _
        rw [if_neg e]
    | call s k => rfl
    | g y q => rfl
  | call s k =>
    cases q with
    | lf y => rfl
    | call s' k' =>
      by_cases e : k = k'
      · subst e
        simp [both, Pat.hd, Pat.kid] at h2
      · show (if k = k' then _ else _) = _
        rw [if_neg e]
    | g y q => rfl
  | g x p =>
    cases q with
    | lf y => rfl
    | call s k => rfl
    | g y q =>
      by_cases e : x = y
      · subst e
        have h1' : notSign x = true := h1.1
        simp [alikeP, likeB, Pat.hd, Pat.tl, h1'] at h3
      · show (if x = y then _ else _) = _
        rw [if_neg e]
def spSbs (K : PySem.W.Frag) (n : Nat) : Sp := fun vs H Q _ => ∃ (p q : Pat) (m : Nat) (a : Addr) (ds : List PD), SlAll K H vs [.d p.e, .d q.e, .d (zeros m), .v (.ref a)] ∧ p.dep < n ∧ p.ok ∧ q.ok ∧ m + n ≤ 1000 ∧ Ls K H a ds ∧ ds.length < 1000 ∧
  ∀ v H', Off a H H' → Ls K H' a (ds ++ sbE (sbs p q m).2) → SlAt K H' (some v) (.d (plE (sbs p q m).1)) → Q v H'
theorem st_side_by_side {n : Nat} (T : Top K mg) (g_like_knots : GOk P w K mg base 2 "like_knots" ["one", "two"] (spD K RLike)) (g_side_by_side : GOk P w K mg base (n + 2) "side_by_side" ["one", "two", "place", "calls"] (spSbs K n)) :
    GOk P w K mg base (n + 3) "side_by_side" ["one", "two", "place", "calls"] (spSbs K (n + 1)) := by
  refine g_ok T.d_side_by_side scSideBySide (fun vs H Q E h => ?_) (fun fn cdv A outer s H vs Q E hr h => ⟨_, (pss_cons (ps_if (PW.pt (pw_and (pt_cmpR op_eq (pe_ix ix_tup (pv 0) pe_int (fun _ _ => rfl)) (pe_gS rfl T.c_CALL) (nomark _)) (pw_and (pt_cmpR op_eq (pe_ix ix_tup (pv 1) pe_int (fun _ _ => rfl)) (pe_gS rfl T.c_CALL) (nomark _)) (pw_and1 (pt_cmpR op_eq (pe_ix ix_tup (pv 0) pe_int (fun _ _ => rfl)) (pe_ix ix_tup (pv 1) pe_int (fun _ _ => rfl)) (nomark _)))))) (pss_cons (ps_expr (pe_bm PySem.F.plainAttrs_list PySem.F.slot_list_append PySem.F.type_list_append mt_append (pv 3) (pa_cons (pe_tup (pa_cons (pv 2) (pa_cons (pv 0) (pa_cons (pv 1) pa_nil)))) pa_nil)))
      (pss_one (ps_ret pe_non))) pss_nil)
      (pss_cons (ps_if (pt_not (pt_val (pe_g g_like_knots (hr.mono (by omega)) rfl (pa_cons (pv 0) (pa_cons (pv 1) pa_nil))))) (pss_one (ps_ret (pv 2))) pss_nil)
      (pss_cons (ps_for PassesOwn.never rfl (pi_range2 rfl T.b_range (pa_cons pe_int (pa_cons (pe_callB call_len_seq (by rfl) T.b_len PySem.boot_len (pa_cons (pv 0) pa_nil)) pa_nil))) (pg_name (i := 4) scSideBySide.nd rfl (Or.inl rfl)) (pss_cons (ps_set (i := 5) scSideBySide.nd rfl (Or.inl rfl) (pe_g g_side_by_side (hr.mono (by omega)) rfl (pa_cons (pe_ix ix_tup (pv 0) (pv 4) (fun _ _ => rfl)) (pa_cons (pe_ix ix_tup (pv 1) (pv 4) (fun _ _ => rfl)) (pa_cons (pe_op op_catA (pv 2) (pe_tup (pa_cons (pe_op op_sub (pv 4) pe_int) pa_nil))) (pa_cons (pv 3) pa_nil))))))
      (pss_one (ps_if (pt_cmp (pc_notN (pv 5))) (pss_one (ps_ret (pv 5))) pss_nil))))
      (pss_one (ps_ret pe_non))))), ?_⟩)
  · obtain ⟨p, q, m, a, ds, h1, _⟩ := h
    exact h1.length
  · obtain ⟨p, q, m, a, ds, h1, hdn, hp, hq, hm, hl, hds, k⟩ := h
    try dsimp only [cxOf]
    have sd := sd_st (N := nSideBySide) h1
    have ep := p.e_eq
    have eq := q.e_eq
    have d0 : Ee K (tVar 0) [.d p.e, .d q.e, .d (zeros m), .v (.ref a), .no, .no] (.d (.tuple (.str p.hd :: p.tl))) := by rw [← ep]; exact e_vd rfl
    have d1 : Ee K (tVar 1) [.d p.e, .d q.e, .d (zeros m), .v (.ref a), .no, .no] (.d (.tuple (.str q.hd :: q.tl))) := by rw [← eq]; exact e_vd rfl
    refine r_seqIf (b := both p q) (t_and (t_T (e_eqS (e_ixT d0 e_ci (by decide) rfl) e_cs)) fun b1 => t_and (t_T (e_eqS (e_ixT d1 e_ci (by decide) rfl) e_cs)) fun b2 => ?_) sd (fun hb H1 s1 => ?_) (fun hb H1 s1 => ?_)
    · obtain ⟨s, k1, rfl⟩ := hd_call hp (of_decide_eq_true b1)
      obtain ⟨s', k2, rfl⟩ := hd_call hq (of_decide_eq_true b2)
      exact t_T (e_eqI (e_ixT (ds := [.str "?", s, .int k1]) (e_vd rfl) e_ci (by decide) rfl) (e_ixT (ds := [.str "?", s', .int k2]) (e_vd rfl) e_ci (by decide) rfl))
    · -- both are calls
      obtain ⟨s, s', kk, rfl, rfl⟩ := both_true hp hq hb
      have e : sbs (.call s kk) (.call s' kk) m = (none, some (m, s, s', kk)) := by unfold sbs; rw [if_pos rfl]
      rw [e] at k
      refine r_append (D := { nx := _, rt := Q }) (p := a) (ds := ds) (e := .tuple [zeros m, (Pat.call s kk).e, (Pat.call s' kk).e]) (sd.sm s1) rfl (e_tup (ss := [.d (zeros m), .d (Pat.call s kk).e, .d (Pat.call s' kk).e]) (a_cons (e_vd rfl) (a_cons (e_vd rfl) (a_cons (e_vd rfl) a_nil))) rfl (Nat.le_of_ble_eq_true rfl)) (hl.sm s1) (by omega) rfl fun H2 o2 l2 sd2 => ?_
      exact k .non H2 ((Off.of s1).trans o2) l2 ⟨_, rfl, .non⟩
    · refine r_seqIf (b := !alikeP p q) (t_not (t_B (e_call (ss := [.d (.tuple (.str p.hd :: p.tl)), .d (.tuple (.str q.hd :: q.tl))]) (a_cons d0 (a_cons d1 a_nil)) ⟨p.hd, p.tl, q.hd, q.tl, rfl, rfl⟩))) (sd.sm s1) (fun hb2 H2 s2 => ?_) (fun hb2 H2 s2 => ?_)
      · -- they part here
        have hb3 : alikeP p q = false := by cases e : alikeP p q <;> simp [e] at hb2 ⊢
        rw [sbs_part hp hb hb3] at k
        refine r_ret (D := { nx := _, rt := Q }) (e_vd rfl) ((sd.sm s1).sm s2) fun v H3 s3 hv => ?_
        refine k v H3 (Off.of ((s1.trans s2).trans s3)) ?_ hv
        show Ls K H3 a (ds ++ [])
        rw [List.append_nil]
        exact hl.sm ((s1.trans s2).trans s3)
      · have hb3 : alikeP p q = true := by cases e : alikeP p q <;> simp [e] at hb2 ⊢
        rcases alike_true hp hq hb3 with ⟨x, rfl, rfl⟩ | ⟨x, p', q', rfl, rfl⟩
        · have e : sbs (.lf x) (.lf x) m = (none, none) := by unfold sbs; rw [if_pos rfl]
          rw [e] at k
          refine r_for0 (lo := 1) (hi := (([PD] : List _).length : Nat)) (a_cons e_ci (a_cons (e_lenT (ds := [.str x]) (e_vd rfl)) a_nil)) ((sd.sm s1).sm s2) (by decide) (by simp) (by simp) fun H3 s3 => ?_
          refine k .non H3 (Off.of ((s1.trans s2).trans s3)) ?_ ⟨_, rfl, .non⟩
          show Ls K H3 a (ds ++ [])
          rw [List.append_nil]
          exact hl.sm ((s1.trans s2).trans s3)
        · have e : sbs (.g x p') (.g x q') m = sbs p' q' (m + 1) := by
            show (if x = x then _ else _) = _
            rw [if_pos rfl]
          rw [e] at k
          have hd2 : p'.dep + 1 < n + 1 := hdn
          refine r_for1 (lo := 1) (hi := 2) (js := [4]) (a_cons e_ci (a_cons (e_lenT (ds := [.str x, p'.e]) (e_vd rfl)) a_nil)) ((sd.sm s1).sm s2) (by decide) (by decide) rfl g_name fun σ3 H3 s3 sd3 => ?_
          have l3 := ((hl.sm s1).sm s2).sm s3
          refine r_callR (ss := [.d p'.e, .d q'.e, .d (zeros (m + 1)), .v (.ref a)]) (a_cons (e_ixT (ds := [.str x, p'.e]) (e_vd rfl) (e_vd rfl) (by decide) rfl) (a_cons (e_ixT (ds := [.str x, q'.e]) (e_vd rfl) (e_vd rfl) (by decide) rfl)
            (a_cons ((e_cat (ds := List.replicate m (.int 0)) (es := [.int 0]) (e_vd rfl) (e_tup (ss := [.d (.int (1 - 1))]) (a_cons (e_i0 (e_vd rfl) e_ci) a_nil) rfl (Nat.le_of_ble_eq_true rfl)) (by rw [List.length_replicate]; simp; omega)).to (by unfold zeros; rw [List.replicate_succ'])) (a_cons (e_vv rfl) a_nil)))) sd3 fun vs4 H4 s4 h4 => ?_
          refine ⟨p', q', m + 1, a, ds, h4, by omega, hp.2, hq.2, by omega, l3.sm s4, hds, fun v H5 o5 l5 hv => ?_⟩
          have sd5 : SD K H5 (σ3.set 5 (some v)) [.d (Pat.g x p').e, .d (Pat.g x q').e, .d (zeros m), .v (.ref a), .d (.int 1), .d (plE (sbs p' q' (m + 1)).1)] := SD.set hv 5 ((sd3.sm s4).off o5 (l3.sm s4) rfl)
          have o05 : Off a H H5 := (Off.of (((s1.trans s2).trans s3).trans s4)).trans o5
          cases e2 : (sbs p' q' (m + 1)).1 with
          | none =>
            rw [e2] at sd5 k
            refine r_ifS (t_T (e_notN (d := .none) (e_vd rfl))) sd5 (fun z => nomatch z) (fun _ H6 s6 => ?_)
            exact k .non H6 (o05.trans (Off.of s6)) (l5.sm s6) ⟨_, rfl, .non⟩
          | some mm =>
            rw [e2] at sd5 k
            refine r_ifS (t_T (e_notN (d := zeros mm) (e_vd rfl))) sd5 (fun _ H6 s6 => ?_) (fun z => nomatch z)
            refine r_ret (e_vd rfl) (sd5.sm s6) fun v H7 s7 hv => ?_
            exact k v H7 (o05.trans (Off.of (s6.trans s7))) ((l5.sm s6).sm s7) hv
theorem ok_side_by_side (T : Top K mg) (g_like_knots : GOk P w K mg base 2 "like_knots" ["one", "two"] (spD K RLike)) : ∀ n, GOk P w K mg base (n + 2) "side_by_side" ["one", "two", "place", "calls"] (spSbs K n)
  | 0 => g_noneS T.d_side_by_side fun vs H Q E h => by obtain ⟨p, q, m, a, ds, _, h, _⟩ := h; omega
  | n + 1 => st_side_by_side T g_like_knots (ok_side_by_side T g_like_knots n)
end
end K80

namespace K80
open PySem PySem.Spec L2
open PyProof.Rows hiding St
local macro_rules | `(tactic| walk_at "ee") => `(tactic| first
  | ((with_reducible apply e_vd); exact rfl)
  | ((with_reducible apply e_vl); exact rfl)
  | ((with_reducible apply e_vv); exact rfl)
  | (with_reducible exact e_ci)
  | (with_reducible exact e_cs)
  | (with_reducible exact e_cb)
  | (with_reducible exact e_cn)
  | (with_reducible exact e_hole)
  | ((with_reducible apply e_ixT); (walk_at "ee"); (walk_at "ee"); (first | decide | omega); exact rfl)
  | ((with_reducible apply e_ixL); (walk_at "ee"); (walk_at "ee"); (first | decide | omega); exact rfl)
  | ((with_reducible apply e_tup); (walk_at "ea"); (exact rfl); (exact Nat.le_of_ble_eq_true rfl))
  | ((with_reducible apply e_lst); (walk_at "ea"); (exact rfl); (exact Nat.le_of_ble_eq_true rfl))
  | ((with_reducible apply e_lenT); (walk_at "ee"))
  | ((with_reducible apply e_lenL); (walk_at "ee"))
  | ((with_reducible apply e_eqS); (walk_at "ee"); (walk_at "ee"))
  | ((with_reducible apply e_eqI); (walk_at "ee"); (walk_at "ee"))
  | ((with_reducible apply e_neS); (walk_at "ee"); (walk_at "ee"))
  | ((with_reducible apply e_neI); (walk_at "ee"); (walk_at "ee"))
  | ((with_reducible apply e_i0); (walk_at "ee"); (walk_at "ee"))
  | ((with_reducible apply e_b0); (walk_at "ee"); (walk_at "ee"))
  | ((with_reducible apply e_isN); (walk_at "ee"))
  | ((with_reducible apply e_notN); (walk_at "ee"))
  | ((with_reducible apply e_tupOf); (walk_at "ee"))
  | ((with_reducible apply e_tail); (walk_at "ee"); (walk_at "ee"))
  | ((with_reducible apply e_call); (walk_at "ea"); (walk_at "own"))
  | ((with_reducible apply e_cat); (walk_at "ee"); (walk_at "ee"); (exact Nat.le_of_ble_eq_true rfl))
  | ((with_reducible apply e_andV); (walk_at "ee"); intro _; (walk_at "ee"))
  | walk_at "ee2")
local macro_rules | `(tactic| walk_at "ea") => `(tactic| first | (with_reducible exact a_nil) | ((with_reducible apply a_cons); (walk_at "ee"); (walk_at "ea")))
local macro_rules | `(tactic| walk_at "et") => `(tactic| first
  | ((with_reducible apply t_B); (walk_at "ee"))
  | ((with_reducible apply t_T); (walk_at "ee"))
  | ((with_reducible apply t_not); (walk_at "et")))
local macro_rules | `(tactic| walk_at "own") => `(tactic| fail "own")
local macro_rules | `(tactic| walk_at "ee2") => `(tactic| fail "ee2")
local macro_rules | `(tactic| walk_at "ret") => `(tactic| ((with_reducible apply s_ret); (walk_at "ee"); exact rfl))
local macro_rules | `(tactic| walk_at "retS") => `(tactic| ((with_reducible apply s_ret); (walk_at "ee"); rotate_left))

local macro_rules | `(tactic| walk_at "own") => `(tactic| first
  | exact ⟨_, _, rfl, rfl⟩
  | exact ⟨_, _, _, _, rfl, rfl⟩
  | (refine ⟨_, ?_, ?_, rfl, rfl⟩; (first | omega | assumption); assumption))
local macro_rules | `(tactic| walk_at "ee2") => `(tactic| first
  | ((with_reducible apply e_vx); exact rfl)
  | ((with_reducible apply e_vxl); exact rfl))
local macro_rules | `(tactic| walk_at "wk") => `(tactic| first
  | exact Wk.nil
  | ((apply Wk.same); (walk_at "wk"))
  | ((apply Wk.no); (walk_at "wk")))
section
variable {P : Program} {w : World} {K : PySem.W.Frag} {mg : Str → Option Value} {base : Heap}
/-! ### the rows of met pairs -/
structure Row where
  x : Nat
  y : Nat
  came : Option Nat
  kid : Nat
  dep : Nat
def cA : Option Nat → PD
  | none => .none
  | some a => .int (a : Nat)
def cK : Option Nat → PD
  | none => .none
  | some _ => .int 1
def Row.pr (r : Row) : PD := .tuple [.int (r.x : Nat), .int (r.y : Nat)]
def Row.e (r : Row) : PD := .tuple [r.pr, .tuple [cA r.came, cK r.came, .int (r.kid : Nat), zeros r.dep]]
def rowK (rows : List Row) : List (PD × PD) := rows.map fun r => (r.pr, .bool true)
/-- a call that two patterns share: how deep, the two states, the kid -/
abbrev Cl := Nat × Nat × Nat × Nat
def clE : Option Cl → List PD
  | none => []
  | some (m, x, y, k) => [.tuple [zeros m, (Pat.call (.int (x : Nat)) (k : Nat)).e, (Pat.call (.int (y : Nat)) (k : Nat)).e]]
def notedR (rows : List Row) (c : Option Cl) (came : Option Nat) : List Row := match c with
  | none => rows
  | some (m, x, y, k) => if (rows.any fun r => decide (r.x = x) && decide (r.y = y)) = true then rows else rows ++ [⟨x, y, came, k, m⟩]
theorem rowK_keys (rows : List Row) : (rowK rows).map (·.1) = rows.map Row.pr := by unfold rowK; rw [List.map_map]; rfl
theorem row_pr_inj {r : Row} {x y : Nat} (h : r.pr = .tuple [.int (x : Nat), .int (y : Nat)]) : r.x = x ∧ r.y = y := by
  unfold Row.pr at h
  have h1 := PyData.tuple.inj h
  rw [List.cons.injEq, List.cons.injEq] at h1
  have a := PyData.int.inj h1.1
  have b := PyData.int.inj h1.2.1
  omega
theorem row_any {rows : List Row} {x y : Nat} (h : (rows.any fun r => decide (r.x = x) && decide (r.y = y)) = true) : (PyData.tuple [.int (x : Nat), .int (y : Nat)], PyData.bool true) ∈ rowK rows := by
  rw [List.any_eq_true] at h
  obtain ⟨r, hr, e⟩ := h
  rw [Bool.and_eq_true, decide_eq_true_eq, decide_eq_true_eq] at e
  exact List.mem_map.mpr ⟨r, hr, by unfold Row.pr; rw [e.1, e.2]⟩
theorem row_any_not {rows : List Row} {x y : Nat} (h : (rows.any fun r => decide (r.x = x) && decide (r.y = y)) = false) : PyData.tuple [.int (x : Nat), .int (y : Nat)] ∉ (rowK rows).map (·.1) := fun m => by
  rw [rowK_keys] at m
  obtain ⟨r, hr, e⟩ := List.mem_map.mp m
  have q := row_pr_inj e
  rw [List.any_eq_false] at h
  exact h r hr (by rw [q.1, q.2]; simp)
/-! ### noted -/
def spNoted (P : Program) (w : World) (K : PySem.W.Frag) : Sp := fun vs H Q _ => ∃ (r d a : Addr) (rows : List Row) (c : Option Cl) (came : Option Nat), ∃ (dA dK : PD), SlAll K H vs [.v (.ref r), .v (.ref d), .v (.ref a), .d dA, .d dK] ∧ (c ≠ none → dA = cA came ∧ dK = cK came) ∧
  Ls K H r (rows.map Row.e) ∧ Dc P w K H d (rowK rows) ∧ Ls K H a (clE c) ∧ a ≠ r ∧ rows.length < 1000 ∧
  ∀ H', Off2 r d H H' → Ls K H' r ((notedR rows c came).map Row.e) → Dc P w K H' d (rowK (notedR rows c came)) → Q .non H'
theorem ok_noted (T : Top K mg) : GOk P w K mg base 1 "noted" ["row", "known", "calls", "came", "kind"] (spNoted P w K) := by
  refine g_ok T.d_noted scNoted (fun vs H Q E h => ?_) (fun fn cdv A outer s H vs Q E hr h => ⟨_, (pss_one (ps_for PassesOwn.never rfl (pi_list (pv 2)) (pg_tup rfl (pgs_cons (pg_name (i := 5) scNoted.nd rfl (Or.inl rfl)) (pgs_cons (pg_name (i := 6) scNoted.nd rfl (Or.inl rfl)) (pgs_cons (pg_name (i := 7) scNoted.nd rfl (Or.inl rfl)) pgs_nil)))) (pss_one (ps_if (pt_cmpR (op_notInDc hr.units) (pe_tup (pa_cons (pe_ix ix_tup (pv 6) pe_int (fun _ _ => rfl)) (pa_cons (pe_ix ix_tup (pv 7) pe_int (fun _ _ => rfl)) pa_nil))) (pv 1) (by rfl)) (pss_cons (ps_asg pe_bl (pg_sub (pv 1) (pe_tup (pa_cons (pe_ix ix_tup (pv 6) pe_int (fun _ _ => rfl)) (pa_cons (pe_ix ix_tup (pv 7) pe_int (fun _ _ => rfl)) pa_nil))) (set_dc hr.units)))
      (pss_one (ps_expr (pe_bm PySem.F.plainAttrs_list PySem.F.slot_list_append PySem.F.type_list_append mt_append (pv 0) (pa_cons (pe_tup (pa_cons (pe_tup (pa_cons (pe_ix ix_tup (pv 6) pe_int (fun _ _ => rfl)) (pa_cons (pe_ix ix_tup (pv 7) pe_int (fun _ _ => rfl)) pa_nil))) (pa_cons (pe_tup (pa_cons (pv 3) (pa_cons (pv 4) (pa_cons (pe_ix ix_tup (pv 6) pe_int (fun _ _ => rfl)) (pa_cons (pv 5) pa_nil))))) pa_nil))) pa_nil))))) pss_nil)))), ?_⟩)
  · obtain ⟨r, d, a, rows, c, came, dA, dK, h1, _⟩ := h
    exact h1.length
  · obtain ⟨r, d, a, rows, c, came, dA, dK, h1, hAK, hr1, hd1, ha1, hne, hlen, k⟩ := h
    try dsimp only [cxOf]
    have sd := sd_st (N := nNoted) h1
    cases c with
    | none => exact r_forP0 (e_vv rfl) sd ha1 fun H1 s1 => k H1 (Off2.of s1) (hr1.sm s1) (hd1.sm s1)
    | some c =>
      obtain ⟨m, x, y, kk⟩ := c
      obtain ⟨rfl, rfl⟩ := hAK (by simp)
      refine r_forP1 (js := [5, 6, 7]) (e_vv rfl) (g_tup (ds := [zeros m, (Pat.call (.int (x : Nat)) (kk : Nat)).e, (Pat.call (.int (y : Nat)) (kk : Nat)).e]) (gs_cons g_name (gs_cons g_name (gs_cons g_name gs_nil))) rfl) sd ha1 fun σ1 H1 s1 sd1 => ?_
      have hd2 := hd1.sm s1
      have sdx := SD.dx (i := 1) sd1 rfl hd2
      obtain ⟨o, g1, g2⟩ := SD.get (i := 1) sd1 rfl
      cases (show o = some (.ref d) from g2)
      have key : ∀ δ : Sls, δ[6]? = some (.d (Pat.call (.int (x : Nat)) (kk : Nat)).e) → δ[7]? = some (.d (Pat.call (.int (y : Nat)) (kk : Nat)).e) → Ee K (tTup (tCons (tOp (rIxT K) (tVar 6) (tC (.int 1))) (tCons (tOp (rIxT K) (tVar 7) (tC (.int 1))) tNil))) δ (.d (.tuple [.int (x : Nat), .int (y : Nat)])) := fun δ q1 q2 =>
        e_tup (ss := [.d (.int (x : Nat)), .d (.int (y : Nat))]) (a_cons (e_ixT (ds := [.str "?", .int (x : Nat), .int (kk : Nat)]) (e_vd q1) e_ci (by decide) rfl) (a_cons (e_ixT (ds := [.str "?", .int (y : Nat), .int (kk : Nat)]) (e_vd q2) e_ci (by decide) rfl) a_nil)) rfl (Nat.le_of_ble_eq_true rfl)
      cases hany : rows.any fun r => decide (r.x = x) && decide (r.y = y) with
      | true =>
        have e : notedR rows (some (m, x, y, kk)) came = rows := if_pos hany
        rw [e] at k
        refine r_ifS (b := false) (t_T (e_notInDc (key _ rfl rfl) (e_vx rfl) (.flat _ _) (fun z => nomatch z) (fun _ => ⟨_, row_any hany⟩))) sdx (fun z => nomatch z) (fun _ H2 s2 => ?_)
        exact ⟨(ha1.sm s1).sm s2, k H2 (Off2.of (s1.trans s2)) ((hr1.sm s1).sm s2) (hd2.sm s2)⟩
      | false =>
        have e : notedR rows (some (m, x, y, kk)) came = rows ++ [⟨x, y, came, kk, m⟩] := if_neg (by rw [hany]; exact Bool.false_ne_true)
        rw [e] at k
        refine r_ifS (b := true) (t_T (e_notInDc (key _ rfl rfl) (e_vx rfl) (.flat _ _) (fun _ => row_any_not hany) (fun z => nomatch z))) sdx (fun _ H2 s2 => ?_) (fun z => nomatch z)
        have sd2 := sd1.sm s2
        have hd3 := hd2.sm s2
        have hr3 := (hr1.sm s1).sm s2
        have ha3 := (ha1.sm s1).sm s2
        refine r_setDc (k := .tuple [.int (x : Nat), .int (y : Nat)]) (e := .bool true) sd2 e_cb g1 (key _ rfl rfl) (.flat _ _) (row_any_not hany) hd3 (by unfold rowK; rw [List.length_map]; omega) fun H3 o3 d3 => ?_
        have sd3 := sd2.offD o3 hd3 rfl
        have hr4 := hr3.offD o3 hd3
        have ha4 := ha3.offD o3 hd3
        refine r_append (p := r) (ds := rows.map Row.e) (e := Row.e ⟨x, y, came, kk, m⟩) sd3 rfl (e_tup (ss := [.d (.tuple [.int (x : Nat), .int (y : Nat)]), .d (.tuple [cA came, cK came, .int (kk : Nat), zeros m])]) (a_cons (key _ rfl rfl)
          (a_cons (e_tup (ss := [.d (cA came), .d (cK came), .d (.int (kk : Nat)), .d (zeros m)]) (a_cons (e_vd rfl) (a_cons (e_vd rfl) (a_cons (e_ixT (ds := [.str "?", .int (x : Nat), .int (kk : Nat)]) (e_vd rfl) e_ci (by decide) rfl) (a_cons (e_vd rfl) a_nil)))) rfl (Nat.le_of_ble_eq_true rfl)) a_nil)) rfl (Nat.le_of_ble_eq_true rfl))
          hr4 (by rw [List.length_map]; omega) rfl fun H4 o4 l4 sd4 => ?_
        refine ⟨ha4.offL o4 hne hr4, k H4 (((Off2.of (s1.trans s2)).trans (Off2.ofD o3)).trans (Off2.ofP o4)) (by rw [List.map_append]; exact l4) ?_⟩
        have q := d3.offL o4 hr4
        unfold rowK at q ⊢
        rw [List.map_append]
        exact q
/-! ### met_pairs -/
/-- the patterns go side by side, meeting at c -/
def SbR (p q : Pat) (c : Option Cl) : Prop := (sbs p q 0).1 = none ∧ ((c = none ∧ (sbs p q 0).2 = none) ∨ ∃ m x y k, c = some (m, x, y, k) ∧ (sbs p q 0).2 = some (m, .int ((x : Nat) : Int), .int ((y : Nat) : Int), ((k : Nat) : Int)))
theorem SbR.e {p q : Pat} {c : Option Cl} (h : SbR p q c) : sbE (sbs p q 0).2 = clE c := by
  rcases h with ⟨_, ⟨rfl, h⟩ | ⟨m, x, y, k, rfl, h⟩⟩ <;> rw [h] <;> rfl
inductive MPRun (X Y : LB) : Nat → List Row → Nat → List Row → Option (Option Nat × Nat) → Prop
  | stop {rows} : MPRun X Y 0 rows rows.length rows none
  | part {rows i r p q m} : rows[i]? = some r → X.rs[r.x]? = some p → Y.rs[r.y]? = some q → (sbs p q 0).1 = some m → MPRun X Y 0 rows i rows (some (some i, m))
  | step {n rows i r p q c R o} : rows[i]? = some r → X.rs[r.x]? = some p → Y.rs[r.y]? = some q → SbR p q c → MPRun X Y n (notedR rows c (some i)) (i + 1) R o → MPRun X Y (n + 1) rows i R o
theorem notedR_le (rows : List Row) (c : Option Cl) (came : Option Nat) : rows.length ≤ (notedR rows c came).length := by
  unfold notedR
  split
  · exact Nat.le_refl _
  · split
    · exact Nat.le_refl _
    · rw [List.length_append]; omega
theorem MPRun.le {X Y : LB} {n : Nat} {rows : List Row} {i : Nat} {R : List Row} {o} (h : MPRun X Y n rows i R o) : rows.length ≤ R.length := by
  induction h with
  | stop => exact Nat.le_refl _
  | part _ _ _ _ => exact Nat.le_refl _
  | step _ _ _ _ _ ih => exact Nat.le_trans (notedR_le _ _ _) ih
def MP (X Y : LB) (R : List Row) (o : Option (Option Nat × Nat)) : Prop := (∃ m, (sbs X.head Y.head 0).1 = some m ∧ R = [] ∧ o = some (none, m)) ∨ ∃ c n, SbR X.head Y.head c ∧ MPRun X Y n (notedR [] c none) 0 R o
def ptgE : Option (Option Nat × Nat) → PD
  | none => .none
  | some (c, m) => .tuple [cA c, cK c, zeros m]
def isMP (K : PySem.W.Frag) (R : List Row) (o : Option (Option Nat × Nat)) (v : V) (H : Hp) : Prop := ∃ t r y, v = .ref t ∧ SqT K H t [.ref r, y] ∧ Ls K H r (R.map Row.e) ∧ Tp K H y (ptgE o)
theorem isMP.sm {H H' : Hp} {R : List Row} {o} {v : V} (h : isMP K R o v H) (s : Same H H') : isMP K R o v H' := by
  obtain ⟨t, r, y, h1, h2, h3, h4⟩ := h
  exact ⟨t, r, y, h1, Tk.sqt (Same.tt s) h2, h3.sm s, h4.sm s⟩
structure LB.okH (B : LB) : Prop where
  ok : B.ok
  hd : B.head.ok ∧ B.head.dep < 3
def RMP (K : PySem.W.Frag) (ss : Sls) (s : Sl) : Prop := ∃ (X Y : LB) (R : List Row) (o : Option (Option Nat × Nat)), X.okH ∧ Y.okH ∧ X.a = Y.a ∧ R.length < 900 ∧ MP X Y R o ∧ ss = [.d X.e, .d Y.e] ∧ s = .x (isMP K R o)
/-- at the loop's head -/
structure MI (P : Program) (w : World) (K : PySem.W.Frag) (X Y : LB) (H0 : Hp) (r d : Addr) (rows : List Row) (i : Nat) (σ : L2.St) (H : Hp) : Prop where
  sd : SD K H σ [.d X.e, .d Y.e, .no, .no, .v (.ref r), .v (.ref d), .d (.int (i : Nat)), .no, .no]
  lr : Ls K H r (rows.map Row.e)
  dd : Dc P w K H d (rowK rows)
  sm : Same H0 H
structure MJ (P : Program) (w : World) (K : PySem.W.Frag) (X Y : LB) (H0 : Hp) (r d : Addr) (rows : List Row) (i : Nat) (pr : PD) (σ : L2.St) (H : Hp) : Prop where
  sd : SD K H σ [.d X.e, .d Y.e, .no, .no, .v (.ref r), .v (.ref d), .d (.int (i : Nat)), .d pr, .no]
  lr : Ls K H r (rows.map Row.e)
  dd : Dc P w K H d (rowK rows)
  sm : Same H0 H
theorem row_ixT {B : LB} {x : Nat} {p : Pat} (h : B.rs[x]? = some p) : (B.rs.map B.rowE)[((x : Nat) : Int).toNat]? = some (.tuple [(Pat.lf B.a).e, p.e]) := rows_at h
/-- a tuple of a list and a datum -/
theorem e_pairL {K : PySem.W.Frag} {δ : Sls} {te : TE} {i : Nat} {r : Addr} {R : List Row} {o : Option (Option Nat × Nat)} {H : Hp} {σ : L2.St} {Q : VK} (sd : SD K H σ δ) (hi : δ[i]? = some (.v (.ref r))) (l : Ls K H r (R.map Row.e)) (he : Ee K te δ (.d (ptgE o)))
    (k : ∀ v H', Same H H' → isMP K R o v H' → Q v H') : tTup (tCons (tVar i) (tCons te tNil)) σ H Q := by
  obtain ⟨u, g1, g2⟩ := SD.get sd hi
  cases (show u = some (.ref r) from g2)
  refine ⟨_, g1, ?_⟩
  refine he σ H _ sd fun v H1 s1 ⟨w1, e1, t1⟩ => ?_
  cases e1
  refine ⟨by simp [sizeLine], fun p hp => ?_⟩
  have s2 : Same H1 (upd H1 p (.tup [.ref r, v])) := same_upd hp
  exact k _ _ (s1.trans s2) ⟨p, r, v, rfl, .inl (.inl upd_same), (l.sm s1).sm s2, t1.sm s2⟩
theorem ok_met_pairs (T : Top K mg) (g_side_by_side : GOk P w K mg base 6 "side_by_side" ["one", "two", "place", "calls"] (spSbs K 4)) (g_noted : GOk P w K mg base 1 "noted" ["row", "known", "calls", "came", "kind"] (spNoted P w K)) : GOk P w K mg base 7 "met_pairs" ["one", "two"] (spD K (RMP K)) := by
  refine g_pure T.d_met_pairs scMetPairs (fun ss s h => ?_) (fun f cdv A outer s H E hr => ⟨_, (pss_cons (ps_set (i := 2) scMetPairs.nd rfl (Or.inl rfl) (pe_lst pa_nil))
      (pss_cons (ps_set (i := 3) scMetPairs.nd rfl (Or.inl rfl) (pe_g g_side_by_side (hr.mono (by omega)) rfl (pa_cons (pe_ix ix_tup (pv 0) pe_int (fun _ _ => rfl)) (pa_cons (pe_ix ix_tup (pv 1) pe_int (fun _ _ => rfl)) (pa_cons (pe_tup pa_nil) (pa_cons (pv 2) pa_nil))))))
      (pss_cons (ps_if (pt_cmp (pc_notN (pv 3))) (pss_one (ps_ret (pe_tup (pa_cons (pe_lst pa_nil) (pa_cons (pe_tup (pa_cons pe_non (pa_cons pe_non (pa_cons (pv 3) pa_nil)))) pa_nil))))) pss_nil)
      (pss_cons (ps_set (i := 4) scMetPairs.nd rfl (Or.inl rfl) (pe_lst pa_nil))
      (pss_cons (ps_set (i := 5) scMetPairs.nd rfl (Or.inl rfl) pe_dcNew)
      (pss_cons (ps_expr (pe_g g_noted (hr.mono (by omega)) rfl (pa_cons (pv 4) (pa_cons (pv 5) (pa_cons (pv 2) (pa_cons pe_non (pa_cons pe_non pa_nil)))))))
      (pss_cons (ps_set (i := 6) scMetPairs.nd rfl (Or.inl rfl) pe_int)
      (pss_cons (ps_while PassesOwn.never (pt_cmpR op_lt (pv 6) (pe_callB call_len_seq (by rfl) T.b_len PySem.boot_len (pa_cons (pv 4) pa_nil)) (nomark _)) (pss_cons (ps_set (i := 7) scMetPairs.nd rfl (Or.inl rfl) (pe_ix ix_tup (pe_ix ix_list (pv 4) (pv 6) (fun _ _ => rfl)) pe_int (fun _ _ => rfl)))
      (pss_cons (ps_for PassesOwn.never rfl (pi_range1 rfl T.b_range (pa_cons (pe_callB call_len_seq (by rfl) T.b_len PySem.boot_len (pa_cons (pe_ix ix_tup (pv 0) pe_int (fun _ _ => rfl)) pa_nil)) pa_nil)) (pg_name (i := 8) scMetPairs.nd rfl (Or.inl rfl)) (pss_cons (ps_set (i := 2) scMetPairs.nd rfl (Or.inl rfl) (pe_lst pa_nil))
      (pss_cons (ps_set (i := 3) scMetPairs.nd rfl (Or.inl rfl) (pe_g g_side_by_side (hr.mono (by omega)) rfl (pa_cons (pe_ix ix_tup (pe_ix ix_tup (pe_ix ix_tup (pv 0) pe_int (fun _ _ => rfl)) (pe_ix ix_tup (pv 7) pe_int (fun _ _ => rfl)) (fun _ _ => rfl)) (pv 8) (fun _ _ => rfl)) (pa_cons (pe_ix ix_tup (pe_ix ix_tup (pe_ix ix_tup (pv 1) pe_int (fun _ _ => rfl)) (pe_ix ix_tup (pv 7) pe_int (fun _ _ => rfl)) (fun _ _ => rfl)) (pv 8) (fun _ _ => rfl)) (pa_cons (pe_tup pa_nil) (pa_cons (pv 2) pa_nil))))))
      (pss_cons (ps_if (pt_cmp (pc_notN (pv 3))) (pss_one (ps_ret (pe_tup (pa_cons (pv 4) (pa_cons (pe_tup (pa_cons (pv 6) (pa_cons (pv 8) (pa_cons (pv 3) pa_nil)))) pa_nil))))) pss_nil)
      (pss_one (ps_expr (pe_g g_noted (hr.mono (by omega)) rfl (pa_cons (pv 4) (pa_cons (pv 5) (pa_cons (pv 2) (pa_cons (pv 6) (pa_cons (pv 8) pa_nil))))))))))))
      (pss_one (ps_set (i := 6) scMetPairs.nd rfl (Or.inl rfl) (pe_op op_add (pv 6) pe_int))))))
      (pss_one (ps_ret (pe_tup (pa_cons (pv 4) (pa_cons pe_non pa_nil))))))))))))), fun ss s h => ?_⟩)
  · obtain ⟨X, Y, R, o, _, _, _, _, _, rfl, _⟩ := h; rfl
  obtain ⟨X, Y, R, o, oX, oY, ha, hR, hmp, rfl, rfl⟩ := h
  try dsimp only [cxOf]
  intro σ H0 E sd le
  have rt : ∀ v H', Same H0 H' → isMP K R o v H' → E.rt v H' := fun v H' s h => le.rt v H' (.x (isMP K R o)) s ⟨v, rfl, fun H2 s2 => h.sm s2⟩ rfl
  refine r_newL sd fun c0 H1 s1 n1 l1 sd1 => ?_
  refine r_callR (ss := [.d X.head.e, .d Y.head.e, .d (.tuple []), .v (.ref c0)]) (by walk_at "ea") sd1 fun vs2 H2 s2 h2 => ?_
  refine ⟨X.head, Y.head, 0, c0, [], h2, by have := oX.hd.2; omega, oX.hd.1, oY.hd.1, by omega, l1.sm s2, by simp, fun v3 H3 o3 l3 hv3 => ?_⟩
  have l12 := l1.sm s2
  have sd3 : SD K H3 _ [.d X.e, .d Y.e, .v (.ref c0), .d (plE (sbs X.head Y.head 0).1), .no, .no, .no, .no, .no] := SD.set hv3 3 ((sd1.sm s2).off o3 l12 rfl)
  have s03 : Same H0 H3 := o3.same (s1.trans s2) n1
  rcases hmp with ⟨m, e1, rfl, rfl⟩ | ⟨c, n, sb, run⟩
  · -- the heads part
    rw [e1] at sd3
    refine r_seqIf (t_T (e_notN (d := zeros m) (e_vd rfl))) sd3 (fun _ H4 s4 => ?_) (fun z => nomatch z)
    refine ⟨Nat.zero_le _, fun q hq => ?_⟩
    have s5 : Same H4 (upd H4 q (.lst [])) := same_upd hq
    refine (e_tup (ss := [.d .none, .d .none, .d (zeros m)]) (δ := [.d X.e, .d Y.e, .v (.ref c0), .d (zeros m), .no, .no, .no, .no, .no]) (a_cons e_cn (a_cons e_cn (a_cons (e_vd rfl) a_nil))) rfl (Nat.le_of_ble_eq_true rfl)) _ _ _ ((sd3.sm s4).sm s5) fun v6 H6 s6 ⟨w6, e6, t6⟩ => ?_
    cases e6
    refine ⟨by simp [sizeLine], fun q2 hq2 => ?_⟩
    have s7 : Same H6 (upd H6 q2 (.tup [.ref q, v6])) := same_upd hq2
    exact rt _ _ ((((s03.trans s4).trans s5).trans s6).trans s7) ⟨q2, q, v6, rfl, .inl (.inl upd_same), ⟨[], (s6.trans s7) _ _ upd_same, .nil⟩, t6.sm s7⟩
  · rw [sb.1] at sd3
    have l3' : Ls K H3 c0 (clE c) := by rw [← sb.e]; exact l3
    refine r_seq (N := fun δ' => δ' = [.d X.e, .d Y.e, .v (.ref c0), .d .none, .no, .no, .no, .no, .no]) (s_ifF (b := false) (t_T (e_notN (d := .none) (e_vd rfl))) rfl (s_next rfl)) sd3 fun σ4 H4 δ4 s4 sd4 e4 => ?_
    subst e4
    refine r_newL sd4 fun r H5 s5 n5 l5 sd5 => ?_
    refine r_newD sd5 fun d H6 s6 n6 d6 sd6 => ?_
    have s06 : Same H0 H6 := ((s03.trans s4).trans s5).trans s6
    have c0r : c0 ≠ r := by
      obtain ⟨xs, q, _⟩ := l3'.sm s4
      exact ne_of_none q n5
    have nr0 : H0 r = none := (s03.trans s4).free n5
    have nd0 : H0 d = none := ((s03.trans s4).trans s5).free n6
    refine r_callD (ss := [.v (.ref r), .v (.ref d), .v (.ref c0), .d .none, .d .none]) (a_cons (e_vv rfl) (a_cons (e_vv rfl) (a_cons (e_vv rfl) (a_cons e_cn (a_cons e_cn a_nil))))) sd6 fun vs7 H7 s7 h7 => ?_
    refine ⟨r, d, c0, [], c, none, .none, .none, h7, fun _ => ⟨rfl, rfl⟩, (l5.sm s6).sm s7, d6.sm s7, (((l3'.sm s4).sm s5).sm s6).sm s7, c0r, by simp, fun H8 o8 l8 d8 => ?_⟩
    have sd8 : SD K H8 _ [.d X.e, .d Y.e, .v (.ref c0), .d .none, .v (.ref r), .v (.ref d), .no, .no, .no] := (sd6.sm s7).tt (o8.tk ((l5.sm s6).sm s7) (d6.sm s7)) rfl
    have s08 : Same H0 H8 := o8.same (s06.trans s7) nr0 nd0
    refine r_set (s := .d (.int ((0 : Nat) : Int))) e_ci sd8 fun v9 H9 s9 sd9 => ?_
    refine ⟨fun n σ' H' => ∃ rows i, MPRun X Y n rows i R o ∧ MI P w K X Y H0 r d rows i σ' H', ⟨n, _, 0, run, ⟨sd9.wk (by walk_at "wk"), l8.sm s9, d8.sm s9, s08.trans s9⟩⟩, ?_⟩
    rintro n σa Ha ⟨rows, i, run, I⟩
    have hlen : rows.length < 900 := Nat.lt_of_le_of_lt run.le hR
    have sdv := I.sd.vx (i := 4) rfl I.lr
    refine t_T (e_b0 (f := fun i j => decide (i < j)) (i := (i : Nat)) (j := ((rows.map Row.e).length : Nat)) (e_vd rfl) (e_lenL (e_vxl rfl))) σa Ha _ sdv fun Hb sb1 => ?_
    -- what the two patterns of each kind say
    have out : (i < rows.length ∧ ∃ (r0 : Row) (p q : Pat) (rows' : List Row), rows[i]? = some r0 ∧ X.rs[r0.x]? = some p ∧ Y.rs[r0.y]? = some q ∧ ∀ j, j < 2 → ∃ p' q' : Pat, [(Pat.lf X.a).e, p.e][j]? = some p'.e ∧ [(Pat.lf Y.a).e, q.e][j]? = some q'.e ∧ p'.dep < 4 ∧ p'.ok ∧ q'.ok ∧
        ((∃ m, (sbs p' q' 0).1 = some m ∧ j = 1 ∧ R = rows ∧ o = some (some i, m)) ∨ (∃ c, SbR p' q' c ∧ (c ≠ none → j = 1) ∧ (if j + 1 < 2 then rows else rows') = notedR (if j < 2 then rows else rows') c (some i) ∧ (j = 1 → ∃ n', n' < n ∧ MPRun X Y n' rows' (i + 1) R o)))) ∨ (i = rows.length ∧ R = rows ∧ o = none) := by
      have zero : ∀ (p q : Pat), ∃ p' q' : Pat, [(Pat.lf X.a).e, p.e][0]? = some p'.e ∧ [(Pat.lf Y.a).e, q.e][0]? = some q'.e ∧ p'.dep < 4 ∧ p'.ok ∧ q'.ok ∧ SbR p' q' none := fun p q =>
        ⟨.lf X.a, .lf Y.a, rfl, rfl, by show 0 < 4; decide, oX.ok.a.1, oY.ok.a.1, by
          have e : sbs (.lf X.a) (.lf Y.a) 0 = (none, none) := by
            show ((if X.a = Y.a then none else some 0), none) = _
            rw [if_pos ha]
          exact ⟨by rw [e], .inl ⟨rfl, by rw [e]⟩⟩⟩
      cases run with
      | stop => exact .inr ⟨rfl, rfl, rfl⟩
      | @part _ _ r0 p q m h1 h2 h3 h4 =>
        refine .inl ⟨(List.getElem?_eq_some_iff.mp h1).1, r0, p, q, R, h1, h2, h3, fun j hj => ?_⟩
        obtain ⟨p1, p2, p3⟩ := oX.ok.rs _ (List.mem_of_getElem? h2)
        obtain ⟨q1, _, _⟩ := oY.ok.rs _ (List.mem_of_getElem? h3)
        match j, hj with
        | 0, _ =>
          obtain ⟨p', q', a1, a2, a3, a4, a5, a6⟩ := zero p q
          exact ⟨p', q', a1, a2, a3, a4, a5, .inr ⟨none, a6, fun z => absurd rfl z, rfl, fun z => nomatch z⟩⟩
        | 1, _ => exact ⟨p, q, rfl, rfl, by omega, p1, q1, .inl ⟨m, h4, rfl, rfl, rfl⟩⟩
      | @step n' _ _ r0 p q c _ _ h1 h2 h3 h4 h5 =>
        refine .inl ⟨(List.getElem?_eq_some_iff.mp h1).1, r0, p, q, notedR rows c (some i), h1, h2, h3, fun j hj => ?_⟩
        obtain ⟨p1, p2, p3⟩ := oX.ok.rs _ (List.mem_of_getElem? h2)
        obtain ⟨q1, _, _⟩ := oY.ok.rs _ (List.mem_of_getElem? h3)
        match j, hj with
        | 0, _ =>
          obtain ⟨p', q', a1, a2, a3, a4, a5, a6⟩ := zero p q
          exact ⟨p', q', a1, a2, a3, a4, a5, .inr ⟨none, a6, fun z => absurd rfl z, rfl, fun z => nomatch z⟩⟩
        | 1, _ => exact ⟨p, q, rfl, rfl, by omega, p1, q1, .inr ⟨c, h4, fun _ => rfl, rfl, fun _ => ⟨n', Nat.lt_succ_self _, h5⟩⟩⟩
    rcases out with ⟨hi, r0, p, q, rows', g1, g2, g3, out⟩ | ⟨hi, eR, rfl⟩
    · rw [decide_eq_true (show ((i : Nat) : Int) < ((rows.map Row.e).length : Nat) by rw [List.length_map]; omega)]
      refine iteT ⟨_, fun _ _ h => h, ?_⟩
      refine r_set (s := .d r0.pr) (e_ixT (ds := [r0.pr, .tuple [cA r0.came, cK r0.came, .int (r0.kid : Nat), zeros r0.dep]]) (e_ixL (ds := rows.map Row.e) (e_vxl rfl) (e_vd rfl) (by omega) (by rw [Int.toNat_natCast, List.getElem?_map, g1]; rfl)) e_ci (by decide) rfl) (sdv.sm sb1) fun vc Hc sc sdc => ?_
      obtain ⟨sdc, lrc⟩ := sdc.xv (i := 4) rfl
      refine r_forR (n := 2) (a_cons (e_lenT (ds := [X.I.ld, X.I.kd]) (e_ixT (ds := [X.I.e, X.outs, X.head.e, .tuple (X.rs.map X.rowE)]) (e_vd rfl) e_ci (by decide) rfl)) a_nil) sdc (by decide)
        (fun j σ' H' => MJ P w K X Y H0 r d (if j < 2 then rows else rows') i r0.pr σ' H' ∧ (j = 2 → ∃ n', n' < n ∧ MPRun X Y n' rows' (i + 1) R o))
        (fun Hd sd_ => ⟨⟨(sdc.sm sd_).wk (by walk_at "wk"), lrc.sm sd_, ((I.dd.sm sb1).sm sc).sm sd_, ((I.sm.trans sb1).trans sc).trans sd_⟩, fun z => nomatch z⟩)
        (fun j σ' H' hj ⟨J, _⟩ => ?_) (fun σ' H' ⟨J, hn⟩ => ?_)
      · have hj : j < 2 := hj
        obtain ⟨p', q', a1, a2, a3, a4, a5, out⟩ := out j hj
        have sdj : SD K H' (σ'.set 8 (some (.int (j : Nat)))) [.d X.e, .d Y.e, .no, .no, .v (.ref r), .v (.ref d), .d (.int (i : Nat)), .d r0.pr, .d (.int (j : Nat))] := SD.set (s := .d (.int (j : Nat))) ⟨_, rfl, .int _⟩ 8 J.sd
        refine r_newL sdj fun c1 K1 t1 m1 k1 sdk1 => ?_
        have ix : ∀ (B : LB) (b : Nat) (x : Int) (p : Pat) (e : PD) (δ : Sls), δ[b]? = some (.d B.e) → δ[7]? = some (.d r0.pr) → δ[8]? = some (.d (.int (j : Nat))) → ∀ z : Int, (0 ≤ z ∧ ∃ x : Nat, [PyData.int (r0.x : Nat), .int (r0.y : Nat)][z.toNat]? = some (.int (x : Nat)) ∧ B.rs[x]? = some p) → [(Pat.lf B.a).e, p.e][j]? = some e →
            Ee K (tOp (rIxT K) (tOp (rIxT K) (tOp (rIxT K) (tVar b) (tC (.int 3))) (tOp (rIxT K) (tVar 7) (tC (.int z)))) (tVar 8)) δ (.d e) := fun B b _ p e δ q1 q2 q3 z ⟨hz, x, hx, hp⟩ he =>
          e_ixT (ds := [(Pat.lf B.a).e, p.e]) (e_ixT (ds := B.rs.map B.rowE) (e_ixT (ds := [B.I.e, B.outs, B.head.e, .tuple (B.rs.map B.rowE)]) (e_vd q1) e_ci (by decide) rfl) (e_ixT (ds := [.int (r0.x : Nat), .int (r0.y : Nat)]) (e_vd q2) e_ci hz hx) (by omega) (row_ixT hp)) (e_vd q3) (by omega) (by rw [Int.toNat_natCast]; exact he)
        refine r_callR (ss := [.d p'.e, .d q'.e, .d (.tuple []), .v (.ref c1)]) (a_cons (ix X 0 0 p p'.e _ rfl rfl rfl 0 ⟨by decide, r0.x, rfl, g2⟩ a1) (a_cons (ix Y 1 0 q q'.e _ rfl rfl rfl 1 ⟨by decide, r0.y, rfl, g3⟩ a2) (a_cons (e_tup (ss := []) a_nil rfl (Nat.zero_le _)) (a_cons (e_vv rfl) a_nil)))) sdk1 fun vs2 K2 t2 h2 => ?_
        refine ⟨p', q', 0, c1, [], h2, a3, a4, a5, by omega, k1.sm t2, by simp, fun v3 K3 o3 l3 hv3 => ?_⟩
        have sdk3 := SD.set hv3 3 ((sdk1.sm t2).off o3 (k1.sm t2) rfl)
        have lr2 := (J.lr.sm t1).sm t2
        have c1r : r ≠ c1 := by
          obtain ⟨xs, q, _⟩ := J.lr
          exact ne_of_none q m1
        have lr3 := lr2.offL o3 c1r (k1.sm t2)
        have dd3 := ((J.dd.sm t1).sm t2).offL o3 (k1.sm t2)
        have s03 : Same H0 K3 := o3.same ((J.sm.trans t1).trans t2) (J.sm.free m1)
        rcases out with ⟨m, e1, rfl, eR, rfl⟩ | ⟨c, sb, hcj, hrows, hnext⟩
        · rw [e1] at sdk3
          rw [if_pos hj] at lr3
          refine r_seqIf (t_T (e_notN (d := zeros m) (e_vd rfl))) sdk3 (fun _ K4 t4 => ?_) (fun z => nomatch z)
          refine e_pairL (R := rows) (o := some (some i, m)) (sdk3.sm t4) rfl (lr3.sm t4) (e_tup (ss := [.d (.int (i : Nat)), .d (.int ((1 : Nat) : Int)), .d (zeros m)]) (a_cons (e_vd rfl) (a_cons (e_vd rfl) (a_cons (e_vd rfl) a_nil))) rfl (Nat.le_of_ble_eq_true rfl)) fun v H' t5 hv => ?_
          exact rt v H' ((s03.trans t4).trans t5) (by rw [eR]; exact hv)
        · rw [sb.1] at sdk3
          have l3' : Ls K K3 c1 (clE c) := by rw [← sb.e]; exact l3
          refine r_seqIf (t_T (e_notN (d := .none) (e_vd rfl))) sdk3 (fun z => nomatch z) (fun _ K4 t4 => ?_)
          refine r_callD (ss := [.v (.ref r), .v (.ref d), .v (.ref c1), .d (.int (i : Nat)), .d (.int (j : Nat))]) (a_cons (e_vv rfl) (a_cons (e_vv rfl) (a_cons (e_vv rfl) (a_cons (e_vd rfl) (a_cons (e_vd rfl) a_nil))))) (sdk3.sm t4) fun vs5 K5 t5 h5 => ?_
          refine ⟨r, d, c1, _, c, some i, _, _, h5, fun hc => ⟨rfl, by rw [hcj hc]; rfl⟩, (lr3.sm t4).sm t5, (dd3.sm t4).sm t5, (l3'.sm t4).sm t5, Ne.symm c1r, ?_, fun K6 o6 l6 d6 => ?_⟩
          · rw [if_pos hj]; omega
          · rw [← hrows] at l6 d6
            refine ⟨⟨SD.wk ((((sdk3.sm t4).sm t5).tt (o6.tk ((lr3.sm t4).sm t5) ((dd3.sm t4).sm t5)) rfl)) (by walk_at "wk"), l6, d6, o6.same ((s03.trans t4).trans t5) nr0 nd0⟩, fun z => ?_⟩
            exact hnext (by omega)
      · obtain ⟨n', hn', run'⟩ := hn rfl
        refine (e_i0 (f := fun i j => i + j) (i := (i : Nat)) (j := 1) (e_vd rfl) e_ci) σ' H' _ J.sd fun v H2 s2 hv => ?_
        refine ⟨n', hn', rows', i + 1, run', SD.wk (SD.set hv 6 (J.sd.sm s2)) (by walk_at "wk"), J.lr.sm s2, J.dd.sm s2, J.sm.trans s2⟩
    · rw [decide_eq_false (show ¬ ((i : Nat) : Int) < ((rows.map Row.e).length : Nat) by rw [List.length_map]; omega)]
      refine iteF ?_
      exact e_pairL (R := rows) (o := none) (I.sd.sm sb1) rfl (I.lr.sm sb1) e_cn fun v H' t5 hv => rt v H' ((I.sm.trans sb1).trans t5) (by rw [eR]; exact hv)
end
end K80

namespace K80
open PySem PySem.Spec L2
open PyProof.Rows hiding St
local macro_rules | `(tactic| walk_at "ee") => `(tactic| first
  | ((with_reducible apply e_vd); exact rfl)
  | ((with_reducible apply e_vl); exact rfl)
  | ((with_reducible apply e_vv); exact rfl)
  | (with_reducible exact e_ci)
  | (with_reducible exact e_cs)
  | (with_reducible exact e_cb)
  | (with_reducible exact e_cn)
  | (with_reducible exact e_hole)
  | ((with_reducible apply e_ixT); (walk_at "ee"); (walk_at "ee"); (first | decide | omega); exact rfl)
  | ((with_reducible apply e_ixL); (walk_at "ee"); (walk_at "ee"); (first | decide | omega); exact rfl)
  | ((with_reducible apply e_tup); (walk_at "ea"); (exact rfl); (exact Nat.le_of_ble_eq_true rfl))
  | ((with_reducible apply e_lst); (walk_at "ea"); (exact rfl); (exact Nat.le_of_ble_eq_true rfl))
  | ((with_reducible apply e_lenT); (walk_at "ee"))
  | ((with_reducible apply e_lenL); (walk_at "ee"))
  | ((with_reducible apply e_eqS); (walk_at "ee"); (walk_at "ee"))
  | ((with_reducible apply e_eqI); (walk_at "ee"); (walk_at "ee"))
  | ((with_reducible apply e_neS); (walk_at "ee"); (walk_at "ee"))
  | ((with_reducible apply e_neI); (walk_at "ee"); (walk_at "ee"))
  | ((with_reducible apply e_i0); (walk_at "ee"); (walk_at "ee"))
  | ((with_reducible apply e_b0); (walk_at "ee"); (walk_at "ee"))
  | ((with_reducible apply e_isN); (walk_at "ee"))
  | ((with_reducible apply e_notN); (walk_at "ee"))
  | ((with_reducible apply e_tupOf); (walk_at "ee"))
  | ((with_reducible apply e_tail); (walk_at "ee"); (walk_at "ee"))
  | ((with_reducible apply e_call); (walk_at "ea"); (walk_at "own"))
  | ((with_reducible apply e_cat); (walk_at "ee"); (walk_at "ee"); (exact Nat.le_of_ble_eq_true rfl))
  | ((with_reducible apply e_andV); (walk_at "ee"); intro _; (walk_at "ee"))
  | walk_at "ee2")
local macro_rules | `(tactic| walk_at "ea") => `(tactic| first | (with_reducible exact a_nil) | ((with_reducible apply a_cons); (walk_at "ee"); (walk_at "ea")))
local macro_rules | `(tactic| walk_at "et") => `(tactic| first
  | ((with_reducible apply t_B); (walk_at "ee"))
  | ((with_reducible apply t_T); (walk_at "ee"))
  | ((with_reducible apply t_not); (walk_at "et")))
local macro_rules | `(tactic| walk_at "own") => `(tactic| fail "own")
local macro_rules | `(tactic| walk_at "ee2") => `(tactic| fail "ee2")
local macro_rules | `(tactic| walk_at "ret") => `(tactic| ((with_reducible apply s_ret); (walk_at "ee"); exact rfl))
local macro_rules | `(tactic| walk_at "retS") => `(tactic| ((with_reducible apply s_ret); (walk_at "ee"); rotate_left))

local macro_rules | `(tactic| walk_at "own") => `(tactic| first
  | exact ⟨_, _, rfl, rfl⟩
  | exact ⟨_, _, _, _, rfl, rfl⟩
  | (refine ⟨_, ?_, ?_, rfl, rfl⟩; (first | omega | assumption); assumption))
local macro_rules | `(tactic| walk_at "ee2") => `(tactic| first
  | ((with_reducible apply e_vx); exact rfl)
  | ((with_reducible apply e_vxl); exact rfl))
section
variable {P : Program} {w : World} {K : PySem.W.Frag} {mg : Str → Option Value} {base : Heap}
/-! ### one_kind -/
structure OneK (X Y : LB) : Prop where
  I : X.I = Y.I
  o : X.outs = Y.outs
  sI : SeqAt.shaped X.I.e = true
  sO : SeqAt.shaped X.outs = true
def ROneKind (ss : Sls) (s : Sl) : Prop := ∃ X Y : LB, OneK X Y ∧ ss = [.d X.e, .d Y.e] ∧ s = .d .none
theorem ok_one_kind (T : Top K mg) : GOk P w K mg base 1 "one_kind" ["one", "two"] (spD K ROneKind) := by
  refine g_pure T.d_one_kind scOneKind (fun ss s h => ?_) (fun f cdv A outer s H E hr => ⟨_, (pss_one (ps_if (PW.pt (pw_or (pt_cmpR (op_neD hr.units) (pe_ix ix_tup (pv 0) pe_int (fun _ _ => rfl)) (pe_ix ix_tup (pv 1) pe_int (fun _ _ => rfl)) (nomark _)) (pw_or1 (pt_cmpR (op_neD hr.units) (pe_ix ix_tup (pv 0) pe_int (fun _ _ => rfl)) (pe_ix ix_tup (pv 1) pe_int (fun _ _ => rfl)) (nomark _))))) (pss_one ps_never) pss_nil)), fun ss s h => ?_⟩)
  · obtain ⟨X, Y, _, rfl, _⟩ := h; rfl
  · obtain ⟨X, Y, h, rfl, rfl⟩ := h
    try dsimp only [cxOf]
    have bk : ∀ (B : LB) (i : Nat), Ee K (tVar i) [.d X.e, .d Y.e] (.d B.e) → Ee K (tOp (rIxT K) (tVar i) (tC (.int 0))) [.d X.e, .d Y.e] (.d B.I.e) ∧ Ee K (tOp (rIxT K) (tVar i) (tC (.int 1))) [.d X.e, .d Y.e] (.d B.outs) := fun B i e =>
      ⟨e_ixT (ds := [B.I.e, B.outs, B.head.e, .tuple (B.rs.map B.rowE)]) e e_ci (by decide) rfl, e_ixT (ds := [B.I.e, B.outs, B.head.e, .tuple (B.rs.map B.rowE)]) e e_ci (by decide) rfl⟩
    have b0 := bk X 0 (e_vd rfl)
    have b1 := bk Y 1 (e_vd rfl)
    refine s_ifF (t_or (t_T (e_neD b0.1 b1.1 h.sI (h.I ▸ h.sI))) fun _ => t_T (e_neD b0.2 b1.2 h.sO (h.o ▸ h.sO))) ?_ (s_next rfl)
    rw [← h.I, ← h.o, SeqAt.eqv_refl _ (SeqAt.canLay_of_shaped h.sI), SeqAt.eqv_refl _ (SeqAt.canLay_of_shaped h.sO)]
    rfl
/-! ### pairs_of -/
theorem g_MP {δ : Sls} {R : List Row} {o : Option (Option Nat × Nat)} {i j : Nat} : Eg K (gTup K 2 (gCons (gName i) (gCons (gName j) gNil))) [i, j] (.x (isMP K R o)) δ ((δ.set i (.l (R.map Row.e))).set j (.d (ptgE o))) := fun σ H v Q sd hv q => by
  obtain ⟨v', e, h⟩ := hv
  cases e
  obtain ⟨t, r, y, rfl, h2, h3, h4⟩ := h H (Same.refl H)
  refine ⟨t, [.ref r, y], rfl, h2, rfl, _, _, rfl, _, _, rfl, rfl, ?_⟩
  refine q _ (SD.set (s := .d (ptgE o)) ⟨y, rfl, h4⟩ j (SD.set h3.l i sd)) fun vs hv => ?_
  rw [wipe_set _ _ _ vs (hv j (by simp)), wipe_set _ _ _ vs (hv i (by simp))]
def RPairsOf (ss : Sls) (s : Sl) : Prop := ∃ (X Y : LB) (R : List Row) (o : Option (Option Nat × Nat)), OneK X Y ∧ X.okH ∧ Y.okH ∧ X.a = Y.a ∧ R.length < 900 ∧ MP X Y R o ∧ ss = [.d X.e, .d Y.e] ∧ s = (match o with | none => .l (R.map Row.pr) | some _ => .d .none)
theorem ok_pairs_of (T : Top K mg) (g_one_kind : GOk P w K mg base 1 "one_kind" ["one", "two"] (spD K ROneKind)) (g_met_pairs : GOk P w K mg base 7 "met_pairs" ["one", "two"] (spD K (RMP K))) : GOk P w K mg base 8 "pairs_of" ["one", "two"] (spD K RPairsOf) := by
  refine g_pure T.d_pairs_of scPairsOf (fun ss s h => ?_) (fun f cdv A outer s H E hr => ⟨_, (pss_cons (ps_expr (pe_g g_one_kind (hr.mono (by omega)) rfl (pa_cons (pv 0) (pa_cons (pv 1) pa_nil))))
      (pss_cons (ps_asg (pe_g g_met_pairs (hr.mono (by omega)) rfl (pa_cons (pv 0) (pa_cons (pv 1) pa_nil))) (pg_tup rfl (pgs_cons (pg_name (i := 2) scPairsOf.nd rfl (Or.inl rfl)) (pgs_cons (pg_name (i := 3) scPairsOf.nd rfl (Or.inl rfl)) pgs_nil))))
      (pss_cons (ps_if (pt_cmp (pc_notN (pv 3))) (pss_one (ps_ret pe_non)) pss_nil)
      (pss_one (ps_ret (pe_lc (own := [("pair", 4), ("came", 5)]) rfl scPairsOf.nd (pi_list (pv 2)) (blkOk_by (N := nPairsOf) (sc := (defScope sPairsOf)) (by decide +kernel)) (fun _ _ _ _ _ => (pg_tupK (K := K) (n := 2) rfl rfl (pgs_cons (pg_name (i := 4) scPairsOf.nd rfl (Or.inl rfl) (hf := Or.inr rfl)) (pgs_cons (pg_name (i := 5) scPairsOf.nd rfl (Or.inl rfl) (hf := Or.inr rfl)) pgs_nil)))) (fun _ _ _ _ _ => pts_nil) (fun _ _ _ _ _ => (pv 4)))))))), fun ss s h => ?_⟩)
  · obtain ⟨X, Y, R, o, _, _, _, _, _, _, rfl, _⟩ := h; rfl
  · obtain ⟨X, Y, R, o, h1, oX, oY, ha, hR, hm, rfl, rfl⟩ := h
    try dsimp only [cxOf]
    refine s_seq (s_drop (e_call (ss := [.d X.e, .d Y.e]) (by walk_at "ea") ⟨X, Y, h1, rfl, rfl⟩) ?_)
    refine s_seq (s_asg (e_call (ss := [.d X.e, .d Y.e]) (by walk_at "ea") ⟨X, Y, R, o, oX, oY, ha, hR, hm, rfl, rfl⟩) g_MP ?_)
    cases o with
    | some c =>
      obtain ⟨c, m⟩ := c
      refine s_seq (s_ifT (t_T (e_notN (d := .tuple [cA c, cK c, zeros m]) (e_vd rfl))) rfl ?_)
      exact s_ret e_cn rfl
    | none =>
      refine s_seq (s_ifF (t_T (e_notN (d := .none) (e_vd rfl))) rfl (s_next ?_))
      refine s_ret (e_lcL (ds := R.map Row.e) (es := R.map Row.pr) (js := [4, 5]) (δ2 := fun d => match d with | .tuple [a, b] => [.d X.e, .d Y.e, .l (R.map Row.e), .d .none, .d a, .d b] | _ => []) (e_vl rfl) (by decide) (by rw [List.length_map, List.length_map]) (by rw [List.length_map]; omega) (fun i d hd => ?_)) rfl
      rw [List.getElem?_map] at hd
      cases e : R[i]? with
      | none => rw [e] at hd; cases hd
      | some r =>
        rw [e] at hd
        cases hd
        refine ⟨r.pr, by rw [List.getElem?_map, e]; rfl, ?_, e_vd rfl⟩
        exact g_tup (ds := [r.pr, .tuple [cA r.came, cK r.came, .int (r.kid : Nat), zeros r.dep]]) (gs_cons g_name (gs_cons g_name gs_nil)) rfl
/-! ### tree_unlike, kid_for -/
def RTreeUnlike (ss : Sls) (s : Sl) : Prop := ∃ (B : LB) (F : List FT) (st : Nat) (k : Int) (t : Tr × Tr) (x z : Str), B.ok ∧ IsFr B F ∧ F[st]? = some (some t) ∧ Root B st t.1 x ∧ ss = [.d B.e, .d (Pat.call (.int (st : Nat)) k).e, .d (.str z)] ∧ s = .d (trE B.I (if x = z then t.2 else t.1))
theorem ok_tree_unlike (T : Top K mg) (g_partings_of : GOk P w K mg base 7 "partings_of" ["book"] (spD K (RPartings K))) (g_peeked_by : GOk P w K mg base 3 "peeked_by" ["book", "state", "tree", "place"] (spD K RPeeked)) : GOk P w K mg base 8 "tree_unlike" ["book", "call", "name"] (spD K RTreeUnlike) := by
  refine g_pure T.d_tree_unlike scTreeUnlike (fun ss s h => ?_) (fun f cdv A outer s H E hr => ⟨_, (pss_cons (ps_set (i := 3) scTreeUnlike.nd rfl (Or.inl rfl) (pe_ix ix_list (pe_ix ix_list (pe_g g_partings_of (hr.mono (by omega)) rfl (pa_cons (pv 0) pa_nil)) (pe_ix ix_tup (pv 1) pe_int (fun _ _ => rfl)) (fun _ _ => rfl)) pe_int (fun _ _ => rfl)))
      (pss_cons (ps_if (pt_cmpR op_ne (pe_g g_peeked_by (hr.mono (by omega)) rfl (pa_cons (pv 0) (pa_cons (pe_ix ix_tup (pv 1) pe_int (fun _ _ => rfl)) (pa_cons (pe_ix ix_tup (pv 3) pe_int (fun _ _ => rfl)) (pa_cons (pe_tup pa_nil) pa_nil))))) (pv 2) (nomark _)) (pss_one (ps_ret (pe_ix ix_tup (pv 3) pe_int (fun _ _ => rfl)))) pss_nil)
      (pss_one (ps_ret (pe_ix ix_tup (pv 3) pe_int (fun _ _ => rfl)))))), fun ss s h => ?_⟩)
  · obtain ⟨B, F, st, k, t, x, z, _, _, _, _, rfl, _⟩ := h; rfl
  · obtain ⟨B, F, st, k, t, x, z, ok, fr, hF, hr, rfl, rfl⟩ := h
    try dsimp only [cxOf]
    have c1 : ∀ z', Ee K (tOp (rIxT K) (tVar 1) (tC (.int 1))) [.d B.e, .d (Pat.call (.int (st : Nat)) k).e, .d (.str z), z'] (.d (.int (st : Nat))) := fun z' => e_ixT (ds := [.str "?", .int (st : Nat), .int k]) (e_vd rfl) e_ci (by decide) rfl
    refine s_seq (s_set (s := .d (.tuple [trE B.I t.1, trE B.I t.2])) (e_ixL (ds := [.tuple [trE B.I t.1, trE B.I t.2]]) (e_ixLL (ess := F.map (ptE B.I)) (e_call (ss := [.d B.e]) (by walk_at "ea") ⟨B, F, ok, fr, rfl, rfl⟩) (c1 _) (by omega) (by rw [Int.toNat_natCast, List.getElem?_map, hF]; rfl)) e_ci (by decide) rfl) ?_)
    have p0 : ∀ i d, [trE B.I t.1, trE B.I t.2][i]? = some d → Ee K (tOp (rIxT K) (tVar 3) (tC (.int (i : Nat)))) [.d B.e, .d (Pat.call (.int (st : Nat)) k).e, .d (.str z), .d (.tuple [trE B.I t.1, trE B.I t.2])] (.d d) := fun i d h => e_ixT (ds := [trE B.I t.1, trE B.I t.2]) (e_vd rfl) e_ci (by omega) (by rw [Int.toNat_natCast]; exact h)
    have pk : Ee K (tCall (spD K RPeeked) [] E0 (tCons (tVar 0) (tCons (tOp (rIxT K) (tVar 1) (tC (.int 1))) (tCons (tOp (rIxT K) (tVar 3) (tC (.int ((0 : Nat) : Int)))) (tCons (tTup tNil) tNil))))) [.d B.e, .d (Pat.call (.int (st : Nat)) k).e, .d (.str z), .d (.tuple [trE B.I t.1, trE B.I t.2])] (.d (.str x)) := e_call (E := E0) (ss := [.d B.e, .d (.int (st : Nat)), .d (trE B.I t.1), .d (.tuple [])]) (a_cons (e_vd rfl) (a_cons (c1 _) (a_cons (p0 0 _ rfl) (a_cons (e_tup (ss := []) a_nil rfl (Nat.zero_le _)) a_nil)))) ⟨B, st, t.1, x, ok, hr, rfl, rfl⟩
    by_cases e : x = z
    · refine s_seq (s_ifF (t_T (e_neS pk (e_vd rfl))) (by rw [decide_eq_true e]; rfl) (s_next ?_))
      exact s_ret (p0 1 _ rfl) (by rw [if_pos e])
    · refine s_seq (s_ifT (t_T (e_neS pk (e_vd rfl))) (by rw [decide_eq_false e]; rfl) ?_)
      exact s_ret (p0 0 _ rfl) (by rw [if_neg e])
/-- what stands where two books part: two leaves, or a leaf and a call -/
inductive KidR (X Y : LB) : Pat → Pat → Nat → PD → Prop
  | leaves {x y : Str} : notSign x = true → notSign y = true → KidR X Y (.lf x) (.lf y) 0 X.I.leaf
  | second {x z : Str} {F : List FT} {st k : Nat} {t : Tr × Tr} : notSign x = true → Y.ok → IsFr Y F → F[st]? = some (some t) → Root Y st t.1 z → KidR X Y (.lf x) (.call (.int ((st : Nat) : Int)) ((k : Nat) : Int)) k (trE Y.I (if z = x then t.2 else t.1))
  | first {y z : Str} {F : List FT} {st k : Nat} {t : Tr × Tr} : notSign y = true → X.ok → IsFr X F → F[st]? = some (some t) → Root X st t.1 z → KidR X Y (.call (.int ((st : Nat) : Int)) ((k : Nat) : Int)) (.lf y) k (trE X.I (if z = y then t.2 else t.1))
def RKidFor (ss : Sls) (s : Sl) : Prop := ∃ (X Y : LB) (p q : Pat) (k : Nat) (d : PD), KidR X Y p q k d ∧ ss = [.d X.e, .d Y.e, .d (.tuple [p.e, q.e]), .d X.I.leaf] ∧ s = .d (.tuple [.int (k : Nat), d])
theorem ok_kid_for (T : Top K mg) (g_tree_unlike : GOk P w K mg base 8 "tree_unlike" ["book", "call", "name"] (spD K RTreeUnlike)) (g_peeked_by : GOk P w K mg base 3 "peeked_by" ["book", "state", "tree", "place"] (spD K RPeeked)) : GOk P w K mg base 9 "kid_for" ["one", "two", "things", "leaf"] (spD K RKidFor) := by
  refine g_pure T.d_kid_for scKidFor (fun ss s h => ?_) (fun f cdv A outer s H E hr => ⟨_, (pss_cons (ps_asg (pv 2) (pg_tup rfl (pgs_cons (pg_name (i := 4) scKidFor.nd rfl (Or.inl rfl)) (pgs_cons (pg_name (i := 5) scKidFor.nd rfl (Or.inl rfl)) pgs_nil))))
      (pss_cons (ps_if (PW.pt (pw_and (pt_cmpR op_ne (pe_ix ix_tup (pv 4) pe_int (fun _ _ => rfl)) (pe_gS rfl T.c_CALL) (nomark _)) (pw_and1 (pt_cmpR op_ne (pe_ix ix_tup (pv 5) pe_int (fun _ _ => rfl)) (pe_gS rfl T.c_CALL) (nomark _))))) (pss_one (ps_ret (pe_tup (pa_cons pe_int (pa_cons (pv 3) pa_nil))))) pss_nil)
      (pss_cons (ps_if (pt_cmpR op_ne (pe_ix ix_tup (pv 4) pe_int (fun _ _ => rfl)) (pe_gS rfl T.c_CALL) (nomark _)) (pss_one (ps_ret (pe_tup (pa_cons (pe_ix ix_tup (pv 5) pe_int (fun _ _ => rfl)) (pa_cons (pe_g g_tree_unlike (hr.mono (by omega)) rfl (pa_cons (pv 1) (pa_cons (pv 5) (pa_cons (pe_ix ix_tup (pv 4) pe_int (fun _ _ => rfl)) pa_nil)))) pa_nil))))) pss_nil)
      (pss_cons (ps_if (pt_cmpR op_ne (pe_ix ix_tup (pv 5) pe_int (fun _ _ => rfl)) (pe_gS rfl T.c_CALL) (nomark _)) (pss_one (ps_ret (pe_tup (pa_cons (pe_ix ix_tup (pv 4) pe_int (fun _ _ => rfl)) (pa_cons (pe_g g_tree_unlike (hr.mono (by omega)) rfl (pa_cons (pv 0) (pa_cons (pv 4) (pa_cons (pe_ix ix_tup (pv 5) pe_int (fun _ _ => rfl)) pa_nil)))) pa_nil))))) pss_nil)
      (pss_one (ps_ret (pe_tup (pa_cons (pe_ix ix_tup (pv 4) pe_int (fun _ _ => rfl)) (pa_cons (pe_g g_tree_unlike (hr.mono (by omega)) rfl (pa_cons (pv 0) (pa_cons (pv 4) (pa_cons (pe_g g_peeked_by (hr.mono (by omega)) rfl (pa_cons (pv 1) (pa_cons (pe_ix ix_tup (pv 5) pe_int (fun _ _ => rfl)) (pa_cons (pv 3) (pa_cons (pe_tup pa_nil) pa_nil))))) pa_nil)))) pa_nil))))))))), fun ss s h => ?_⟩)
  · obtain ⟨X, Y, p, q, k, d, _, rfl, _⟩ := h; rfl
  · obtain ⟨X, Y, p, q, k, d, hk, rfl, rfl⟩ := h
    try dsimp only [cxOf]
    refine s_seq (s_asg (e_vd rfl) (js := [4, 5]) (g_tup (ds := [p.e, q.e]) (gs_cons g_name (gs_cons g_name gs_nil)) rfl) ?_)
    cases hk with
    | leaves hx hy =>
      refine s_seq (s_ifT (t_and (by walk_at "et") fun _ => by walk_at "et") (by rw [notSign_q hx, notSign_q hy]; rfl) ?_)
      exact s_ret (e_tup (ss := [.d (.int 0), .d X.I.leaf]) (a_cons e_ci (a_cons (e_vd rfl) a_nil)) rfl (Nat.le_of_ble_eq_true rfl)) rfl
    | @second x z F st _ t hx ok fr hF hr =>
      refine s_seq (s_ifF (t_and (by walk_at "et") fun _ => by walk_at "et") (by rw [notSign_q hx]; rfl) (s_next ?_))
      refine s_seq (s_ifT (by walk_at "et") (by rw [notSign_q hx]; rfl) ?_)
      refine s_ret (e_tup (ss := [.d (.int (k : Nat)), .d (trE Y.I (if z = x then t.2 else t.1))]) (a_cons (by walk_at "ee") (a_cons (e_call (ss := [.d Y.e, .d (Pat.call (.int (st : Nat)) (k : Nat)).e, .d (.str x)]) (by walk_at "ea") ⟨Y, F, st, k, t, z, x, ok, fr, hF, hr, rfl, rfl⟩) a_nil)) rfl (Nat.le_of_ble_eq_true rfl)) rfl
    | @first y z F st _ t hy ok fr hF hr =>
      refine s_seq (s_ifF (t_and (by walk_at "et") fun _ => by walk_at "et") (by rfl) (s_next ?_))
      refine s_seq (s_ifF (by walk_at "et") (by rfl) (s_next ?_))
      refine s_seq (s_ifT (by walk_at "et") (by rw [notSign_q hy]; rfl) ?_)
      refine s_ret (e_tup (ss := [.d (.int (k : Nat)), .d (trE X.I (if z = y then t.2 else t.1))]) (a_cons (by walk_at "ee") (a_cons (e_call (ss := [.d X.e, .d (Pat.call (.int (st : Nat)) (k : Nat)).e, .d (.str y)]) (by walk_at "ea") ⟨X, F, st, k, t, z, y, ok, fr, hF, hr, rfl, rfl⟩) a_nil)) rfl (Nat.le_of_ble_eq_true rfl)) rfl
/-! ### patterns_at -/
def PatsAt (X Y : LB) (R : List Row) (c : Option Nat) (p q : Pat) : Prop := (c = none ∧ p = X.head ∧ q = Y.head) ∨ ∃ i r, c = some i ∧ R[i]? = some r ∧ X.rs[r.x]? = some p ∧ Y.rs[r.y]? = some q
def RPatternsAt (ss : Sls) (s : Sl) : Prop := ∃ (X Y : LB) (R : List Row) (c : Option Nat) (m : Nat) (p q : Pat), PatsAt X Y R c p q ∧ ss = [.d X.e, .d Y.e, .l (R.map Row.e), .d (ptgE (some (c, m)))] ∧ s = .d (.tuple [p.e, q.e])
theorem ok_patterns_at (T : Top K mg) : GOk P w K mg base 1 "patterns_at" ["one", "two", "row", "parting"] (spD K RPatternsAt) := by
  refine g_pure T.d_patterns_at scPatternsAt (fun ss s h => ?_) (fun f cdv A outer s H E hr => ⟨_, (pss_cons (ps_asg (pv 3) (pg_tup rfl (pgs_cons (pg_name (i := 4) scPatternsAt.nd rfl (Or.inl rfl)) (pgs_cons (pg_name (i := 5) scPatternsAt.nd rfl (Or.inl rfl)) (pgs_cons (pg_name (i := 6) scPatternsAt.nd rfl (Or.inl rfl)) pgs_nil)))))
      (pss_cons (ps_if (pt_cmp (pc_isN (pv 4))) (pss_one (ps_ret (pe_tup (pa_cons (pe_ix ix_tup (pv 0) pe_int (fun _ _ => rfl)) (pa_cons (pe_ix ix_tup (pv 1) pe_int (fun _ _ => rfl)) pa_nil))))) pss_nil)
      (pss_cons (ps_set (i := 7) scPatternsAt.nd rfl (Or.inl rfl) (pe_ix ix_tup (pe_ix ix_list (pv 2) (pv 4) (fun _ _ => rfl)) pe_int (fun _ _ => rfl)))
      (pss_one (ps_ret (pe_tup (pa_cons (pe_ix ix_tup (pe_ix ix_tup (pe_ix ix_tup (pv 0) pe_int (fun _ _ => rfl)) (pe_ix ix_tup (pv 7) pe_int (fun _ _ => rfl)) (fun _ _ => rfl)) (pv 5) (fun _ _ => rfl)) (pa_cons (pe_ix ix_tup (pe_ix ix_tup (pe_ix ix_tup (pv 1) pe_int (fun _ _ => rfl)) (pe_ix ix_tup (pv 7) pe_int (fun _ _ => rfl)) (fun _ _ => rfl)) (pv 5) (fun _ _ => rfl)) pa_nil)))))))), fun ss s h => ?_⟩)
  · obtain ⟨X, Y, R, c, m, p, q, _, rfl, _⟩ := h; rfl
  · obtain ⟨X, Y, R, c, m, p, q, hp, rfl, rfl⟩ := h
    try dsimp only [cxOf]
    refine s_seq (s_asg (s := .d (.tuple [cA c, cK c, zeros m])) (e_vd rfl) (js := [4, 5, 6]) (g_tup (ds := [cA c, cK c, zeros m]) (gs_cons g_name (gs_cons g_name (gs_cons g_name gs_nil))) rfl) ?_)
    rcases hp with ⟨rfl, rfl, rfl⟩ | ⟨i, r, rfl, hr, hp, hq⟩
    · refine s_seq (s_ifT (t_T (e_isN (d := .none) (e_vd rfl))) rfl ?_)
      exact s_ret (e_tup (ss := [.d X.head.e, .d Y.head.e]) (by walk_at "ea") rfl (Nat.le_of_ble_eq_true rfl)) rfl
    · refine s_seq (s_ifF (t_T (e_isN (d := .int (i : Nat)) (e_vd rfl))) rfl (s_next ?_))
      refine s_seq (s_set (s := .d r.pr) (e_ixT (ds := [r.pr, .tuple [cA r.came, cK r.came, .int (r.kid : Nat), zeros r.dep]]) (e_ixL (ds := R.map Row.e) (e_vl rfl) (e_vd rfl) (by omega) (by rw [Int.toNat_natCast, List.getElem?_map, hr]; rfl)) e_ci (by decide) rfl) ?_)
      have ix : ∀ (B : LB) (b : Nat) (p : Pat) (δ : Sls), δ[b]? = some (.d B.e) → δ[7]? = some (.d r.pr) → δ[5]? = some (.d (.int 1)) → ∀ z : Int, (0 ≤ z ∧ ∃ x : Nat, [PyData.int (r.x : Nat), .int (r.y : Nat)][z.toNat]? = some (.int (x : Nat)) ∧ B.rs[x]? = some p) →
          Ee K (tOp (rIxT K) (tOp (rIxT K) (tOp (rIxT K) (tVar b) (tC (.int 3))) (tOp (rIxT K) (tVar 7) (tC (.int z)))) (tVar 5)) δ (.d p.e) := fun B b p δ q1 q2 q3 z ⟨hz, x, hx, hp⟩ =>
        e_ixT (ds := [(Pat.lf B.a).e, p.e]) (e_ixT (ds := B.rs.map B.rowE) (e_ixT (ds := [B.I.e, B.outs, B.head.e, .tuple (B.rs.map B.rowE)]) (e_vd q1) e_ci (by decide) rfl) (e_ixT (ds := [.int (r.x : Nat), .int (r.y : Nat)]) (e_vd q2) e_ci hz hx) (by omega) (row_ixT hp)) (e_vd q3) (by decide) rfl
      exact s_ret (e_tup (ss := [.d p.e, .d q.e]) (a_cons (ix X 0 p _ rfl rfl rfl 0 ⟨by decide, r.x, rfl, hp⟩) (a_cons (ix Y 1 q _ rfl rfl rfl 1 ⟨by decide, r.y, rfl, hq⟩) a_nil)) rfl (Nat.le_of_ble_eq_true rfl)) rfl
end
end K80

/-! A def within a def that captures names and has cells of its own; handed to another def and called there. -/
namespace K80
open PySem PySem.Spec L2 NdefX LamX
open PyProof.Rows hiding St
theorem cellsFrom_app : ∀ (names : List (Str × NameKind)) (n : Nat) (acc : List (Str × Addr)), cellsFrom n names acc = cellsFrom n names [] ++ acc
  | [], n, acc => rfl
  | (x, k) :: r, n, acc => by
    unfold cellsFrom
    split
    · rw [cellsFrom_app r (n + 1) ((x, n) :: acc), cellsFrom_app r (n + 1) [(x, n)], List.append_assoc]
      rfl
    · exact cellsFrom_app r n acc
theorem cellsFrom_name : ∀ (names : List (Str × NameKind)) (n : Nat) (acc : List (Str × Addr)) (x : Str) (c : Addr), (x, c) ∈ cellsFrom n names acc → (x, NameKind.cell) ∈ names ∨ (x, c) ∈ acc
  | [], n, acc, x, c, h => .inr h
  | (y, k) :: r, n, acc, x, c, h => by
    unfold cellsFrom at h
    split at h
    · rename_i hk
      rcases cellsFrom_name r (n + 1) ((y, n) :: acc) x c h with q | q
      · exact .inl (List.mem_cons_of_mem _ q)
      · rcases List.mem_cons.mp q with e | q
        · cases e
          have e : k = .cell := by cases k <;> first | rfl | cases hk
          exact .inl (by rw [e]; exact List.mem_cons_self)
        · exact .inr q
    · rcases cellsFrom_name r n acc x c h with q | q
      · exact .inl (List.mem_cons_of_mem _ q)
      · exact .inr q
theorem own_none {names : List (Str × NameKind)} {n : Nat} {y : Str} (h : ∀ z ∈ names, z.2 = .cell → z.1 ≠ y) : (cellsFrom n names []).lookup y = none := by
  cases e : (cellsFrom n names []).lookup y with
  | none => rfl
  | some c =>
    rcases cellsFrom_name _ _ _ _ _ (PySem.mem_of_lookup e) with q | q
    · exact absurd rfl (h _ q rfl)
    · cases q
section
variable {M : Model} {A : Around} {E : Value → Shared → Prop} {s : Shared}
theorem newEnv_CC {scope : Scope} {globals : Addr} {closure : List (Str × Addr)} {n : Str} {v : Value} {qual : Str} {func : Option Addr} {code : Value} {builtins : Addr} {Q : Env → Shared → Prop} (hk : scope.kind = .function) (hl : scope.names.lookup n = some .local)
    (hQ : ∀ (h' : Heap) (tk : Nat), h'.Ns s.heap.objs.size (fun y => if y = n then some v else none) → (∀ b o, s.heap.get? b = some o → h'.get? b = some o) → CellsOk h' (s.heap.objs.size + 1) (cellsFrom (s.heap.objs.size + 1) scope.names []) →
      Q (newEnv scope s.heap.objs.size globals (cellsFrom (s.heap.objs.size + 1) scope.names closure) qual func code none builtins) { s with heap := h', toks := tk }) :
    wpAny M A (newFunctionEnv scope globals closure [(n, v)] qual func code none builtins) Q E s := by
  simp only [newFunctionEnv, Option.isSome_none, Bool.false_eq_true, if_false]
  refine wpAny_bind (wpAny_alloc ?_)
  refine wpAny_bind (wpAny_layCells _ (fun name kind cells => by cases hkc : kind == NameKind.cell <;> simp [hkc]) _ _ _ _ ?_)
  have ok := cellsFrom_ok scope.names (s.heap.push { cls := .type "frame", data := .dict #[] }) (s.heap.objs.size + 1) [] ⟨fun _ _ hm => (nomatch hm), List.Pairwise.nil⟩ (by rw [Heap.size_push]; exact Nat.le_refl _)
  rw [Heap.size_push] at ok
  rw [show ({ s with heap := s.heap.push { cls := .type "frame", data := .dict #[] } } : Shared).heap.objs.size = s.heap.objs.size + 1 from Heap.size_push ..]
  refine wpAny_bind ?_
  rw [List.forIn_cons]
  have ns : (pushCells (s.heap.push { cls := .type "frame", data := .dict #[] }) scope.names).Ns s.heap.objs.size fun _ => none := (Heap.Ns.new s.heap (.type "frame")).keeps (pushCells_keeps _ _)
  refine wpAny_bind (wpAny_bind (wpAny_storeName_local (env := newEnv scope s.heap.objs.size globals (cellsFrom (s.heap.objs.size + 1) scope.names closure) qual func code none builtins) hl ns (fun h' hn' hs' => wpAny_pure ?_) (by show (scope.kind == .class || (scope.kind == .module && _)) = false; rw [hk]; rfl)))
  show wpAny M A (forIn [] PUnit.unit _) _ E _
  rw [List.forIn_nil]
  refine wpAny_pure (wpAny_pure ?_)
  refine hQ h' _ hn' (fun b o e => ?_) ⟨fun x c hm => ?_, ok.apart⟩
  · exact hs'.extBut b o (Nat.ne_of_lt (Heap.lt_size e)) (pushCells_keeps _ _ b o (Heap.get?_push_of_some _ e))
  · obtain ⟨h1, h2⟩ := ok.empty x c hm
    exact ⟨h1.sameBut hs' (fun z => by
      have z' : c = s.heap.objs.size := z
      rw [z'] at h2
      exact Nat.not_succ_le_self _ h2), h2⟩
end
/-- its names: the parameter, then the captured ones, then its own, of which some are cells -/
structure NScopeC (N : List Str) (x : Str) (fr : List Str) (sc : Scope) : Prop where
  kind : sc.kind = .function
  co : sc.isCoroutine = false
  gen : sc.isGenerator = false
  nd : N.Nodup
  pre : N.take (1 + fr.length) = x :: fr
  par : sc.names.lookup x = some .local
  cellfr : ∀ y ∈ sc.names, y.2 = .cell → y.1 ∉ fr
  free : ∀ y ∈ sc.names, y.2 = .free → y.1 ∈ fr
  frk : ∀ x ∈ fr, sc.names.lookup x = some .free
abbrev envC (F : NF) (f L : Addr) : Env := PySem.W.envX F.qual F.scope L f (.ref F.c) (cellsFrom (L + 1) F.scope.names F.cl)
/-- the context of its body, at its entry -/
def ncc (CX : CXT) (P : Program) (w : World) (K : PySem.W.Frag) (mg : Str → Option Value) (base : Heap) (N : List Str) (F : NF) (f : Addr) (A : Around) (outer : List Env) (s : Shared) (H : Hp) (E : XK) : Cx where
  prog := P
  w := w
  K := K
  mg := mg
  base := base
  A := A.deeper (envC F f s.heap.objs.size)
  N := N
  s_0 := s
  H_0 := H
  env := envC F f s.heap.objs.size
  outer := outer
  stack := envC F f s.heap.objs.size :: outer
  ex := []
  calm := true
  fn := fun x => decide (F.scope.names.lookup x = some .cell)
  pn := []
  xe := fun e s' => wpAny (model P w) (A.deeper (envC F f s.heap.objs.size)) (leaving (envC F f s.heap.objs.size) e) (fun _ s'' => CX outer H s E e s'') (fun e' s'' => CX outer H s E e' s'') s'
section
variable {CX : CXT} {P : Program} {w : World} {K : PySem.W.Frag} {mg : Str → Option Value} {base : Heap} {N fr : List Str} {x : Str} {F : NF} {f : Addr} {A : Around} {outer : List Env} {s : Shared} {H : Hp} {E : XK} {u0 : Value} {v0 : V} {ws : List (Option V)} {k : Nat}
theorem look_app {l r : List (Str × Addr)} {y : Str} {c : Addr} (h : (l ++ r).lookup y = some c) : l.lookup y = some c ∨ (l.lookup y = none ∧ r.lookup y = some c) := by
  rw [List.lookup_append] at h
  cases e : l.lookup y with
  | none => rw [e] at h; exact .inr ⟨rfl, by simpa using h⟩
  | some d => rw [e] at h; exact .inl (by simpa using h)
theorem inv_startC {h₁ : Heap} {tk : Nat} (S : NScopeC N x fr F.scope) (hd : A.handled = none) (e0 : Env0 P w K mg base A outer s H) (r : RelV v0 u0) (C : CellsAt F.cl fr ws s.heap H) (hns : h₁.Ns s.heap.objs.size fun y => if y = x then some u0 else none)
    (kp : ∀ b o, s.heap.get? b = some o → h₁.get? b = some o) (ok : CellsOk h₁ (s.heap.objs.size + 1) (cellsFrom (s.heap.objs.size + 1) F.scope.names [])) : Inv (ncc CX P w K mg base N F f A outer s H E) [] (startF N [v0] ws) H { s with heap := h₁, toks := tk } := by
  have hpl : 1 + fr.length ≤ N.length := by
    have q := congrArg List.length S.pre
    rw [List.length_take, List.length_cons] at q
    omega
  have noA : ∀ b : Addr, b ∉ (ncc CX P w K mg base N F f A outer s H E).ex := fun b z => absurd (show b ∈ ([] : List Addr) from z) (by simp)
  have cellK : ∀ {c : Addr} {v : Option Value}, s.heap.IsCell c v → h₁.IsCell c v := fun {c v} ⟨o, ho, hd⟩ => ⟨o, kp _ _ ho, hd⟩
  have ecl : cellsFrom (s.heap.objs.size + 1) F.scope.names F.cl = cellsFrom (s.heap.objs.size + 1) F.scope.names [] ++ F.cl := cellsFrom_app _ _ _
  have ltC : ∀ {y c}, F.cl.lookup y = some c → c < s.heap.objs.size := fun {y c} e => by
    obtain ⟨_, v, o, ho, _⟩ := C.all y c e
    exact Heap.lt_size ho
  have splt : ∀ {y c}, (cellsFrom (s.heap.objs.size + 1) F.scope.names F.cl).lookup y = some c → ((y, c) ∈ cellsFrom (s.heap.objs.size + 1) F.scope.names [] ∧ s.heap.objs.size < c) ∨ F.cl.lookup y = some c := fun {y c} e => by
    rw [ecl] at e
    rcases look_app e with q | ⟨_, q⟩
    · have m := PySem.mem_of_lookup q
      exact .inl ⟨m, (ok.empty y c m).2⟩
    · exact .inr q
  refine ⟨⟨e0.mod, S.kind, rfl, rfl, Nat.le_refl _, fun y z c e1 e2 => ?_, fun y hy => ?_, fun y c z e => ?_, fun _ => hd, Around.frames_deeper e0.frames, .inr ⟨rfl, rfl⟩, fun b z => absurd z (noA b), e0.bs, e0.bsz, fun b _ _ => noA b,
      fun b z => absurd z (noA b), e0.funs, e0.frf⟩,
    rfl, e0.bare, Un.kept kp, ⟨_, hns, fun i y v e1 e2 e3 => ?_⟩, fun y c e => ?_, e0.hok.fresh (Nat.le_refl _), fun y c e => ?_, fun q hq => absurd (show q ∈ ([] : List (Addr × Obj)) ++ [] from hq) (by simp), e0.hok.kept kp, ?_⟩
  · rcases splt e1 with ⟨m1, l1⟩ | q1 <;> rcases splt e2 with ⟨m2, l2⟩ | q2
    · exact name_of_addr ok.apart m1 m2
    · exact absurd (Nat.lt_trans l1 (ltC q2)) (Nat.lt_irrefl _)
    · exact absurd (Nat.lt_trans l2 (ltC q1)) (Nat.lt_irrefl _)
    · exact C.inj y z c q1 q2
  · have hy : F.scope.names.lookup y = some .cell ∨ F.scope.names.lookup y = some .free := hy
    show ∃ c, (cellsFrom (s.heap.objs.size + 1) F.scope.names F.cl).lookup y = some c
    rcases hy with hy | hy
    · obtain ⟨c, hc⟩ := cell_has (sc := F.scope) (n := s.heap.objs.size + 1) hy
      exact ⟨c, by rw [ecl, List.lookup_append, hc]; rfl⟩
    · have hfr := S.free _ (PySem.mem_of_lookup hy) rfl
      obtain ⟨i, hi⟩ := List.mem_iff_getElem?.mp hfr
      obtain ⟨c, hc, _⟩ := C.has i y hi
      exact ⟨c, by rw [ecl, List.lookup_append, own_none (fun z hz e1 e2 => S.cellfr z hz e1 (by rw [e2]; exact hfr)), hc]; rfl⟩
  · have z : F.scope.names.lookup y = some .cell := of_decide_eq_true z
    obtain ⟨c', hc'⟩ := cell_has (sc := F.scope) (n := s.heap.objs.size + 1) z
    have e : (cellsFrom (s.heap.objs.size + 1) F.scope.names F.cl).lookup y = some c := e
    rw [ecl, List.lookup_append, hc'] at e
    have e : c' = c := by simpa using e
    rw [← e]
    have := (ok.empty y c' (PySem.mem_of_lookup hc')).2
    show s.heap.objs.size ≤ c'
    omega
  · have e1 : N[i]? = some y := e1
    have clen := C.len
    unfold startF at e2
    match i with
    | 0 =>
      have hq : y = x := by
        have q : (N.take (1 + fr.length))[0]? = some y := by rw [List.getElem?_take_of_lt (by omega)]; exact e1
        rw [S.pre] at q
        simpa using q.symm
      have ev : v0 = v := by simpa using e2
      subst hq
      subst ev
      exact ⟨u0, r, .inl ⟨S.par, by simp⟩⟩
    | j + 1 =>
      have e2 : (ws ++ List.replicate (N.length - 1 - ws.length) none)[j]? = some (some v) := by simpa using e2
      by_cases h2 : j < fr.length
      · have hq : fr[j]? = some y := by
          have q : (N.take (1 + fr.length))[j + 1]? = some y := by rw [List.getElem?_take_of_lt (by omega)]; exact e1
          rw [S.pre] at q
          simpa using q
        rw [List.getElem?_append_left (by omega)] at e2
        obtain ⟨c, hc, hv⟩ := C.has j y hq
        obtain ⟨u, ru, hu⟩ := hv v e2
        have hfr := List.mem_of_getElem? hq
        refine ⟨u, ru, .inr ⟨.inr (S.frk y hfr), c, ?_, cellK hu⟩⟩
        show (cellsFrom (s.heap.objs.size + 1) F.scope.names F.cl).lookup y = some c
        rw [ecl, List.lookup_append, own_none (fun z hz e1 e2 => S.cellfr z hz e1 (by rw [e2]; exact hfr)), hc]; rfl
      · rw [List.getElem?_append_right (by omega), List.getElem?_replicate] at e2
        split at e2 <;> cases e2
  · rcases splt e with ⟨m1, l1⟩ | q1
    · exact ⟨none, (ok.empty y c m1).1⟩
    · obtain ⟨v, z⟩ := (C.all y c q1).2
      exact ⟨v, cellK z⟩
  · rcases splt e with ⟨m1, l1⟩ | q1
    · exact e0.hok.fresh (Nat.le_of_lt l1)
    · exact (C.all y c q1).1
  · have clen := C.len
    unfold startF
    show _ = N.length
    rw [List.length_append, List.length_append, List.length_map, List.length_replicate, List.length_cons, List.length_nil]
    omega
/-- the promise of such a def, by its body -/
theorem nokC_of {sp : List (Option V) → Sp} (S : NScopeC N x fr F.scope) (hb : ∀ (doc pm ctv u : Value), bindArgs (F.fd doc pm ctv) ⟨[u], []⟩ = pure [(x, u)]) (len : ∀ ws vs H Q E, sp ws vs H Q E → vs.length = 1)
    (hbody : ∀ (A : Around) (outer : List Env) (s : Shared) (H : Hp) (v : V) (ws : List (Option V)) (Q : VK) (E : XK), Room k (A.deeper (envC F f s.heap.objs.size)) → ws.length = fr.length → sp ws [v] H Q E →
      ∃ t, PSs (ncc CX P w K mg base N F f A outer s H E) F.body t ∧ t { nx := fun _ H' => Q .non H', rt := Q } (startF N [v] ws) H) :
    NOk P w K mg base CX (k + 1) f F [x] fr sp := by
  refine ⟨len, fun A outer s H us vs ws Q E hr e0 hf hc C r hsp => ?_⟩
  have hl := len _ _ _ _ _ hsp
  have lim : s.heap.NoLimit := e0.mod.nolimit.keeps fun b o e => (e0.bs b o e).1
  obtain ⟨od, sl, doc, pm, ctv, ho⟩ := fnO_at e0.hok hf
  match vs, us, r, hl with
  | [v], [u], .cons r0 .nil, _ =>
    refine codeAny_call_function hr.depth ho rfl S.co S.gen rfl (codeO_at e0.hok hc) ?_
    rw [hb doc pm ctv u]
    refine wpAny_pure (newEnv_CC S.kind S.par fun h₁ tk hns kp ok => ?_)
    refine ⟨lim.keeps kp, ?_⟩
    show codeAny _ _ (.func F.body (envC F f s.heap.objs.size)) _ _
    refine codeAny_func ?_
    obtain ⟨t, ht, hq⟩ := hbody A outer s H v ws Q E (hr.deeper _) C.len hsp
    have I : Inv (ncc CX P w K mg base N F f A outer s H E) [] (startF N [v] ws) H { s with heap := h₁, toks := tk } := inv_startC S hr.hd e0 r0 C hns kp ok
    refine wpAny_mono (ht.run [] _ (startF N [v] ws) H _ I hq) (fun fl s' hs => ?_) fun e s' hs => hs
    have fin : ∀ {σ' : L2.St} {H' : Hp} {v : V} {u : Value}, Inv (ncc CX P w K mg base N F f A outer s H E) [] σ' H' s' → L2.RelV v u → Q v H' → CE outer P w H s Q u s' :=
      fun {σ' H' v u} J rv q => ⟨v, H', J.os, J.bare, J.base, J.hok, rv, q⟩
    cases fl with
    | ret u =>
      obtain ⟨v, σ', H', J, rv, q⟩ := hs
      exact fin J rv q
    | next =>
      obtain ⟨σ', H', J, q⟩ := hs
      exact fin (v := V.non) (u := Value.none) J rfl q
    | brk =>
      obtain ⟨_, _, _, q⟩ := hs
      exact False.elim q
    | cont =>
      obtain ⟨_, _, _, q⟩ := hs
      exact False.elim q
end
/-! ### the call within the def that got it -/
/-- g(e), g a name that holds the function F at f, whose captured cells held ws when the running frame began -/
def tCallF (F : NF) (f : Addr) (i : Nat) (ws : List (Option V)) (sp : List (Option V) → Sp) (E : XK) (t : TA) : TE := fun σ H Q => σ[i]? = some (some (.ref f)) ∧ H f = some (FnO f F) ∧ t σ H fun vs H1 => H1 f = some (FnO f F) ∧ H1 F.c = some (CodeO F.c F.qual) ∧ sp ws vs H1 Q E
section
variable {X : Cx} {CX : CXT} {F : NF} {f : Addr} {ps fr : List Str} {ws : List (Option V)} {i j k : Nat} {x : Str} {sp : List (Option V) → Sp} {E : XK} {t : TA} {e : Expr} {es : List Expr} {p pos : Pos}
theorem pe_callF (Fn : NOk X.prog X.w X.K X.mg X.base CX k f F ps fr sp) (C : CellsAt F.cl fr ws X.s_0.heap X.H_0) (nf : ∀ y c, F.cl.lookup y = some c → c ∉ X.fs) (nx : ∀ y c, F.cl.lookup y = some c → c ∉ X.ex) (hr : Room j X.A) (hk : k ≤ j) (hx : Passes CX X E) (hN : X.N[i]? = some x) (hv : Vis X.env.scope x) (ha : PA X (e :: es) t)
    (hd : (x == ("__debug__" : Str)) = false := by decide) (hcd : (x == ("__classdict__" : Str)) = false := by decide)
    (he : starEach (e :: es) X.env = (false, eval e X.env) :: starEach es X.env := by rfl) (hpl : (backTo pos (starEach es X.env)).any (·.1) = false := by rfl) :
    PE X (.Call (.Name x p) (e :: es) [] pos) (tCallF F f i ws sp E t) := by
  refine ⟨fun pins s σ H Q I h => ?_⟩
  obtain ⟨hs, hf, ht⟩ := h
  refine wpAny_Call_Name_kw (thn ((pe_var (pos := p) hN hv hd hcd).run pins s σ H (fun v H1 => v = .ref f ∧ H1 = H) I ⟨.ref f, hs, rfl, rfl⟩) fun u s1 ⟨v, H1, I1, r1, q1⟩ => ?_)
  obtain ⟨ev, eH⟩ := q1
  subst ev
  rw [eH] at I1
  obtain rfl : u = Value.ref f := r1
  refine PySem.W.callWith_F (first := []) (fnAt_of I1 hf) (thn (ha.run pos pins s1 σ H _ I1 ht) fun us s2 ⟨vs, H2, I2, r, h1, h2, q⟩ => ⟨fnAt_of I2 h1, ?_⟩) he hpl
  show wpAny _ _ (call (.ref f) us) _ _ _
  refine wpAny_call (codeAny_mono (Fn.run X.A X.stack s2 H2 us vs ws Q E (hr.mono hk) I2.env0 h1 h2 (C.later nf nx I2) r q) fun r s' hq => ?_)
  cases r with
  | error e => exact hx pins σ H2 s2 e s' I2 hq
  | ok fl =>
    cases fl with
    | ret u => exact I2.after hq
    | next => exact False.elim hq
    | brk => exact False.elim hq
    | cont => exact False.elim hq
end
/-! ### a def called with such a function, its promise told of the very state -/
/-- the def's promise: at each entry where its argument vs hold and the cells stand -/
def GivesF (P : Program) (w : World) (K : PySem.W.Frag) (mg : Str → Option Value) (base : Heap) (k : Nat) (N : List Str) (q : Str) (sg : Scope) (g : Addr) (cdg : Value) (bg : List Stmt) (mk : Addr → NF) (fr : List Str) (TT : Addr → Addr → List (Option V) → List V → Hp → VK → Prop) : Prop :=
  ∀ (A : Around) (outer : List Env) (s : Shared) (H : Hp) (vs : List V) (f c' : Addr) (ws : List (Option V)) (Q : VK), Room k (A.deeper (envOfC q sg s.heap.objs.size g cdg)) → CellsAt (mk c').cl fr ws s.heap H → (∀ y c, (mk c').cl.lookup y = some c → c ∉ frs outer) → TT f c' ws vs H Q →
    ∃ t, PSs (cxOf C8.CX0 P w K mg base N q sg g cdg A outer s H C8.E0).nox bg t ∧ t { nx := fun _ H' => Q .non H', rt := Q } (L2.start N vs) H
/-- the reading of the call -/
def tCallG (js : List Nat) (TT : Addr → Addr → List (Option V) → List V → Hp → VK → Prop) (t : TA) : TE := fun σ H Q => t σ H fun vs H1 => ∃ f c', TT f c' (js.map (slotAt σ)) vs H1 Q
section
variable {X : Cx} {k : Nat} {x : Str} {g : Addr} {pg : Arguments} {bg : List Stmt} {sg : Scope} {dV kV doc pm cdv ct oc : Value} {an od : Option Addr} {osl : Array (Option Value)} {Ng ps fr : List Str} {mk : Addr → NF} {cl : List (Str × Addr)} {js : List Nat} {TT : Addr → Addr → List (Option V) → List V → Hp → VK → Prop} {e : Expr} {es : List Expr} {t : TA} {p pos : Pos}
theorem cells_apart {pins : List (Addr × Obj)} {σ : L2.St} {H : Hp} {s : Shared} (I : Inv X pins σ H s) (hfn : ∀ y, X.fn y = true) {y : Str} {c : Addr} (e : X.env.cells.lookup y = some c) : c ∉ frs X.stack := fun hb => by
  rcases List.mem_cons.mp (I.stkSub _ hb) with z | z
  · exact I.cne y c e z
  · obtain ⟨_, o, ho, _⟩ := I.ok.funs.mem z
    have h1 := Heap.lt_size ho
    have h2 := I.ok.cab y c (hfn y) e
    exact absurd (Nat.lt_of_lt_of_le h1 h2) (Nat.lt_irrefl _)
theorem pe_callG (hg : Gl X x) (hm : X.mg x = some (.ref g)) (hk : PySem.W.keepIn X.K (.ref g) = true) (lk : X.K.lookup g = some ⟨oc, od, .func (PySem.W.fnOf x x pg bg sg dV kV doc pm an cdv ct), osl⟩) (hcg : PySem.W.codeIn X.K cdv x = true)
    (hb : L2.Binds X.K (PySem.W.fnOf x x pg bg sg dV kV doc pm an cdv ct) ps []) (Sg : FnScope Ng ps sg) (len : ∀ f c' ws vs H Q, TT f c' ws vs H Q → vs.length = ps.length) (hG : GivesF X.prog X.w X.K X.mg X.base k Ng x sg g cdv bg mk fr TT)
    (hcl : ∀ c', (mk c').cl = cl) (cp : X.Ok → Caps X cl fr js) (hfn : ∀ y, X.fn y = true) (hr : Room (k + 1) X.A) (ha : PA X (e :: es) t)
    (hdb : (x == ("__debug__" : Str)) = false := by decide) (he : starEach (e :: es) X.env = (false, eval e X.env) :: starEach es X.env := by rfl) (hpl : (backTo pos (starEach es X.env)).any (·.1) = false := by rfl) :
    PE X (.Call (.Name x p) (e :: es) [] pos) (tCallG js TT t) := by
  refine ⟨fun pins s σ H Q I h => ?_⟩
  refine wpAny_Call_Name_kw (ld_glob I hg hm ?_ hdb)
  refine PySem.W.callWith_K (h₀ := X.base) I.ok.mod.kin hk (thn (ha.run pos pins s σ H _ I h) fun us s1 ⟨vs, H1, I1, r, f, c', q⟩ => ⟨I1.kIn, ?_⟩) he hpl
  have hl := len _ _ _ _ _ _ q
  have rc : codeAny (model X.prog X.w) X.A (.call (.ref g) ⟨us, []⟩) (CR C8.CX0 X.stack X.prog X.w H1 s1 Q C8.E0) s1 := by
    have hb1 := hb s1 us I1.kIn (by rw [List.append_nil, ← r.length]; exact hl)
    rw [List.append_nil] at hb1
    refine run_ofS (N := Ng) (ps := ps) (us := us) (vs := vs) lk hcg Sg hr I1.env0 hb1 r hl fun hr' => ?_
    obtain ⟨t', ht', hq'⟩ := hG X.A X.stack s1 H1 vs f c' _ Q hr' (by rw [hcl c']; exact cells_of I1 (cp I1.ok)) (fun y c e => by rw [hcl c'] at e; exact cells_apart I1 hfn ((cp I1.ok).sub y c e)) q
    exact ⟨t', ht'.nox, hq'⟩
  refine wpAny_call (codeAny_mono rc fun r s2 hq => ?_)
  cases r with
  | error e => exact (show False from hq).elim
  | ok fl =>
    cases fl with
    | ret u => exact I1.after hq
    | next => exact False.elim hq
    | brk => exact False.elim hq
    | cont => exact False.elim hq
end
end K80

namespace K80
open PySem PySem.Spec L2 NdefX LamX
open PyProof.Rows hiding St
local macro_rules | `(tactic| walk_at "ee") => `(tactic| first
  | ((with_reducible apply e_vd); exact rfl)
  | ((with_reducible apply e_vl); exact rfl)
  | ((with_reducible apply e_vv); exact rfl)
  | (with_reducible exact e_ci)
  | (with_reducible exact e_cs)
  | (with_reducible exact e_cb)
  | (with_reducible exact e_cn)
  | (with_reducible exact e_hole)
  | ((with_reducible apply e_ixT); (walk_at "ee"); (walk_at "ee"); (first | decide | omega); exact rfl)
  | ((with_reducible apply e_ixL); (walk_at "ee"); (walk_at "ee"); (first | decide | omega); exact rfl)
  | ((with_reducible apply e_tup); (walk_at "ea"); (exact rfl); (exact Nat.le_of_ble_eq_true rfl))
  | ((with_reducible apply e_lst); (walk_at "ea"); (exact rfl); (exact Nat.le_of_ble_eq_true rfl))
  | ((with_reducible apply e_lenT); (walk_at "ee"))
  | ((with_reducible apply e_lenL); (walk_at "ee"))
  | ((with_reducible apply e_eqS); (walk_at "ee"); (walk_at "ee"))
  | ((with_reducible apply e_eqI); (walk_at "ee"); (walk_at "ee"))
  | ((with_reducible apply e_neS); (walk_at "ee"); (walk_at "ee"))
  | ((with_reducible apply e_neI); (walk_at "ee"); (walk_at "ee"))
  | ((with_reducible apply e_i0); (walk_at "ee"); (walk_at "ee"))
  | ((with_reducible apply e_b0); (walk_at "ee"); (walk_at "ee"))
  | ((with_reducible apply e_isN); (walk_at "ee"))
  | ((with_reducible apply e_notN); (walk_at "ee"))
  | ((with_reducible apply e_tupOf); (walk_at "ee"))
  | ((with_reducible apply e_tail); (walk_at "ee"); (walk_at "ee"))
  | ((with_reducible apply e_call); (walk_at "ea"); (walk_at "own"))
  | ((with_reducible apply e_cat); (walk_at "ee"); (walk_at "ee"); (exact Nat.le_of_ble_eq_true rfl))
  | ((with_reducible apply e_andV); (walk_at "ee"); intro _; (walk_at "ee"))
  | walk_at "ee2")
local macro_rules | `(tactic| walk_at "ea") => `(tactic| first | (with_reducible exact a_nil) | ((with_reducible apply a_cons); (walk_at "ee"); (walk_at "ea")))
local macro_rules | `(tactic| walk_at "et") => `(tactic| first
  | ((with_reducible apply t_B); (walk_at "ee"))
  | ((with_reducible apply t_T); (walk_at "ee"))
  | ((with_reducible apply t_not); (walk_at "et")))
local macro_rules | `(tactic| walk_at "own") => `(tactic| fail "own")
local macro_rules | `(tactic| walk_at "ee2") => `(tactic| fail "ee2")
local macro_rules | `(tactic| walk_at "ret") => `(tactic| ((with_reducible apply s_ret); (walk_at "ee"); exact rfl))
local macro_rules | `(tactic| walk_at "retS") => `(tactic| ((with_reducible apply s_ret); (walk_at "ee"); rotate_left))

local macro_rules | `(tactic| walk_at "own") => `(tactic| first
  | exact ⟨_, _, rfl, rfl⟩
  | exact ⟨_, _, _, _, rfl, rfl⟩
  | (refine ⟨_, ?_, ?_, rfl, rfl⟩; (first | omega | assumption); assumption))
local macro_rules | `(tactic| walk_at "ee2") => `(tactic| first
  | ((with_reducible apply e_vx); exact rfl)
  | ((with_reducible apply e_vxl); exact rfl))
section
variable {P : Program} {w : World} {K : PySem.W.Frag} {mg : Str → Option Value} {base : Heap}
abbrev sPatternsOf : Stmt := (defBody sEarliest).getD 1 (.Pass ⟨0, 0, 0, 0⟩)
def sPos : Stmt → Pos
  | .FunctionDef (pos := p) .. => p
  | _ => ⟨0, 0, 0, 0⟩
abbrev nPatternsOf : List Str := ["pair", "book", "fronts", "place", "pattern"]
def nscCB (N : List Str) (x : Str) (fr : List Str) (sc : Scope) : Bool := decide (sc.kind = .function) && !sc.isCoroutine && !sc.isGenerator && decide N.Nodup && decide (N.take (1 + fr.length) = x :: fr) && decide (sc.names.lookup x = some .local) && sc.names.all (fun y => !decide (y.2 = .cell) || !decide (y.1 ∈ fr)) && sc.names.all (fun y => !decide (y.2 = .free) || decide (y.1 ∈ fr)) && fr.all (fun x => decide (sc.names.lookup x = some .free))
theorem nscC_by {N : List Str} {x : Str} {fr : List Str} {sc : Scope} (h : nscCB N x fr sc = true) : NScopeC N x fr sc := by
  unfold nscCB at h
  simp only [Bool.and_eq_true, Bool.not_eq_true', decide_eq_true_eq, List.all_eq_true, Bool.or_eq_true, decide_eq_false_iff_not] at h
  obtain ⟨⟨⟨⟨⟨⟨⟨⟨h1, h2⟩, h3⟩, h4⟩, h5⟩, h6⟩, h7⟩, h8⟩, h9⟩ := h
  exact ⟨h1, h2, h3, h4, h5, h6, fun y hy e => (h7 y hy).elim (fun z => absurd e z) id, fun y hy e => (h8 y hy).elim (fun z => absurd e z) id, h9⟩
theorem scPatternsOf : NScopeC nPatternsOf "pair" ["book", "fronts"] (C8.fnScope sPatternsOf) := nscC_by (by decide +kernel)
def mkPat (cl : List (Str × Addr)) : Addr → NF := NF.of sPatternsOf "patterns_of" "earliest.<locals>.patterns_of" cl
/-! ### patterns_of -/
def keyN (s : Nat) : PD := .tuple [.int (s : Nat), .int 0]
/-- what the captured names hold -/
def WsOk (K : PySem.W.Frag) (H : Hp) (B : LB) (F : List FT) (ws : List (Option V)) : Prop := ∃ vb vf, ws = [some vb, some vf] ∧ SlAt K H (some vb) (.d B.e) ∧ SlAt K H (some vf) (.l (fbL B.a F))
theorem WsOk.sm {H H' : Hp} {B : LB} {F : List FT} {ws : List (Option V)} (h : WsOk K H B F ws) (s : Same H H') : WsOk K H' B F ws := by
  obtain ⟨vb, vf, e, a, b⟩ := h
  exact ⟨vb, vf, e, a.sm s, b.sm s⟩
/-- the state's pattern, and what early makes of it -/
def StP (B : LB) (F : List FT) (s : Nat) (p' : Pat) : Prop := ∃ t p, F[s]? = some (some t) ∧ B.rs[s]? = some p ∧ EarR B.a F p p'
def spPat (K : PySem.W.Frag) (B : LB) (F : List FT) : List (Option V) → Sp := fun ws vs H Q _ => ∃ (s : Nat) (p' : Pat), B.ok ∧ SlAll K H vs [.d (keyN s)] ∧ WsOk K H B F ws ∧ StP B F s p' ∧ ∀ q H', Same H H' → H q = none → Ls K H' q [(Pat.lf B.a).e, p'.e] → Q (.ref q) H'
theorem sub_dep {r : Pat} (hr : r.dep = 0) : ∀ {p : Pat}, (Pat.sub r p).dep = p.dep
  | .lf x => rfl
  | .call _ _ => hr
  | .g x p => congrArg (· + 1) (sub_dep hr (p := p))
theorem sub_ok {r : Pat} (hr : r.ok) : ∀ {p : Pat}, p.ok → (Pat.sub r p).ok
  | .lf x, h => h
  | .call _ _, _ => hr
  | .g x p, h => ⟨h.1, sub_ok hr h.2⟩
theorem ear_ok {a : Str} (ha : notSign a = true) {F : List FT} {p p' : Pat} (h : EarR a F p p') (hp : p.ok) : p'.ok ∧ p'.dep = p.dep := by
  rcases h with ⟨_, rfl⟩ | ⟨m, s, k, f, _, _, rfl⟩
  · exact ⟨hp, rfl⟩
  · cases f with
    | none => exact ⟨sub_ok (r := .lf a) ha hp, sub_dep rfl⟩
    | some t => exact ⟨sub_ok (r := .call _ k) trivial hp, sub_dep rfl⟩
theorem sd_startF {H : Hp} {N : List Str} {vs : List V} {ss : Sls} (h1 : SlAll K H vs ss) : ∀ {ws : L2.St} {zs : Sls}, SD K H ws zs → SD K H (startF N vs ws) (ss ++ (zs ++ List.replicate (N.length - ss.length - ws.length) .no)) := by
  intro ws zs h2
  unfold startF
  rw [h1.length]
  have rep : ∀ n, SD K H (List.replicate n none) (List.replicate n Sl.no) := fun n => by
    induction n with
    | zero => exact trivial
    | succ n ih => exact ⟨trivial, ih⟩
  have app : ∀ {a : L2.St} {b : Sls} {c : L2.St} {d : Sls}, SD K H a b → SD K H c d → SD K H (a ++ c) (b ++ d) := by
    intro a
    induction a with
    | nil => intro b c d h h'; cases b with | nil => exact h' | cons _ _ => exact h.elim
    | cons x a ih => intro b c d h h'; cases b with | nil => exact h.elim | cons y b => exact ⟨h.1, ih h.2 h'⟩
  have map : ∀ {vs : List V} {ss : Sls}, SlAll K H vs ss → SD K H (vs.map some) ss := by
    intro vs
    induction vs with
    | nil => intro ss h; cases ss with | nil => exact trivial | cons _ _ => exact h.elim
    | cons v vs ih => intro ss h; cases ss with | nil => exact h.elim | cons _ _ => exact ⟨h.1, ih h.2⟩
  exact app (map h1) (app h2 (rep _))
theorem nok_patterns_of (T : Top K mg) (B : LB) (F : List FT) (cl : List (Str × Addr)) (f c' : Addr) (g_holes_in : GOk P w K mg base 1 "holes_in" ["front"] (spD K RHoles)) (g_early : GOk P w K mg base 6 "early" ["pattern", "fronts"] (spD K REarly))
    (g_knot_at : GOk P w K mg base 1 "knot_at" ["tree", "place"] (spD K RKnotAt)) (g_looked_at : GOk P w K mg base 7 "looked_at" ["pattern"] (spD K RLooked)) : NOk P w K mg base C8.CX0 8 f (mkPat cl c') ["pair"] ["book", "fronts"] (spPat K B F) := by
  refine nokC_of (N := nPatternsOf) scPatternsOf (fun _ _ _ _ => rfl) (fun ws vs H Q E h => ?_) (fun A outer s H v ws Q E hr hws h => ⟨_, (pss_cons (ps_set (i := 3) scPatternsOf.nd rfl (Or.inr rfl) (pe_ix ix_list (pe_g g_holes_in (hr.mono (by omega)) rfl (pa_cons (pe_ix ix_list (pv 2) (pe_ix ix_tup (pv 0) pe_int (fun _ _ => rfl)) (fun _ _ => rfl)) pa_nil)) (pe_ix ix_tup (pv 0) pe_int (fun _ _ => rfl)) (fun _ _ => rfl)))
      (pss_one (ps_ret (pe_lc (own := [("pattern", 4)]) rfl scPatternsOf.nd (pi_tup (pe_ix ix_tup (pe_ix ix_tup (pv 1) pe_int (fun _ _ => rfl)) (pe_ix ix_tup (pv 0) pe_int (fun _ _ => rfl)) (fun _ _ => rfl))) (blkOk_by (N := nPatternsOf) (sc := (C8.fnScope sPatternsOf)) (by decide +kernel)) (fun _ _ _ _ _ => (pg_name (i := 4) scPatternsOf.nd rfl (Or.inl rfl) (hf := Or.inr rfl))) (fun _ _ _ _ _ => pts_nil) (fun _ _ _ _ _ => (pe_g g_looked_at (hr.mono (by omega)) rfl (pa_cons (pe_g g_knot_at (hr.mono (by omega)) rfl (pa_cons (pe_g g_early (hr.mono (by omega)) rfl (pa_cons (pv 4) (pa_cons (pv 2) pa_nil))) (pa_cons (pv 3) pa_nil))) pa_nil))))))), ?_⟩)
  · obtain ⟨s, p', _, h1, _⟩ := h
    exact h1.length
  · obtain ⟨st, p', ok, h1, ⟨vb, vf, rfl, hb, hf⟩, ⟨t, p, hF, hp, he⟩, q⟩ := h
    have sd2 : SD K H ([some vb, some vf] : L2.St) [.d B.e, .l (fbL B.a F)] := ⟨hb, hf, trivial⟩
    have sd : SD K H (startF nPatternsOf [v] [some vb, some vf]) [.d (keyN st), .d B.e, .l (fbL B.a F), .no, .no] := sd_startF (N := nPatternsOf) h1 sd2
    obtain ⟨p1, p2, p3⟩ := ok.rs _ (List.mem_of_getElem? hp)
    have k0 : ∀ (i : Int) d δ, 0 ≤ i → δ[0]? = some (.d (keyN st)) → [PyData.int (st : Nat), .int 0][i.toNat]? = some d → Ee K (tOp (rIxT K) (tVar 0) (tC (.int i))) δ (.d d) := fun i d δ h0 e1 e2 => e_ixT (ds := [.int (st : Nat), .int 0]) (e_vd e1) e_ci h0 e2
    refine r_set (s := .d (zeros 0)) (e_ixL (ds := [zeros 0]) (e_call (ss := [.d (fbE none)]) (a_cons (e_ixL (ds := fbL B.a F) (e_vl rfl) (k0 0 _ _ (by decide) rfl rfl) (by omega) (by unfold fbL; rw [Int.toNat_natCast, List.getElem?_map, hF]; rfl)) a_nil) ⟨none, trivial, rfl, rfl⟩) (k0 1 _ _ (by decide) rfl rfl) (by decide) rfl) sd fun v3 H3 s3 sd3 => ?_
    obtain ⟨e1, e2⟩ := ear_ok ok.a.1 he p1
    refine r_retN (n_lcT (ds := [(Pat.lf B.a).e, p.e]) (es := [(Pat.lf B.a).e, p'.e]) (js := [4]) (δ2 := fun d => [.d (keyN st), .d B.e, .l (fbL B.a F), .d (zeros 0), .d d])
      (e_ixT (ds := B.rs.map B.rowE) (e_ixT (ds := [B.I.e, B.outs, B.head.e, .tuple (B.rs.map B.rowE)]) (e_vd rfl) e_ci (by decide) rfl) (k0 0 _ _ (by decide) rfl rfl) (by omega) (row_ixT hp)) (by decide) rfl (by simp) (fun i d hd => ?_)) sd3 fun r H4 s4 n4 l4 => q r H4 (s3.trans s4) (s3.free n4) l4
    have one : ∀ (p p' : Pat), p.dep < 4 → p.ok → p'.dep < 4 → p'.ok → EarR B.a F p p' → Ee K _ [.d (keyN st), .d B.e, .l (fbL B.a F), .d (zeros 0), .d p.e] (.d p'.e) := fun p p' a1 a2 a3 a4 he =>
      e_call (E := E0) (ss := [.d p'.e]) (a_cons (e_call (E := E0) (ss := [.d p'.e, .d (zeros 0)]) (a_cons (e_call (E := E0) (ss := [.d p.e, .l (fbL B.a F)]) (a_cons (e_vd (i := 4) rfl) (a_cons (e_vl (i := 2) rfl) a_nil)) (R := REarly) ⟨B.a, F, p, p', a1, a2, ok.a, he, rfl, rfl⟩) (a_cons (e_vd (i := 3) rfl) a_nil)) (R := RKnotAt) ⟨p', p', 0, by cases p' <;> rfl, rfl, rfl⟩) a_nil) (R := RLooked) ⟨p', a3, a4, rfl, rfl⟩
    match i, hd with
    | 0, hd =>
      have ed : (Pat.lf B.a).e = d := by simpa using hd
      subst ed
      exact ⟨_, rfl, g_name, one (.lf B.a) (.lf B.a) (by show 0 < 4; decide) ok.a.1 (by show 0 < 4; decide) ok.a.1 (.inl ⟨rfl, rfl⟩)⟩
    | 1, hd =>
      have ed : p.e = d := by simpa using hd
      subst ed
      exact ⟨_, rfl, g_name, one p p' (by omega) p1 (by omega) e1 he⟩
    | i + 2, hd => simp at hd
end
end K80

namespace K80
open PySem PySem.Spec L2 NdefX LamX
open PyProof.Rows hiding St
local macro_rules | `(tactic| walk_at "ee") => `(tactic| first
  | ((with_reducible apply e_vd); exact rfl)
  | ((with_reducible apply e_vl); exact rfl)
  | ((with_reducible apply e_vv); exact rfl)
  | (with_reducible exact e_ci)
  | (with_reducible exact e_cs)
  | (with_reducible exact e_cb)
  | (with_reducible exact e_cn)
  | (with_reducible exact e_hole)
  | ((with_reducible apply e_ixT); (walk_at "ee"); (walk_at "ee"); (first | decide | omega); exact rfl)
  | ((with_reducible apply e_ixL); (walk_at "ee"); (walk_at "ee"); (first | decide | omega); exact rfl)
  | ((with_reducible apply e_tup); (walk_at "ea"); (exact rfl); (exact Nat.le_of_ble_eq_true rfl))
  | ((with_reducible apply e_lst); (walk_at "ea"); (exact rfl); (exact Nat.le_of_ble_eq_true rfl))
  | ((with_reducible apply e_lenT); (walk_at "ee"))
  | ((with_reducible apply e_lenL); (walk_at "ee"))
  | ((with_reducible apply e_eqS); (walk_at "ee"); (walk_at "ee"))
  | ((with_reducible apply e_eqI); (walk_at "ee"); (walk_at "ee"))
  | ((with_reducible apply e_neS); (walk_at "ee"); (walk_at "ee"))
  | ((with_reducible apply e_neI); (walk_at "ee"); (walk_at "ee"))
  | ((with_reducible apply e_i0); (walk_at "ee"); (walk_at "ee"))
  | ((with_reducible apply e_b0); (walk_at "ee"); (walk_at "ee"))
  | ((with_reducible apply e_isN); (walk_at "ee"))
  | ((with_reducible apply e_notN); (walk_at "ee"))
  | ((with_reducible apply e_tupOf); (walk_at "ee"))
  | ((with_reducible apply e_tail); (walk_at "ee"); (walk_at "ee"))
  | ((with_reducible apply e_call); (walk_at "ea"); (walk_at "own"))
  | ((with_reducible apply e_cat); (walk_at "ee"); (walk_at "ee"); (exact Nat.le_of_ble_eq_true rfl))
  | ((with_reducible apply e_andV); (walk_at "ee"); intro _; (walk_at "ee"))
  | walk_at "ee2")
local macro_rules | `(tactic| walk_at "ea") => `(tactic| first | (with_reducible exact a_nil) | ((with_reducible apply a_cons); (walk_at "ee"); (walk_at "ea")))
local macro_rules | `(tactic| walk_at "et") => `(tactic| first
  | ((with_reducible apply t_B); (walk_at "ee"))
  | ((with_reducible apply t_T); (walk_at "ee"))
  | ((with_reducible apply t_not); (walk_at "et")))
local macro_rules | `(tactic| walk_at "own") => `(tactic| fail "own")
local macro_rules | `(tactic| walk_at "ee2") => `(tactic| fail "ee2")
local macro_rules | `(tactic| walk_at "ret") => `(tactic| ((with_reducible apply s_ret); (walk_at "ee"); exact rfl))
local macro_rules | `(tactic| walk_at "retS") => `(tactic| ((with_reducible apply s_ret); (walk_at "ee"); rotate_left))

local macro_rules | `(tactic| walk_at "own") => `(tactic| first
  | exact ⟨_, _, rfl, rfl⟩
  | exact ⟨_, _, _, _, rfl, rfl⟩
  | (refine ⟨_, ?_, ?_, rfl, rfl⟩; (first | omega | assumption); assumption))
local macro_rules | `(tactic| walk_at "ee2") => `(tactic| first
  | ((with_reducible apply e_vx); exact rfl)
  | ((with_reducible apply e_vxl); exact rfl))
local macro_rules | `(tactic| walk_at "wk") => `(tactic| first
  | exact Wk.nil
  | ((apply Wk.same); (walk_at "wk"))
  | ((apply Wk.no); (walk_at "wk")))
/-! ### lists of lists, further -/
section
variable {P : Program} {w : World} {K : PySem.W.Frag} {δ δ2 : Sls} {te ti ts ta : TE} {D : Ends} {σ : L2.St} {H H' : Hp} {t u : TS} {p q d : Addr} {ds es : List PD} {ess : List (List PD)} {kvs : List (PD × PD)} {g : TG} {js vs : List Nat} {tb : TS}
theorem e_lenLL (ha : Ee K ta δ (.x (isLL K ess))) : Ee K (tCB (rLenQ K) (tCons ta tNil)) δ (.d (.int (ess.length : Nat))) := fun σ H Q sd q => by
  refine ha σ H _ sd fun v H1 s1 ⟨w1, e1, f⟩ => ?_
  cases e1
  obtain ⟨p, rfl, xs, h1, h2, h3⟩ := f H1 (Same.refl H1)
  refine ⟨p, xs, rfl, .inl (SqL.of h1), ?_⟩
  rw [h2]
  exact q _ H1 s1 ⟨_, rfl, .int _⟩
theorem SD.lx {i : Nat} (sd : SD K H σ δ) (h : δ[i]? = some (.v (.ref p))) (hl : LL K H p ess) : SD K H σ (δ.set i (.x (isLL K ess))) := by
  obtain ⟨o, h1, h2⟩ := sd.get h
  cases (show o = some (.ref p) from h2)
  exact sd.chg h1 (isLL_at hl)
theorem SD.vl {i : Nat} (sd : SD K H σ δ) (h : δ[i]? = some (.v (.ref p))) (hl : Ls K H p ds) : SD K H σ (δ.set i (.l ds)) := by
  obtain ⟨o, h1, h2⟩ := sd.get h
  cases (show o = some (.ref p) from h2)
  exact sd.chg h1 hl.l
theorem e_lcx {δ2 : List PD → Sls} (hs : Ee K ts δ (.x (isLL K ess))) (hj : ∀ j ∈ js, j ∈ vs) (hlen : es.length = ess.length) (hl : es.length ≤ 100000)
    (he : ∀ (i : Nat) ds, ess[i]? = some ds → ∃ e, es[i]? = some e ∧ Eg K g js (.l ds) (wipeS δ vs) (δ2 ds) ∧ Ee K te (δ2 ds) (.d e)) : Ee K (tLc (iList K ts) g tYes te vs) δ (.l es) := fun σ H Q sd q => by
  refine hs σ H _ sd fun v H1 s1 ⟨w1, e1, f⟩ => ?_
  cases e1
  obtain ⟨a, rfl, xs, p1, p2, p3⟩ := f H1 (Same.refl H1)
  refine ⟨a, rfl, ⟨_, SqL.of p1⟩, fun Dl nD => ?_⟩
  refine lc_list (xs := xs) (Pv := fun i H' => Same H1 H' ∧ ∃ xs, H' Dl = some (.lst xs) ∧ TpAll K H' xs (es.take i)) ⟨same_upd nD, [], upd_same, .nil⟩ (fun i H' _ ⟨s2, _⟩ => SqL.of (s2 _ _ p1)) (fun i x H' hx ⟨s2, acc⟩ => ?_) (fun H' ⟨s2, acc⟩ => ?_)
  · have hi : i < ess.length := by rw [← p2]; exact (List.getElem?_eq_some_iff.mp hx).1
    have hds : ess[i]? = some ess[i] := List.getElem?_eq_getElem hi
    obtain ⟨q1, g1, g2, g3⟩ := p3 i _ hds
    rw [hx] at g1
    cases g1
    obtain ⟨e, hei, hg, hee⟩ := he i _ hds
    exact lc_turn (sx := .l _) nD s2 ((sd.sm (s1.trans s2)).wipe vs) (g3.sm s2).l hg hj hee hei hl acc
  · obtain ⟨ys, h1, h2⟩ := acc
    rw [p2, ← hlen, List.take_length] at h2
    exact q _ H' (s1.trans s2) ⟨Dl, ys, rfl, h1, h2⟩
theorem r_appRef {i j : Nat} (sd : SD K H σ δ) (hi : δ[i]? = some (.v (.ref p))) (hj : δ[j]? = some (.v (.ref q))) (hp : LL K H p ess) (hq : Ls K H q es) (npq : q ≠ p) (hl : ess.length < 100000) (n : noL δ = true)
    (k : ∀ H', Off p H H' → LL K H' p (ess ++ [es]) → SD K H' σ δ → D.nx σ H') : tDrop (tBM K "list" rAppend (tVar i) (tCons (tVar j) tNil)) D σ H := by
  obtain ⟨xs, h1, h2, h3⟩ := hp
  obtain ⟨o, g1, g2⟩ := sd.get hi
  cases (show o = some (.ref p) from g2)
  obtain ⟨o2, g3, g4⟩ := sd.get hj
  cases (show o2 = some (.ref q) from g4)
  refine ⟨_, g1, .inl ⟨rfl, _, SqL.of h1⟩, ?_⟩
  refine ⟨_, g3, ?_⟩
  have oP : Off p H (upd H p (.lst (xs ++ [V.ref q]))) := Off.upd
  refine ⟨p, xs, _, rfl, rfl, h1, sz5' (by omega), ?_⟩
  refine k _ oP ⟨_, upd_same, by rw [List.length_append, List.length_append, h2]; rfl, fun i es' e => ?_⟩ (sd.tt (tt_lst h1) n)
  by_cases hi2 : i < ess.length
  · rw [List.getElem?_append_left hi2] at e
    obtain ⟨q1, a, b, c⟩ := h3 i es' e
    exact ⟨q1, by rw [List.getElem?_append_left (by omega)]; exact a, b, c.off oP b h1⟩
  · rw [List.getElem?_append_right (by omega)] at e
    have i0 : i - ess.length = 0 := by
      have z := (List.getElem?_eq_some_iff.mp e).1
      simp at z
      omega
    rw [i0] at e
    have ee : es = es' := by simpa using e
    subst ee
    exact ⟨q, by rw [List.getElem?_append_right (by omega), show i - xs.length = 0 by omega]; rfl, npq, hq.off oP npq h1⟩
theorem r_callD' {sp : Sp} {E : XK} {ta : TA} {ss : Sls} (ha : Ea K ta δ ss) (sd : SD K H σ δ) (k : ∀ vs H', Same H H' → SlAll K H' vs ss → sp vs H' (fun v H2 => u D σ H2) E) : tSeq (tDrop (tCall sp [] E ta)) u D σ H := by
  refine ha σ H _ sd fun vs H1 s1 h => ?_
  show sp (vs ++ []) H1 _ E
  rw [List.append_nil]
  exact k vs H1 s1 h
theorem r_setListDc {i j : Nat} (sd : SD K H σ δ) (hi : δ[i]? = some (.v (.ref d))) (hd : Dc P w K H d kvs) (k : ∀ p H', Same H H' → H p = none → Ls K H' p (kvs.map (·.1)) → SD K H' (σ.set j (some (.ref p))) (δ.set j (.v (.ref p))) → u D (σ.set j (some (.ref p))) H') :
    tSeq (tAsg (tCB (rListDc P w K) (tCons (tVar i) tNil)) (gName j)) u D σ H := by
  obtain ⟨o, g1, g2⟩ := sd.get hi
  cases (show o = some (.ref d) from g2)
  refine ⟨_, g1, ?_⟩
  exact ⟨d, kvs, rfl, hd, fun p H1 n1 s1 l1 => k p H1 s1 n1 l1 (SD.set (show SlAt K H1 (some (.ref p)) (.v (.ref p)) from rfl) j (sd.sm s1))⟩
theorem LL.offP {xs : List V} {q : Addr} (h : LL K H p ess) (o : Off q H H') (hq : H q = some (.lst xs)) (n : p ≠ q) (nn : ∀ (i : Nat) es, ess[i]? = some es → ∀ a, Ls K H a es → True) : True := trivial
end
section
variable {P : Program} {w : World} {K : PySem.W.Frag} {mg : Str → Option Value} {base : Heap}
/-! ### the numbering, in plain Lean -/
def kvN (ks : List Nat) : List (PD × PD) := ks.zipIdx.map fun x => (keyN x.1, .int (x.2 : Nat))
theorem kvN_len (ks : List Nat) : (kvN ks).length = ks.length := by unfold kvN; rw [List.length_map, List.length_zipIdx]
theorem kvN_snoc (ks : List Nat) (s : Nat) : kvN (ks ++ [s]) = kvN ks ++ [(keyN s, .int ((kvN ks).length : Nat))] := by
  rw [kvN_len]
  unfold kvN
  rw [List.zipIdx_append, List.map_append]
  simp
theorem kvN_keys (ks : List Nat) : (kvN ks).map (·.1) = ks.map keyN := by
  unfold kvN
  rw [List.map_map]
  have e : ((fun x : PD × PD => x.1) ∘ fun x : Nat × Nat => (keyN x.1, PyData.int (x.2 : Nat))) = keyN ∘ Prod.fst := rfl
  rw [e, ← List.map_map, List.zipIdx_map_fst]
theorem keyN_inj {s t : Nat} (h : keyN s = keyN t) : s = t := by
  unfold keyN at h
  have h1 := PyData.tuple.inj h
  rw [List.cons.injEq] at h1
  have a := PyData.int.inj h1.1
  omega
theorem kvN_at {ks : List Nat} {i s : Nat} (h : ks[i]? = some s) : (keyN s, PyData.int (i : Nat)) ∈ kvN ks := List.mem_map.mpr ⟨(s, i), List.mem_zipIdx_iff_getElem?.mpr h, rfl⟩
theorem kvN_in {ks : List Nat} {s : Nat} (h : s ∈ ks) : ∃ e, (keyN s, e) ∈ kvN ks := by
  obtain ⟨i, hi⟩ := List.mem_iff_getElem?.mp h
  exact ⟨_, kvN_at hi⟩
theorem kvN_not {ks : List Nat} {s : Nat} (h : s ∉ ks) : keyN s ∉ (kvN ks).map (·.1) := fun m => by
  rw [kvN_keys] at m
  obtain ⟨t, ht, e⟩ := List.mem_map.mp m
  exact h (keyN_inj e ▸ ht)
/-- a pattern met -/
def MetN (ks : List Nat) (p : Pat) (ks' : List Nat) : Prop := (p.at = none ∧ ks' = ks) ∨ ∃ m s k, p.at = some (m, keyN s, k) ∧ ((s ∈ ks ∧ ks' = ks) ∨ (s ∉ ks ∧ ks' = ks ++ [s]))
theorem MetN.r {ks ks' : List Nat} {p : Pat} (h : MetN ks p ks') : MetR p (kvN ks) (kvN ks') := by
  rcases h with ⟨h, rfl⟩ | ⟨m, s, k, h, ⟨h1, rfl⟩ | ⟨h1, rfl⟩⟩
  · exact .inl ⟨h, rfl⟩
  · exact .inr ⟨m, keyN s, k, h, .flat _ _, .inl ⟨kvN_in h1, rfl⟩⟩
  · exact .inr ⟨m, keyN s, k, h, .flat _ _, .inr ⟨kvN_not h1, kvN_snoc _ _⟩⟩
theorem MetN.pre {ks ks' : List Nat} {p : Pat} (h : MetN ks p ks') : ks <+: ks' := by
  rcases h with ⟨h, rfl⟩ | ⟨m, s, k, h, ⟨h1, rfl⟩ | ⟨h1, rfl⟩⟩
  · exact List.prefix_refl _
  · exact List.prefix_refl _
  · exact List.prefix_append _ _
/-- the states met, from those met and the r whose rules are known -/
inductive NumRun (nx : Nat → Pat) : Nat → List Nat → Nat → List Nat → Prop
  | stop {ks} : NumRun nx 0 ks ks.length ks
  | step {n ks r s ks' R} : ks[r]? = some s → MetN ks (nx s) ks' → NumRun nx n ks' (r + 1) R → NumRun nx (n + 1) ks r R
theorem NumRun.pre {nx : Nat → Pat} {n : Nat} {ks : List Nat} {r : Nat} {R : List Nat} (h : NumRun nx n ks r R) : ks <+: R := by
  induction h with
  | stop => exact List.prefix_refl _
  | step _ h2 _ ih => exact h2.pre.trans ih
/-- a pattern renamed -/
def RenN (R : List Nat) (p p' : Pat) : Prop := (p.at = none ∧ p' = p) ∨ ∃ m s k i, p.at = some (m, keyN s, k) ∧ R[i]? = some s ∧ p' = Pat.sub (.call (.int ((i : Nat) : Int)) k) p
theorem RenN.r {R : List Nat} {p p' : Pat} (h : RenN R p p') : RenR p (kvN R) p' := by
  rcases h with ⟨h, rfl⟩ | ⟨m, s, k, i, h1, h2, rfl⟩
  · exact .inl ⟨h, rfl⟩
  · exact .inr ⟨m, _, _, k, _, h1, kvN_at h2, rfl⟩
/-- numbered's work on the book B, its fronts F: from the head h0 and the states' patterns nx to h1 and rs -/
structure NumOk (B : LB) (F : List FT) (h0 : Pat) (nx : Nat → Pat) (R : List Nat) (h1 : Pat) (rs : List Pat) : Prop where
  run : ∃ n ks0, MetN [] h0 ks0 ∧ NumRun nx n ks0 0 R
  len : R.length ≤ 20
  hd : h0.ok ∧ h0.dep < 4
  st : ∀ s ∈ R, StP B F s (nx s)
  ok : ∀ s ∈ R, (nx s).ok ∧ (nx s).dep < 4
  ren0 : RenN R h0 h1
  rsl : rs.length = R.length
  ren : ∀ (i : Nat) s, R[i]? = some s → ∃ p, rs[i]? = some p ∧ RenN R (nx s) p
/-- the promise of numbered, handed patterns_of -/
def TTnum (K : PySem.W.Frag) (cl : List (Str × Addr)) (f c' : Addr) (ws : List (Option V)) (vs : List V) (H : Hp) (Q : VK) : Prop := ∃ (B : LB) (F : List FT) (h0 : Pat) (nx : Nat → Pat) (R : List Nat) (h1 : Pat) (rs : List Pat),
  SlAll K H vs [.d h0.e, .v (.ref f), .d (.int 20)] ∧ H f = some (FnO f (mkPat cl c')) ∧ H c' = some (CodeO c' "earliest.<locals>.patterns_of") ∧ WsOk K H B F ws ∧ B.ok ∧ NumOk B F h0 nx R h1 rs ∧
  ∀ v H', Same H H' → SlAt K H' (some v) (.d (.tuple [h1.e, .tuple (rs.map B.rowE)])) → Q v H'
abbrev toldScope : Scope := { kind := .function, names := [(".0", .local), ("patterns", .local), ("tuple", .globalImplicit), ("numbers", .cell)], isGenerator := false, isCoroutine := false }
/-- the rules of the states known -/
def rowsN (B : LB) (nx : Nat → Pat) (ks : List Nat) : List (List PD) := ks.map fun s => [(Pat.lf B.a).e, (nx s).e]
structure NI (P : Program) (w : World) (K : PySem.W.Frag) (B : LB) (h0 : Pat) (nx : Nat → Pat) (H0 : Hp) (f d rl ml : Addr) (ks : List Nat) (r : Nat) (σ : L2.St) (H : Hp) : Prop where
  sd : SD K H σ [.d h0.e, .v (.ref f), .d (.int 20), .v (.ref d), .v (.ref ml), .v (.ref rl), .no, .no, .no]
  dd : Dc P w K H d (kvN ks)
  lm : Ls K H ml (ks.map keyN)
  lr : LL K H rl (rowsN B nx (ks.take r))
  ne : ml ≠ rl
  sm : Same H0 H
theorem gives_numbered (T : Top K mg) (cl : List (Str × Addr)) (gd : Addr) (cdg : Value) (g_met_in : GOk P w K mg base 6 "met_in" ["pattern", "numbers"] (spMet P w K)) (g_renamed : GOk P w K mg base 6 "renamed" ["pattern", "numbers"] (spD K (RRenamed P w K)))
    (NKs : ∀ B F f c', NOk P w K mg base C8.CX0 8 f (mkPat cl c') ["pair"] ["book", "fronts"] (spPat K B F)) :
    GivesF P w K mg base 8 nNumbered "numbered" (defScope sNumbered) gd cdg (defBody sNumbered) (mkPat cl) ["book", "fronts"] (TTnum K cl) := by
  intro A outer s H vs f c' ws Q hr CA nf h
  obtain ⟨B, F, h0, nx, R, h1, rs, hv, hf, hc, hws, ok, nok, q⟩ := h
  have NK := NKs B F f c'
  have nfs : ∀ y c, (mkPat cl c').cl.lookup y = some c → c ∉ (cxOf C8.CX0 P w K mg base nNumbered "numbered" (defScope sNumbered) gd cdg A outer s H C8.E0).nox.fs := nf
  have nxs : ∀ y c, (mkPat cl c').cl.lookup y = some c → c ∉ (cxOf C8.CX0 P w K mg base nNumbered "numbered" (defScope sNumbered) gd cdg A outer s H C8.E0).nox.ex := fun y c _ z => nomatch (show c ∈ ([] : List Addr) from z)
  refine ⟨_, (pss_cons (ps_set (i := 3) scNumbered.nd rfl (Or.inr rfl) pe_dcNew)
      (pss_cons (ps_expr (pe_g g_met_in (hr.mono (by omega)) rfl (pa_cons (pv 0) (pa_cons (pv 3) pa_nil))))
      (pss_cons (ps_set (i := 4) scNumbered.nd rfl (Or.inl rfl) (pe_callTy (call_list_dc rfl) (by rfl) T.b_list (by decide +kernel) (pa_cons (pv 3) pa_nil)))
      (pss_cons (ps_set (i := 5) scNumbered.nd rfl (Or.inl rfl) (pe_lst pa_nil))
      (pss_cons (ps_while PassesOwn.never (pt_cmpR op_lt (pe_callB call_len_seq (by rfl) T.b_len PySem.boot_len (pa_cons (pv 5) pa_nil)) (pe_callB call_len_seq (by rfl) T.b_len PySem.boot_len (pa_cons (pv 4) pa_nil)) (nomark _)) (pss_cons (ps_if (pt_cmpR op_gt (pe_callB call_len_seq (by rfl) T.b_len PySem.boot_len (pa_cons (pv 4) pa_nil)) (pv 2) (nomark _)) (pss_one ps_never) pss_nil)
      (pss_cons (ps_set (i := 6) scNumbered.nd rfl (Or.inl rfl) (pe_callF (i := 1) NK CA nfs nxs hr (by omega) pass0 rfl (Or.inl rfl) (pa_cons (pe_ix ix_list (pv 4) (pe_callB call_len_seq (by rfl) T.b_len PySem.boot_len (pa_cons (pv 5) pa_nil)) (fun _ _ => rfl)) pa_nil)))
      (pss_cons (ps_for PassesOwn.never rfl (pi_list (pv 6)) (pg_name (i := 7) scNumbered.nd rfl (Or.inl rfl)) (pss_one (ps_expr (pe_g g_met_in (hr.mono (by omega)) rfl (pa_cons (pv 7) (pa_cons (pv 3) pa_nil))))))
      (pss_cons (ps_set (i := 4) scNumbered.nd rfl (Or.inl rfl) (pe_callTy (call_list_dc rfl) (by rfl) T.b_list (by decide +kernel) (pa_cons (pv 3) pa_nil)))
      (pss_one (ps_expr (pe_bm PySem.F.plainAttrs_list PySem.F.slot_list_append PySem.F.type_list_append mt_append (pv 5) (pa_cons (pv 6) pa_nil)))))))))
      (pss_cons (ps_setLc (i := 8) (own := [("patterns", 6)]) rfl scNumbered.nd rfl rfl (sw_true rfl rfl rfl (by decide +kernel)) (pi_list (pv 5)) (blkOk_by (N := nNumbered) (sc := (defScope sNumbered)) (by decide +kernel)) (fun _ _ _ _ _ => (pg_name (i := 6) scNumbered.nd rfl (Or.inl rfl) (hf := Or.inr rfl))) (fun _ _ _ _ _ => pts_nil) (fun _ _ _ _ _ => (pe_callTy (call_tupleK (K := K) rfl) (by rfl) T.b_tuple (by decide +kernel) (pa_cons (pe_lc (own := [("pattern", 7)]) rfl scNumbered.nd (pi_listK (K := K) rfl (pv 6)) (blkOk_by (N := nNumbered) (sc := toldScope) (by decide +kernel)) (fun _ _ _ _ _ => (pg_name (i := 7) scNumbered.nd rfl (Or.inl rfl) (hf := Or.inr rfl))) (fun _ _ _ _ _ => pts_nil) (fun _ _ _ _ _ => (pe_g g_renamed (hr.mono (by omega)) rfl (pa_cons (pv 7) (pa_cons (pv 3) pa_nil))))) pa_nil))))
      (pss_one (ps_ret (pe_tup (pa_cons (pe_g g_renamed (hr.mono (by omega)) rfl (pa_cons (pv 0) (pa_cons (pv 3) pa_nil))) (pa_cons (pe_callTy call_tuple_of (by rfl) T.b_tuple (by decide +kernel) (pa_cons (pv 8) pa_nil)) pa_nil))))))))))), ?_⟩
  have sd := sd_st (N := nNumbered) hv
  obtain ⟨n0, ks0, m0, run⟩ := nok.run
  refine r_newD sd fun d H1 s1 n1 d1 sd1 => ?_
  refine r_callD' (ss := [.d h0.e, .v (.ref d)]) (a_cons (e_vd rfl) (a_cons (e_vv rfl) a_nil)) sd1 fun vs2 H2 s2 h2 => ?_
  refine ⟨h0, d, [], kvN ks0, h2, nok.hd.2, nok.hd.1, d1.sm s2, by simp, m0.r, fun H3 o3 d3 => ?_⟩
  have s03 : Same H H3 := o3.same (s1.trans s2) n1
  have sd3 := (sd1.sm s2).offD o3 (d1.sm s2) rfl
  refine r_setListDc (i := 3) sd3 rfl d3 fun ml H4 s4 n4 l4 sd4 => ?_
  rw [kvN_keys] at l4
  refine r_newL sd4 fun rl H5 s5 n5 l5 sd5 => ?_
  have d5 := (d3.sm s4).sm s5
  have s05 : Same H H5 := (s03.trans s4).trans s5
  have nr0 : H rl = none := (s03.trans s4).free n5
  have nmr : ml ≠ rl := by
    obtain ⟨xs, z, _⟩ := l4
    exact ne_of_none z n5
  have lr5 : LL K H5 rl (rowsN B nx (ks0.take 0)) := by
    obtain ⟨xs, z1, z2⟩ := l5
    cases z2
    exact ⟨[], z1, by simp [rowsN], fun i es e => by simp [rowsN] at e⟩
  refine ⟨fun n σ' H' => ∃ ml ks r, NumRun nx n ks r R ∧ r ≤ ks.length ∧ NI P w K B h0 nx H f d rl ml ks r σ' H', ⟨n0, ml, ks0, 0, run, Nat.zero_le _, ⟨SD.wk sd5 (by walk_at "wk"), d5, l4.sm s5, lr5, nmr, s05⟩⟩, ?_⟩
  rintro n σa Ha ⟨ml, ks, r, run, hrk, I⟩
  have hks : ks.length ≤ 20 := Nat.le_trans run.pre.length_le nok.len
  have sda := (I.sd.vl (i := 4) rfl I.lm).lx (i := 5) rfl I.lr
  have lenr : (rowsN B nx (ks.take r)).length = r := by unfold rowsN; rw [List.length_map, List.length_take]; omega
  have lenk : (ks.map keyN).length = ks.length := List.length_map _
  refine t_T (e_b0 (f := fun i j => decide (i < j)) (i := (r : Nat)) (j := (ks.length : Nat)) ((e_lenLL (e_vx rfl)).to (by rw [lenr])) ((e_lenL (e_vl rfl)).to (by rw [lenk]))) σa Ha _ sda fun Hb sb => ?_
  cases run with
  | @step n _ _ st ks' _ h1s hm run' =>
    have hr' : r < ks.length := (List.getElem?_eq_some_iff.mp h1s).1
    have hks' : ks'.length ≤ 20 := Nat.le_trans run'.pre.length_le nok.len
    rw [decide_eq_true (show ((r : Nat) : Int) < (ks.length : Nat) by omega)]
    refine iteT ⟨_, fun _ _ h => h, ?_⟩
    have hsR : st ∈ R := ((hm.pre.trans run'.pre).subset (List.mem_of_getElem? h1s))
    have dd := I.dd.sm sb
    have lr := I.lr.sm sb
    have sdb := (I.sd.vl (i := 4) rfl I.lm).sm sb
    have lenm : ([.d h0.e, .v (.ref f), .d (.int 20), .v (.ref d), .l (ks.map keyN), .v (.ref rl), .no, .no, .no] : Sls)[4]? = some (.l (ks.map keyN)) := rfl
    refine r_seq (N := fun δ' => δ' = [.d h0.e, .v (.ref f), .d (.int 20), .v (.ref d), .l (ks.map keyN), .v (.ref rl), .no, .no, .no])
      (s_ifF (b := decide ((20 : Int) < (ks.length : Nat))) (t_T (e_b0 (f := fun i j => decide (j < i)) (i := (ks.length : Nat)) (j := 20) ((e_lenL (e_vl rfl)).to (by rw [lenk])) (e_vd rfl))) (decide_eq_false (by omega)) (s_next rfl)) sdb fun σc Hc δc sc sdc ec => ?_
    subst ec
    obtain ⟨o, g1, g2⟩ := SD.get (i := 1) sdc rfl
    cases (show o = some (.ref f) from g2)
    have sHc : Same H Hc := (I.sm.trans sb).trans sc
    refine ⟨g1, sHc _ _ hf, ?_⟩
    have sdc' := sdc.lx (i := 5) rfl (lr.sm sc)
    refine (a_cons (e_ixL (ds := ks.map keyN) (d := keyN st) (e_vl rfl) ((e_lenLL (e_vx rfl)).to (s' := .d (.int (r : Nat))) (by rw [lenr])) (by omega) (by rw [Int.toNat_natCast, List.getElem?_map, h1s]; rfl)) a_nil) σc Hc _ sdc' fun vsd Hd sd_ hd_ => ?_
    have sHd : Same H Hd := sHc.trans sd_
    refine ⟨sHd _ _ hf, sHd _ _ hc, st, nx st, ok, hd_, hws.sm sHd, nok.st st hsR, fun pl He se ne le => ?_⟩
    have sde : SD K He (σc.set 6 (some (.ref pl))) [.d h0.e, .v (.ref f), .d (.int 20), .v (.ref d), .l (ks.map keyN), .v (.ref rl), .v (.ref pl), .no, .no] := SD.set (s := .v (.ref pl)) rfl 6 ((sdc.sm sd_).sm se)
    have lre := ((lr.sm sc).sm sd_).sm se
    have dde := ((dd.sm sc).sm sd_).sm se
    have npr : pl ≠ rl := by
      obtain ⟨xs, z, _⟩ := (lr.sm sc).sm sd_
      exact fun e => by rw [e, z] at ne; cases ne
    have sHe : Same H He := sHd.trans se
    refine r_forP (te := tVar 6) (e_vv rfl) sde le fun Hf sf => ⟨fun i σ' H' => SD K H' σ' [.d h0.e, .v (.ref f), .d (.int 20), .v (.ref d), .l (ks.map keyN), .v (.ref rl), .v (.ref pl), .no, .no] ∧ Ls K H' pl [(Pat.lf B.a).e, (nx st).e] ∧ Dc P w K H' d (kvN (if i < 2 then ks else ks')) ∧ LL K H' rl (rowsN B nx (ks.take r)) ∧ Same H H',
      ⟨sde.sm sf, le.sm sf, dde.sm sf, lre.sm sf, sHe.trans sf⟩, fun i σ' H' h => h.2.1, fun i e v σ' H' hi tv ⟨ja, jb, jc, jd, je⟩ => ?_, fun σ' H' ⟨ja, jb, jc, jd, je⟩ => ?_⟩
    · have pat : ∃ p : Pat, p.e = e ∧ p.dep < 4 ∧ p.ok ∧ MetR p (kvN (if i < 2 then ks else ks')) (kvN (if i + 1 < 2 then ks else ks')) := by
        match i, hi with
        | 0, hi => exact ⟨.lf B.a, by simpa using hi, by show 0 < 4; decide, ok.a.1, .inl ⟨rfl, rfl⟩⟩
        | 1, hi => exact ⟨nx st, by simpa using hi, (nok.ok st hsR).2, (nok.ok st hsR).1, hm.r⟩
        | i + 2, hi => simp at hi
      obtain ⟨p, rfl, p1, p2, p3⟩ := pat
      have sd7 : SD K H' (σ'.set 7 (some v)) [.d h0.e, .v (.ref f), .d (.int 20), .v (.ref d), .l (ks.map keyN), .v (.ref rl), .v (.ref pl), .d p.e, .no] := SD.set (s := .d p.e) ⟨v, rfl, tv⟩ 7 ja
      refine r_callD (ss := [.d p.e, .v (.ref d)]) (a_cons (e_vd rfl) (a_cons (e_vv rfl) a_nil)) sd7 fun vs8 H8 s8 h8 => ?_
      refine ⟨p, d, _, _, h8, p1, p2, jc.sm s8, ?_, p3, fun H9 o9 d9 => ?_⟩
      · rw [kvN_len]; split <;> omega
      · exact ⟨SD.wk ((sd7.sm s8).offD o9 (jc.sm s8) rfl) (by walk_at "wk"), (jb.sm s8).offD o9 (jc.sm s8), d9, (jd.sm s8).offD o9 (jc.sm s8), o9.same (je.trans s8) n1⟩
    · refine r_setListDc (i := 3) ja rfl jc fun ml2 H8 s8 n8 l8 sd8 => ?_
      rw [kvN_keys] at l8
      have nmr2 : ml2 ≠ rl := by
        obtain ⟨xs, z, _⟩ := jd
        exact fun e => by rw [e, z] at n8; cases n8
      refine r_appRef (p := rl) (q := pl) (i := 5) (j := 6) sd8 rfl rfl (jd.sm s8) (jb.sm s8) npr (by rw [lenr]; omega) rfl fun H9 o9 l9 sd9 => ?_
      obtain ⟨xr, zr, _⟩ := jd.sm s8
      refine ⟨n, Nat.lt_succ_self _, ml2, ks', r + 1, run', ?_, ⟨SD.wk sd9 (by walk_at "wk"), (jc.sm s8).off o9 zr, l8.off o9 nmr2 zr, ?_, nmr2, o9.same (je.trans s8) nr0⟩⟩
      · have := hm.pre.length_le; omega
      · have e : ks'.take (r + 1) = ks.take r ++ [st] := by
          obtain ⟨z, hz⟩ := hm.pre
          rw [← hz, List.take_append_of_le_length (by omega), List.take_add_one, h1s]; rfl
        have e2 : rowsN B nx (ks'.take (r + 1)) = rowsN B nx (ks.take r) ++ [[(Pat.lf B.a).e, (nx st).e]] := by
          rw [e]; unfold rowsN; rw [List.map_append]; rfl
        rw [e2]
        exact l9
  | stop =>
    rw [decide_eq_false (show ¬ ((R.length : Nat) : Int) < (R.length : Nat) by omega)]
    refine iteF ?_
    have sdd := (I.sd.lx (i := 5) rfl I.lr).dx (i := 3) rfl I.dd
    have etk : R.take R.length = R := List.take_length
    rw [etk] at sdd
    have ren : ∀ (i : Nat) (p p' : Pat) (δ : Sls), δ[i]? = some (.d p.e) → δ[3]? = some (.x (isDc P w K (kvN R))) → p.ok → p.dep < 4 → RenN R p p' → Ee K (tCall (spD K (RRenamed P w K)) [] E0 (tCons (tVar i) (tCons (tVar 3) tNil))) δ (.d p'.e) := fun i p p' δ q1 q2 q3 q4 q5 =>
      e_call (ss := [.d p.e, .x (isDc P w K (kvN R))]) (a_cons (e_vd q1) (a_cons (e_vx q2) a_nil)) ⟨p, p', kvN R, q4, q3, q5.r, rfl, rfl⟩
    refine r_set (s := .l (rs.map B.rowE)) (e_lcx (ess := rowsN B nx R) (js := [6]) (δ2 := fun ds => [.d h0.e, .v (.ref f), .d (.int 20), .x (isDc P w K (kvN R)), .v (.ref ml), .x (isLL K (rowsN B nx R)), .l ds, .no, .no]) (e_vx rfl) (by decide) (by unfold rowsN; rw [List.length_map, List.length_map, nok.rsl]) (by rw [List.length_map, nok.rsl]; have := nok.len; omega) (fun i ds hi => ?_)) (sdd.sm sb) fun v5 H6 s6 sd6 => ?_
    · unfold rowsN at hi
      rw [List.getElem?_map] at hi
      cases es : R[i]? with
      | none => rw [es] at hi; cases hi
      | some st =>
        rw [es] at hi
        cases hi
        obtain ⟨p', hp1, hp2⟩ := nok.ren i st es
        have hst := nok.ok st (List.mem_of_getElem? es)
        refine ⟨B.rowE p', by rw [List.getElem?_map, hp1]; rfl, g_name, ?_⟩
        refine e_tupOf (e_lcL (ds := [(Pat.lf B.a).e, (nx st).e]) (es := [(Pat.lf B.a).e, p'.e]) (js := [7]) (δ2 := fun d => [.d h0.e, .v (.ref f), .d (.int 20), .x (isDc P w K (kvN R)), .v (.ref ml), .x (isLL K (rowsN B nx R)), .l [(Pat.lf B.a).e, (nx st).e], .d d, .no]) (e_vl rfl) (by decide) rfl (by simp) (fun j d hj => ?_))
        match j, hj with
        | 0, hj =>
          have ed : (Pat.lf B.a).e = d := by simpa using hj
          subst ed
          exact ⟨_, rfl, g_name, ren 7 (.lf B.a) (.lf B.a) _ rfl rfl ok.a.1 (by show 0 < 4; decide) (.inl ⟨rfl, rfl⟩)⟩
        | 1, hj =>
          have ed : (nx st).e = d := by simpa using hj
          subst ed
          exact ⟨_, rfl, g_name, ren 7 (nx st) p' _ rfl rfl hst.1 hst.2 hp2⟩
        | j + 2, hj => simp at hj
    · refine r_ret (s := .d (.tuple [h1.e, .tuple (rs.map B.rowE)])) (e_tup (ss := [.d h1.e, .d (.tuple (rs.map B.rowE))]) (a_cons (ren 0 h0 h1 _ rfl rfl nok.hd.1 nok.hd.2 nok.ren0) (a_cons (e_tupOf (e_vl rfl)) a_nil)) rfl (Nat.le_of_ble_eq_true rfl)) sd6 fun v7 H7 s7 hv7 => ?_
      exact q v7 H7 (((I.sm.trans sb).trans s6).trans s7) hv7
end
end K80

namespace K80
open PySem PySem.Spec L2 NdefX LamX
open PyProof.Rows hiding St
local macro_rules | `(tactic| walk_at "ee") => `(tactic| first
  | ((with_reducible apply e_vd); exact rfl)
  | ((with_reducible apply e_vl); exact rfl)
  | ((with_reducible apply e_vv); exact rfl)
  | (with_reducible exact e_ci)
  | (with_reducible exact e_cs)
  | (with_reducible exact e_cb)
  | (with_reducible exact e_cn)
  | (with_reducible exact e_hole)
  | ((with_reducible apply e_ixT); (walk_at "ee"); (walk_at "ee"); (first | decide | omega); exact rfl)
  | ((with_reducible apply e_ixL); (walk_at "ee"); (walk_at "ee"); (first | decide | omega); exact rfl)
  | ((with_reducible apply e_tup); (walk_at "ea"); (exact rfl); (exact Nat.le_of_ble_eq_true rfl))
  | ((with_reducible apply e_lst); (walk_at "ea"); (exact rfl); (exact Nat.le_of_ble_eq_true rfl))
  | ((with_reducible apply e_lenT); (walk_at "ee"))
  | ((with_reducible apply e_lenL); (walk_at "ee"))
  | ((with_reducible apply e_eqS); (walk_at "ee"); (walk_at "ee"))
  | ((with_reducible apply e_eqI); (walk_at "ee"); (walk_at "ee"))
  | ((with_reducible apply e_neS); (walk_at "ee"); (walk_at "ee"))
  | ((with_reducible apply e_neI); (walk_at "ee"); (walk_at "ee"))
  | ((with_reducible apply e_i0); (walk_at "ee"); (walk_at "ee"))
  | ((with_reducible apply e_b0); (walk_at "ee"); (walk_at "ee"))
  | ((with_reducible apply e_isN); (walk_at "ee"))
  | ((with_reducible apply e_notN); (walk_at "ee"))
  | ((with_reducible apply e_tupOf); (walk_at "ee"))
  | ((with_reducible apply e_tail); (walk_at "ee"); (walk_at "ee"))
  | ((with_reducible apply e_call); (walk_at "ea"); (walk_at "own"))
  | ((with_reducible apply e_cat); (walk_at "ee"); (walk_at "ee"); (exact Nat.le_of_ble_eq_true rfl))
  | ((with_reducible apply e_andV); (walk_at "ee"); intro _; (walk_at "ee"))
  | walk_at "ee2")
local macro_rules | `(tactic| walk_at "ea") => `(tactic| first | (with_reducible exact a_nil) | ((with_reducible apply a_cons); (walk_at "ee"); (walk_at "ea")))
local macro_rules | `(tactic| walk_at "et") => `(tactic| first
  | ((with_reducible apply t_B); (walk_at "ee"))
  | ((with_reducible apply t_T); (walk_at "ee"))
  | ((with_reducible apply t_not); (walk_at "et")))
local macro_rules | `(tactic| walk_at "own") => `(tactic| fail "own")
local macro_rules | `(tactic| walk_at "ee2") => `(tactic| fail "ee2")
local macro_rules | `(tactic| walk_at "ret") => `(tactic| ((with_reducible apply s_ret); (walk_at "ee"); exact rfl))
local macro_rules | `(tactic| walk_at "retS") => `(tactic| ((with_reducible apply s_ret); (walk_at "ee"); rotate_left))

local macro_rules | `(tactic| walk_at "own") => `(tactic| first
  | exact ⟨_, _, rfl, rfl⟩
  | exact ⟨_, _, _, _, rfl, rfl⟩
  | (refine ⟨_, ?_, ?_, rfl, rfl⟩; (first | omega | assumption); assumption))
section
variable {P : Program} {w : World} {K : PySem.W.Frag} {mg : Str → Option Value} {base : Heap}
/-- a def of the text whose code object stands at c -/
structure FunC (K : PySem.W.Frag) (x : Str) (st : Stmt) (c : Addr) (f : Addr) (fd : FuncData) : Prop where
  ex : ∃ (oc : Value) (od : Option Addr) (kV doc pm : Value) (an : Option Addr) (ct : Value) (osl : Array (Option Value)),
    fd = PySem.W.fnOf x x (defArgs st) (defBody st) (defScope st) .none kV doc pm an (.ref c) ct ∧ K.lookup f = some ⟨oc, od, .func fd, osl⟩ ∧ PySem.W.codeIn K (.ref c) x = true
  kp : PySem.W.keepIn K (.ref f) = true
def GDefC (K : PySem.W.Frag) (mg : Str → Option Value) (x : Str) (st : Stmt) (ps : List Str) (c : Addr) : Prop := ∃ f fd, mg x = some (.ref f) ∧ Binds K fd ps [] ∧ FunC K x st c f fd
theorem g_okC {x : Str} {st : Stmt} {N ps : List Str} {c : Addr} {k : Nat} {sp : Sp} (G : GDefC K mg x st ps c) (S : FnScope N ps (defScope st)) (len : ∀ vs H Q E, sp vs H Q E → vs.length = ps.length)
    (hbody : ∀ (f : Addr) (A : Around) (outer : List Env) (s : Shared) (H : Hp) (vs : List V) (Q : VK) (E : XK), Room k (A.deeper (envOfC x (defScope st) s.heap.objs.size f (.ref c))) → sp vs H Q E →
      ∃ t, PSs (cxOf CX0 P w K mg base N x (defScope st) f (.ref c) A outer s H E).nox (defBody st) t ∧ t { nx := fun _ H' => Q .non H', rt := Q } (L2.start N vs) H) : GOk P w K mg base (k + 1) x ps sp := by
  obtain ⟨f, fd, h1, h2, F⟩ := G
  refine ⟨f, fd, h1, F.kp, h2, ?_⟩
  obtain ⟨oc, od, kV, doc, pm, an, ct, osl, rfl, lk, hcd⟩ := F.ex
  refine fn_of lk hcd S len fun A outer s H vs Q E hr hsp => ?_
  obtain ⟨t, h, q⟩ := hbody f A outer s H vs Q E hr hsp
  exact ⟨t, h.nox, q⟩
/-! ### earliest -/
def nmE : Nat → Nat → Str := fun _ _ => "earliest.<locals>.patterns_of"
def tabE (Pt : Addr) : List NTab := [(Pt, nmE)]
structure Ear (B : LB) (F : List FT) (B' : LB) : Prop where
  ok : B.ok
  fr : IsFr B F
  hd : B.head.ok ∧ B.head.dep < 4
  ex : ∃ (h0 : Pat) (nx : Nat → Pat) (R : List Nat) (h1 : Pat) (rs : List Pat), EarR B.a F B.head h0 ∧ NumOk B F h0 nx R h1 rs ∧ B' = ⟨B.I, B.outs, B.a, h1, rs⟩
def spEar (K : PySem.W.Frag) (Pt : Addr) : Sp := fun vs H Q _ => ∃ B F B', SlAll K H vs [.d B.e] ∧ Ear B F B' ∧ TabsN (tabE Pt) H ∧
  ∀ v H', ExtN H H' → (∀ b, H' b = none → H b = none) → TabsN (tabE Pt) H' → SlAt K H' (some v) (.d B'.e) → Q v H'
theorem extN_tk {H H' : Hp} (e : ExtN H H') : Tk H H' := fun a xs r => by
  rcases r with r | ⟨o, r⟩
  · exact .inl (e _ _ r (fun ps z => by cases z))
  · exact .inr ⟨o, e _ _ r (fun ps z => by cases z)⟩
theorem SD.ext {σ : L2.St} {δ : Sls} {H H' : Hp} (sd : SD K H σ δ) (e : ExtN H H') (n : noX δ = true) : SD K H' σ δ := SD.offG (extN_tk e) (fun a xs h => e _ _ h (fun ps z => by cases z)) sd n
theorem same_none {H H' : Hp} (s : Same H H') : ∀ b, H' b = none → H b = none := fun b h => s.free h
theorem r_callGs {δ : Sls} {σ : L2.St} {H : Hp} {D : Ends} {u : TS} {js : List Nat} {TT : Addr → Addr → List (Option V) → List V → Hp → VK → Prop} {ta : TA} {ss : Sls} {g : TG} (ha : Ea K ta δ ss) (sd : SD K H σ δ)
    (k : ∀ vs H', Same H H' → SlAll K H' vs ss → ∃ f c', TT f c' (js.map (slotAt σ)) vs H' (fun v H2 => g v σ H2 (u D))) : tSeq (tAsg (tCallG js TT ta) g) u D σ H := ha σ H _ sd k
theorem ok_earliest (T : Top K mg) {c Pt : Addr} (GE : GDefC K mg "earliest" sEarliest ["book"] c) (TB : TabB base mg c Pt)
    (g_fronts_of : GOk P w K mg base 7 "fronts_of" ["book"] (spD K RFrontsOf)) (g_early : GOk P w K mg base 6 "early" ["pattern", "fronts"] (spD K REarly)) (g_looked_at : GOk P w K mg base 7 "looked_at" ["pattern"] (spD K RLooked))
    (g_met_in : GOk P w K mg base 6 "met_in" ["pattern", "numbers"] (spMet P w K)) (g_renamed : GOk P w K mg base 6 "renamed" ["pattern", "numbers"] (spD K (RRenamed P w K)))
    (g_holes_in : GOk P w K mg base 1 "holes_in" ["front"] (spD K RHoles)) (g_knot_at : GOk P w K mg base 1 "knot_at" ["tree", "place"] (spD K RKnotAt)) : GOk P w K mg base 10 "earliest" ["book"] (spEar K Pt) := by
  obtain ⟨gf, gfd, gm, gb, GF⟩ := T.d_numbered
  obtain ⟨oc, od, kV, doc, pm, an, cdv, ct, osl, rfl, glk, gcd⟩ := GF.ex
  have gk := GF.kp
  refine g_okC GE scEarliest (fun vs H Q E h => ?_) (fun f A outer s H vs Q E hr h => ?_)
  · obtain ⟨B, F, B', h1, _⟩ := h
    exact h1.length
  have hq : (cxOf CX0 P w K mg base nEarliest "earliest" (defScope sEarliest) f (.ref c) A outer s H E).nox.env.qual ++ "patterns_of" = "earliest.<locals>.patterns_of" := rfl
  have hB : ndefB (defScope sEarliest) (C8.fnScope sPatternsOf) ["book", "fronts"] = true := by decide +kernel
  have hfree : ∀ y ∈ (C8.fnScope sPatternsOf).names, y.2 = .free → (cxOf CX0 P w K mg base nEarliest "earliest" (defScope sEarliest) f (.ref c) A outer s H E).nox.env.scope.names.lookup y.1 = some .cell ∨ (cxOf CX0 P w K mg base nEarliest "earliest" (defScope sEarliest) f (.ref c) A outer s H E).nox.env.scope.names.lookup y.1 = some .free := ndef_free hB
  have gG : ∀ cl, GivesF P w K mg base 8 nNumbered "numbered" (defScope sNumbered) gf cdv (defBody sNumbered) (mkPat cl) ["book", "fronts"] (TTnum K cl) := fun cl =>
    gives_numbered T cl gf cdv g_met_in g_renamed fun B F f c' => nok_patterns_of T B F cl f c' g_holes_in g_early g_knot_at g_looked_at
  have pd : PS (cxOf CX0 P w K mg base nEarliest "earliest" (defScope sEarliest) f (.ref c) A outer s H E).nox sPatternsOf (tNdefM (tabE Pt) 2 (mkPat (cloFrom (cxOf CX0 P w K mg base nEarliest "earliest" (defScope sEarliest) f (.ref c) A outer s H E).nox.env.cells (C8.fnScope sPatternsOf).names []))) :=
    ps_ndefMS (X := (cxOf CX0 P w K mg base nEarliest "earliest" (defScope sEarliest) f (.ref c) A outer s H E).nox) (st := sPatternsOf) (pos := sPos sPatternsOf) (nm := nmE) (c := c) (P := Pt) rfl TB rfl (by simp [tabE]) rfl (fun p hp _ => by simp [tabE] at hp; rw [hp]) hfree rfl rfl rfl scEarliest.nd rfl (Or.inl rfl) (Or.inl rfl)
  refine ⟨_, pss_cons (ps_set (i := 1) scEarliest.nd rfl (Or.inr rfl) (pe_g g_fronts_of (hr.mono (by omega)) rfl (pa_cons (pv 0) pa_nil)))
    (pss_cons pd
    (pss_cons (ps_asg (pe_callG (js := [0, 1]) rfl gm gk glk gcd gb scNumbered (fun f c' ws vs H Q h => by obtain ⟨B, F, h0, nx, R, h1, rs, hv, _⟩ := h; exact hv.length) (gG _) (fun _ => rfl) (fun ok => Caps.made ok hfree (ndef_fr hB) rfl) (fun _ => rfl) (hr.mono (by omega))
        (pa_cons (pe_g g_looked_at (hr.mono (by omega)) rfl (pa_cons (pe_g g_early (hr.mono (by omega)) rfl (pa_cons (pe_ix ix_tup (pv 0) pe_int (fun _ _ => rfl)) (pa_cons (pv 1) pa_nil))) pa_nil)) (pa_cons (pv 2) (pa_cons (pe_gI rfl T.c_MOST_STATES) pa_nil))))
      (pg_tup rfl (pgs_cons (pg_name (i := 3) scEarliest.nd rfl (Or.inl rfl)) (pgs_cons (pg_name (i := 4) scEarliest.nd rfl (Or.inl rfl)) pgs_nil))))
    (pss_one (ps_ret (pe_tup (pa_cons (pe_ix ix_tup (pv 0) pe_int (fun _ _ => rfl)) (pa_cons (pe_ix ix_tup (pv 0) pe_int (fun _ _ => rfl)) (pa_cons (pv 3) (pa_cons (pv 4) pa_nil))))))))), ?_⟩
  obtain ⟨B, F, B', hv, ear, hT, q⟩ := h
  obtain ⟨ok, fr, hhd, h0, nx, R, h1, rs, hear, nok, rfl⟩ := ear
  have sd := sd_st (N := nEarliest) hv
  refine r_set (s := .l (fbL B.a F)) (e_call (ss := [.d B.e]) (a_cons (e_vd rfl) a_nil) ⟨B, F, ok, fr, rfl, rfl⟩) sd fun v1 H1 s1 sd1 => ?_
  refine ⟨hT.ext s1, fun fa ca H2 e2 nn2 T2 f0 f1 c1 => ?_⟩
  have sd2 : SD K H2 _ [.d B.e, .l (fbL B.a F), .v (.ref fa), .no, .no] := SD.set (s := .v (.ref fa)) (show SlAt K H2 (some (.ref fa)) (.v (.ref fa)) from rfl) 2 (sd1.ext e2 rfl)
  have bk : ∀ (i : Int) d δ, δ[0]? = some (.d B.e) → 0 ≤ i → [B.I.e, B.outs, B.head.e, .tuple (B.rs.map B.rowE)][i.toNat]? = some d → Ee K (tOp (rIxT K) (tVar 0) (tC (.int i))) δ (.d d) := fun i d δ h1 h2 h3 => e_ixT (ds := [B.I.e, B.outs, B.head.e, .tuple (B.rs.map B.rowE)]) (e_vd h1) e_ci h2 h3
  have ho := ear_ok ok.a.1 hear hhd.1
  refine r_callGs (a_cons (e_call (R := RLooked) (E := E0) (ss := [.d h0.e]) (a_cons (e_call (R := REarly) (E := E0) (ss := [.d B.head.e, .l (fbL B.a F)]) (s := .d h0.e) (a_cons (bk 2 _ _ rfl (by decide) rfl) (a_cons (e_vl rfl) a_nil)) ⟨B.a, F, B.head, h0, hhd.2, hhd.1, ok.a, hear, rfl, rfl⟩) a_nil) (s := .d h0.e) ⟨h0, by rw [ho.2]; exact hhd.2, ho.1, rfl, rfl⟩) (a_cons (e_vv rfl) (a_cons (e_ci (i := 20)) a_nil))) sd2 fun vs H3 s3 h3 => ?_
  have sd3 := sd2.sm s3
  obtain ⟨o1, g1, vb, rfl, tb⟩ := SD.get (i := 0) sd3 rfl
  obtain ⟨o2, g2, ab, xb, rfl, lb⟩ := SD.get (i := 1) sd3 rfl
  refine ⟨fa, ca, B, F, h0, nx, R, h1, rs, h3, s3 _ _ f1, s3 _ _ c1, ⟨vb, .ref ab, ?_, ⟨vb, rfl, tb⟩, ⟨ab, xb, rfl, lb⟩⟩, ok, nok, fun v H4 s4 hv4 => ?_⟩
  · show [NdefX.slotAt _ 0, NdefX.slotAt _ 1] = _
    rw [slotAt_of g1, slotAt_of g2]
  · refine (g_tup (js := [3, 4]) (ds := [h1.e, .tuple (rs.map B.rowE)]) (gs_cons g_name (gs_cons g_name gs_nil)) rfl) _ H4 v _ (sd3.sm s4) hv4 fun σ5 sd5 _ => ?_
    refine r_ret (s := .d (.tuple [B.I.e, B.outs, h1.e, .tuple (rs.map B.rowE)])) (e_tup (ss := [.d B.I.e, .d B.outs, .d h1.e, .d (.tuple (rs.map B.rowE))]) (a_cons (bk 0 _ _ rfl (by decide) rfl) (a_cons (bk 1 _ _ rfl (by decide) rfl) (a_cons (e_vd rfl) (a_cons (e_vd rfl) a_nil)))) rfl (Nat.le_of_ble_eq_true rfl)) sd5 fun v6 H6 s6 hv6 => ?_
    have s36 : Same H2 H6 := (s3.trans s4).trans s6
    refine q v6 H6 (((ExtN.of s1).trans e2).trans (ExtN.of s36)) (fun b hb => s1.free (nn2 b (s36.free hb))) (T2.ext s36) hv6
end
end K80

namespace K80
open PySem PySem.Spec L2 NdefX LamX
open PyProof.Rows hiding St
local macro_rules | `(tactic| walk_at "ee") => `(tactic| first
  | ((with_reducible apply e_vd); exact rfl)
  | ((with_reducible apply e_vl); exact rfl)
  | ((with_reducible apply e_vv); exact rfl)
  | (with_reducible exact e_ci)
  | (with_reducible exact e_cs)
  | (with_reducible exact e_cb)
  | (with_reducible exact e_cn)
  | (with_reducible exact e_hole)
  | ((with_reducible apply e_ixT); (walk_at "ee"); (walk_at "ee"); (first | decide | omega); exact rfl)
  | ((with_reducible apply e_ixL); (walk_at "ee"); (walk_at "ee"); (first | decide | omega); exact rfl)
  | ((with_reducible apply e_tup); (walk_at "ea"); (exact rfl); (exact Nat.le_of_ble_eq_true rfl))
  | ((with_reducible apply e_lst); (walk_at "ea"); (exact rfl); (exact Nat.le_of_ble_eq_true rfl))
  | ((with_reducible apply e_lenT); (walk_at "ee"))
  | ((with_reducible apply e_lenL); (walk_at "ee"))
  | ((with_reducible apply e_eqS); (walk_at "ee"); (walk_at "ee"))
  | ((with_reducible apply e_eqI); (walk_at "ee"); (walk_at "ee"))
  | ((with_reducible apply e_neS); (walk_at "ee"); (walk_at "ee"))
  | ((with_reducible apply e_neI); (walk_at "ee"); (walk_at "ee"))
  | ((with_reducible apply e_i0); (walk_at "ee"); (walk_at "ee"))
  | ((with_reducible apply e_b0); (walk_at "ee"); (walk_at "ee"))
  | ((with_reducible apply e_isN); (walk_at "ee"))
  | ((with_reducible apply e_notN); (walk_at "ee"))
  | ((with_reducible apply e_tupOf); (walk_at "ee"))
  | ((with_reducible apply e_tail); (walk_at "ee"); (walk_at "ee"))
  | ((with_reducible apply e_call); (walk_at "ea"); (walk_at "own"))
  | ((with_reducible apply e_cat); (walk_at "ee"); (walk_at "ee"); (exact Nat.le_of_ble_eq_true rfl))
  | ((with_reducible apply e_andV); (walk_at "ee"); intro _; (walk_at "ee"))
  | walk_at "ee2")
local macro_rules | `(tactic| walk_at "ea") => `(tactic| first | (with_reducible exact a_nil) | ((with_reducible apply a_cons); (walk_at "ee"); (walk_at "ea")))
local macro_rules | `(tactic| walk_at "et") => `(tactic| first
  | ((with_reducible apply t_B); (walk_at "ee"))
  | ((with_reducible apply t_T); (walk_at "ee"))
  | ((with_reducible apply t_not); (walk_at "et")))
local macro_rules | `(tactic| walk_at "own") => `(tactic| fail "own")
local macro_rules | `(tactic| walk_at "ee2") => `(tactic| fail "ee2")
local macro_rules | `(tactic| walk_at "ret") => `(tactic| ((with_reducible apply s_ret); (walk_at "ee"); exact rfl))
local macro_rules | `(tactic| walk_at "retS") => `(tactic| ((with_reducible apply s_ret); (walk_at "ee"); rotate_left))

local macro_rules | `(tactic| walk_at "own") => `(tactic| first
  | exact ⟨_, _, rfl, rfl⟩
  | exact ⟨_, _, _, _, rfl, rfl⟩
  | (refine ⟨_, ?_, ?_, rfl, rfl⟩; (first | omega | assumption); assumption))
section
variable {P : Program} {w : World} {K : PySem.W.Frag} {mg : Str → Option Value} {base : Heap}
section
variable {δ : Sls} {te : TE} {D : Ends} {σ : L2.St} {H : Hp} {t u : TS} {Pt : Addr}
theorem c_ear {i : Nat} {B B' : LB} {F : List FT} {Q : VK} (sd : SD K H σ δ) (hi : δ[i]? = some (.d B.e)) (ear : Ear B F B') (hT : TabsN (tabE Pt) H) (n : noX δ = true)
    (k : ∀ v H', ExtN H H' → (∀ b, H' b = none → H b = none) → TabsN (tabE Pt) H' → SD K H' σ δ → SlAt K H' (some v) (.d B'.e) → Q v H') : tCall (spEar K Pt) [] E0 (tCons (tVar i) tNil) σ H Q := by
  refine (a_cons (e_vd hi) a_nil) σ H _ sd fun vs H1 s1 h1 => ?_
  refine ⟨B, F, B', by rw [List.append_nil]; exact h1, ear, hT.ext s1, fun v H2 e2 n2 t2 hv => ?_⟩
  exact k v H2 ((ExtN.of s1).trans e2) (fun b hb => s1.free (n2 b hb)) t2 ((sd.sm s1).ext e2 n) hv
theorem r_setEar {i j : Nat} {B B' : LB} {F : List FT} (sd : SD K H σ δ) (hi : δ[i]? = some (.d B.e)) (ear : Ear B F B') (hT : TabsN (tabE Pt) H) (n : noX δ = true)
    (k : ∀ v H', ExtN H H' → (∀ b, H' b = none → H b = none) → TabsN (tabE Pt) H' → SD K H' (σ.set j (some v)) (δ.set j (.d B'.e)) → u D (σ.set j (some v)) H') : tSeq (tAsg (tCall (spEar K Pt) [] E0 (tCons (tVar i) tNil)) (gName j)) u D σ H :=
  c_ear sd hi ear hT n fun v H' e f g sd' hv => k v H' e f g (SD.set hv j sd')
theorem r_es {s : Sl} (h : Es K t { nx := fun _ => False, rt := fun s' => s' = s } δ) (sd : SD K H σ δ) (k : ∀ v H', Same H H' → SlAt K H' (some v) s → D.rt v H') : t D σ H :=
  h σ H D sd ⟨fun _ _ _ _ _ z => z.elim, fun v H' x s1 hx e => k v H' s1 (by rw [← e]; exact hx), fun _ _ _ _ _ z => z.elim, fun _ _ _ _ _ z => z.elim⟩
end
/-- two books and what becomes of them -/
structure Two (X Y : LB) (FX FY : List FT) (X' Y' : LB) (R : List Row) (o : Option (Option Nat × Nat)) : Prop where
  k : OneK X Y
  ex : Ear X FX X'
  ey : Ear Y FY Y'
  ox : X'.okH
  oy : Y'.okH
  a : X'.a = Y'.a
  len : R.length < 900
  mp : MP X' Y' R o
theorem Ear.I {B B' : LB} {F : List FT} (h : Ear B F B') : B'.I = B.I ∧ B'.outs = B.outs ∧ B'.a = B.a := by
  obtain ⟨h0, nx, R, h1, rs, _, _, rfl⟩ := h.ex
  exact ⟨rfl, rfl, rfl⟩
theorem Two.k' {X Y : LB} {FX FY : List FT} {X' Y' : LB} {R : List Row} {o} (t : Two X Y FX FY X' Y' R o) : OneK X' Y' := by
  obtain ⟨a1, a2, _⟩ := t.ex.I
  obtain ⟨b1, b2, _⟩ := t.ey.I
  exact ⟨by rw [a1, b1, t.k.I], by rw [a2, b2, t.k.o], by rw [a1]; exact t.k.sI, by rw [a2]; exact t.k.sO⟩
def spAlike (K : PySem.W.Frag) (Pt : Addr) : Sp := fun vs H Q _ => ∃ X Y FX FY X' Y' R o, SlAll K H vs [.d X.e, .d Y.e] ∧ Two X Y FX FY X' Y' R o ∧ TabsN (tabE Pt) H ∧
  ∀ v H', ExtN H H' → (∀ b, H' b = none → H b = none) → TabsN (tabE Pt) H' → SlAt K H' (some v) (.d (.bool o.isNone)) → Q v H'
theorem ok_alike (T : Top K mg) {Pt : Addr} (g_one_kind : GOk P w K mg base 1 "one_kind" ["one", "two"] (spD K ROneKind)) (g_earliest : GOk P w K mg base 10 "earliest" ["book"] (spEar K Pt)) (g_pairs_of : GOk P w K mg base 8 "pairs_of" ["one", "two"] (spD K RPairsOf)) :
    GOk P w K mg base 11 "alike" ["one", "two"] (spAlike K Pt) := by
  refine g_ok T.d_alike scAlike (fun vs H Q E h => ?_) (fun fn cdv A outer s H vs Q E hr h => ⟨_, (pss_cons (ps_expr (pe_g g_one_kind (hr.mono (by omega)) rfl (pa_cons (pv 0) (pa_cons (pv 1) pa_nil))))
      (pss_cons (ps_set (i := 2) scAlike.nd rfl (Or.inl rfl) (pe_g g_earliest (hr.mono (by omega)) rfl (pa_cons (pv 0) pa_nil)))
      (pss_one (ps_ret (pe_cmp (pc_notN (pe_g g_pairs_of (hr.mono (by omega)) rfl (pa_cons (pv 2) (pa_cons (pe_g g_earliest (hr.mono (by omega)) rfl (pa_cons (pv 1) pa_nil)) pa_nil))))))))), ?_⟩)
  · obtain ⟨X, Y, FX, FY, X', Y', R, o, h1, _⟩ := h
    exact h1.length
  · obtain ⟨X, Y, FX, FY, X', Y', R, o, h1, tw, hT, q⟩ := h
    have sd := sd_st (N := nAlike) h1
    refine r_seq (N := fun δ' => δ' = [.d X.e, .d Y.e, .no]) (s_drop (e_call (ss := [.d X.e, .d Y.e]) (by walk_at "ea") ⟨X, Y, tw.k, rfl, rfl⟩) rfl) sd fun σ1 H1 δ1 s1 sd1 e1 => ?_
    subst e1
    refine r_setEar (i := 0) sd1 rfl tw.ex (hT.ext s1) rfl fun v2 H2 x2 n2 T2 sd2 => ?_
    obtain ⟨u2, g2, w2, rfl, t2⟩ := SD.get (i := 2) sd2 rfl
    refine ⟨w2, g2, ?_⟩
    refine c_ear (i := 1) sd2 rfl tw.ey T2 rfl fun v3 H3 x3 n3 T3 sd3 hv3 => ?_
    obtain ⟨u3, g3, w3, rfl, t3⟩ := SD.get (i := 2) sd3 rfl
    have ew : w2 = w3 := Option.some.inj (Option.some.inj (g2.symm.trans g3))
    subst ew
    have x13 : ExtN H H3 := ((ExtN.of s1).trans x2).trans x3
    have n13 : ∀ b, H3 b = none → H b = none := fun b hb => s1.free (n2 b (n3 b hb))
    refine ⟨[.d X'.e, .d Y'.e], _, ⟨⟨w2, rfl, t3⟩, hv3, trivial⟩, ⟨X', Y', R, o, tw.k', tw.ox, tw.oy, tw.a, tw.len, tw.mp, rfl, rfl⟩, fun v4 H4 s4 hv4 => ?_⟩
    refine q _ H4 (x13.trans (ExtN.of s4)) (fun b hb => n13 b (s4.free hb)) (T3.ext s4) ?_
    cases o with
    | none =>
      obtain ⟨a, xs, e, _, _⟩ := hv4
      cases e
      exact ⟨_, rfl, .bl _⟩
    | some c =>
      obtain ⟨v, e, tv⟩ := hv4
      cases e
      cases tv.n
      exact ⟨_, rfl, .bl _⟩
/-! ### parted -/
inductive Back (R : List Row) : Nat → Option Nat → Nat → Tr → Nat → Tr → Nat → Prop
  | stop {k t m} : Back R 0 none k t m t m
  | step {n i r k t m T M} : R[i]? = some r → Back R n r.came r.kid (k :: t) (r.dep + m) T M → Back R (n + 1) (some i) k t m T M
theorem Back.le {R : List Row} {n c k t m T M} (h : Back R n c k t m T M) : m ≤ M := by
  induction h with
  | stop => exact Nat.le_refl _
  | step _ _ ih => omega
/-- how two books part: the tree T, the place of M zeros -/
def PartR (X' Y' : LB) (R : List Row) (c : Option Nat) (m : Nat) (T : Tr) (M : Nat) : Prop := ∃ p q p1 q1 k t n, PatsAt X' Y' R c p q ∧ p.dig m = some p1 ∧ q.dig m = some q1 ∧ KidR X' Y' p1 q1 k (trE X'.I t) ∧ Back R n c k t m T M ∧ M ≤ 1000
def parE (I : Ins) : Option (Tr × Nat) → PD
  | none => .none
  | some (T, M) => .tuple [trE I T, zeros M]
def PartO (X' Y' : LB) (R : List Row) (o : Option (Option Nat × Nat)) (r : Option (Tr × Nat)) : Prop := (o = none ∧ r = none) ∨ ∃ c m T M, o = some (c, m) ∧ r = some (T, M) ∧ PartR X' Y' R c m T M
def spParted (K : PySem.W.Frag) (Pt : Addr) : Sp := fun vs H Q _ => ∃ X Y FX FY X' Y' R o r, SlAll K H vs [.d X.e, .d Y.e] ∧ Two X Y FX FY X' Y' R o ∧ X.I.ok ∧ PartO X' Y' R o r ∧ TabsN (tabE Pt) H ∧
  ∀ v H', ExtN H H' → (∀ b, H' b = none → H b = none) → TabsN (tabE Pt) H' → SlAt K H' (some v) (.d (parE X.I r)) → Q v H'
theorem ok_parted (T : Top K mg) {Pt : Addr} (g_one_kind : GOk P w K mg base 1 "one_kind" ["one", "two"] (spD K ROneKind)) (g_earliest : GOk P w K mg base 10 "earliest" ["book"] (spEar K Pt)) (g_met_pairs : GOk P w K mg base 7 "met_pairs" ["one", "two"] (spD K (RMP K)))
    (g_first_leaf : GOk P w K mg base 1 "first_leaf" ["ins"] (spD K RFirstLeaf)) (g_patterns_at : GOk P w K mg base 1 "patterns_at" ["one", "two", "row", "parting"] (spD K RPatternsAt)) (g_knot_at : GOk P w K mg base 1 "knot_at" ["tree", "place"] (spD K RKnotAt))
    (g_kid_for : GOk P w K mg base 9 "kid_for" ["one", "two", "things", "leaf"] (spD K RKidFor)) (g_knot_with : GOk P w K mg base 1 "knot_with" ["kind", "leaf", "kid", "tree"] (spD K RKnotWith)) :
    GOk P w K mg base 11 "parted" ["one", "two"] (spParted K Pt) := by
  refine g_ok T.d_parted scParted (fun vs H Q E h => ?_) (fun fn cdv A outer s H vs Q E hr h => ⟨_, (pss_cons (ps_expr (pe_g g_one_kind (hr.mono (by omega)) rfl (pa_cons (pv 0) (pa_cons (pv 1) pa_nil))))
      (pss_cons (ps_set (i := 2) scParted.nd rfl (Or.inl rfl) (pe_g g_earliest (hr.mono (by omega)) rfl (pa_cons (pv 0) pa_nil)))
      (pss_cons (ps_set (i := 3) scParted.nd rfl (Or.inl rfl) (pe_g g_earliest (hr.mono (by omega)) rfl (pa_cons (pv 1) pa_nil)))
      (pss_cons (ps_asg (pe_g g_met_pairs (hr.mono (by omega)) rfl (pa_cons (pv 2) (pa_cons (pv 3) pa_nil))) (pg_tup rfl (pgs_cons (pg_name (i := 4) scParted.nd rfl (Or.inl rfl)) (pgs_cons (pg_name (i := 5) scParted.nd rfl (Or.inl rfl)) pgs_nil))))
      (pss_cons (ps_if (pt_cmp (pc_isN (pv 5))) (pss_one (ps_ret pe_non)) pss_nil)
      (pss_cons (ps_asg (pv 5) (pg_tup rfl (pgs_cons (pg_name (i := 6) scParted.nd rfl (Or.inl rfl)) (pgs_cons (pg_name (i := 7) scParted.nd rfl (Or.inl rfl)) (pgs_cons (pg_name (i := 8) scParted.nd rfl (Or.inl rfl)) pgs_nil)))))
      (pss_cons (ps_set (i := 9) scParted.nd rfl (Or.inl rfl) (pe_tup (pa_cons (pe_ix ix_tup (pe_ix ix_tup (pe_ix ix_tup (pv 0) pe_int (fun _ _ => rfl)) (pe_g g_first_leaf (hr.mono (by omega)) rfl (pa_cons (pe_ix ix_tup (pv 0) pe_int (fun _ _ => rfl)) pa_nil)) (fun _ _ => rfl)) pe_int (fun _ _ => rfl)) pa_nil)))
      (pss_cons (ps_set (i := 10) scParted.nd rfl (Or.inl rfl) (pe_g g_patterns_at (hr.mono (by omega)) rfl (pa_cons (pv 2) (pa_cons (pv 3) (pa_cons (pv 4) (pa_cons (pv 5) pa_nil))))))
      (pss_cons (ps_set (i := 11) scParted.nd rfl (Or.inl rfl) (pe_tup (pa_cons (pe_g g_knot_at (hr.mono (by omega)) rfl (pa_cons (pe_ix ix_tup (pv 10) pe_int (fun _ _ => rfl)) (pa_cons (pv 8) pa_nil))) (pa_cons (pe_g g_knot_at (hr.mono (by omega)) rfl (pa_cons (pe_ix ix_tup (pv 10) pe_int (fun _ _ => rfl)) (pa_cons (pv 8) pa_nil))) pa_nil))))
      (pss_cons (ps_asg (pe_g g_kid_for (hr.mono (by omega)) rfl (pa_cons (pv 2) (pa_cons (pv 3) (pa_cons (pv 11) (pa_cons (pv 9) pa_nil))))) (pg_tup rfl (pgs_cons (pg_name (i := 12) scParted.nd rfl (Or.inl rfl)) (pgs_cons (pg_name (i := 13) scParted.nd rfl (Or.inl rfl)) pgs_nil))))
      (pss_cons (ps_while PassesOwn.never (pt_cmp (pc_notN (pv 6))) (pss_cons (ps_set (i := 13) scParted.nd rfl (Or.inl rfl) (pe_g g_knot_with (hr.mono (by omega)) rfl (pa_cons (pe_ix ix_tup (pe_ix ix_tup (pv 0) pe_int (fun _ _ => rfl)) (pv 7) (fun _ _ => rfl)) (pa_cons (pv 9) (pa_cons (pv 12) (pa_cons (pv 13) pa_nil))))))
      (pss_cons (ps_asg (pe_ix ix_tup (pe_ix ix_list (pv 4) (pv 6) (fun _ _ => rfl)) pe_int (fun _ _ => rfl)) (pg_tup rfl (pgs_cons (pg_name (i := 6) scParted.nd rfl (Or.inl rfl)) (pgs_cons (pg_name (i := 7) scParted.nd rfl (Or.inl rfl)) (pgs_cons (pg_name (i := 12) scParted.nd rfl (Or.inl rfl)) (pgs_cons (pg_name (i := 14) scParted.nd rfl (Or.inl rfl)) pgs_nil))))))
      (pss_one (ps_set (i := 8) scParted.nd rfl (Or.inl rfl) (pe_op op_catA (pv 14) (pv 8)))))))
      (pss_one (ps_ret (pe_tup (pa_cons (pv 13) (pa_cons (pv 8) pa_nil)))))))))))))))), ?_⟩)
  · obtain ⟨X, Y, FX, FY, X', Y', R, o, r, h1, _⟩ := h
    exact h1.length
  obtain ⟨X, Y, FX, FY, X', Y', R, o, r, h1, tw, hI, po, hT, q⟩ := h
  have sd := sd_st (N := nParted) h1
  refine r_seq (N := fun δ' => δ' = [.d X.e, .d Y.e, .no, .no, .no, .no, .no, .no, .no, .no, .no, .no, .no, .no, .no]) (s_drop (e_call (ss := [.d X.e, .d Y.e]) (by walk_at "ea") ⟨X, Y, tw.k, rfl, rfl⟩) rfl) sd fun σ1 H1 δ1 s1 sd1 e1 => ?_
  subst e1
  refine r_setEar (i := 0) sd1 rfl tw.ex (hT.ext s1) rfl fun v2 H2 x2 n2 T2 sd2 => ?_
  refine r_setEar (i := 1) sd2 rfl tw.ey T2 rfl fun v3 H3 x3 n3 T3 sd3 => ?_
  have x13 : ExtN H H3 := ((ExtN.of s1).trans x2).trans x3
  have n13 : ∀ b, H3 b = none → H b = none := fun b hb => s1.free (n2 b (n3 b hb))
  refine r_es (s := .d (parE X.I r)) ?_ sd3 fun v4 H4 s4 hv4 => q _ H4 (x13.trans (ExtN.of s4)) (fun b hb => n13 b (s4.free hb)) (T3.ext s4) hv4
  have eI : X'.I = X.I := tw.ex.I.1
  refine s_seq (s_asg (e_call (ss := [.d X'.e, .d Y'.e]) (by walk_at "ea") ⟨X', Y', R, o, tw.ox, tw.oy, tw.a, tw.len, tw.mp, rfl, rfl⟩) g_MP ?_)
  rcases po with ⟨rfl, rfl⟩ | ⟨c, m, Tt, M, rfl, rfl, p, q', p1, q1, k0, t0, n0, hpat, hp1, hq1, hkid, hback, hM⟩
  · refine s_seq (s_ifT (t_T (e_isN (d := .none) (e_vd rfl))) rfl ?_)
    exact s_ret e_cn rfl
  refine s_seq (s_ifF (t_T (e_isN (d := .tuple [cA c, cK c, zeros m]) (e_vd rfl))) rfl (s_next ?_))
  refine s_seq (s_asg (s := .d (.tuple [cA c, cK c, zeros m])) (e_vd rfl) (js := [6, 7, 8]) (g_tup (ds := [cA c, cK c, zeros m]) (gs_cons g_name (gs_cons g_name (gs_cons g_name gs_nil))) rfl) ?_)
  have bk0 : ∀ δ, δ[0]? = some (.d X.e) → Ee K (tOp (rIxT K) (tVar 0) (tC (.int 0))) δ (.d X.I.e) := fun δ h => e_ixT (ds := [X.I.e, X.outs, X.head.e, .tuple (X.rs.map X.rowE)]) (e_vd h) e_ci (by decide) rfl
  refine s_seq (s_set (s := .d X.I.leaf) (e_tup (ss := [.d (.str X.I.l)]) (a_cons (e_ixT (ds := [.str X.I.l, .int 0]) (e_ixT (ds := [X.I.ld, X.I.kd]) (bk0 _ rfl) (e_call (ss := [.d X.I.e]) (s := .d (.int 0)) (a_cons (bk0 _ rfl) a_nil) ⟨X.I, rfl, rfl⟩) (by decide) rfl) e_ci (by decide) rfl) a_nil) rfl (Nat.le_of_ble_eq_true rfl)) ?_)
  refine s_seq (s_set (s := .d (.tuple [p.e, q'.e])) (e_call (ss := [.d X'.e, .d Y'.e, .l (R.map Row.e), .d (ptgE (some (c, m)))]) (a_cons (e_vd rfl) (a_cons (e_vd rfl) (a_cons (e_vl rfl) (a_cons (e_vd rfl) a_nil)))) ⟨X', Y', R, c, m, p, q', hpat, rfl, rfl⟩) ?_)
  have ka : ∀ (i : Int) (z z1 : Pat) δ, δ[10]? = some (.d (.tuple [p.e, q'.e])) → δ[8]? = some (.d (zeros m)) → 0 ≤ i → [p.e, q'.e][i.toNat]? = some z.e → z.dig m = some z1 → Ee K (tCall (spD K RKnotAt) [] E0 (tCons (tOp (rIxT K) (tVar 10) (tC (.int i))) (tCons (tVar 8) tNil))) δ (.d z1.e) := fun i z z1 δ h1 h2 h3 h4 h5 =>
    e_call (ss := [.d z.e, .d (zeros m)]) (a_cons (e_ixT (ds := [p.e, q'.e]) (e_vd h1) e_ci h3 h4) (a_cons (e_vd h2) a_nil)) ⟨z, z1, m, h5, rfl, rfl⟩
  refine s_seq (s_set (s := .d (.tuple [p1.e, q1.e])) (e_tup (ss := [.d p1.e, .d q1.e]) (a_cons (ka 0 p p1 _ rfl rfl (by decide) rfl hp1) (a_cons (ka 1 q' q1 _ rfl rfl (by decide) rfl hq1) a_nil)) rfl (Nat.le_of_ble_eq_true rfl)) ?_)
  refine s_seq (s_asg (s := .d (.tuple [.int (k0 : Nat), trE X.I t0])) (e_call (ss := [.d X'.e, .d Y'.e, .d (.tuple [p1.e, q1.e]), .d X.I.leaf]) (a_cons (e_vd rfl) (a_cons (e_vd rfl) (a_cons (e_vd rfl) (a_cons (e_vd rfl) a_nil)))) ⟨X', Y', p1, q1, k0, trE X'.I t0, hkid, by rw [eI], by rw [eI]⟩) (js := [12, 13]) (g_tup (ds := [.int (k0 : Nat), trE X.I t0]) (gs_cons g_name (gs_cons g_name gs_nil)) rfl) ?_)
  refine s_seq (s_while (fun n δ => ∃ c1 k t m' z, Back R n c1 k t m' Tt M ∧ δ = [.d X.e, .d Y.e, .d X'.e, .d Y'.e, .l (R.map Row.e), .d (ptgE (some (c, m))), .d (cA c1), .d (cK c1), .d (zeros m'), .d X.I.leaf, .d (.tuple [p.e, q'.e]), .d (.tuple [p1.e, q1.e]), .d (.int (k : Nat)), .d (trE X.I t), z]) n0 ⟨c, k0, t0, m, .no, hback, rfl⟩ fun n δ h => ?_)
  obtain ⟨c', k', t', m', z, hb, rfl⟩ := h
  cases hb with
  | stop =>
    refine ⟨false, t_T (e_notN (d := .none) (e_vd rfl)), (fun hb => nomatch hb), fun _ => ?_⟩
    exact s_ret (e_tup (ss := [.d (trE X.I Tt), .d (zeros M)]) (a_cons (e_vd rfl) (a_cons (e_vd rfl) a_nil)) rfl (Nat.le_of_ble_eq_true rfl)) rfl
  | @step n i rr _ _ _ _ _ hri hb' =>
    refine ⟨true, t_T (e_notN (d := .int (i : Nat)) (e_vd rfl)), fun _ => ?_, (fun hb => nomatch hb)⟩
    have hle := hb'.le
    refine s_seq (s_set (s := .d (trE X.I (k' :: t'))) (e_call (ss := [.d X.I.kd, .d X.I.leaf, .d (.int (k' : Nat)), .d (trE X.I t')]) (a_cons (e_ixT (ds := [X.I.ld, X.I.kd]) (bk0 _ rfl) (e_vd rfl) (by decide) rfl) (a_cons (e_vd rfl) (a_cons (e_vd rfl) (a_cons (e_vd rfl) a_nil)))) ⟨X.I, k', trE X.I t', hI.m3, rfl, rfl⟩) ?_)
    refine s_seq (s_asg (s := .d (.tuple [cA rr.came, cK rr.came, .int (rr.kid : Nat), zeros rr.dep])) (e_ixT (ds := [rr.pr, .tuple [cA rr.came, cK rr.came, .int (rr.kid : Nat), zeros rr.dep]]) (e_ixL (ds := R.map Row.e) (e_vl rfl) (e_vd rfl) (by omega) (by rw [Int.toNat_natCast, List.getElem?_map, hri]; rfl)) e_ci (by decide) rfl) (js := [6, 7, 12, 14])
      (g_tup (ds := [cA rr.came, cK rr.came, .int (rr.kid : Nat), zeros rr.dep]) (gs_cons g_name (gs_cons g_name (gs_cons g_name (gs_cons g_name gs_nil)))) rfl) ?_)
    refine s_set (s := .d (zeros (rr.dep + m'))) ((e_cat (ds := List.replicate rr.dep (.int 0)) (es := List.replicate m' (.int 0)) (e_vd rfl) (e_vd rfl) (by rw [List.length_replicate, List.length_replicate]; omega)).to (by rw [List.replicate_append_replicate]; rfl)) ⟨n, Nat.lt_succ_self _, rr.came, rr.kid, k' :: t', rr.dep + m', _, hb', rfl⟩
end
end K80

namespace K80
open PySem PySem.Spec L2
open PyProof.Rows hiding St
local macro_rules | `(tactic| walk_at "ee") => `(tactic| first
  | ((with_reducible apply e_vd); exact rfl)
  | ((with_reducible apply e_vl); exact rfl)
  | ((with_reducible apply e_vv); exact rfl)
  | (with_reducible exact e_ci)
  | (with_reducible exact e_cs)
  | (with_reducible exact e_cb)
  | (with_reducible exact e_cn)
  | (with_reducible exact e_hole)
  | ((with_reducible apply e_ixT); (walk_at "ee"); (walk_at "ee"); (first | decide | omega); exact rfl)
  | ((with_reducible apply e_ixL); (walk_at "ee"); (walk_at "ee"); (first | decide | omega); exact rfl)
  | ((with_reducible apply e_tup); (walk_at "ea"); (exact rfl); (exact Nat.le_of_ble_eq_true rfl))
  | ((with_reducible apply e_lst); (walk_at "ea"); (exact rfl); (exact Nat.le_of_ble_eq_true rfl))
  | ((with_reducible apply e_lenT); (walk_at "ee"))
  | ((with_reducible apply e_lenL); (walk_at "ee"))
  | ((with_reducible apply e_eqS); (walk_at "ee"); (walk_at "ee"))
  | ((with_reducible apply e_eqI); (walk_at "ee"); (walk_at "ee"))
  | ((with_reducible apply e_neS); (walk_at "ee"); (walk_at "ee"))
  | ((with_reducible apply e_neI); (walk_at "ee"); (walk_at "ee"))
  | ((with_reducible apply e_i0); (walk_at "ee"); (walk_at "ee"))
  | ((with_reducible apply e_b0); (walk_at "ee"); (walk_at "ee"))
  | ((with_reducible apply e_isN); (walk_at "ee"))
  | ((with_reducible apply e_notN); (walk_at "ee"))
  | ((with_reducible apply e_tupOf); (walk_at "ee"))
  | ((with_reducible apply e_tail); (walk_at "ee"); (walk_at "ee"))
  | ((with_reducible apply e_call); (walk_at "ea"); (walk_at "own"))
  | ((with_reducible apply e_cat); (walk_at "ee"); (walk_at "ee"); (exact Nat.le_of_ble_eq_true rfl))
  | ((with_reducible apply e_andV); (walk_at "ee"); intro _; (walk_at "ee"))
  | walk_at "ee2")
local macro_rules | `(tactic| walk_at "ea") => `(tactic| first | (with_reducible exact a_nil) | ((with_reducible apply a_cons); (walk_at "ee"); (walk_at "ea")))
local macro_rules | `(tactic| walk_at "et") => `(tactic| first
  | ((with_reducible apply t_B); (walk_at "ee"))
  | ((with_reducible apply t_T); (walk_at "ee"))
  | ((with_reducible apply t_not); (walk_at "et")))
local macro_rules | `(tactic| walk_at "own") => `(tactic| fail "own")
local macro_rules | `(tactic| walk_at "ee2") => `(tactic| fail "ee2")
local macro_rules | `(tactic| walk_at "ret") => `(tactic| ((with_reducible apply s_ret); (walk_at "ee"); exact rfl))
local macro_rules | `(tactic| walk_at "retS") => `(tactic| ((with_reducible apply s_ret); (walk_at "ee"); rotate_left))

local macro_rules | `(tactic| walk_at "own") => `(tactic| first
  | exact ⟨_, _, rfl, rfl⟩
  | exact ⟨_, _, _, _, rfl, rfl⟩
  | (refine ⟨_, ?_, ?_, rfl, rfl⟩; (first | omega | assumption); assumption))
local macro_rules | `(tactic| walk_at "ee2") => `(tactic| first
  | ((with_reducible apply e_vx); exact rfl)
  | ((with_reducible apply e_vxl); exact rfl))
local macro_rules | `(tactic| walk_at "wk") => `(tactic| first
  | exact Wk.nil
  | ((apply Wk.same); (walk_at "wk"))
  | ((apply Wk.no); (walk_at "wk")))
section
variable {K : PySem.W.Frag} {δ : Sls} {ta tb te : TE}
theorem e_addS {x y : Str} (ha : Ee K ta δ (.d (.str x))) (hb : Ee K tb δ (.d (.str y))) (hl : x.length + y.length ≤ 1000) : Ee K (tOp (fun x y H Q => ∃ i j, x = .str i ∧ y = .str j ∧ i.length + j.length ≤ sizeLine ∧ Q (.str (i ++ j)) H) ta tb) δ (.d (.str (x ++ y))) := e_op2 ha hb fun u v H Q h1 h2 q =>
  ⟨x, y, h1.s, h2.s, sz5 (by omega), q _ H (Same.refl H) ⟨_, rfl, .str _⟩⟩
theorem e_ixS {z : Str} {i : Int} {c : Nat} (ha : Ee K ta δ (.d (.str z))) (hb : Ee K tb δ (.d (.int i))) (hl : z.length ≤ 1000) (hi : atI z.cps.toList i = some c) : Ee K (tOp rIxS ta tb) δ (.d (.str ⟨#[c]⟩)) := e_op2 ha hb fun u v H Q h1 h2 q =>
  ⟨z, i, c, h1.s, h2.i, sz5 (by omega), hi, q _ H (Same.refl H) ⟨_, rfl, .str _⟩⟩
theorem e_slS {tl th : TO} {z : Str} {lo hi : Option Int} (ha : Ee K te δ (.d (.str z))) (hlo : Eo K tl δ lo) (hhi : Eo K th δ hi) (hl : z.length ≤ 1000) : Ee K (tSl rSlS te tl th) δ (.d (.str (cutS z lo hi))) := fun σ H Q sd q => by
  refine ha σ H _ sd fun v H1 s1 ⟨w, e1, t1⟩ => ?_
  cases e1
  refine hlo σ H1 _ (sd.sm s1) fun H2 s2 => ?_
  refine hhi σ H2 _ (sd.sm (s1.trans s2)) fun H3 s3 => ?_
  exact ⟨z, t1.s, sz5 (by omega), q _ H3 ((s1.trans s2).trans s3) ⟨_, rfl, .str _⟩⟩
end
section
variable {K : PySem.W.Frag} {δ : Sls} {ti te : TE} {D : Ends} {σ : L2.St} {H : Hp} {p : Addr} {ds : List PD}
theorem r_setAt2 {i : Nat} {n : Nat} {e : PD} (sd : SD K H σ δ) (he : Ee K te δ (.d e)) (hi : σ[i]? = some (some (.ref p))) (hx : Ee K ti δ (.d (.int (n : Nat)))) (hp : Ls K H p ds) (hn : n < ds.length)
    (k : ∀ H', Off p H H' → Ls K H' p (ds.set n e) → Tk H H' → D.nx σ H') : tAsg te (gSub (tVar i) ti rSetL) D σ H := by
  obtain ⟨xs, h1, h2⟩ := hp
  refine he σ H _ sd fun v H1 s1 ⟨w, e1, t1⟩ => ?_
  cases e1
  refine ⟨_, hi, ?_⟩
  refine hx σ H1 _ (sd.sm s1) fun u H2 s2 ⟨w2, e2, t2⟩ => ?_
  cases e2
  have h1' := (s1.trans s2) _ _ h1
  have hl := h2.length
  refine ⟨p, xs, (n : Nat), n, rfl, t2.i, h1', ?_, ?_⟩
  · unfold ixN
    rw [if_pos (by omega), if_pos (by omega), Int.toNat_natCast]
  · exact k _ ((Off.of (s1.trans s2)).trans Off.upd) ⟨_, upd_same, (((h2.sm (s1.trans s2)).set (t1.sm s2) n)).mv (tt_lst h1')⟩ (fun a ys r => (tt_lst h1') a ys (same_rd (s1.trans s2) r))
theorem SD.unl {i : Nat} (sd : SD K H σ δ) (h : δ[i]? = some (.l ds)) : ∃ a, SD K H σ (δ.set i (.v (.ref a))) ∧ Ls K H a ds := by
  obtain ⟨o, h1, a, xs, rfl, q, r⟩ := sd.get h
  exact ⟨a, sd.chg h1 rfl, xs, q, r⟩
end
/-- a list to be read at a: one of ours, a frozen one, one of the top's -/
def SqD (K : PySem.W.Frag) (H : Hp) (a : Addr) (ds : List PD) : Prop := ∃ xs, SqL K H a xs ∧ TpAll K H xs ds
def isSq (K : PySem.W.Frag) (ds : List PD) (v : V) (H : Hp) : Prop := ∃ a, v = .ref a ∧ SqD K H a ds
section
variable {K : PySem.W.Frag} {δ : Sls} {ta tb te : TE} {σ : L2.St} {H H' : Hp} {a : Addr} {ds es : List PD}
theorem SqD.sm (h : SqD K H a ds) (s : Same H H') : SqD K H' a ds := by
  obtain ⟨xs, h1, h2⟩ := h
  refine ⟨xs, ?_, h2.sm s⟩
  rcases h1 with h1 | h1
  · exact .inl (same_rd s h1)
  · exact .inr h1
theorem isSq_at (h : SqD K H a ds) : SlAt K H (some (.ref a)) (.x (isSq K ds)) := ⟨_, rfl, fun _ s => ⟨a, rfl, h.sm s⟩⟩
theorem e_ixSq {i : Int} {d : PD} (ha : Ee K ta δ (.x (isSq K ds))) (hb : Ee K tb δ (.d (.int i))) (h0 : 0 ≤ i) (hi : ds[i.toNat]? = some d) : Ee K (tOp (rIxL K) ta tb) δ (.d d) := fun σ H Q sd q => by
  refine ha σ H _ sd fun v H1 s1 ⟨w, e1, f⟩ => ?_
  cases e1
  refine hb σ H1 _ (sd.sm s1) fun u H2 s2 ⟨w2, e2, t2⟩ => ?_
  cases e2
  obtain ⟨a, rfl, xs, p1, p2⟩ := f H2 s2
  obtain ⟨y, h3, h4⟩ := p2.at (atI_nn h0 hi)
  exact ⟨a, xs, i, y, rfl, t2.i, p1, h3, q y H2 (s1.trans s2) ⟨y, rfl, h4⟩⟩
theorem e_lenSq (ha : Ee K ta δ (.x (isSq K ds))) : Ee K (tCB (rLenQ K) (tCons ta tNil)) δ (.d (.int (ds.length : Nat))) := fun σ H Q sd q => by
  refine ha σ H _ sd fun v H1 s1 ⟨w, e1, f⟩ => ?_
  cases e1
  obtain ⟨a, rfl, xs, p1, p2⟩ := f H1 (Same.refl H1)
  refine ⟨a, xs, rfl, .inl p1, ?_⟩
  rw [p2.length]
  exact q _ H1 s1 ⟨_, rfl, .int _⟩
theorem n_slSq {tl th : TO} {lo hi : Option Int} (ha : Ee K te δ (.x (isSq K ds))) (hlo : Eo K tl δ lo) (hhi : Eo K th δ hi) (e : cutD ds lo hi = es) : En K (tSl (rSlL K) te tl th) δ es := fun σ H Q sd q => by
  refine ha σ H _ sd fun v H1 s1 ⟨w, e1, f⟩ => ?_
  cases e1
  refine hlo σ H1 _ (sd.sm s1) fun H2 s2 => ?_
  refine hhi σ H2 _ (sd.sm (s1.trans s2)) fun H3 s3 => ?_
  subst e
  obtain ⟨a, rfl, xs, p1, p2⟩ := f H3 (s2.trans s3)
  refine ⟨a, xs, rfl, p1, fun p hp => ?_⟩
  exact q p _ (same_upd2 ((s1.trans s2).trans s3) (((s1.trans s2).trans s3).free hp)) (((s1.trans s2).trans s3).free hp) ⟨_, upd_same, (p2.cut).sm (same_upd hp)⟩
theorem SD.unq {i : Nat} (sd : SD K H σ δ) (h : δ[i]? = some (.x (isSq K ds))) : ∃ a, SD K H σ (δ.set i (.v (.ref a))) ∧ SqD K H a ds := by
  obtain ⟨o, h1, v, e, f⟩ := sd.get h
  subst e
  obtain ⟨a, rfl, q⟩ := f H (Same.refl H)
  exact ⟨a, sd.chg h1 rfl, q⟩
theorem SD.vq {i : Nat} (sd : SD K H σ δ) (h : δ[i]? = some (.v (.ref a))) (hq : SqD K H a ds) : SD K H σ (δ.set i (.x (isSq K ds))) := by
  obtain ⟨o, h1, h2⟩ := sd.get h
  cases (show o = some (.ref a) from h2)
  exact sd.chg h1 (isSq_at hq)
end
section
variable {P : Program} {w : World} {K : PySem.W.Frag} {mg : Str → Option Value} {base : Heap}
def inz (ns : List Int) : List PD := ns.map PyData.int
theorem inz_len (ns : List Int) : (inz ns).length = ns.length := List.length_map _
theorem inz_at {ns : List Int} {k : Nat} (h : k < ns.length) : (inz ns)[k]? = some (.int (ns.getD k 0)) := by
  unfold inz
  rw [List.getElem?_map, List.getD_eq_getElem?_getD, List.getElem?_eq_getElem h]; rfl
/-! ### _law_cell -/
def RLCell (K : PySem.W.Frag) (ss : Sls) (s : Sl) : Prop := ∃ (ns : List Int) (k : Nat), ss = [.x (isSq K (inz ns)), .d (.int (k : Nat))] ∧ s = .d (.int (ns.getD k 0))
theorem ok_law_cell (T : Top K mg) : GOk P w K mg base 1 "_law_cell" ["script", "k"] (spD K (RLCell K)) := by
  refine g_pure T.d_law_cell scLCell (fun ss s h => ?_) (fun f cdv A outer s H E hr => ⟨_, (pss_cons (ps_if (pt_cmpR op_lt (pv 1) (pe_callB call_len_seq (by rfl) T.b_len PySem.boot_len (pa_cons (pv 0) pa_nil)) (nomark _)) (pss_one (ps_ret (pe_ix ix_list (pv 0) (pv 1) (fun _ _ => rfl)))) pss_nil)
      (pss_one (ps_ret pe_int))), fun ss s h => ?_⟩)
  · obtain ⟨ns, k, rfl, _⟩ := h; rfl
  · obtain ⟨ns, k, rfl, rfl⟩ := h
    try dsimp only [cxOf]
    have tt : Et K _ [.x (isSq K (inz ns)), .d (.int (k : Nat))] _ := t_T (e_b0 (f := fun i j => decide (i < j)) (i := (k : Nat)) (j := (ns.length : Nat)) (e_vd (i := 1) rfl) ((e_lenSq (e_vx (i := 0) rfl)).to (by rw [inz_len])))
    by_cases h : k < ns.length
    · refine s_seq (s_ifT tt (decide_eq_true (by omega)) ?_)
      exact s_ret (e_ixSq (ds := inz ns) (e_vx rfl) (e_vd rfl) (by omega) (by rw [Int.toNat_natCast]; exact inz_at h)) rfl
    · refine s_seq (s_ifF tt (decide_eq_false (by omega)) (s_next ?_))
      exact s_ret e_ci (by rw [List.getD_eq_getElem?_getD, List.getElem?_eq_none (by omega)]; rfl)
/-! ### _law_folded -/
def fold0 (cells : List Int) (n : Nat) : List Int := (List.range n).map fun k => cells.getD k 0
def foldN (cells : List Int) (n : Nat) : Nat → List Int
  | 0 => fold0 cells n
  | i + 1 => (foldN cells n i).set (i % n) ((foldN cells n i).getD (i % n) 0 * 31 % 10 ^ 40 + cells.getD (n + i) 0 % 10 ^ 40)
theorem foldN_len (cells : List Int) (n : Nat) : ∀ i, (foldN cells n i).length = n
  | 0 => by unfold foldN fold0; rw [List.length_map, List.length_range]
  | i + 1 => by unfold foldN; rw [List.length_set]; exact foldN_len cells n i
def folded (cells : List Int) (n : Nat) : List Int := foldN cells n (cells.length - n)
theorem folded_len (cells : List Int) (n : Nat) : (folded cells n).length = n := foldN_len _ _ _
theorem inz_set (ns : List Int) (i : Nat) (x : Int) : (inz ns).set i (.int x) = inz (ns.set i x) := by unfold inz; rw [List.map_set]
def RLFolded (ss : Sls) (s : Sl) : Prop := ∃ (cells : List Int) (n : Nat), 1 ≤ n ∧ n ≤ 20 ∧ cells.length ≤ 100 ∧ ss = [.l (inz cells), .d (.int (n : Nat))] ∧ s = .l (inz (folded cells n))
theorem ok_law_folded (T : Top K mg) : GOk P w K mg base 1 "_law_folded" ["cells", "many"] (spD K RLFolded) := by
  refine g_pure T.d_law_folded scLFolded (fun ss s h => ?_) (fun f cdv A outer s H E hr => ⟨_, (pss_cons (ps_setLc (i := 2) (own := [("k", 3)]) rfl scLFolded.nd rfl rfl (sw_true rfl rfl rfl (by decide +kernel)) (pi_range1 rfl T.b_range (pa_cons (pv 1) pa_nil)) (blkOk_by (N := nLFolded) (sc := (defScope sLFolded)) (by decide +kernel)) (fun _ _ _ _ _ => (pg_name (i := 3) scLFolded.nd rfl (Or.inl rfl) (hf := Or.inr rfl))) (fun _ _ _ _ _ => pts_nil) (fun _ _ _ _ _ => (pe_ifExp (pt_cmpR op_lt (pv 3) (pe_callB (call_lenK (K := K) rfl) (by rfl) T.b_len PySem.boot_len (pa_cons (pv 0) pa_nil)) (nomark _)) (pe_ix (ix_listK (K := K) rfl) (pv 0) (pv 3) (fun _ _ => rfl)) pe_int)))
      (pss_cons (ps_for PassesOwn.never rfl (pi_range2 rfl T.b_range (pa_cons (pv 1) (pa_cons (pe_callB call_len_seq (by rfl) T.b_len PySem.boot_len (pa_cons (pv 0) pa_nil)) pa_nil))) (pg_name (i := 3) scLFolded.nd rfl (Or.inl rfl)) (pss_one (ps_asg (pe_op op_add (pe_op op_mod (pe_op op_mul (pe_ix ix_list (pv 2) (pe_op op_mod (pv 3) (pv 1)) (fun _ _ => rfl)) pe_int) (pe_op op_pow pe_int pe_int)) (pe_op op_mod (pe_ix ix_list (pv 0) (pv 3) (fun _ _ => rfl)) (pe_op op_pow pe_int pe_int))) (pg_sub (pv 2) (pe_op op_mod (pv 3) (pv 1)) set_list))))
      (pss_one (ps_ret (pv 2))))), fun ss s h => ?_⟩)
  · obtain ⟨cells, n, _, _, _, rfl, _⟩ := h; rfl
  · obtain ⟨cells, n, h1, h2, h3, rfl, rfl⟩ := h
    try dsimp only [cxOf]
    intro σ H0 E sd le
    obtain ⟨a, sd0, la⟩ := SD.unl (i := 0) sd rfl
    have lenc : ∀ δ : Sls, δ[0]? = some (.l (inz cells)) → Ee K (tCB (rLenQ K) (tCons (tVar 0) tNil)) δ (.d (.int (cells.length : Nat))) := fun δ h => (e_lenL (e_vl h)).to (by rw [inz_len])
    refine r_setN (es := inz (fold0 cells n)) (n_lcR (n := (n : Nat)) (js := [3]) (δ2 := fun i => [.l (inz cells), .d (.int (n : Nat)), .no, .d (.int (0 + (i : Nat)))]) (by walk_at "ea") (by omega) (by decide) (by rw [inz_len]; unfold fold0; rw [List.length_map, List.length_range]; omega) (by rw [inz_len]; unfold fold0; rw [List.length_map, List.length_range]; omega) (fun i hi => ?_)) (sd0.vl (i := 0) rfl la) fun p H1 s1 n1 l1 sd1 => ?_
    · have hi : i < n := by omega
      refine ⟨.int (cells.getD i 0), ?_, g_name, ?_⟩
      · unfold inz fold0
        rw [List.getElem?_map, List.getElem?_map, List.getElem?_range hi]; rfl
      · refine e_if (b := decide (0 + ((i : Nat) : Int) < (cells.length : Nat))) (t_T (e_b0 (f := fun i j => decide (i < j)) (e_vd rfl) (lenc _ rfl))) (fun hb => ?_) (fun hb => ?_)
        · have hb := of_decide_eq_true hb
          exact e_ixL (ds := inz cells) (e_vl rfl) (e_vd rfl) (by omega) (by rw [show (0 + ((i : Nat) : Int)).toNat = i by omega]; exact inz_at (by omega))
        · have hb := of_decide_eq_false hb
          exact e_ci.to (by rw [List.getD_eq_getElem?_getD, List.getElem?_eq_none (by omega)]; rfl)
    · have nap : a ≠ p := by
        obtain ⟨xs, z, _⟩ := la
        exact ne_of_none z n1
      have sd1' : SD K H1 (σ.set 2 (some (.ref p))) [.v (.ref a), .d (.int (n : Nat)), .v (.ref p), .no] := SD.set (s := .v (.ref p)) rfl 2 (sd0.sm s1)
      refine r_forR2 (lo := (n : Nat)) (hi := (cells.length : Nat)) (a_cons (e_vd rfl) (a_cons (lenc _ rfl) a_nil)) (sd1'.vl (i := 0) rfl (la.sm s1)) (by omega) (by omega)
        (fun i σ' H' => SD K H' σ' [.v (.ref a), .d (.int (n : Nat)), .v (.ref p), .no] ∧ Ls K H' a (inz cells) ∧ Ls K H' p (inz (foldN cells n i)) ∧ Same H0 H')
        (fun H2 s2 => ⟨sd1'.sm s2, (la.sm s1).sm s2, l1.sm s2, s1.trans s2⟩) (fun i σ' H' hi ⟨sda, lc, lp, sm⟩ => ?_) (fun σ' H' ⟨sda, lc, lp, sm⟩ => ?_)
      · have sdb : SD K H' (σ'.set 3 (some (.int ((n : Nat) + (i : Nat))))) [.v (.ref a), .d (.int (n : Nat)), .v (.ref p), .d (.int ((n : Nat) + (i : Nat)))] := SD.set (s := .d (.int ((n : Nat) + (i : Nat)))) ⟨_, rfl, .int _⟩ 3 sda
        have sdx := (sdb.vx (i := 2) rfl lp).vl (i := 0) rfl lc
        have hin : i % n < n := Nat.mod_lt _ (by omega)
        have em : (((n : Nat) : Int) + (i : Nat)) % (n : Nat) = ((i % n : Nat) : Int) := by rw [Int.add_emod_left, ← Int.natCast_emod]
        have mm : ∀ δ : Sls, δ[1]? = some (.d (.int (n : Nat))) → δ[3]? = some (.d (.int ((n : Nat) + (i : Nat)))) → Ee K (tOp (rI (fun _ j => 0 < j) fun i j => .int (i % j)) (tVar 3) (tVar 1)) δ (.d (.int ((i % n : Nat) : Int))) := fun δ q1 q2 => (e_iC (C := fun _ j => 0 < j) (f := fun i j => i % j) (e_vd q2) (e_vd q1) (by omega)).to (by rw [em])
        have pw : ∀ δ : Sls, Ee K (tOp (rI CPow fun i j => .int (i ^ j.toNat)) (tC (.int 10)) (tC (.int 40))) δ (.d (.int (10 ^ 40))) := fun δ => (e_iC (C := CPow) (f := fun i j => i ^ j.toNat) e_ci e_ci ⟨by decide, by decide, by decide⟩).to rfl
        refine r_setAt2 (n := i % n) (e := .int ((foldN cells n i).getD (i % n) 0 * 31 % 10 ^ 40 + cells.getD (n + i) 0 % 10 ^ 40)) sdx
          (e_i0 (f := fun i j => i + j) (e_iC (C := fun _ j => 0 < j) (f := fun i j => i % j) (e_iC (C := CMul) (f := fun i j => i * j) (e_ixL (ds := inz (foldN cells n i)) (e_vxl (i := 2) rfl) (mm _ rfl rfl) (by omega) (by rw [Int.toNat_natCast]; exact inz_at (by rw [foldN_len]; exact hin))) (e_ci (i := 31)) (.inr ⟨by decide, by decide⟩)) (pw _) (by decide))
            (e_iC (C := fun _ j => 0 < j) (f := fun i j => i % j) (e_ixL (ds := inz cells) (e_vl (i := 0) rfl) (e_vd (i := 3) rfl) (by omega) (by rw [show (((n : Nat) : Int) + (i : Nat)).toNat = n + i by omega]; exact inz_at (by omega))) (pw _) (by decide)))
          (by obtain ⟨o, a1, a2⟩ := SD.get (i := 2) sdb rfl; cases (show o = some (.ref p) from a2); exact a1) (mm _ rfl rfl) lp (by rw [inz_len, foldN_len]; exact hin) fun H2 o2 l2 t2 => ?_
        rw [inz_set] at l2
        exact ⟨SD.wk (sdb.tt t2 rfl) (by walk_at "wk"), lc.offL o2 nap lp, l2, o2.same sm n1⟩
      · refine r_ret (s := .v (.ref p)) (e_vv rfl) sda fun v H3 s3 hv => ?_
        cases hv
        refine le.rt _ H3 (.l (inz (folded cells n))) (sm.trans s3) ?_ rfl
        have e : (((cells.length : Nat) : Int) - (n : Nat)).toNat = cells.length - n := by omega
        rw [e] at lp
        exact (lp.sm s3).l
end
end K80

namespace K80
open PySem PySem.Spec L2
open PyProof.Rows hiding St
local macro_rules | `(tactic| walk_at "ee") => `(tactic| first
  | ((with_reducible apply e_vd); exact rfl)
  | ((with_reducible apply e_vl); exact rfl)
  | ((with_reducible apply e_vv); exact rfl)
  | (with_reducible exact e_ci)
  | (with_reducible exact e_cs)
  | (with_reducible exact e_cb)
  | (with_reducible exact e_cn)
  | (with_reducible exact e_hole)
  | ((with_reducible apply e_ixT); (walk_at "ee"); (walk_at "ee"); (first | decide | omega); exact rfl)
  | ((with_reducible apply e_ixL); (walk_at "ee"); (walk_at "ee"); (first | decide | omega); exact rfl)
  | ((with_reducible apply e_tup); (walk_at "ea"); (exact rfl); (exact Nat.le_of_ble_eq_true rfl))
  | ((with_reducible apply e_lst); (walk_at "ea"); (exact rfl); (exact Nat.le_of_ble_eq_true rfl))
  | ((with_reducible apply e_lenT); (walk_at "ee"))
  | ((with_reducible apply e_lenL); (walk_at "ee"))
  | ((with_reducible apply e_eqS); (walk_at "ee"); (walk_at "ee"))
  | ((with_reducible apply e_eqI); (walk_at "ee"); (walk_at "ee"))
  | ((with_reducible apply e_neS); (walk_at "ee"); (walk_at "ee"))
  | ((with_reducible apply e_neI); (walk_at "ee"); (walk_at "ee"))
  | ((with_reducible apply e_i0); (walk_at "ee"); (walk_at "ee"))
  | ((with_reducible apply e_b0); (walk_at "ee"); (walk_at "ee"))
  | ((with_reducible apply e_isN); (walk_at "ee"))
  | ((with_reducible apply e_notN); (walk_at "ee"))
  | ((with_reducible apply e_tupOf); (walk_at "ee"))
  | ((with_reducible apply e_tail); (walk_at "ee"); (walk_at "ee"))
  | ((with_reducible apply e_call); (walk_at "ea"); (walk_at "own"))
  | ((with_reducible apply e_cat); (walk_at "ee"); (walk_at "ee"); (exact Nat.le_of_ble_eq_true rfl))
  | ((with_reducible apply e_andV); (walk_at "ee"); intro _; (walk_at "ee"))
  | walk_at "ee2")
local macro_rules | `(tactic| walk_at "ea") => `(tactic| first | (with_reducible exact a_nil) | ((with_reducible apply a_cons); (walk_at "ee"); (walk_at "ea")))
local macro_rules | `(tactic| walk_at "et") => `(tactic| first
  | ((with_reducible apply t_B); (walk_at "ee"))
  | ((with_reducible apply t_T); (walk_at "ee"))
  | ((with_reducible apply t_not); (walk_at "et")))
local macro_rules | `(tactic| walk_at "own") => `(tactic| fail "own")
local macro_rules | `(tactic| walk_at "ee2") => `(tactic| fail "ee2")
local macro_rules | `(tactic| walk_at "ret") => `(tactic| ((with_reducible apply s_ret); (walk_at "ee"); exact rfl))
local macro_rules | `(tactic| walk_at "retS") => `(tactic| ((with_reducible apply s_ret); (walk_at "ee"); rotate_left))

local macro_rules | `(tactic| walk_at "own") => `(tactic| first
  | exact ⟨_, _, rfl, rfl⟩
  | exact ⟨_, _, _, _, rfl, rfl⟩
  | (refine ⟨_, ?_, ?_, rfl, rfl⟩; (first | omega | assumption); assumption))
local macro_rules | `(tactic| walk_at "wk") => `(tactic| first
  | exact Wk.nil
  | ((apply Wk.same); (walk_at "wk"))
  | ((apply Wk.no); (walk_at "wk")))
section
variable {P : Program} {w : World} {K : PySem.W.Frag} {mg : Str → Option Value} {base : Heap}
/-! ### _law_names -/
def ltr (i : Int) : Str := ⟨#[97 + i.toNat]⟩
abbrev everyS : Str := "abcdefghijklmnopqrstuvwxyz"
theorem every_cps : everyS.cps.toList = (List.range 26).map (97 + ·) := by decide +kernel
theorem every_len : everyS.length ≤ 1000 := by decide +kernel
theorem every_at {i : Int} (h0 : 0 ≤ i) (h1 : i < 26) : atI everyS.cps.toList i = some (97 + i.toNat) := by
  refine atI_nn h0 ?_
  rw [every_cps, List.getElem?_map, List.getElem?_range (by omega)]; rfl
def wordN (a : Int) : Nat → Str
  | 0 => ⟨#[]⟩
  | k + 1 => wordN a k ++ ltr (a / ((k : Nat) + 1) % 26)
theorem str_app_cps (x y : Str) : (x ++ y).cps = x.cps ++ y.cps := rfl
theorem wordN_len (a : Int) : ∀ k, (wordN a k).cps.size = k
  | 0 => rfl
  | k + 1 => by
    show ((wordN a k).cps ++ (ltr _).cps).size = k + 1
    rw [Array.size_append, wordN_len a k]; rfl
def turnN (cell : Int) (k : Nat) : Str := ltr ((cell / 16 + 5 * (1 + cell / 4 % 4) * (k : Nat)) % 26)
def nm (cell : Int) (k : Nat) : Str :=
  if cell % 4 = 0 then turnN cell k
  else if cell % 4 = 1 then turnN cell k ++ cutS (wordN (cell / 16) 8) (some 1) (some 4)
  else if cell % 4 = 2 then cutS (wordN (cell / 16) 8) none (some 5) ++ turnN cell k
  else cutS (wordN (cell / 16) 8) none (some (2 * (k : Nat) + 2))
def nms (cell : Int) : List PD := (List.range 4).map fun k => .str (nm cell k)
theorem str_len (x : Str) : x.length = x.cps.size := rfl
theorem cut_le (z : Str) (lo hi : Option Int) : (cutS z lo hi).length ≤ z.length := cutS_length z lo hi
def RLNames (ss : Sls) (s : Sl) : Prop := ∃ cell : Int, ss = [.d (.int cell)] ∧ s = .l (nms cell)
theorem ok_law_names (T : Top K mg) : GOk P w K mg base 1 "_law_names" ["cell"] (spD K RLNames) := by
  refine g_pure T.d_law_names scLNames (fun ss s h => ?_) (fun f cdv A outer s H E hr => ⟨_, (pss_cons (ps_set (i := 1) scLNames.nd rfl (Or.inl rfl) pe_str)
      (pss_cons (ps_set (i := 2) scLNames.nd rfl (Or.inl rfl) (pe_op op_add pe_int (pe_op op_mod (pe_op op_fdiv (pv 0) pe_int) pe_int)))
      (pss_cons (ps_set (i := 3) scLNames.nd rfl (Or.inl rfl) (pe_op op_fdiv (pv 0) pe_int))
      (pss_cons (ps_set (i := 4) scLNames.nd rfl (Or.inl rfl) pe_str)
      (pss_cons (ps_for PassesOwn.never rfl (pi_range1 rfl T.b_range (pa_cons pe_int pa_nil)) (pg_name (i := 5) scLNames.nd rfl (Or.inl rfl)) (pss_one (ps_set (i := 4) scLNames.nd rfl (Or.inl rfl) (pe_op op_add_str (pv 4) (pe_ix ix_str (pv 1) (pe_op op_mod (pe_op op_fdiv (pv 3) (pe_op op_add (pv 5) pe_int)) pe_int) (fun _ _ => rfl))))))
      (pss_cons (ps_set (i := 6) scLNames.nd rfl (Or.inl rfl) (pe_lst pa_nil))
      (pss_cons (ps_for PassesOwn.never rfl (pi_range1 rfl T.b_range (pa_cons pe_int pa_nil)) (pg_name (i := 5) scLNames.nd rfl (Or.inl rfl)) (pss_cons (ps_set (i := 7) scLNames.nd rfl (Or.inl rfl) (pe_ix ix_str (pv 1) (pe_op op_mod (pe_op op_add (pv 3) (pe_op op_mul (pe_op op_mul pe_int (pv 2)) (pv 5))) pe_int) (fun _ _ => rfl)))
      (pss_one (ps_if (pt_cmpR op_eq (pe_op op_mod (pv 0) pe_int) pe_int (nomark _)) (pss_one (ps_expr (pe_bm PySem.F.plainAttrs_list PySem.F.slot_list_append PySem.F.type_list_append mt_append (pv 6) (pa_cons (pv 7) pa_nil)))) (pss_one (ps_if (pt_cmpR op_eq (pe_op op_mod (pv 0) pe_int) pe_int (nomark _)) (pss_one (ps_expr (pe_bm PySem.F.plainAttrs_list PySem.F.slot_list_append PySem.F.type_list_append mt_append (pv 6) (pa_cons (pe_op op_add_str (pv 7) (pe_slice sl_str (pv 4) (po_some pe_int) (po_some pe_int))) pa_nil)))) (pss_one (ps_if (pt_cmpR op_eq (pe_op op_mod (pv 0) pe_int) pe_int (nomark _)) (pss_one (ps_expr (pe_bm PySem.F.plainAttrs_list PySem.F.slot_list_append PySem.F.type_list_append mt_append (pv 6) (pa_cons (pe_op op_add_str (pe_slice sl_str (pv 4) po_none (po_some pe_int)) (pv 7)) pa_nil)))) (pss_one (ps_expr (pe_bm PySem.F.plainAttrs_list PySem.F.slot_list_append PySem.F.type_list_append mt_append (pv 6) (pa_cons (pe_slice sl_str (pv 4) po_none (po_some (pe_op op_add (pe_op op_mul pe_int (pv 5)) pe_int))) pa_nil))))))))))))
      (pss_one (ps_ret (pv 6)))))))))), fun ss s h => ?_⟩)
  · obtain ⟨cell, rfl, _⟩ := h; rfl
  · obtain ⟨cell, rfl, rfl⟩ := h
    try dsimp only [cxOf]
    have dv : ∀ {δ : Sls} {ta : TE} {i : Int} (n : Int), 0 < n ∧ n < 1073741824 → Ee K ta δ (.d (.int i)) → Ee K (tOp (rI CDiv fun i j => .int (i / j)) ta (tC (.int n))) δ (.d (.int (i / n))) := fun n hn h => e_iC (C := CDiv) (f := fun i j => i / j) h e_ci hn
    have md : ∀ {δ : Sls} {ta : TE} {i : Int} (n : Int), 0 < n → Ee K ta δ (.d (.int i)) → Ee K (tOp (rI (fun _ j => 0 < j) fun i j => .int (i % j)) ta (tC (.int n))) δ (.d (.int (i % n))) := fun n hn h => e_iC (C := fun _ j => 0 < j) (f := fun i j => i % j) h e_ci hn
    refine s_seq (s_set (s := .d (.str everyS)) e_cs ?_)
    refine s_seq (s_set (s := .d (.int (1 + cell / 4 % 4))) (e_i0 (f := fun i j => i + j) e_ci (md 4 (by decide) (dv 4 (by decide) (e_vd rfl)))) ?_)
    refine s_seq (s_set (s := .d (.int (cell / 16))) (dv 16 (by decide) (e_vd rfl)) ?_)
    refine s_seq (s_set (s := .d (.str (wordN (cell / 16) 0))) e_cs ?_)
    refine s_seq (s_forR1 (n := 8) (js := [5]) (a_cons e_ci a_nil) (by decide) (fun i δ => ∃ z, δ = [.d (.int cell), .d (.str everyS), .d (.int (1 + cell / 4 % 4)), .d (.int (cell / 16)), .d (.str (wordN (cell / 16) i)), z, .no, .no]) ⟨.no, rfl⟩ (fun i δ hi ⟨z, e⟩ => ?_) (fun δ ⟨z, e⟩ => ?_))
    · subst e
      have hi : i < 8 := by simpa using hi
      refine ⟨_, g_name, ?_⟩
      have hm := Int.emod_nonneg (cell / 16 / (0 + ((i : Nat) : Int) + 1)) (show (26 : Int) ≠ 0 by decide)
      have hm2 := Int.emod_lt_of_pos (cell / 16 / (0 + ((i : Nat) : Int) + 1)) (show (0 : Int) < 26 by decide)
      refine s_set (s := .d (.str (wordN (cell / 16) i ++ ltr (cell / 16 / (0 + ((i : Nat) : Int) + 1) % 26)))) (e_addS (e_vd rfl) (e_ixS (z := everyS) (i := cell / 16 / (0 + ((i : Nat) : Int) + 1) % 26) (e_vd rfl) (md 26 (by decide) (e_iC (C := CDiv) (f := fun i j => i / j) (e_vd rfl) (e_i0 (f := fun i j => i + j) (e_vd rfl) e_ci) ⟨by omega, by omega⟩)) every_len (every_at hm hm2)) ?_) ⟨.d (.int (0 + (i : Nat))), ?_⟩
      · rw [str_len, wordN_len]
        show i + 1 ≤ 1000
        omega
      · rw [Int.zero_add]; rfl
    · subst e
      intro σ H0 E sd le
      refine r_newL sd fun p H1 s1 n1 l1 sd1 => ?_
      have w8 : (wordN (cell / 16) 8).length ≤ 1000 := by rw [str_len, wordN_len]; decide
      refine r_forR (n := 4) (a_cons e_ci a_nil) sd1 (by decide)
        (fun i σ' H' => SD K H' σ' [.d (.int cell), .d (.str everyS), .d (.int (1 + cell / 4 % 4)), .d (.int (cell / 16)), .d (.str (wordN (cell / 16) 8)), .no, .v (.ref p), .no] ∧ Ls K H' p ((nms cell).take i) ∧ Same H0 H')
        (fun H2 s2 => ⟨SD.wk (sd1.sm s2) (by walk_at "wk"), l1.sm s2, s1.trans s2⟩) (fun i σ' H' hi ⟨sda, lp, sm⟩ => ?_) (fun σ' H' ⟨sda, lp, sm⟩ => ?_)
      · have hi : i < 4 := by simpa using hi
        have sdb : SD K H' (σ'.set 5 (some (.int (i : Nat)))) [.d (.int cell), .d (.str everyS), .d (.int (1 + cell / 4 % 4)), .d (.int (cell / 16)), .d (.str (wordN (cell / 16) 8)), .d (.int (i : Nat)), .v (.ref p), .no] := SD.set (s := .d (.int (i : Nat))) ⟨_, rfl, .int _⟩ 5 sda
        have hm := Int.emod_nonneg (cell / 16 + 5 * (1 + cell / 4 % 4) * ((i : Nat) : Int)) (show (26 : Int) ≠ 0 by decide)
        have hm2 := Int.emod_lt_of_pos (cell / 16 + 5 * (1 + cell / 4 % 4) * ((i : Nat) : Int)) (show (0 : Int) < 26 by decide)
        have h44 := Int.emod_nonneg (cell / 4) (show (4 : Int) ≠ 0 by decide)
        have h45 := Int.emod_lt_of_pos (cell / 4) (show (0 : Int) < 4 by decide)
        have h46 := Int.emod_nonneg cell (show (4 : Int) ≠ 0 by decide)
        have h47 := Int.emod_lt_of_pos cell (show (0 : Int) < 4 by decide)
        refine r_set (s := .d (.str (turnN cell i))) (e_ixS (z := everyS) (e_vd rfl) (md 26 (by decide) (e_i0 (f := fun i j => i + j) (e_vd rfl) (e_iC (C := CMul) (f := fun i j => i * j) (e_iC (C := CMul) (f := fun i j => i * j) e_ci (e_vd rfl) (.inl ⟨by decide, by decide⟩)) (e_vd rfl) (.inr ⟨by omega, by omega⟩)))) every_len (every_at hm hm2)) sdb fun v H2 s2 sd2 => ?_
        have c4 : ∀ (δ : Sls) (n : Int), δ[0]? = some (.d (.int cell)) → Et K (tTest (tOp rEq (tOp (rI (fun _ j => 0 < j) fun i j => .int (i % j)) (tVar 0) (tC (.int 4))) (tC (.int n)))) δ (decide (cell % 4 = n)) := fun δ n h => t_T (e_eqI (md 4 (by decide) (e_vd h)) e_ci)
        have fin : ∀ (y : Str) (te : TE), nm cell i = y → Ee K te [.d (.int cell), .d (.str everyS), .d (.int (1 + cell / 4 % 4)), .d (.int (cell / 16)), .d (.str (wordN (cell / 16) 8)), .d (.int (i : Nat)), .v (.ref p), .d (.str (turnN cell i))] (.d (.str y)) → ∀ H3, Same H2 H3 → ∀ D : Ends, (∀ σ3 H4, SD K H4 σ3 [.d (.int cell), .d (.str everyS), .d (.int (1 + cell / 4 % 4)), .d (.int (cell / 16)), .d (.str (wordN (cell / 16) 8)), .no, .v (.ref p), .no] ∧ Ls K H4 p ((nms cell).take (i + 1)) ∧ Same H0 H4 → D.nx σ3 H4) → tDrop (tBM K "list" rAppend (tVar 6) (tCons te tNil)) D ((σ'.set 5 (some (.int (i : Nat)))).set 7 (some v)) H3 := fun y te hy he H3 s3 D hD => by
          refine r_append (p := p) (ds := (nms cell).take i) (e := .str y) (sd2.sm s3) rfl he ((lp.sm s2).sm s3) (by rw [List.length_take]; unfold nms; rw [List.length_map, List.length_range]; omega) rfl fun H4 o4 l4 sd4 => ?_
          refine hD _ H4 ⟨SD.wk sd4 (by walk_at "wk"), ?_, o4.same ((sm.trans s2).trans s3) n1⟩
          have e : (nms cell).take (i + 1) = (nms cell).take i ++ [.str y] := by
            rw [List.take_add_one]
            congr 1
            unfold nms
            rw [List.getElem?_map, List.getElem?_range hi, ← hy]; rfl
          rw [e]
          exact l4
        refine r_ifS (c4 _ 0 rfl) sd2 (fun hb H3 s3 => ?_) (fun hb H3 s3 => ?_)
        · have hb := of_decide_eq_true hb
          exact fin (turnN cell i) _ (by unfold nm; rw [if_pos hb]) (e_vd rfl) H3 s3 _ (fun _ _ h => h)
        have hb := of_decide_eq_false hb
        refine r_ifS (c4 _ 1 rfl) (sd2.sm s3) (fun hb1 H4 s4 => ?_) (fun hb1 H4 s4 => ?_)
        · have hb1 := of_decide_eq_true hb1
          refine fin (turnN cell i ++ cutS (wordN (cell / 16) 8) (some 1) (some 4)) _ (by unfold nm; rw [if_neg hb, if_pos hb1]) (e_addS (e_vd rfl) (e_slS (e_vd rfl) (o_some e_ci) (o_some e_ci) w8) ?_) H4 (s3.trans s4) _ (fun _ _ h => h)
          have := cut_le (wordN (cell / 16) 8) (some 1) (some 4)
          rw [str_len (wordN _ _), wordN_len] at this
          show 1 + _ ≤ 1000
          omega
        have hb1 := of_decide_eq_false hb1
        refine r_ifS (c4 _ 2 rfl) ((sd2.sm s3).sm s4) (fun hb2 H5 s5 => ?_) (fun hb2 H5 s5 => ?_)
        · have hb2 := of_decide_eq_true hb2
          refine fin (cutS (wordN (cell / 16) 8) none (some 5) ++ turnN cell i) _ (by unfold nm; rw [if_neg hb, if_neg hb1, if_pos hb2]) (e_addS (e_slS (e_vd rfl) o_none (o_some e_ci) w8) (e_vd rfl) ?_) H5 ((s3.trans s4).trans s5) _ (fun _ _ h => h)
          have := cut_le (wordN (cell / 16) 8) none (some 5)
          rw [str_len (wordN _ _), wordN_len] at this
          show _ + 1 ≤ 1000
          omega
        · have hb2 := of_decide_eq_false hb2
          exact fin (cutS (wordN (cell / 16) 8) none (some (2 * (i : Nat) + 2))) _ (by unfold nm; rw [if_neg hb, if_neg hb1, if_neg hb2]) (e_slS (e_vd rfl) o_none (o_some (e_i0 (f := fun i j => i + j) (e_iC (C := CMul) (f := fun i j => i * j) e_ci (e_vd rfl) (.inl ⟨by decide, by decide⟩)) e_ci)) w8) H5 ((s3.trans s4).trans s5) _ (fun _ _ h => h)
      · refine r_ret (s := .v (.ref p)) (e_vv rfl) sda fun v H3 s3 hv => ?_
        cases hv
        refine le.rt _ H3 (.l (nms cell)) (sm.trans s3) ?_ rfl
        have e : (nms cell).take (4 : Int).toNat = nms cell := rfl
        rw [e] at lp
        exact (lp.sm s3).l
end
end K80

/-! Steps for the law's own defs: isinstance, index, not in, pop. -/
namespace K80
open PySem PySem.Spec L2
open PyProof.Rows hiding St
theorem room_units1 {k : Nat} {A : Around} (r : Room k A) : A.units + 65 < cLine := by have := r.un; omega
def rNotInT (K : PySem.W.Frag) : R2 := fun x y H Q => ∃ d ds, Dp K H x d ∧ Dp K H y (.tuple ds) ∧ SeqAt.shaped d = true ∧ SeqAt.shaped (.tuple ds) = true ∧ Q (.bl (!ds.any fun z => PyData.eqv z d)) H
section
variable {X : Cx}
theorem op_notInTD (hu : X.A.units + 65 < cLine) : OpR X (compareOp .NotIn) (rNotInT X.K) := by
  intro pins s σ H x y v u Q I rx ry h
  obtain ⟨d, ds, hd, he, sd, se, q⟩ := h
  obtain ⟨as, r1⟩ := Dp.reads I d x v hd rx
  obtain ⟨bs, r2⟩ := Dp.reads I (.tuple ds) y u he ry
  exact SeqAt.notIn_tuple_reads r2 r1 (SeqAt.canLay_of_shaped se) (SeqAt.canLay_of_shaped sd) (room_in_shaped sd hu) ⟨.bl _, H, I, rfl, q⟩
end
def tyN : PD → String
  | .none => "NoneType"
  | .bool _ => "bool"
  | .int _ => "int"
  | .str _ => "str"
  | .tuple _ => "tuple"
  | .list _ => "list"
  | .dict _ => "dict"
section
variable {K : PySem.W.Frag} {δ δ2 : Sls} {ta tb te : TE} {H : Hp} {D : Ends} {σ : L2.St} {u : TS} {p : Addr} {ds : List PD} {g : TG} {js : List Nat}
theorem tyX_of {v : V} {d : PD} (h : Tp K H v d) : TyX K H v (.type (tyN d)) := by
  cases h with
  | non => exact .base .non
  | bl b => exact .base (.bl b)
  | int i => exact .base (.int i)
  | str x => exact .base (.str x)
  | tup q r =>
    rcases q with (q | ⟨o, q⟩) | q
    · exact .base (.tup q)
    · exact .fTuple q
    · obtain ⟨o, its, n, e, c, _⟩ := q
      exact .kTuple e c
theorem kit_same (n : String) : PySem.W.kitOne K (.type n) (.type n) = some true := by
  unfold PySem.W.kitOne
  rw [if_pos (by simp)]
theorem kit_ib : PySem.W.kitOne K (.type "int") (.type "bool") = some false := rfl
theorem e_isi {d : PD} {n : String} {b : Bool} (ha : Ee K ta δ (.d d)) (hk : PySem.W.kitOne K (.type (tyN d)) (.type n) = some b) : Ee K (tCB (rIsi K) (tCons ta (tCons (tC (.ty n)) tNil))) δ (.d (.bool b)) := fun σ H Q sd q => by
  refine ha σ H _ sd fun v H1 s1 ⟨w, e1, t1⟩ => ?_
  cases e1
  exact ⟨_, _, _, _, b, rfl, .ty n, tyX_of t1, hk, q _ H1 s1 ⟨_, rfl, .bl _⟩⟩
theorem e_notInT {d : PD} (ha : Ee K ta δ (.d d)) (hb : Ee K tb δ (.d (.tuple ds))) (h1 : SeqAt.shaped d = true) (h2 : SeqAt.shaped (.tuple ds) = true) : Ee K (tOp (rNotInT K) ta tb) δ (.d (.bool (!ds.any fun z => PyData.eqv z d))) := e_op2 ha hb fun u v H Q t1 t2 q =>
  ⟨d, ds, Tp.dp _ _ t1, Tp.dp _ _ t2, h1, h2, q _ H (Same.refl H) ⟨_, rfl, .bl _⟩⟩
theorem e_index {d z : PD} {j : Nat} (ha : Ee K ta δ (.l ds)) (hb : Ee K tb δ (.d d)) (h1 : SeqAt.shaped (.list ds) = true) (h2 : SeqAt.shaped d = true) (hz : ds[j]? = some z) (he : PyData.eqv z d = true) (hn : ∀ (m : Nat) (z' : PyData), m < j → ds[m]? = some z' → PyData.eqv z' d = false) :
    Ee K (tBM K "list" (rIndexD K) ta (tCons tb tNil)) δ (.d (.int (j : Nat))) := fun σ H Q sd q => by
  refine ha σ H _ sd fun v H1 s1 ⟨a, xs, e1, p1, p2⟩ => ?_
  cases e1
  refine ⟨.inl ⟨rfl, _, SqL.of p1⟩, ?_⟩
  refine hb σ H1 _ (sd.sm s1) fun u H2 s2 ⟨w, e2, t2⟩ => ?_
  cases e2
  exact ⟨a, _, d, ds, j, z, rfl, rfl, .lst (SqL.of (s2 _ _ p1)) (TpAll.dp _ _ (p2.sm s2)), Tp.dp _ _ t2, h1, h2, hz, he, hn, q _ H2 (s1.trans s2) ⟨_, rfl, .int _⟩⟩
theorem e_notB {a b : Bool} (ha : Ee K ta δ (.d (.bool a))) (hb : Ee K tb δ (.d (.bool b))) : Ee K (tOp rNotB ta tb) δ (.d (.bool (!decide (a = b)))) := e_op2 ha hb fun u v H Q t1 t2 q =>
  ⟨a, b, t1.b, t2.b, q _ H (Same.refl H) ⟨_, rfl, .bl _⟩⟩
/-- x = xs.pop() -/
theorem r_popAsg {i : Nat} {d : PD} (sd : SD K H σ δ) (hi : δ[i]? = some (.v (.ref p))) (hp : Ls K H p (ds ++ [d])) (hg : Eg K g js (.d d) δ δ2) (n : noL δ = true)
    (k : ∀ σ' H', Off p H H' → Ls K H' p ds → SD K H' σ' δ2 → u D σ' H') : tSeq (tAsg (tBM0 K "list" rPop (tVar i)) g) u D σ H := by
  obtain ⟨xs, h1, h2⟩ := hp
  obtain ⟨o, g1, g2⟩ := sd.get hi
  cases (show o = some (.ref p) from g2)
  refine ⟨_, g1, .inl ⟨rfl, _, SqL.of h1⟩, ?_⟩
  have hl := h2.length
  rw [List.length_append, List.length_singleton] at hl
  obtain ⟨y, hy, ty⟩ := h2.get (i := ds.length) (d := d) (by simp)
  refine ⟨p, xs, y, rfl, rfl, h1, by rw [show xs.length - 1 = ds.length by omega]; exact hy, ?_⟩
  have t := tt_lst (o := .lst xs.dropLast) h1
  refine hg σ _ y _ (sd.tt t n) ⟨y, rfl, ty.mv t⟩ fun σ' sd' _ => k σ' _ Off.upd ⟨_, upd_same, ?_⟩ sd'
  have e := (h2.take ds.length).mv t
  rw [List.take_left] at e
  have e2 : xs.take ds.length = xs.dropLast := by rw [List.dropLast_eq_take, show xs.length - 1 = ds.length by omega]
  rw [e2] at e
  exact e
end
end K80

namespace K80
open PySem PySem.Spec L2
open PyProof.Rows hiding St
local macro_rules | `(tactic| walk_at "ee") => `(tactic| first
  | ((with_reducible apply e_vd); exact rfl)
  | ((with_reducible apply e_vl); exact rfl)
  | ((with_reducible apply e_vv); exact rfl)
  | (with_reducible exact e_ci)
  | (with_reducible exact e_cs)
  | (with_reducible exact e_cb)
  | (with_reducible exact e_cn)
  | (with_reducible exact e_hole)
  | ((with_reducible apply e_ixT); (walk_at "ee"); (walk_at "ee"); (first | decide | omega); exact rfl)
  | ((with_reducible apply e_ixL); (walk_at "ee"); (walk_at "ee"); (first | decide | omega); exact rfl)
  | ((with_reducible apply e_tup); (walk_at "ea"); (exact rfl); (exact Nat.le_of_ble_eq_true rfl))
  | ((with_reducible apply e_lst); (walk_at "ea"); (exact rfl); (exact Nat.le_of_ble_eq_true rfl))
  | ((with_reducible apply e_lenT); (walk_at "ee"))
  | ((with_reducible apply e_lenL); (walk_at "ee"))
  | ((with_reducible apply e_eqS); (walk_at "ee"); (walk_at "ee"))
  | ((with_reducible apply e_eqI); (walk_at "ee"); (walk_at "ee"))
  | ((with_reducible apply e_neS); (walk_at "ee"); (walk_at "ee"))
  | ((with_reducible apply e_neI); (walk_at "ee"); (walk_at "ee"))
  | ((with_reducible apply e_i0); (walk_at "ee"); (walk_at "ee"))
  | ((with_reducible apply e_b0); (walk_at "ee"); (walk_at "ee"))
  | ((with_reducible apply e_isN); (walk_at "ee"))
  | ((with_reducible apply e_notN); (walk_at "ee"))
  | ((with_reducible apply e_tupOf); (walk_at "ee"))
  | ((with_reducible apply e_tail); (walk_at "ee"); (walk_at "ee"))
  | ((with_reducible apply e_call); (walk_at "ea"); (walk_at "own"))
  | ((with_reducible apply e_cat); (walk_at "ee"); (walk_at "ee"); (exact Nat.le_of_ble_eq_true rfl))
  | ((with_reducible apply e_andV); (walk_at "ee"); intro _; (walk_at "ee"))
  | walk_at "ee2")
local macro_rules | `(tactic| walk_at "ea") => `(tactic| first | (with_reducible exact a_nil) | ((with_reducible apply a_cons); (walk_at "ee"); (walk_at "ea")))
local macro_rules | `(tactic| walk_at "et") => `(tactic| first
  | ((with_reducible apply t_B); (walk_at "ee"))
  | ((with_reducible apply t_T); (walk_at "ee"))
  | ((with_reducible apply t_not); (walk_at "et")))
local macro_rules | `(tactic| walk_at "own") => `(tactic| fail "own")
local macro_rules | `(tactic| walk_at "ee2") => `(tactic| fail "ee2")
local macro_rules | `(tactic| walk_at "ret") => `(tactic| ((with_reducible apply s_ret); (walk_at "ee"); exact rfl))
local macro_rules | `(tactic| walk_at "retS") => `(tactic| ((with_reducible apply s_ret); (walk_at "ee"); rotate_left))

local macro_rules | `(tactic| walk_at "own") => `(tactic| first
  | exact ⟨_, _, rfl, rfl⟩
  | exact ⟨_, _, _, _, rfl, rfl⟩
  | (refine ⟨_, ?_, ?_, rfl, rfl⟩; (first | omega | assumption); assumption))
local macro_rules | `(tactic| walk_at "wk") => `(tactic| first
  | exact Wk.nil
  | ((apply Wk.same); (walk_at "wk"))
  | ((apply Wk.no); (walk_at "wk")))
section
variable {P : Program} {w : World} {K : PySem.W.Frag} {mg : Str → Option Value} {base : Heap}
/-! ### _law_name_at -/
/-- a state's pattern at a tree -/
def rowAt (a : Str) (p : Pat) : Tr → Pat
  | [] => .lf a
  | _ :: _ => p
inductive NA (B : LB) : Nat → Pat → Tr → Nat → Str → Prop
  | done {p t} : notSign p.hd = true → NA B 0 p t 0 p.hd
  | down {n y p t r x} : notSign y = true → NA B n p t r x → NA B (n + 1) (.g y p) t (r + 1) x
  | call {n s k' k r p rem x} : B.rs[s]? = some p → k' < B.I.m → NA B n (rowAt B.a p (if k' = k then r else [])) (if k' = k then r else []) rem x → NA B (n + 1) (.call (.int ((s : Nat) : Int)) ((k' : Nat) : Int)) (k :: r) rem x
def tHd (I : Ins) : Tr → Str
  | [] => I.l
  | _ :: _ => I.k
theorem trE_eq (I : Ins) : ∀ t : Tr, ∃ r, trE I t = .tuple (.str (tHd I t) :: r)
  | [] => ⟨[], rfl⟩
  | k :: r => ⟨_, rfl⟩
theorem str_sh {x : Str} (h : PyData.strOk x = true) : SeqAt.shaped (.str x) = true := by simp [SeqAt.shaped, PyData.canLay0, PyData.depth, h]
theorem eqv_str (x y : Str) : PyData.eqv (.str x) (.str y) = decide (x = y) := by
  simp only [PyData.eqv]
  rw [Bool.beq_eq_decide_eq]
/-- the row of a state, at the kind of a tree -/
theorem e_rowAt {B : LB} (ok : B.ok) {δ : Sls} {ts : TE} {st : Nat} {p : Pat} {t : Tr} {i j : Nat} (h0 : δ[i]? = some (.d B.e)) (h4 : δ[4]? = some (.l [.str B.I.l, .str B.I.k])) (hj : δ[j]? = some (.d (trE B.I t))) (hs : Ee K ts δ (.d (.int (st : Nat)))) (hp : B.rs[st]? = some p) :
    Ee K (tOp (rIxT K) (tOp (rIxT K) (tOp (rIxT K) (tVar i) (tC (.int 3))) ts) (tBM K "list" (rIndexD K) (tVar 4) (tCons (tOp (rIxT K) (tVar j) (tC (.int 0))) tNil))) δ (.d (rowAt B.a p t).e) := by
  have row := e_ixT (K := K) (ds := B.rs.map B.rowE) (e_ixT (ds := [B.I.e, B.outs, B.head.e, .tuple (B.rs.map B.rowE)]) (e_vd h0) (e_ci (i := 3)) (by decide) rfl) hs (by omega) (row_ixT hp)
  have shl : SeqAt.shaped (.list [.str B.I.l, .str B.I.k]) = true := by simp [SeqAt.shaped, PyData.canLay0, PyData.canLayAll0, PyData.depth, PyData.depthAll, ok.I.sl.2, ok.I.sk.2]
  obtain ⟨r, e⟩ := trE_eq B.I t
  have hd : Ee K (tOp (rIxT K) (tVar j) (tC (.int 0))) δ (.d (.str (tHd B.I t))) := e_ixT (ds := .str (tHd B.I t) :: r) ((e_vd hj).to (by rw [e])) e_ci (by decide) rfl
  cases t with
  | nil =>
    exact e_ixT (ds := [(Pat.lf B.a).e, p.e]) row (e_index (j := 0) (z := .str B.I.l) (e_vl h4) hd shl (str_sh ok.I.sl.2) rfl (by rw [eqv_str]; simp [tHd]) (fun m z' hm => by omega)) (by decide) rfl
  | cons k r =>
    refine e_ixT (ds := [(Pat.lf B.a).e, p.e]) row (e_index (j := 1) (z := .str B.I.k) (e_vl h4) hd shl (str_sh ok.I.sk.2) rfl (by rw [eqv_str]; simp [tHd]) (fun m z' hm hz => ?_)) (by decide) rfl
    have m0 : m = 0 := by omega
    subst m0
    have ez : PyData.str B.I.l = z' := by simpa using hz
    subst ez
    rw [eqv_str]
    exact decide_eq_false ok.I.ne
def RLNameAt (ss : Sls) (s : Sl) : Prop := ∃ (B : LB) (st : Nat) (p : Pat) (t : Tr) (n rem : Nat) (x : Str), B.ok ∧ B.rs[st]? = some p ∧ NA B n (rowAt B.a p t) t rem x ∧ ss = [.d B.e, .d (.int (st : Nat)), .d (trE B.I t), .d (zeros rem)] ∧ s = .d (.str x)
theorem zeros_at {M i : Nat} (h : i < M) : (List.replicate M (PyData.int 0))[((i : Nat) : Int).toNat]? = some (.int 0) := by
  rw [Int.toNat_natCast, List.getElem?_replicate, if_pos h]
theorem ok_law_name_at (T : Top K mg) : GOk P w K mg base 1 "_law_name_at" ["book", "state", "tree", "place"] (spD K RLNameAt) := by
  refine g_pure T.d_law_name_at scLNameAt (fun ss s h => ?_) (fun f cdv A outer s H E hr => ⟨_, (pss_cons (ps_setLc (i := 4) (own := [("kind", 5)]) rfl scLNameAt.nd rfl rfl (sw_true rfl rfl rfl (by decide +kernel)) (pi_tup (pe_ix ix_tup (pv 0) pe_int (fun _ _ => rfl))) (blkOk_by (N := nLNameAt) (sc := (defScope sLNameAt)) (by decide +kernel)) (fun _ _ _ _ _ => (pg_name (i := 5) scLNameAt.nd rfl (Or.inl rfl) (hf := Or.inr rfl))) (fun _ _ _ _ _ => pts_nil) (fun _ _ _ _ _ => (pe_ix (ix_tupK (K := K) rfl) (pv 5) pe_int (fun _ _ => rfl))))
      (pss_cons (ps_set (i := 6) scLNameAt.nd rfl (Or.inl rfl) (pe_ix ix_tup (pe_ix ix_tup (pe_ix ix_tup (pv 0) pe_int (fun _ _ => rfl)) (pv 1) (fun _ _ => rfl)) (pe_bm PySem.F.plainAttrs_list PySem.F.slot_list_index PySem.F.type_list_index (mt_indexD (room_units1 hr)) (pv 4) (pa_cons (pe_ix ix_tup (pv 2) pe_int (fun _ _ => rfl)) pa_nil)) (fun _ _ => rfl)))
      (pss_cons (ps_set (i := 7) scLNameAt.nd rfl (Or.inl rfl) pe_int)
      (pss_cons (ps_while PassesOwn.never (PW.pt (pw_or (pt_cmpR op_eq (pe_ix ix_tup (pv 6) pe_int (fun _ _ => rfl)) pe_str (nomark _)) (pw_or1 (pt_cmpR op_lt (pv 7) (pe_callB call_len_seq (by rfl) T.b_len PySem.boot_len (pa_cons (pv 3) pa_nil)) (nomark _))))) (pss_one (ps_if (pt_cmpR op_eq (pe_ix ix_tup (pv 6) pe_int (fun _ _ => rfl)) pe_str (nomark _)) (pss_cons (ps_set (i := 2) scLNameAt.nd rfl (Or.inl rfl) (pe_ix ix_tup (pv 2) (pe_op op_add pe_int (pe_ix ix_tup (pv 6) pe_int (fun _ _ => rfl))) (fun _ _ => rfl)))
      (pss_one (ps_set (i := 6) scLNameAt.nd rfl (Or.inl rfl) (pe_ix ix_tup (pe_ix ix_tup (pe_ix ix_tup (pv 0) pe_int (fun _ _ => rfl)) (pe_ix ix_tup (pv 6) pe_int (fun _ _ => rfl)) (fun _ _ => rfl)) (pe_bm PySem.F.plainAttrs_list PySem.F.slot_list_index PySem.F.type_list_index (mt_indexD (room_units1 hr)) (pv 4) (pa_cons (pe_ix ix_tup (pv 2) pe_int (fun _ _ => rfl)) pa_nil)) (fun _ _ => rfl))))) (pss_one (ps_if (pt_cmpR op_lt (pe_ix ix_tup (pv 3) (pv 7) (fun _ _ => rfl)) (pe_op op_sub (pe_callB call_len_seq (by rfl) T.b_len PySem.boot_len (pa_cons (pv 6) pa_nil)) pe_int) (nomark _)) (pss_cons (ps_set (i := 6) scLNameAt.nd rfl (Or.inl rfl) (pe_ix ix_tup (pv 6) (pe_op op_add pe_int (pe_ix ix_tup (pv 3) (pv 7) (fun _ _ => rfl))) (fun _ _ => rfl)))
      (pss_one (ps_set (i := 7) scLNameAt.nd rfl (Or.inl rfl) (pe_op op_add (pv 7) pe_int)))) (pss_one (ps_ret pe_non)))))))
      (pss_one (ps_ret (pe_ix ix_tup (pv 6) pe_int (fun _ _ => rfl)))))))), fun ss s h => ?_⟩)
  · obtain ⟨B, st, p, t, n, rem, x, _, _, _, rfl, _⟩ := h; rfl
  · obtain ⟨B, st, p, t, n, M, x, ok, hp, hna, rfl, rfl⟩ := h
    try dsimp only [cxOf]
    refine s_seq (s_set (s := .l [.str B.I.l, .str B.I.k]) (e_lc2 (d := B.I.ld) (d2 := B.I.kd) (js := [5]) (e_ixT (ds := [B.I.e, B.outs, B.head.e, .tuple (B.rs.map B.rowE)]) (e_vd rfl) e_ci (by decide) rfl) g_name (e_ixT (ds := [.str B.I.l, .int 0]) (e_vd rfl) e_ci (by decide) rfl) g_name (e_ixT (ds := [.str B.I.k, .int (B.I.m : Nat)]) (e_vd rfl) e_ci (by decide) rfl)) ?_)
    refine s_seq (s_set (s := .d (rowAt B.a p t).e) (e_rowAt ok rfl rfl rfl (e_vd rfl) hp) ?_)
    refine s_seq (s_set (s := .d (.int ((0 : Nat) : Int))) e_ci ?_)
    refine s_seq (s_while (fun n δ => ∃ (q : Pat) (t : Tr) (i rem : Nat), NA B n q t rem x ∧ i + rem = M ∧ δ = [.d B.e, .d (.int (st : Nat)), .d (trE B.I t), .d (zeros M), .l [.str B.I.l, .str B.I.k], .no, .d q.e, .d (.int (i : Nat))]) n ⟨_, t, 0, M, hna, by omega, rfl⟩ fun n δ h => ?_)
    obtain ⟨q, t, i, rem, hna, him, rfl⟩ := h
    have th : ∀ (q : Pat) (z : Sls), Ee K (tOp (rIxT K) (tVar 6) (tC (.int 0))) [.d B.e, .d (.int (st : Nat)), .d (trE B.I t), .d (zeros M), .l [.str B.I.l, .str B.I.k], .no, .d q.e, .d (.int (i : Nat))] (.d (.str q.hd)) := fun q z => e_ixT (ds := .str q.hd :: q.tl) ((e_vd rfl).to (by rw [q.e_eq])) e_ci (by decide) rfl
    have test : ∀ q : Pat, Et K _ [.d B.e, .d (.int (st : Nat)), .d (trE B.I t), .d (zeros M), .l [.str B.I.l, .str B.I.k], .no, .d q.e, .d (.int (i : Nat))] (decide (q.hd = "?") || decide (((i : Nat) : Int) < ((List.replicate M (PyData.int 0)).length : Nat))) := fun q =>
      t_or (t_T (e_eqS (th q []) (e_cs (x := "?")))) fun _ => t_T (e_b0 (f := fun i j => decide (i < j)) (e_vd (i := 7) rfl) (e_lenT (ds := List.replicate M (.int 0)) (e_vd (i := 3) rfl)))
    have e3 : zeros M = .tuple (List.replicate M (.int 0)) := rfl
    cases hna with
    | done hs =>
      refine ⟨_, test q, (fun hb => ?_), fun _ => ?_⟩
      · rw [notSign_q hs, List.length_replicate, Bool.false_or, decide_eq_true_eq] at hb
        omega
      · exact s_ret (th q []) rfl
    | @down n y q' _ r _ hy hna' =>
      refine ⟨_, test (.g y q'), fun _ => ?_, (fun hb => ?_)⟩
      · refine s_ifF (t_T (e_eqS (th (.g y q') []) e_cs)) (notSign_q hy) ?_
        refine s_ifT (t_T (e_b0 (f := fun i j => decide (i < j)) (i := 0) (j := 2 - 1) (e_ixT (ds := List.replicate M (.int 0)) (e_vd rfl) (e_vd rfl) (by omega) (zeros_at (by omega))) (e_i0 (f := fun i j => i - j) (e_lenT (ds := [.str y, q'.e]) (e_vd rfl)) e_ci))) rfl ?_
        refine s_seq (s_set (s := .d q'.e) (e_ixT (ds := [.str y, q'.e]) (e_vd rfl) (e_i0 (f := fun i j => i + j) (i := 1) (j := 0) e_ci (e_ixT (ds := List.replicate M (.int 0)) (e_vd rfl) (e_vd rfl) (by omega) (zeros_at (by omega)))) (by decide) rfl) ?_)
        refine s_set (s := .d (.int ((i + 1 : Nat) : Int))) ((e_i0 (f := fun i j => i + j) (i := (i : Nat)) (j := 1) (e_vd rfl) e_ci).to rfl) ⟨n, Nat.lt_succ_self _, q', t, i + 1, r, hna', by omega, rfl⟩
      · rw [Bool.or_eq_false_iff, List.length_replicate, decide_eq_false_iff_not, decide_eq_false_iff_not] at hb
        omega
    | @call n s k' k r p2 _ _ hp2 hk hna' =>
      refine ⟨_, test (.call (.int (s : Nat)) (k' : Nat)), fun _ => ?_, (fun hb => by simp [Pat.hd] at hb)⟩
      refine s_ifT (t_T (e_eqS (th (.call (.int (s : Nat)) (k' : Nat)) []) e_cs)) rfl ?_
      refine s_seq (s_set (s := .d (trE B.I (if k' = k then r else []))) (e_ixT (ds := .str B.I.k :: kidsD B.I k (trE B.I r)) (e_vd rfl) (e_i0 (f := fun i j => i + j) (i := 1) (j := (k' : Nat)) e_ci (e_ixT (ds := [.str "?", .int (s : Nat), .int (k' : Nat)]) (e_vd rfl) e_ci (by decide) rfl)) (by omega) (by
        rw [show ((1 : Int) + (k' : Nat)).toNat = k' + 1 by omega, List.getElem?_cons_succ, kidsD_at hk, trE_if])) ?_)
      refine s_set (s := .d (rowAt B.a p2 (if k' = k then r else [])).e) (e_rowAt ok rfl rfl rfl (e_ixT (ds := [.str "?", .int (s : Nat), .int (k' : Nat)]) (e_vd rfl) e_ci (by decide) rfl) hp2) ⟨n, Nat.lt_succ_self _, _, _, i, rem, hna', him, rfl⟩
/-! ### _law_outcome_name -/
theorem cutD_zeros (h rem : Nat) : cutD (List.replicate (h + rem) (PyData.int 0)) (some ((h : Nat) : Int)) none = List.replicate rem (.int 0) := by
  unfold cutD
  rw [List.length_replicate, HT.sIx_nat, HT.sIx_none, List.drop_replicate, List.take_replicate]
  congr 1
  omega
def RLOutcome (ss : Sls) (s : Sl) : Prop := ∃ (B : LB) (st : Nat) (p : Pat) (t : Tr) (n h rem : Nat) (x : Str) (k : Int), B.ok ∧ B.head.ok ∧ B.head.at = some (h, .int ((st : Nat) : Int), k) ∧ B.rs[st]? = some p ∧ NA B n (rowAt B.a p t) t rem x ∧ ss = [.d B.e, .d (trE B.I t), .d (zeros (h + rem))] ∧ s = .d (.str x)
theorem ok_law_outcome_name (T : Top K mg) (g_law_name_at : GOk P w K mg base 1 "_law_name_at" ["book", "state", "tree", "place"] (spD K RLNameAt)) : GOk P w K mg base 2 "_law_outcome_name" ["book", "tree", "place"] (spD K RLOutcome) := by
  refine g_pure T.d_law_outcome_name scLOutcomeName (fun ss s h => ?_) (fun f cdv A outer s H E hr => ⟨_, (pss_cons (ps_set (i := 3) scLOutcomeName.nd rfl (Or.inl rfl) (pe_ix ix_tup (pv 0) pe_int (fun _ _ => rfl)))
      (pss_cons (ps_set (i := 4) scLOutcomeName.nd rfl (Or.inl rfl) pe_int)
      (pss_cons (ps_while PassesOwn.never (PW.pt (pw_and (pt_cmpR op_ne (pe_ix ix_tup (pv 3) pe_int (fun _ _ => rfl)) pe_str (nomark _)) (pw_and1 (pt_cmpR op_lt (pv 4) (pe_callB call_len_seq (by rfl) T.b_len PySem.boot_len (pa_cons (pv 2) pa_nil)) (nomark _))))) (pss_cons (ps_if (pt_cmpR op_ge (pe_ix ix_tup (pv 2) (pv 4) (fun _ _ => rfl)) (pe_op op_sub (pe_callB call_len_seq (by rfl) T.b_len PySem.boot_len (pa_cons (pv 3) pa_nil)) pe_int) (nomark _)) (pss_one (ps_ret pe_non)) pss_nil)
      (pss_cons (ps_set (i := 3) scLOutcomeName.nd rfl (Or.inl rfl) (pe_ix ix_tup (pv 3) (pe_op op_add pe_int (pe_ix ix_tup (pv 2) (pv 4) (fun _ _ => rfl))) (fun _ _ => rfl)))
      (pss_one (ps_set (i := 4) scLOutcomeName.nd rfl (Or.inl rfl) (pe_op op_add (pv 4) pe_int))))))
      (pss_cons (ps_if (pt_cmpR op_eq (pe_ix ix_tup (pv 3) pe_int (fun _ _ => rfl)) pe_str (nomark _)) (pss_one (ps_ret (pe_g g_law_name_at (hr.mono (by omega)) rfl (pa_cons (pv 0) (pa_cons (pe_ix ix_tup (pv 3) pe_int (fun _ _ => rfl)) (pa_cons (pv 1) (pa_cons (pe_slice sl_tupA (pv 2) (po_some (pv 4)) po_none) pa_nil))))))) pss_nil)
      (pss_one (ps_ret (pe_ix ix_tup (pv 3) pe_int (fun _ _ => rfl)))))))), fun ss s h => ?_⟩)
  · obtain ⟨B, st, p, t, n, h, rem, x, k, _, _, _, _, _, rfl, _⟩ := h; rfl
  · obtain ⟨B, st, p, t, n, h, rem, x, k, ok, hok, hat, hp, hna, rfl, rfl⟩ := h
    try dsimp only [cxOf]
    refine s_seq (s_set (s := .d B.head.e) (e_ixT (ds := [B.I.e, B.outs, B.head.e, .tuple (B.rs.map B.rowE)]) (e_vd rfl) e_ci (by decide) rfl) ?_)
    refine s_seq (s_set (s := .d (.int ((0 : Nat) : Int))) e_ci ?_)
    refine s_seq (s_while (fun m δ => ∃ (q : Pat) (i : Nat), q.ok ∧ q.at = some (m, .int ((st : Nat) : Int), k) ∧ i + m = h ∧ δ = [.d B.e, .d (trE B.I t), .d (zeros (h + rem)), .d q.e, .d (.int (i : Nat))]) h ⟨B.head, 0, hok, hat, by omega, rfl⟩ fun m δ hd => ?_)
    obtain ⟨q, i, hqo, hqa, him, rfl⟩ := hd
    cases q with
    | lf y => cases hqa
    | call s0 k0 =>
      cases hqa
      refine ⟨_, t_and (a := !decide (("?" : Str) = "?")) (by walk_at "et") fun _ => t_T (e_b0 (f := fun i j => decide (i < j)) (e_vd (i := 4) rfl) (e_lenT (ds := List.replicate (h + rem) (.int 0)) (e_vd (i := 2) rfl))), (fun hb => by simp at hb), fun _ => ?_⟩
      refine s_seq (s_ifT (by walk_at "et") (by decide) ?_)
      have ih : i = h := by omega
      subst ih
      exact s_ret (e_call (ss := [.d B.e, .d (.int (st : Nat)), .d (trE B.I t), .d (zeros rem)]) (a_cons (e_vd rfl) (a_cons (e_ixT (ds := [.str "?", .int (st : Nat), .int k]) (e_vd rfl) e_ci (by decide) rfl) (a_cons (e_vd rfl) (a_cons (e_slT (ds := List.replicate (i + rem) (.int 0)) (e_vd rfl) (o_some (e_vd rfl)) o_none (cutD_zeros i rem)) a_nil)))) ⟨B, st, p, t, n, rem, x, ok, hp, hna, rfl, rfl⟩) rfl
    | g y q' =>
      have e : (q'.at.map fun q => (q.1 + 1, q.2)) = some (m, .int ((st : Nat) : Int), k) := hqa
      cases e2 : q'.at with
      | none => rw [e2] at e; cases e
      | some z =>
        obtain ⟨m', s', k''⟩ := z
        rw [e2] at e
        cases e
        refine ⟨_, t_and (a := !decide (y = "?")) (by walk_at "et") fun _ => t_T (e_b0 (f := fun i j => decide (i < j)) (e_vd (i := 4) rfl) (e_lenT (ds := List.replicate (h + rem) (.int 0)) (e_vd (i := 2) rfl))), fun _ => ?_, (fun hb => ?_)⟩
        · refine s_seq (s_ifF (t_T (e_b0 (f := fun i j => decide (j ≤ i)) (i := 0) (j := 2 - 1) (e_ixT (ds := List.replicate (h + rem) (.int 0)) (e_vd rfl) (e_vd rfl) (by omega) (zeros_at (by omega))) (e_i0 (f := fun i j => i - j) (e_lenT (ds := [.str y, q'.e]) (e_vd rfl)) e_ci))) rfl (s_next ?_))
          refine s_seq (s_set (s := .d q'.e) (e_ixT (ds := [.str y, q'.e]) (e_vd rfl) (e_i0 (f := fun i j => i + j) (i := 1) (j := 0) e_ci (e_ixT (ds := List.replicate (h + rem) (.int 0)) (e_vd rfl) (e_vd rfl) (by omega) (zeros_at (by omega)))) (by decide) rfl) ?_)
          refine s_set (s := .d (.int ((i + 1 : Nat) : Int))) ((e_i0 (f := fun i j => i + j) (i := (i : Nat)) (j := 1) (e_vd rfl) e_ci).to rfl) ⟨m', Nat.lt_succ_self _, q', i + 1, hqo.2, e2, by omega, rfl⟩
        · rw [notSign_q hqo.1, List.length_replicate, Bool.and_eq_false_iff, decide_eq_false_iff_not] at hb
          rcases hb with hb | hb
          · cases hb
          · omega
end
end K80

namespace K80
open PySem PySem.Spec L2
open PyProof.Rows hiding St
local macro_rules | `(tactic| walk_at "ee") => `(tactic| first
  | ((with_reducible apply e_vd); exact rfl)
  | ((with_reducible apply e_vl); exact rfl)
  | ((with_reducible apply e_vv); exact rfl)
  | (with_reducible exact e_ci)
  | (with_reducible exact e_cs)
  | (with_reducible exact e_cb)
  | (with_reducible exact e_cn)
  | (with_reducible exact e_hole)
  | ((with_reducible apply e_ixT); (walk_at "ee"); (walk_at "ee"); (first | decide | omega); exact rfl)
  | ((with_reducible apply e_ixL); (walk_at "ee"); (walk_at "ee"); (first | decide | omega); exact rfl)
  | ((with_reducible apply e_tup); (walk_at "ea"); (exact rfl); (exact Nat.le_of_ble_eq_true rfl))
  | ((with_reducible apply e_lst); (walk_at "ea"); (exact rfl); (exact Nat.le_of_ble_eq_true rfl))
  | ((with_reducible apply e_lenT); (walk_at "ee"))
  | ((with_reducible apply e_lenL); (walk_at "ee"))
  | ((with_reducible apply e_eqS); (walk_at "ee"); (walk_at "ee"))
  | ((with_reducible apply e_eqI); (walk_at "ee"); (walk_at "ee"))
  | ((with_reducible apply e_neS); (walk_at "ee"); (walk_at "ee"))
  | ((with_reducible apply e_neI); (walk_at "ee"); (walk_at "ee"))
  | ((with_reducible apply e_i0); (walk_at "ee"); (walk_at "ee"))
  | ((with_reducible apply e_b0); (walk_at "ee"); (walk_at "ee"))
  | ((with_reducible apply e_isN); (walk_at "ee"))
  | ((with_reducible apply e_notN); (walk_at "ee"))
  | ((with_reducible apply e_tupOf); (walk_at "ee"))
  | ((with_reducible apply e_tail); (walk_at "ee"); (walk_at "ee"))
  | ((with_reducible apply e_call); (walk_at "ea"); (walk_at "own"))
  | ((with_reducible apply e_cat); (walk_at "ee"); (walk_at "ee"); (exact Nat.le_of_ble_eq_true rfl))
  | ((with_reducible apply e_andV); (walk_at "ee"); intro _; (walk_at "ee"))
  | walk_at "ee2")
local macro_rules | `(tactic| walk_at "ea") => `(tactic| first | (with_reducible exact a_nil) | ((with_reducible apply a_cons); (walk_at "ee"); (walk_at "ea")))
local macro_rules | `(tactic| walk_at "et") => `(tactic| first
  | ((with_reducible apply t_B); (walk_at "ee"))
  | ((with_reducible apply t_T); (walk_at "ee"))
  | ((with_reducible apply t_not); (walk_at "et")))
local macro_rules | `(tactic| walk_at "own") => `(tactic| fail "own")
local macro_rules | `(tactic| walk_at "ee2") => `(tactic| fail "ee2")
local macro_rules | `(tactic| walk_at "ret") => `(tactic| ((with_reducible apply s_ret); (walk_at "ee"); exact rfl))
local macro_rules | `(tactic| walk_at "retS") => `(tactic| ((with_reducible apply s_ret); (walk_at "ee"); rotate_left))

local macro_rules | `(tactic| walk_at "own") => `(tactic| first
  | exact ⟨_, _, rfl, rfl⟩
  | exact ⟨_, _, _, _, rfl, rfl⟩
  | (refine ⟨_, ?_, ?_, rfl, rfl⟩; (first | omega | assumption); assumption))
local macro_rules | `(tactic| walk_at "wk") => `(tactic| first
  | exact Wk.nil
  | ((apply Wk.same); (walk_at "wk"))
  | ((apply Wk.no); (walk_at "wk")))
section
variable {P : Program} {w : World} {K : PySem.W.Frag} {mg : Str → Option Value} {base : Heap}
/-! ### _law_is_tree -/
def kidsT (m k : Nat) (r : Tr) : List Tr := (List.range m).map fun j => if j = k then r else []
def kidsL (m : Nat) : Tr → List Tr
  | [] => []
  | k :: r => kidsT m k r
def tlD (I : Ins) : Tr → List PD
  | [] => []
  | k :: r => kidsD I k (trE I r)
theorem tlD_eq (I : Ins) (t : Tr) : tlD I t = (kidsL I.m t).map (trE I) := by
  cases t with
  | nil => rfl
  | cons k r =>
    unfold tlD kidsL kidsD kidsT
    rw [List.map_map]
    refine List.map_congr_left fun j _ => ?_
    show _ = trE I (if j = k then r else [])
    exact trE_if
theorem trE_tl (I : Ins) (t : Tr) : trE I t = .tuple (.str (tHd I t) :: tlD I t) := by cases t <;> rfl
def sz (m : Nat) : Tr → Nat
  | [] => 1
  | _ :: r => 1 + m + sz m r
def msr (m : Nat) (W : List (Tr × Nat)) : Nat := (W.map fun x => sz m x.1).sum
theorem sz_kids (m k : Nat) (r : Tr) (s : Nat) : ((kidsT m k r).map fun t => sz s t).sum ≤ m + sz s r := by
  have aux : ∀ n, (((List.range n).map fun j => if j = k then r else []).map fun t => sz s t).sum ≤ n + (if k < n then sz s r else 0) := by
    intro n
    induction n with
    | zero => simp
    | succ n ih =>
      rw [List.range_succ, List.map_append, List.map_append, List.sum_append]
      by_cases h : n = k
      · subst h
        rw [if_neg (Nat.lt_irrefl _)] at ih
        rw [if_pos (Nat.lt_succ_self _)]
        simp [-List.map_map]
        omega
      · have e : (if n = k then r else []) = [] := if_neg h
        by_cases h2 : k < n
        · rw [if_pos h2] at ih
          rw [if_pos (by omega)]
          simp [e, sz, -List.map_map]
          omega
        · rw [if_neg h2] at ih
          rw [if_neg (by omega)]
          simp [e, sz, -List.map_map]
          omega
  have := aux m
  unfold kidsT
  split at this <;> omega
theorem sz_le (m : Nat) : ∀ t : Tr, sz m t ≤ 1 + (1 + m) * t.length
  | [] => by simp [sz]
  | _ :: r => by
    have := sz_le m r
    rw [sz, List.length_cons, Nat.mul_succ]
    omega
def itE (I : Ins) (x : Tr × Nat) : PD := .tuple [trE I x.1, .int (x.2 : Nat)]
theorem msr_app (m : Nat) (U V : List (Tr × Nat)) : msr m (U ++ V) = msr m U + msr m V := by unfold msr; rw [List.map_append, List.sum_append]
theorem msr_kids (m : Nat) (t : Tr) (d : Nat) : msr m ((kidsL m t).map fun t' => (t', d)) + 1 ≤ sz m t := by
  unfold msr
  rw [List.map_map]
  have e : ((fun x : Tr × Nat => sz m x.1) ∘ fun t' : Tr => (t', d)) = fun t' => sz m t' := rfl
  rw [e]
  cases t with
  | nil => simp [kidsL, sz]
  | cons k r =>
    have := sz_kids m k r m
    show ((kidsT m k r).map fun t' => sz m t').sum + 1 ≤ 1 + m + sz m r
    omega
theorem kidsL_len {m : Nat} {t t' : Tr} (h : t' ∈ kidsL m t) : t'.length + 1 ≤ t.length := by
  cases t with
  | nil => cases h
  | cons k r =>
    obtain ⟨j, _, e⟩ := List.mem_map.mp h
    rw [← e]
    split
    · rw [List.length_cons]; exact Nat.le_refl _
    · simp
theorem kidsL_cnt (m : Nat) (t : Tr) : (kidsL m t).length ≤ m := by
  cases t with
  | nil => exact Nat.zero_le _
  | cons k r => show (kidsT m k r).length ≤ m; unfold kidsT; rw [List.length_map, List.length_range]; exact Nat.le_refl _
theorem msr_len (m : Nat) (W : List (Tr × Nat)) : W.length ≤ msr m W := by
  induction W with
  | nil => exact Nat.zero_le _
  | cons x W ih =>
    have h1 : 1 ≤ sz m x.1 := by cases x.1 <;> simp [sz] <;> omega
    unfold msr at ih ⊢
    simp only [List.map_cons, List.sum_cons, List.length_cons]
    omega
def RLIsTree (ss : Sls) (s : Sl) : Prop := ∃ (I : Ins) (t : Tr), I.ok ∧ t.length ≤ 20 ∧ ss = [.d I.e, .d (trE I t), .d (.int 600)] ∧ s = .d (.bool true)
theorem kd_in {I : Ins} (ok : I.ok) (t : Tr) : ([I.ld, I.kd].any fun z => PyData.eqv z (.tuple [.str (tHd I t), .int ((tlD I t).length : Nat)])) = true := by
  have s1 : SeqAt.shaped I.ld = true := by simp [Ins.ld, SeqAt.shaped, PyData.canLay0, PyData.canLayAll0, PyData.depth, PyData.depthAll, ok.sl.2]
  have s2 : SeqAt.shaped I.kd = true := by simp [Ins.kd, SeqAt.shaped, PyData.canLay0, PyData.canLayAll0, PyData.depth, PyData.depthAll, ok.sk.2]
  rw [List.any_eq_true]
  cases t with
  | nil => exact ⟨I.ld, by simp, SeqAt.eqv_refl _ (SeqAt.canLay_of_shaped s1)⟩
  | cons k r =>
    refine ⟨I.kd, by simp, ?_⟩
    have e : (tlD I (k :: r)).length = I.m := kidsD_len _ _ _
    rw [e]
    exact SeqAt.eqv_refl _ (SeqAt.canLay_of_shaped s2)
theorem ok_law_is_tree (T : Top K mg) : GOk P w K mg base 1 "_law_is_tree" ["ins", "tree", "most"] (spD K RLIsTree) := by
  refine g_pure T.d_law_is_tree scLIsTree (fun ss s h => ?_) (fun f cdv A outer s H E hr => ⟨_, (pss_cons (ps_set (i := 3) scLIsTree.nd rfl (Or.inl rfl) (pe_lst (pa_cons (pe_tup (pa_cons (pv 1) (pa_cons pe_int pa_nil))) pa_nil)))
      (pss_cons (ps_set (i := 4) scLIsTree.nd rfl (Or.inl rfl) pe_int)
      (pss_cons (ps_while PassesOwn.never (pt_cmpR op_gt (pe_callB call_len_seq (by rfl) T.b_len PySem.boot_len (pa_cons (pv 3) pa_nil)) pe_int (nomark _)) (pss_cons (ps_asg (pe_bm0 PySem.F.plainAttrs_list PySem.F.slot_list_pop PySem.F.type_list_pop mt_pop (pv 3)) (pg_tup rfl (pgs_cons (pg_name (i := 5) scLIsTree.nd rfl (Or.inl rfl)) (pgs_cons (pg_name (i := 6) scLIsTree.nd rfl (Or.inr rfl)) pgs_nil))))
      (pss_cons (ps_set (i := 4) scLIsTree.nd rfl (Or.inl rfl) (pe_op op_add (pv 4) pe_int))
      (pss_cons (ps_if (PW.pt (pw_or (pt_not (pt_val (pe_callB call_isi (by rfl) T.b_isinstance (by decide +kernel) (pa_cons (pv 5) (pa_cons (pe_bltn (v := .ty "tuple") rfl T.b_tuple (by decide +kernel) rfl) pa_nil))))) (pw_or (pt_cmpR op_eq (pe_callB call_len_seq (by rfl) T.b_len PySem.boot_len (pa_cons (pv 5) pa_nil)) pe_int (nomark _)) (pw_or (pt_not (pt_val (pe_callB call_isi (by rfl) T.b_isinstance (by decide +kernel) (pa_cons (pe_ix ix_tup (pv 5) pe_int (fun _ _ => rfl)) (pa_cons (pe_bltn (v := .ty "str") rfl T.b_str (by decide +kernel) rfl) pa_nil))))) (pw_or1 (pt_cmpR op_gt (pv 6) (pv 2) (nomark _))))))) (pss_one (ps_ret pe_bl)) pss_nil)
      (pss_cons (ps_if (PW.pt (pw_or (pt_cmpR (op_notInTD (room_units1 hr)) (pe_tup (pa_cons (pe_ix ix_tup (pv 5) pe_int (fun _ _ => rfl)) (pa_cons (pe_op op_sub (pe_callB call_len_seq (by rfl) T.b_len PySem.boot_len (pa_cons (pv 5) pa_nil)) pe_int) pa_nil))) (pv 0) (by rfl)) (pw_or1 (pt_cmpR op_gt (pv 4) pe_int (nomark _))))) (pss_one (ps_ret pe_bl)) pss_nil)
      (pss_one (ps_expr (pe_bm PySem.F.plainAttrs_list PySem.F.slot_list_extend PySem.F.type_list_extend mt_extend (pv 3) (pa_cons (pe_lc (own := [("kid", 7)]) rfl scLIsTree.nd (pi_tup (pe_slice sl_tupA (pv 5) (po_some pe_int) po_none)) (blkOk_by (N := nLIsTree) (sc := (defScope sLIsTree)) (by decide +kernel)) (fun _ _ _ _ _ => (pg_name (i := 7) scLIsTree.nd rfl (Or.inl rfl) (hf := Or.inr rfl))) (fun _ _ _ _ _ => pts_nil) (fun _ _ _ _ _ => (pe_tup (pa_cons (pv 7) (pa_cons (pe_op op_add (pv 6) pe_int) pa_nil))))) pa_nil)))))))))
      (pss_one (ps_ret pe_bl))))), fun ss s h => ?_⟩)
  · obtain ⟨I, t, _, _, rfl, _⟩ := h; rfl
  · obtain ⟨I, t, ok, hl, rfl, rfl⟩ := h
    try dsimp only [cxOf]
    intro σ H0 E sd le
    have hm3 := ok.m3
    refine r_setN (es := [itE I (t, 1)]) (n_lst (ss := [.d (itE I (t, 1))]) (a_cons (e_tup (ss := [.d (trE I t), .d (.int ((1 : Nat) : Int))]) (a_cons (e_vd rfl) (a_cons e_ci a_nil)) rfl (Nat.le_of_ble_eq_true rfl)) a_nil) rfl (Nat.le_of_ble_eq_true rfl)) sd fun p H1 s1 n1 l1 sd1 => ?_
    refine r_set (s := .d (.int ((0 : Nat) : Int))) e_ci sd1 fun v2 H2 s2 sd2 => ?_
    refine ⟨fun n σ' H' => ∃ (W : List (Tr × Nat)) (many : Nat), n = msr I.m W ∧ many + msr I.m W ≤ 100 ∧ (∀ x ∈ W, x.2 + x.1.length ≤ 30) ∧ SD K H' σ' [.d I.e, .d (trE I t), .d (.int 600), .v (.ref p), .d (.int (many : Nat)), .no, .no, .no] ∧ Ls K H' p (W.map (itE I)) ∧ Same H0 H',
      ⟨_, [(t, 1)], 0, rfl, ?_, fun x hx => ?_, SD.wk sd2 (by walk_at "wk"), l1.sm s2, s1.trans s2⟩, ?_⟩
    · have h1 := sz_le I.m t
      have h2 : (1 + I.m) * t.length ≤ 4 * 20 := Nat.mul_le_mul (by omega) hl
      show 0 + (sz I.m t + 0) ≤ 100
      omega
    · have e : x = (t, 1) := by simpa using hx
      subst e
      show 1 + t.length ≤ 30
      omega
    rintro n σa Ha ⟨W, many, rfl, hmm, hW, sda, lp, sm⟩
    refine t_T (e_b0 (f := fun i j => decide (j < i)) (i := ((W.map (itE I)).length : Nat)) (j := 0) (e_lenL (e_vxl (i := 3) rfl)) e_ci) σa Ha _ (sda.vx (i := 3) rfl lp) fun Hb sb => ?_
    rcases List.eq_nil_or_concat W with rfl | ⟨W', x, rfl⟩
    · rw [decide_eq_false (by simp)]
      refine iteF ?_
      exact r_ret (s := .d (.bool true)) e_cb (sda.sm sb) fun v H3 s3 hv => le.rt _ H3 _ ((sm.trans sb).trans s3) hv rfl
    · rw [List.concat_eq_append] at hmm hW lp ⊢
      obtain ⟨t', d⟩ := x
      rw [decide_eq_true (by simp)]
      refine iteT ⟨_, fun _ _ h => h, ?_⟩
      have hd : d + t'.length ≤ 30 := hW (t', d) (by simp)
      rw [msr_app] at hmm
      have hx1 : msr I.m [(t', d)] = sz I.m t' := by simp [msr]
      rw [hx1] at hmm
      refine r_popAsg (i := 3) (p := p) (ds := W'.map (itE I)) (d := itE I (t', d)) (js := [5, 6]) (sda.sm sb) rfl (by rw [List.map_append] at lp; exact lp.sm sb) (g_tup (ds := [trE I t', .int (d : Nat)]) (gs_cons g_name (gs_cons g_name gs_nil)) rfl) rfl fun σc Hc oc lc sdc => ?_
      have smc : Same H0 Hc := oc.same (sm.trans sb) n1
      refine r_set (s := .d (.int ((many + 1 : Nat) : Int))) ((e_i0 (f := fun i j => i + j) (i := (many : Nat)) (j := 1) (e_vd rfl) e_ci).to rfl) sdc fun v3 H3 s3 sd3 => ?_
      have k5 : ∀ δ : Sls, δ[5]? = some (.d (trE I t')) → Ee K (tVar 5) δ (.d (.tuple (.str (tHd I t') :: tlD I t'))) := fun δ h => (e_vd h).to (by rw [trE_tl])
      refine r_seq (N := fun δ' => δ' = [.d I.e, .d (trE I t), .d (.int 600), .v (.ref p), .d (.int ((many + 1 : Nat) : Int)), .d (trE I t'), .d (.int (d : Nat)), .no])
        (s_ifF (t_or (a := !true) (t_not (t_B (e_isi (k5 _ rfl) (kit_same "tuple")))) fun _ => t_or (a := decide (((PyData.str (tHd I t') :: tlD I t').length : Int) = 0)) (t_T (e_eqI (e_lenT (k5 _ rfl)) e_ci)) fun _ => t_or (a := !true) (t_not (t_B (e_isi (e_ixT (ds := .str (tHd I t') :: tlD I t') (k5 _ rfl) e_ci (by decide) rfl) (kit_same "str")))) fun _ => t_T (e_b0 (f := fun i j => decide (j < i)) (i := (d : Nat)) (j := 600) (e_vd rfl) (e_vd rfl))) (by
          rw [decide_eq_false (show ¬ ((PyData.str (tHd I t') :: tlD I t').length : Int) = 0 by rw [List.length_cons]; omega), decide_eq_false (show ¬ (600 : Int) < (d : Nat) by omega)]; rfl) (s_next rfl)) sd3 fun σ4 H4 δ4 s4 sd4 e4 => ?_
      subst e4
      have shd : SeqAt.shaped (.tuple [.str (tHd I t'), .int ((tlD I t').length : Nat)]) = true := by
        have : PyData.strOk (tHd I t') = true := by cases t' with | nil => exact ok.sl.2 | cons _ _ => exact ok.sk.2
        simp [SeqAt.shaped, PyData.canLay0, PyData.canLayAll0, PyData.depth, PyData.depthAll, this]
      have shi : SeqAt.shaped (.tuple [I.ld, I.kd]) = true := by simp [Ins.ld, Ins.kd, SeqAt.shaped, PyData.canLay0, PyData.canLayAll0, PyData.depth, PyData.depthAll, ok.sl.2, ok.sk.2]
      refine r_seq (N := fun δ' => δ' = [.d I.e, .d (trE I t), .d (.int 600), .v (.ref p), .d (.int ((many + 1 : Nat) : Int)), .d (trE I t'), .d (.int (d : Nat)), .no])
        (s_ifF (t_or (a := !([I.ld, I.kd].any fun z => PyData.eqv z (.tuple [.str (tHd I t'), .int ((tlD I t').length : Nat)]))) (t_T (e_notInT (e_tup (ss := [.d (.str (tHd I t')), .d (.int ((tlD I t').length : Nat))]) (a_cons (e_ixT (ds := .str (tHd I t') :: tlD I t') (k5 _ rfl) e_ci (by decide) rfl)
            (a_cons ((e_i0 (f := fun i j => i - j) (i := ((PyData.str (tHd I t') :: tlD I t').length : Nat)) (j := 1) (e_lenT (k5 _ rfl)) e_ci).to (by rw [List.length_cons, show (((tlD I t').length + 1 : Nat) : Int) - 1 = ((tlD I t').length : Nat) by omega])) a_nil)) rfl (Nat.le_of_ble_eq_true rfl)) (e_vd (d := .tuple [I.ld, I.kd]) rfl) shd shi)) fun _ => t_T (e_b0 (f := fun i j => decide (j < i)) (i := ((many + 1 : Nat) : Int)) (j := 2000) (e_vd rfl) e_ci)) (by
          rw [kd_in ok, decide_eq_false (show ¬ (2000 : Int) < ((many + 1 : Nat) : Int) by omega)]; rfl) (s_next rfl)) sd4 fun σ5 H5 δ5 s5 sd5 e5 => ?_
      subst e5
      have l5 := ((lc.sm s3).sm s4).sm s5
      have hk := msr_kids I.m t' (d + 1)
      have hlen := msr_len I.m W'
      have hkc := kidsL_cnt I.m t'
      refine r_extend (p := p) (ds := W'.map (itE I)) (es := ((kidsL I.m t').map fun t2 => (t2, d + 1)).map (itE I)) sd5 rfl (e_lcT (ds := tlD I t') (js := [7]) (δ2 := fun z => [.d I.e, .d (trE I t), .d (.int 600), .v (.ref p), .d (.int ((many + 1 : Nat) : Int)), .d (trE I t'), .d (.int (d : Nat)), .d z]) (e_tail (k5 _ rfl) e_ci) (by decide) (by rw [tlD_eq]; simp) (by simp; omega) (fun i z hz => ?_)) l5 (by simp; omega) rfl fun H6 o6 l6 sd6 => ?_
      · rw [tlD_eq, List.getElem?_map] at hz
        cases ek : (kidsL I.m t')[i]? with
        | none => rw [ek] at hz; cases hz
        | some t2 =>
          rw [ek] at hz
          cases hz
          refine ⟨itE I (t2, d + 1), by rw [List.getElem?_map, List.getElem?_map, ek]; rfl, g_name, ?_⟩
          exact e_tup (ss := [.d (trE I t2), .d (.int ((d + 1 : Nat) : Int))]) (a_cons (e_vd rfl) (a_cons ((e_i0 (f := fun i j => i + j) (i := (d : Nat)) (j := 1) (e_vd rfl) e_ci).to rfl) a_nil)) rfl (Nat.le_of_ble_eq_true rfl)
      · refine ⟨_, ?_, W' ++ (kidsL I.m t').map fun t2 => (t2, d + 1), many + 1, rfl, ?_, fun x hx => ?_, SD.wk sd6 (by walk_at "wk"), by rw [List.map_append]; exact l6, o6.same (((smc.trans s3).trans s4).trans s5) n1⟩
        · rw [msr_app, msr_app, hx1]; omega
        · rw [msr_app]; omega
        · rcases List.mem_append.mp hx with h | h
          · exact hW x (List.mem_append_left _ h)
          · obtain ⟨t2, h2, rfl⟩ := List.mem_map.mp h
            have := kidsL_len h2
            show d + 1 + t2.length ≤ 30
            omega
end
end K80

namespace K80
open PySem PySem.Spec L2
open PyProof.Rows hiding St
local macro_rules | `(tactic| walk_at "ee") => `(tactic| first
  | ((with_reducible apply e_vd); exact rfl)
  | ((with_reducible apply e_vl); exact rfl)
  | ((with_reducible apply e_vv); exact rfl)
  | (with_reducible exact e_ci)
  | (with_reducible exact e_cs)
  | (with_reducible exact e_cb)
  | (with_reducible exact e_cn)
  | (with_reducible exact e_hole)
  | ((with_reducible apply e_ixT); (walk_at "ee"); (walk_at "ee"); (first | decide | omega); exact rfl)
  | ((with_reducible apply e_ixL); (walk_at "ee"); (walk_at "ee"); (first | decide | omega); exact rfl)
  | ((with_reducible apply e_tup); (walk_at "ea"); (exact rfl); (exact Nat.le_of_ble_eq_true rfl))
  | ((with_reducible apply e_lst); (walk_at "ea"); (exact rfl); (exact Nat.le_of_ble_eq_true rfl))
  | ((with_reducible apply e_lenT); (walk_at "ee"))
  | ((with_reducible apply e_lenL); (walk_at "ee"))
  | ((with_reducible apply e_eqS); (walk_at "ee"); (walk_at "ee"))
  | ((with_reducible apply e_eqI); (walk_at "ee"); (walk_at "ee"))
  | ((with_reducible apply e_neS); (walk_at "ee"); (walk_at "ee"))
  | ((with_reducible apply e_neI); (walk_at "ee"); (walk_at "ee"))
  | ((with_reducible apply e_i0); (walk_at "ee"); (walk_at "ee"))
  | ((with_reducible apply e_b0); (walk_at "ee"); (walk_at "ee"))
  | ((with_reducible apply e_isN); (walk_at "ee"))
  | ((with_reducible apply e_notN); (walk_at "ee"))
  | ((with_reducible apply e_tupOf); (walk_at "ee"))
  | ((with_reducible apply e_tail); (walk_at "ee"); (walk_at "ee"))
  | ((with_reducible apply e_call); (walk_at "ea"); (walk_at "own"))
  | ((with_reducible apply e_cat); (walk_at "ee"); (walk_at "ee"); (exact Nat.le_of_ble_eq_true rfl))
  | ((with_reducible apply e_andV); (walk_at "ee"); intro _; (walk_at "ee"))
  | walk_at "ee2")
local macro_rules | `(tactic| walk_at "ea") => `(tactic| first | (with_reducible exact a_nil) | ((with_reducible apply a_cons); (walk_at "ee"); (walk_at "ea")))
local macro_rules | `(tactic| walk_at "et") => `(tactic| first
  | ((with_reducible apply t_B); (walk_at "ee"))
  | ((with_reducible apply t_T); (walk_at "ee"))
  | ((with_reducible apply t_not); (walk_at "et")))
local macro_rules | `(tactic| walk_at "own") => `(tactic| fail "own")
local macro_rules | `(tactic| walk_at "ee2") => `(tactic| fail "ee2")
local macro_rules | `(tactic| walk_at "ret") => `(tactic| ((with_reducible apply s_ret); (walk_at "ee"); exact rfl))
local macro_rules | `(tactic| walk_at "retS") => `(tactic| ((with_reducible apply s_ret); (walk_at "ee"); rotate_left))

local macro_rules | `(tactic| walk_at "own") => `(tactic| first
  | exact ⟨_, _, rfl, rfl⟩
  | exact ⟨_, _, _, _, rfl, rfl⟩
  | (refine ⟨_, ?_, ?_, rfl, rfl⟩; (first | omega | assumption); assumption))
local macro_rules | `(tactic| walk_at "wk") => `(tactic| first
  | exact Wk.nil
  | ((apply Wk.same); (walk_at "wk"))
  | ((apply Wk.no); (walk_at "wk")))
section
variable {P : Program} {w : World} {K : PySem.W.Frag} {mg : Str → Option Value} {base : Heap}
theorem n_slL {δ : Sls} {te : TE} {tl th : TO} {ds es : List PD} {lo hi : Option Int} (ha : Ee K te δ (.l ds)) (hlo : Eo K tl δ lo) (hhi : Eo K th δ hi) (e : cutD ds lo hi = es) : En K (tSl (rSlL K) te tl th) δ es := fun σ H Q sd q => by
  refine ha σ H _ sd fun v H1 s1 ⟨a, xs, e1, p1, p2⟩ => ?_
  cases e1
  refine hlo σ H1 _ (sd.sm s1) fun H2 s2 => ?_
  refine hhi σ H2 _ (sd.sm (s1.trans s2)) fun H3 s3 => ?_
  subst e
  refine ⟨a, xs, rfl, SqL.of ((s2.trans s3) _ _ p1), fun p hp => ?_⟩
  exact q p _ (same_upd2 ((s1.trans s2).trans s3) (((s1.trans s2).trans s3).free hp)) (((s1.trans s2).trans s3).free hp) ⟨_, upd_same, ((p2.sm (s2.trans s3)).cut).sm (same_upd hp)⟩
theorem cutD_from {ds : List PD} {k : Nat} : cutD ds (some ((k : Nat) : Int)) none = ds.drop k := by
  unfold cutD
  rw [HT.sIx_nat, HT.sIx_none]
  by_cases h : k ≤ ds.length
  · rw [Nat.min_eq_left h, List.take_of_length_le (by rw [List.length_drop]; exact Nat.le_refl _)]
  · rw [Nat.min_eq_right (by omega), Nat.sub_self, List.take_zero, List.drop_eq_nil_of_le (by omega)]
/-! ### _law_shows -/
def Out (B : LB) (t : Tr) (M : Nat) (x : Str) : Prop := ∃ st p n h rem k, B.ok ∧ B.head.ok ∧ B.head.at = some (h, .int ((st : Nat) : Int), k) ∧ B.rs[st]? = some p ∧ NA B n (rowAt B.a p t) t rem x ∧ M = h + rem
def RLShows (ss : Sls) (s : Sl) : Prop := ∃ (X Y : LB) (t : Tr) (M : Nat) (x y : Str), X.I = Y.I ∧ X.I.ok ∧ t.length ≤ 20 ∧ M ≤ 1000 ∧ Out X t M x ∧ Out Y t M y ∧ x ≠ y ∧ ss = [.d X.e, .d Y.e, .d (.tuple [trE X.I t, zeros M])] ∧ s = .d (.bool true)
theorem ok_law_shows (T : Top K mg) (g_law_is_tree : GOk P w K mg base 1 "_law_is_tree" ["ins", "tree", "most"] (spD K RLIsTree)) (g_law_outcome_name : GOk P w K mg base 2 "_law_outcome_name" ["book", "tree", "place"] (spD K RLOutcome)) : GOk P w K mg base 3 "_law_shows" ["one", "two", "found"] (spD K RLShows) := by
  refine g_pure T.d_law_shows scLShows (fun ss s h => ?_) (fun f cdv A outer s H E hr => ⟨_, (pss_cons (ps_if (PW.pt (pw_or (pt_not (pt_val (pe_callB call_isi (by rfl) T.b_isinstance (by decide +kernel) (pa_cons (pv 2) (pa_cons (pe_bltn (v := .ty "tuple") rfl T.b_tuple (by decide +kernel) rfl) pa_nil))))) (pw_or (pt_cmpR op_ne (pe_callB call_len_seq (by rfl) T.b_len PySem.boot_len (pa_cons (pv 2) pa_nil)) pe_int (nomark _)) (pw_or1 (pt_not (pt_val (pe_g g_law_is_tree (hr.mono (by omega)) rfl (pa_cons (pe_ix ix_tup (pv 0) pe_int (fun _ _ => rfl)) (pa_cons (pe_ix ix_tup (pv 2) pe_int (fun _ _ => rfl)) (pa_cons pe_int pa_nil)))))))))) (pss_one (ps_ret pe_bl)) pss_nil)
      (pss_cons (ps_if (PW.pt (pw_or (pt_not (pt_val (pe_callB call_isi (by rfl) T.b_isinstance (by decide +kernel) (pa_cons (pe_ix ix_tup (pv 2) pe_int (fun _ _ => rfl)) (pa_cons (pe_bltn (v := .ty "tuple") rfl T.b_tuple (by decide +kernel) rfl) pa_nil))))) (pw_or1 (pt_cmpR op_gt (pe_callB call_len_seq (by rfl) T.b_len PySem.boot_len (pa_cons (pe_ix ix_tup (pv 2) pe_int (fun _ _ => rfl)) pa_nil)) pe_int (nomark _))))) (pss_one (ps_ret pe_bl)) pss_nil)
      (pss_cons (ps_for PassesOwn.never rfl (pi_tup (pe_ix ix_tup (pv 2) pe_int (fun _ _ => rfl))) (pg_name (i := 3) scLShows.nd rfl (Or.inl rfl)) (pss_one (ps_if (PW.pt (pw_or (pt_not (pt_val (pe_callB call_isi (by rfl) T.b_isinstance (by decide +kernel) (pa_cons (pv 3) (pa_cons (pe_bltn (v := .ty "int") rfl T.b_int (by decide +kernel) rfl) pa_nil))))) (pw_or (pt_val (pe_callB call_isi (by rfl) T.b_isinstance (by decide +kernel) (pa_cons (pv 3) (pa_cons (pe_bltn (v := .ty "bool") rfl T.b_bool (by decide +kernel) rfl) pa_nil)))) (pw_or1 (pt_cmpR op_lt (pv 3) pe_int (nomark _)))))) (pss_one (ps_ret pe_bl)) pss_nil)))
      (pss_cons (ps_set (i := 4) scLShows.nd rfl (Or.inl rfl) (pe_g g_law_outcome_name (hr.mono (by omega)) rfl (pa_cons (pv 0) (pa_cons (pe_ix ix_tup (pv 2) pe_int (fun _ _ => rfl)) (pa_cons (pe_ix ix_tup (pv 2) pe_int (fun _ _ => rfl)) pa_nil)))))
      (pss_cons (ps_set (i := 5) scLShows.nd rfl (Or.inl rfl) (pe_g g_law_outcome_name (hr.mono (by omega)) rfl (pa_cons (pv 1) (pa_cons (pe_ix ix_tup (pv 2) pe_int (fun _ _ => rfl)) (pa_cons (pe_ix ix_tup (pv 2) pe_int (fun _ _ => rfl)) pa_nil)))))
      (pss_one (ps_ret (pe_and (pe_cmp (pc_notN (pv 4))) (pe_and (pe_cmp (pc_notN (pv 5))) (pe_one (pe_cmpR op_ne (pv 4) (pv 5) (nomark _)))))))))))), fun ss s h => ?_⟩)
  · obtain ⟨X, Y, t, M, x, y, _, _, _, _, _, _, _, rfl, _⟩ := h; rfl
  · obtain ⟨X, Y, t, M, x, y, hI, ok, hl, hM, oX, oY, hxy, rfl, rfl⟩ := h
    try dsimp only [cxOf]
    have f2 : ∀ (i : Int) d δ, δ[2]? = some (.d (.tuple [trE X.I t, zeros M])) → 0 ≤ i → [trE X.I t, zeros M][i.toNat]? = some d → Ee K (tOp (rIxT K) (tVar 2) (tC (.int i))) δ (.d d) := fun i d δ h1 h2 h3 => e_ixT (ds := [trE X.I t, zeros M]) (e_vd h1) e_ci h2 h3
    refine s_seq (s_ifF (t_or (a := !true) (t_not (t_B (e_isi (e_vd (d := .tuple [trE X.I t, zeros M]) rfl) (kit_same "tuple")))) fun _ => t_or (a := !decide ((([trE X.I t, zeros M] : List PD).length : Int) = 2)) (t_T (e_neI (e_lenT (e_vd rfl)) e_ci)) fun _ => t_not (b := true) (t_B (e_call (ss := [.d X.I.e, .d (trE X.I t), .d (.int 600)]) (a_cons (e_ixT (ds := [X.I.e, X.outs, X.head.e, .tuple (X.rs.map X.rowE)]) (e_vd rfl) e_ci (by decide) rfl) (a_cons (f2 0 _ _ rfl (by decide) rfl) (a_cons e_ci a_nil))) ⟨X.I, t, ok, hl, rfl, rfl⟩))) (by simp) (s_next ?_))
    refine s_seq (s_ifF (t_or (a := !true) (t_not (t_B (e_isi (d := zeros M) (f2 1 _ _ rfl (by decide) rfl) (kit_same "tuple")))) fun _ => t_T (e_b0 (f := fun i j => decide (j < i)) (i := ((List.replicate M (PyData.int 0)).length : Nat)) (j := 2000) (e_lenT (ds := List.replicate M (.int 0)) (f2 1 _ _ rfl (by decide) rfl)) e_ci)) (by
      rw [List.length_replicate, decide_eq_false (show ¬ (2000 : Int) < (M : Nat) by omega)]; rfl) (s_next ?_))
    refine s_seq (s_forT (ds := List.replicate M (.int 0)) (js := [3]) (f2 1 _ _ rfl (by decide) rfl) (fun i δ => ∃ z, δ = [.d X.e, .d Y.e, .d (.tuple [trE X.I t, zeros M]), z, .no, .no]) ⟨.no, rfl⟩ (fun i d δ hi ⟨z, e⟩ => ?_) (fun δ ⟨z, e⟩ => ?_))
    · subst e
      have ed : d = .int 0 := List.eq_of_mem_replicate (List.mem_of_getElem? hi)
      subst ed
      refine ⟨_, g_name, ?_⟩
      exact s_ifF (t_or (a := !true) (t_not (t_B (e_isi (d := .int 0) (e_vd rfl) (kit_same "int")))) fun _ => t_or (a := false) (t_B (e_isi (d := .int 0) (e_vd rfl) kit_ib)) fun _ => t_T (e_b0 (f := fun i j => decide (i < j)) (i := 0) (j := 0) (e_vd rfl) e_ci)) (by decide) (s_next ⟨.d (.int 0), rfl⟩)
    · subst e
      obtain ⟨st1, p1, n1, h1, r1, k1, a1, a2, a3, a4, a5, a6⟩ := oX
      obtain ⟨st2, p2, n2, h2, r2, k2, b1, b2, b3, b4, b5, b6⟩ := oY
      refine s_seq (s_set (s := .d (.str x)) (e_call (ss := [.d X.e, .d (trE X.I t), .d (zeros M)]) (a_cons (e_vd rfl) (a_cons (f2 0 _ _ rfl (by decide) rfl) (a_cons (f2 1 _ _ rfl (by decide) rfl) a_nil))) ⟨X, st1, p1, t, n1, h1, r1, x, k1, a1, a2, a3, a4, a5, by rw [a6], rfl⟩) ?_)
      refine s_seq (s_set (s := .d (.str y)) (e_call (ss := [.d Y.e, .d (trE X.I t), .d (zeros M)]) (a_cons (e_vd rfl) (a_cons (f2 0 _ _ rfl (by decide) rfl) (a_cons (f2 1 _ _ rfl (by decide) rfl) a_nil))) ⟨Y, st2, p2, t, n2, h2, r2, y, k2, b1, b2, b3, b4, b5, by rw [b6, hI], rfl⟩) ?_)
      refine s_ret (s := .d (.bool (true && (true && !decide (x = y))))) (e_andV (a := true) (e_notN (d := .str x) (e_vd rfl)) fun _ => e_andV (a := true) (e_notN (d := .str y) (e_vd rfl)) fun _ => e_neS (e_vd rfl) (e_vd rfl)) ?_
      show Sl.d (.bool (true && (true && !decide (x = y)))) = _
      rw [decide_eq_false hxy]; rfl
/-! ### the books of the law -/
structure CP where
  I : Ins
  o0 : Str
  o1 : Str
  o2 : Str
  b : Str
  n : Nat
  cs : List Int
  hg : Bool
def CP.outs (C : CP) : PD := .tuple [.tuple [.str C.o0, .int 0], .tuple [.str C.o1, .int 0], .tuple [.str C.o2, .int 0], .tuple [.str C.b, .int 1]]
def CP.last (C : CP) : Nat → Str
  | 0 => C.o0
  | 1 => C.o1
  | _ => C.o2
def CP.kd (C : CP) (s : Nat) : Nat := (C.cs.getD s 0 % (C.I.m : Nat)).toNat
def CP.gs (C : CP) (s : Nat) : Bool := decide (C.cs.getD s 0 / 3 % 3 = 1)
def idxN (n turn t : Nat) : Nat := (((t : Nat) - (turn : Nat) : Int) % (n : Nat)).toNat
def wrapG (g : Bool) (b : Str) (p : Pat) : Pat := if g = true then .g b p else p
def CP.pat (C : CP) (x : Str) (turn s : Nat) : Pat := if s + 1 = C.n then .lf x else wrapG (C.gs s) C.b (.call (.int (idxN C.n turn (s + 1) : Nat)) (C.kd s : Nat))
def CP.book (C : CP) (l turn : Nat) : LB := ⟨C.I, C.outs, C.o0, wrapG C.hg C.b (.call (.int (idxN C.n turn 0 : Nat)) 0), (List.range C.n).map fun k => C.pat (C.last l) turn ((k + turn) % C.n)⟩
/-- the script's book -/
def cpOf (I : Ins) (o0 o1 o2 b : Str) (ns : List Int) : CP :=
  ⟨I, o0, o1, o2, b, 1 + (ns.getD 2 0 % 20).toNat, folded (ns.drop 4) (1 + (ns.getD 2 0 % 20).toNat), decide (ns.getD 3 0 / 81 % 2 = 1)⟩
def RLChain (K : PySem.W.Frag) (ss : Sls) (s : Sl) : Prop := ∃ (I : Ins) (o0 o1 o2 b : Str) (ns : List Int) (l turn : Nat), I.ok ∧ l < 3 ∧ turn < 9 ∧ ns.length ≤ 63 ∧ ss = [.x (isSq K (inz ns)), .d (cpOf I o0 o1 o2 b ns).outs, .d I.e, .d (.int (l : Nat)), .d (.int (turn : Nat))] ∧ s = .d ((cpOf I o0 o1 o2 b ns).book l turn).e
theorem ok_law_chain (T : Top K mg) (g_law_cell : GOk P w K mg base 1 "_law_cell" ["script", "k"] (spD K (RLCell K))) (g_law_folded : GOk P w K mg base 1 "_law_folded" ["cells", "many"] (spD K RLFolded)) : GOk P w K mg base 2 "_law_chain" ["script", "outs", "ins", "last", "turn"] (spD K (RLChain K)) := by
  refine g_pure T.d_law_chain scLChain (fun ss s h => ?_) (fun f cdv A outer s H E hr => ⟨_, (pss_cons (ps_set (i := 5) scLChain.nd rfl (Or.inl rfl) (pe_op op_add pe_int (pe_op op_mod (pe_g g_law_cell (hr.mono (by omega)) rfl (pa_cons (pv 0) (pa_cons pe_int pa_nil))) pe_int)))
      (pss_cons (ps_set (i := 6) scLChain.nd rfl (Or.inl rfl) (pe_g g_law_folded (hr.mono (by omega)) rfl (pa_cons (pe_slice sl_list (pv 0) (po_some pe_int) po_none) (pa_cons (pv 5) pa_nil))))
      (pss_cons (ps_set (i := 7) scLChain.nd rfl (Or.inl rfl) (pe_lst pa_nil))
      (pss_cons (ps_for PassesOwn.never rfl (pi_range1 rfl T.b_range (pa_cons (pv 5) pa_nil)) (pg_name (i := 8) scLChain.nd rfl (Or.inl rfl)) (pss_cons (ps_set (i := 9) scLChain.nd rfl (Or.inl rfl) (pe_op op_mod (pe_op op_add (pv 8) (pv 4)) (pv 5)))
      (pss_cons (ps_set (i := 10) scLChain.nd rfl (Or.inl rfl) (pe_tup (pa_cons pe_str (pa_cons (pe_op op_mod (pe_op op_sub (pe_op op_add (pv 9) pe_int) (pv 4)) (pv 5)) (pa_cons (pe_op op_mod (pe_ix ix_list (pv 6) (pv 9) (fun _ _ => rfl)) (pe_ix ix_tup (pe_ix ix_tup (pv 2) pe_int (fun _ _ => rfl)) pe_int (fun _ _ => rfl))) pa_nil)))))
      (pss_cons (ps_if (pt_cmpR op_eq (pe_op op_mod (pe_op op_fdiv (pe_ix ix_list (pv 6) (pv 9) (fun _ _ => rfl)) pe_int) pe_int) pe_int (nomark _)) (pss_one (ps_set (i := 10) scLChain.nd rfl (Or.inl rfl) (pe_tup (pa_cons (pe_ix ix_tup (pe_ix ix_tup (pv 1) pe_int (fun _ _ => rfl)) pe_int (fun _ _ => rfl)) (pa_cons (pv 10) pa_nil))))) pss_nil)
      (pss_cons (ps_if (pt_cmpR op_eq (pv 9) (pe_op op_sub (pv 5) pe_int) (nomark _)) (pss_one (ps_set (i := 10) scLChain.nd rfl (Or.inl rfl) (pe_tup (pa_cons (pe_ix ix_tup (pe_ix ix_tup (pv 1) (pv 3) (fun _ _ => rfl)) pe_int (fun _ _ => rfl)) pa_nil)))) pss_nil)
      (pss_one (ps_expr (pe_bm PySem.F.plainAttrs_list PySem.F.slot_list_append PySem.F.type_list_append mt_append (pv 7) (pa_cons (pe_tup (pa_cons (pe_tup (pa_cons (pe_ix ix_tup (pe_ix ix_tup (pv 1) pe_int (fun _ _ => rfl)) pe_int (fun _ _ => rfl)) pa_nil)) (pa_cons (pv 10) pa_nil))) pa_nil)))))))))
      (pss_cons (ps_set (i := 11) scLChain.nd rfl (Or.inl rfl) (pe_tup (pa_cons pe_str (pa_cons (pe_op op_mod (pe_un un_neg (pv 4)) (pv 5)) (pa_cons pe_int pa_nil)))))
      (pss_cons (ps_if (pt_cmpR op_eq (pe_op op_mod (pe_op op_fdiv (pe_g g_law_cell (hr.mono (by omega)) rfl (pa_cons (pv 0) (pa_cons pe_int pa_nil))) pe_int) pe_int) pe_int (nomark _)) (pss_one (ps_set (i := 11) scLChain.nd rfl (Or.inl rfl) (pe_tup (pa_cons (pe_ix ix_tup (pe_ix ix_tup (pv 1) pe_int (fun _ _ => rfl)) pe_int (fun _ _ => rfl)) (pa_cons (pv 11) pa_nil))))) pss_nil)
      (pss_one (ps_ret (pe_tup (pa_cons (pv 2) (pa_cons (pv 1) (pa_cons (pv 11) (pa_cons (pe_callTy call_tuple_of (by rfl) T.b_tuple (by decide +kernel) (pa_cons (pv 7) pa_nil)) pa_nil))))))))))))), fun ss s h => ?_⟩)
  · obtain ⟨I, o0, o1, o2, b, ns, l, turn, _, _, _, _, rfl, _⟩ := h; rfl
  · obtain ⟨I, o0, o1, o2, b, ns, l, turn, ok, hl, ht, hns, rfl, rfl⟩ := h
    try dsimp only [cxOf]
    obtain ⟨C, hC⟩ : ∃ C, cpOf I o0 o1 o2 b ns = C := ⟨_, rfl⟩
    rw [hC]
    have hCI : C.I = I := by rw [← hC]; rfl
    have hm0 := Int.emod_nonneg (ns.getD 2 0) (show (20 : Int) ≠ 0 by decide)
    have hm1 := Int.emod_lt_of_pos (ns.getD 2 0) (show (0 : Int) < 20 by decide)
    have hn : ((C.n : Nat) : Int) = 1 + ns.getD 2 0 % 20 := by rw [← hC]; show ((1 + (ns.getD 2 0 % 20).toNat : Nat) : Int) = _; omega
    have hn1 : 1 ≤ C.n ∧ C.n ≤ 20 := by omega
    have hcs : C.cs = folded (ns.drop 4) C.n := by rw [← hC]; rfl
    have hcl : C.cs.length = C.n := by rw [hcs, folded_len]
    have hhg : C.hg = decide (ns.getD 3 0 / 81 % 2 = 1) := by rw [← hC]; rfl
    have md : ∀ {δ : Sls} {ta tb : TE} {i j : Int}, 0 < j → Ee K ta δ (.d (.int i)) → Ee K tb δ (.d (.int j)) → Ee K (tOp (rI (fun _ j => 0 < j) fun i j => .int (i % j)) ta tb) δ (.d (.int (i % j))) := fun hn h h2 => e_iC (C := fun _ j => 0 < j) (f := fun i j => i % j) h h2 hn
    have dv : ∀ {δ : Sls} {ta : TE} {i : Int} (n : Int), 0 < n ∧ n < 1073741824 → Ee K ta δ (.d (.int i)) → Ee K (tOp (rI CDiv fun i j => .int (i / j)) ta (tC (.int n))) δ (.d (.int (i / n))) := fun n hn h => e_iC (C := CDiv) (f := fun i j => i / j) h e_ci hn
    have lc : ∀ (δ : Sls) (k : Nat), δ[0]? = some (.x (isSq K (inz ns))) → Ee K (tCall (spD K (RLCell K)) [] E0 (tCons (tVar 0) (tCons (tC (.int ((k : Nat) : Int))) tNil))) δ (.d (.int (ns.getD k 0))) := fun δ k h => e_call (ss := [.x (isSq K (inz ns)), .d (.int (k : Nat))]) (a_cons (e_vx h) (a_cons e_ci a_nil)) ⟨ns, k, rfl, rfl⟩
    refine s_seq (s_set (s := .d (.int (C.n : Nat))) ((e_i0 (f := fun i j => i + j) (i := 1) (j := ns.getD 2 0 % 20) e_ci (md (by decide) (lc _ 2 rfl) e_ci)).to (by rw [hn])) ?_)
    refine s_seq (s_set (s := .l (inz C.cs)) (e_call (ss := [.l (inz (ns.drop 4)), .d (.int (C.n : Nat))]) (a_cons (n_slSq (ds := inz ns) (e_vx rfl) (o_some (i := ((4 : Nat) : Int)) e_ci) o_none (by rw [cutD_from]; unfold inz; rw [List.map_drop])).l (a_cons (e_vd rfl) a_nil)) ⟨ns.drop 4, C.n, hn1.1, hn1.2, by rw [List.length_drop]; omega, rfl, by rw [hcs]⟩) ?_)
    -- the rules
    have rows_len : (C.book l turn).rs.length = C.n := by unfold CP.book; rw [List.length_map, List.length_range]
    have ox : ∀ (δ : Sls) (i : Nat) (x : Str) (te : TE), δ[1]? = some (.d C.outs) → (i = 0 ∧ x = C.o0 ∨ i = 3 ∧ x = C.b) → Ee K te δ (.d (.int (i : Nat))) → Ee K (tOp (rIxT K) (tOp (rIxT K) (tVar 1) te) (tC (.int 0))) δ (.d (.str x)) := fun δ i x te h hx he => by
      rcases hx with ⟨rfl, rfl⟩ | ⟨rfl, rfl⟩
      · exact e_ixT (ds := [.str C.o0, .int 0]) (e_ixT (ds := [.tuple [.str C.o0, .int 0], .tuple [.str C.o1, .int 0], .tuple [.str C.o2, .int 0], .tuple [.str C.b, .int 1]]) (e_vd h) he (by omega) rfl) e_ci (by decide) rfl
      · exact e_ixT (ds := [.str C.b, .int 1]) (e_ixT (ds := [.tuple [.str C.o0, .int 0], .tuple [.str C.o1, .int 0], .tuple [.str C.o2, .int 0], .tuple [.str C.b, .int 1]]) (e_vd h) he (by omega) rfl) e_ci (by decide) rfl
    have oxl : ∀ (δ : Sls), δ[1]? = some (.d C.outs) → δ[3]? = some (.d (.int (l : Nat))) → Ee K (tOp (rIxT K) (tOp (rIxT K) (tVar 1) (tVar 3)) (tC (.int 0))) δ (.d (.str (C.last l))) := fun δ h h3 => by
      refine e_ixT (ds := [.str (C.last l), .int 0]) (e_ixT (ds := [.tuple [.str C.o0, .int 0], .tuple [.str C.o1, .int 0], .tuple [.str C.o2, .int 0], .tuple [.str C.b, .int 1]]) (e_vd h) (e_vd h3) (by omega) ?_) e_ci (by decide) rfl
      rw [Int.toNat_natCast]
      match l, hl with
      | 0, _ => rfl
      | 1, _ => rfl
      | 2, _ => rfl
    intro σ H0 E sd le
    obtain ⟨a0, sd, l0⟩ := SD.unq (i := 0) sd rfl
    obtain ⟨a6, sd, l6⟩ := SD.unl (i := 6) sd rfl
    have hnp : (0 : Int) < (C.n : Nat) := by omega
    have idx : ∀ t : Nat, ((idxN C.n turn t : Nat) : Int) = ((t : Nat) - (turn : Nat) : Int) % (C.n : Nat) := fun t => by unfold idxN; rw [Int.toNat_of_nonneg (Int.emod_nonneg _ (by omega))]
    have hmp : (0 : Int) < (C.I.m : Nat) := by rw [hCI]; have := ok.m1; omega
    have kdE : ∀ t : Nat, ((C.kd t : Nat) : Int) = C.cs.getD t 0 % (C.I.m : Nat) := fun t => by unfold CP.kd; rw [Int.toNat_of_nonneg (Int.emod_nonneg _ (by omega))]
    refine r_newL sd fun p H1 s1 n1 l1 sd1 => ?_
    have n6 : a6 ≠ p := by obtain ⟨xs, z, _⟩ := l6; exact ne_of_none z n1
    refine r_forR (n := (C.n : Nat)) (a_cons (e_vd rfl) a_nil) sd1 (by omega)
      (fun k σ' H' => SD K H' σ' [.v (.ref a0), .d C.outs, .d I.e, .d (.int (l : Nat)), .d (.int (turn : Nat)), .d (.int (C.n : Nat)), .v (.ref a6), .v (.ref p), .no, .no, .no, .no] ∧ Ls K H' a6 (inz C.cs) ∧ Ls K H' p (((C.book l turn).rs.map (C.book l turn).rowE).take k) ∧ Same H0 H')
      (fun H2 s2 => ⟨SD.wk (sd1.sm s2) (by walk_at "wk"), (l6.sm s1).sm s2, l1.sm s2, s1.trans s2⟩) (fun k σ' H' hk ⟨sda, la6, lp, sm⟩ => ?_) (fun σ' H' ⟨sda, la6, lp, sm⟩ => ?_)
    · have hk : k < C.n := by omega
      have sdb : SD K H' (σ'.set 8 (some (.int (k : Nat)))) [.v (.ref a0), .d C.outs, .d I.e, .d (.int (l : Nat)), .d (.int (turn : Nat)), .d (.int (C.n : Nat)), .v (.ref a6), .v (.ref p), .d (.int (k : Nat)), .no, .no, .no] := SD.set (s := .d (.int (k : Nat))) ⟨_, rfl, .int _⟩ 8 sda
      have sdx := sdb.vx (i := 6) rfl la6
      obtain ⟨st, hst⟩ : ∃ st, (k + turn) % C.n = st := ⟨_, rfl⟩
      have hstn : st < C.n := by rw [← hst]; exact Nat.mod_lt _ (by omega)
      refine r_set (s := .d (.int (st : Nat))) ((md hnp (e_i0 (f := fun i j => i + j) (i := (k : Nat)) (j := (turn : Nat)) (e_vd rfl) (e_vd rfl)) (e_vd rfl)).to (by rw [← hst, Int.natCast_emod, Int.natCast_add])) sdx fun v9 H2 s2 sd2 => ?_
      have cst : ∀ δ : Sls, δ[6]? = some (.x (isLs K a6 (inz C.cs))) → δ[9]? = some (.d (.int (st : Nat))) → Ee K (tOp (rIxL K) (tVar 6) (tVar 9)) δ (.d (.int (C.cs.getD st 0))) := fun δ h1 h2 => e_ixL (ds := inz C.cs) (e_vxl h1) (e_vd h2) (by omega) (by rw [Int.toNat_natCast]; exact inz_at (by rw [hcl]; exact hstn))
      obtain ⟨c0, hc0⟩ : ∃ c0, Pat.call (.int (idxN C.n turn (st + 1) : Nat)) (C.kd st : Nat) = c0 := ⟨_, rfl⟩
      refine r_set (s := .d c0.e) ((e_tup (ss := [.d (.str "?"), .d (.int (idxN C.n turn (st + 1) : Nat)), .d (.int (C.kd st : Nat))]) (a_cons e_cs (a_cons ((md hnp (e_i0 (f := fun i j => i - j) (e_i0 (f := fun i j => i + j) (i := (st : Nat)) (j := 1) (e_vd rfl) e_ci) (e_vd rfl)) (e_vd rfl)).to (by rw [idx]; rfl)) (a_cons ((md hmp (cst _ rfl rfl) (e_ixT (ds := [.str I.k, .int (I.m : Nat)]) (e_ixT (ds := [I.ld, I.kd]) (e_vd rfl) e_ci (by decide) rfl) e_ci (by decide) (by rw [hCI]; rfl))).to (by rw [kdE])) a_nil))) rfl (Nat.le_of_ble_eq_true rfl)).to (by rw [← hc0]; rfl)) sd2 fun v10 H3 s3 sd3 => ?_
      refine r_seq (N := fun δ' => δ' = [.v (.ref a0), .d C.outs, .d I.e, .d (.int (l : Nat)), .d (.int (turn : Nat)), .d (.int (C.n : Nat)), .x (isLs K a6 (inz C.cs)), .v (.ref p), .d (.int (k : Nat)), .d (.int (st : Nat)), .d (wrapG (C.gs st) C.b c0).e, .no])
        (s_if (b := decide (C.cs.getD st 0 / 3 % 3 = 1)) (t_T (e_eqI (md (by decide) (dv 3 (by decide) (cst _ rfl rfl)) e_ci) e_ci)) (fun hb => s_set (s := .d (Pat.g C.b c0).e) (e_tup (ss := [.d (.str C.b), .d c0.e]) (a_cons (ox _ 3 C.b _ rfl (.inr ⟨rfl, rfl⟩) e_ci) (a_cons (e_vd rfl) a_nil)) rfl (Nat.le_of_ble_eq_true rfl)) (by unfold wrapG CP.gs; rw [hb]; rfl)) (fun hb => s_next (by unfold wrapG CP.gs; rw [hb]; rfl))) sd3 fun σ4 H4 δ4 s4 sd4 e4 => ?_
      subst e4
      refine r_seq (N := fun δ' => δ' = [.v (.ref a0), .d C.outs, .d I.e, .d (.int (l : Nat)), .d (.int (turn : Nat)), .d (.int (C.n : Nat)), .x (isLs K a6 (inz C.cs)), .v (.ref p), .d (.int (k : Nat)), .d (.int (st : Nat)), .d (C.pat (C.last l) turn st).e, .no])
        (s_if (b := decide (((st : Nat) : Int) = (C.n : Nat) - 1)) (t_T (e_eqI (e_vd rfl) (e_i0 (f := fun i j => i - j) (e_vd rfl) e_ci))) (fun hb => s_set (s := .d (Pat.lf (C.last l)).e) (e_tup (ss := [.d (.str (C.last l))]) (a_cons (oxl _ rfl rfl) a_nil) rfl (Nat.le_of_ble_eq_true rfl)) (by
          have hb := of_decide_eq_true hb
          unfold CP.pat
          rw [if_pos (by omega)]; rfl)) (fun hb => s_next (by
          have hb := of_decide_eq_false hb
          unfold CP.pat
          rw [if_neg (by omega), hc0]))) sd4 fun σ5 H5 δ5 s5 sd5 e5 => ?_
      subst e5
      have s25 := ((s2.trans s3).trans s4).trans s5
      obtain ⟨sd5, la6'⟩ := sd5.xv (i := 6) rfl
      refine r_append (p := p) (e := (C.book l turn).rowE (C.pat (C.last l) turn st)) sd5 rfl (e_tup (ss := [.d (.tuple [.str C.o0]), .d (C.pat (C.last l) turn st).e]) (a_cons (e_tup (ss := [.d (.str C.o0)]) (a_cons (ox _ 0 C.o0 _ rfl (.inl ⟨rfl, rfl⟩) e_ci) a_nil) rfl (Nat.le_of_ble_eq_true rfl)) (a_cons (e_vd rfl) a_nil)) rfl (Nat.le_of_ble_eq_true rfl)) (lp.sm s25) (by rw [List.length_take, List.length_map, rows_len]; omega) rfl fun H6 o6 l6' sd6 => ?_
      refine ⟨SD.wk sd6 (by walk_at "wk"), la6'.offL o6 n6 (lp.sm s25), ?_, o6.same (sm.trans s25) n1⟩
      rw [List.take_add_one]
      have e : ((C.book l turn).rs.map (C.book l turn).rowE)[k]? = some ((C.book l turn).rowE (C.pat (C.last l) turn st)) := by
        unfold CP.book
        rw [List.getElem?_map, List.getElem?_map, List.getElem?_range hk, ← hst]; rfl
      rw [e]
      exact l6'
    · rw [show ((C.n : Nat) : Int).toNat = C.n by omega, List.take_of_length_le (by rw [List.length_map, rows_len]; exact Nat.le_refl _)] at lp
      have sdb := (sda.vq (i := 0) rfl (l0.sm sm)).vl (i := 7) rfl lp
      obtain ⟨c0, hc0⟩ : ∃ c0, Pat.call (.int (idxN C.n turn 0 : Nat)) 0 = c0 := ⟨_, rfl⟩
      refine r_set (s := .d c0.e) ((e_tup (ss := [.d (.str "?"), .d (.int (idxN C.n turn 0 : Nat)), .d (.int 0)]) (a_cons e_cs (a_cons ((md hnp (e_neg (i := (turn : Nat)) (e_vd rfl)) (e_vd rfl)).to (by rw [idx]; congr 2; simp)) (a_cons e_ci a_nil))) rfl (Nat.le_of_ble_eq_true rfl)).to (by rw [← hc0]; rfl)) sdb fun v11 H2 s2 sd2 => ?_
      refine r_seq (N := fun δ' => δ' = [.x (isSq K (inz ns)), .d C.outs, .d I.e, .d (.int (l : Nat)), .d (.int (turn : Nat)), .d (.int (C.n : Nat)), .v (.ref a6), .l ((C.book l turn).rs.map (C.book l turn).rowE), .no, .no, .no, .d (C.book l turn).head.e])
        (s_if (b := decide (ns.getD 3 0 / 81 % 2 = 1)) (t_T (e_eqI (md (by decide) (dv 81 (by decide) (lc _ 3 rfl)) e_ci) e_ci)) (fun hb => s_set (s := .d (Pat.g C.b c0).e) (e_tup (ss := [.d (.str C.b), .d c0.e]) (a_cons (ox _ 3 C.b _ rfl (.inr ⟨rfl, rfl⟩) e_ci) (a_cons (e_vd rfl) a_nil)) rfl (Nat.le_of_ble_eq_true rfl)) (by unfold CP.book wrapG; rw [hhg, hb, hc0]; rfl)) (fun hb => s_next (by unfold CP.book wrapG; rw [hhg, hb, hc0]; rfl))) sd2 fun σ3 H3 δ3 s3 sd3 e3 => ?_
      subst e3
      refine r_ret (s := .d (C.book l turn).e) ((e_tup (ss := [.d I.e, .d C.outs, .d (C.book l turn).head.e, .d (.tuple ((C.book l turn).rs.map (C.book l turn).rowE))]) (a_cons (e_vd rfl) (a_cons (e_vd rfl) (a_cons (e_vd rfl) (a_cons (e_tupOf (e_vl rfl)) a_nil)))) rfl (Nat.le_of_ble_eq_true rfl)).to (by unfold LB.e; rw [← hCI]; rfl)) sd3 fun v4 H4 s4 hv4 => ?_
      exact le.rt v4 H4 _ (((sm.trans s2).trans s3).trans s4) hv4 rfl
end
end K80

namespace K80
open PySem PySem.Spec L2 NdefX LamX
open PyProof.Rows hiding St
local macro_rules | `(tactic| walk_at "ee") => `(tactic| first
  | ((with_reducible apply e_vd); exact rfl)
  | ((with_reducible apply e_vl); exact rfl)
  | ((with_reducible apply e_vv); exact rfl)
  | (with_reducible exact e_ci)
  | (with_reducible exact e_cs)
  | (with_reducible exact e_cb)
  | (with_reducible exact e_cn)
  | (with_reducible exact e_hole)
  | ((with_reducible apply e_ixT); (walk_at "ee"); (walk_at "ee"); (first | decide | omega); exact rfl)
  | ((with_reducible apply e_ixL); (walk_at "ee"); (walk_at "ee"); (first | decide | omega); exact rfl)
  | ((with_reducible apply e_tup); (walk_at "ea"); (exact rfl); (exact Nat.le_of_ble_eq_true rfl))
  | ((with_reducible apply e_lst); (walk_at "ea"); (exact rfl); (exact Nat.le_of_ble_eq_true rfl))
  | ((with_reducible apply e_lenT); (walk_at "ee"))
  | ((with_reducible apply e_lenL); (walk_at "ee"))
  | ((with_reducible apply e_eqS); (walk_at "ee"); (walk_at "ee"))
  | ((with_reducible apply e_eqI); (walk_at "ee"); (walk_at "ee"))
  | ((with_reducible apply e_neS); (walk_at "ee"); (walk_at "ee"))
  | ((with_reducible apply e_neI); (walk_at "ee"); (walk_at "ee"))
  | ((with_reducible apply e_i0); (walk_at "ee"); (walk_at "ee"))
  | ((with_reducible apply e_b0); (walk_at "ee"); (walk_at "ee"))
  | ((with_reducible apply e_isN); (walk_at "ee"))
  | ((with_reducible apply e_notN); (walk_at "ee"))
  | ((with_reducible apply e_tupOf); (walk_at "ee"))
  | ((with_reducible apply e_tail); (walk_at "ee"); (walk_at "ee"))
  | ((with_reducible apply e_call); (walk_at "ea"); (walk_at "own"))
  | ((with_reducible apply e_cat); (walk_at "ee"); (walk_at "ee"); (exact Nat.le_of_ble_eq_true rfl))
  | ((with_reducible apply e_andV); (walk_at "ee"); intro _; (walk_at "ee"))
  | walk_at "ee2")
local macro_rules | `(tactic| walk_at "ea") => `(tactic| first | (with_reducible exact a_nil) | ((with_reducible apply a_cons); (walk_at "ee"); (walk_at "ea")))
local macro_rules | `(tactic| walk_at "et") => `(tactic| first
  | ((with_reducible apply t_B); (walk_at "ee"))
  | ((with_reducible apply t_T); (walk_at "ee"))
  | ((with_reducible apply t_not); (walk_at "et")))
local macro_rules | `(tactic| walk_at "own") => `(tactic| fail "own")
local macro_rules | `(tactic| walk_at "ee2") => `(tactic| fail "ee2")
local macro_rules | `(tactic| walk_at "ret") => `(tactic| ((with_reducible apply s_ret); (walk_at "ee"); exact rfl))
local macro_rules | `(tactic| walk_at "retS") => `(tactic| ((with_reducible apply s_ret); (walk_at "ee"); rotate_left))

local macro_rules | `(tactic| walk_at "own") => `(tactic| first
  | exact ⟨_, _, rfl, rfl⟩
  | exact ⟨_, _, _, _, rfl, rfl⟩
  | (refine ⟨_, ?_, ?_, rfl, rfl⟩; (first | omega | assumption); assumption))
local macro_rules | `(tactic| walk_at "wk") => `(tactic| first
  | exact Wk.nil
  | ((apply Wk.same); (walk_at "wk"))
  | ((apply Wk.no); (walk_at "wk")))
section
variable {P : Program} {w : World} {K : PySem.W.Frag} {mg : Str → Option Value} {base : Heap}
theorem r_append2 {δ : Sls} {te : TE} {D : Ends} {σ : L2.St} {H : Hp} {p : Addr} {ds : List PD} {i : Nat} {e : PD} (sd : SD K H σ δ) (hi : σ[i]? = some (some (.ref p))) (he : Ee K te δ (.d e)) (hp : Ls K H p ds) (hl : ds.length < 100000)
    (k : ∀ H', Off p H H' → Ls K H' p (ds ++ [e]) → Tk H H' → D.nx σ H') : tDrop (tBM K "list" rAppend (tVar i) (tCons te tNil)) D σ H := by
  obtain ⟨xs, h1, h2⟩ := hp
  refine ⟨_, hi, .inl ⟨rfl, _, SqL.of h1⟩, ?_⟩
  refine he σ H _ sd fun v H1 s1 ⟨w, e1, t1⟩ => ?_
  cases e1
  have h1' := s1 _ _ h1
  refine ⟨p, xs, v, rfl, rfl, h1', sz5' (by rw [h2.length]; exact hl), ?_⟩
  exact k _ ((Off.of s1).trans Off.upd) ⟨_, upd_same, ((h2.sm s1).app (.cons t1 .nil)).mv (tt_lst h1')⟩ (fun a ys r => (tt_lst h1') a ys (same_rd s1 r))
/-! ### _law_round -/
def rndB (C : CP) (n : Nat) : LB := ⟨C.I, C.outs, C.o0, .call (.int 0) 0, (List.range n).map fun k => .g C.b (.call (.int (((k + 1) % n : Nat) : Int)) 0)⟩
def RLRound (ss : Sls) (s : Sl) : Prop := ∃ (C : CP) (n : Nat), 1 ≤ n ∧ n ≤ 20 ∧ ss = [.d (.int (n : Nat)), .d C.outs, .d C.I.e] ∧ s = .d (rndB C n).e
theorem ok_law_round (T : Top K mg) : GOk P w K mg base 1 "_law_round" ["states", "outs", "ins"] (spD K RLRound) := by
  refine g_pure T.d_law_round scLRound (fun ss s h => ?_) (fun f cdv A outer s H E hr => ⟨_, (pss_cons (ps_set (i := 3) scLRound.nd rfl (Or.inl rfl) (pe_lst pa_nil))
      (pss_cons (ps_for PassesOwn.never rfl (pi_range1 rfl T.b_range (pa_cons (pv 0) pa_nil)) (pg_name (i := 4) scLRound.nd rfl (Or.inl rfl)) (pss_one (ps_expr (pe_bm PySem.F.plainAttrs_list PySem.F.slot_list_append PySem.F.type_list_append mt_append (pv 3) (pa_cons (pe_tup (pa_cons (pe_tup (pa_cons (pe_ix ix_tup (pe_ix ix_tup (pv 1) pe_int (fun _ _ => rfl)) pe_int (fun _ _ => rfl)) pa_nil)) (pa_cons (pe_tup (pa_cons (pe_ix ix_tup (pe_ix ix_tup (pv 1) pe_int (fun _ _ => rfl)) pe_int (fun _ _ => rfl)) (pa_cons (pe_tup (pa_cons pe_str (pa_cons (pe_op op_mod (pe_op op_add (pv 4) pe_int) (pv 0)) (pa_cons pe_int pa_nil)))) pa_nil))) pa_nil))) pa_nil)))))
      (pss_one (ps_ret (pe_tup (pa_cons (pv 2) (pa_cons (pv 1) (pa_cons (pe_tup (pa_cons pe_str (pa_cons pe_int (pa_cons pe_int pa_nil)))) (pa_cons (pe_callTy call_tuple_of (by rfl) T.b_tuple (by decide +kernel) (pa_cons (pv 3) pa_nil)) pa_nil))))))))), fun ss s h => ?_⟩)
  · obtain ⟨C, n, _, _, rfl, _⟩ := h; rfl
  · obtain ⟨C, n, h1, h2, rfl, rfl⟩ := h
    try dsimp only [cxOf]
    intro σ H0 E sd le
    have rl : (rndB C n).rs.length = n := by unfold rndB; rw [List.length_map, List.length_range]
    have ox : ∀ (δ : Sls) (i : Nat) (x : Str), δ[1]? = some (.d C.outs) → (i = 0 ∧ x = C.o0 ∨ i = 3 ∧ x = C.b) → Ee K (tOp (rIxT K) (tOp (rIxT K) (tVar 1) (tC (.int (i : Nat)))) (tC (.int 0))) δ (.d (.str x)) := fun δ i x h hx => by
      rcases hx with ⟨rfl, rfl⟩ | ⟨rfl, rfl⟩
      · exact e_ixT (ds := [.str C.o0, .int 0]) (e_ixT (ds := [.tuple [.str C.o0, .int 0], .tuple [.str C.o1, .int 0], .tuple [.str C.o2, .int 0], .tuple [.str C.b, .int 1]]) (e_vd h) e_ci (by omega) rfl) e_ci (by decide) rfl
      · exact e_ixT (ds := [.str C.b, .int 1]) (e_ixT (ds := [.tuple [.str C.o0, .int 0], .tuple [.str C.o1, .int 0], .tuple [.str C.o2, .int 0], .tuple [.str C.b, .int 1]]) (e_vd h) e_ci (by omega) rfl) e_ci (by decide) rfl
    refine r_newL sd fun p H1 s1 n1 l1 sd1 => ?_
    refine r_forR (n := (n : Nat)) (a_cons (e_vd rfl) a_nil) sd1 (by omega)
      (fun k σ' H' => SD K H' σ' [.d (.int (n : Nat)), .d C.outs, .d C.I.e, .v (.ref p), .no] ∧ Ls K H' p (((rndB C n).rs.map (rndB C n).rowE).take k) ∧ Same H0 H')
      (fun H2 s2 => ⟨SD.wk (sd1.sm s2) (by walk_at "wk"), l1.sm s2, s1.trans s2⟩) (fun k σ' H' hk ⟨sda, lp, sm⟩ => ?_) (fun σ' H' ⟨sda, lp, sm⟩ => ?_)
    · have hk : k < n := by omega
      have sdb : SD K H' (σ'.set 4 (some (.int (k : Nat)))) [.d (.int (n : Nat)), .d C.outs, .d C.I.e, .v (.ref p), .d (.int (k : Nat))] := SD.set (s := .d (.int (k : Nat))) ⟨_, rfl, .int _⟩ 4 sda
      refine r_append (p := p) (e := (rndB C n).rowE (.g C.b (.call (.int (((k + 1) % n : Nat) : Int)) 0))) sdb rfl (e_tup (ss := [.d (.tuple [.str C.o0]), .d (Pat.g C.b (.call (.int (((k + 1) % n : Nat) : Int)) 0)).e]) (a_cons (e_tup (ss := [.d (.str C.o0)]) (a_cons (ox _ 0 C.o0 rfl (.inl ⟨rfl, rfl⟩)) a_nil) rfl (Nat.le_of_ble_eq_true rfl))
          (a_cons (e_tup (ss := [.d (.str C.b), .d (Pat.call (.int (((k + 1) % n : Nat) : Int)) 0).e]) (a_cons (ox _ 3 C.b rfl (.inr ⟨rfl, rfl⟩)) (a_cons (e_tup (ss := [.d (.str "?"), .d (.int (((k + 1) % n : Nat) : Int)), .d (.int 0)]) (a_cons e_cs (a_cons ((e_iC (C := fun _ j => 0 < j) (f := fun i j => i % j) (e_i0 (f := fun i j => i + j) (i := (k : Nat)) (j := 1) (e_vd rfl) e_ci) (e_vd rfl) (by omega)).to (by rw [Int.natCast_emod]; rfl)) (a_cons e_ci a_nil))) rfl (Nat.le_of_ble_eq_true rfl)) a_nil)) rfl (Nat.le_of_ble_eq_true rfl)) a_nil)) rfl (Nat.le_of_ble_eq_true rfl))
        lp (by rw [List.length_take, List.length_map, rl]; omega) rfl fun H2 o2 l2 sd2 => ?_
      refine ⟨SD.wk sd2 (by walk_at "wk"), ?_, o2.same sm n1⟩
      rw [List.take_add_one]
      have e : ((rndB C n).rs.map (rndB C n).rowE)[k]? = some ((rndB C n).rowE (.g C.b (.call (.int (((k + 1) % n : Nat) : Int)) 0))) := by
        unfold rndB
        rw [List.getElem?_map, List.getElem?_map, List.getElem?_range hk]; rfl
      rw [e]
      exact l2
    · rw [show ((n : Nat) : Int).toNat = n by omega, List.take_of_length_le (by rw [List.length_map, rl]; exact Nat.le_refl _)] at lp
      refine r_ret (s := .d (rndB C n).e) (e_tup (ss := [.d C.I.e, .d C.outs, .d (Pat.call (.int 0) 0).e, .d (.tuple ((rndB C n).rs.map (rndB C n).rowE))]) (a_cons (e_vd rfl) (a_cons (e_vd rfl) (a_cons (e_tup (ss := [.d (.str "?"), .d (.int 0), .d (.int 0)]) (a_cons e_cs (a_cons e_ci (a_cons e_ci a_nil))) rfl (Nat.le_of_ble_eq_true rfl)) (a_cons (e_tupOf (e_vl rfl)) a_nil)))) rfl (Nat.le_of_ble_eq_true rfl)) (sda.vl (i := 3) rfl lp) fun v2 H2 s2 hv2 => ?_
      exact le.rt v2 H2 _ (sm.trans s2) hv2 rfl
/-! ### calls of alike and parted -/
section
variable {δ : Sls} {σ : L2.St} {H : Hp} {Pt : Addr} {X Y X' Y' : LB} {FX FY : List FT} {R : List Row} {o : Option (Option Nat × Nat)} {r : Option (Tr × Nat)} {Q : VK}
theorem c_alike {i j : Nat} (sd : SD K H σ δ) (hi : δ[i]? = some (.d X.e)) (hj : δ[j]? = some (.d Y.e)) (tw : Two X Y FX FY X' Y' R o) (hT : TabsN (tabE Pt) H) (n : noX δ = true)
    (k : ∀ v H', ExtN H H' → (∀ b, H' b = none → H b = none) → TabsN (tabE Pt) H' → SD K H' σ δ → SlAt K H' (some v) (.d (.bool o.isNone)) → Q v H') : tCall (spAlike K Pt) [] E0 (tCons (tVar i) (tCons (tVar j) tNil)) σ H Q := by
  refine (a_cons (e_vd hi) (a_cons (e_vd hj) a_nil)) σ H _ sd fun vs H1 s1 h1 => ?_
  refine ⟨X, Y, FX, FY, X', Y', R, o, by rw [List.append_nil]; exact h1, tw, hT.ext s1, fun v H2 e2 n2 t2 hv => ?_⟩
  exact k v H2 ((ExtN.of s1).trans e2) (fun b hb => s1.free (n2 b hb)) t2 ((sd.sm s1).ext e2 n) hv
theorem c_parted {i j : Nat} (sd : SD K H σ δ) (hi : δ[i]? = some (.d X.e)) (hj : δ[j]? = some (.d Y.e)) (tw : Two X Y FX FY X' Y' R o) (hI : X.I.ok) (po : PartO X' Y' R o r) (hT : TabsN (tabE Pt) H) (n : noX δ = true)
    (k : ∀ v H', ExtN H H' → (∀ b, H' b = none → H b = none) → TabsN (tabE Pt) H' → SD K H' σ δ → SlAt K H' (some v) (.d (parE X.I r)) → Q v H') : tCall (spParted K Pt) [] E0 (tCons (tVar i) (tCons (tVar j) tNil)) σ H Q := by
  refine (a_cons (e_vd hi) (a_cons (e_vd hj) a_nil)) σ H _ sd fun vs H1 s1 h1 => ?_
  refine ⟨X, Y, FX, FY, X', Y', R, o, r, by rw [List.append_nil]; exact h1, tw, hI, po, hT.ext s1, fun v H2 e2 n2 t2 hv => ?_⟩
  exact k v H2 ((ExtN.of s1).trans e2) (fun b hb => s1.free (n2 b hb)) t2 ((sd.sm s1).ext e2 n) hv
end
/-! ### _law_rounds -/
def prE (n m j : Nat) : PD := .tuple [.int ((j % n : Nat) : Int), .int ((j % m : Nat) : Int)]
def dueL (n m t : Nat) : List PD := (List.range t).map (prE n m)
theorem prs_lay : ∀ l : List Nat, ∀ n m, PyData.canLayAll0 (l.map (prE n m)) = true ∧ PyData.depthAll (l.map (prE n m)) ≤ 2
  | [], n, m => ⟨rfl, by simp [PyData.depthAll]⟩
  | j :: l, n, m => by
    obtain ⟨h1, h2⟩ := prs_lay l n m
    refine ⟨?_, ?_⟩
    · simp [PyData.canLayAll0, prE, PyData.canLay0, h1]
    · simp only [List.map_cons, PyData.depthAll]
      have : (prE n m j).depth ≤ 2 := by simp [prE, PyData.depth, PyData.depthAll]
      omega
theorem due_sh (n m t : Nat) : SeqAt.shaped (.list (dueL n m t)) = true := by
  obtain ⟨h1, h2⟩ := prs_lay (List.range t) n m
  unfold dueL SeqAt.shaped
  rw [Bool.and_eq_true]
  refine ⟨h1, decide_eq_true ?_⟩
  simp only [PyData.depth]
  omega
/-- t is the first number of turns that comes back for both -/
def FirstT (n m t : Nat) : Prop := 0 < t ∧ t ≤ 400 ∧ t % n = 0 ∧ t % m = 0 ∧ ∀ i, 0 < i → i < t → ¬ (i % n = 0 ∧ i % m = 0)
theorem pr_eqv (a b c d : Int) : PyData.eqv (.tuple [.int a, .int b]) (.tuple [.int c, .int d]) = (decide (a = c) && decide (b = d)) := by
  simp only [PyData.eqv, PyData.eqvAll, Bool.and_true]
  rw [Bool.beq_eq_decide_eq, Bool.beq_eq_decide_eq]
def spRounds (K : PySem.W.Frag) (Pt : Addr) : Sp := fun vs H Q _ => ∃ (C : CP) (n m t : Nat) (FX FY : List FT) (X' Y' : LB) (R : List Row), SlAll K H vs [.d C.outs, .d C.I.e, .d (.int (n : Nat)), .d (.int (m : Nat))] ∧ 1 ≤ n ∧ n ≤ 20 ∧ 1 ≤ m ∧ m ≤ 20 ∧ C.I.ok ∧
  Two (rndB C n) (rndB C m) FX FY X' Y' R none ∧ FirstT n m t ∧ R.map Row.pr = dueL n m t ∧ TabsN (tabE Pt) H ∧ ∀ H', Q (.bl true) H'
theorem ok_law_rounds (T : Top K mg) {Pt : Addr} (g_law_round : GOk P w K mg base 1 "_law_round" ["states", "outs", "ins"] (spD K RLRound)) (g_alike : GOk P w K mg base 11 "alike" ["one", "two"] (spAlike K Pt)) (g_parted : GOk P w K mg base 11 "parted" ["one", "two"] (spParted K Pt))
    (g_earliest : GOk P w K mg base 10 "earliest" ["book"] (spEar K Pt)) (g_pairs_of : GOk P w K mg base 8 "pairs_of" ["one", "two"] (spD K RPairsOf)) : GOk P w K mg base 12 "_law_rounds" ["outs", "ins", "many", "more"] (spRounds K Pt) := by
  refine g_ok T.d_law_rounds scLRounds (fun vs H Q E h => ?_) (fun fn cdv A outer s H vs Q E hr h => ⟨_, (pss_cons (ps_set (i := 4) scLRounds.nd rfl (Or.inl rfl) (pe_g g_law_round (hr.mono (by omega)) rfl (pa_cons (pv 2) (pa_cons (pv 0) (pa_cons (pv 1) pa_nil)))))
      (pss_cons (ps_set (i := 5) scLRounds.nd rfl (Or.inl rfl) (pe_g g_law_round (hr.mono (by omega)) rfl (pa_cons (pv 3) (pa_cons (pv 0) (pa_cons (pv 1) pa_nil)))))
      (pss_cons (ps_set (i := 6) scLRounds.nd rfl (Or.inl rfl) (pe_lst (pa_cons (pe_tup (pa_cons pe_int (pa_cons pe_int pa_nil))) pa_nil)))
      (pss_cons (ps_while PassesOwn.never (pt_cmpR (op_neD hr.units) (pe_tup (pa_cons (pe_op op_mod (pe_op op_add (pe_ix ix_tup (pe_ix ix_list (pv 6) (pe_un un_neg pe_int) (fun _ _ => rfl)) pe_int (fun _ _ => rfl)) pe_int) (pv 2)) (pa_cons (pe_op op_mod (pe_op op_add (pe_ix ix_tup (pe_ix ix_list (pv 6) (pe_un un_neg pe_int) (fun _ _ => rfl)) pe_int (fun _ _ => rfl)) pe_int) (pv 3)) pa_nil))) (pe_tup (pa_cons pe_int (pa_cons pe_int pa_nil))) (nomark _)) (pss_one (ps_expr (pe_bm PySem.F.plainAttrs_list PySem.F.slot_list_append PySem.F.type_list_append mt_append (pv 6) (pa_cons (pe_tup (pa_cons (pe_op op_mod (pe_op op_add (pe_ix ix_tup (pe_ix ix_list (pv 6) (pe_un un_neg pe_int) (fun _ _ => rfl)) pe_int (fun _ _ => rfl)) pe_int) (pv 2)) (pa_cons (pe_op op_mod (pe_op op_add (pe_ix ix_tup (pe_ix ix_list (pv 6) (pe_un un_neg pe_int) (fun _ _ => rfl)) pe_int (fun _ _ => rfl)) pe_int) (pv 3)) pa_nil))) pa_nil)))))
      (pss_cons (ps_if (PW.pt (pw_or (pt_cmpR op_notBl (pe_g g_alike (hr.mono (by omega)) rfl (pa_cons (pv 4) (pa_cons (pv 5) pa_nil))) pe_bl (nomark _)) (pw_or1 (pt_cmp (pc_notN (pe_g g_parted (hr.mono (by omega)) rfl (pa_cons (pv 4) (pa_cons (pv 5) pa_nil)))))))) (pss_one (ps_ret pe_bl)) pss_nil)
      (pss_one (ps_ret (pe_cmpR (op_eqD hr.units) (pe_g g_pairs_of (hr.mono (by omega)) rfl (pa_cons (pe_g g_earliest (hr.mono (by omega)) rfl (pa_cons (pv 4) pa_nil)) (pa_cons (pe_g g_earliest (hr.mono (by omega)) rfl (pa_cons (pv 5) pa_nil)) pa_nil))) (pv 6) (nomark _))))))))), ?_⟩)
  · obtain ⟨C, n, m, t, FX, FY, X', Y', R, h1, _⟩ := h
    exact h1.length
  obtain ⟨C, n, m, t, FX, FY, X', Y', R, h1, n1, n2, m1, m2, hI, tw, ft, hR, hT, q⟩ := h
  have sd := sd_st (N := nLRounds) h1
  have rnd : ∀ (δ : Sls) (i k : Nat), δ[0]? = some (.d C.outs) → δ[1]? = some (.d C.I.e) → δ[i]? = some (.d (.int (k : Nat))) → 1 ≤ k → k ≤ 20 → Ee K (tCall (spD K RLRound) [] E0 (tCons (tVar i) (tCons (tVar 0) (tCons (tVar 1) tNil)))) δ (.d (rndB C k).e) := fun δ i k h0 h1 hi a b =>
    e_call (ss := [.d (.int (k : Nat)), .d C.outs, .d C.I.e]) (a_cons (e_vd hi) (a_cons (e_vd h0) (a_cons (e_vd h1) a_nil))) ⟨C, k, a, b, rfl, rfl⟩
  refine r_set (s := .d (rndB C n).e) (rnd _ 2 n rfl rfl rfl n1 n2) sd fun v1 H1 s1 sd1 => ?_
  refine r_set (s := .d (rndB C m).e) (rnd _ 3 m rfl rfl rfl m1 m2) sd1 fun v2 H2 s2 sd2 => ?_
  have z1 : dueL n m 1 = [.tuple [.int 0, .int 0]] := by
    unfold dueL prE
    simp
  refine r_setN (es := dueL n m 1) (n_lst (ss := [.d (.tuple [.int 0, .int 0])]) (a_cons (e_tup (ss := [.d (.int 0), .d (.int 0)]) (a_cons e_ci (a_cons e_ci a_nil)) rfl (Nat.le_of_ble_eq_true rfl)) a_nil) (by rw [z1]; rfl) (Nat.le_of_ble_eq_true rfl)) sd2 fun p H3 s3 n3 l3 sd3 => ?_
  obtain ⟨ft1, ft2, ft3, ft4, ft5⟩ := ft
  refine ⟨fun k σ' H' => ∃ i, i < t ∧ k = t - i ∧ SD K H' σ' [.d C.outs, .d C.I.e, .d (.int (n : Nat)), .d (.int (m : Nat)), .d (rndB C n).e, .d (rndB C m).e, .v (.ref p)] ∧ Ls K H' p (dueL n m (i + 1)) ∧ Same H H', ⟨t - 0, 0, ft1, rfl, sd3, l3, (s1.trans s2).trans s3⟩, ?_⟩
  rintro k σa Ha ⟨i, hit, rfl, sda, lp, sm⟩
  have hd : dueL n m (i + 1) = dueL n m i ++ [prE n m i] := by unfold dueL; rw [List.range_succ, List.map_append]; rfl
  have stp : ∀ (δ : Sls) (j c : Nat), δ[6]? = some (.x (isLs K p (dueL n m (i + 1)))) → (c = 0 ∧ δ[2]? = some (.d (.int (n : Nat))) ∧ j = 2 ∨ c = 1 ∧ δ[3]? = some (.d (.int (m : Nat))) ∧ j = 3) →
      Ee K (tOp (rI (fun _ j => 0 < j) fun i j => .int (i % j)) (tOp (rI0 fun i j => .int (i + j)) (tOp (rIxT K) (tOp (rIxL K) (tVar 6) (tUn (rU fun i => .int (-i)) (tC (.int 1)))) (tC (.int (c : Nat)))) (tC (.int 1))) (tVar j)) δ (.d (.int (((i + 1) % (if c = 0 then n else m) : Nat) : Int))) := fun δ j c h6 hc => by
    have last : Ee K (tOp (rIxL K) (tVar 6) (tUn (rU fun i => .int (-i)) (tC (.int 1)))) δ (.d (prE n m i)) := e_ixLa (ds := dueL n m (i + 1)) (e_vxl h6) (e_neg e_ci) (by rw [hd]; exact atI_last _ _)
    rcases hc with ⟨rfl, h2, rfl⟩ | ⟨rfl, h2, rfl⟩
    · refine (e_iC (C := fun _ j => 0 < j) (f := fun i j => i % j) (e_i0 (f := fun i j => i + j) (i := ((i % n : Nat) : Int)) (j := 1) (e_ixT (ds := [.int ((i % n : Nat) : Int), .int ((i % m : Nat) : Int)]) last e_ci (by decide) rfl) e_ci) (e_vd h2) (by omega)).to ?_
      rw [if_pos rfl]
      congr 2
      rw [← Nat.mod_add_mod i n 1, Int.natCast_emod (i % n + 1) n]
      rfl
    · refine (e_iC (C := fun _ j => 0 < j) (f := fun i j => i % j) (e_i0 (f := fun i j => i + j) (i := ((i % m : Nat) : Int)) (j := 1) (e_ixT (ds := [.int ((i % n : Nat) : Int), .int ((i % m : Nat) : Int)]) last e_ci (by decide) rfl) e_ci) (e_vd h2) (by omega)).to ?_
      rw [if_neg (by decide)]
      congr 2
      rw [← Nat.mod_add_mod i m 1, Int.natCast_emod (i % m + 1) m]
      rfl
  have sdx := sda.vx (i := 6) rfl lp
  have psh : ∀ a b : Int, SeqAt.shaped (.tuple [.int a, .int b]) = true := fun a b => by simp [SeqAt.shaped, PyData.canLay0, PyData.canLayAll0, PyData.depth, PyData.depthAll]
  have nxt : ∀ δ : Sls, δ[6]? = some (.x (isLs K p (dueL n m (i + 1)))) → δ[2]? = some (.d (.int (n : Nat))) → δ[3]? = some (.d (.int (m : Nat))) → Ee K (tTup (tCons _ (tCons _ tNil))) δ (.d (prE n m (i + 1))) := fun δ h6 h2 h3 =>
    e_tup (ss := [.d (.int (((i + 1) % n : Nat) : Int)), .d (.int (((i + 1) % m : Nat) : Int))]) (a_cons (stp δ 2 0 h6 (.inl ⟨rfl, h2, rfl⟩)) (a_cons (stp δ 3 1 h6 (.inr ⟨rfl, h3, rfl⟩)) a_nil)) rfl (Nat.le_of_ble_eq_true rfl)
  refine t_T (e_neD (nxt _ rfl rfl rfl) (e_tup (ss := [.d (.int 0), .d (.int 0)]) (a_cons e_ci (a_cons e_ci a_nil)) rfl (Nat.le_of_ble_eq_true rfl)) (psh _ _) (psh _ _)) σa Ha _ sdx fun Hb sb => ?_
  have ev : PyData.eqv (prE n m (i + 1)) (.tuple [.int 0, .int 0]) = (decide ((((i + 1) % n : Nat) : Int) = 0) && decide ((((i + 1) % m : Nat) : Int) = 0)) := pr_eqv _ _ _ _
  rw [ev]
  by_cases hlast : i + 1 = t
  · rw [hlast, ft3, ft4]
    refine iteF ?_
    subst hlast
    have sdl : SD K Hb σa [.d C.outs, .d C.I.e, .d (.int (n : Nat)), .d (.int (m : Nat)), .d (rndB C n).e, .d (rndB C m).e, .l (dueL n m (i + 1))] := (sda.vl (i := 6) rfl lp).sm sb
    have hTb : TabsN (tabE Pt) Hb := hT.ext (sm.trans sb)
    refine c_alike (i := 4) (j := 5) sdl rfl rfl tw hTb rfl fun v4 H4 e4 m4 t4 sd4 hv4 => ?_
    obtain ⟨w4, eq4, tv4⟩ := hv4
    cases eq4
    refine ⟨true, true, tv4.b, rfl, false, rfl, ?_⟩
    refine iteF ?_
    refine c_parted (i := 4) (j := 5) (r := none) sd4 rfl rfl tw hI (.inl ⟨rfl, rfl⟩) t4 rfl fun v5 H5 e5 m5 t5 sd5 hv5 => ?_
    obtain ⟨w5, eq5, tv5⟩ := hv5
    cases eq5
    have hv5' : v5 = .non := tv5.n
    subst hv5'
    refine ⟨false, rfl, iteF ?_⟩
    refine c_ear (i := 4) sd5 rfl tw.ex t5 rfl fun v6 H6 e6 m6 t6 sd6 hv6 => ?_
    refine c_ear (i := 5) sd6 rfl tw.ey t6 rfl fun v7 H7 e7 m7 t7 sd7 hv7 => ?_
    obtain ⟨w6, eq6, tv6⟩ := hv6
    cases eq6
    refine ⟨[.d X'.e, .d Y'.e], .l (R.map Row.pr), ⟨⟨_, rfl, tv6.mv (extN_tk e7)⟩, hv7, trivial⟩, ⟨X', Y', R, none, tw.k', tw.ox, tw.oy, tw.a, tw.len, tw.mp, rfl, rfl⟩, fun v8 H8 s8 hv8 => ?_⟩
    obtain ⟨a8, xs8, eq8, p8, q8⟩ := hv8
    cases eq8
    obtain ⟨o9, g9, a9, xs9, rfl, p9, q9⟩ := SD.get (i := 6) (sd7.sm s8) rfl
    refine ⟨_, g9, ?_⟩
    refine ⟨.list (R.map Row.pr), .list (dueL n m (i + 1)), .lst (SqL.of p8) (TpAll.dp _ _ q8), .lst (SqL.of p9) (TpAll.dp _ _ q9), by rw [hR]; exact due_sh _ _ _, due_sh _ _ _, ?_⟩
    rw [hR, SeqAt.eqv_refl _ (SeqAt.canLay_of_shaped (due_sh n m (i + 1)))]
    exact q H8
  · have hne := ft5 (i + 1) (by omega) (by omega)
    have hb : (decide ((((i + 1) % n : Nat) : Int) = 0) && decide ((((i + 1) % m : Nat) : Int) = 0)) = false := by
      cases h : (decide ((((i + 1) % n : Nat) : Int) = 0) && decide ((((i + 1) % m : Nat) : Int) = 0)) with
      | false => rfl
      | true =>
        rw [Bool.and_eq_true, decide_eq_true_eq, decide_eq_true_eq] at h
        exact absurd ⟨by omega, by omega⟩ hne
    rw [hb]
    refine iteT ⟨_, fun _ _ h => h, ?_⟩
    obtain ⟨o, g6, g7⟩ := SD.get (i := 6) sda rfl
    cases (show o = some (.ref p) from g7)
    refine r_append2 (p := p) (ds := dueL n m (i + 1)) (e := prE n m (i + 1)) (sdx.sm sb) g6 (nxt _ rfl rfl rfl) (lp.sm sb) (by unfold dueL; rw [List.length_map, List.length_range]; omega) fun H2 o2 l2 t2 => ?_
    refine ⟨t - (i + 1), by omega, i + 1, by omega, rfl, (sda.sm sb).tt t2 rfl, ?_, o2.same (sm.trans sb) (((s1.trans s2).free n3))⟩
    have e : dueL n m (i + 1 + 1) = dueL n m (i + 1) ++ [prE n m (i + 1)] := by unfold dueL; rw [List.range_succ, List.map_append]; rfl
    rw [e]
    exact l2
end
end K80

namespace K80
open PySem PySem.Spec L2 NdefX LamX
open PyProof.Rows hiding St
local macro_rules | `(tactic| walk_at "ee") => `(tactic| first
  | ((with_reducible apply e_vd); exact rfl)
  | ((with_reducible apply e_vl); exact rfl)
  | ((with_reducible apply e_vv); exact rfl)
  | (with_reducible exact e_ci)
  | (with_reducible exact e_cs)
  | (with_reducible exact e_cb)
  | (with_reducible exact e_cn)
  | (with_reducible exact e_hole)
  | ((with_reducible apply e_ixT); (walk_at "ee"); (walk_at "ee"); (first | decide | omega); exact rfl)
  | ((with_reducible apply e_ixL); (walk_at "ee"); (walk_at "ee"); (first | decide | omega); exact rfl)
  | ((with_reducible apply e_tup); (walk_at "ea"); (exact rfl); (exact Nat.le_of_ble_eq_true rfl))
  | ((with_reducible apply e_lst); (walk_at "ea"); (exact rfl); (exact Nat.le_of_ble_eq_true rfl))
  | ((with_reducible apply e_lenT); (walk_at "ee"))
  | ((with_reducible apply e_lenL); (walk_at "ee"))
  | ((with_reducible apply e_eqS); (walk_at "ee"); (walk_at "ee"))
  | ((with_reducible apply e_eqI); (walk_at "ee"); (walk_at "ee"))
  | ((with_reducible apply e_neS); (walk_at "ee"); (walk_at "ee"))
  | ((with_reducible apply e_neI); (walk_at "ee"); (walk_at "ee"))
  | ((with_reducible apply e_i0); (walk_at "ee"); (walk_at "ee"))
  | ((with_reducible apply e_b0); (walk_at "ee"); (walk_at "ee"))
  | ((with_reducible apply e_isN); (walk_at "ee"))
  | ((with_reducible apply e_notN); (walk_at "ee"))
  | ((with_reducible apply e_tupOf); (walk_at "ee"))
  | ((with_reducible apply e_tail); (walk_at "ee"); (walk_at "ee"))
  | ((with_reducible apply e_call); (walk_at "ea"); (walk_at "own"))
  | ((with_reducible apply e_cat); (walk_at "ee"); (walk_at "ee"); (exact Nat.le_of_ble_eq_true rfl))
  | ((with_reducible apply e_andV); (walk_at "ee"); intro _; (walk_at "ee"))
  | walk_at "ee2")
local macro_rules | `(tactic| walk_at "ea") => `(tactic| first | (with_reducible exact a_nil) | ((with_reducible apply a_cons); (walk_at "ee"); (walk_at "ea")))
local macro_rules | `(tactic| walk_at "et") => `(tactic| first
  | ((with_reducible apply t_B); (walk_at "ee"))
  | ((with_reducible apply t_T); (walk_at "ee"))
  | ((with_reducible apply t_not); (walk_at "et")))
local macro_rules | `(tactic| walk_at "own") => `(tactic| fail "own")
local macro_rules | `(tactic| walk_at "ee2") => `(tactic| fail "ee2")
local macro_rules | `(tactic| walk_at "ret") => `(tactic| ((with_reducible apply s_ret); (walk_at "ee"); exact rfl))
local macro_rules | `(tactic| walk_at "retS") => `(tactic| ((with_reducible apply s_ret); (walk_at "ee"); rotate_left))

local macro_rules | `(tactic| walk_at "own") => `(tactic| first
  | exact ⟨_, _, rfl, rfl⟩
  | exact ⟨_, _, _, _, rfl, rfl⟩
  | (refine ⟨_, ?_, ?_, rfl, rfl⟩; (first | omega | assumption); assumption))
local macro_rules | `(tactic| walk_at "wk") => `(tactic| first
  | exact Wk.nil
  | ((apply Wk.same); (walk_at "wk"))
  | ((apply Wk.no); (walk_at "wk")))
section
variable {P : Program} {w : World} {K : PySem.W.Frag} {mg : Str → Option Value} {base : Heap}
theorem inz_tpAll {H : Hp} {ns : List Int} : TpAll K H (ns.map V.int) (inz ns) := ints_tpAll
theorem r_callT {δ : Sls} {σ : L2.St} {H : Hp} {D : Ends} {sp : Sp} {E : XK} {ta : TA} {ss : Sls} (ha : Ea K ta δ ss) (sd : SD K H σ δ) (k : ∀ vs H', Same H H' → SlAll K H' vs ss → sp vs H' D.rt E) : tRet (tCall sp [] E ta) D σ H := by
  refine ha σ H _ sd fun vs H1 s1 h => ?_
  show sp (vs ++ []) H1 _ E
  rw [List.append_nil]
  exact k vs H1 s1 h
theorem gName_i {j : Nat} {v : V} {σ : L2.St} {H : Hp} {Q : L2.St → Hp → Prop} (h : Q (σ.set j (some v)) H) : gName j v σ H Q := h
/-! ### law -/
def sOk (x : Str) : Prop := notSign x = true ∧ PyData.strOk x = true
structure CP.ok (C : CP) : Prop where
  I : C.I.ok
  s0 : sOk C.o0
  s1 : sOk C.o1
  s2 : sOk C.o2
  sb : sOk C.b
  d01 : C.o0 ≠ C.o1
  d02 : C.o0 ≠ C.o2
  d12 : C.o1 ≠ C.o2
  n1 : 1 ≤ C.n
  n2 : C.n ≤ 20
  cs : C.cs.length = C.n
/-- what the mathematics must give of the chains, of the rounds -/
def ChainThm (C : CP) : Prop := ∀ l t l' t', l < 3 → l' < 3 → t < 9 → t' < 9 → ∃ FX FY X' Y' R o r, Two (C.book l t) (C.book l' t') FX FY X' Y' R o ∧ PartO X' Y' R o r ∧
  ((l = l' ∧ o = none ∧ r = none) ∨ (l ≠ l' ∧ o.isNone = false ∧ C.last l ≠ C.last l' ∧ ∃ T M, r = some (T, M) ∧ T.length ≤ 20 ∧ M ≤ 1000 ∧ Out (C.book l t) T M (C.last l) ∧ Out (C.book l' t') T M (C.last l')))
def RoundThm (C : CP) : Prop := ∀ n m, 1 ≤ n → n ≤ 20 → 1 ≤ m → m ≤ 20 → ∃ t FX FY X' Y' R, Two (rndB C n) (rndB C m) FX FY X' Y' R none ∧ FirstT n m t ∧ R.map Row.pr = dueL n m t
def NamesThm : Prop := ∀ cell : Int, (∀ k, k < 4 → sOk (nm cell k)) ∧ ∀ j k, j < k → k < 4 → nm cell j ≠ nm cell k
def cpLaw (ns : List Int) : CP := cpOf ⟨nm (ns.getD 0 0) 0, nm (ns.getD 0 0) 1, 1 + (ns.getD 1 0 % 3).toNat⟩ (nm (ns.getD 0 0 / 7 + 3) 0) (nm (ns.getD 0 0 / 7 + 3) 1) (nm (ns.getD 0 0 / 7 + 3) 2) (nm (ns.getD 0 0 / 7 + 3) 3) ns
theorem cpLaw_ok (N : NamesThm) (ns : List Int) : (cpLaw ns).ok := by
  have a := N (ns.getD 0 0)
  have b := N (ns.getD 0 0 / 7 + 3)
  have h0 := Int.emod_nonneg (ns.getD 1 0) (show (3 : Int) ≠ 0 by decide)
  have h1 := Int.emod_lt_of_pos (ns.getD 1 0) (show (0 : Int) < 3 by decide)
  have h2 := Int.emod_nonneg (ns.getD 2 0) (show (20 : Int) ≠ 0 by decide)
  have h3 := Int.emod_lt_of_pos (ns.getD 2 0) (show (0 : Int) < 20 by decide)
  refine ⟨⟨a.2 0 1 (by decide) (by decide), ?_, ?_, a.1 0 (by decide), a.1 1 (by decide)⟩, b.1 0 (by decide), b.1 1 (by decide), b.1 2 (by decide), b.1 3 (by decide), b.2 0 1 (by decide) (by decide), b.2 0 2 (by decide) (by decide), b.2 1 2 (by decide) (by decide), ?_, ?_, folded_len _ _⟩
  · show 1 ≤ 1 + (ns.getD 1 0 % 3).toNat
    omega
  · show 1 + (ns.getD 1 0 % 3).toNat ≤ 3
    omega
  · show 1 ≤ 1 + (ns.getD 2 0 % 20).toNat
    omega
  · show 1 + (ns.getD 2 0 % 20).toNat ≤ 20
    omega
def spLaw (K : PySem.W.Frag) (Pt : Addr) : Sp := fun vs H Q _ => ∃ (ns : List Int) (a : Addr), vs = [.ref a] ∧ SqL K H a (ns.map V.int) ∧ ns.length ≤ 63 ∧ TabsN (tabE Pt) H ∧ ∀ H', Q (.bl true) H'
theorem ok_law (T : Top K mg) {Pt : Addr} {fl : Addr} {fdl : FuncData} (FL : Fun K "law" "law" sLaw fl fdl) (N : NamesThm) (CT : ∀ C : CP, C.ok → ChainThm C) (RT : ∀ C : CP, C.ok → RoundThm C) (g_law_cell : GOk P w K mg base 1 "_law_cell" ["script", "k"] (spD K (RLCell K))) (g_law_names : GOk P w K mg base 1 "_law_names" ["cell"] (spD K RLNames))
    (g_law_chain : GOk P w K mg base 2 "_law_chain" ["script", "outs", "ins", "last", "turn"] (spD K (RLChain K))) (g_law_rounds : GOk P w K mg base 12 "_law_rounds" ["outs", "ins", "many", "more"] (spRounds K Pt)) (g_alike : GOk P w K mg base 11 "alike" ["one", "two"] (spAlike K Pt))
    (g_parted : GOk P w K mg base 11 "parted" ["one", "two"] (spParted K Pt)) (g_law_shows : GOk P w K mg base 3 "_law_shows" ["one", "two", "found"] (spD K RLShows)) : FnOk P w K mg base CX0 13 fl fdl ["script"] (spLaw K Pt) := by
  refine FL.ok scLaw (fun vs H Q E h => ?_) (fun cdv A outer s H vs Q E hr h => ⟨_, (pss_cons (ps_set (i := 1) scLaw.nd rfl (Or.inl rfl) (pe_g g_law_names (hr.mono (by omega)) rfl (pa_cons (pe_op op_add (pe_op op_fdiv (pe_g g_law_cell (hr.mono (by omega)) rfl (pa_cons (pv 0) (pa_cons pe_int pa_nil))) pe_int) pe_int) pa_nil)))
      (pss_cons (ps_set (i := 2) scLaw.nd rfl (Or.inl rfl) (pe_tup (pa_cons (pe_tup (pa_cons (pe_ix ix_list (pv 1) pe_int (fun _ _ => rfl)) (pa_cons pe_int pa_nil))) (pa_cons (pe_tup (pa_cons (pe_ix ix_list (pv 1) pe_int (fun _ _ => rfl)) (pa_cons pe_int pa_nil))) (pa_cons (pe_tup (pa_cons (pe_ix ix_list (pv 1) pe_int (fun _ _ => rfl)) (pa_cons pe_int pa_nil))) (pa_cons (pe_tup (pa_cons (pe_ix ix_list (pv 1) pe_int (fun _ _ => rfl)) (pa_cons pe_int pa_nil))) pa_nil))))))
      (pss_cons (ps_set (i := 1) scLaw.nd rfl (Or.inl rfl) (pe_g g_law_names (hr.mono (by omega)) rfl (pa_cons (pe_g g_law_cell (hr.mono (by omega)) rfl (pa_cons (pv 0) (pa_cons pe_int pa_nil))) pa_nil)))
      (pss_cons (ps_set (i := 3) scLaw.nd rfl (Or.inl rfl) (pe_tup (pa_cons (pe_tup (pa_cons (pe_ix ix_list (pv 1) pe_int (fun _ _ => rfl)) (pa_cons pe_int pa_nil))) (pa_cons (pe_tup (pa_cons (pe_ix ix_list (pv 1) pe_int (fun _ _ => rfl)) (pa_cons (pe_op op_add pe_int (pe_op op_mod (pe_g g_law_cell (hr.mono (by omega)) rfl (pa_cons (pv 0) (pa_cons pe_int pa_nil))) pe_int)) pa_nil))) pa_nil))))
      (pss_cons (ps_set (i := 4) scLaw.nd rfl (Or.inl rfl) (pe_lst (pa_cons (pe_op op_mod (pe_g g_law_cell (hr.mono (by omega)) rfl (pa_cons (pv 0) (pa_cons pe_int pa_nil))) pe_int) (pa_cons (pe_op op_mod (pe_op op_fdiv (pe_g g_law_cell (hr.mono (by omega)) rfl (pa_cons (pv 0) (pa_cons pe_int pa_nil))) pe_int) pe_int) pa_nil))))
      (pss_cons (ps_if (pt_cmpR op_eq (pe_op op_mod (pe_op op_fdiv (pe_g g_law_cell (hr.mono (by omega)) rfl (pa_cons (pv 0) (pa_cons pe_int pa_nil))) pe_int) pe_int) pe_int (nomark _)) (pss_one (ps_ret (pe_g g_law_rounds (hr.mono (by omega)) rfl (pa_cons (pv 2) (pa_cons (pv 3) (pa_cons (pe_op op_add pe_int (pe_op op_mod (pe_g g_law_cell (hr.mono (by omega)) rfl (pa_cons (pv 0) (pa_cons pe_int pa_nil))) pe_int)) (pa_cons (pe_op op_add pe_int (pe_op op_mod (pe_g g_law_cell (hr.mono (by omega)) rfl (pa_cons (pv 0) (pa_cons pe_int pa_nil))) pe_int)) pa_nil))))))) pss_nil)
      (pss_cons (ps_set (i := 5) scLaw.nd rfl (Or.inl rfl) (pe_g g_law_chain (hr.mono (by omega)) rfl (pa_cons (pv 0) (pa_cons (pv 2) (pa_cons (pv 3) (pa_cons (pe_ix ix_list (pv 4) pe_int (fun _ _ => rfl)) (pa_cons (pe_op op_mod (pe_op op_fdiv (pe_g g_law_cell (hr.mono (by omega)) rfl (pa_cons (pv 0) (pa_cons pe_int pa_nil))) pe_int) pe_int) pa_nil)))))))
      (pss_cons (ps_set (i := 6) scLaw.nd rfl (Or.inl rfl) (pe_g g_law_chain (hr.mono (by omega)) rfl (pa_cons (pv 0) (pa_cons (pv 2) (pa_cons (pv 3) (pa_cons (pe_ix ix_list (pv 4) pe_int (fun _ _ => rfl)) (pa_cons pe_int pa_nil)))))))
      (pss_cons (ps_set (i := 7) scLaw.nd rfl (Or.inl rfl) (pe_g g_parted (hr.mono (by omega)) rfl (pa_cons (pv 5) (pa_cons (pv 6) pa_nil))))
      (pss_cons (ps_set (i := 8) scLaw.nd rfl (Or.inl rfl) (pe_g g_parted (hr.mono (by omega)) rfl (pa_cons (pv 6) (pa_cons (pv 5) pa_nil))))
      (pss_cons (ps_set (i := 9) scLaw.nd rfl (Or.inl rfl) (pe_g g_alike (hr.mono (by omega)) rfl (pa_cons (pv 5) (pa_cons (pv 6) pa_nil))))
      (pss_cons (ps_if (PW.pt (pw_or (pt_not (pt_val (pe_callB call_isi (by rfl) T.b_isinstance (by decide +kernel) (pa_cons (pv 9) (pa_cons (pe_bltn (v := .ty "bool") rfl T.b_bool (by decide +kernel) rfl) pa_nil))))) (pw_or1 (pt_cmpR op_ne (pv 9) (pe_cmpR op_eq (pe_ix ix_list (pv 4) pe_int (fun _ _ => rfl)) (pe_ix ix_list (pv 4) pe_int (fun _ _ => rfl)) (nomark _)) (nomark _))))) (pss_one (ps_ret pe_bl)) pss_nil)
      (pss_cons (ps_if (pt_cmpR op_eq (pe_ix ix_list (pv 4) pe_int (fun _ _ => rfl)) (pe_ix ix_list (pv 4) pe_int (fun _ _ => rfl)) (nomark _)) (pss_one (ps_ret (pe_and (pe_cmp (pc_isN (pv 7))) (pe_one (pe_cmp (pc_isN (pv 8))))))) pss_nil)
      (pss_one (ps_ret (pe_and (pe_g g_law_shows (hr.mono (by omega)) rfl (pa_cons (pv 5) (pa_cons (pv 6) (pa_cons (pv 7) pa_nil)))) (pe_one (pe_g g_law_shows (hr.mono (by omega)) rfl (pa_cons (pv 6) (pa_cons (pv 5) (pa_cons (pv 8) pa_nil))))))))))))))))))))), ?_⟩)
  · obtain ⟨ns, a, rfl, _⟩ := h; rfl
  obtain ⟨ns, a, rfl, hsq, hns, hT, q⟩ := h
  have okC := cpLaw_ok N ns
  obtain ⟨C, hC⟩ : ∃ C, cpLaw ns = C := ⟨_, rfl⟩
  rw [hC] at okC
  have hCI : C.I = ⟨nm (ns.getD 0 0) 0, nm (ns.getD 0 0) 1, 1 + (ns.getD 1 0 % 3).toNat⟩ := by rw [← hC]; rfl
  have hO : C.outs = .tuple [.tuple [.str (nm (ns.getD 0 0 / 7 + 3) 0), .int 0], .tuple [.str (nm (ns.getD 0 0 / 7 + 3) 1), .int 0], .tuple [.str (nm (ns.getD 0 0 / 7 + 3) 2), .int 0], .tuple [.str (nm (ns.getD 0 0 / 7 + 3) 3), .int 1]] := by rw [← hC]; rfl
  have sd0 : SlAll K H [.ref a] [.x (isSq K (inz ns))] := ⟨isSq_at ⟨_, hsq, inz_tpAll⟩, trivial⟩
  have sd := sd_st (N := nLaw) sd0
  have md : ∀ {δ : Sls} {ta : TE} {i : Int} (n : Int), 0 < n → Ee K ta δ (.d (.int i)) → Ee K (tOp (rI (fun _ j => 0 < j) fun i j => .int (i % j)) ta (tC (.int n))) δ (.d (.int (i % n))) := fun n hn h => e_iC (C := fun _ j => 0 < j) (f := fun i j => i % j) h e_ci hn
  have dv : ∀ {δ : Sls} {ta : TE} {i : Int} (n : Int), 0 < n ∧ n < 1073741824 → Ee K ta δ (.d (.int i)) → Ee K (tOp (rI CDiv fun i j => .int (i / j)) ta (tC (.int n))) δ (.d (.int (i / n))) := fun n hn h => e_iC (C := CDiv) (f := fun i j => i / j) h e_ci hn
  have lc : ∀ (δ : Sls) (k : Nat), δ[0]? = some (.x (isSq K (inz ns))) → Ee K (tCall (spD K (RLCell K)) [] E0 (tCons (tVar 0) (tCons (tC (.int ((k : Nat) : Int))) tNil))) δ (.d (.int (ns.getD k 0))) := fun δ k h => e_call (ss := [.x (isSq K (inz ns)), .d (.int (k : Nat))]) (a_cons (e_vx h) (a_cons e_ci a_nil)) ⟨ns, k, rfl, rfl⟩
  have nmx : ∀ (δ : Sls) (cell : Int) (k : Nat), δ[1]? = some (.l (nms cell)) → k < 4 → Ee K (tOp (rIxL K) (tVar 1) (tC (.int ((k : Nat) : Int)))) δ (.d (.str (nm cell k))) := fun δ cell k h hk => e_ixL (ds := nms cell) (e_vl h) e_ci (by omega) (by unfold nms; rw [Int.toNat_natCast, List.getElem?_map, List.getElem?_range hk]; rfl)
  have two : ∀ (δ : Sls) (te tf : TE) (x : Str) (i : Int), Ee K te δ (.d (.str x)) → Ee K tf δ (.d (.int i)) → Ee K (tTup (tCons te (tCons tf tNil))) δ (.d (.tuple [.str x, .int i])) := fun δ te tf x i h1 h2 => e_tup (ss := [.d (.str x), .d (.int i)]) (a_cons h1 (a_cons h2 a_nil)) rfl (Nat.le_of_ble_eq_true rfl)
  refine r_set (s := .l (nms (ns.getD 0 0 / 7 + 3))) (e_call (ss := [.d (.int (ns.getD 0 0 / 7 + 3))]) (a_cons (e_i0 (f := fun i j => i + j) (dv 7 (by decide) (lc _ 0 rfl)) e_ci) a_nil) ⟨_, rfl, rfl⟩) sd fun v1 H1 s1 sd1 => ?_
  refine r_set (s := .d C.outs) ((e_tup (ss := [.d (.tuple [.str (nm (ns.getD 0 0 / 7 + 3) 0), .int 0]), .d (.tuple [.str (nm (ns.getD 0 0 / 7 + 3) 1), .int 0]), .d (.tuple [.str (nm (ns.getD 0 0 / 7 + 3) 2), .int 0]), .d (.tuple [.str (nm (ns.getD 0 0 / 7 + 3) 3), .int 1])])
    (a_cons (two _ _ _ _ _ (nmx _ _ 0 rfl (by decide)) e_ci) (a_cons (two _ _ _ _ _ (nmx _ _ 1 rfl (by decide)) e_ci) (a_cons (two _ _ _ _ _ (nmx _ _ 2 rfl (by decide)) e_ci) (a_cons (two _ _ _ _ _ (nmx _ _ 3 rfl (by decide)) e_ci) a_nil)))) rfl (Nat.le_of_ble_eq_true rfl)).to (by rw [hO])) sd1 fun v2 H2 s2 sd2 => ?_
  refine r_set (s := .l (nms (ns.getD 0 0))) (e_call (ss := [.d (.int (ns.getD 0 0))]) (a_cons (lc _ 0 rfl) a_nil) ⟨_, rfl, rfl⟩) sd2 fun v3 H3 s3 sd3 => ?_
  have h30 := Int.emod_nonneg (ns.getD 1 0) (show (3 : Int) ≠ 0 by decide)
  refine r_set (s := .d C.I.e) ((e_tup (ss := [.d (.tuple [.str (nm (ns.getD 0 0) 0), .int 0]), .d (.tuple [.str (nm (ns.getD 0 0) 1), .int (1 + ns.getD 1 0 % 3)])])
    (a_cons (two _ _ _ _ _ (nmx _ _ 0 rfl (by decide)) e_ci) (a_cons (two _ _ _ _ _ (nmx _ _ 1 rfl (by decide)) (e_i0 (f := fun i j => i + j) e_ci (md 3 (by decide) (lc _ 1 rfl)))) a_nil)) rfl (Nat.le_of_ble_eq_true rfl)).to (by
      rw [hCI]
      show _ = Sl.d (.tuple [.tuple [.str _, .int 0], .tuple [.str _, .int ((1 + (ns.getD 1 0 % 3).toNat : Nat) : Int)]])
      rw [show ((1 + (ns.getD 1 0 % 3).toNat : Nat) : Int) = 1 + ns.getD 1 0 % 3 by omega])) sd3 fun v4 H4 s4 sd4 => ?_
  obtain ⟨l0, hl0, hl0'⟩ : ∃ l0 : Nat, ((l0 : Nat) : Int) = ns.getD 3 0 % 3 ∧ l0 < 3 := ⟨(ns.getD 3 0 % 3).toNat, by omega, by omega⟩
  obtain ⟨l1, hl1, hl1'⟩ : ∃ l1 : Nat, ((l1 : Nat) : Int) = ns.getD 3 0 / 3 % 3 ∧ l1 < 3 := ⟨(ns.getD 3 0 / 3 % 3).toNat, by omega, by omega⟩
  obtain ⟨tn, htn, htn'⟩ : ∃ tn : Nat, ((tn : Nat) : Int) = ns.getD 3 0 / 9 % 9 ∧ tn < 9 := ⟨(ns.getD 3 0 / 9 % 9).toNat, by omega, by omega⟩
  refine r_set (s := .l [.int (l0 : Nat), .int (l1 : Nat)]) (e_lst (ss := [.d (.int (l0 : Nat)), .d (.int (l1 : Nat))]) (a_cons ((md 3 (by decide) (lc _ 3 rfl)).to (by rw [hl0])) (a_cons ((md 3 (by decide) (dv 3 (by decide) (lc _ 3 rfl))).to (by rw [hl1])) a_nil)) rfl (Nat.le_of_ble_eq_true rfl)) sd4 fun v5 H5 s5 sd5 => ?_
  have s05 : Same H H5 := (((s1.trans s2).trans s3).trans s4).trans s5
  refine r_seqIf (t_T (e_eqI (md 3 (by decide) (dv 162 (by decide) (lc _ 3 rfl))) e_ci)) sd5 (fun _ H6 s6 => ?_) (fun _ H6 s6 => ?_)
  · -- two rounds
    obtain ⟨n, hn, hn'⟩ : ∃ n : Nat, ((n : Nat) : Int) = 1 + ns.getD 2 0 % 20 ∧ 1 ≤ n ∧ n ≤ 20 := ⟨(1 + ns.getD 2 0 % 20).toNat, by omega, by omega⟩
    obtain ⟨m, hm, hm'⟩ : ∃ m : Nat, ((m : Nat) : Int) = 1 + ns.getD 4 0 % 20 ∧ 1 ≤ m ∧ m ≤ 20 := ⟨(1 + ns.getD 4 0 % 20).toNat, by omega, by omega⟩
    obtain ⟨t, FX, FY, X', Y', R, tw, ft, hR⟩ := RT C okC n m hn'.1 hn'.2 hm'.1 hm'.2
    refine r_callT (ss := [.d C.outs, .d C.I.e, .d (.int (n : Nat)), .d (.int (m : Nat))]) (a_cons (e_vd rfl) (a_cons (e_vd rfl) (a_cons ((e_i0 (f := fun i j => i + j) e_ci (md 20 (by decide) (lc _ 2 rfl))).to (by rw [hn])) (a_cons ((e_i0 (f := fun i j => i + j) e_ci (md 20 (by decide) (lc _ 4 rfl))).to (by rw [hm])) a_nil)))) (sd5.sm s6) fun vs7 H7 s7 h7 => ?_
    exact ⟨C, n, m, t, FX, FY, X', Y', R, h7, hn'.1, hn'.2, hm'.1, hm'.2, okC.I, tw, ft, hR, hT.ext ((s05.trans s6).trans s7), q⟩
  · have chn : ∀ (δ : Sls) (i l turn : Nat) (tl tt : TE), δ[0]? = some (.x (isSq K (inz ns))) → δ[2]? = some (.d C.outs) → δ[3]? = some (.d C.I.e) → l < 3 → turn < 9 → Ee K tl δ (.d (.int (l : Nat))) → Ee K tt δ (.d (.int (turn : Nat))) → Ee K (tCall (spD K (RLChain K)) [] E0 (tCons (tVar 0) (tCons (tVar 2) (tCons (tVar 3) (tCons tl (tCons tt tNil)))))) δ (.d (C.book l turn).e) := fun δ i l turn tl tt h0 h2 h3 a b h4 h5 =>
      e_call (ss := [.x (isSq K (inz ns)), .d C.outs, .d C.I.e, .d (.int (l : Nat)), .d (.int (turn : Nat))]) (a_cons (e_vx h0) (a_cons (e_vd h2) (a_cons (e_vd h3) (a_cons h4 (a_cons h5 a_nil))))) ⟨_, _, _, _, _, ns, l, turn, (hC ▸ okC.I : (cpLaw ns).I.ok), a, b, hns, by rw [← hC]; rfl, by rw [← hC]; rfl⟩
    have lst : ∀ (δ : Sls) (i : Nat) (l : Nat), δ[4]? = some (.l [.int (l0 : Nat), .int (l1 : Nat)]) → [PyData.int (l0 : Nat), .int (l1 : Nat)][i]? = some (.int (l : Nat)) → Ee K (tOp (rIxL K) (tVar 4) (tC (.int (i : Nat)))) δ (.d (.int (l : Nat))) := fun δ i l h h2 => e_ixL (ds := [.int (l0 : Nat), .int (l1 : Nat)]) (e_vl h) e_ci (by omega) (by rw [Int.toNat_natCast]; exact h2)
    refine r_set (s := .d (C.book l0 tn).e) (chn _ 0 l0 tn _ _ rfl rfl rfl hl0' htn' (lst _ 0 l0 rfl rfl) ((md 9 (by decide) (dv 9 (by decide) (lc _ 3 rfl))).to (by rw [htn]))) (sd5.sm s6) fun v7 H7 s7 sd7 => ?_
    refine r_set (s := .d (C.book l1 0).e) (chn _ 0 l1 0 _ _ rfl rfl rfl hl1' (by decide) (lst _ 1 l1 rfl rfl) e_ci) sd7 fun v8 H8 s8 sd8 => ?_
    have sdw : SD K H8 _ [.no, .no, .no, .no, .l [.int (l0 : Nat), .int (l1 : Nat)], .d (C.book l0 tn).e, .d (C.book l1 0).e, .no, .no, .no] := SD.wk sd8 (by walk_at "wk")
    have hT8 : TabsN (tabE Pt) H8 := hT.ext (((s05.trans s6).trans s7).trans s8)
    obtain ⟨FX, FY, X', Y', R, o, r, tw, po, alt⟩ := CT C okC l0 tn l1 0 hl0' hl1' htn' (by decide)
    obtain ⟨GX, GY, U', V', R2, o2, r2, tw2, po2, alt2⟩ := CT C okC l1 0 l0 tn hl1' hl0' (by decide) htn'
    refine c_parted (i := 5) (j := 6) sdw rfl rfl tw okC.I po hT8 rfl fun v9 H9 e9 n9 t9 sd9 hv9 => ?_
    have sd9' := SD.set hv9 7 sd9
    refine c_parted (i := 6) (j := 5) sd9' rfl rfl tw2 okC.I po2 t9 rfl fun v10 H10 e10 n10 t10 sd10 hv10 => ?_
    have sd10' := SD.set hv10 8 sd10
    refine c_alike (i := 5) (j := 6) sd10' rfl rfl tw t10 rfl fun v11 H11 e11 n11 t11 sd11 hv11 => ?_
    have sd11' := SD.set hv11 9 sd11
    refine gName_i ?_
    dsimp only
    refine r_es (s := .d (.bool true)) ?_ sd11' fun v12 H12 s12 hv12 => ?_
    rotate_left
    · obtain ⟨w12, eq12, tv12⟩ := hv12
      cases eq12
      rw [tv12.b]
      exact q H12
    have hoe : o.isNone = decide (((l0 : Nat) : Int) = (l1 : Nat)) := by
      rcases alt with ⟨h, h2, _⟩ | ⟨h, h2, _⟩
      · rw [h2, decide_eq_true (by omega)]; rfl
      · rw [h2, decide_eq_false (by omega)]
    have leq : ∀ δ : Sls, δ[4]? = some (.l [.int (l0 : Nat), .int (l1 : Nat)]) → Ee K (tOp rEq (tOp (rIxL K) (tVar 4) (tC (.int ((0 : Nat) : Int)))) (tOp (rIxL K) (tVar 4) (tC (.int ((1 : Nat) : Int))))) δ (.d (.bool (decide (((l0 : Nat) : Int) = (l1 : Nat))))) := fun δ h => e_eqI (lst δ 0 l0 h rfl) (lst δ 1 l1 h rfl)
    refine s_seq (s_ifF (t_or (a := !true) (t_not (t_B (e_isi (d := .bool o.isNone) (e_vd rfl) (kit_same "bool")))) fun _ => t_T (e_neB (x := o.isNone) (e_vd rfl) (leq _ rfl))) (by rw [hoe]; simp) (s_next ?_))
    rcases alt with ⟨h, ho, hr0⟩ | ⟨h, ho, hxy, T1, M1, hr1, a1, a2, a3, a4⟩
    · rcases alt2 with ⟨h', ho2, hr2⟩ | ⟨h', _⟩
      · subst hr0 hr2
        refine s_seq (s_ifT (t_T (leq _ rfl)) (decide_eq_true (by omega)) ?_)
        exact s_ret (s := .d (.bool (true && true))) (e_andV (a := true) (e_isN (d := .none) (e_vd rfl)) fun _ => e_isN (d := .none) (e_vd rfl)) rfl
      · exact absurd h.symm h'
    · rcases alt2 with ⟨h', _⟩ | ⟨h', ho2, hxy2, T2, M2, hr2, b1, b2, b3, b4⟩
      · exact absurd h'.symm h
      · subst hr1 hr2
        refine s_seq (s_ifF (t_T (leq _ rfl)) (decide_eq_false (by omega)) (s_next ?_))
        refine s_ret (s := .d (.bool (true && true))) (e_andV (a := true) (e_call (ss := [.d (C.book l0 tn).e, .d (C.book l1 0).e, .d (.tuple [trE C.I T1, zeros M1])]) (a_cons (e_vd rfl) (a_cons (e_vd rfl) (a_cons (e_vd rfl) a_nil))) ⟨C.book l0 tn, C.book l1 0, T1, M1, _, _, rfl, okC.I, a1, a2, a3, a4, hxy, rfl, rfl⟩)
          fun _ => e_call (ss := [.d (C.book l1 0).e, .d (C.book l0 tn).e, .d (.tuple [trE C.I T2, zeros M2])]) (a_cons (e_vd rfl) (a_cons (e_vd rfl) (a_cons (e_vd rfl) a_nil))) ⟨C.book l1 0, C.book l0 tn, T2, M2, _, _, rfl, okC.I, b1, b2, b3, b4, hxy2, rfl, rfl⟩) rfl
end
end K80

/-! The names of the law. -/
namespace K80
open PySem PySem.Spec L2
open PyProof.Rows hiding St
def lowA (x : Str) : Prop := ∀ c ∈ x.cps.toList, 97 ≤ c ∧ c < 123
theorem low_ok {x : Str} (h : lowA x) (n : 0 < x.cps.size) : sOk x := by
  have ne : ∀ y : Str, (∃ c ∈ y.cps.toList, c < 97) → x ≠ y := fun y ⟨c, hc, hl⟩ e => by
    rw [← e] at hc
    have := (h c hc).1
    omega
  refine ⟨?_, ?_⟩
  · unfold notSign
    rw [decide_eq_false (ne _ ⟨63, by decide +kernel, by decide⟩), decide_eq_false (ne _ ⟨42, by decide +kernel, by decide⟩)]; rfl
  · unfold PyData.strOk
    rw [Array.all_eq_true]
    intro i hi
    have hm : x.cps[i] ∈ x.cps.toList := by
      rw [← Array.getElem_toList]
      exact List.getElem_mem _
    have := (h _ hm).2
    exact decide_eq_true (by omega)
theorem app_cps (x y : Str) : (x ++ y).cps.toList = x.cps.toList ++ y.cps.toList := by rw [str_app_cps, Array.toList_append]
theorem lowA_app {x y : Str} (hx : lowA x) (hy : lowA y) : lowA (x ++ y) := fun c hc => by
  rw [app_cps] at hc
  rcases List.mem_append.mp hc with h | h
  · exact hx c h
  · exact hy c h
theorem lowA_ltr {i : Int} (h0 : 0 ≤ i) (h1 : i < 26) : lowA (ltr i) := fun c hc => by
  have e : c = 97 + i.toNat := by simpa [ltr] using hc
  omega
theorem lowA_cut {z : Str} {lo hi : Option Int} (h : lowA z) : lowA (cutS z lo hi) := fun c hc => by
  refine h c ?_
  have : c ∈ ((z.cps.toList.drop (HT.sIx z.length 0 lo)).take (HT.sIx z.length z.length hi - HT.sIx z.length 0 lo)) := by simpa [cutS] using hc
  exact List.mem_of_mem_drop (List.mem_of_mem_take this)
theorem lowA_word (a : Int) : ∀ k, lowA (wordN a k)
  | 0 => fun c hc => by
    have : c ∈ ([] : List Nat) := hc
    cases this
  | k + 1 => lowA_app (lowA_word a k) (lowA_ltr (Int.emod_nonneg _ (by decide)) (Int.emod_lt_of_pos _ (by decide)))
theorem lowA_turn (cell : Int) (k : Nat) : lowA (turnN cell k) := lowA_ltr (Int.emod_nonneg _ (by decide)) (Int.emod_lt_of_pos _ (by decide))
theorem turn_size (cell : Int) (k : Nat) : (turnN cell k).cps.size = 1 := rfl
theorem cut_size (z : Str) (k : Nat) (h : k ≤ z.cps.size) : (cutS z none (some ((k : Nat) : Int))).cps.size = k := by
  unfold cutS
  rw [HT.sIx_none, HT.sIx_nat, str_len, Nat.min_eq_left h]
  simp
  omega
theorem app_size (x y : Str) : (x ++ y).cps.size = x.cps.size + y.cps.size := by rw [str_app_cps, Array.size_append]
theorem turn_ne (cell : Int) {j k : Nat} (h : j < k) (hk : k < 4) : (97 + ((cell / 16 + 5 * (1 + cell / 4 % 4) * (j : Nat)) % 26).toNat) ≠ 97 + ((cell / 16 + 5 * (1 + cell / 4 % 4) * (k : Nat)) % 26).toNat := by
  have h44 := Int.emod_nonneg (cell / 4) (show (4 : Int) ≠ 0 by decide)
  have h45 := Int.emod_lt_of_pos (cell / 4) (show (0 : Int) < 4 by decide)
  have hs : cell / 4 % 4 = 0 ∨ cell / 4 % 4 = 1 ∨ cell / 4 % 4 = 2 ∨ cell / 4 % 4 = 3 := by omega
  have hj : (j = 0 ∧ k = 1) ∨ (j = 0 ∧ k = 2) ∨ (j = 0 ∧ k = 3) ∨ (j = 1 ∧ k = 2) ∨ (j = 1 ∧ k = 3) ∨ (j = 2 ∧ k = 3) := by omega
  rcases hs with e | e | e | e <;> rw [e] <;> rcases hj with ⟨rfl, rfl⟩ | ⟨rfl, rfl⟩ | ⟨rfl, rfl⟩ | ⟨rfl, rfl⟩ | ⟨rfl, rfl⟩ | ⟨rfl, rfl⟩ <;> omega
theorem names_thm : NamesThm := fun cell => by
  have w8 : (wordN (cell / 16) 8).cps.size = 8 := wordN_len _ _
  have lw := lowA_word (cell / 16) 8
  refine ⟨fun k hk => ?_, fun j k hjk hk => ?_⟩
  · unfold nm
    split
    · exact low_ok (lowA_turn cell k) (by rw [turn_size]; decide)
    split
    · exact low_ok (lowA_app (lowA_turn cell k) (lowA_cut lw)) (by rw [app_size, turn_size]; omega)
    split
    · exact low_ok (lowA_app (lowA_cut lw) (lowA_turn cell k)) (by rw [app_size, turn_size]; omega)
    · refine low_ok (lowA_cut lw) ?_
      have := cut_size (wordN (cell / 16) 8) (2 * k + 2) (by omega)
      rw [show ((2 * k + 2 : Nat) : Int) = 2 * (k : Nat) + 2 by omega] at this
      omega
  · unfold nm
    have tn := turn_ne cell hjk hk
    have inj : ∀ a b : Nat, (⟨#[a]⟩ : Str).cps.toList = (⟨#[b]⟩ : Str).cps.toList → a = b := fun a b h => by simpa using h
    split
    · intro e
      exact tn (inj _ _ (congrArg (fun x : Str => x.cps.toList) e))
    split
    · intro e
      have e2 := congrArg (fun x : Str => x.cps.toList) e
      simp only [app_cps] at e2
      exact tn (inj _ _ (List.append_cancel_right e2))
    split
    · intro e
      have e2 := congrArg (fun x : Str => x.cps.toList) e
      simp only [app_cps] at e2
      exact tn (inj _ _ (List.append_cancel_left e2))
    · intro e
      have e2 := congrArg (fun x : Str => x.cps.size) e
      have a := cut_size (wordN (cell / 16) 8) (2 * j + 2) (by omega)
      have b := cut_size (wordN (cell / 16) 8) (2 * k + 2) (by omega)
      rw [show ((2 * j + 2 : Nat) : Int) = 2 * (j : Nat) + 2 by omega] at a
      rw [show ((2 * k + 2 : Nat) : Int) = 2 * (k : Nat) + 2 by omega] at b
      have e2 : (cutS (wordN (cell / 16) 8) none (some (2 * (j : Nat) + 2))).cps.size = (cutS (wordN (cell / 16) 8) none (some (2 * (k : Nat) + 2))).cps.size := e2
      omega
end K80

/-! The rounds, in plain Lean. -/
namespace K80
open PySem PySem.Spec L2
open PyProof.Rows hiding St
theorem notedR_old {rows : List Row} {m x y k : Nat} {came : Option Nat} (h : (rows.any fun r => decide (r.x = x) && decide (r.y = y)) = true) : notedR rows (some (m, x, y, k)) came = rows := if_pos h
theorem notedR_new {rows : List Row} {m x y k : Nat} {came : Option Nat} (h : (rows.any fun r => decide (r.x = x) && decide (r.y = y)) = false) : notedR rows (some (m, x, y, k)) came = rows ++ [⟨x, y, came, k, m⟩] := if_neg (by rw [h]; exact Bool.false_ne_true)
theorem firstT_lcm {n m : Nat} (n1 : 1 ≤ n) (n2 : n ≤ 20) (m1 : 1 ≤ m) (m2 : m ≤ 20) : FirstT n m (Nat.lcm n m) := by
  have hp : 0 < Nat.lcm n m := Nat.lcm_pos (by omega) (by omega)
  refine ⟨hp, ?_, Nat.mod_eq_zero_of_dvd (Nat.dvd_lcm_left n m), Nat.mod_eq_zero_of_dvd (Nat.dvd_lcm_right n m), fun i h0 hi ⟨ha, hb⟩ => ?_⟩
  · have h1 : Nat.lcm n m ∣ n * m := Nat.lcm_dvd (Nat.dvd_mul_right n m) (Nat.dvd_mul_left m n)
    have h2 := Nat.le_of_dvd (Nat.mul_pos (by omega) (by omega)) h1
    have h3 : n * m ≤ 20 * 20 := Nat.mul_le_mul n2 m2
    omega
  · have h1 : Nat.lcm n m ∣ i := Nat.lcm_dvd (Nat.dvd_of_mod_eq_zero ha) (Nat.dvd_of_mod_eq_zero hb)
    have := Nat.le_of_dvd h0 h1
    omega
theorem outs_sh {C : CP} (ok : C.ok) : SeqAt.shaped C.outs = true := by
  simp [CP.outs, SeqAt.shaped, PyData.canLay0, PyData.canLayAll0, PyData.depth, PyData.depthAll, ok.s0.2, ok.s1.2, ok.s2.2, ok.sb.2]
theorem ins_sh {I : Ins} (ok : I.ok) : SeqAt.shaped I.e = true := by
  simp [Ins.e, Ins.ld, Ins.kd, SeqAt.shaped, PyData.canLay0, PyData.canLayAll0, PyData.depth, PyData.depthAll, ok.sl.2, ok.sk.2]
section
variable {C : CP} {n m : Nat}
theorem rnd_at {s : Nat} (h : s < n) : (rndB C n).rs[s]? = some (.g C.b (.call (.int (((s + 1) % n : Nat) : Int)) 0)) := by
  unfold rndB
  rw [List.getElem?_map, List.getElem?_range h]; rfl
theorem rnd_len : (rndB C n).rs.length = n := by unfold rndB; rw [List.length_map, List.length_range]
theorem rnd_ok (ok : C.ok) (n1 : 1 ≤ n) (n2 : n ≤ 20) : (rndB C n).okH := by
  refine ⟨⟨ok.I, ok.s0, by rw [rnd_len]; exact n2, fun p hp => ?_⟩, trivial, by show 0 < 3; decide⟩
  rw [rnd_len]
  obtain ⟨k, hk, rfl⟩ := List.mem_map.mp hp
  refine ⟨⟨ok.sb.1, trivial⟩, ⟨(k + 1) % n, 0, rfl, rfl, Nat.mod_lt _ (by omega), ok.I.m1⟩, by show 1 < 3; decide⟩
def rndF (n : Nat) : List FT := List.replicate n (some ([], [0]))
theorem rndF_at {s : Nat} (h : s < n) : (rndF n)[s]? = some (some ([], [0])) := by unfold rndF; rw [List.getElem?_replicate, if_pos h]
theorem rnd_fr : IsFr (rndB C n) (rndF n) := by
  refine ⟨by rw [rnd_len]; exact List.length_replicate, fun s t h => ?_, fun s p hp h => ?_⟩
  · unfold rndF at h
    rw [List.getElem?_replicate] at h
    split at h
    · rename_i hs
      cases h
      exact ⟨1, by rw [LB.frs_at _ (rnd_at hs)]; rfl⟩
    · cases h
  · unfold rndF at h
    rw [List.getElem?_replicate] at h
    split at h <;> cases h
def rndNx (C : CP) (n s : Nat) : Pat := .g C.b (.call (keyN ((s + 1) % n)) 0)
theorem rnd_run (n1 : 1 ≤ n) : ∀ j i, i + j = n → j ≠ 0 → NumRun (rndNx C n) j (List.range (i + 1)) i (List.range n)
  | 0, _, _, h => absurd rfl h
  | j + 1, i, h, _ => by
    have hat : (rndNx C n i).at = some (1, keyN ((i + 1) % n), 0) := rfl
    have hi : (List.range (i + 1))[i]? = some i := List.getElem?_range (by omega)
    by_cases hj : j = 0
    · subst hj
      refine .step hi (ks' := List.range (i + 1)) (.inr ⟨1, _, 0, hat, .inl ⟨List.mem_range.mpr ?_, rfl⟩⟩) ?_
      · rw [show i + 1 = n by omega, Nat.mod_self]; omega
      · have e : List.range (i + 1) = List.range n := by rw [show i + 1 = n by omega]
        rw [e]
        have := NumRun.stop (nx := rndNx C n) (ks := List.range n)
        rw [List.length_range] at this
        rw [show i + 1 = n by omega]
        exact this
    · have hm : (i + 1) % n = i + 1 := Nat.mod_eq_of_lt (by omega)
      refine .step hi (ks' := List.range (i + 2)) (.inr ⟨1, i + 1, 0, by rw [hat, hm], .inr ⟨by rw [List.mem_range]; omega, List.range_succ⟩⟩) ?_
      exact rnd_run n1 j (i + 1) (by omega) hj
theorem rnd_ear (ok : C.ok) (n1 : 1 ≤ n) (n2 : n ≤ 20) : Ear (rndB C n) (rndF n) (rndB C n) := by
  refine ⟨(rnd_ok ok n1 n2).ok, rnd_fr, ⟨trivial, by show 0 < 4; decide⟩, .call (keyN 0) 0, rndNx C n, List.range n, .call (.int ((0 : Nat) : Int)) 0, (rndB C n).rs, .inr ⟨0, 0, 0, some ([], [0]), rfl, rndF_at n1, rfl⟩, ?_, rfl⟩
  refine ⟨⟨n, [0], .inr ⟨0, 0, 0, rfl, .inr ⟨by simp, rfl⟩⟩, rnd_run n1 n 0 (by omega) (by omega)⟩, by rw [List.length_range]; exact n2, ⟨trivial, by show 0 < 4; decide⟩, fun s hs => ?_, fun s hs => ⟨⟨ok.sb.1, trivial⟩, by show 1 < 4; decide⟩, .inr ⟨0, 0, 0, 0, rfl, List.getElem?_range (by omega), rfl⟩, by rw [rnd_len, List.length_range], fun i s his => ?_⟩
  · have hs := List.mem_range.mp hs
    exact ⟨_, _, rndF_at hs, rnd_at hs, .inr ⟨1, (s + 1) % n, 0, _, rfl, rndF_at (Nat.mod_lt _ (by omega)), rfl⟩⟩
  · have hi : i < n := by
      have := (List.getElem?_eq_some_iff.mp his).1
      rwa [List.length_range] at this
    rw [List.getElem?_range hi] at his
    cases his
    exact ⟨_, rnd_at hi, .inr ⟨1, (i + 1) % n, 0, (i + 1) % n, rfl, List.getElem?_range (Nat.mod_lt _ (by omega)), rfl⟩⟩
def rowR (n m i : Nat) : Row := ⟨i % n, i % m, if i = 0 then none else some (i - 1), 0, if i = 0 then 0 else 1⟩
def rowsR (n m t : Nat) : List Row := (List.range t).map (rowR n m)
theorem rowsR_len (n m t : Nat) : (rowsR n m t).length = t := by unfold rowsR; rw [List.length_map, List.length_range]
theorem rowsR_snoc (n m t : Nat) : rowsR n m (t + 1) = rowsR n m t ++ [rowR n m t] := by unfold rowsR; rw [List.range_succ, List.map_append]; rfl
theorem mod_diff {a b n : Nat} (h : a ≤ b) (e : a % n = b % n) : (b - a) % n = 0 := Nat.sub_mod_eq_zero_of_mod_eq e.symm
theorem rnd_mp {t : Nat} (n1 : 1 ≤ n) (m1 : 1 ≤ m) (ft : FirstT n m t) : ∀ j i, i + j = t → MPRun (rndB C n) (rndB C m) j (rowsR n m (if j = 0 then t else i + 1)) i (rowsR n m t) none
  | 0, i, h => by
    have e : i = t := by omega
    subst e
    have := MPRun.stop (X := rndB C n) (Y := rndB C m) (rows := rowsR n m i)
    rw [rowsR_len] at this
    exact this
  | j + 1, i, h => by
    obtain ⟨t0, t1, t2, t3, t4⟩ := ft
    have hi : (rowsR n m (i + 1))[i]? = some (rowR n m i) := by unfold rowsR; rw [List.getElem?_map, List.getElem?_range (by omega)]; rfl
    have hx := rnd_at (C := C) (Nat.mod_lt i (show 0 < n by omega))
    have hy := rnd_at (C := C) (Nat.mod_lt i (show 0 < m by omega))
    rw [Nat.mod_add_mod] at hx hy
    rw [if_neg (Nat.succ_ne_zero j)]
    have es : sbs (.g C.b (.call (.int (((i + 1) % n : Nat) : Int)) 0)) (.g C.b (.call (.int (((i + 1) % m : Nat) : Int)) 0)) 0 = (none, some (1, .int (((i + 1) % n : Nat) : Int), .int (((i + 1) % m : Nat) : Int), 0)) := by
      simp [sbs]
    have sb : SbR (.g C.b (.call (.int (((i + 1) % n : Nat) : Int)) 0)) (.g C.b (.call (.int (((i + 1) % m : Nat) : Int)) 0)) (some (1, (i + 1) % n, (i + 1) % m, 0)) := ⟨by rw [es], .inr ⟨1, (i + 1) % n, (i + 1) % m, 0, rfl, by rw [es]; rfl⟩⟩
    refine .step (r := rowR n m i) hi hx hy sb ?_
    by_cases hj : j = 0
    · subst hj
      have e : notedR (rowsR n m (i + 1)) (some (1, (i + 1) % n, (i + 1) % m, 0)) (some i) = rowsR n m t := by
        have hit : i + 1 = t := by omega
        rw [notedR_old ?_, hit]
        rw [List.any_eq_true]
        refine ⟨rowR n m 0, List.mem_map.mpr ⟨0, List.mem_range.mpr (by omega), rfl⟩, ?_⟩
        rw [hit, t2, t3]
        simp [rowR]
      rw [e]
      exact rnd_mp n1 m1 ⟨t0, t1, t2, t3, t4⟩ 0 (i + 1) (by omega)
    · have e : notedR (rowsR n m (i + 1)) (some (1, (i + 1) % n, (i + 1) % m, 0)) (some i) = rowsR n m (i + 2) := by
        rw [notedR_new ?_, rowsR_snoc n m (i + 1)]
        · rfl
        · rw [List.any_eq_false]
          intro r hr
          obtain ⟨k, hk, rfl⟩ := List.mem_map.mp hr
          have hk := List.mem_range.mp hk
          intro hc
          rw [Bool.and_eq_true, decide_eq_true_eq, decide_eq_true_eq] at hc
          exact t4 (i + 1 - k) (by omega) (by omega) ⟨mod_diff (by omega) hc.1, mod_diff (by omega) hc.2⟩
      rw [e]
      have := rnd_mp (t := t) n1 m1 ⟨t0, t1, t2, t3, t4⟩ j (i + 1) (by omega)
      rw [if_neg hj] at this
      exact this
end
theorem round_thm (C : CP) (ok : C.ok) : RoundThm C := fun n m n1 n2 m1 m2 => by
  have ft := firstT_lcm n1 n2 m1 m2
  refine ⟨Nat.lcm n m, rndF n, rndF m, rndB C n, rndB C m, rowsR n m (Nat.lcm n m), ⟨⟨rfl, rfl, ins_sh ok.I, outs_sh ok⟩, rnd_ear ok n1 n2, rnd_ear ok m1 m2, rnd_ok ok n1 n2, rnd_ok ok m1 m2, rfl, ?_, ?_⟩, ft, ?_⟩
  · rw [rowsR_len]
    have := ft.2.1
    omega
  · refine .inr ⟨some (0, 0, 0, 0), Nat.lcm n m, ⟨rfl, .inr ⟨0, 0, 0, 0, rfl, rfl⟩⟩, ?_⟩
    have := rnd_mp (C := C) n1 m1 ft (Nat.lcm n m) 0 (by omega)
    rw [if_neg (by have := ft.1; omega)] at this
    have e : notedR [] (some (0, 0, 0, 0)) none = rowsR n m (0 + 1) := by
      simp [notedR, rowsR, rowR]
    rw [e]
    exact this
  · unfold rowsR dueL
    rw [List.map_map]
    rfl
end K80

/-! The chains, in plain Lean: fronts, and what becomes of a chain. -/
namespace K80
open PySem PySem.Spec L2
open PyProof.Rows hiding St
section
variable {n t s : Nat}
theorem idx_lt (h : 0 < n) : idxN n t s < n := by
  unfold idxN
  have h0 := Int.emod_nonneg ((s : Nat) - (t : Nat) : Int) (show ((n : Nat) : Int) ≠ 0 by omega)
  have h1 := Int.emod_lt_of_pos ((s : Nat) - (t : Nat) : Int) (show (0 : Int) < (n : Nat) by omega)
  omega
theorem idx_st (h : s < n) : (idxN n t s + t) % n = s := by
  have h0 := Int.emod_nonneg ((s : Nat) - (t : Nat) : Int) (show ((n : Nat) : Int) ≠ 0 by omega)
  have e : (((idxN n t s + t) % n : Nat) : Int) = (s : Nat) := by
    unfold idxN
    rw [Int.natCast_emod, Int.natCast_add, Int.toNat_of_nonneg h0, Int.emod_add_emod, Int.sub_add_cancel]
    exact Int.emod_eq_of_lt (by omega) (by omega)
  omega
theorem st_idx {k : Nat} (h : k < n) : idxN n t ((k + t) % n) = k := by
  have h0 := Int.emod_nonneg (((k + t) % n : Nat) - (t : Nat) : Int) (show ((n : Nat) : Int) ≠ 0 by omega)
  have e : ((idxN n t ((k + t) % n) : Nat) : Int) = (k : Nat) := by
    unfold idxN
    rw [Int.toNat_of_nonneg h0, Int.natCast_emod, Int.natCast_add, Int.sub_eq_add_neg, Int.emod_add_emod]
    rw [show ((k : Nat) : Int) + (t : Nat) + -(t : Nat) = (k : Nat) by omega]
    exact Int.emod_eq_of_lt (by omega) (by omega)
  omega
theorem idx_inj {u : Nat} (hs : s < n) (hu : u < n) (e : idxN n t s = idxN n t u) : s = u := by rw [← idx_st (t := t) hs, e, idx_st hu]
theorem idx0 (h : s < n) : idxN n 0 s = s := by
  have := st_idx (n := n) (t := 0) h
  rwa [Nat.add_zero, Nat.mod_eq_of_lt h] at this
end
section
variable (C : CP) (x : Str)
/-- the front of the state n-1-d -/
def frS : Nat → FT
  | 0 => if x = C.o0 then none else some ([], [0])
  | d + 1 => if C.gs (C.n - 1 - (d + 1)) = true then some ([], [0]) else (frS d).map fun t => (C.kd (C.n - 1 - (d + 1)) :: t.1, C.kd (C.n - 1 - (d + 1)) :: t.2)
def fr (s : Nat) : FT := frS C x (C.n - 1 - s)
end
section
variable {C : CP} {x : Str} {l t : Nat}
theorem fr_last (h : 1 ≤ C.n) : fr C x (C.n - 1) = if x = C.o0 then none else some ([], [0]) := by unfold fr; rw [Nat.sub_self]; rfl
theorem fr_step {s : Nat} (h : s + 1 < C.n) : fr C x s = if C.gs s = true then some ([], [0]) else (fr C x (s + 1)).map fun t => (C.kd s :: t.1, C.kd s :: t.2) := by
  unfold fr
  have e : C.n - 1 - s = (C.n - 1 - (s + 1)) + 1 := by omega
  rw [e]
  have e2 : C.n - 1 - ((C.n - 1 - (s + 1)) + 1) = s := by omega
  show (if C.gs (C.n - 1 - ((C.n - 1 - (s + 1)) + 1)) = true then _ else _) = _
  rw [e2]
def frL (C : CP) (x : Str) (t : Nat) : List FT := (List.range C.n).map fun k => fr C x ((k + t) % C.n)
theorem frL_len : (frL C x t).length = C.n := by unfold frL; rw [List.length_map, List.length_range]
theorem frL_at {s : Nat} (h : s < C.n) : (frL C x t)[idxN C.n t s]? = some (fr C x s) := by
  unfold frL
  rw [List.getElem?_map, List.getElem?_range (idx_lt (by omega))]
  show some (fr C x ((idxN C.n t s + t) % C.n)) = _
  rw [idx_st h]
theorem book_at {s : Nat} (h : s < C.n) : (C.book l t).rs[idxN C.n t s]? = some (C.pat (C.last l) t s) := by
  unfold CP.book
  rw [List.getElem?_map, List.getElem?_range (idx_lt (by omega))]
  show some (C.pat (C.last l) t ((idxN C.n t s + t) % C.n)) = _
  rw [idx_st h]
theorem book_len : (C.book l t).rs.length = C.n := by unfold CP.book; rw [List.length_map, List.length_range]
/-- rows of the book by states -/
theorem book_st {k : Nat} {p : Pat} (h : (C.book l t).rs[k]? = some p) : ∃ s, s < C.n ∧ k = idxN C.n t s ∧ p = C.pat (C.last l) t s := by
  have hk : k < C.n := by rw [← book_len (l := l) (t := t)]; exact (List.getElem?_eq_some_iff.mp h).1
  refine ⟨(k + t) % C.n, Nat.mod_lt _ (by omega), (st_idx hk).symm, ?_⟩
  have := book_at (l := l) (t := t) (Nat.mod_lt (k + t) (show 0 < C.n by omega))
  rw [st_idx hk, h] at this
  exact Option.some.inj this
theorem wrap_nar {F : List FT} {a : Str} {g : Bool} {b : Str} {p : Pat} : narA a F (wrapG g b p) = if g = true then some ([], [0]) else narA a F p := by
  cases g <;> rfl
theorem nar_call {F : List FT} {a : Str} {i k : Nat} : narA a F (.call (.int ((i : Nat) : Int)) ((k : Nat) : Int)) = match F[i]? with
    | some (some t) => some (k :: t.1, k :: t.2)
    | _ => none := by
  show (match F[((i : Nat) : Int).toNat]? with | some (some t) => some (((k : Nat) : Int).toNat :: t.1, ((k : Nat) : Int).toNat :: t.2) | _ => none) = _
  rw [Int.toNat_natCast, Int.toNat_natCast]
theorem nar_pat {s : Nat} {F : List FT} (h : s < C.n) (hF : s + 1 < C.n → F[idxN C.n t (s + 1)]? = some (fr C x (s + 1))) : narA C.o0 F (C.pat x t s) = fr C x s := by
  unfold CP.pat
  by_cases e : s + 1 = C.n
  · rw [if_pos e]
    have e2 : s = C.n - 1 := by omega
    rw [e2, fr_last (by omega)]; rfl
  · rw [if_neg e, fr_step (by omega), wrap_nar, nar_call, hF (by omega)]
    cases C.gs s with
    | true => rfl
    | false =>
      cases fr C x (s + 1) <;> rfl
theorem book_sound : ∀ d s u, s + d + 1 = C.n → fr C (C.last l) s = some u → ((C.book l t).frs (d + 1))[idxN C.n t s]? = some (some u)
  | 0, s, u, hs, h => by
    rw [LB.frs_at _ (book_at (l := l) (t := t) (show s < C.n by omega))]
    have := nar_pat (C := C) (x := C.last l) (t := t) (s := s) (F := (C.book l t).frs 0) (by omega) (fun z => by omega)
    rw [h] at this
    exact congrArg some this
  | d + 1, s, u, hs, h => by
    rw [LB.frs_at _ (book_at (l := l) (t := t) (show s < C.n by omega))]
    congr 1
    show narA C.o0 ((C.book l t).frs (d + 1)) (C.pat (C.last l) t s) = _
    rw [fr_step (by omega)] at h
    unfold CP.pat
    rw [if_neg (by omega), wrap_nar, nar_call]
    cases hg : C.gs s with
    | true => rw [hg] at h; exact h
    | false =>
      rw [hg] at h
      cases hf : fr C (C.last l) (s + 1) with
      | none => rw [hf] at h; cases h
      | some u' =>
        rw [hf] at h
        rw [book_sound d (s + 1) u' (by omega) hf]
        exact h
theorem book_fr (h : 1 ≤ C.n) : IsFr (C.book l t) (frL C (C.last l) t) := by
  refine ⟨by rw [frL_len, book_len], fun k u hk => ?_, fun k p hp hk => ?_⟩
  · have hkn : k < C.n := by rw [← frL_len (C := C) (x := C.last l) (t := t)]; exact (List.getElem?_eq_some_iff.mp hk).1
    have e := frL_at (C := C) (x := C.last l) (t := t) (Nat.mod_lt (k + t) (show 0 < C.n by omega))
    rw [st_idx hkn, hk] at e
    have hs := Nat.mod_lt (k + t) (show 0 < C.n by omega)
    have := book_sound (C := C) (l := l) (t := t) (C.n - 1 - (k + t) % C.n) ((k + t) % C.n) u (by omega) (Option.some.inj e).symm
    rw [st_idx hkn] at this
    exact ⟨_, this⟩
  · obtain ⟨s, hs, rfl, rfl⟩ := book_st hp
    rw [frL_at hs] at hk
    show narA C.o0 _ _ = none
    rw [nar_pat hs (fun z => frL_at z)]
    exact Option.some.inj hk
/-- the live states are the first ones -/
theorem prefix_of {p : Nat → Prop} : ∀ n, (∀ s, s + 1 < n → p (s + 1) → p s) → ∃ L, L ≤ n ∧ ∀ s, s < n → (p s ↔ s < L)
  | 0, _ => ⟨0, Nat.le_refl _, fun s h => by omega⟩
  | n + 1, hd => by
    obtain ⟨L, h1, h2⟩ := prefix_of n fun s h => hd s (by omega)
    by_cases hp : p n
    · have all : ∀ j, j ≤ n → p (n - j) := by
        intro j
        induction j with
        | zero => intro _; exact hp
        | succ j ih =>
          intro hj
          have := ih (by omega)
          refine hd (n - (j + 1)) (by omega) ?_
          rw [show n - (j + 1) + 1 = n - j by omega]
          exact this
      refine ⟨n + 1, Nat.le_refl _, fun s hs => ⟨fun _ => hs, fun _ => ?_⟩⟩
      have := all (n - s) (by omega)
      rwa [show n - (n - s) = s by omega] at this
    · refine ⟨L, by omega, fun s hs => ?_⟩
      by_cases e : s = n
      · subst e
        exact ⟨fun z => absurd z hp, fun z => by omega⟩
      · exact h2 s (by omega)
structure Live (C : CP) (x : Str) (L : Nat) : Prop where
  le : L ≤ C.n
  iff : ∀ s, s < C.n → (fr C x s ≠ none ↔ s < L)
theorem live_ex (C : CP) (x : Str) : ∃ L, Live C x L := by
  obtain ⟨L, h1, h2⟩ := prefix_of (p := fun s => fr C x s ≠ none) C.n (fun s h hp => by
    show fr C x s ≠ none
    rw [fr_step h]
    split
    · exact fun z => nomatch z
    · have hp : fr C x (s + 1) ≠ none := hp
      cases e : fr C x (s + 1) with
      | none => exact absurd e hp
      | some u => exact fun z => nomatch z)
  exact ⟨L, h1, h2⟩
theorem Live.full {L : Nat} (v : Live C x L) (h : 1 ≤ C.n) (hx : x ≠ C.o0) : L = C.n := by
  have := (v.iff (C.n - 1) (by omega)).mp (by rw [fr_last h, if_neg hx]; exact fun z => nomatch z)
  have := v.le
  omega
theorem Live.lt {L : Nat} (v : Live C x L) (h : 1 ≤ C.n) (hx : x = C.o0) : L < C.n := by
  have h1 := v.le
  rcases Nat.lt_or_ge L C.n with h2 | h2
  · exact h2
  · have := (v.iff (C.n - 1) (by omega)).mpr (by omega)
    rw [fr_last h, if_pos hx] at this
    exact absurd rfl this
/-- behind the live ones no knot -/
theorem Live.nog {L s : Nat} (v : Live C x L) (h1 : L ≤ s) (h2 : s + 1 < C.n) : C.gs s = false := by
  cases e : C.gs s with
  | false => rfl
  | true =>
    have : fr C x s ≠ none := by rw [fr_step h2, if_pos e]; exact fun z => nomatch z
    have := (v.iff s (by omega)).mp this
    omega
theorem Live.g {L : Nat} (v : Live C x L) (h1 : 1 ≤ L) (h2 : L < C.n) : C.gs (L - 1) = true := by
  have a := (v.iff (L - 1) (by omega)).mpr (by omega)
  have b : fr C x L = none := by
    cases e : fr C x L with
    | none => rfl
    | some u => have := (v.iff L h2).mp (by rw [e]; exact fun z => nomatch z); omega
  rw [fr_step (by omega), show L - 1 + 1 = L by omega, b] at a
  cases e : C.gs (L - 1) with
  | true => rfl
  | false => rw [e] at a; exact absurd rfl a
end
end K80

/-! The earliest book of a chain. -/
namespace K80
open PySem PySem.Spec L2
open PyProof.Rows hiding St
section
variable {C : CP} {x : Str} {l t : Nat}
def can (C : CP) (x : Str) (L s : Nat) : Pat := if s + 1 = C.n then .lf x else wrapG (C.gs s) C.b (if s + 1 < L then .call (.int ((s + 1 : Nat) : Int)) (C.kd s : Nat) else .lf C.o0)
def canH (C : CP) (L : Nat) : Pat := wrapG C.hg C.b (if 0 < L then .call (.int ((0 : Nat) : Int)) ((0 : Nat) : Int) else .lf C.o0)
def canB (C : CP) (x : Str) (L : Nat) : LB := ⟨C.I, C.outs, C.o0, canH C L, (List.range L).map (can C x L)⟩
theorem canB_at {L s : Nat} (h : s < L) : (canB C x L).rs[s]? = some (can C x L s) := by
  unfold canB
  rw [List.getElem?_map, List.getElem?_range h]; rfl
theorem canB_len {L : Nat} : (canB C x L).rs.length = L := by unfold canB; rw [List.length_map, List.length_range]
theorem wrap_at {g : Bool} {b : Str} {p : Pat} : (wrapG g b p).at = p.at.map fun q => ((if g = true then 1 else 0) + q.1, q.2) := by
  cases g with
  | true =>
    show (p.at.map fun q => (q.1 + 1, q.2)) = _
    cases p.at with
    | none => rfl
    | some q => simp [Nat.add_comm]
  | false =>
    show p.at = _
    cases p.at with
    | none => rfl
    | some q => simp
theorem wrap_sub {g : Bool} {b : Str} {p r : Pat} : Pat.sub r (wrapG g b p) = wrapG g b (Pat.sub r p) := by cases g <;> rfl
theorem wrap_ok {g : Bool} {b : Str} {p : Pat} (hb : notSign b = true) (hp : p.ok) : (wrapG g b p).ok := by
  cases g with
  | true => exact ⟨hb, hp⟩
  | false => exact hp
theorem wrap_dep {g : Bool} {b : Str} {p : Pat} (hp : p.dep = 0) : (wrapG g b p).dep ≤ 1 := by
  cases g with
  | true => show p.dep + 1 ≤ 1; omega
  | false => show p.dep ≤ 1; omega
theorem wrap_inn {g : Bool} {b : Str} {p : Pat} {n m : Nat} (hp : p.inn n m) : (wrapG g b p).inn n m := by cases g <;> exact hp
theorem kd_lt (ok : C.ok) (s : Nat) : C.kd s < C.I.m := by
  have hm := ok.I.m1
  have h0 := Int.emod_nonneg (C.cs.getD s 0) (show ((C.I.m : Nat) : Int) ≠ 0 by omega)
  have h1 := Int.emod_lt_of_pos (C.cs.getD s 0) (show (0 : Int) < (C.I.m : Nat) by omega)
  unfold CP.kd
  omega
theorem last_ok (ok : C.ok) (l : Nat) : sOk (C.last l) := by
  match l with
  | 0 => exact ok.s0
  | 1 => exact ok.s1
  | _ + 2 => exact ok.s2
theorem last0 (ok : C.ok) {l : Nat} (h : l < 3) : C.last l = C.o0 ↔ l = 0 := by
  match l, h with
  | 0, _ => exact ⟨fun _ => rfl, fun _ => rfl⟩
  | 1, _ => exact ⟨fun z => absurd z.symm ok.d01, fun z => nomatch z⟩
  | 2, _ => exact ⟨fun z => absurd z.symm ok.d02, fun z => nomatch z⟩
theorem last_ne (ok : C.ok) {l k : Nat} (h : l < 3) (hk : k < 3) (n : l ≠ k) : C.last l ≠ C.last k := by
  match l, h, k, hk with
  | 0, _, 0, _ => exact absurd rfl n
  | 0, _, 1, _ => exact ok.d01
  | 0, _, 2, _ => exact ok.d02
  | 1, _, 0, _ => exact fun z => ok.d01 z.symm
  | 1, _, 1, _ => exact absurd rfl n
  | 1, _, 2, _ => exact ok.d12
  | 2, _, 0, _ => exact fun z => ok.d02 z.symm
  | 2, _, 1, _ => exact fun z => ok.d12 z.symm
  | 2, _, 2, _ => exact absurd rfl n
theorem pat_fine (ok : C.ok) {s : Nat} : (C.pat (C.last l) t s).ok ∧ (C.pat (C.last l) t s).inn C.n C.I.m ∧ (C.pat (C.last l) t s).dep < 3 := by
  have := ok.n1
  unfold CP.pat
  split
  · exact ⟨(last_ok ok l).1, trivial, by show 0 < 3; decide⟩
  · exact ⟨wrap_ok ok.sb.1 trivial, wrap_inn ⟨_, _, rfl, rfl, idx_lt (by omega), kd_lt ok s⟩, Nat.lt_of_le_of_lt (wrap_dep rfl) (by decide)⟩
theorem book_okH (ok : C.ok) : (C.book l t).okH := by
  refine ⟨⟨ok.I, ok.s0, by rw [book_len]; exact ok.n2, fun p hp => ?_⟩, wrap_ok ok.sb.1 trivial, Nat.lt_of_le_of_lt (wrap_dep rfl) (by decide)⟩
  rw [book_len]
  obtain ⟨k, hk⟩ := List.mem_iff_getElem?.mp hp
  obtain ⟨s, hs, _, rfl⟩ := book_st hk
  exact pat_fine ok
theorem can_fine (ok : C.ok) {L s : Nat} (hL : L ≤ C.n) (hs : s < L) (hx : sOk x) : (can C x L s).ok ∧ (can C x L s).inn L C.I.m ∧ (can C x L s).dep < 3 := by
  unfold can
  split
  · exact ⟨hx.1, trivial, by show 0 < 3; decide⟩
  · split
    · exact ⟨wrap_ok ok.sb.1 trivial, wrap_inn ⟨_, _, rfl, rfl, by assumption, kd_lt ok s⟩, Nat.lt_of_le_of_lt (wrap_dep rfl) (by decide)⟩
    · exact ⟨wrap_ok ok.sb.1 ok.s0.1, wrap_inn trivial, Nat.lt_of_le_of_lt (wrap_dep rfl) (by decide)⟩
theorem canH_fine (ok : C.ok) {L : Nat} : (canH C L).ok ∧ (canH C L).dep < 3 := by
  unfold canH
  split
  · exact ⟨wrap_ok ok.sb.1 trivial, Nat.lt_of_le_of_lt (wrap_dep rfl) (by decide)⟩
  · exact ⟨wrap_ok ok.sb.1 ok.s0.1, Nat.lt_of_le_of_lt (wrap_dep rfl) (by decide)⟩
theorem can_okH (ok : C.ok) {L : Nat} (hL : L ≤ C.n) (hx : sOk x) : (canB C x L).okH := by
  refine ⟨⟨ok.I, ok.s0, by rw [canB_len]; have := ok.n2; omega, fun p hp => ?_⟩, canH_fine ok⟩
  rw [canB_len]
  obtain ⟨s, hs, rfl⟩ := List.mem_map.mp hp
  exact can_fine ok hL (List.mem_range.mp hs) hx
/-- what early makes of the head, of a state -/
def chH0 (C : CP) (t L : Nat) : Pat := wrapG C.hg C.b (if 0 < L then .call (keyN (idxN C.n t 0)) ((0 : Nat) : Int) else .lf C.o0)
def chS (C : CP) (x : Str) (t L s : Nat) : Pat := if s + 1 = C.n then .lf x else wrapG (C.gs s) C.b (if s + 1 < L then .call (keyN (idxN C.n t (s + 1))) (C.kd s : Nat) else .lf C.o0)
def chNx (C : CP) (x : Str) (t L k : Nat) : Pat := chS C x t L ((k + t) % C.n)
theorem chNx_at {L s : Nat} (h : s < C.n) : chNx C x t L (idxN C.n t s) = chS C x t L s := by unfold chNx; rw [idx_st h]
theorem ear_wrap {F : List FT} {g : Bool} {i : Nat} {k : Int} {f : FT} (hF : F[i]? = some f) : EarR C.o0 F (wrapG g C.b (.call (.int ((i : Nat) : Int)) k)) (wrapG g C.b (earP C.o0 i k f)) := by
  refine .inr ⟨_, i, k, f, by rw [wrap_at]; rfl, hF, ?_⟩
  rw [wrap_sub]; rfl
theorem ear_of {L s : Nat} (v : Live C x L) (h : s < C.n) {k : Int} : earP C.o0 (idxN C.n t s) k (fr C x s) = if s < L then .call (keyN (idxN C.n t s)) k else .lf C.o0 := by
  have := v.iff s h
  cases e : fr C x s with
  | none => rw [if_neg (fun z => this.mpr z e)]; rfl
  | some u => rw [if_pos (this.mp (by rw [e]; exact fun z => nomatch z))]; rfl
theorem ear_pat {L s : Nat} (v : Live C x L) (h : s < C.n) : EarR C.o0 (frL C x t) (C.pat x t s) (chS C x t L s) := by
  unfold CP.pat chS
  split
  · exact .inl ⟨rfl, rfl⟩
  · rename_i hn
    have := ear_wrap (C := C) (g := C.gs s) (k := (C.kd s : Nat)) (frL_at (C := C) (x := x) (t := t) (show s + 1 < C.n by omega))
    rw [ear_of v (by omega)] at this
    exact this
theorem ch_run (ok : C.ok) {L : Nat} (hL : L ≤ C.n) : ∀ j i, i + j = L → j ≠ 0 → NumRun (chNx C x t L) j ((List.range (i + 1)).map (idxN C.n t)) i ((List.range L).map (idxN C.n t))
  | 0, _, _, h => absurd rfl h
  | j + 1, i, h, _ => by
    have hi : ((List.range (i + 1)).map (idxN C.n t))[i]? = some (idxN C.n t i) := by rw [List.getElem?_map, List.getElem?_range (by omega)]; rfl
    have hnx := chNx_at (C := C) (x := x) (t := t) (L := L) (show i < C.n by omega)
    by_cases hj : j = 0
    · subst hj
      have hiL : i + 1 = L := by omega
      have hat : (chNx C x t L (idxN C.n t i)).at = none := by
        rw [hnx]
        unfold chS
        split
        · rfl
        · rw [if_neg (by omega), wrap_at]; rfl
      refine .step hi (ks' := (List.range (i + 1)).map (idxN C.n t)) (.inl ⟨hat, rfl⟩) ?_
      have := NumRun.stop (nx := chNx C x t L) (ks := (List.range L).map (idxN C.n t))
      rw [List.length_map, List.length_range] at this
      rw [hiL]
      exact this
    · have hat : (chNx C x t L (idxN C.n t i)).at = some ((if C.gs i = true then 1 else 0), keyN (idxN C.n t (i + 1)), ((C.kd i : Nat) : Int)) := by
        rw [hnx]
        unfold chS
        rw [if_neg (by omega), if_pos (by omega), wrap_at]; rfl
      refine .step hi (ks' := (List.range (i + 2)).map (idxN C.n t)) (.inr ⟨_, _, _, hat, .inr ⟨fun hm => ?_, by rw [List.range_succ, List.map_append]; rfl⟩⟩) ?_
      · obtain ⟨u, hu, e⟩ := List.mem_map.mp hm
        have hu := List.mem_range.mp hu
        have := idx_inj (show u < C.n by omega) (show i + 1 < C.n by omega) e
        omega
      · exact ch_run ok hL j (i + 1) (by omega) hj
theorem chS_fine (ok : C.ok) {L s : Nat} (hx : sOk x) : (chS C x t L s).ok ∧ (chS C x t L s).dep < 4 := by
  unfold chS
  split
  · exact ⟨hx.1, by show 0 < 4; decide⟩
  · split
    · exact ⟨wrap_ok ok.sb.1 trivial, Nat.lt_of_le_of_lt (wrap_dep rfl) (by decide)⟩
    · exact ⟨wrap_ok ok.sb.1 ok.s0.1, Nat.lt_of_le_of_lt (wrap_dep rfl) (by decide)⟩
theorem ren_wrap {R : List Nat} {g : Bool} {b : Str} {i u : Nat} {k : Int} (h : R[i]? = some u) : RenN R (wrapG g b (.call (keyN u) k)) (wrapG g b (.call (.int ((i : Nat) : Int)) k)) := by
  refine .inr ⟨_, u, k, i, by rw [wrap_at]; rfl, h, ?_⟩
  rw [wrap_sub]; rfl
theorem ren_leaf {R : List Nat} {g : Bool} {b a : Str} : RenN R (wrapG g b (.lf a)) (wrapG g b (.lf a)) := .inl ⟨by rw [wrap_at]; rfl, rfl⟩
theorem ch_ear (ok : C.ok) {L : Nat} (v : Live C (C.last l) L) : Ear (C.book l t) (frL C (C.last l) t) (canB C (C.last l) L) := by
  have n1 := ok.n1
  have hL := v.le
  refine ⟨(book_okH ok).ok, book_fr n1, ⟨wrap_ok ok.sb.1 trivial, Nat.lt_of_le_of_lt (wrap_dep rfl) (by decide)⟩, chH0 C t L, chNx C (C.last l) t L, (List.range L).map (idxN C.n t), canH C L, (List.range L).map (can C (C.last l) L), ?_, ?_, rfl⟩
  · have := ear_wrap (C := C) (g := C.hg) (k := ((0 : Nat) : Int)) (frL_at (C := C) (x := C.last l) (t := t) (show 0 < C.n by omega))
    rw [ear_of v (by omega)] at this
    exact this
  have Rat : ∀ i, i < L → ((List.range L).map (idxN C.n t))[i]? = some (idxN C.n t i) := fun i h => by rw [List.getElem?_map, List.getElem?_range h]; rfl
  refine ⟨?_, by rw [List.length_map, List.length_range]; have := ok.n2; omega, ?_, fun k hk => ?_, fun k hk => ?_, ?_, by rw [List.length_map, List.length_map], fun i k hik => ?_⟩
  · by_cases h : 0 < L
    · refine ⟨L, [idxN C.n t 0], .inr ⟨(if C.hg = true then 1 else 0), idxN C.n t 0, ((0 : Nat) : Int), ?_, .inr ⟨by simp, rfl⟩⟩, ch_run ok hL L 0 (by omega) (by omega)⟩
      unfold chH0
      rw [if_pos h, wrap_at]; rfl
    · have e : L = 0 := by omega
      subst e
      refine ⟨0, [], .inl ⟨?_, rfl⟩, .stop⟩
      unfold chH0
      rw [if_neg h, wrap_at]; rfl
  · unfold chH0
    split
    · exact ⟨wrap_ok ok.sb.1 trivial, Nat.lt_of_le_of_lt (wrap_dep rfl) (by decide)⟩
    · exact ⟨wrap_ok ok.sb.1 ok.s0.1, Nat.lt_of_le_of_lt (wrap_dep rfl) (by decide)⟩
  · obtain ⟨s, hs, rfl⟩ := List.mem_map.mp hk
    have hs := List.mem_range.mp hs
    cases e : fr C (C.last l) s with
    | none => exact absurd e ((v.iff s (by omega)).mpr hs)
    | some u =>
      refine ⟨u, C.pat (C.last l) t s, by rw [frL_at (by omega), e], book_at (by omega), ?_⟩
      rw [chNx_at (by omega)]
      exact ear_pat v (by omega)
  · exact chS_fine ok (last_ok ok l)
  · unfold chH0 canH
    by_cases h : 0 < L
    · rw [if_pos h, if_pos h]
      exact ren_wrap (Rat 0 h)
    · rw [if_neg h, if_neg h]
      exact ren_leaf
  · have hi : i < L := by
      have := (List.getElem?_eq_some_iff.mp hik).1
      rwa [List.length_map, List.length_range] at this
    rw [Rat i hi] at hik
    cases hik
    refine ⟨can C (C.last l) L i, by rw [List.getElem?_map, List.getElem?_range hi]; rfl, ?_⟩
    rw [chNx_at (by omega)]
    unfold chS can
    by_cases h : i + 1 = C.n
    · rw [if_pos h, if_pos h]
      exact .inl ⟨rfl, rfl⟩
    · rw [if_neg h, if_neg h]
      by_cases h2 : i + 1 < L
      · rw [if_pos h2, if_pos h2]
        exact ren_wrap (Rat (i + 1) h2)
      · rw [if_neg h2, if_neg h2]
        exact ren_leaf
end
end K80

/-! Two chains side by side. -/
namespace K80
open PySem PySem.Spec L2
open PyProof.Rows hiding St
section
variable {C : CP} {x y : Str} {l t : Nat}
def g1 (C : CP) (s : Nat) : Nat := if C.gs s = true then 1 else 0
def d0 (C : CP) : Nat := if C.hg = true then 1 else 0
def rowC (C : CP) : Nat → Row
  | 0 => ⟨0, 0, none, 0, d0 C⟩
  | i + 1 => ⟨i + 1, i + 1, some i, C.kd i, g1 C i⟩
def rowsC (C : CP) (k : Nat) : List Row := (List.range k).map (rowC C)
theorem rowC_xy (C : CP) (i : Nat) : (rowC C i).x = i ∧ (rowC C i).y = i := by cases i <;> exact ⟨rfl, rfl⟩
theorem rowsC_len (C : CP) (k : Nat) : (rowsC C k).length = k := by unfold rowsC; rw [List.length_map, List.length_range]
theorem rowsC_at {k i : Nat} (h : i < k) : (rowsC C k)[i]? = some (rowC C i) := by unfold rowsC; rw [List.getElem?_map, List.getElem?_range h]; rfl
theorem rowsC_snoc (C : CP) (k : Nat) : rowsC C (k + 1) = rowsC C k ++ [rowC C k] := by unfold rowsC; rw [List.range_succ, List.map_append]; rfl
theorem sbs_wrap {g : Bool} {b : Str} {p q : Pat} {m : Nat} : sbs (wrapG g b p) (wrapG g b q) m = sbs p q ((if g = true then 1 else 0) + m) := by
  cases g with
  | true =>
    show (if b = b then sbs p q (m + 1) else _) = _
    rw [if_pos rfl, Nat.add_comm]; rfl
  | false => show sbs p q m = _; simp
theorem sbs_call {s s' : PD} {k : Int} {m : Nat} : sbs (.call s k) (.call s' k) m = (none, some (m, s, s', k)) := by simp [sbs]
theorem sbs_lf {z : Str} {m : Nat} : sbs (.lf z) (.lf z) m = (none, none) := by simp [sbs]
theorem noted_step (C : CP) (i : Nat) : notedR (rowsC C (i + 1)) (some (g1 C i, i + 1, i + 1, C.kd i)) (some i) = rowsC C (i + 2) := by
  rw [notedR_new ?_, rowsC_snoc C (i + 1)]
  · rfl
  · rw [List.any_eq_false]
    intro r hr
    obtain ⟨k, hk, rfl⟩ := List.mem_map.mp hr
    have hk := List.mem_range.mp hk
    rw [(rowC_xy C k).1, (rowC_xy C k).2]
    simp
    omega
theorem can_mid {L s : Nat} (h : s + 1 < L) (hL : L ≤ C.n) : can C x L s = wrapG (C.gs s) C.b (.call (.int ((s + 1 : Nat) : Int)) (C.kd s : Nat)) := by
  unfold can
  rw [if_neg (by omega), if_pos h]
theorem mp_walk {Lx Ly e cnt : Nat} {R : List Row} {o : Option (Option Nat × Nat)} (hx : e ≤ Lx) (hy : e ≤ Ly) (hLx : Lx ≤ C.n) (hLy : Ly ≤ C.n) (last : MPRun (canB C x Lx) (canB C y Ly) cnt (rowsC C e) (e - 1) R o) :
    ∀ j i, i + j + 1 = e → MPRun (canB C x Lx) (canB C y Ly) (cnt + j) (rowsC C (i + 1)) i R o
  | 0, i, h => by
    have e1 : e = i + 1 := by omega
    subst e1
    exact last
  | j + 1, i, h => by
    have hxs := canB_at (C := C) (x := x) (show i < Lx by omega)
    have hys := canB_at (C := C) (x := y) (show i < Ly by omega)
    rw [can_mid (by omega) hLx] at hxs
    rw [can_mid (by omega) hLy] at hys
    have es : sbs (wrapG (C.gs i) C.b (.call (.int ((i + 1 : Nat) : Int)) (C.kd i : Nat))) (wrapG (C.gs i) C.b (.call (.int ((i + 1 : Nat) : Int)) (C.kd i : Nat))) 0 = (none, some (g1 C i, .int ((i + 1 : Nat) : Int), .int ((i + 1 : Nat) : Int), ((C.kd i : Nat) : Int))) := by rw [sbs_wrap, sbs_call]; rfl
    refine .step (r := rowC C i) (rowsC_at (Nat.lt_succ_self i)) (by rw [(rowC_xy C i).1]; exact hxs) (by rw [(rowC_xy C i).2]; exact hys) (c := some (g1 C i, i + 1, i + 1, C.kd i)) ⟨by rw [es], .inr ⟨_, _, _, _, rfl, by rw [es]⟩⟩ ?_
    rw [noted_step]
    exact mp_walk hx hy hLx hLy last j (i + 1) (by omega)
theorem canH_pos {L : Nat} (h : 0 < L) : canH C L = wrapG C.hg C.b (.call (.int ((0 : Nat) : Int)) ((0 : Nat) : Int)) := by unfold canH; rw [if_pos h]
theorem mp_heads {Lx Ly e cnt : Nat} {R : List Row} {o : Option (Option Nat × Nat)} (he : 0 < e) (hx : e ≤ Lx) (hy : e ≤ Ly) (run : MPRun (canB C x Lx) (canB C y Ly) cnt (rowsC C 1) 0 R o) : MP (canB C x Lx) (canB C y Ly) R o := by
  have es : sbs (canH C Lx) (canH C Ly) 0 = (none, some (d0 C, .int ((0 : Nat) : Int), .int ((0 : Nat) : Int), ((0 : Nat) : Int))) := by rw [canH_pos (by omega), canH_pos (by omega), sbs_wrap, sbs_call]; rfl
  refine .inr ⟨some (d0 C, 0, 0, 0), cnt, ⟨by show (sbs (canH C Lx) (canH C Ly) 0).1 = none; rw [es], .inr ⟨_, _, _, _, rfl, by show (sbs (canH C Lx) (canH C Ly) 0).2 = _; rw [es]⟩⟩, ?_⟩
  exact run
/-- the same last leaf -/
theorem mp_same {L : Nat} (hL : L ≤ C.n) : MP (canB C x L) (canB C x L) (rowsC C L) none := by
  by_cases h : 0 < L
  · have hs := canB_at (C := C) (x := x) (show L - 1 < L by omega)
    have es : sbs (can C x L (L - 1)) (can C x L (L - 1)) 0 = (none, none) := by
      unfold can
      split
      · exact sbs_lf
      · rw [if_neg (by omega), sbs_wrap, sbs_lf]
    have last : MPRun (canB C x L) (canB C x L) 1 (rowsC C L) (L - 1) (rowsC C L) none := by
      refine .step (r := rowC C (L - 1)) (rowsC_at (by omega)) (by rw [(rowC_xy C _).1]; exact hs) (by rw [(rowC_xy C _).2]; exact hs) (c := none) ⟨by rw [es], .inl ⟨rfl, by rw [es]⟩⟩ ?_
      have := MPRun.stop (X := canB C x L) (Y := canB C x L) (rows := rowsC C L)
      rw [rowsC_len] at this
      rw [show L - 1 + 1 = L by omega]
      exact this
    exact mp_heads h (Nat.le_refl _) (Nat.le_refl _) (mp_walk (Nat.le_refl _) (Nat.le_refl _) hL hL last (L - 1) 0 (by omega))
  · have e : L = 0 := by omega
    subst e
    have es : sbs (canH C 0) (canH C 0) 0 = (none, none) := by
      show sbs (wrapG C.hg C.b (.lf C.o0)) (wrapG C.hg C.b (.lf C.o0)) 0 = _
      rw [sbs_wrap, sbs_lf]
    exact .inr ⟨none, 0, ⟨by show (sbs (canH C 0) (canH C 0) 0).1 = none; rw [es], .inl ⟨rfl, by show (sbs (canH C 0) (canH C 0) 0).2 = none; rw [es]⟩⟩, .stop⟩
/-! ### the path -/
def kds (C : CP) (s : Nat) : List Nat := ((List.range (C.n - 1)).drop s).map C.kd
def dS (C : CP) (s : Nat) : Nat := (((List.range (C.n - 1)).drop s).map (g1 C)).sum
def eS (C : CP) (s : Nat) : Nat := ((List.range s).map (g1 C)).sum
theorem drop_step {s : Nat} (h : s + 1 < C.n) : (List.range (C.n - 1)).drop s = s :: (List.range (C.n - 1)).drop (s + 1) := by
  rw [List.drop_eq_getElem_cons (by rw [List.length_range]; omega), List.getElem_range]
theorem kds_step {s : Nat} (h : s + 1 < C.n) : kds C s = C.kd s :: kds C (s + 1) := by unfold kds; rw [drop_step h]; rfl
theorem dS_step {s : Nat} (h : s + 1 < C.n) : dS C s = g1 C s + dS C (s + 1) := by unfold dS; rw [drop_step h, List.map_cons, List.sum_cons]
theorem kds_end {s : Nat} (h : C.n ≤ s + 1) : kds C s = [] := by unfold kds; rw [List.drop_eq_nil_of_le (by rw [List.length_range]; omega)]; rfl
theorem dS_end {s : Nat} (h : C.n ≤ s + 1) : dS C s = 0 := by unfold dS; rw [List.drop_eq_nil_of_le (by rw [List.length_range]; omega)]; rfl
theorem eS_succ (s : Nat) : eS C (s + 1) = eS C s + g1 C s := by unfold eS; rw [List.range_succ, List.map_append, List.sum_append]; simp
theorem e_d : ∀ s, s + 1 ≤ C.n → eS C s + dS C s = dS C 0
  | 0, _ => by simp [eS]
  | s + 1, h => by
    have := e_d s (by omega)
    rw [dS_step (by omega)] at this
    rw [eS_succ]; omega
theorem k_k : ∀ s, s + 1 ≤ C.n → (List.range s).map C.kd ++ kds C s = kds C 0
  | 0, _ => rfl
  | s + 1, h => by
    have := k_k s (by omega)
    rw [kds_step (by omega)] at this
    rw [List.range_succ, List.map_append, List.append_assoc]
    exact this
theorem dS_le (C : CP) : dS C 0 ≤ C.n := by
  have aux : ∀ l : List Nat, (l.map (g1 C)).sum ≤ l.length := by
    intro l
    induction l with
    | nil => exact Nat.zero_le _
    | cons s l ih =>
      rw [List.map_cons, List.sum_cons, List.length_cons]
      have : g1 C s ≤ 1 := by unfold g1; split <;> omega
      omega
  have := aux ((List.range (C.n - 1)).drop 0)
  unfold dS
  rw [List.length_drop, List.length_range] at this
  omega
theorem nog_d {e : Nat} (h : ∀ s, e ≤ s → s + 1 < C.n → C.gs s = false) : ∀ j s, s + j = C.n → e ≤ s → dS C s = 0
  | 0, s, h1, _ => dS_end (by omega)
  | j + 1, s, h1, h2 => by
    by_cases h3 : s + 1 < C.n
    · rw [dS_step h3, nog_d h j (s + 1) (by omega) (by omega)]
      unfold g1
      rw [h s h2 h3]; rfl
    · exact dS_end (by omega)
theorem back_rows {e : Nat} : ∀ i k t m, i < e → Back (rowsC C e) (i + 1) (some i) k t m ((List.range i).map C.kd ++ k :: t) (m + d0 C + eS C i)
  | 0, k, t, m, h => by
    refine .step (rowsC_at h) ?_
    have e1 : (rowC C 0).dep + m = m + d0 C + eS C 0 := by show d0 C + m = m + d0 C + 0; omega
    rw [e1]
    exact .stop
  | i + 1, k, t, m, h => by
    refine .step (rowsC_at h) ?_
    have := back_rows (e := e) i (C.kd i) (k :: t) (g1 C i + m) (by omega)
    have e1 : (g1 C i + m) + d0 C + eS C i = m + d0 C + eS C (i + 1) := by rw [eS_succ]; omega
    have e2 : (List.range i).map C.kd ++ C.kd i :: (k :: t) = (List.range (i + 1)).map C.kd ++ k :: t := by rw [List.range_succ, List.map_append, List.append_assoc]; rfl
    rw [e1, e2] at this
    exact this
/-! ### the outcomes -/
theorem na_from (ok : C.ok) : ∀ d s, s + d + 1 = C.n → ∃ cnt, NA (C.book l t) cnt (C.pat (C.last l) t s) (kds C s ++ [0]) (dS C s) (C.last l)
  | 0, s, h => by
    rw [kds_end (by omega), dS_end (by omega)]
    refine ⟨0, ?_⟩
    unfold CP.pat
    rw [if_pos (by omega)]
    exact NA.done (p := .lf (C.last l)) (last_ok ok l).1
  | d + 1, s, h => by
    obtain ⟨cnt, ih⟩ := na_from ok d (s + 1) (by omega)
    have hc : NA (C.book l t) (cnt + 1) (.call (.int ((idxN C.n t (s + 1) : Nat) : Int)) ((C.kd s : Nat) : Int)) (C.kd s :: (kds C (s + 1) ++ [0])) (dS C (s + 1)) (C.last l) := by
      refine .call (book_at (by omega)) (kd_lt ok s) ?_
      rw [if_pos rfl]
      have e : rowAt (C.book l t).a (C.pat (C.last l) t (s + 1)) (kds C (s + 1) ++ [0]) = C.pat (C.last l) t (s + 1) := by
        cases kds C (s + 1) <;> rfl
      rw [e]
      exact ih
    rw [kds_step (by omega), dS_step (by omega)]
    unfold CP.pat
    rw [if_neg (by omega)]
    unfold wrapG g1
    cases C.gs s with
    | true =>
      rw [if_pos rfl, if_pos rfl]
      refine ⟨cnt + 2, ?_⟩
      rw [Nat.add_comm 1]
      exact .down ok.sb.1 hc
    | false =>
      rw [if_neg Bool.false_ne_true, if_neg Bool.false_ne_true, Nat.zero_add]
      exact ⟨cnt + 1, hc⟩
theorem out_book (ok : C.ok) : Out (C.book l t) (kds C 0 ++ [0]) (d0 C + dS C 0) (C.last l) := by
  have n1 := ok.n1
  obtain ⟨cnt, hna⟩ := na_from (l := l) (t := t) ok (C.n - 1) 0 (by omega)
  have o := book_okH (l := l) (t := t) ok
  have e : rowAt (C.book l t).a (C.pat (C.last l) t 0) (kds C 0 ++ [0]) = C.pat (C.last l) t 0 := by cases kds C 0 <;> rfl
  refine ⟨idxN C.n t 0, C.pat (C.last l) t 0, cnt, d0 C, dS C 0, 0, o.ok, o.hd.1, ?_, book_at (by omega), by rw [e]; exact hna, rfl⟩
  show (wrapG C.hg C.b (.call (.int (idxN C.n t 0 : Nat)) 0)).at = _
  rw [wrap_at]; rfl
/-! ### a chain that is no leaf's, as its own earliest -/
theorem can_book (n1 : 1 ≤ C.n) : canB C (C.last l) C.n = C.book l 0 := by
  unfold canB CP.book
  congr 1
  · rw [canH_pos (by omega), idx0 (by omega)]; rfl
  · refine List.map_congr_left fun s hs => ?_
    have hs := List.mem_range.mp hs
    rw [Nat.add_zero, Nat.mod_eq_of_lt hs]
    unfold can CP.pat
    by_cases h : s + 1 = C.n
    · rw [if_pos h, if_pos h]
    · rw [if_neg h, if_neg h, if_pos (by omega), idx0 (by omega)]
theorem fr_path {e : Nat} (hx : x ≠ C.o0) (h : ∀ s, e ≤ s → s + 1 < C.n → C.gs s = false) : ∀ d s, s + d + 1 = C.n → e ≤ s → fr C x s = some (kds C s, kds C s ++ [0])
  | 0, s, hs, _ => by
    rw [show s = C.n - 1 by omega, fr_last (by omega), if_neg hx, kds_end (by omega)]; rfl
  | d + 1, s, hs, hes => by
    rw [fr_step (by omega), h s hes (by omega), if_neg Bool.false_ne_true, fr_path hx h d (s + 1) (by omega) (by omega), kds_step (s := s) (by omega)]; rfl
theorem root_path (ok : C.ok) {e : Nat} (h : ∀ s, e ≤ s → s + 1 < C.n → C.gs s = false) : ∀ d s, s + d + 1 = C.n → e ≤ s → Root (canB C x C.n) s (kds C s) C.o0
  | 0, s, hs, _ => by
    rw [kds_end (by omega)]
    exact Root.leaf (B := canB C x C.n) (canB_at (by omega))
  | d + 1, s, hs, hes => by
    rw [kds_step (by omega)]
    have hat := canB_at (C := C) (x := x) (show s < C.n by omega)
    rw [can_mid (by omega) (Nat.le_refl _)] at hat
    unfold wrapG at hat
    rw [h s hes (by omega), if_neg Bool.false_ne_true] at hat
    refine .call hat (kd_lt ok s) ?_
    rw [if_pos rfl]
    exact root_path ok h d (s + 1) (by omega) (by omega)
end
end K80

/-! The chains' theorem. -/
namespace K80
open PySem PySem.Spec L2
open PyProof.Rows hiding St
section
variable {C : CP} {x y : Str} {l t : Nat}
theorem dig_wrap {g : Bool} {b : Str} {p : Pat} : (wrapG g b p).dig (if g = true then 1 else 0) = some p := by
  cases g with
  | true => show p.dig 0 = some p; cases p <;> rfl
  | false => show p.dig 0 = some p; cases p <;> rfl
theorem kds_len (n1 : 1 ≤ C.n) : (kds C 0 ++ [0]).length = C.n := by
  unfold kds
  rw [List.length_append, List.length_map, List.length_drop, List.length_range, List.length_singleton]
  omega
theorem path_end (n1 : 1 ≤ C.n) : (List.range (C.n - 1)).map C.kd ++ 0 :: [] = kds C 0 ++ [0] := by
  have := k_k (C := C) (C.n - 1) (by omega)
  rw [kds_end (by omega), List.append_nil] at this
  rw [this]
theorem sum_end (n1 : 1 ≤ C.n) : 0 + d0 C + eS C (C.n - 1) = d0 C + dS C 0 := by
  have := e_d (C := C) (C.n - 1) (by omega)
  rw [dS_end (by omega)] at this
  omega
/-- the book that goes on, at the state L -/
theorem far (ok : C.ok) {L : Nat} (hl : C.last l ≠ C.o0) (v : Live C C.o0 L) (hL : L < C.n) :
    (canB C (C.last l) C.n).ok ∧ ∃ F, IsFr (canB C (C.last l) C.n) F ∧ F[L]? = some (some (kds C L, kds C L ++ [0])) ∧ Root (canB C (C.last l) C.n) L (kds C L) C.o0 := by
  have nog := fun s h1 h2 => v.nog (s := s) h1 h2
  refine ⟨(can_okH ok (Nat.le_refl _) (last_ok ok l)).ok, frL C (C.last l) 0, by rw [can_book ok.n1]; exact book_fr ok.n1, ?_, root_path ok nog (C.n - 1 - L) L (by omega) (Nat.le_refl _)⟩
  have := frL_at (C := C) (x := C.last l) (t := 0) hL
  rw [idx0 hL, fr_path hl nog (C.n - 1 - L) L (by omega) (Nat.le_refl _)] at this
  exact this
/-- the path and the sum, from L on -/
theorem path_mid {L : Nat} (v : Live C C.o0 L) (h1 : 1 ≤ L) (hL : L < C.n) : (List.range (L - 1)).map C.kd ++ C.kd (L - 1) :: (kds C L ++ [0]) = kds C 0 ++ [0] := by
  have := k_k (C := C) (L - 1) (by omega)
  rw [kds_step (by omega), show L - 1 + 1 = L by omega] at this
  rw [← this, List.append_assoc]
  rfl
theorem sum_mid {L : Nat} (v : Live C C.o0 L) (h1 : 1 ≤ L) (hL : L < C.n) : 1 + d0 C + eS C (L - 1) = d0 C + dS C 0 := by
  have a := e_d (C := C) (L - 1) (by omega)
  have b := nog_d (C := C) (e := L) (fun s h1 h2 => v.nog h1 h2) (C.n - L) L (by omega) (Nat.le_refl _)
  rw [dS_step (by omega), show L - 1 + 1 = L by omega, b] at a
  have c : g1 C (L - 1) = 1 := by unfold g1; rw [v.g h1 hL]; rfl
  rw [c] at a
  omega
theorem sum_zero (v : Live C C.o0 0) : dS C 0 = 0 := nog_d (C := C) (e := 0) (fun s h1 h2 => v.nog h1 h2) C.n 0 (by omega) (Nat.le_refl _)
theorem m_le (ok : C.ok) : d0 C + dS C 0 ≤ 1000 := by
  have h1 := dS_le C
  have h2 := ok.n2
  have h3 : d0 C ≤ 1 := by unfold d0; split <;> omega
  omega
theorem canH_zero : canH C 0 = wrapG C.hg C.b (.lf C.o0) := rfl
theorem can_stop {L : Nat} (h1 : 1 ≤ L) (hL : L < C.n) (g : C.gs (L - 1) = true) : can C x L (L - 1) = wrapG true C.b (.lf C.o0) := by
  unfold can
  rw [if_neg (by omega), if_neg (by omega), g]
theorem can_go {L : Nat} (h1 : 1 ≤ L) (hL : L < C.n) (g : C.gs (L - 1) = true) : can C x C.n (L - 1) = wrapG true C.b (.call (.int ((L : Nat) : Int)) (C.kd (L - 1) : Nat)) := by
  rw [can_mid (by omega) (Nat.le_refl _), g, show L - 1 + 1 = L by omega]
end
theorem chain_thm (C : CP) (ok : C.ok) : ChainThm C := fun l t l' t' hl hl' ht ht' => by
  have n1 := ok.n1
  have n2 := ok.n2
  have one : OneK (C.book l t) (C.book l' t') := ⟨rfl, rfl, ins_sh ok.I, outs_sh ok⟩
  have hT := kds_len (C := C) n1
  have hM := m_le ok
  by_cases e : l = l'
  · subst e
    obtain ⟨L, v⟩ := live_ex C (C.last l)
    refine ⟨_, _, _, _, rowsC C L, none, none, ⟨one, ch_ear ok v, ch_ear ok v, can_okH ok v.le (last_ok ok l), can_okH ok v.le (last_ok ok l), rfl, by rw [rowsC_len]; have := v.le; omega, mp_same v.le⟩, .inl ⟨rfl, rfl⟩, .inl ⟨rfl, rfl, rfl⟩⟩
  obtain ⟨Lx, vx⟩ := live_ex C (C.last l)
  obtain ⟨Ly, vy⟩ := live_ex C (C.last l')
  have okX := can_okH (L := Lx) ok vx.le (last_ok ok l)
  have okY := can_okH (L := Ly) ok vy.le (last_ok ok l')
  have hne := last_ne ok hl hl' e
  -- it is enough to tell the parting
  suffices h : ∃ R c m, R.length < 900 ∧ MP (canB C (C.last l) Lx) (canB C (C.last l') Ly) R (some (c, m)) ∧ PartR (canB C (C.last l) Lx) (canB C (C.last l') Ly) R c m (kds C 0 ++ [0]) (d0 C + dS C 0) by
    obtain ⟨R, c, m, h1, h2, h3⟩ := h
    exact ⟨_, _, _, _, R, some (c, m), some (kds C 0 ++ [0], d0 C + dS C 0), ⟨one, ch_ear ok vx, ch_ear ok vy, okX, okY, rfl, h1, h2⟩, .inr ⟨c, m, _, _, rfl, rfl, h3⟩, .inr ⟨e, rfl, hne, _, _, rfl, by rw [hT]; exact n2, hM, out_book ok, out_book ok⟩⟩
  have hd0 : (if C.hg = true then 1 else 0) = d0 C := rfl
  by_cases h0 : C.last l = C.o0
  · have h0' : C.last l' ≠ C.o0 := fun z => hne (h0.trans z.symm)
    have hLy := vy.full n1 h0'
    subst hLy
    rw [h0] at vx ⊢
    have hLx := vx.lt n1 rfl
    obtain ⟨oY, F, f1, f2, f3⟩ := far ok h0' vx hLx
    by_cases hz : Lx = 0
    · subst hz
      refine ⟨[], none, d0 C, by simp, .inl ⟨d0 C, ?_, rfl, rfl⟩, canH C 0, canH C C.n, .lf C.o0, .call (.int ((0 : Nat) : Int)) ((0 : Nat) : Int), 0, kds C 0 ++ [0], 0, .inl ⟨rfl, rfl, rfl⟩, by rw [canH_zero, ← hd0]; exact dig_wrap, by rw [canH_pos (by omega), ← hd0]; exact dig_wrap, ?_, ?_, hM⟩
      · show (sbs (canH C 0) (canH C C.n) 0).1 = _
        rw [canH_zero, canH_pos (by omega), sbs_wrap]; rfl
      · have := KidR.second (X := canB C C.o0 0) (k := 0) (x := C.o0) ok.s0.1 oY f1 f2 f3
        rw [if_pos rfl] at this
        exact this
      · have e1 := sum_zero vx
        have : Back [] 0 none 0 (kds C 0 ++ [0]) (d0 C) (kds C 0 ++ [0]) (d0 C) := .stop
        rw [e1]
        exact this
    · have g := vx.g (by omega) hLx
      have sx := canB_at (C := C) (x := C.o0) (show Lx - 1 < Lx by omega)
      have sy := canB_at (C := C) (x := C.last l') (show Lx - 1 < C.n by omega)
      rw [can_stop (by omega) hLx g] at sx
      rw [can_go (by omega) hLx g] at sy
      have es : (sbs (wrapG true C.b (.lf C.o0)) (wrapG true C.b (.call (.int ((Lx : Nat) : Int)) (C.kd (Lx - 1) : Nat))) 0).1 = some 1 := by rw [sbs_wrap]; rfl
      have last : MPRun (canB C C.o0 Lx) (canB C (C.last l') C.n) 0 (rowsC C Lx) (Lx - 1) (rowsC C Lx) (some (some (Lx - 1), 1)) :=
        .part (r := rowC C (Lx - 1)) (rowsC_at (by omega)) (by rw [(rowC_xy C _).1]; exact sx) (by rw [(rowC_xy C _).2]; exact sy) es
      refine ⟨rowsC C Lx, some (Lx - 1), 1, by rw [rowsC_len]; omega, mp_heads (e := Lx) (by omega) (Nat.le_refl _) (by omega) (mp_walk (e := Lx) (Nat.le_refl _) (by omega) (by omega) (Nat.le_refl _) last (Lx - 1) 0 (by omega)),
        _, _, .lf C.o0, .call (.int ((Lx : Nat) : Int)) (C.kd (Lx - 1) : Nat), C.kd (Lx - 1), kds C Lx ++ [0], Lx - 1 + 1, .inr ⟨Lx - 1, rowC C (Lx - 1), rfl, rowsC_at (by omega), by rw [(rowC_xy C _).1]; exact sx, by rw [(rowC_xy C _).2]; exact sy⟩, dig_wrap (g := true), dig_wrap (g := true), ?_, ?_, hM⟩
      · have := KidR.second (X := canB C C.o0 Lx) (k := C.kd (Lx - 1)) (x := C.o0) ok.s0.1 oY f1 f2 f3
        rw [if_pos rfl] at this
        exact this
      · have := back_rows (C := C) (e := Lx) (Lx - 1) (C.kd (Lx - 1)) (kds C Lx ++ [0]) 1 (by omega)
        rw [path_mid vx (by omega) hLx, sum_mid vx (by omega) hLx] at this
        exact this
  · have hLx := vx.full n1 h0
    subst hLx
    by_cases h0' : C.last l' = C.o0
    · rw [h0'] at vy ⊢
      have hLy := vy.lt n1 rfl
      obtain ⟨oX, F, f1, f2, f3⟩ := far ok h0 vy hLy
      by_cases hz : Ly = 0
      · subst hz
        refine ⟨[], none, d0 C, by simp, .inl ⟨d0 C, ?_, rfl, rfl⟩, canH C C.n, canH C 0, .call (.int ((0 : Nat) : Int)) ((0 : Nat) : Int), .lf C.o0, 0, kds C 0 ++ [0], 0, .inl ⟨rfl, rfl, rfl⟩, by rw [canH_pos (by omega), ← hd0]; exact dig_wrap, by rw [canH_zero, ← hd0]; exact dig_wrap, ?_, ?_, hM⟩
        · show (sbs (canH C C.n) (canH C 0) 0).1 = _
          rw [canH_zero, canH_pos (by omega), sbs_wrap]; rfl
        · have := KidR.first (Y := canB C C.o0 0) (k := 0) (y := C.o0) ok.s0.1 oX f1 f2 f3
          rw [if_pos rfl] at this
          exact this
        · have e1 := sum_zero vy
          have : Back [] 0 none 0 (kds C 0 ++ [0]) (d0 C) (kds C 0 ++ [0]) (d0 C) := .stop
          rw [e1]
          exact this
      · have g := vy.g (by omega) hLy
        have sx := canB_at (C := C) (x := C.last l) (show Ly - 1 < C.n by omega)
        have sy := canB_at (C := C) (x := C.o0) (show Ly - 1 < Ly by omega)
        rw [can_go (by omega) hLy g] at sx
        rw [can_stop (by omega) hLy g] at sy
        have es : (sbs (wrapG true C.b (.call (.int ((Ly : Nat) : Int)) (C.kd (Ly - 1) : Nat))) (wrapG true C.b (.lf C.o0)) 0).1 = some 1 := by rw [sbs_wrap]; rfl
        have last : MPRun (canB C (C.last l) C.n) (canB C C.o0 Ly) 0 (rowsC C Ly) (Ly - 1) (rowsC C Ly) (some (some (Ly - 1), 1)) :=
          .part (r := rowC C (Ly - 1)) (rowsC_at (by omega)) (by rw [(rowC_xy C _).1]; exact sx) (by rw [(rowC_xy C _).2]; exact sy) es
        refine ⟨rowsC C Ly, some (Ly - 1), 1, by rw [rowsC_len]; omega, mp_heads (e := Ly) (by omega) (by omega) (Nat.le_refl _) (mp_walk (e := Ly) (by omega) (Nat.le_refl _) (Nat.le_refl _) (by omega) last (Ly - 1) 0 (by omega)),
          _, _, .call (.int ((Ly : Nat) : Int)) (C.kd (Ly - 1) : Nat), .lf C.o0, C.kd (Ly - 1), kds C Ly ++ [0], Ly - 1 + 1, .inr ⟨Ly - 1, rowC C (Ly - 1), rfl, rowsC_at (by omega), by rw [(rowC_xy C _).1]; exact sx, by rw [(rowC_xy C _).2]; exact sy⟩, dig_wrap (g := true), dig_wrap (g := true), ?_, ?_, hM⟩
        · have := KidR.first (Y := canB C C.o0 Ly) (k := C.kd (Ly - 1)) (y := C.o0) ok.s0.1 oX f1 f2 f3
          rw [if_pos rfl] at this
          exact this
        · have := back_rows (C := C) (e := Ly) (Ly - 1) (C.kd (Ly - 1)) (kds C Ly ++ [0]) 1 (by omega)
          rw [path_mid vy (by omega) hLy, sum_mid vy (by omega) hLy] at this
          exact this
    · have hLy := vy.full n1 h0'
      subst hLy
      have sx := canB_at (C := C) (x := C.last l) (show C.n - 1 < C.n by omega)
      have sy := canB_at (C := C) (x := C.last l') (show C.n - 1 < C.n by omega)
      have ex : ∀ z, can C z C.n (C.n - 1) = .lf z := fun z => by unfold can; rw [if_pos (by omega)]
      rw [ex] at sx sy
      have es : (sbs (.lf (C.last l)) (.lf (C.last l')) 0).1 = some 0 := by
        show (if C.last l = C.last l' then none else some 0) = _
        rw [if_neg hne]
      have last : MPRun (canB C (C.last l) C.n) (canB C (C.last l') C.n) 0 (rowsC C C.n) (C.n - 1) (rowsC C C.n) (some (some (C.n - 1), 0)) :=
        .part (r := rowC C (C.n - 1)) (rowsC_at (by omega)) (by rw [(rowC_xy C _).1]; exact sx) (by rw [(rowC_xy C _).2]; exact sy) es
      refine ⟨rowsC C C.n, some (C.n - 1), 0, by rw [rowsC_len]; omega, mp_heads (e := C.n) (by omega) (Nat.le_refl _) (Nat.le_refl _) (mp_walk (e := C.n) (Nat.le_refl _) (Nat.le_refl _) (Nat.le_refl _) (Nat.le_refl _) last (C.n - 1) 0 (by omega)),
        .lf (C.last l), .lf (C.last l'), .lf (C.last l), .lf (C.last l'), 0, [], C.n - 1 + 1, .inr ⟨C.n - 1, rowC C (C.n - 1), rfl, rowsC_at (by omega), by rw [(rowC_xy C _).1]; exact sx, by rw [(rowC_xy C _).2]; exact sy⟩, rfl, rfl, KidR.leaves (last_ok ok l).1 (last_ok ok l').1, ?_, hM⟩
      have := back_rows (C := C) (e := C.n) (C.n - 1) 0 [] 0 (by omega)
      rw [path_end n1, sum_end n1] at this
      exact this
end K80

/-! What the top has left; the end. -/
namespace K80
open PySem PySem.Spec L2 NdefX LamX
open PyProof.Rows hiding St
section
variable {P : Program} {w : World} {K : PySem.W.Frag} {mg : Str → Option Value} {base : Heap}
theorem law_all (T : Top K mg) {c Pt : Addr} (GE : GDefC K mg "earliest" sEarliest ["book"] c) (TB : TabB base mg c Pt) {fl : Addr} {fdl : FuncData} (FL : Fun K "law" "law" sLaw fl fdl) : FnOk P w K mg base CX0 13 fl fdl ["script"] (spLaw K Pt) := by
  have is_knot := ok_is_knot (P := P) (w := w) (base := base) T
  have like_knots := ok_like_knots T is_knot
  have knots_of := ok_knots_of (P := P) (w := w) (base := base) T is_knot 4
  have tall_of := ok_tall_of (P := P) (w := w) (base := base) T is_knot 4
  have calls_in := ok_calls_in (P := P) (w := w) (base := base) T 4 (by decide)
  have small_pattern := ok_small_pattern T tall_of knots_of calls_in
  have looked_at := ok_looked_at T small_pattern
  have holes_in := ok_holes_in (P := P) (w := w) (base := base) T
  have hung := ok_hung T (ok_hung_by (P := P) (w := w) (base := base) T)
  have filled := ok_filled (P := P) (w := w) (base := base) T 4
  have knot_at := ok_knot_at (P := P) (w := w) (base := base) T
  have knot_with := ok_knot_with (P := P) (w := w) (base := base) T
  have first_leaf := ok_first_leaf (P := P) (w := w) (base := base) T
  have narrowed_by := ok_narrowed_by T knot_with like_knots
  have narrowed := ok_narrowed T knot_with like_knots narrowed_by
  have bare := ok_bare (P := P) (w := w) (base := base) T
  have pairs_at := ok_pairs_atN (P := P) (w := w) (base := base) T
  have parted_fronts := ok_parted_fronts T first_leaf narrowed knots_of
  have fronts_of := ok_fronts_of T parted_fronts bare
  have partings_of := ok_partings_of T parted_fronts pairs_at
  have met_in := ok_met_in T calls_in
  have renamed := ok_renamed T calls_in filled
  have early := ok_early T calls_in filled holes_in hung
  have pattern_of := ok_pattern_of (P := P) (w := w) (base := base) T
  have seen_at := ok_seen_at T pattern_of
  have peeked_by := ok_peeked_by T seen_at
  have side_by_side := ok_side_by_side T like_knots 4
  have noted := ok_noted (P := P) (w := w) (base := base) T
  have met_pairs := ok_met_pairs T side_by_side noted
  have one_kind := ok_one_kind (P := P) (w := w) (base := base) T
  have pairs_of := ok_pairs_of T one_kind met_pairs
  have tree_unlike := ok_tree_unlike T partings_of peeked_by
  have kid_for := ok_kid_for T tree_unlike peeked_by
  have patterns_at := ok_patterns_at (P := P) (w := w) (base := base) T
  have earliest := ok_earliest T GE TB fronts_of early looked_at met_in renamed holes_in knot_at
  have alike := ok_alike T one_kind earliest pairs_of
  have parted := ok_parted T one_kind earliest met_pairs first_leaf patterns_at knot_at kid_for knot_with
  have law_cell := ok_law_cell (P := P) (w := w) (base := base) T
  have law_folded := ok_law_folded (P := P) (w := w) (base := base) T
  have law_names := ok_law_names (P := P) (w := w) (base := base) T
  have law_name_at := ok_law_name_at (P := P) (w := w) (base := base) T
  have law_outcome_name := ok_law_outcome_name T law_name_at
  have law_is_tree := ok_law_is_tree (P := P) (w := w) (base := base) T
  have law_shows := ok_law_shows T law_is_tree law_outcome_name
  have law_chain := ok_law_chain T law_cell law_folded
  have law_round := ok_law_round (P := P) (w := w) (base := base) T
  have law_rounds := ok_law_rounds T law_round alike parted earliest pairs_of
  exact ok_law T FL names_thm chain_thm round_thm law_cell law_names law_chain law_rounds alike parted law_shows

theorem binds_of {fd : FuncData} {ps : List Str} (h : ∀ us : List Value, us.length = ps.length → bindArgs fd ⟨us, []⟩ = pure (ps.zip us)) : Binds K fd ps [] := fun s us hK hl => .of_eq (by rw [List.append_nil] at hl ⊢; exact h us hl)
theorem all_mk {l : PySem.W.OpenLaw} {h : Heap} {fa cE Pt : Addr} (X : K.In h) (G : h.Ns mainGlobals mg) (hfa : mg "law" = some (.ref fa)) (hPt : h.get? Pt = some (PySem.W.tabObj #[])) (nPt : K.lookup Pt = none) 
    {f0 : Addr} {oc0 kV0 dc0 pm0 ct0 : Value} {od0 an0 : Option Addr} {sl0 : Array (Option Value)} {cd0 : Value}
    {f1 : Addr} {oc1 kV1 dc1 pm1 ct1 : Value} {od1 an1 : Option Addr} {sl1 : Array (Option Value)} {cd1 : Value}
    {f2 : Addr} {oc2 kV2 dc2 pm2 ct2 : Value} {od2 an2 : Option Addr} {sl2 : Array (Option Value)} {cd2 : Value}
    {f3 : Addr} {oc3 kV3 dc3 pm3 ct3 : Value} {od3 an3 : Option Addr} {sl3 : Array (Option Value)} {cd3 : Value}
    {f4 : Addr} {oc4 kV4 dc4 pm4 ct4 : Value} {od4 an4 : Option Addr} {sl4 : Array (Option Value)} {cd4 : Value}
    {f5 : Addr} {oc5 kV5 dc5 pm5 ct5 : Value} {od5 an5 : Option Addr} {sl5 : Array (Option Value)} {cd5 : Value}
    {f6 : Addr} {oc6 kV6 dc6 pm6 ct6 : Value} {od6 an6 : Option Addr} {sl6 : Array (Option Value)} {cd6 : Value}
    {f7 : Addr} {oc7 kV7 dc7 pm7 ct7 : Value} {od7 an7 : Option Addr} {sl7 : Array (Option Value)} {cd7 : Value}
    {f8 : Addr} {oc8 kV8 dc8 pm8 ct8 : Value} {od8 an8 : Option Addr} {sl8 : Array (Option Value)} {cd8 : Value}
    {f9 : Addr} {oc9 kV9 dc9 pm9 ct9 : Value} {od9 an9 : Option Addr} {sl9 : Array (Option Value)} {cd9 : Value}
    {f10 : Addr} {oc10 kV10 dc10 pm10 ct10 : Value} {od10 an10 : Option Addr} {sl10 : Array (Option Value)} {cd10 : Value}
    {f11 : Addr} {oc11 kV11 dc11 pm11 ct11 : Value} {od11 an11 : Option Addr} {sl11 : Array (Option Value)} {cd11 : Value}
    {f12 : Addr} {oc12 kV12 dc12 pm12 ct12 : Value} {od12 an12 : Option Addr} {sl12 : Array (Option Value)} {cd12 : Value}
    {f13 : Addr} {oc13 kV13 dc13 pm13 ct13 : Value} {od13 an13 : Option Addr} {sl13 : Array (Option Value)} {cd13 : Value}
    {f14 : Addr} {oc14 kV14 dc14 pm14 ct14 : Value} {od14 an14 : Option Addr} {sl14 : Array (Option Value)} {cd14 : Value}
    {f15 : Addr} {oc15 kV15 dc15 pm15 ct15 : Value} {od15 an15 : Option Addr} {sl15 : Array (Option Value)} {cd15 : Value}
    {f16 : Addr} {oc16 kV16 dc16 pm16 ct16 : Value} {od16 an16 : Option Addr} {sl16 : Array (Option Value)} {cd16 : Value}
    {f17 : Addr} {oc17 kV17 dc17 pm17 ct17 : Value} {od17 an17 : Option Addr} {sl17 : Array (Option Value)} {cd17 : Value}
    {f18 : Addr} {oc18 kV18 dc18 pm18 ct18 : Value} {od18 an18 : Option Addr} {sl18 : Array (Option Value)} {cd18 : Value}
    {f19 : Addr} {oc19 kV19 dc19 pm19 ct19 : Value} {od19 an19 : Option Addr} {sl19 : Array (Option Value)} {cd19 : Value}
    {f20 : Addr} {oc20 kV20 dc20 pm20 ct20 : Value} {od20 an20 : Option Addr} {sl20 : Array (Option Value)} {cd20 : Value}
    {f21 : Addr} {oc21 kV21 dc21 pm21 ct21 : Value} {od21 an21 : Option Addr} {sl21 : Array (Option Value)} {cd21 : Value}
    {f22 : Addr} {oc22 kV22 dc22 pm22 ct22 : Value} {od22 an22 : Option Addr} {sl22 : Array (Option Value)} {cd22 : Value}
    {f23 : Addr} {oc23 kV23 dc23 pm23 ct23 : Value} {od23 an23 : Option Addr} {sl23 : Array (Option Value)} {cd23 : Value}
    {f24 : Addr} {oc24 kV24 dc24 pm24 ct24 : Value} {od24 an24 : Option Addr} {sl24 : Array (Option Value)} {cd24 : Value}
    {f25 : Addr} {oc25 kV25 dc25 pm25 ct25 : Value} {od25 an25 : Option Addr} {sl25 : Array (Option Value)} {cd25 : Value}
    {f26 : Addr} {oc26 kV26 dc26 pm26 ct26 : Value} {od26 an26 : Option Addr} {sl26 : Array (Option Value)}
    {f27 : Addr} {oc27 kV27 dc27 pm27 ct27 : Value} {od27 an27 : Option Addr} {sl27 : Array (Option Value)} {cd27 : Value}
    {f28 : Addr} {oc28 kV28 dc28 pm28 ct28 : Value} {od28 an28 : Option Addr} {sl28 : Array (Option Value)} {cd28 : Value}
    {f29 : Addr} {oc29 kV29 dc29 pm29 ct29 : Value} {od29 an29 : Option Addr} {sl29 : Array (Option Value)} {cd29 : Value}
    {f30 : Addr} {oc30 kV30 dc30 pm30 ct30 : Value} {od30 an30 : Option Addr} {sl30 : Array (Option Value)} {cd30 : Value}
    {f31 : Addr} {oc31 kV31 dc31 pm31 ct31 : Value} {od31 an31 : Option Addr} {sl31 : Array (Option Value)} {cd31 : Value}
    {f32 : Addr} {oc32 kV32 dc32 pm32 ct32 : Value} {od32 an32 : Option Addr} {sl32 : Array (Option Value)} {cd32 : Value}
    {f33 : Addr} {oc33 kV33 dc33 pm33 ct33 : Value} {od33 an33 : Option Addr} {sl33 : Array (Option Value)} {cd33 : Value}
    {f34 : Addr} {oc34 kV34 dc34 pm34 ct34 : Value} {od34 an34 : Option Addr} {sl34 : Array (Option Value)} {cd34 : Value}
    {f35 : Addr} {oc35 kV35 dc35 pm35 ct35 : Value} {od35 an35 : Option Addr} {sl35 : Array (Option Value)} {cd35 : Value}
    {f36 : Addr} {oc36 kV36 dc36 pm36 ct36 : Value} {od36 an36 : Option Addr} {sl36 : Array (Option Value)} {cd36 : Value}
    {f37 : Addr} {oc37 kV37 dc37 pm37 ct37 : Value} {od37 an37 : Option Addr} {sl37 : Array (Option Value)} {cd37 : Value}
    {f38 : Addr} {oc38 kV38 dc38 pm38 ct38 : Value} {od38 an38 : Option Addr} {sl38 : Array (Option Value)} {cd38 : Value}
    {f39 : Addr} {oc39 kV39 dc39 pm39 ct39 : Value} {od39 an39 : Option Addr} {sl39 : Array (Option Value)} {cd39 : Value}
    {f40 : Addr} {oc40 kV40 dc40 pm40 ct40 : Value} {od40 an40 : Option Addr} {sl40 : Array (Option Value)} {cd40 : Value}
    {f41 : Addr} {oc41 kV41 dc41 pm41 ct41 : Value} {od41 an41 : Option Addr} {sl41 : Array (Option Value)} {cd41 : Value}
    {f42 : Addr} {oc42 kV42 dc42 pm42 ct42 : Value} {od42 an42 : Option Addr} {sl42 : Array (Option Value)} {cd42 : Value}
    {f43 : Addr} {oc43 kV43 dc43 pm43 ct43 : Value} {od43 an43 : Option Addr} {sl43 : Array (Option Value)} {cd43 : Value}
    {f44 : Addr} {oc44 kV44 dc44 pm44 ct44 : Value} {od44 an44 : Option Addr} {sl44 : Array (Option Value)} {cd44 : Value}
    {f45 : Addr} {oc45 kV45 dc45 pm45 ct45 : Value} {od45 an45 : Option Addr} {sl45 : Array (Option Value)} {cd45 : Value}
    {f46 : Addr} {oc46 kV46 dc46 pm46 ct46 : Value} {od46 an46 : Option Addr} {sl46 : Array (Option Value)} {cd46 : Value}
    {f47 : Addr} {oc47 kV47 dc47 pm47 ct47 : Value} {od47 an47 : Option Addr} {sl47 : Array (Option Value)} {cd47 : Value}
    {f48 : Addr} {oc48 kV48 dc48 pm48 ct48 : Value} {od48 an48 : Option Addr} {sl48 : Array (Option Value)} {cd48 : Value}
    {f49 : Addr} {oc49 kV49 dc49 pm49 ct49 : Value} {od49 an49 : Option Addr} {sl49 : Array (Option Value)} {cd49 : Value}
    {tCALL : Tok}
    {tHOLED : Tok}
    {tMOST_STATES : Tok}
    {tMOST_KNOTS : Tok}
    {tMOST_CALLS : Tok}
    {tTALLEST : Tok}
    {aH : Addr} {ddH : Option Addr} {tH : Tok} {nH : Nat} {slH : Array (Option Value)}
    (a0 : PySem.W.nsIn K mainGlobals "knot_at" = some (some (.ref f0)))
    (l0 : K.lookup f0 = some ⟨oc0, od0, .func (PySem.W.fnOf "knot_at" "knot_at" (defArgs sKnotAt) (defBody sKnotAt) (defScope sKnotAt) .none kV0 dc0 pm0 an0 cd0 ct0), sl0⟩)
    (c0 : PySem.W.codeIn K cd0 "knot_at" = true)
    (k0 : PySem.W.keepIn K (.ref f0) = true)
    (a1 : PySem.W.nsIn K mainGlobals "is_knot" = some (some (.ref f1)))
    (l1 : K.lookup f1 = some ⟨oc1, od1, .func (PySem.W.fnOf "is_knot" "is_knot" (defArgs sIsKnot) (defBody sIsKnot) (defScope sIsKnot) .none kV1 dc1 pm1 an1 cd1 ct1), sl1⟩)
    (c1 : PySem.W.codeIn K cd1 "is_knot" = true)
    (k1 : PySem.W.keepIn K (.ref f1) = true)
    (a2 : PySem.W.nsIn K mainGlobals "knots_of" = some (some (.ref f2)))
    (l2 : K.lookup f2 = some ⟨oc2, od2, .func (PySem.W.fnOf "knots_of" "knots_of" (defArgs sKnotsOf) (defBody sKnotsOf) (defScope sKnotsOf) .none kV2 dc2 pm2 an2 cd2 ct2), sl2⟩)
    (c2 : PySem.W.codeIn K cd2 "knots_of" = true)
    (k2 : PySem.W.keepIn K (.ref f2) = true)
    (a3 : PySem.W.nsIn K mainGlobals "tall_of" = some (some (.ref f3)))
    (l3 : K.lookup f3 = some ⟨oc3, od3, .func (PySem.W.fnOf "tall_of" "tall_of" (defArgs sTallOf) (defBody sTallOf) (defScope sTallOf) .none kV3 dc3 pm3 an3 cd3 ct3), sl3⟩)
    (c3 : PySem.W.codeIn K cd3 "tall_of" = true)
    (k3 : PySem.W.keepIn K (.ref f3) = true)
    (a4 : PySem.W.nsIn K mainGlobals "calls_in" = some (some (.ref f4)))
    (l4 : K.lookup f4 = some ⟨oc4, od4, .func (PySem.W.fnOf "calls_in" "calls_in" (defArgs sCallsIn) (defBody sCallsIn) (defScope sCallsIn) .none kV4 dc4 pm4 an4 cd4 ct4), sl4⟩)
    (c4 : PySem.W.codeIn K cd4 "calls_in" = true)
    (k4 : PySem.W.keepIn K (.ref f4) = true)
    (a5 : PySem.W.nsIn K mainGlobals "filled" = some (some (.ref f5)))
    (l5 : K.lookup f5 = some ⟨oc5, od5, .func (PySem.W.fnOf "filled" "filled" (defArgs sFilled) (defBody sFilled) (defScope sFilled) .none kV5 dc5 pm5 an5 cd5 ct5), sl5⟩)
    (c5 : PySem.W.codeIn K cd5 "filled" = true)
    (k5 : PySem.W.keepIn K (.ref f5) = true)
    (a6 : PySem.W.nsIn K mainGlobals "holes_in" = some (some (.ref f6)))
    (l6 : K.lookup f6 = some ⟨oc6, od6, .func (PySem.W.fnOf "holes_in" "holes_in" (defArgs sHolesIn) (defBody sHolesIn) (defScope sHolesIn) .none kV6 dc6 pm6 an6 cd6 ct6), sl6⟩)
    (c6 : PySem.W.codeIn K cd6 "holes_in" = true)
    (k6 : PySem.W.keepIn K (.ref f6) = true)
    (a7 : PySem.W.nsIn K mainGlobals "like_knots" = some (some (.ref f7)))
    (l7 : K.lookup f7 = some ⟨oc7, od7, .func (PySem.W.fnOf "like_knots" "like_knots" (defArgs sLikeKnots) (defBody sLikeKnots) (defScope sLikeKnots) .none kV7 dc7 pm7 an7 cd7 ct7), sl7⟩)
    (c7 : PySem.W.codeIn K cd7 "like_knots" = true)
    (k7 : PySem.W.keepIn K (.ref f7) = true)
    (a8 : PySem.W.nsIn K mainGlobals "hung_by" = some (some (.ref f8)))
    (l8 : K.lookup f8 = some ⟨oc8, od8, .func (PySem.W.fnOf "hung_by" "hung_by" (defArgs sHungBy) (defBody sHungBy) (defScope sHungBy) .none kV8 dc8 pm8 an8 cd8 ct8), sl8⟩)
    (c8 : PySem.W.codeIn K cd8 "hung_by" = true)
    (k8 : PySem.W.keepIn K (.ref f8) = true)
    (a9 : PySem.W.nsIn K mainGlobals "hung" = some (some (.ref f9)))
    (l9 : K.lookup f9 = some ⟨oc9, od9, .func (PySem.W.fnOf "hung" "hung" (defArgs sHung) (defBody sHung) (defScope sHung) .none kV9 dc9 pm9 an9 cd9 ct9), sl9⟩)
    (c9 : PySem.W.codeIn K cd9 "hung" = true)
    (k9 : PySem.W.keepIn K (.ref f9) = true)
    (a10 : PySem.W.nsIn K mainGlobals "small_pattern" = some (some (.ref f10)))
    (l10 : K.lookup f10 = some ⟨oc10, od10, .func (PySem.W.fnOf "small_pattern" "small_pattern" (defArgs sSmallPattern) (defBody sSmallPattern) (defScope sSmallPattern) .none kV10 dc10 pm10 an10 cd10 ct10), sl10⟩)
    (c10 : PySem.W.codeIn K cd10 "small_pattern" = true)
    (k10 : PySem.W.keepIn K (.ref f10) = true)
    (a11 : PySem.W.nsIn K mainGlobals "pattern_of" = some (some (.ref f11)))
    (l11 : K.lookup f11 = some ⟨oc11, od11, .func (PySem.W.fnOf "pattern_of" "pattern_of" (defArgs sPatternOf) (defBody sPatternOf) (defScope sPatternOf) .none kV11 dc11 pm11 an11 cd11 ct11), sl11⟩)
    (c11 : PySem.W.codeIn K cd11 "pattern_of" = true)
    (k11 : PySem.W.keepIn K (.ref f11) = true)
    (a12 : PySem.W.nsIn K mainGlobals "knot_with" = some (some (.ref f12)))
    (l12 : K.lookup f12 = some ⟨oc12, od12, .func (PySem.W.fnOf "knot_with" "knot_with" (defArgs sKnotWith) (defBody sKnotWith) (defScope sKnotWith) .none kV12 dc12 pm12 an12 cd12 ct12), sl12⟩)
    (c12 : PySem.W.codeIn K cd12 "knot_with" = true)
    (k12 : PySem.W.keepIn K (.ref f12) = true)
    (a13 : PySem.W.nsIn K mainGlobals "narrowed_by" = some (some (.ref f13)))
    (l13 : K.lookup f13 = some ⟨oc13, od13, .func (PySem.W.fnOf "narrowed_by" "narrowed_by" (defArgs sNarrowedBy) (defBody sNarrowedBy) (defScope sNarrowedBy) .none kV13 dc13 pm13 an13 cd13 ct13), sl13⟩)
    (c13 : PySem.W.codeIn K cd13 "narrowed_by" = true)
    (k13 : PySem.W.keepIn K (.ref f13) = true)
    (a14 : PySem.W.nsIn K mainGlobals "narrowed" = some (some (.ref f14)))
    (l14 : K.lookup f14 = some ⟨oc14, od14, .func (PySem.W.fnOf "narrowed" "narrowed" (defArgs sNarrowed) (defBody sNarrowed) (defScope sNarrowed) .none kV14 dc14 pm14 an14 cd14 ct14), sl14⟩)
    (c14 : PySem.W.codeIn K cd14 "narrowed" = true)
    (k14 : PySem.W.keepIn K (.ref f14) = true)
    (a15 : PySem.W.nsIn K mainGlobals "first_leaf" = some (some (.ref f15)))
    (l15 : K.lookup f15 = some ⟨oc15, od15, .func (PySem.W.fnOf "first_leaf" "first_leaf" (defArgs sFirstLeaf) (defBody sFirstLeaf) (defScope sFirstLeaf) .none kV15 dc15 pm15 an15 cd15 ct15), sl15⟩)
    (c15 : PySem.W.codeIn K cd15 "first_leaf" = true)
    (k15 : PySem.W.keepIn K (.ref f15) = true)
    (a16 : PySem.W.nsIn K mainGlobals "parted_fronts" = some (some (.ref f16)))
    (l16 : K.lookup f16 = some ⟨oc16, od16, .func (PySem.W.fnOf "parted_fronts" "parted_fronts" (defArgs sPartedFronts) (defBody sPartedFronts) (defScope sPartedFronts) .none kV16 dc16 pm16 an16 cd16 ct16), sl16⟩)
    (c16 : PySem.W.codeIn K cd16 "parted_fronts" = true)
    (k16 : PySem.W.keepIn K (.ref f16) = true)
    (a17 : PySem.W.nsIn K mainGlobals "bare" = some (some (.ref f17)))
    (l17 : K.lookup f17 = some ⟨oc17, od17, .func (PySem.W.fnOf "bare" "bare" (defArgs sBare) (defBody sBare) (defScope sBare) .none kV17 dc17 pm17 an17 cd17 ct17), sl17⟩)
    (c17 : PySem.W.codeIn K cd17 "bare" = true)
    (k17 : PySem.W.keepIn K (.ref f17) = true)
    (a18 : PySem.W.nsIn K mainGlobals "pairs_at" = some (some (.ref f18)))
    (l18 : K.lookup f18 = some ⟨oc18, od18, .func (PySem.W.fnOf "pairs_at" "pairs_at" (defArgs sPairsAt) (defBody sPairsAt) (defScope sPairsAt) .none kV18 dc18 pm18 an18 cd18 ct18), sl18⟩)
    (c18 : PySem.W.codeIn K cd18 "pairs_at" = true)
    (k18 : PySem.W.keepIn K (.ref f18) = true)
    (a19 : PySem.W.nsIn K mainGlobals "fronts_of" = some (some (.ref f19)))
    (l19 : K.lookup f19 = some ⟨oc19, od19, .func (PySem.W.fnOf "fronts_of" "fronts_of" (defArgs sFrontsOf) (defBody sFrontsOf) (defScope sFrontsOf) .none kV19 dc19 pm19 an19 cd19 ct19), sl19⟩)
    (c19 : PySem.W.codeIn K cd19 "fronts_of" = true)
    (k19 : PySem.W.keepIn K (.ref f19) = true)
    (a20 : PySem.W.nsIn K mainGlobals "partings_of" = some (some (.ref f20)))
    (l20 : K.lookup f20 = some ⟨oc20, od20, .func (PySem.W.fnOf "partings_of" "partings_of" (defArgs sPartingsOf) (defBody sPartingsOf) (defScope sPartingsOf) .none kV20 dc20 pm20 an20 cd20 ct20), sl20⟩)
    (c20 : PySem.W.codeIn K cd20 "partings_of" = true)
    (k20 : PySem.W.keepIn K (.ref f20) = true)
    (a21 : PySem.W.nsIn K mainGlobals "met_in" = some (some (.ref f21)))
    (l21 : K.lookup f21 = some ⟨oc21, od21, .func (PySem.W.fnOf "met_in" "met_in" (defArgs sMetIn) (defBody sMetIn) (defScope sMetIn) .none kV21 dc21 pm21 an21 cd21 ct21), sl21⟩)
    (c21 : PySem.W.codeIn K cd21 "met_in" = true)
    (k21 : PySem.W.keepIn K (.ref f21) = true)
    (a22 : PySem.W.nsIn K mainGlobals "renamed" = some (some (.ref f22)))
    (l22 : K.lookup f22 = some ⟨oc22, od22, .func (PySem.W.fnOf "renamed" "renamed" (defArgs sRenamed) (defBody sRenamed) (defScope sRenamed) .none kV22 dc22 pm22 an22 cd22 ct22), sl22⟩)
    (c22 : PySem.W.codeIn K cd22 "renamed" = true)
    (k22 : PySem.W.keepIn K (.ref f22) = true)
    (a23 : PySem.W.nsIn K mainGlobals "numbered" = some (some (.ref f23)))
    (l23 : K.lookup f23 = some ⟨oc23, od23, .func (PySem.W.fnOf "numbered" "numbered" (defArgs sNumbered) (defBody sNumbered) (defScope sNumbered) .none kV23 dc23 pm23 an23 cd23 ct23), sl23⟩)
    (c23 : PySem.W.codeIn K cd23 "numbered" = true)
    (k23 : PySem.W.keepIn K (.ref f23) = true)
    (a24 : PySem.W.nsIn K mainGlobals "early" = some (some (.ref f24)))
    (l24 : K.lookup f24 = some ⟨oc24, od24, .func (PySem.W.fnOf "early" "early" (defArgs sEarly) (defBody sEarly) (defScope sEarly) .none kV24 dc24 pm24 an24 cd24 ct24), sl24⟩)
    (c24 : PySem.W.codeIn K cd24 "early" = true)
    (k24 : PySem.W.keepIn K (.ref f24) = true)
    (a25 : PySem.W.nsIn K mainGlobals "looked_at" = some (some (.ref f25)))
    (l25 : K.lookup f25 = some ⟨oc25, od25, .func (PySem.W.fnOf "looked_at" "looked_at" (defArgs sLookedAt) (defBody sLookedAt) (defScope sLookedAt) .none kV25 dc25 pm25 an25 cd25 ct25), sl25⟩)
    (c25 : PySem.W.codeIn K cd25 "looked_at" = true)
    (k25 : PySem.W.keepIn K (.ref f25) = true)
    (a26 : PySem.W.nsIn K mainGlobals "earliest" = some (some (.ref f26)))
    (l26 : K.lookup f26 = some ⟨oc26, od26, .func (PySem.W.fnOf "earliest" "earliest" (defArgs sEarliest) (defBody sEarliest) (defScope sEarliest) .none kV26 dc26 pm26 an26 (.ref cE) ct26), sl26⟩)
    (c26 : PySem.W.codeIn K (.ref cE) "earliest" = true)
    (k26 : PySem.W.keepIn K (.ref f26) = true)
    (a27 : PySem.W.nsIn K mainGlobals "seen_at" = some (some (.ref f27)))
    (l27 : K.lookup f27 = some ⟨oc27, od27, .func (PySem.W.fnOf "seen_at" "seen_at" (defArgs sSeenAt) (defBody sSeenAt) (defScope sSeenAt) .none kV27 dc27 pm27 an27 cd27 ct27), sl27⟩)
    (c27 : PySem.W.codeIn K cd27 "seen_at" = true)
    (k27 : PySem.W.keepIn K (.ref f27) = true)
    (a28 : PySem.W.nsIn K mainGlobals "peeked_by" = some (some (.ref f28)))
    (l28 : K.lookup f28 = some ⟨oc28, od28, .func (PySem.W.fnOf "peeked_by" "peeked_by" (defArgs sPeekedBy) (defBody sPeekedBy) (defScope sPeekedBy) .none kV28 dc28 pm28 an28 cd28 ct28), sl28⟩)
    (c28 : PySem.W.codeIn K cd28 "peeked_by" = true)
    (k28 : PySem.W.keepIn K (.ref f28) = true)
    (a29 : PySem.W.nsIn K mainGlobals "side_by_side" = some (some (.ref f29)))
    (l29 : K.lookup f29 = some ⟨oc29, od29, .func (PySem.W.fnOf "side_by_side" "side_by_side" (defArgs sSideBySide) (defBody sSideBySide) (defScope sSideBySide) .none kV29 dc29 pm29 an29 cd29 ct29), sl29⟩)
    (c29 : PySem.W.codeIn K cd29 "side_by_side" = true)
    (k29 : PySem.W.keepIn K (.ref f29) = true)
    (a30 : PySem.W.nsIn K mainGlobals "noted" = some (some (.ref f30)))
    (l30 : K.lookup f30 = some ⟨oc30, od30, .func (PySem.W.fnOf "noted" "noted" (defArgs sNoted) (defBody sNoted) (defScope sNoted) .none kV30 dc30 pm30 an30 cd30 ct30), sl30⟩)
    (c30 : PySem.W.codeIn K cd30 "noted" = true)
    (k30 : PySem.W.keepIn K (.ref f30) = true)
    (a31 : PySem.W.nsIn K mainGlobals "met_pairs" = some (some (.ref f31)))
    (l31 : K.lookup f31 = some ⟨oc31, od31, .func (PySem.W.fnOf "met_pairs" "met_pairs" (defArgs sMetPairs) (defBody sMetPairs) (defScope sMetPairs) .none kV31 dc31 pm31 an31 cd31 ct31), sl31⟩)
    (c31 : PySem.W.codeIn K cd31 "met_pairs" = true)
    (k31 : PySem.W.keepIn K (.ref f31) = true)
    (a32 : PySem.W.nsIn K mainGlobals "one_kind" = some (some (.ref f32)))
    (l32 : K.lookup f32 = some ⟨oc32, od32, .func (PySem.W.fnOf "one_kind" "one_kind" (defArgs sOneKind) (defBody sOneKind) (defScope sOneKind) .none kV32 dc32 pm32 an32 cd32 ct32), sl32⟩)
    (c32 : PySem.W.codeIn K cd32 "one_kind" = true)
    (k32 : PySem.W.keepIn K (.ref f32) = true)
    (a33 : PySem.W.nsIn K mainGlobals "pairs_of" = some (some (.ref f33)))
    (l33 : K.lookup f33 = some ⟨oc33, od33, .func (PySem.W.fnOf "pairs_of" "pairs_of" (defArgs sPairsOf) (defBody sPairsOf) (defScope sPairsOf) .none kV33 dc33 pm33 an33 cd33 ct33), sl33⟩)
    (c33 : PySem.W.codeIn K cd33 "pairs_of" = true)
    (k33 : PySem.W.keepIn K (.ref f33) = true)
    (a34 : PySem.W.nsIn K mainGlobals "alike" = some (some (.ref f34)))
    (l34 : K.lookup f34 = some ⟨oc34, od34, .func (PySem.W.fnOf "alike" "alike" (defArgs sAlike) (defBody sAlike) (defScope sAlike) .none kV34 dc34 pm34 an34 cd34 ct34), sl34⟩)
    (c34 : PySem.W.codeIn K cd34 "alike" = true)
    (k34 : PySem.W.keepIn K (.ref f34) = true)
    (a35 : PySem.W.nsIn K mainGlobals "tree_unlike" = some (some (.ref f35)))
    (l35 : K.lookup f35 = some ⟨oc35, od35, .func (PySem.W.fnOf "tree_unlike" "tree_unlike" (defArgs sTreeUnlike) (defBody sTreeUnlike) (defScope sTreeUnlike) .none kV35 dc35 pm35 an35 cd35 ct35), sl35⟩)
    (c35 : PySem.W.codeIn K cd35 "tree_unlike" = true)
    (k35 : PySem.W.keepIn K (.ref f35) = true)
    (a36 : PySem.W.nsIn K mainGlobals "kid_for" = some (some (.ref f36)))
    (l36 : K.lookup f36 = some ⟨oc36, od36, .func (PySem.W.fnOf "kid_for" "kid_for" (defArgs sKidFor) (defBody sKidFor) (defScope sKidFor) .none kV36 dc36 pm36 an36 cd36 ct36), sl36⟩)
    (c36 : PySem.W.codeIn K cd36 "kid_for" = true)
    (k36 : PySem.W.keepIn K (.ref f36) = true)
    (a37 : PySem.W.nsIn K mainGlobals "patterns_at" = some (some (.ref f37)))
    (l37 : K.lookup f37 = some ⟨oc37, od37, .func (PySem.W.fnOf "patterns_at" "patterns_at" (defArgs sPatternsAt) (defBody sPatternsAt) (defScope sPatternsAt) .none kV37 dc37 pm37 an37 cd37 ct37), sl37⟩)
    (c37 : PySem.W.codeIn K cd37 "patterns_at" = true)
    (k37 : PySem.W.keepIn K (.ref f37) = true)
    (a38 : PySem.W.nsIn K mainGlobals "parted" = some (some (.ref f38)))
    (l38 : K.lookup f38 = some ⟨oc38, od38, .func (PySem.W.fnOf "parted" "parted" (defArgs sParted) (defBody sParted) (defScope sParted) .none kV38 dc38 pm38 an38 cd38 ct38), sl38⟩)
    (c38 : PySem.W.codeIn K cd38 "parted" = true)
    (k38 : PySem.W.keepIn K (.ref f38) = true)
    (a39 : PySem.W.nsIn K mainGlobals "_law_cell" = some (some (.ref f39)))
    (l39 : K.lookup f39 = some ⟨oc39, od39, .func (PySem.W.fnOf "_law_cell" "_law_cell" (defArgs sLCell) (defBody sLCell) (defScope sLCell) .none kV39 dc39 pm39 an39 cd39 ct39), sl39⟩)
    (c39 : PySem.W.codeIn K cd39 "_law_cell" = true)
    (k39 : PySem.W.keepIn K (.ref f39) = true)
    (a40 : PySem.W.nsIn K mainGlobals "_law_folded" = some (some (.ref f40)))
    (l40 : K.lookup f40 = some ⟨oc40, od40, .func (PySem.W.fnOf "_law_folded" "_law_folded" (defArgs sLFolded) (defBody sLFolded) (defScope sLFolded) .none kV40 dc40 pm40 an40 cd40 ct40), sl40⟩)
    (c40 : PySem.W.codeIn K cd40 "_law_folded" = true)
    (k40 : PySem.W.keepIn K (.ref f40) = true)
    (a41 : PySem.W.nsIn K mainGlobals "_law_names" = some (some (.ref f41)))
    (l41 : K.lookup f41 = some ⟨oc41, od41, .func (PySem.W.fnOf "_law_names" "_law_names" (defArgs sLNames) (defBody sLNames) (defScope sLNames) .none kV41 dc41 pm41 an41 cd41 ct41), sl41⟩)
    (c41 : PySem.W.codeIn K cd41 "_law_names" = true)
    (k41 : PySem.W.keepIn K (.ref f41) = true)
    (a42 : PySem.W.nsIn K mainGlobals "_law_name_at" = some (some (.ref f42)))
    (l42 : K.lookup f42 = some ⟨oc42, od42, .func (PySem.W.fnOf "_law_name_at" "_law_name_at" (defArgs sLNameAt) (defBody sLNameAt) (defScope sLNameAt) .none kV42 dc42 pm42 an42 cd42 ct42), sl42⟩)
    (c42 : PySem.W.codeIn K cd42 "_law_name_at" = true)
    (k42 : PySem.W.keepIn K (.ref f42) = true)
    (a43 : PySem.W.nsIn K mainGlobals "_law_outcome_name" = some (some (.ref f43)))
    (l43 : K.lookup f43 = some ⟨oc43, od43, .func (PySem.W.fnOf "_law_outcome_name" "_law_outcome_name" (defArgs sLOutcomeName) (defBody sLOutcomeName) (defScope sLOutcomeName) .none kV43 dc43 pm43 an43 cd43 ct43), sl43⟩)
    (c43 : PySem.W.codeIn K cd43 "_law_outcome_name" = true)
    (k43 : PySem.W.keepIn K (.ref f43) = true)
    (a44 : PySem.W.nsIn K mainGlobals "_law_is_tree" = some (some (.ref f44)))
    (l44 : K.lookup f44 = some ⟨oc44, od44, .func (PySem.W.fnOf "_law_is_tree" "_law_is_tree" (defArgs sLIsTree) (defBody sLIsTree) (defScope sLIsTree) .none kV44 dc44 pm44 an44 cd44 ct44), sl44⟩)
    (c44 : PySem.W.codeIn K cd44 "_law_is_tree" = true)
    (k44 : PySem.W.keepIn K (.ref f44) = true)
    (a45 : PySem.W.nsIn K mainGlobals "_law_shows" = some (some (.ref f45)))
    (l45 : K.lookup f45 = some ⟨oc45, od45, .func (PySem.W.fnOf "_law_shows" "_law_shows" (defArgs sLShows) (defBody sLShows) (defScope sLShows) .none kV45 dc45 pm45 an45 cd45 ct45), sl45⟩)
    (c45 : PySem.W.codeIn K cd45 "_law_shows" = true)
    (k45 : PySem.W.keepIn K (.ref f45) = true)
    (a46 : PySem.W.nsIn K mainGlobals "_law_chain" = some (some (.ref f46)))
    (l46 : K.lookup f46 = some ⟨oc46, od46, .func (PySem.W.fnOf "_law_chain" "_law_chain" (defArgs sLChain) (defBody sLChain) (defScope sLChain) .none kV46 dc46 pm46 an46 cd46 ct46), sl46⟩)
    (c46 : PySem.W.codeIn K cd46 "_law_chain" = true)
    (k46 : PySem.W.keepIn K (.ref f46) = true)
    (a47 : PySem.W.nsIn K mainGlobals "_law_round" = some (some (.ref f47)))
    (l47 : K.lookup f47 = some ⟨oc47, od47, .func (PySem.W.fnOf "_law_round" "_law_round" (defArgs sLRound) (defBody sLRound) (defScope sLRound) .none kV47 dc47 pm47 an47 cd47 ct47), sl47⟩)
    (c47 : PySem.W.codeIn K cd47 "_law_round" = true)
    (k47 : PySem.W.keepIn K (.ref f47) = true)
    (a48 : PySem.W.nsIn K mainGlobals "_law_rounds" = some (some (.ref f48)))
    (l48 : K.lookup f48 = some ⟨oc48, od48, .func (PySem.W.fnOf "_law_rounds" "_law_rounds" (defArgs sLRounds) (defBody sLRounds) (defScope sLRounds) .none kV48 dc48 pm48 an48 cd48 ct48), sl48⟩)
    (c48 : PySem.W.codeIn K cd48 "_law_rounds" = true)
    (k48 : PySem.W.keepIn K (.ref f48) = true)
    (a49 : PySem.W.nsIn K mainGlobals "law" = some (some (.ref f49)))
    (l49 : K.lookup f49 = some ⟨oc49, od49, .func (PySem.W.fnOf "law" "law" (defArgs sLaw) (defBody sLaw) (defScope sLaw) .none kV49 dc49 pm49 an49 cd49 ct49), sl49⟩)
    (c49 : PySem.W.codeIn K cd49 "law" = true)
    (k49 : PySem.W.keepIn K (.ref f49) = true)
    (gCALL : PySem.W.nsIn K mainGlobals "CALL" = some (some (.str "?" tCALL)))
    (gHOLED : PySem.W.nsIn K mainGlobals "HOLED" = some (some (.str "*" tHOLED)))
    (gMOST_STATES : PySem.W.nsIn K mainGlobals "MOST_STATES" = some (some (.int 20 tMOST_STATES)))
    (gMOST_KNOTS : PySem.W.nsIn K mainGlobals "MOST_KNOTS" = some (some (.int 400 tMOST_KNOTS)))
    (gMOST_CALLS : PySem.W.nsIn K mainGlobals "MOST_CALLS" = some (some (.int 200 tMOST_CALLS)))
    (gTALLEST : PySem.W.nsIn K mainGlobals "TALLEST" = some (some (.int 20 tTALLEST)))
    (gH : PySem.W.nsIn K mainGlobals "HOLE" = some (some (.ref aH)))
    (lH : K.lookup aH = some ⟨.type "tuple", ddH, .seq #[.str "*" tH] nH, slH⟩)
    (zlen : PySem.W.nsIn K mainGlobals "len" = some none)
    (zrange : PySem.W.nsIn K mainGlobals "range" = some none)
    (zsum : PySem.W.nsIn K mainGlobals "sum" = some none)
    (zmax : PySem.W.nsIn K mainGlobals "max" = some none)
    (ztuple : PySem.W.nsIn K mainGlobals "tuple" = some none)
    (zlist : PySem.W.nsIn K mainGlobals "list" = some none)
    (zzip : PySem.W.nsIn K mainGlobals "zip" = some none)
    (zisinstance : PySem.W.nsIn K mainGlobals "isinstance" = some none)
    (zstr : PySem.W.nsIn K mainGlobals "str" = some none)
    (zint : PySem.W.nsIn K mainGlobals "int" = some none)
    (zbool : PySem.W.nsIn K mainGlobals "bool" = some none)
    (hh : PySem.W.codeHdIn K cE Pt = true) : LawAtS l w K CX0 13 63 "script" mg fa h := by
  have e := hfa.symm.trans (PySem.W.mg_of X G a49)
  cases e
  have F0 := fun_mk (st := sKnotAt) l0 c0 k0
  have D0 : GDef K mg "knot_at" sKnotAt ["tree", "place"] := ⟨_, _, PySem.W.mg_of X G a0, F0.binds (ps := ["tree", "place"]) (fun _ _ _ _ _ _ us hl => match us, hl with | [_, _], _ => rfl), F0⟩
  have F1 := fun_mk (st := sIsKnot) l1 c1 k1
  have D1 : GDef K mg "is_knot" sIsKnot ["thing"] := ⟨_, _, PySem.W.mg_of X G a1, F1.binds (ps := ["thing"]) (fun _ _ _ _ _ _ us hl => match us, hl with | [_], _ => rfl), F1⟩
  have F2 := fun_mk (st := sKnotsOf) l2 c2 k2
  have D2 : GDef K mg "knots_of" sKnotsOf ["pattern"] := ⟨_, _, PySem.W.mg_of X G a2, F2.binds (ps := ["pattern"]) (fun _ _ _ _ _ _ us hl => match us, hl with | [_], _ => rfl), F2⟩
  have F3 := fun_mk (st := sTallOf) l3 c3 k3
  have D3 : GDef K mg "tall_of" sTallOf ["pattern"] := ⟨_, _, PySem.W.mg_of X G a3, F3.binds (ps := ["pattern"]) (fun _ _ _ _ _ _ us hl => match us, hl with | [_], _ => rfl), F3⟩
  have F4 := fun_mk (st := sCallsIn) l4 c4 k4
  have D4 : GDef K mg "calls_in" sCallsIn ["pattern"] := ⟨_, _, PySem.W.mg_of X G a4, F4.binds (ps := ["pattern"]) (fun _ _ _ _ _ _ us hl => match us, hl with | [_], _ => rfl), F4⟩
  have F5 := fun_mk (st := sFilled) l5 c5 k5
  have D5 : GDef K mg "filled" sFilled ["pattern", "table"] := ⟨_, _, PySem.W.mg_of X G a5, F5.binds (ps := ["pattern", "table"]) (fun _ _ _ _ _ _ us hl => match us, hl with | [_, _], _ => rfl), F5⟩
  have F6 := fun_mk (st := sHolesIn) l6 c6 k6
  have D6 : GDef K mg "holes_in" sHolesIn ["front"] := ⟨_, _, PySem.W.mg_of X G a6, F6.binds (ps := ["front"]) (fun _ _ _ _ _ _ us hl => match us, hl with | [_], _ => rfl), F6⟩
  have F7 := fun_mk (st := sLikeKnots) l7 c7 k7
  have D7 : GDef K mg "like_knots" sLikeKnots ["one", "two"] := ⟨_, _, PySem.W.mg_of X G a7, F7.binds (ps := ["one", "two"]) (fun _ _ _ _ _ _ us hl => match us, hl with | [_, _], _ => rfl), F7⟩
  have F8 := fun_mk (st := sHungBy) l8 c8 k8
  have D8 : GDef K mg "hung_by" sHungBy ["front", "parts", "used"] := ⟨_, _, PySem.W.mg_of X G a8, F8.binds (ps := ["front", "parts", "used"]) (fun _ _ _ _ _ _ us hl => match us, hl with | [_, _, _], _ => rfl), F8⟩
  have F9 := fun_mk (st := sHung) l9 c9 k9
  have D9 : GDef K mg "hung" sHung ["front", "parts"] := ⟨_, _, PySem.W.mg_of X G a9, F9.binds (ps := ["front", "parts"]) (fun _ _ _ _ _ _ us hl => match us, hl with | [_, _], _ => rfl), F9⟩
  have F10 := fun_mk (st := sSmallPattern) l10 c10 k10
  have D10 : GDef K mg "small_pattern" sSmallPattern ["pattern"] := ⟨_, _, PySem.W.mg_of X G a10, F10.binds (ps := ["pattern"]) (fun _ _ _ _ _ _ us hl => match us, hl with | [_], _ => rfl), F10⟩
  have F11 := fun_mk (st := sPatternOf) l11 c11 k11
  have D11 : GDef K mg "pattern_of" sPatternOf ["book", "state", "name"] := ⟨_, _, PySem.W.mg_of X G a11, F11.binds (ps := ["book", "state", "name"]) (fun _ _ _ _ _ _ us hl => match us, hl with | [_, _, _], _ => rfl), F11⟩
  have F12 := fun_mk (st := sKnotWith) l12 c12 k12
  have D12 : GDef K mg "knot_with" sKnotWith ["kind", "leaf", "kid", "tree"] := ⟨_, _, PySem.W.mg_of X G a12, F12.binds (ps := ["kind", "leaf", "kid", "tree"]) (fun _ _ _ _ _ _ us hl => match us, hl with | [_, _, _, _], _ => rfl), F12⟩
  have F13 := fun_mk (st := sNarrowedBy) l13 c13 k13
  have D13 : GDef K mg "narrowed_by" sNarrowedBy ["front", "other", "kind", "leaf", "kid"] := ⟨_, _, PySem.W.mg_of X G a13, F13.binds (ps := ["front", "other", "kind", "leaf", "kid"]) (fun _ _ _ _ _ _ us hl => match us, hl with | [_, _, _, _, _], _ => rfl), F13⟩
  have F14 := fun_mk (st := sNarrowed) l14 c14 k14
  have D14 : GDef K mg "narrowed" sNarrowed ["front", "pattern", "fronts", "kind", "leaf"] := ⟨_, _, PySem.W.mg_of X G a14, F14.binds (ps := ["front", "pattern", "fronts", "kind", "leaf"]) (fun _ _ _ _ _ _ us hl => match us, hl with | [_, _, _, _, _], _ => rfl), F14⟩
  have F15 := fun_mk (st := sFirstLeaf) l15 c15 k15
  have D15 : GDef K mg "first_leaf" sFirstLeaf ["ins"] := ⟨_, _, PySem.W.mg_of X G a15, F15.binds (ps := ["ins"]) (fun _ _ _ _ _ _ us hl => match us, hl with | [_], _ => rfl), F15⟩
  have F16 := fun_mk (st := sPartedFronts) l16 c16 k16
  have D16 : GDef K mg "parted_fronts" sPartedFronts ["book"] := ⟨_, _, PySem.W.mg_of X G a16, F16.binds (ps := ["book"]) (fun _ _ _ _ _ _ us hl => match us, hl with | [_], _ => rfl), F16⟩
  have F17 := fun_mk (st := sBare) l17 c17 k17
  have D17 : GDef K mg "bare" sBare ["front"] := ⟨_, _, PySem.W.mg_of X G a17, F17.binds (ps := ["front"]) (fun _ _ _ _ _ _ us hl => match us, hl with | [_], _ => rfl), F17⟩
  have F18 := fun_mk (st := sPairsAt) l18 c18 k18
  have D18 : GDef K mg "pairs_at" sPairsAt ["front"] := ⟨_, _, PySem.W.mg_of X G a18, F18.binds (ps := ["front"]) (fun _ _ _ _ _ _ us hl => match us, hl with | [_], _ => rfl), F18⟩
  have F19 := fun_mk (st := sFrontsOf) l19 c19 k19
  have D19 : GDef K mg "fronts_of" sFrontsOf ["book"] := ⟨_, _, PySem.W.mg_of X G a19, F19.binds (ps := ["book"]) (fun _ _ _ _ _ _ us hl => match us, hl with | [_], _ => rfl), F19⟩
  have F20 := fun_mk (st := sPartingsOf) l20 c20 k20
  have D20 : GDef K mg "partings_of" sPartingsOf ["book"] := ⟨_, _, PySem.W.mg_of X G a20, F20.binds (ps := ["book"]) (fun _ _ _ _ _ _ us hl => match us, hl with | [_], _ => rfl), F20⟩
  have F21 := fun_mk (st := sMetIn) l21 c21 k21
  have D21 : GDef K mg "met_in" sMetIn ["pattern", "numbers"] := ⟨_, _, PySem.W.mg_of X G a21, F21.binds (ps := ["pattern", "numbers"]) (fun _ _ _ _ _ _ us hl => match us, hl with | [_, _], _ => rfl), F21⟩
  have F22 := fun_mk (st := sRenamed) l22 c22 k22
  have D22 : GDef K mg "renamed" sRenamed ["pattern", "numbers"] := ⟨_, _, PySem.W.mg_of X G a22, F22.binds (ps := ["pattern", "numbers"]) (fun _ _ _ _ _ _ us hl => match us, hl with | [_, _], _ => rfl), F22⟩
  have F23 := fun_mk (st := sNumbered) l23 c23 k23
  have D23 : GDef K mg "numbered" sNumbered ["head", "patterns_of", "most"] := ⟨_, _, PySem.W.mg_of X G a23, F23.binds (ps := ["head", "patterns_of", "most"]) (fun _ _ _ _ _ _ us hl => match us, hl with | [_, _, _], _ => rfl), F23⟩
  have F24 := fun_mk (st := sEarly) l24 c24 k24
  have D24 : GDef K mg "early" sEarly ["pattern", "fronts"] := ⟨_, _, PySem.W.mg_of X G a24, F24.binds (ps := ["pattern", "fronts"]) (fun _ _ _ _ _ _ us hl => match us, hl with | [_, _], _ => rfl), F24⟩
  have F25 := fun_mk (st := sLookedAt) l25 c25 k25
  have D25 : GDef K mg "looked_at" sLookedAt ["pattern"] := ⟨_, _, PySem.W.mg_of X G a25, F25.binds (ps := ["pattern"]) (fun _ _ _ _ _ _ us hl => match us, hl with | [_], _ => rfl), F25⟩
  have GE : GDefC K mg "earliest" sEarliest ["book"] cE := ⟨_, _, PySem.W.mg_of X G a26, binds_of (fun us hl => match us, hl with | [_], _ => rfl), ⟨⟨_, _, _, _, _, _, _, _, rfl, l26, c26⟩, k26⟩⟩
  have F27 := fun_mk (st := sSeenAt) l27 c27 k27
  have D27 : GDef K mg "seen_at" sSeenAt ["book", "pattern", "trees", "place"] := ⟨_, _, PySem.W.mg_of X G a27, F27.binds (ps := ["book", "pattern", "trees", "place"]) (fun _ _ _ _ _ _ us hl => match us, hl with | [_, _, _, _], _ => rfl), F27⟩
  have F28 := fun_mk (st := sPeekedBy) l28 c28 k28
  have D28 : GDef K mg "peeked_by" sPeekedBy ["book", "state", "tree", "place"] := ⟨_, _, PySem.W.mg_of X G a28, F28.binds (ps := ["book", "state", "tree", "place"]) (fun _ _ _ _ _ _ us hl => match us, hl with | [_, _, _, _], _ => rfl), F28⟩
  have F29 := fun_mk (st := sSideBySide) l29 c29 k29
  have D29 : GDef K mg "side_by_side" sSideBySide ["one", "two", "place", "calls"] := ⟨_, _, PySem.W.mg_of X G a29, F29.binds (ps := ["one", "two", "place", "calls"]) (fun _ _ _ _ _ _ us hl => match us, hl with | [_, _, _, _], _ => rfl), F29⟩
  have F30 := fun_mk (st := sNoted) l30 c30 k30
  have D30 : GDef K mg "noted" sNoted ["row", "known", "calls", "came", "kind"] := ⟨_, _, PySem.W.mg_of X G a30, F30.binds (ps := ["row", "known", "calls", "came", "kind"]) (fun _ _ _ _ _ _ us hl => match us, hl with | [_, _, _, _, _], _ => rfl), F30⟩
  have F31 := fun_mk (st := sMetPairs) l31 c31 k31
  have D31 : GDef K mg "met_pairs" sMetPairs ["one", "two"] := ⟨_, _, PySem.W.mg_of X G a31, F31.binds (ps := ["one", "two"]) (fun _ _ _ _ _ _ us hl => match us, hl with | [_, _], _ => rfl), F31⟩
  have F32 := fun_mk (st := sOneKind) l32 c32 k32
  have D32 : GDef K mg "one_kind" sOneKind ["one", "two"] := ⟨_, _, PySem.W.mg_of X G a32, F32.binds (ps := ["one", "two"]) (fun _ _ _ _ _ _ us hl => match us, hl with | [_, _], _ => rfl), F32⟩
  have F33 := fun_mk (st := sPairsOf) l33 c33 k33
  have D33 : GDef K mg "pairs_of" sPairsOf ["one", "two"] := ⟨_, _, PySem.W.mg_of X G a33, F33.binds (ps := ["one", "two"]) (fun _ _ _ _ _ _ us hl => match us, hl with | [_, _], _ => rfl), F33⟩
  have F34 := fun_mk (st := sAlike) l34 c34 k34
  have D34 : GDef K mg "alike" sAlike ["one", "two"] := ⟨_, _, PySem.W.mg_of X G a34, F34.binds (ps := ["one", "two"]) (fun _ _ _ _ _ _ us hl => match us, hl with | [_, _], _ => rfl), F34⟩
  have F35 := fun_mk (st := sTreeUnlike) l35 c35 k35
  have D35 : GDef K mg "tree_unlike" sTreeUnlike ["book", "call", "name"] := ⟨_, _, PySem.W.mg_of X G a35, F35.binds (ps := ["book", "call", "name"]) (fun _ _ _ _ _ _ us hl => match us, hl with | [_, _, _], _ => rfl), F35⟩
  have F36 := fun_mk (st := sKidFor) l36 c36 k36
  have D36 : GDef K mg "kid_for" sKidFor ["one", "two", "things", "leaf"] := ⟨_, _, PySem.W.mg_of X G a36, F36.binds (ps := ["one", "two", "things", "leaf"]) (fun _ _ _ _ _ _ us hl => match us, hl with | [_, _, _, _], _ => rfl), F36⟩
  have F37 := fun_mk (st := sPatternsAt) l37 c37 k37
  have D37 : GDef K mg "patterns_at" sPatternsAt ["one", "two", "row", "parting"] := ⟨_, _, PySem.W.mg_of X G a37, F37.binds (ps := ["one", "two", "row", "parting"]) (fun _ _ _ _ _ _ us hl => match us, hl with | [_, _, _, _], _ => rfl), F37⟩
  have F38 := fun_mk (st := sParted) l38 c38 k38
  have D38 : GDef K mg "parted" sParted ["one", "two"] := ⟨_, _, PySem.W.mg_of X G a38, F38.binds (ps := ["one", "two"]) (fun _ _ _ _ _ _ us hl => match us, hl with | [_, _], _ => rfl), F38⟩
  have F39 := fun_mk (st := sLCell) l39 c39 k39
  have D39 : GDef K mg "_law_cell" sLCell ["script", "k"] := ⟨_, _, PySem.W.mg_of X G a39, F39.binds (ps := ["script", "k"]) (fun _ _ _ _ _ _ us hl => match us, hl with | [_, _], _ => rfl), F39⟩
  have F40 := fun_mk (st := sLFolded) l40 c40 k40
  have D40 : GDef K mg "_law_folded" sLFolded ["cells", "many"] := ⟨_, _, PySem.W.mg_of X G a40, F40.binds (ps := ["cells", "many"]) (fun _ _ _ _ _ _ us hl => match us, hl with | [_, _], _ => rfl), F40⟩
  have F41 := fun_mk (st := sLNames) l41 c41 k41
  have D41 : GDef K mg "_law_names" sLNames ["cell"] := ⟨_, _, PySem.W.mg_of X G a41, F41.binds (ps := ["cell"]) (fun _ _ _ _ _ _ us hl => match us, hl with | [_], _ => rfl), F41⟩
  have F42 := fun_mk (st := sLNameAt) l42 c42 k42
  have D42 : GDef K mg "_law_name_at" sLNameAt ["book", "state", "tree", "place"] := ⟨_, _, PySem.W.mg_of X G a42, F42.binds (ps := ["book", "state", "tree", "place"]) (fun _ _ _ _ _ _ us hl => match us, hl with | [_, _, _, _], _ => rfl), F42⟩
  have F43 := fun_mk (st := sLOutcomeName) l43 c43 k43
  have D43 : GDef K mg "_law_outcome_name" sLOutcomeName ["book", "tree", "place"] := ⟨_, _, PySem.W.mg_of X G a43, F43.binds (ps := ["book", "tree", "place"]) (fun _ _ _ _ _ _ us hl => match us, hl with | [_, _, _], _ => rfl), F43⟩
  have F44 := fun_mk (st := sLIsTree) l44 c44 k44
  have D44 : GDef K mg "_law_is_tree" sLIsTree ["ins", "tree", "most"] := ⟨_, _, PySem.W.mg_of X G a44, F44.binds (ps := ["ins", "tree", "most"]) (fun _ _ _ _ _ _ us hl => match us, hl with | [_, _, _], _ => rfl), F44⟩
  have F45 := fun_mk (st := sLShows) l45 c45 k45
  have D45 : GDef K mg "_law_shows" sLShows ["one", "two", "found"] := ⟨_, _, PySem.W.mg_of X G a45, F45.binds (ps := ["one", "two", "found"]) (fun _ _ _ _ _ _ us hl => match us, hl with | [_, _, _], _ => rfl), F45⟩
  have F46 := fun_mk (st := sLChain) l46 c46 k46
  have D46 : GDef K mg "_law_chain" sLChain ["script", "outs", "ins", "last", "turn"] := ⟨_, _, PySem.W.mg_of X G a46, F46.binds (ps := ["script", "outs", "ins", "last", "turn"]) (fun _ _ _ _ _ _ us hl => match us, hl with | [_, _, _, _, _], _ => rfl), F46⟩
  have F47 := fun_mk (st := sLRound) l47 c47 k47
  have D47 : GDef K mg "_law_round" sLRound ["states", "outs", "ins"] := ⟨_, _, PySem.W.mg_of X G a47, F47.binds (ps := ["states", "outs", "ins"]) (fun _ _ _ _ _ _ us hl => match us, hl with | [_, _, _], _ => rfl), F47⟩
  have F48 := fun_mk (st := sLRounds) l48 c48 k48
  have D48 : GDef K mg "_law_rounds" sLRounds ["outs", "ins", "many", "more"] := ⟨_, _, PySem.W.mg_of X G a48, F48.binds (ps := ["outs", "ins", "many", "more"]) (fun _ _ _ _ _ _ us hl => match us, hl with | [_, _, _, _], _ => rfl), F48⟩
  have F49 := fun_mk (st := sLaw) l49 c49 k49
  have D49 : GDef K mg "law" sLaw ["script"] := ⟨_, _, PySem.W.mg_of X G a49, F49.binds (ps := ["script"]) (fun _ _ _ _ _ _ us hl => match us, hl with | [_], _ => rfl), F49⟩
  have T : Top K mg := ⟨D0, D1, D2, D3, D4, D5, D6, D7, D8, D9, D10, D11, D12, D13, D14, D15, D16, D17, D18, D19, D20, D21, D22, D23, D24, D25, D27, D28, D29, D30, D31, D32, D33, D34, D35, D36, D37, D38, D39, D40, D41, D42, D43, D44, D45, D46, D47, D48, D49, ⟨_, PySem.W.mg_of X G gCALL⟩, ⟨_, PySem.W.mg_of X G gHOLED⟩, ⟨_, PySem.W.mg_of X G gMOST_STATES⟩, ⟨_, PySem.W.mg_of X G gMOST_KNOTS⟩, ⟨_, PySem.W.mg_of X G gMOST_CALLS⟩, ⟨_, PySem.W.mg_of X G gTALLEST⟩, ⟨_, PySem.W.mg_of X G gH, _, _, _, lH, rfl, rfl, (show 1 ≤ sizeLine by decide), .cons ⟨_, rfl⟩ .nil⟩, PySem.W.mg_none_of X G zlen, PySem.W.mg_none_of X G zrange, PySem.W.mg_none_of X G zsum, PySem.W.mg_none_of X G zmax, PySem.W.mg_none_of X G ztuple, PySem.W.mg_none_of X G zlist, PySem.W.mg_none_of X G zzip, PySem.W.mg_none_of X G zisinstance, PySem.W.mg_none_of X G zstr, PySem.W.mg_none_of X G zint, PySem.W.mg_none_of X G zbool⟩
  refine ⟨_, [(cE, Pt)], spLaw K Pt, fun p hp => ?_, fun p hp => ?_, fun p hp => ?_, fun s v => .of_eq rfl, fun H a ns hl _ hT hS => ⟨ns, a, rfl, hS, hl, fun p hp => ?_, fun _ => rfl⟩, fun base _ _ TB => law_all T GE (TB (cE, Pt) (by simp)) F49⟩
  · have e : p = (cE, Pt) := by simpa using hp
    subst e
    exact hPt
  · have e : p = (cE, Pt) := by simpa using hp
    subst e
    exact nPt
  · have e : p = (cE, Pt) := by simpa using hp
    subst e
    exact PySem.W.codeHd_of_K X hh
  · have e : p = (Pt, nmE) := by simpa [tabE] using hp
    subst e
    exact TabN.nil (hT (cE, Pt) (by simp))
end
end K80

open PySem PySem.W PyProof.Rows in
set_option maxRecDepth 100000 in
set_option maxHeartbeats 0 in
theorem PySem.Challenge.cw_boughbook_k80_whole_parted_far_down_holds : PySem.Challenge.rw_boughbook_k80_whole_parted_far_down.Holds := by
  w_on; o_law; k_head; (case hw => w_witness2)
  k_fill
  refine LamX.walk_ofTs (l := PySem.Challenge.rw_boughbook_k80_whole_parted_far_down) (n := 63) (k := 13) (x := "script") (CX := fun _ => L2.CX0) rfl (by decide) rfl ⟨rfl, by decide, by decide⟩ (fun w h Y => PySem.W.km_in_of Y) ?F (fun _ _ _ _ _ z => z)
  case F =>
    intro w mg fa h Y KX G hmg
    refine' K80.all_mk KX G hmg (PySem.W.km_tabs_of Y 238 List.mem_cons_self) ?nPt ?a0 ?l0 ?c0 ?k0 ?a1 ?l1 ?c1 ?k1 ?a2 ?l2 ?c2 ?k2 ?a3 ?l3 ?c3 ?k3 ?a4 ?l4 ?c4 ?k4 ?a5 ?l5 ?c5 ?k5 ?a6 ?l6 ?c6 ?k6 ?a7 ?l7 ?c7 ?k7 ?a8 ?l8 ?c8 ?k8 ?a9 ?l9 ?c9 ?k9 ?a10 ?l10 ?c10 ?k10 ?a11 ?l11 ?c11 ?k11 ?a12 ?l12 ?c12 ?k12 ?a13 ?l13 ?c13 ?k13 ?a14 ?l14 ?c14 ?k14 ?a15 ?l15 ?c15 ?k15 ?a16 ?l16 ?c16 ?k16 ?a17 ?l17 ?c17 ?k17 ?a18 ?l18 ?c18 ?k18 ?a19 ?l19 ?c19 ?k19 ?a20 ?l20 ?c20 ?k20 ?a21 ?l21 ?c21 ?k21 ?a22 ?l22 ?c22 ?k22 ?a23 ?l23 ?c23 ?k23 ?a24 ?l24 ?c24 ?k24 ?a25 ?l25 ?c25 ?k25 ?a26 ?l26 ?c26 ?k26 ?a27 ?l27 ?c27 ?k27 ?a28 ?l28 ?c28 ?k28 ?a29 ?l29 ?c29 ?k29 ?a30 ?l30 ?c30 ?k30 ?a31 ?l31 ?c31 ?k31 ?a32 ?l32 ?c32 ?k32 ?a33 ?l33 ?c33 ?k33 ?a34 ?l34 ?c34 ?k34 ?a35 ?l35 ?c35 ?k35 ?a36 ?l36 ?c36 ?k36 ?a37 ?l37 ?c37 ?k37 ?a38 ?l38 ?c38 ?k38 ?a39 ?l39 ?c39 ?k39 ?a40 ?l40 ?c40 ?k40 ?a41 ?l41 ?c41 ?k41 ?a42 ?l42 ?c42 ?k42 ?a43 ?l43 ?c43 ?k43 ?a44 ?l44 ?c44 ?k44 ?a45 ?l45 ?c45 ?k45 ?a46 ?l46 ?c46 ?k46 ?a47 ?l47 ?c47 ?k47 ?a48 ?l48 ?c48 ?k48 ?a49 ?l49 ?c49 ?k49 ?gCALL ?gHOLED ?gMOST_STATES ?gMOST_KNOTS ?gMOST_CALLS ?gTALLEST ?gH ?lH ?zlen ?zrange ?zsum ?zmax ?ztuple ?zlist ?zzip ?zisinstance ?zstr ?zint ?zbool ?hh
    (case a0 => k_is)
    (case l0 => k_is)
    (case c0 => k_is)
    (case k0 => k_is)
    (case a1 => k_is)
    (case l1 => k_is)
    (case c1 => k_is)
    (case k1 => k_is)
    (case a2 => k_is)
    (case l2 => k_is)
    (case c2 => k_is)
    (case k2 => k_is)
    (case a3 => k_is)
    (case l3 => k_is)
    (case c3 => k_is)
    (case k3 => k_is)
    (case a4 => k_is)
    (case l4 => k_is)
    (case c4 => k_is)
    (case k4 => k_is)
    (case a5 => k_is)
    (case l5 => k_is)
    (case c5 => k_is)
    (case k5 => k_is)
    (case a6 => k_is)
    (case l6 => k_is)
    (case c6 => k_is)
    (case k6 => k_is)
    (case a7 => k_is)
    (case l7 => k_is)
    (case c7 => k_is)
    (case k7 => k_is)
    (case a8 => k_is)
    (case l8 => k_is)
    (case c8 => k_is)
    (case k8 => k_is)
    (case a9 => k_is)
    (case l9 => k_is)
    (case c9 => k_is)
    (case k9 => k_is)
    (case a10 => k_is)
    (case l10 => k_is)
    (case c10 => k_is)
    (case k10 => k_is)
    (case a11 => k_is)
    (case l11 => k_is)
    (case c11 => k_is)
    (case k11 => k_is)
    (case a12 => k_is)
    (case l12 => k_is)
    (case c12 => k_is)
    (case k12 => k_is)
    (case a13 => k_is)
    (case l13 => k_is)
    (case c13 => k_is)
    (case k13 => k_is)
    (case a14 => k_is)
    (case l14 => k_is)
    (case c14 => k_is)
    (case k14 => k_is)
    (case a15 => k_is)
    (case l15 => k_is)
    (case c15 => k_is)
    (case k15 => k_is)
    (case a16 => k_is)
    (case l16 => k_is)
    (case c16 => k_is)
    (case k16 => k_is)
    (case a17 => k_is)
    (case l17 => k_is)
    (case c17 => k_is)
    (case k17 => k_is)
    (case a18 => k_is)
    (case l18 => k_is)
    (case c18 => k_is)
    (case k18 => k_is)
    (case a19 => k_is)
    (case l19 => k_is)
    (case c19 => k_is)
    (case k19 => k_is)
    (case a20 => k_is)
    (case l20 => k_is)
    (case c20 => k_is)
    (case k20 => k_is)
    (case a21 => k_is)
    (case l21 => k_is)
    (case c21 => k_is)
    (case k21 => k_is)
    (case a22 => k_is)
    (case l22 => k_is)
    (case c22 => k_is)
    (case k22 => k_is)
    (case a23 => k_is)
    (case l23 => k_is)
    (case c23 => k_is)
    (case k23 => k_is)
    (case a24 => k_is)
    (case l24 => k_is)
    (case c24 => k_is)
    (case k24 => k_is)
    (case a25 => k_is)
    (case l25 => k_is)
    (case c25 => k_is)
    (case k25 => k_is)
    (case a26 => k_is)
    (case l26 => k_is)
    (case c26 => k_is)
    (case k26 => k_is)
    (case a27 => k_is)
    (case l27 => k_is)
    (case c27 => k_is)
    (case k27 => k_is)
    (case a28 => k_is)
    (case l28 => k_is)
    (case c28 => k_is)
    (case k28 => k_is)
    (case a29 => k_is)
    (case l29 => k_is)
    (case c29 => k_is)
    (case k29 => k_is)
    (case a30 => k_is)
    (case l30 => k_is)
    (case c30 => k_is)
    (case k30 => k_is)
    (case a31 => k_is)
    (case l31 => k_is)
    (case c31 => k_is)
    (case k31 => k_is)
    (case a32 => k_is)
    (case l32 => k_is)
    (case c32 => k_is)
    (case k32 => k_is)
    (case a33 => k_is)
    (case l33 => k_is)
    (case c33 => k_is)
    (case k33 => k_is)
    (case a34 => k_is)
    (case l34 => k_is)
    (case c34 => k_is)
    (case k34 => k_is)
    (case a35 => k_is)
    (case l35 => k_is)
    (case c35 => k_is)
    (case k35 => k_is)
    (case a36 => k_is)
    (case l36 => k_is)
    (case c36 => k_is)
    (case k36 => k_is)
    (case a37 => k_is)
    (case l37 => k_is)
    (case c37 => k_is)
    (case k37 => k_is)
    (case a38 => k_is)
    (case l38 => k_is)
    (case c38 => k_is)
    (case k38 => k_is)
    (case a39 => k_is)
    (case l39 => k_is)
    (case c39 => k_is)
    (case k39 => k_is)
    (case a40 => k_is)
    (case l40 => k_is)
    (case c40 => k_is)
    (case k40 => k_is)
    (case a41 => k_is)
    (case l41 => k_is)
    (case c41 => k_is)
    (case k41 => k_is)
    (case a42 => k_is)
    (case l42 => k_is)
    (case c42 => k_is)
    (case k42 => k_is)
    (case a43 => k_is)
    (case l43 => k_is)
    (case c43 => k_is)
    (case k43 => k_is)
    (case a44 => k_is)
    (case l44 => k_is)
    (case c44 => k_is)
    (case k44 => k_is)
    (case a45 => k_is)
    (case l45 => k_is)
    (case c45 => k_is)
    (case k45 => k_is)
    (case a46 => k_is)
    (case l46 => k_is)
    (case c46 => k_is)
    (case k46 => k_is)
    (case a47 => k_is)
    (case l47 => k_is)
    (case c47 => k_is)
    (case k47 => k_is)
    (case a48 => k_is)
    (case l48 => k_is)
    (case c48 => k_is)
    (case k48 => k_is)
    (case a49 => k_is)
    (case l49 => k_is)
    (case c49 => k_is)
    (case k49 => k_is)
    (case gCALL => k_is)
    (case gHOLED => k_is)
    (case gMOST_STATES => k_is)
    (case gMOST_KNOTS => k_is)
    (case gMOST_CALLS => k_is)
    (case gTALLEST => k_is)
    (case gH => k_is)
    (case lH => k_is)
    (case zlen => k_is)
    (case zrange => k_is)
    (case zsum => k_is)
    (case zmax => k_is)
    (case ztuple => k_is)
    (case zlist => k_is)
    (case zzip => k_is)
    (case zisinstance => k_is)
    (case zstr => k_is)
    (case zint => k_is)
    (case zbool => k_is)
    (case nPt => kernel_rfl)
    (case hh => kernel_rfl)

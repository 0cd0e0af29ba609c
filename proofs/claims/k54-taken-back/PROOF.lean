import PyProof.Rows.All
import Wide.All
import OpenK.AllK
import Wide.FinOn
import HandS.ForMost
import HandS.Exc
import HandS.ExcOwn
import HandS.WordsExc
import HandS.ExcInit
import HandS.ExcField
import HandS.TryOnly
import HandS.TryMany
import HandS.Codes
import HandS.Lambda
import HandS.EndBits
import HandS.EndTab
import HandS.Property
import HandS.WideBits
import HandS.TupAny
import HandS.TupLe
import HandS.Conv
import HandS.More
import HandS.Strs
import HandS.Small
import HandS.IsInst
import HandS.Flow
import HandS.Style
import HandS.DeepEq
import HandS.Star
import HandS.MakeKw
import HandS.Defaults
import HandS.DictComp
import HandS.Deep
import HandS.RaiseMore
import HandS.Sort
import HandS.HeadHook2
import KE.SortData
import KE.GoesEnum
import PyProof.ReprRoads
import KE.KDictPairs
import KE.GoesZip
import KE.KDictZip
import HandS.DictTup
import HandS.ListItems
import KE.KIndexOf
import HandS.ReCall
import HandS.DictEq
import HandS.HeadWalk
import KE.KStateDown
import HandS.Head0
import HandS.Head1
import HandS.Head2
import HandS.HeadHook4
import PySem.Challenge.RW_endorders_k54_whole_boards_taken_back
set_option Elab.async false
set_option linter.all false
set_option maxRecDepth 100000
namespace Bo
open PySem L2
abbrev RW : PySem.W.OpenLaw := PySem.Challenge.rw_endorders_k54_whole_boards_taken_back
def top (i : Nat) : Stmt := PySem.Challenge.pw_endorders_k54_whole_boards_taken_back.main.body.getD i (.Pass ⟨0, 0, 0, 0⟩)
end Bo
set_option maxHeartbeats 4000000
/-! A small logic of frames over the hand layer: relations in the place of addresses. -/
namespace Bo
open PySem L2

/-- what is told of a value, in a heap that may grow -/
structure Rel where
  r : Hp → V → Prop
  mono : ∀ {H H' : Hp} {v : V}, Same H H' → r H v → r H' v
/-- what is told of a hidden object -/
structure Own where
  p : Hp → HO → Prop
  mono : ∀ {H H' : Hp} {o : HO}, Same H H' → p H o → p H' o
inductive Ent where
  | no
  | is (R : Rel)
  | own (P : Own)
abbrev Frm := List Ent

/-- the frame: Hv the heap that the relations see, H the whole one; ow the hidden objects by slot -/
structure Fr (Hv H : Hp) (σ : St) (Rs : Frm) (ow : Nat → Addr) : Prop where
  sub : Same Hv H
  len : σ.length = Rs.length
  get : ∀ (i : Nat) (R : Rel), Rs[i]? = some (.is R) → ∃ v, σ[i]? = some (some v) ∧ R.r Hv v
  own : ∀ (i : Nat) (P : Own), Rs[i]? = some (.own P) → σ[i]? = some (some (.ref (ow i))) ∧ Hv (ow i) = none ∧ ∃ u, H (ow i) = some u ∧ P.p Hv u
  inj : ∀ (i j : Nat) (P P' : Own), Rs[i]? = some (.own P) → Rs[j]? = some (.own P') → ow i = ow j → i = j

/-- the hidden objects of the frame -/
def Owned (Rs : Frm) (ow : Nat → Addr) (b : Addr) : Prop := ∃ (i : Nat) (P : Own), Rs[i]? = some (.own P) ∧ ow i = b

/-- a step: all but the frame's hidden objects is kept -/
structure Stp (Hv H : Hp) (Rs : Frm) (ow : Nat → Addr) (Hv' H' : Hp) : Prop where
  kp : ∀ b o, H b = some o → ¬ Owned Rs ow b → H' b = some o
  sv : Same Hv Hv'
  hid : ∀ b o, Hv b = none → H b = some o → ¬ Owned Rs ow b → Hv' b = none
  th : ∀ b o, H b = some o → ∃ o', H' b = some o'
/-- a step that only makes objects -/
structure Al (Hv H Hv' H' : Hp) : Prop where
  s : Same H H'
  sv : Same Hv Hv'
  sub : Same Hv' H'
  hid : ∀ b o, Hv b = none → H b = some o → Hv' b = none

section
variable {Hv H Hv' H' Hv'' H'' : Hp} {σ : St} {Rs : Frm} {ow : Nat → Addr}
theorem Al.refl (h : Same Hv H) : Al Hv H Hv H := ⟨Same.refl _, Same.refl _, h, fun _ _ e _ => e⟩
theorem Al.trans (a : Al Hv H Hv' H') (b : Al Hv' H' Hv'' H'') : Al Hv H Hv'' H'' :=
  ⟨a.s.trans b.s, a.sv.trans b.sv, b.sub, fun c o e1 e2 => b.hid c o (a.hid c o e1 e2) (a.s c o e2)⟩
theorem same_new {p : Addr} {o : HO} (h : H p = none) : Same H (upd H p o) := fun b u e => by
  rw [upd_ne (ne_of_none e h)]
  exact e
theorem Al.new {p : Addr} {o : HO} (h : Same Hv H) (hp : H p = none) : Al Hv H (upd Hv p o) (upd H p o) := by
  have hv : Hv p = none := h.free hp
  refine ⟨same_new hp, same_new hv, fun b u e => ?_, fun b u e1 e2 => ?_⟩
  · by_cases hb : b = p
    · rw [hb, upd_same] at e
      rw [hb, upd_same]
      exact e
    · rw [upd_ne hb] at e
      rw [upd_ne hb]
      exact h b u e
  · rw [upd_ne (ne_of_none e2 hp)]
    exact e1
theorem Stp.refl : Stp Hv H Rs ow Hv H := ⟨fun _ _ e _ => e, Same.refl _, fun _ _ e _ _ => e, fun _ o e => ⟨o, e⟩⟩
theorem Stp.trans (a : Stp Hv H Rs ow Hv' H') (b : Stp Hv' H' Rs ow Hv'' H'') : Stp Hv H Rs ow Hv'' H'' :=
  ⟨fun c o e n => b.kp c o (a.kp c o e n) n, a.sv.trans b.sv, fun c o e1 e2 n => b.hid c o (a.hid c o e1 e2 n) (a.kp c o e2 n) n, fun c o e => by
    obtain ⟨o1, e1⟩ := a.th c o e
    exact b.th c o1 e1⟩
theorem Al.stp (a : Al Hv H Hv' H') : Stp Hv H Rs ow Hv' H' := ⟨fun b o e _ => a.s b o e, a.sv, fun b o e1 e2 _ => a.hid b o e1 e2, fun b o e => ⟨o, a.s b o e⟩⟩
theorem Fr.al (f : Fr Hv H σ Rs ow) (a : Al Hv H Hv' H') : Fr Hv' H' σ Rs ow := by
  refine ⟨a.sub, f.len, fun i R e => ?_, fun i P e => ?_, f.inj⟩
  · obtain ⟨v, h1, h2⟩ := f.get i R e
    exact ⟨v, h1, R.mono a.sv h2⟩
  · obtain ⟨h1, h2, u, h3, h4⟩ := f.own i P e
    exact ⟨h1, a.hid _ _ h2 h3, u, a.s _ _ h3, P.mono a.sv h4⟩
/-- slots that are told of nothing may hold anything -/
theorem Fr.weak {σ' : St} (f : Fr Hv H σ Rs ow) (hl : σ'.length = σ.length) (h : ∀ (i : Nat) (v : V), σ[i]? = some (some v) → Rs[i]? ≠ some Ent.no → σ'[i]? = some (some v)) : Fr Hv H σ' Rs ow := by
  refine ⟨f.sub, hl.trans f.len, fun i R e => ?_, fun i P e => ?_, f.inj⟩
  · obtain ⟨v, h1, h2⟩ := f.get i R e
    exact ⟨v, h i v h1 (by rw [e]; exact fun z => by cases z), h2⟩
  · obtain ⟨h1, h2⟩ := f.own i P e
    exact ⟨h i _ h1 (by rw [e]; exact fun z => by cases z), h2⟩
theorem Fr.wipe (f : Fr Hv H σ Rs ow) {vs : List Nat} (h : ∀ i ∈ vs, Rs[i]? = some Ent.no) : Fr Hv H (wipe σ vs) Rs ow := by
  refine f.weak (wipe_length σ vs) fun i v e n => ?_
  rw [wipe_out fun m => n (h i m)]
  exact e
/-- a slot is stored -/
theorem Fr.set (f : Fr Hv H σ Rs ow) {i : Nat} {v : V} {R : Rel} (hn : ∀ P, Rs[i]? ≠ some (.own P)) (hv : R.r Hv v) : Fr Hv H (σ.set i (some v)) (Rs.set i (.is R)) ow := by
  refine ⟨f.sub, by rw [List.length_set, List.length_set]; exact f.len, fun j S e => ?_, fun j P e => ?_, fun j k P P' e1 e2 => ?_⟩
  · by_cases hj : i = j
    · subst hj
      have hi : i < Rs.length := by
        have q := (List.getElem?_eq_some_iff.mp e).1
        rw [List.length_set] at q
        exact q
      rw [List.getElem?_set_self hi] at e
      cases e
      exact ⟨v, List.getElem?_set_self (by rw [f.len]; exact hi), hv⟩
    · rw [List.getElem?_set_ne hj] at e
      rw [List.getElem?_set_ne hj]
      exact f.get j S e
  · by_cases hj : i = j
    · subst hj
      have hi : i < Rs.length := by
        have q := (List.getElem?_eq_some_iff.mp e).1
        rw [List.length_set] at q
        exact q
      rw [List.getElem?_set_self hi] at e
      cases e
    · rw [List.getElem?_set_ne hj] at e
      rw [List.getElem?_set_ne hj]
      exact f.own j P e
  · have back : ∀ {j : Nat} {P : Own}, (Rs.set i (.is R))[j]? = some (.own P) → Rs[j]? = some (.own P) := fun {j P} e => by
      by_cases hj : i = j
      · subst hj
        have hi : i < Rs.length := by
          have q := (List.getElem?_eq_some_iff.mp e).1
          rw [List.length_set] at q
          exact q
        rw [List.getElem?_set_self hi] at e
        cases e
      · rw [List.getElem?_set_ne hj] at e
        exact e
    exact f.inj j k P P' (back e1) (back e2)
theorem owned_set {i : Nat} {R : Rel} {b : Addr} (hn : ∀ P, Rs[i]? ≠ some (.own P)) : Owned (Rs.set i (.is R)) ow b ↔ Owned Rs ow b := by
  constructor
  · rintro ⟨j, P, e, q⟩
    by_cases hj : i = j
    · subst hj
      have hi : i < Rs.length := by
        have q := (List.getElem?_eq_some_iff.mp e).1
        rw [List.length_set] at q
        exact q
      rw [List.getElem?_set_self hi] at e
      cases e
    · rw [List.getElem?_set_ne hj] at e
      exact ⟨j, P, e, q⟩
  · rintro ⟨j, P, e, q⟩
    refine ⟨j, P, ?_, q⟩
    rw [List.getElem?_set_ne (fun z => hn P (by rw [z]; exact e))]
    exact e
end

/-! ### the readings -/
def tX (Rs : Frm) (R : Rel) : TE := fun σ H Q => ∃ Hv ow, Fr Hv H σ Rs ow ∧ ∀ v Hv' H', Stp Hv H Rs ow Hv' H' → Fr Hv' H' σ Rs ow → R.r Hv' v → Q v H'
def tXT (Rs : Frm) (b : Bool) : TT := fun σ H Q => ∃ Hv ow, Fr Hv H σ Rs ow ∧ ∀ Hv' H', Stp Hv H Rs ow Hv' H' → Fr Hv' H' σ Rs ow → Q b H'
/-- pointwise -/
def AllR (H : Hp) : List V → List Rel → Prop
  | [], [] => True
  | v :: vs, R :: Rs => R.r H v ∧ AllR H vs Rs
  | _, _ => False
def tXA (Rs : Frm) (As : List Rel) : TA := fun σ H Q => ∃ Hv ow, Fr Hv H σ Rs ow ∧ ∀ vs Hv' H', Stp Hv H Rs ow Hv' H' → Fr Hv' H' σ Rs ow → AllR Hv' vs As → Q vs H'
abbrev XE (X : Cx) (e : Expr) (Rs : Frm) (R : Rel) : Prop := PE X e (tX Rs R)
abbrev XT (X : Cx) (e : Expr) (Rs : Frm) (b : Bool) : Prop := PT X e (tXT Rs b)
abbrev XA (X : Cx) (es : List Expr) (Rs : Frm) (As : List Rel) : Prop := PA X es (tXA Rs As)
theorem AllR.mono {H H' : Hp} (s : Same H H') : ∀ {vs : List V} {Rs : List Rel}, AllR H vs Rs → AllR H' vs Rs
  | [], [], _ => trivial
  | _ :: _, R :: _, ⟨h1, h2⟩ => ⟨R.mono s h1, AllR.mono s h2⟩
  | [], _ :: _, h => h.elim
  | _ :: _, [], h => h.elim
theorem AllR.length {H : Hp} : ∀ {vs : List V} {Rs : List Rel}, AllR H vs Rs → vs.length = Rs.length
  | [], [], _ => rfl
  | _ :: _, _ :: _, ⟨_, h2⟩ => congrArg (· + 1) (AllR.length h2)
  | [], _ :: _, h => h.elim
  | _ :: _, [], h => h.elim

section
variable {X : Cx} {e : Expr} {t t' : TE}
theorem pe_imp (h : PE X e t) (i : ∀ σ H Q, t' σ H Q → t σ H Q) : PE X e t' := ⟨fun pins s σ H Q I q => h.run pins s σ H Q I (i σ H Q q)⟩
theorem pt_imp {t t' : TT} (h : PT X e t) (i : ∀ σ H Q, t' σ H Q → t σ H Q) : PT X e t' := ⟨fun pins s σ H Q I q => h.run pins s σ H Q I (i σ H Q q)⟩
theorem pw_imp {t t' : TT} (h : PW X e t) (i : ∀ σ H Q, t' σ H Q → t σ H Q) : PW X e t' := ⟨fun wh pins s σ H Q I q => h.run wh pins s σ H Q I (i σ H Q q)⟩
theorem pa_imp {es : List Expr} {t t' : TA} (h : PA X es t) (i : ∀ σ H Q, t' σ H Q → t σ H Q) : PA X es t' := ⟨fun pos pins s σ H Q I q => h.run pos pins s σ H Q I (i σ H Q q)⟩
theorem ps_imp {st : Stmt} {t t' : TS} (h : PS X st t) (i : ∀ D σ H, t' D σ H → t D σ H) : PS X st t' := ⟨fun pins s σ H D I q => h.run pins s σ H D I (i D σ H q)⟩
theorem pss_imp {st : List Stmt} {t t' : TS} (h : PSs X st t) (i : ∀ D σ H, t' D σ H → t D σ H) : PSs X st t' := ⟨fun pins s σ H D I q => h.run pins s σ H D I (i D σ H q)⟩
/-- an expression that is never reached -/
theorem pe_never : PE X e (fun _ _ _ => False) := ⟨fun _ _ _ _ _ _ h => h.elim⟩
theorem pt_never : PT X e (fun _ _ _ => False) := ⟨fun _ _ _ _ _ _ h => h.elim⟩
end

/-! ### relations -/
def eqR (v : V) : Rel := ⟨fun _ x => x = v, fun _ h => h⟩
abbrev intR (i : Int) : Rel := eqR (.int i)
abbrev blR (b : Bool) : Rel := eqR (.bl b)
abbrev strR (z : Str) : Rel := eqR (.str z)
abbrev nonR : Rel := eqR .non
theorem same_rd {H H' : Hp} {a : Addr} {u : HO} (s : Same H H') (h : Rd H a u) : Rd H' a u := by
  rcases h with h | ⟨o, h⟩
  · exact .inl (s _ _ h)
  · exact .inr ⟨o, s _ _ h⟩
theorem same_t {K : PySem.W.Frag} {H H' : Hp} {a : Addr} {xs : List V} (s : Same H H') (h : SqT K H a xs) : SqT K H' a xs := by
  rcases h with h | h
  · exact .inl (same_rd s h)
  · exact .inr h
theorem same_l {K : PySem.W.Frag} {H H' : Hp} {a : Addr} {xs : List V} (s : Same H H') (h : SqL K H a xs) : SqL K H' a xs := s.seq h
mutual
theorem dp_mono {K : PySem.W.Frag} {H H' : Hp} (s : Same H H') : ∀ (d : PyData) (v : V), Dp K H v d → Dp K H' v d
  | .none, _, h => by cases h; exact .non
  | .bool b, _, h => by cases h; exact .bl b
  | .int i, _, h => by cases h; exact .int i
  | .str x, _, h => by cases h; exact .str x
  | .list ds, _, h => by
    cases h with
    | lst hs ha => exact .lst (same_l s hs) (dpAll_mono s ds _ ha)
  | .tuple ds, _, h => by
    cases h with
    | tup hs ha => exact .tup (same_t s hs) (dpAll_mono s ds _ ha)
  | .dict _, _, h => by cases h
theorem dpAll_mono {K : PySem.W.Frag} {H H' : Hp} (s : Same H H') : ∀ (ds : List PyData) (vs : List V), DpAll K H vs ds → DpAll K H' vs ds
  | [], _, h => by cases h; exact .nil
  | d :: ds, _, h => by
    cases h with
    | cons h1 h2 => exact .cons (dp_mono s d _ h1) (dpAll_mono s ds _ h2)
end
/-- data -/
def dR (K : PySem.W.Frag) (d : PyData) : Rel := ⟨fun H v => Dp K H v d, fun s h => dp_mono s d _ h⟩
/-- a list that is tracked -/
def tlR (K : PySem.W.Frag) (ds : List PyData) : Rel := ⟨fun H v => ∃ a xs, v = .ref a ∧ H a = some (.lst xs) ∧ DpAll K H xs ds, fun s ⟨a, xs, e, h1, h2⟩ => ⟨a, xs, e, s _ _ h1, dpAll_mono s _ _ h2⟩⟩
theorem tlR_d {K : PySem.W.Frag} {ds : List PyData} {H : Hp} {v : V} (h : (tlR K ds).r H v) : Dp K H v (.list ds) := by
  obtain ⟨a, xs, e, h1, h2⟩ := h
  subst e
  exact .lst (.inl (.inl h1)) h2
section
variable {K : PySem.W.Frag} {H : Hp} {v : V}
theorem dp_int {i : Int} (h : Dp K H v (.int i)) : v = .int i := by cases h; rfl
theorem dp_bl {b : Bool} (h : Dp K H v (.bool b)) : v = .bl b := by cases h; rfl
theorem dp_str {z : Str} (h : Dp K H v (.str z)) : v = .str z := by cases h; rfl
theorem dp_non (h : Dp K H v .none) : v = .non := by cases h; rfl
theorem dp_list {ds : List PyData} (h : Dp K H v (.list ds)) : ∃ a xs, v = .ref a ∧ SqL K H a xs ∧ DpAll K H xs ds := by
  cases h with
  | lst hs ha => exact ⟨_, _, rfl, hs, ha⟩
theorem dp_tup {ds : List PyData} (h : Dp K H v (.tuple ds)) : ∃ a xs, v = .ref a ∧ SqT K H a xs ∧ DpAll K H xs ds := by
  cases h with
  | tup hs ha => exact ⟨_, _, rfl, hs, ha⟩
theorem dpAll_length : ∀ {vs : List V} {ds : List PyData}, DpAll K H vs ds → vs.length = ds.length
  | _, _, .nil => rfl
  | _, _, .cons _ t => congrArg (· + 1) (dpAll_length t)
theorem dpAll_get : ∀ {vs : List V} {ds : List PyData} {i : Nat} {d : PyData}, DpAll K H vs ds → ds[i]? = some d → ∃ v, vs[i]? = some v ∧ Dp K H v d
  | _, _, _, _, .nil, e => by simp at e
  | _, _, 0, _, .cons h _, e => by
    have q := Option.some.inj e
    subst q
    exact ⟨_, rfl, h⟩
  | _, _, i + 1, _, .cons _ t, e => dpAll_get (i := i) t e
theorem dpAll_get' : ∀ {vs : List V} {ds : List PyData} {i : Nat} {v : V}, DpAll K H vs ds → vs[i]? = some v → ∃ d, ds[i]? = some d ∧ Dp K H v d
  | _, _, _, _, .nil, e => by simp at e
  | _, _, 0, _, .cons h _, e => by
    have q := Option.some.inj e
    subst q
    exact ⟨_, rfl, h⟩
  | _, _, i + 1, _, .cons _ t, e => dpAll_get' (i := i) t e
theorem dpAll_snoc : ∀ {vs : List V} {ds : List PyData} {v : V} {d : PyData}, DpAll K H vs ds → Dp K H v d → DpAll K H (vs ++ [v]) (ds ++ [d])
  | _, _, _, _, .nil, h => .cons h .nil
  | _, _, _, _, .cons h t, q => .cons h (dpAll_snoc t q)
theorem dpAll_app : ∀ {vs ws : List V} {ds es : List PyData}, DpAll K H vs ds → DpAll K H ws es → DpAll K H (vs ++ ws) (ds ++ es)
  | _, _, _, _, .nil, h => h
  | _, _, _, _, .cons h t, q => .cons h (dpAll_app t q)
theorem dpAll_ints : ∀ {vs : List V} {ns : List Int}, DpAll K H vs (ns.map .int) → vs = ns.map .int
  | _, [], h => by cases h; rfl
  | _, n :: ns, h => by
    cases h with
    | cons h1 h2 =>
      cases h1
      rw [dpAll_ints h2] <;> rfl
theorem ints_dp : ∀ (ns : List Int), DpAll K H (ns.map V.int) (ns.map .int)
  | [] => .nil
  | n :: ns => .cons (.int n) (ints_dp ns)
theorem dpAll_bls : ∀ {vs : List V} {bs : List Bool}, DpAll K H vs (bs.map .bool) → vs = bs.map .bl
  | _, [], h => by cases h; rfl
  | _, n :: ns, h => by
    cases h with
    | cons h1 h2 =>
      cases h1
      rw [dpAll_bls h2] <;> rfl
theorem dpAll_set : ∀ {vs : List V} {ds : List PyData} {i : Nat} {v : V} {d : PyData}, DpAll K H vs ds → Dp K H v d → DpAll K H (vs.set i v) (ds.set i d)
  | _, _, _, _, _, .nil, _ => .nil
  | _, _, 0, _, _, .cons _ t, q => .cons q t
  | _, _, i + 1, _, _, .cons h t, q => .cons h (dpAll_set (i := i) t q)
end
end Bo
set_option maxHeartbeats 4000000
/-! The logic of frames: expressions, arguments, statements, blocks, defs. -/
namespace Bo
open PySem L2
section
variable {Hv H Hv' H' Hv'' H'' : Hp} {σ : St} {Rs Rs' : Frm} {ow ow' : Nat → Addr}
/-- no hidden object stands in the frame -/
def NoOwn (Rs : Frm) : Prop := ∀ (i : Nat) (P : Own), Rs[i]? ≠ some (.own P)
theorem noOwn_nil : NoOwn [] := fun i P e => by simp at e
theorem noOwn_no (h : NoOwn Rs) : NoOwn (.no :: Rs) := fun i P e => by
  cases i with
  | zero => simp at e
  | succ i => exact h i P (by simpa using e)
theorem noOwn_is {R : Rel} (h : NoOwn Rs) : NoOwn (.is R :: Rs) := fun i P e => by
  cases i with
  | zero => simp at e
  | succ i => exact h i P (by simpa using e)
theorem NoOwn.not (h : NoOwn Rs) {b : Addr} : ¬ Owned Rs ow b := fun ⟨i, P, e, _⟩ => h i P e
theorem Stp.al (s : Stp Hv H Rs ow Hv' H') (h : NoOwn Rs) (f : Same Hv' H') : Al Hv H Hv' H' :=
  ⟨fun b o e => s.kp b o e h.not, s.sv, f, fun b o e1 e2 => s.hid b o e1 e2 h.not⟩
/-- the same frame under other slots, without hidden objects -/
theorem Fr.cong (f : Fr Hv H σ Rs ow) : Same Hv H := f.sub
end

/-! ### expressions -/
section
variable {X : Cx} {e a b c : Expr} {es : List Expr} {Rs : Frm} {R R' Ra Rb Rc : Rel} {As : List Rel} {pos : Pos}
theorem x_weak (h : XE X e Rs R) (i : ∀ H v, R.r H v → R'.r H v) : XE X e Rs R' := pe_imp h fun σ H Q ⟨Hv, ow, f, q⟩ => ⟨Hv, ow, f, fun v Hv' H' s f' r => q v Hv' H' s f' (i _ _ r)⟩
theorem x_int {i : Int} {j} : XE X (.Constant (.int i) j pos) Rs (intR i) := pe_imp pe_int fun σ H Q ⟨Hv, ow, f, q⟩ => q _ Hv H .refl f rfl
theorem x_bl {i : Bool} {j} : XE X (.Constant (.bool i) j pos) Rs (blR i) := pe_imp pe_bl fun σ H Q ⟨Hv, ow, f, q⟩ => q _ Hv H .refl f rfl
theorem x_str {i : Str} {j} : XE X (.Constant (.str i) j pos) Rs (strR i) := pe_imp pe_str fun σ H Q ⟨Hv, ow, f, q⟩ => q _ Hv H .refl f rfl
theorem x_non {j} : XE X (.Constant .none j pos) Rs nonR := pe_imp pe_non fun σ H Q ⟨Hv, ow, f, q⟩ => q _ Hv H .refl f rfl
theorem x_con {v : V} (h : PE X e (tC v)) : XE X e Rs (eqR v) := pe_imp h fun σ H Q ⟨Hv, ow, f, q⟩ => q _ Hv H .refl f rfl
theorem x_slot {i : Nat} (h : PE X e (tVar i)) (hR : Rs[i]? = some (.is R)) : XE X e Rs R := pe_imp h fun σ H Q ⟨Hv, ow, f, q⟩ => by
  obtain ⟨v, h1, h2⟩ := f.get i R hR
  exact ⟨v, h1, q v Hv H .refl f h2⟩
theorem x_v (i : Nat) {x : Str} (hR : Rs[i]? = some (.is R) := by rfl) (hN : X.N[i]? = some x := by rfl) (hv : Vis X.env.scope x := by first | exact Or.inl rfl | exact Or.inr (Or.inl rfl) | exact Or.inr (Or.inr rfl)) (hd : (x == ("__debug__" : Str)) = false := by decide)
    (hcd : (x == ("__classdict__" : Str)) = false := by decide) : XE X (.Name x pos) Rs R := x_slot (pv i hN hv hd hcd) hR
/-- what a two-place operation on values asks and gives -/
def OpX (r : R2) (Ra Rb R : Rel) : Prop := ∀ (Hv H : Hp) (x y : V) (Q : VK), Same Hv H → Ra.r Hv x → Rb.r Hv y → (∀ z Hv' H', Al Hv H Hv' H' → R.r Hv' z → Q z H') → r x y H Q
theorem op_x {r : R2} {ta tb : TE} (hr : OpX r Ra Rb R) (ha : ∀ σ H Q, tX Rs Ra σ H Q → ta σ H Q) (hb : ∀ σ H Q, tX Rs Rb σ H Q → tb σ H Q) : ∀ σ H Q, tX Rs R σ H Q → tOp r ta tb σ H Q := fun σ H Q ⟨Hv, ow, f, q⟩ =>
  ha σ H _ ⟨Hv, ow, f, fun x Hv1 H1 s1 f1 r1 => hb σ H1 _ ⟨Hv1, ow, f1, fun y Hv2 H2 s2 f2 r2 => hr Hv2 H2 x y Q f2.sub (Ra.mono s2.sv r1) r2 fun z Hv3 H3 a r3 => q z Hv3 H3 ((s1.trans s2).trans a.stp) (f2.al a) r3⟩⟩
theorem x_op {op : Operator} {r : R2} (ho : OpR X (binaryOp op) r) (hr : OpX r Ra Rb R) (ha : XE X a Rs Ra) (hb : XE X b Rs Rb) : XE X (.BinOp a op b pos) Rs R :=
  pe_imp (pe_op ho ha hb) (op_x hr (fun _ _ _ q => q) fun _ _ _ q => q)
theorem x_cmp {op : CmpOp} {r : R2} (ho : OpR X (compareOp op) r) (hr : OpX r Ra Rb R) (ha : XE X a Rs Ra) (hb : XE X b Rs Rb) (hm : behindInMarks op b = false := by first | exact nomark _ | rfl) : XE X (.Compare a [op] [b] pos) Rs R :=
  pe_imp (pe_cmpR ho ha hb hm) (op_x hr (fun _ _ _ q => q) fun _ _ _ q => q)
theorem xt_of {e : Expr} {k : Bool} {te : TE} (h : PT X e (tTest te)) (i : ∀ σ H Q, tX Rs (blR k) σ H Q → te σ H Q) : XT X e Rs k := pt_imp h fun σ H Q ⟨Hv, ow, f, q⟩ =>
  i σ H _ ⟨Hv, ow, f, fun v Hv' H' s f' r => ⟨k, r, q Hv' H' s f'⟩⟩
theorem xt_cmp {op : CmpOp} {r : R2} {k : Bool} (ho : OpR X (compareOp op) r) (hr : OpX r Ra Rb (blR k)) (ha : XE X a Rs Ra) (hb : XE X b Rs Rb) (hm : behindInMarks op b = false := by first | exact nomark _ | rfl) : XT X (.Compare a [op] [b] pos) Rs k :=
  xt_of (pt_cmpR ho ha hb hm) (op_x hr (fun _ _ _ q => q) fun _ _ _ q => q)
/-- an expression that is a bool, as a test -/
theorem xt_val {k : Bool} (h : XE X e Rs (blR k)) (he : ∀ whole, isTrue e X.env whole = (do let v ← whole; standAt e.pos; holding [v] (truthy v)) := by intro _; rfl) : XT X e Rs k :=
  pt_imp (pt_val h he) fun σ H Q ⟨Hv, ow, f, q⟩ => ⟨Hv, ow, f, fun v Hv' H' s f' r => ⟨k, r, q Hv' H' s f'⟩⟩
theorem xt_not {k : Bool} (h : XT X a Rs k) : XT X (.UnaryOp .Not a pos) Rs (!k) := pt_imp (pt_not h) fun σ H Q ⟨Hv, ow, f, q⟩ => ⟨Hv, ow, f, fun Hv' H' s f' => q Hv' H' s f'⟩
theorem xt_is {k k' : Bool} (h : XT X a Rs k) (e : k = k') : XT X a Rs k' := by
  rw [← e]
  exact h
abbrev XW (X : Cx) (e : Expr) (Rs : Frm) (b : Bool) : Prop := PW X e (tXT Rs b)
theorem xw_and1 {k : Bool} (h : XT X a Rs k) : XW X (.BoolOp .And [a] pos) Rs k := pw_and1 h
theorem xw_or1 {k : Bool} (h : XT X a Rs k) : XW X (.BoolOp .Or [a] pos) Rs k := pw_or1 h
/-- and: what stands behind a false test is not asked -/
theorem xw_and {k k' : Bool} {rest : List Expr} (h : XT X a Rs k) (h2 : k = true → XW X (.BoolOp .And (b :: rest) pos) Rs k') : XW X (.BoolOp .And (a :: b :: rest) pos) Rs (k && k') := by
  cases k with
  | true => exact pw_imp (pw_and h (h2 rfl)) fun σ H Q ⟨Hv, ow, f, q⟩ => ⟨Hv, ow, f, fun Hv' H' s f' => ⟨Hv', ow, f', fun Hv2 H2 s2 f2 => q Hv2 H2 (s.trans s2) f2⟩⟩
  | false => exact pw_imp (pw_and (tB' := fun _ _ _ => False) h ⟨fun _ _ _ _ _ _ _ z => z.elim⟩) fun σ H Q ⟨Hv, ow, f, q⟩ => ⟨Hv, ow, f, fun Hv' H' s f' => q Hv' H' s f'⟩
theorem xw_or {k k' : Bool} {rest : List Expr} (h : XT X a Rs k) (h2 : k = false → XW X (.BoolOp .Or (b :: rest) pos) Rs k') : XW X (.BoolOp .Or (a :: b :: rest) pos) Rs (k || k') := by
  cases k with
  | false => exact pw_imp (pw_or h (h2 rfl)) fun σ H Q ⟨Hv, ow, f, q⟩ => ⟨Hv, ow, f, fun Hv' H' s f' => ⟨Hv', ow, f', fun Hv2 H2 s2 f2 => q Hv2 H2 (s.trans s2) f2⟩⟩
  | true => exact pw_imp (pw_or (tB' := fun _ _ _ => False) h ⟨fun _ _ _ _ _ _ _ z => z.elim⟩) fun σ H Q ⟨Hv, ow, f, q⟩ => ⟨Hv, ow, f, fun Hv' H' s f' => q Hv' H' s f'⟩
theorem xw_pt {k : Bool} (h : XW X e Rs k) : XT X e Rs k := PW.pt h
/-- and, or, not as values -/
theorem x_one {op} (h : XE X a Rs R) : XE X (.BoolOp op [a] pos) Rs R := pe_one h
theorem x_andV {k k' : Bool} {rest : List Expr} (h : XE X a Rs (blR k)) (h2 : k = true → XE X (.BoolOp .And (b :: rest) pos) Rs (blR k')) : XE X (.BoolOp .And (a :: b :: rest) pos) Rs (blR (k && k')) := by
  cases k with
  | true => exact pe_imp (pe_and h (h2 rfl)) fun σ H Q ⟨Hv, ow, f, q⟩ => ⟨Hv, ow, f, fun v Hv' H' s f' r => ⟨true, r, Hv', ow, f', fun v Hv2 H2 s2 f2 r2 => q v Hv2 H2 (s.trans s2) f2 r2⟩⟩
  | false => exact pe_imp (pe_and h pe_never) fun σ H Q ⟨Hv, ow, f, q⟩ => ⟨Hv, ow, f, fun v Hv' H' s f' r => ⟨false, r, q _ Hv' H' s f' rfl⟩⟩
theorem x_notV {k : Bool} (h : XE X a Rs (blR k)) : XE X (.UnaryOp .Not a pos) Rs (blR (!k)) := pe_imp (pe_not h) fun σ H Q ⟨Hv, ow, f, q⟩ => ⟨Hv, ow, f, fun v Hv' H' s f' r => ⟨k, r, q _ Hv' H' s f' rfl⟩⟩
/-- a if c else b: the way that is not taken is not asked -/
theorem x_if {k : Bool} (h : XT X c Rs k) (h1 : k = true → XE X a Rs R) (h2 : k = false → XE X b Rs R) : XE X (.IfExp c a b pos) Rs R := by
  cases k with
  | true => exact pe_imp (pe_ifExp h (h1 rfl) pe_never) fun σ H Q ⟨Hv, ow, f, q⟩ => ⟨Hv, ow, f, fun Hv' H' s f' => iteT ⟨Hv', ow, f', fun v Hv2 H2 s2 f2 r => q v Hv2 H2 (s.trans s2) f2 r⟩⟩
  | false => exact pe_imp (pe_ifExp h pe_never (h2 rfl)) fun σ H Q ⟨Hv, ow, f, q⟩ => ⟨Hv, ow, f, fun Hv' H' s f' => iteF ⟨Hv', ow, f', fun v Hv2 H2 s2 f2 r => q v Hv2 H2 (s.trans s2) f2 r⟩⟩
theorem xa_nil : XA X [] Rs [] := pa_imp pa_nil fun σ H Q ⟨Hv, ow, f, q⟩ => q [] Hv H .refl f trivial
theorem xa_cons (h : XE X e Rs R) (hr : XA X es Rs As) (hs : starEach (e :: es) X.env = (false, eval e X.env) :: starEach es X.env := by rfl) : XA X (e :: es) Rs (R :: As) := pa_imp (pa_cons h hr hs) fun σ H Q ⟨Hv, ow, f, q⟩ =>
  ⟨Hv, ow, f, fun v Hv1 H1 s1 f1 r1 => ⟨Hv1, ow, f1, fun vs Hv2 H2 s2 f2 r2 => q (v :: vs) Hv2 H2 (s1.trans s2) f2 ⟨R.mono s2.sv r1, r2⟩⟩⟩
/-- a call of a builtin by values -/
def CallX (r : List V → Hp → VK → Prop) (As : List Rel) (R : Rel) : Prop := ∀ (Hv H : Hp) (vs : List V) (Q : VK), Same Hv H → AllR Hv vs As → (∀ z Hv' H', Al Hv H Hv' H' → R.r Hv' z → Q z H') → r vs H Q
theorem cb_x {r : List V → Hp → VK → Prop} (hr : CallX r As R) : ∀ σ H Q, tX Rs R σ H Q → tCB r (tXA Rs As) σ H Q := fun σ H Q ⟨Hv, ow, f, q⟩ =>
  ⟨Hv, ow, f, fun vs Hv1 H1 s1 f1 r1 => hr Hv1 H1 vs Q f1.sub r1 fun z Hv2 H2 a r2 => q z Hv2 H2 (s1.trans a.stp) (f1.al a) r2⟩
theorem x_callB {x : Str} {p : Pos} {id : String} {r : List V → Hp → VK → Prop} (hc : CallR X (.builtin id) r) (hr : CallX r As R) (hm : X.mg x = none) (hv : bootBuiltins x = some (.builtin id)) (ha : XA X (e :: es) Rs As) (hg : Gl X x := by rfl) (hn : x ≠ "__name__" := by decide) (hdb : (x == ("__debug__" : Str)) = false := by decide)
    (he : starEach (e :: es) X.env = (false, eval e X.env) :: starEach es X.env := by rfl) (hpl : (backTo pos (starEach es X.env)).any (·.1) = false := by rfl) : XE X (.Call (.Name x p) (e :: es) [] pos) Rs R := pe_imp (pe_callB hc hg hm hv ha hn hdb he hpl) (cb_x hr)
theorem x_callTy {x : Str} {p : Pos} {T : String} {r : List V → Hp → VK → Prop} (hc : CallR X (.type T) r) (hr : CallX r As R) (hm : X.mg x = none) (hv : bootBuiltins x = some (.type T)) (ha : XA X (e :: es) Rs As) (hg : Gl X x := by rfl) (hn : x ≠ "__name__" := by decide) (hdb : (x == ("__debug__" : Str)) = false := by decide)
    (he : starEach (e :: es) X.env = (false, eval e X.env) :: starEach es X.env := by rfl) (hpl : (backTo pos (starEach es X.env)).any (·.1) = false := by rfl) : XE X (.Call (.Name x p) (e :: es) [] pos) Rs R := pe_imp (pe_callTy hc hg hm hv ha hn hdb he hpl) (cb_x hr)
end

/-! ### calls of pure defs -/
/-- the promise of a def that only makes objects -/
def spF {α : Type} (pre : α → Prop) (As : α → List Rel) (R : α → Rel) : Sp := fun vs H Q _ => ∃ (a : α) (Hv : Hp), pre a ∧ Same Hv H ∧ AllR Hv vs (As a) ∧ ∀ z Hv' H', Al Hv H Hv' H' → (R a).r Hv' z → Q z H'
section
variable {X : Cx} {e : Expr} {es : List Expr} {Rs : Frm} {As' : List Rel} {R' : Rel} {pos p : Pos} {x : Str} {k j : Nat} {α : Type} {pre : α → Prop} {As : α → List Rel} {R : α → Rel}
theorem x_call (c : C8.Cal X.prog X.w X.K X.mg X.base k x (spF pre As R) []) (a : α) (hr : Room j X.A) (hk : k ≤ j) (hp : pre a) (ha : XA X (e :: es) Rs (As a)) (hg : Gl X x := by rfl)
    (hdb : (x == ("__debug__" : Str)) = false := by decide) (he : starEach (e :: es) X.env = (false, eval e X.env) :: starEach es X.env := by rfl) (hpl : (backTo pos (starEach es X.env)).any (·.1) = false := by rfl) (hR : R a = R' := by rfl) :
    XE X (.Call (.Name x p) (e :: es) [] pos) Rs R' := hR ▸ pe_imp (C8.pe_c c hr hk hg ha hdb he hpl) fun σ H Q ⟨Hv, ow, f, q⟩ =>
  ⟨Hv, ow, f, fun vs Hv1 H1 s1 f1 r1 => ⟨a, Hv1, hp, f1.sub, by rw [List.append_nil]; exact r1, fun z Hv2 H2 a2 r2 => q z Hv2 H2 (s1.trans a2.stp) (f1.al a2) r2⟩⟩
end

/-! ### statements, blocks -/
/-- a step of a statement: hidden objects may come (new ones) and go -/
structure StS (Hv H : Hp) (Rs : Frm) (ow : Nat → Addr) (Hv' H' : Hp) (Rs' : Frm) (ow' : Nat → Addr) : Prop extends Stp Hv H Rs ow Hv' H' where
  same : ∀ (j : Nat) (P P' : Own), Rs[j]? = some (.own P) → Rs'[j]? = some (.own P') → ow' j = ow j
  new : ∀ (j : Nat) (P' : Own), Rs'[j]? = some (.own P') → (∃ P, Rs[j]? = some (.own P)) ∨ H (ow' j) = none
section
variable {Hv H Hv' H' Hv'' H'' : Hp} {Rs Rs' Rs'' : Frm} {ow ow' ow'' : Nat → Addr}
theorem StS.owned (s : StS Hv H Rs ow Hv' H' Rs' ow') {b : Addr} {o : HO} (e : H b = some o) (n : ¬ Owned Rs ow b) : ¬ Owned Rs' ow' b := by
  rintro ⟨j, P, h1, h2⟩
  rcases s.new j P h1 with ⟨P', h⟩ | h
  · exact n ⟨j, P', h, by rw [← s.same j P' P h h1]; exact h2⟩
  · rw [h2, e] at h
    cases h
theorem StS.stp' (s : StS Hv H Rs ow Hv' H' Rs' ow') (t : Stp Hv' H' Rs' ow' Hv'' H'') : Stp Hv H Rs ow Hv'' H'' :=
  ⟨fun b o e n => t.kp b o (s.kp b o e n) (s.owned e n), s.sv.trans t.sv, fun b o e1 e2 n => t.hid b o (s.hid b o e1 e2 n) (s.kp b o e2 n) (s.owned e2 n), fun b o e => by
    obtain ⟨o1, e1⟩ := s.th b o e
    exact t.th b o1 e1⟩
theorem StS.refl : StS Hv H Rs ow Hv H Rs ow := ⟨.refl, fun _ _ _ _ _ => rfl, fun _ P e => .inl ⟨P, e⟩⟩
theorem StS.of (s : Stp Hv H Rs ow Hv' H') : StS Hv H Rs ow Hv' H' Rs ow := ⟨s, fun _ _ _ _ _ => rfl, fun _ P e => .inl ⟨P, e⟩⟩
end
def tXN (Rs Rs' : Frm) : TS := fun D σ H => ∃ Hv ow, Fr Hv H σ Rs ow ∧ ∀ σ' Hv' H' ow', StS Hv H Rs ow Hv' H' Rs' ow' → Fr Hv' H' σ' Rs' ow' → D.nx σ' H'
/-- a return; pw: the slots of the hidden objects that a caller handed in, what is told of each at the end -/
def tXR (pw : List (Nat × Own)) (Rs : Frm) (R : Rel) : TS := fun D σ H => ∃ Hv ow, Fr Hv H σ Rs ow ∧
  ∀ v Hv' H', Stp Hv H Rs ow Hv' H' → Same Hv' H' → (∀ p ∈ pw, Hv' (ow p.1) = none ∧ ∃ u, H' (ow p.1) = some u ∧ p.2.p Hv' u) → R.r Hv' v → D.rt v H'
abbrev XN (X : Cx) (st : Stmt) (Rs Rs' : Frm) : Prop := PS X st (tXN Rs Rs')
abbrev XNs (X : Cx) (st : List Stmt) (Rs Rs' : Frm) : Prop := PSs X st (tXN Rs Rs')
abbrev XRs (X : Cx) (st : List Stmt) (Rs : Frm) (R : Rel) : Prop := PSs X st (tXR [] Rs R)
section
variable {X : Cx} {st : Stmt} {rest body els : List Stmt} {Rs Rs1 Rs2 : Frm} {R : Rel} {pw : List (Nat × Own)} {e c : Expr} {pos : Pos}
theorem b_cons (h : XN X st Rs Rs1) (hr : PSs X rest (tXR pw Rs1 R)) (hp : ∀ p ∈ pw, (∃ P, Rs[p.1]? = some (Ent.own P)) ∧ ∃ P, Rs1[p.1]? = some (Ent.own P) := by intro i hi; cases hi) : PSs X (st :: rest) (tXR pw Rs R) :=
  pss_imp (pss_cons h hr) fun D σ H ⟨Hv, ow, f, q⟩ => ⟨Hv, ow, f, fun σ1 Hv1 H1 ow1 s1 f1 => ⟨Hv1, ow1, f1, fun v Hv2 H2 s2 f2 o2 r => q v Hv2 H2 (s1.stp' s2) f2 (fun p hi => by
    obtain ⟨⟨P, e⟩, P1, e1⟩ := hp p hi
    have z := o2 p hi
    rw [s1.same p.1 P P1 e e1] at z
    exact z) r⟩⟩
theorem n_nil : XNs X [] Rs Rs := pss_imp pss_nil fun D σ H ⟨Hv, ow, f, q⟩ => q σ Hv H ow .refl f
theorem n_cons (h : XN X st Rs Rs1) (hr : XNs X rest Rs1 Rs2) (hp : ∀ (i : Nat) (P P2 : Own), Rs[i]? = some (Ent.own P) → Rs2[i]? = some (Ent.own P2) → ∃ P1, Rs1[i]? = some (Ent.own P1)) : XNs X (st :: rest) Rs Rs2 :=
  pss_imp (pss_cons h hr) fun D σ H ⟨Hv, ow, f, q⟩ => ⟨Hv, ow, f, fun σ1 Hv1 H1 ow1 s1 f1 => ⟨Hv1, ow1, f1, fun σ2 Hv2 H2 ow2 s2 f2 => q σ2 Hv2 H2 ow2 ⟨s1.stp' s2.toStp, fun j P P2 e e2 => by
    obtain ⟨P1, e1⟩ := hp j P P2 e e2
    rw [s2.same j P1 P2 e1 e2, s1.same j P P1 e e1], fun j P2 e2 => by
    rcases s2.new j P2 e2 with ⟨P1, e1⟩ | h
    · rcases s1.new j P1 e1 with z | z
      · exact .inl z
      · rw [s2.same j P1 P2 e1 e2]
        exact .inr z
    · by_cases hj : ∃ P, Rs[j]? = some (Ent.own P)
      · exact .inl hj
      · refine .inr ?_
        cases q2 : H (ow2 j) with
        | none => rfl
        | some o =>
          obtain ⟨o1, e1⟩ := s1.th _ _ q2
          rw [e1] at h
          cases h⟩ f2⟩⟩
end
end Bo
set_option maxHeartbeats 4000000
/-! The logic of frames: assignments, ifs, walks, loops, comprehensions, defs. -/
namespace Bo
open PySem L2
open PyProof.Rows (envOfC)
section
variable {Hv H Hv' H' Hv'' H'' : Hp} {Rs Rs' Rs'' : Frm} {ow ow' ow'' : Nat → Addr}
theorem StS.trans (s1 : StS Hv H Rs ow Hv' H' Rs' ow') (s2 : StS Hv' H' Rs' ow' Hv'' H'' Rs'' ow'') (hp : ∀ (i : Nat) (P P2 : Own), Rs[i]? = some (Ent.own P) → Rs''[i]? = some (Ent.own P2) → ∃ P1, Rs'[i]? = some (Ent.own P1)) : StS Hv H Rs ow Hv'' H'' Rs'' ow'' :=
  ⟨s1.stp' s2.toStp, fun j P P2 e e2 => by
    obtain ⟨P1, e1⟩ := hp j P P2 e e2
    rw [s2.same j P1 P2 e1 e2, s1.same j P P1 e e1], fun j P2 e2 => by
    rcases s2.new j P2 e2 with ⟨P1, e1⟩ | h
    · rcases s1.new j P1 e1 with z | z
      · exact .inl z
      · rw [s2.same j P1 P2 e1 e2]
        exact .inr z
    · refine .inr ?_
      cases q2 : H (ow'' j) with
      | none => rfl
      | some o =>
        obtain ⟨o1, e1⟩ := s1.th _ _ q2
        rw [e1] at h
        cases h⟩
end

/-! ### statements -/
section
variable {X : Cx} {st : Stmt} {rest body els a b : List Stmt} {Rs Rs1 Rs2 Rs' : Frm} {R : Rel} {pw : List (Nat × Own)} {e c : Expr} {pos : Pos} {k : Bool}
theorem b_ret (h : XE X e Rs R) (hp : ∀ p ∈ pw, Rs[p.1]? = some (Ent.own p.2) := by intro i hi; cases hi) : PSs X [.Return (some e) pos] (tXR pw Rs R) := pss_imp (pss_one (ps_ret h)) fun D σ H ⟨Hv, ow, f, q⟩ =>
  ⟨Hv, ow, f, fun v Hv' H' s f' r => q v Hv' H' s f'.sub (fun p hi => (f'.own p.1 p.2 (hp p hi)).2) r⟩
theorem n_expr (h : XE X e Rs R) (hs : swapsWith e none pos.line X.env = pure false := by rfl) : XN X (.Expr e pos) Rs Rs := ps_imp (ps_expr h hs) fun D σ H ⟨Hv, ow, f, q⟩ =>
  ⟨Hv, ow, f, fun v Hv' H' s f' r => q σ Hv' H' ow (.of s) f'⟩
theorem sts_set {Hv H Hv' H' : Hp} {ow : Nat → Addr} {i : Nat} (s : Stp Hv H Rs ow Hv' H') (hn : ∀ P, Rs[i]? ≠ some (Ent.own P)) : StS Hv H Rs ow Hv' H' (Rs.set i (.is R)) ow :=
  ⟨s, fun _ _ _ _ _ => rfl, fun j P e => by
    obtain ⟨i', P', e', _⟩ := (owned_set (b := ow j) hn).mp ⟨j, P, e, rfl⟩
    by_cases hj : i = j
    · subst hj
      have hi : i < Rs.length := by
        have q := (List.getElem?_eq_some_iff.mp e).1
        rw [List.length_set] at q
        exact q
      rw [List.getElem?_set_self hi] at e
      cases e
    · rw [List.getElem?_set_ne hj] at e
      exact .inl ⟨P, e⟩⟩
theorem n_set (i : Nat) {x : Str} {pos' : Pos} (h : XE X e Rs R) (hN : X.N.Nodup) (hn : ∀ P, Rs[i]? ≠ some (Ent.own P) := by intro P z; cases z) (hi : X.N[i]? = some x := by rfl) (hx : Loc X.env.scope x := by first | exact Or.inl rfl | exact Or.inr rfl)
    (hs : swapsWith e (some (.Name x pos')) pos.line X.env = pure false := by rfl) (hf : X.fn x = true ∨ X.env.scope.names.lookup x = some .local := by first | exact .inl rfl | exact .inr rfl) : XN X (.Assign [.Name x pos'] e pos) Rs (Rs.set i (.is R)) :=
  ps_imp (ps_set hN hi hx h hs hf) fun D σ H ⟨Hv, ow, f, q⟩ => ⟨Hv, ow, f, fun v Hv' H' s f' r => q _ Hv' H' ow (sts_set s hn) (f'.set hn r)⟩
/-- if c: (leaves), then the rest -/
theorem b_if (h : XT X c Rs k) (h1 : k = true → PSs X a (tXR pw Rs R)) (h2 : k = false → PSs X rest (tXR pw Rs R)) : PSs X (.If c a [] pos :: rest) (tXR pw Rs R) := by
  cases k with
  | true =>
    exact pss_imp (pss_cons (ps_if h (h1 rfl) pss_nil) pss_never) fun D σ H ⟨Hv, ow, f, q⟩ => ⟨Hv, ow, f, fun Hv1 H1 s1 f1 => iteT ⟨Hv1, ow, f1, fun v Hv2 H2 s2 f2 o r => q v Hv2 H2 (s1.trans s2) f2 o r⟩⟩
  | false =>
    exact pss_imp (pss_cons (ps_if h pss_never pss_nil) (h2 rfl)) fun D σ H ⟨Hv, ow, f, q⟩ => ⟨Hv, ow, f, fun Hv1 H1 s1 f1 => iteF ⟨Hv1, ow, f1, fun v Hv2 H2 s2 f2 o r => q v Hv2 H2 (s1.trans s2) f2 o r⟩⟩
theorem n_if (h : XT X c Rs k) (h1 : k = true → XNs X a Rs Rs') (h2 : k = false → XNs X b Rs Rs') : XN X (.If c a b pos) Rs Rs' := by
  cases k with
  | true =>
    exact ps_imp (ps_if h (h1 rfl) pss_never) fun D σ H ⟨Hv, ow, f, q⟩ => ⟨Hv, ow, f, fun Hv1 H1 s1 f1 => iteT ⟨Hv1, ow, f1, fun σ2 Hv2 H2 ow2 s2 f2 => q σ2 Hv2 H2 ow2 ⟨s1.trans s2.toStp, s2.same, fun j P e => by
      rcases s2.new j P e with z | z
      · exact .inl z
      · refine .inr ?_
        cases q2 : H (ow2 j) with
        | none => rfl
        | some o =>
          obtain ⟨o1, e1⟩ := s1.th _ _ q2
          rw [e1] at z
          cases z⟩ f2⟩⟩
  | false =>
    exact ps_imp (ps_if h pss_never (h2 rfl)) fun D σ H ⟨Hv, ow, f, q⟩ => ⟨Hv, ow, f, fun Hv1 H1 s1 f1 => iteF ⟨Hv1, ow, f1, fun σ2 Hv2 H2 ow2 s2 f2 => q σ2 Hv2 H2 ow2 ⟨s1.trans s2.toStp, s2.same, fun j P e => by
      rcases s2.new j P e with z | z
      · exact .inl z
      · refine .inr ?_
        cases q2 : H (ow2 j) with
        | none => rfl
        | some o =>
          obtain ⟨o1, e1⟩ := s1.th _ _ q2
          rw [e1] at z
          cases z⟩ f2⟩⟩
/-- an if whose test is False: its suite is not asked -/
theorem n_ifF (h : XT X c Rs false) : XN X (.If c a [] pos) Rs Rs := n_if h (fun z => by cases z) fun _ => n_nil
end

/-! ### targets -/
def Agree (ks : List Nat) (σ σ' : St) : Prop := σ'.length = σ.length ∧ ∀ j, j ∉ ks → σ'[j]? = σ[j]?
def tXG (I : Rel) (Rs Rs' : Frm) (ks : List Nat) : TG := fun v σ H Q => ∃ Hv ow, Fr Hv H σ Rs ow ∧ I.r Hv v ∧ ∀ σ', Fr Hv H σ' Rs' ow → Agree ks σ σ' → Q σ' H
def tXGs (As : List Rel) (Rs Rs' : Frm) (ks : List Nat) : TGs := fun vs σ H Q => ∃ Hv ow, Fr Hv H σ Rs ow ∧ AllR Hv vs As ∧ ∀ σ', Fr Hv H σ' Rs' ow → Agree ks σ σ' → Q σ' H
abbrev XG (X : Cx) (tg : Expr) (I : Rel) (Rs Rs' : Frm) (ks : List Nat) : Prop := PG X tg (tXG I Rs Rs' ks)
abbrev XGs (X : Cx) (tgs : List Expr) (As : List Rel) (Rs Rs' : Frm) (ks : List Nat) : Prop := PGs X tgs (tXGs As Rs Rs' ks)
/-- a tuple, item by item -/
def tupsR (K : PySem.W.Frag) (As : List Rel) : Rel := ⟨fun H v => ∃ a xs, v = .ref a ∧ SqT K H a xs ∧ AllR H xs As, fun s ⟨a, xs, e, h1, h2⟩ => ⟨a, xs, e, same_t s h1, AllR.mono s h2⟩⟩
section
variable {X : Cx} {tg : Expr} {tgs : List Expr} {Rs Rs' Rs'' : Frm} {I : Rel} {As : List Rel} {ks ks' : List Nat} {pos : Pos}
theorem pg_imp {g g' : TG} (h : PG X tg g) (i : ∀ v σ H Q, g' v σ H Q → g v σ H Q) : PG X tg g' := ⟨fun pins s σ H v u Q I r q => h.run pins s σ H v u Q I r (i v σ H Q q)⟩
theorem pgs_imp {g g' : TGs} (h : PGs X tgs g) (i : ∀ v σ H Q, g' v σ H Q → g v σ H Q) : PGs X tgs g' := ⟨fun pins s σ H v u Q I r q => h.run pins s σ H v u Q I r (i v σ H Q q)⟩
theorem agree_set {σ : St} {i : Nat} {v : Option V} : Agree [i] σ (σ.set i v) := ⟨List.length_set, fun j hj => List.getElem?_set_ne fun z => hj (by simp [z])⟩
theorem Agree.trans {σ σ' σ'' : St} (a : Agree ks σ σ') (b : Agree ks' σ' σ'') : Agree (ks ++ ks') σ σ'' :=
  ⟨b.1.trans a.1, fun j hj => (b.2 j fun z => hj (List.mem_append_right _ z)).trans (a.2 j fun z => hj (List.mem_append_left _ z))⟩
theorem xg_name (i : Nat) {x : Str} (hN : X.N.Nodup) (hn : ∀ P, Rs[i]? ≠ some (Ent.own P) := by intro P z; cases z) (hi : X.N[i]? = some x := by rfl) (hx : Loc X.env.scope x := by first | exact Or.inl rfl | exact Or.inr rfl)
    (hf : X.fn x = true ∨ X.env.scope.names.lookup x = some .local := by first | exact .inl rfl | exact .inr rfl) : XG X (.Name x pos) I Rs (Rs.set i (.is I)) [i] :=
  pg_imp (pg_name hN hi hx hf) fun v σ H Q ⟨Hv, ow, f, r, q⟩ => q _ (f.set hn r) agree_set
theorem xgs_nil : XGs X [] [] Rs Rs [] := pgs_imp pgs_nil fun vs σ H Q ⟨Hv, ow, f, r, q⟩ => by
  cases vs with
  | nil => exact ⟨rfl, q σ f ⟨rfl, fun _ _ => rfl⟩⟩
  | cons v vs => exact r.elim
theorem xgs_cons {A : Rel} (h : XG X tg A Rs Rs' ks) (hr : XGs X tgs As Rs' Rs'' ks') (hs : (assignEach (tg :: tgs) X.env).map (·.2) = assign tg X.env :: (assignEach tgs X.env).map (·.2) := by rfl) : XGs X (tg :: tgs) (A :: As) Rs Rs'' (ks ++ ks') := pgs_imp (pgs_cons h hr hs) fun vs σ H Q ⟨Hv, ow, f, r, q⟩ => by
  cases vs with
  | nil => exact r.elim
  | cons v vs => exact ⟨v, vs, rfl, Hv, ow, f, r.1, fun σ1 f1 a1 => ⟨Hv, ow, f1, r.2, fun σ2 f2 a2 => q σ2 f2 (a1.trans a2)⟩⟩
theorem xg_tup {kk} {As : List Rel} (hc : X.calm = true) (h : XGs X tgs As Rs Rs' ks) (hn : (assignEach tgs X.env).length = As.length := by rfl) (hst : (assignEach tgs X.env).findIdx? (·.1) = none := by rfl) : XG X (.Tuple tgs kk pos) (tupsR X.K As) Rs Rs' ks :=
  pg_imp (pg_tup hc h hn hst) fun v σ H Q ⟨Hv, ow, f, ⟨a, xs, e, h1, h2⟩, q⟩ => ⟨a, xs, e, same_t f.sub h1, h2.length, Hv, ow, f, h2, q⟩
end

/-! ### walks -/
/-- what a walk gives in n turns, while G stands -/
structure Wk (J : It) (n : Nat) (G : Hp → Prop) (I : Nat → Rel) : Prop where
  mono : ∀ {H H' : Hp}, Same H H' → G H → G H'
  go : ∀ (i : Nat) (Hv H : Hp), i < n → Same Hv H → G Hv → J.go i H
  yld : ∀ (i : Nat) (Hv H : Hp) (x : V) (H' : Hp), i < n → Same Hv H → G Hv → J.yld i H x H' → ∃ Hv', Al Hv H Hv' H' ∧ (I i).r Hv' x
  stop : ∀ (Hv H : Hp), Same Hv H → G Hv → J.stop n H
def tXI (Rs : Frm) (n : Nat) (I : Nat → Rel) : TI := fun σ H R => ∃ Hv ow, Fr Hv H σ Rs ow ∧ ∀ J G Hv' H', Stp Hv H Rs ow Hv' H' → Fr Hv' H' σ Rs ow → Wk J n G I → G Hv' → R J H'
abbrev XI (X : Cx) (tg e : Expr) (Rs : Frm) (n : Nat) (I : Nat → Rel) : Prop := PI X tg e (tXI Rs n I)
theorem pi_imp {X : Cx} {tg e : Expr} {w w' : TI} (h : PI X tg e w) (i : ∀ σ H R, w' σ H R → w σ H R) : PI X tg e w' := ⟨fun pins s σ H R I q => h.run pins s σ H R I (i σ H R q)⟩
theorem Wk.weak {J : It} {n : Nat} {G : Hp → Prop} {I I' : Nat → Rel} (h : Wk J n G I) (i : ∀ k, k < n → ∀ H v, (I k).r H v → (I' k).r H v) : Wk J n G I' :=
  ⟨h.mono, h.go, fun k Hv H x H' hk s g y => by
    obtain ⟨Hv', a, r⟩ := h.yld k Hv H x H' hk s g y
    exact ⟨Hv', a, i k hk _ _ r⟩, h.stop⟩
theorem xi_weak {X : Cx} {tg e : Expr} {Rs : Frm} {n : Nat} {I I' : Nat → Rel} (h : XI X tg e Rs n I) (i : ∀ k, k < n → ∀ H v, (I k).r H v → (I' k).r H v) : XI X tg e Rs n I' :=
  pi_imp h fun σ H R ⟨Hv, ow, f, q⟩ => ⟨Hv, ow, f, fun J G Hv' H' s f' w g => q J G Hv' H' s f' (w.weak i) g⟩
section
variable {X : Cx} {tg e a b : Expr} {es : List Expr} {Rs : Frm} {pos p : Pos}
/-- the k-th of some data -/
def nthD (ds : List PyData) (i : Nat) : PyData := ds.getD i .none
theorem nthD_of {ds : List PyData} {i : Nat} {d : PyData} (h : ds[i]? = some d) : nthD ds i = d := by
  unfold nthD
  rw [List.getD_eq_getElem?_getD, h]
  rfl
theorem nthD_lt {ds : List PyData} {i : Nat} (h : i < ds.length) : ds[i]? = some (nthD ds i) := by
  unfold nthD
  rw [List.getD_eq_getElem?_getD, List.getElem?_eq_getElem h]
  rfl
theorem xi_list {ds : List PyData} (h : XE X e Rs (dR X.K (.list ds))) : XI X tg e Rs ds.length (fun i => dR X.K (nthD ds i)) :=
  pi_imp (pi_list h) fun σ H R ⟨Hv, ow, f, q⟩ => ⟨Hv, ow, f, fun v Hv1 H1 s1 f1 r => by
    obtain ⟨a, xs, ev, hs, ha⟩ := dp_list r
    refine ⟨a, ev, ⟨xs, same_l f1.sub hs⟩, q (Itl X.K a) (fun H => SqL X.K H a xs ∧ DpAll X.K H xs ds) Hv1 H1 s1 f1 ⟨fun s g => ⟨same_l s g.1, dpAll_mono s _ _ g.2⟩, fun i Hv2 H2 hi s g => ?_, fun i Hv2 H2 x H3 hi s g y => ?_, fun Hv2 H2 s g => ?_⟩ ⟨hs, ha⟩⟩
    · have hl : i < xs.length := by rw [dpAll_length g.2]; exact hi
      exact ⟨xs, xs[i], same_l s g.1, List.getElem?_eq_getElem hl⟩
    · obtain ⟨e1, y⟩ := y
      subst e1
      obtain ⟨v', h1, h2⟩ := dpAll_get g.2 (nthD_lt hi)
      have e2 := y xs (same_l s g.1)
      rw [h1] at e2
      cases e2
      exact ⟨Hv2, .refl s, h2⟩
    · exact ⟨xs, same_l s g.1, Nat.le_of_eq (dpAll_length g.2)⟩⟩
theorem xi_tup {ds : List PyData} (h : XE X e Rs (dR X.K (.tuple ds))) : XI X tg e Rs ds.length (fun i => dR X.K (nthD ds i)) :=
  pi_imp (pi_tup h) fun σ H R ⟨Hv, ow, f, q⟩ => ⟨Hv, ow, f, fun v Hv1 H1 s1 f1 r => by
    obtain ⟨a, xs, ev, hs, ha⟩ := dp_tup r
    refine ⟨a, ev, ⟨xs, same_t f1.sub hs⟩, q (Itt X.K a) (fun H => SqT X.K H a xs ∧ DpAll X.K H xs ds) Hv1 H1 s1 f1 ⟨fun s g => ⟨same_t s g.1, dpAll_mono s _ _ g.2⟩, fun i Hv2 H2 hi s g => ?_, fun i Hv2 H2 x H3 hi s g y => ?_, fun Hv2 H2 s g => ?_⟩ ⟨hs, ha⟩⟩
    · have hl : i < xs.length := by rw [dpAll_length g.2]; exact hi
      exact ⟨xs, xs[i], same_t s g.1, List.getElem?_eq_getElem hl⟩
    · obtain ⟨e1, y⟩ := y
      subst e1
      obtain ⟨v', h1, h2⟩ := dpAll_get g.2 (nthD_lt hi)
      have e2 := y xs (same_t s g.1)
      rw [h1] at e2
      cases e2
      exact ⟨Hv2, .refl s, h2⟩
    · exact ⟨xs, same_t s g.1, Nat.le_of_eq (dpAll_length g.2)⟩⟩
theorem wk_range {lo : Int} {n : Nat} : Wk (Itr lo n) n (fun _ => True) (fun i => intR (lo + i)) :=
  ⟨fun _ g => g, fun i Hv H hi _ _ => hi, fun i Hv H x H' hi s _ y => by
    obtain ⟨e1, e2⟩ := y
    subst e1
    exact ⟨Hv, .refl s, e2⟩, fun Hv H _ _ => Nat.le_refl _⟩
theorem xi_range1 {n : Int} (h : XA X [a] Rs [intR n]) (hm : X.mg "range" = none) (h1 : -(2 ^ 62) ≤ n) (h2 : n < 2 ^ 62) (hg : Gl X "range" := by rfl) (hs : starEach [a] X.env = [(false, eval a X.env)] := by rfl) : XI X tg (.Call (.Name "range" p) [a] [] pos) Rs n.toNat (fun i => intR (0 + i)) :=
  pi_imp (pi_range1 hg hm h hs) fun σ H R ⟨Hv, ow, f, q⟩ => ⟨Hv, ow, f, fun vs Hv1 H1 s1 f1 r => by
    match vs, r with
    | [v], ⟨r1, _⟩ => exact ⟨n, by rw [show v = .int n from r1], h1, h2, q _ _ Hv1 H1 s1 f1 wk_range trivial⟩⟩
theorem xi_range2 {lo hi : Int} (h : XA X [a, b] Rs [intR lo, intR hi]) (hm : X.mg "range" = none) (h1 : -(2 ^ 62) ≤ lo ∧ lo < 2 ^ 62 ∧ -(2 ^ 62) ≤ hi ∧ hi < 2 ^ 62) (hg : Gl X "range" := by rfl) (hs : starEach [a, b] X.env = [(false, eval a X.env), (false, eval b X.env)] := by rfl) (hs2 : starEach [b] X.env = [(false, eval b X.env)] := by rfl) : XI X tg (.Call (.Name "range" p) [a, b] [] pos) Rs (hi - lo).toNat (fun i => intR (lo + i)) :=
  pi_imp (pi_range2 hg hm h hs hs2) fun σ H R ⟨Hv, ow, f, q⟩ => ⟨Hv, ow, f, fun vs Hv1 H1 s1 f1 r => by
    match vs, r with
    | [v, w], ⟨r1, r2, _⟩ => exact ⟨lo, hi, by rw [show v = .int lo from r1, show w = .int hi from r2], h1, q _ _ Hv1 H1 s1 f1 wk_range trivial⟩⟩
end

/-! ### for -/
/-- frames whose hidden objects stand in the same slots -/
def SameOwn (Rs Rs' : Frm) : Prop := ∀ i : Nat, (∃ P, Rs[i]? = some (Ent.own P)) ↔ ∃ P, Rs'[i]? = some (Ent.own P)
theorem SameOwn.refl {Rs : Frm} : SameOwn Rs Rs := fun _ => Iff.rfl
theorem NoOwn.same {Rs Rs' : Frm} (h : NoOwn Rs) (h' : NoOwn Rs') : SameOwn Rs Rs' := fun i => ⟨fun ⟨P, e⟩ => (h i P e).elim, fun ⟨P, e⟩ => (h' i P e).elim⟩
section
variable {X : Cx} {tg iter : Expr} {body : List Stmt} {Rs : Frm} {pos : Pos} {n : Nat} {I : Nat → Rel}
theorem n_for (F Gi : Nat → Frm) {ks : List Nat} (hi : XI X tg iter Rs n I) (h0 : F 0 = Rs) (hc : X.calm = true) (hp : PassesOwn (model X.prog X.w) X.A X.env X.xe) (ho : ∀ i, i ≤ n → SameOwn Rs (F i)) (hog : ∀ i, i < n → SameOwn Rs (Gi i))
    (hg : ∀ i, i < n → XG X tg (I i) (F i) (Gi i) ks) (hb : ∀ i, i < n → XNs X body (Gi i) (F (i + 1))) (hs : ∀ x, foldedSetIterable iter X.env x = pure x := by intro _; rfl) : XN X (.For tg iter body [] pos) Rs (F n) := by
  have g : PG X tg (fun v σ H Q => ∃ i, i < n ∧ tXG (I i) (F i) (Gi i) ks v σ H Q) := ⟨fun pins s σ H v u Q J r ⟨i, hi, q⟩ => (hg i hi).run pins s σ H v u Q J r q⟩
  have b : PSs X body (fun D σ H => ∃ i, i < n ∧ tXN (Gi i) (F (i + 1)) D σ H) := ⟨fun pins s σ H D J ⟨i, hi, q⟩ => (hb i hi).run pins s σ H D J q⟩
  refine ps_imp (ps_for hp hc hi g b hs) fun D σ H ⟨Hv, ow, f, q⟩ => ⟨Hv, ow, f, fun J G Hv1 H1 s1 f1 w g1 => ?_⟩
  refine ⟨fun i m σ2 H2 => m = n - i ∧ i ≤ n ∧ ∃ Hv2 ow2, Fr Hv2 H2 σ2 (F i) ow2 ∧ StS Hv H Rs ow Hv2 H2 (F i) ow2 ∧ G Hv2, ⟨n, by omega, Nat.zero_le _, Hv1, ow, by rw [h0]; exact f1, by rw [h0]; exact .of s1, g1⟩, ?_⟩
  rintro i m σ2 H2 ⟨rfl, hin, Hv2, ow2, f2, s2, g2⟩
  by_cases hlt : i < n
  · refine .inr ⟨w.go i Hv2 H2 hlt f2.sub g2, _, fun σ' H' h => h, fun x H3 y => ?_⟩
    obtain ⟨Hv3, a3, r3⟩ := w.yld i Hv2 H2 x H3 hlt f2.sub g2 y
    refine ⟨i, hlt, Hv3, ow2, f2.al a3, r3, fun σ4 f4 _ => ⟨i, hlt, Hv3, ow2, f4, fun σ5 Hv5 H5 ow5 s5 f5 => ?_⟩⟩
    have sA : StS Hv2 H2 (F i) ow2 Hv3 H3 (Gi i) ow2 := ⟨a3.stp, fun _ _ _ _ _ => rfl, fun j P e => .inl (((ho i hin) j).mp (((hog i hlt) j).mpr ⟨P, e⟩))⟩
    have sB := sA.trans s5 fun j P P2 e e2 => ((hog i hlt) j).mp (((ho i hin) j).mpr ⟨P, e⟩)
    have sC := s2.trans sB fun j P P2 e e2 => ((ho i hin) j).mp ⟨P, e⟩
    exact ⟨n - (i + 1), by omega, rfl, hlt, Hv5, ow5, f5, sC, w.mono (a3.sv.trans s5.sv) g2⟩
  · have e : i = n := by omega
    subst e
    exact .inl ⟨w.stop Hv2 H2 f2.sub g2, q σ2 Hv2 H2 ow2 s2 f2⟩
end

/-- a list of data, hidden -/
def ownL (K : PySem.W.Frag) (ds : List PyData) : Own := ⟨fun H o => ∃ xs, o = .lst xs ∧ DpAll K H xs ds, fun s ⟨xs, e, h⟩ => ⟨xs, e, dpAll_mono s _ _ h⟩⟩
section
variable {Hv H Hv' H' : Hp} {σ : St} {Rs : Frm} {ow : Nat → Addr} {p : Addr} {u : HO}
theorem Fr.free (f : Fr Hv H σ Rs ow) (h : H p = none) : ∀ j Q, Rs[j]? = some (.own Q) → ow j ≠ p := fun j Q e z => by
  obtain ⟨_, _, u, g, _⟩ := f.own j Q e
  rw [z, h] at g
  cases g
def tXO (Rs : Frm) (P : Own) : TE := fun σ H Q => ∃ Hv ow, Fr Hv H σ Rs ow ∧ ∀ p u Hv' H', Stp Hv H Rs ow Hv' H' → Fr Hv' H' σ Rs ow → H p = none → Hv' p = none → H' p = some u → P.p Hv' u → Q (.ref p) H'
abbrev XO (X : Cx) (e : Expr) (Rs : Frm) (P : Own) : Prop := PE X e (tXO Rs P)
/-- how a hidden object is seen -/
def SeenAs (P : Own) (R : Rel) : Prop := ∀ (Hv : Hp) (p : Addr) (u : HO), Hv p = none → P.p Hv u → R.r (upd Hv p u) (.ref p)
theorem seen_l {K : PySem.W.Frag} {ds : List PyData} : SeenAs (ownL K ds) (tlR K ds) := fun Hv p u hv ⟨xs, e, hx⟩ => ⟨p, xs, rfl, by rw [e, upd_same], dpAll_mono (same_new hv) _ _ hx⟩
theorem seen_d {K : PySem.W.Frag} {ds : List PyData} : SeenAs (ownL K ds) (dR K (.list ds)) := fun Hv p u hv h => tlR_d (seen_l Hv p u hv h)
/-- a new hidden object as one that is seen -/
theorem xo_rev {P0 : Own} {R0 : Rel} (hR : SeenAs P0 R0) {σ : St} {H : Hp} {Q : VK} : tX Rs R0 σ H Q → tXO Rs P0 σ H Q := fun ⟨Hv, ow, f, q⟩ => ⟨Hv, ow, f, fun p u Hv1 H1 s1 f1 h0 hv hh hx => by
  have sm : Same Hv1 (upd Hv1 p u) := same_new hv
  refine q _ (upd Hv1 p u) H1 ⟨s1.kp, s1.sv.trans sm, fun b o e1 e2 n => ?_, s1.th⟩ ⟨fun b o e => ?_, f1.len, fun i R e => ?_, fun i P e => ?_, f1.inj⟩ (hR Hv1 p u hv hx)
  · rw [upd_ne (ne_of_none e2 h0)]
    exact s1.hid b o e1 e2 n
  · by_cases hb : b = p
    · rw [hb, upd_same] at e
      rw [hb, hh]
      exact e
    · rw [upd_ne hb] at e
      exact f1.sub b o e
  · obtain ⟨v, g1, g2⟩ := f1.get i R e
    exact ⟨v, g1, R.mono sm g2⟩
  · obtain ⟨g1, g2, u, g3, g4⟩ := f1.own i P e
    refine ⟨g1, ?_, u, g3, P.mono sm g4⟩
    rw [upd_ne (f.free h0 i P e)]
    exact g2⟩
theorem xo_reveal {K : PySem.W.Frag} {ds : List PyData} {σ : St} {H : Hp} {Q : VK} : tX Rs (tlR K ds) σ H Q → tXO Rs (ownL K ds) σ H Q := xo_rev seen_l
end
/-! ### comprehensions -/
theorem wipe_in {σ : St} {j : Nat} : ∀ {vs : List Nat}, j ∈ vs → j < σ.length → (wipe σ vs)[j]? = some none
  | [], h, _ => by simp at h
  | v :: vs, h, hl => by
    show ((wipe σ vs).set v none)[j]? = some none
    by_cases hv : v = j
    · subst hv
      exact List.getElem?_set_self (by rw [wipe_length]; exact hl)
    · rw [List.getElem?_set_ne hv]
      exact wipe_in ((List.mem_cons.mp h).resolve_left fun z => hv z.symm) hl
theorem wipe_agree {σ σ' : St} {vs ks : List Nat} (h : Agree ks (wipe σ vs) σ') (hk : ∀ k ∈ ks, k ∈ vs) : wipe σ' vs = wipe σ vs := by
  have hl : σ'.length = σ.length := h.1.trans (wipe_length σ vs)
  refine List.ext_getElem? fun j => ?_
  by_cases hj : j ∈ vs
  · by_cases hlt : j < σ.length
    · rw [wipe_in hj hlt, wipe_in hj (by rw [hl]; exact hlt)]
    · rw [List.getElem?_eq_none (by rw [wipe_length]; omega), List.getElem?_eq_none (by rw [wipe_length]; omega)]
  · rw [wipe_out hj, h.2 j fun z => hj (hk j z)]
/-- what a comprehension makes: the items that pass, in order -/
def lcD (n : Nat) (b : Nat → Bool) (f : Nat → PyData) : List PyData := ((List.range n).filter b).map f
theorem lcD_succ {i : Nat} {b : Nat → Bool} {f : Nat → PyData} : lcD (i + 1) b f = if b i = true then lcD i b f ++ [f i] else lcD i b f := by
  unfold lcD
  rw [List.range_succ, List.filter_append, List.map_append]
  cases h : b i with
  | true => simp [h]
  | false => simp [h]
section
variable {X : Cx} {elt tg iter : Expr} {ifs : List Expr} {scope : Scope} {own : List (Str × Nat)} {Rs : Frm} {pos : Pos} {n : Nat} {I : Nat → Rel}
theorem lc_o (b : Nat → Bool) (f : Nat → PyData) (Gi : Nat → Frm) {ks : List Nat} (hn : n ≤ 100000) (ho : NoOwn Rs) (hog : ∀ i, i < n → NoOwn (Gi i)) (hw : ∀ k ∈ own.map (·.2), Rs[k]? = some Ent.no) (hk : ∀ k ∈ ks, k ∈ own.map (·.2)) :
    ∀ σ H Q, tXO Rs (ownL X.K (lcD n b f)) σ H Q → tLc (tXI Rs n I) (fun v σ H Q => ∃ i, i < n ∧ tXG (I i) Rs (Gi i) ks v σ H Q) (fun σ H Q => ∃ i, i < n ∧ tXT (Gi i) (b i) σ H Q) (fun σ H Q => ∃ i, i < n ∧ b i = true ∧ tX (Gi i) (dR X.K (f i)) σ H Q) (own.map (·.2)) σ H Q := by
  intro σ H Q ⟨Hv, ow, f0, q⟩
  refine ⟨Hv, ow, f0, fun J G Hv1 H1 s1 f1 w g1 D nD => ?_⟩
  have vD : Hv1 D = none := f1.sub.free nD
  refine ⟨fun i m H2 => m = n - i ∧ i ≤ n ∧ ∃ Hv2 xs, Fr Hv2 H2 σ Rs ow ∧ Al Hv1 H1 Hv2 H2 ∧ G Hv2 ∧ H2 D = some (.lst xs) ∧ Hv2 D = none ∧ DpAll X.K Hv2 xs (lcD i b f) ∧ xs.length ≤ i,
    ⟨n, by omega, Nat.zero_le _, Hv1, [], ⟨f1.sub.trans (same_new nD), f1.len, f1.get, fun i P e => (ho i P e).elim, f1.inj⟩, ⟨same_new nD, Same.refl _, f1.sub.trans (same_new nD), fun _ _ e _ => e⟩, g1, upd_same, vD, .nil, Nat.le_refl _⟩, ?_⟩
  rintro i m H2 ⟨rfl, hin, Hv2, xs, f2, a2, g2, hD, vD2, dx, hl⟩
  by_cases hlt : i < n
  · refine .inr ⟨w.go i Hv2 H2 hlt f2.sub g2, _, fun H' h => h, fun x H3 y => ?_⟩
    obtain ⟨Hv3, a3, r3⟩ := w.yld i Hv2 H2 x H3 hlt f2.sub g2 y
    have f3 : Fr Hv3 H3 σ Rs ow := f2.al a3
    refine ⟨i, hlt, Hv3, ow, f3.wipe hw, r3, fun σ4 f4 ag => ⟨wipe_agree ag hk, i, hlt, Hv3, ow, f4, fun Hv5 H5 s5 f5 => ?_⟩⟩
    have a5 : Al Hv3 H3 Hv5 H5 := s5.al (hog i hlt) f5.sub
    have b5 := a3.trans a5
    cases hb : b i with
    | false =>
      refine iteF ⟨n - (i + 1), by omega, rfl, hlt, Hv5, xs, f2.al b5, a2.trans b5, w.mono b5.sv g2, b5.s _ _ hD, b5.hid _ _ vD2 hD, ?_, by omega⟩
      rw [lcD_succ, hb, if_neg Bool.false_ne_true]
      exact dpAll_mono b5.sv _ _ dx
    | true =>
      refine iteT ⟨i, hlt, hb, Hv5, ow, f5, fun v Hv6 H6 s6 f6 r6 => ?_⟩
      have a6 : Al Hv5 H5 Hv6 H6 := s6.al (hog i hlt) f6.sub
      have b6 := b5.trans a6
      have vD6 : Hv6 D = none := b6.hid _ _ vD2 hD
      refine ⟨xs, b6.s _ _ hD, Nat.lt_of_le_of_lt (by omega : xs.length ≤ 100000) (by decide), n - (i + 1), by omega, rfl, hlt, Hv6, xs ++ [v], ?_, ?_, w.mono b6.sv g2, upd_same, vD6, ?_, by rw [List.length_append, List.length_singleton]; omega⟩
      · have f7 := f2.al b6
        refine ⟨fun c o e => ?_, f7.len, f7.get, fun i P e => (ho i P e).elim, f7.inj⟩
        rw [upd_ne (ne_of_none e vD6)]
        exact f7.sub c o e
      · have a7 := a2.trans b6
        refine ⟨fun c o e => ?_, a7.sv, fun c o e => ?_, a7.hid⟩
        · rw [upd_ne (ne_of_none e nD)]
          exact a7.s c o e
        · rw [upd_ne (ne_of_none e vD6)]
          exact a7.sub c o e
      · rw [lcD_succ, hb, if_pos rfl]
        exact dpAll_snoc (dpAll_mono b6.sv _ _ dx) r6
  · have e : i = n := by omega
    subst e
    refine .inl ⟨w.stop Hv2 H2 f2.sub g2, q D (.lst xs) Hv2 H2 (s1.trans a2.stp) f2 ?_ vD2 hD ⟨xs, rfl, dx⟩⟩
    cases hq : H D with
    | none => rfl
    | some o =>
      obtain ⟨o', e'⟩ := s1.th D o hq
      rw [e'] at nD
      cases nD
theorem lc_x (b : Nat → Bool) (f : Nat → PyData) (Gi : Nat → Frm) {ks : List Nat} (hn : n ≤ 100000) (ho : NoOwn Rs) (hog : ∀ i, i < n → NoOwn (Gi i)) (hw : ∀ k ∈ own.map (·.2), Rs[k]? = some Ent.no) (hk : ∀ k ∈ ks, k ∈ own.map (·.2)) :
    ∀ σ H Q, tX Rs (tlR X.K (lcD n b f)) σ H Q → tLc (tXI Rs n I) (fun v σ H Q => ∃ i, i < n ∧ tXG (I i) Rs (Gi i) ks v σ H Q) (fun σ H Q => ∃ i, i < n ∧ tXT (Gi i) (b i) σ H Q) (fun σ H Q => ∃ i, i < n ∧ b i = true ∧ tX (Gi i) (dR X.K (f i)) σ H Q) (own.map (·.2)) σ H Q :=
  fun σ H Q h => lc_o b f Gi hn ho hog hw hk σ H Q (xo_reveal h)
/-- the parts of a comprehension, in the block -/
abbrev Blk (X : Cx) (scope : Scope) (P : Cx → Prop) : Prop := ∀ (s : Shared) (H : Hp) (C : Addr) (cl : List (Str × Addr)) (fp : List Addr), P (X.blk s H scope (compEnvC scope cl C X.env) fp)
theorem x_lcT (b : Nat → Bool) (f : Nat → PyData) (Gi : Nat → Frm) {ks : List Nat} (hc : X.calm = true) (hN : X.N.Nodup) (hi : XI X tg iter Rs n I) (ok : BlkOk X.N X.env.scope scope own) (hn : n ≤ 100000) (ho : NoOwn Rs) (hog : ∀ i, i < n → NoOwn (Gi i))
    (hw : ∀ k ∈ own.map (·.2), Rs[k]? = some Ent.no) (hk : ∀ k ∈ ks, k ∈ own.map (·.2)) (hg : Blk X scope fun Y => ∀ i, i < n → XG Y tg (I i) Rs (Gi i) ks) (ht : Blk X scope fun Y => ∀ i, i < n → PTs Y ifs (tXT (Gi i) (b i)))
    (he : Blk X scope fun Y => ∀ i, i < n → b i = true → XE Y elt (Gi i) (dR X.K (f i))) (hs : ∀ x, foldedSetIterable iter X.env x = pure x := by intro _; rfl) : XE X (.ListComp elt [⟨tg, iter, ifs, 0⟩] scope pos) Rs (tlR X.K (lcD n b f)) :=
  pe_imp (pe_lc (g := fun v σ H Q => ∃ i, i < n ∧ tXG (I i) Rs (Gi i) ks v σ H Q) (tt := fun σ H Q => ∃ i, i < n ∧ tXT (Gi i) (b i) σ H Q) (te := fun σ H Q => ∃ i, i < n ∧ b i = true ∧ tX (Gi i) (dR X.K (f i)) σ H Q) hc hN hi ok
    (fun s H C cl fp => ⟨fun pins s2 σ H2 v u Q J r ⟨i, hi, q⟩ => (hg s H C cl fp i hi).run pins s2 σ H2 v u Q J r q⟩) (fun s H C cl fp => ⟨fun pins s2 σ H2 Q J ⟨i, hi, q⟩ => (ht s H C cl fp i hi).run pins s2 σ H2 Q J q⟩)
    (fun s H C cl fp => ⟨fun pins s2 σ H2 Q J ⟨i, hi, hb, q⟩ => (he s H C cl fp i hi hb).run pins s2 σ H2 Q J q⟩) hs) (lc_x b f Gi hn ho hog hw hk)
theorem x_lc (b : Nat → Bool) (f : Nat → PyData) (Gi : Nat → Frm) {ks : List Nat} (hc : X.calm = true) (hN : X.N.Nodup) (hi : XI X tg iter Rs n I) (ok : BlkOk X.N X.env.scope scope own) (hn : n ≤ 100000) (ho : NoOwn Rs) (hog : ∀ i, i < n → NoOwn (Gi i))
    (hw : ∀ k ∈ own.map (·.2), Rs[k]? = some Ent.no) (hk : ∀ k ∈ ks, k ∈ own.map (·.2)) (hg : Blk X scope fun Y => ∀ i, i < n → XG Y tg (I i) Rs (Gi i) ks) (ht : Blk X scope fun Y => ∀ i, i < n → PTs Y ifs (tXT (Gi i) (b i)))
    (he : Blk X scope fun Y => ∀ i, i < n → b i = true → XE Y elt (Gi i) (dR X.K (f i))) (hs : ∀ x, foldedSetIterable iter X.env x = pure x := by intro _; rfl) : XE X (.ListComp elt [⟨tg, iter, ifs, 0⟩] scope pos) Rs (dR X.K (.list (lcD n b f))) :=
  x_weak (x_lcT b f Gi hc hN hi ok hn ho hog hw hk hg ht he hs) fun _ _ r => tlR_d r
/-- name = [..] on one line -/
theorem n_setLcT (j : Nat) (b : Nat → Bool) (f : Nat → PyData) (Gi : Nat → Frm) {ks : List Nat} {y : Str} {py spos : Pos} (hc : X.calm = true) (hN : X.N.Nodup) (hi : XI X tg iter Rs n I) (ok : BlkOk X.N X.env.scope scope own) (hn : n ≤ 100000) (ho : NoOwn Rs) (hog : ∀ i, i < n → NoOwn (Gi i))
    (hw : ∀ k ∈ own.map (·.2), Rs[k]? = some Ent.no) (hk : ∀ k ∈ ks, k ∈ own.map (·.2)) (hg : Blk X scope fun Y => ∀ i, i < n → XG Y tg (I i) Rs (Gi i) ks) (ht : Blk X scope fun Y => ∀ i, i < n → PTs Y ifs (tXT (Gi i) (b i)))
    (he : Blk X scope fun Y => ∀ i, i < n → b i = true → XE Y elt (Gi i) (dR X.K (f i))) (hsw : swapsWith (.ListComp elt [⟨tg, iter, ifs, 0⟩] scope pos) (some (.Name y py)) spos.line X.env = pure true) (hy : X.N[j]? = some y := by rfl) (hyl : X.env.scope.names.lookup y = some .local := by rfl)
    (hs : ∀ x, foldedSetIterable iter X.env x = pure x := by intro _; rfl) : XN X (.Assign [.Name y py] (.ListComp elt [⟨tg, iter, ifs, 0⟩] scope pos) spos) Rs (Rs.set j (.is (tlR X.K (lcD n b f)))) :=
  ps_imp (ps_setLc (g := fun v σ H Q => ∃ i, i < n ∧ tXG (I i) Rs (Gi i) ks v σ H Q) (tt := fun σ H Q => ∃ i, i < n ∧ tXT (Gi i) (b i) σ H Q) (te := fun σ H Q => ∃ i, i < n ∧ b i = true ∧ tX (Gi i) (dR X.K (f i)) σ H Q) hc hN hy hyl hsw hi ok
    (fun s H C cl fp => ⟨fun pins s2 σ H2 v u Q J r ⟨i, hi, q⟩ => (hg s H C cl fp i hi).run pins s2 σ H2 v u Q J r q⟩) (fun s H C cl fp => ⟨fun pins s2 σ H2 Q J ⟨i, hi, q⟩ => (ht s H C cl fp i hi).run pins s2 σ H2 Q J q⟩)
    (fun s H C cl fp => ⟨fun pins s2 σ H2 Q J ⟨i, hi, hb, q⟩ => (he s H C cl fp i hi hb).run pins s2 σ H2 Q J q⟩) hs) fun D σ H ⟨Hv, ow, f0, q⟩ => lc_x b f Gi hn ho hog hw hk σ H _ ⟨Hv, ow, f0, fun v Hv' H' s f' r => q _ Hv' H' ow (sts_set s (ho j)) (f'.set (ho j) r)⟩
theorem o_lc (b : Nat → Bool) (f : Nat → PyData) (Gi : Nat → Frm) {ks : List Nat} (hc : X.calm = true) (hN : X.N.Nodup) (hi : XI X tg iter Rs n I) (ok : BlkOk X.N X.env.scope scope own) (hn : n ≤ 100000) (ho : NoOwn Rs) (hog : ∀ i, i < n → NoOwn (Gi i))
    (hw : ∀ k ∈ own.map (·.2), Rs[k]? = some Ent.no) (hk : ∀ k ∈ ks, k ∈ own.map (·.2)) (hg : Blk X scope fun Y => ∀ i, i < n → XG Y tg (I i) Rs (Gi i) ks) (ht : Blk X scope fun Y => ∀ i, i < n → PTs Y ifs (tXT (Gi i) (b i)))
    (he : Blk X scope fun Y => ∀ i, i < n → b i = true → XE Y elt (Gi i) (dR X.K (f i))) (hs : ∀ x, foldedSetIterable iter X.env x = pure x := by intro _; rfl) : XO X (.ListComp elt [⟨tg, iter, ifs, 0⟩] scope pos) Rs (ownL X.K (lcD n b f)) :=
  pe_imp (pe_lc (g := fun v σ H Q => ∃ i, i < n ∧ tXG (I i) Rs (Gi i) ks v σ H Q) (tt := fun σ H Q => ∃ i, i < n ∧ tXT (Gi i) (b i) σ H Q) (te := fun σ H Q => ∃ i, i < n ∧ b i = true ∧ tX (Gi i) (dR X.K (f i)) σ H Q) hc hN hi ok
    (fun s H C cl fp => ⟨fun pins s2 σ H2 v u Q J r ⟨i, hi, q⟩ => (hg s H C cl fp i hi).run pins s2 σ H2 v u Q J r q⟩) (fun s H C cl fp => ⟨fun pins s2 σ H2 Q J ⟨i, hi, q⟩ => (ht s H C cl fp i hi).run pins s2 σ H2 Q J q⟩)
    (fun s H C cl fp => ⟨fun pins s2 σ H2 Q J ⟨i, hi, hb, q⟩ => (he s H C cl fp i hi hb).run pins s2 σ H2 Q J q⟩) hs) (lc_o b f Gi hn ho hog hw hk)
theorem ts_nil {Y : Cx} {Rs : Frm} : PTs Y [] (tXT Rs true) := ⟨fun pins s σ H Q J ⟨Hv, ow, f, q⟩ => pts_nil.run pins s σ H Q J (q Hv H .refl f)⟩
theorem ts_one {Y : Cx} {Rs : Frm} {c : Expr} {k : Bool} (h : XT Y c Rs k) : PTs Y [c] (tXT Rs k) := pts_one h
end

/-! ### defs -/
/-- the context of a def's body -/
abbrev BX (P : Program) (w : World) (K : PySem.W.Frag) (mg : Str → Option Value) (base : Heap) (N : List Str) (x : Str) (sc : Scope) (f : Addr) (cdv : Value) (A : Around) (outer : List Env) (s : Shared) (H : Hp) (E : XK) : Cx := (cxOf C8.CX0 P w K mg base N x sc f cdv A outer s H E).nox
/-- the frame of a def's entry -/
abbrev fr0 (As : List Rel) (m : Nat) : Frm := As.map Ent.is ++ List.replicate m .no
theorem noOwn_fr0 {As : List Rel} {m : Nat} : NoOwn (fr0 As m) := fun i P e => by
  have hm : Ent.own P ∈ fr0 As m := List.mem_of_getElem? e
  rcases List.mem_append.mp hm with h | h
  · obtain ⟨R, _, z⟩ := List.mem_map.mp h
    cases z
  · cases (List.mem_replicate.mp h).2
theorem allR_get {H : Hp} : ∀ {vs : List V} {As : List Rel} {i : Nat} {R : Rel}, AllR H vs As → As[i]? = some R → ∃ v, vs[i]? = some v ∧ R.r H v
  | [], [], _, _, _, e => by simp at e
  | v :: vs, A :: As, 0, R, ⟨h, _⟩, e => by
    have q := Option.some.inj e
    subst q
    exact ⟨v, rfl, h⟩
  | v :: vs, A :: As, i + 1, R, ⟨_, h⟩, e => allR_get (i := i) h e
  | [], _ :: _, _, _, h, _ => h.elim
  | _ :: _, [], _, _, h, _ => h.elim
theorem fr_start {Hv H : Hp} {N : List Str} {vs : List V} {As : List Rel} (s : Same Hv H) (h : AllR Hv vs As) (hl : vs.length ≤ N.length) (ow : Nat → Addr) : Fr Hv H (L2.start N vs) (fr0 As (N.length - vs.length)) ow := by
  have e := h.length
  refine ⟨s, ?_, fun i R q => ?_, fun i P q => (noOwn_fr0 i P q).elim, fun i j P P' q => (noOwn_fr0 i P q).elim⟩
  · show (vs.map some ++ List.replicate (N.length - vs.length) none).length = (As.map Ent.is ++ List.replicate (N.length - vs.length) Ent.no).length
    simp [e]
  · have hi : i < As.length := by
      by_cases hi : i < As.length
      · exact hi
      · have q' : (As.map Ent.is ++ List.replicate (N.length - vs.length) Ent.no)[i]? = some (Ent.is R) := q
        rw [List.getElem?_append_right (by simpa using hi), List.getElem?_replicate] at q'
        split at q' <;> cases q'
    have q' : (As.map Ent.is ++ List.replicate (N.length - vs.length) Ent.no)[i]? = some (Ent.is R) := q
    rw [List.getElem?_append_left (by simpa using hi), List.getElem?_map] at q'
    cases ea : As[i]? with
    | none => rw [ea] at q'; cases q'
    | some A =>
      rw [ea] at q'
      cases q'
      obtain ⟨v, h1, h2⟩ := allR_get h ea
      refine ⟨v, ?_, h2⟩
      show (vs.map some ++ List.replicate (N.length - vs.length) none)[i]? = some (some v)
      rw [List.getElem?_append_left (by simpa [e] using hi), List.getElem?_map, h1]
      rfl
section
variable {P : Program} {w : World} {K : PySem.W.Frag} {mg : Str → Option Value} {base : Heap} {x : Str} {st : Stmt} {f : Addr} {fd : FuncData} {N ps : List Str} {k : Nat} {α : Type} {pre : α → Prop} {As : α → List Rel} {R : α → Rel}
/-- THE RULE for a pure def -/
theorem cal_of (F : C8.Def K mg x st f fd) (b : Binds K fd ps []) (S : FnScope N ps (C8.fnScope st)) (m : Nat) (hm : N.length = ps.length + m) (hl : ∀ a, (As a).length = ps.length)
    (body : ∀ (a : α) (cdv : Value) (A : Around) (outer : List Env) (s : Shared) (H : Hp) (E : XK), pre a → Room k (A.deeper (envOfC x (C8.fnScope st) s.heap.objs.size f cdv)) → XRs (BX P w K mg base N x (C8.fnScope st) f cdv A outer s H E) (C8.fnBody st) (fr0 (As a) m) (R a)) :
    C8.Cal P w K mg base (k + 1) x (spF pre As R) [] := by
  refine C8.cal0 F b .nil S (fun vs H Q E ⟨a, Hv, hp, hs, ha, q⟩ => ha.length.trans (hl a)) fun cdv A outer s H vs Q E hr ⟨a, Hv, hp, hs, ha, q⟩ => ⟨_, body a cdv A outer s H E hp hr, ?_⟩
  have e1 := ha.length.trans (hl a)
  refine ⟨Hv, fun _ => 0, ?_, fun v Hv' H' s' sub _ r => q v Hv' H' (s'.al noOwn_fr0 sub) r⟩
  have z := fr_start (N := N) hs ha (by omega) (fun _ => 0)
  rw [show N.length - vs.length = m by omega] at z
  exact z
/-- .. for one that ends without a return -/
theorem cal_ofN (F : C8.Def K mg x st f fd) (b : Binds K fd ps []) (S : FnScope N ps (C8.fnScope st)) (m : Nat) (hm : N.length = ps.length + m) (hl : ∀ a, (As a).length = ps.length) (Rz : α → Frm) (hz : ∀ a, NoOwn (Rz a))
    (body : ∀ (a : α) (cdv : Value) (A : Around) (outer : List Env) (s : Shared) (H : Hp) (E : XK), pre a → Room k (A.deeper (envOfC x (C8.fnScope st) s.heap.objs.size f cdv)) → XNs (BX P w K mg base N x (C8.fnScope st) f cdv A outer s H E) (C8.fnBody st) (fr0 (As a) m) (Rz a)) :
    C8.Cal P w K mg base (k + 1) x (spF pre As fun _ => nonR) [] := by
  refine C8.cal0 F b .nil S (fun vs H Q E ⟨a, Hv, hp, hs, ha, q⟩ => ha.length.trans (hl a)) fun cdv A outer s H vs Q E hr ⟨a, Hv, hp, hs, ha, q⟩ => ⟨_, body a cdv A outer s H E hp hr, ?_⟩
  have e1 := ha.length.trans (hl a)
  refine ⟨Hv, fun _ => 0, ?_, fun σ' Hv' H' ow' s' f' => q .non Hv' H' (s'.toStp.al noOwn_fr0 f'.sub) rfl⟩
  have z := fr_start (N := N) hs ha (by omega) (fun _ => 0)
  rw [show N.length - vs.length = m by omega] at z
  exact z
end
end Bo
set_option maxHeartbeats 4000000
/-! Operators, built-ins by values. -/
namespace Bo
open PySem L2
section
variable {K : PySem.W.Frag} {Ra Rb R : Rel} {v w : V}
theorem ox_I {C : Int → Int → Prop} {g : Int → Int → V} {i j : Int} (hc : C i j) : OpX (rI C g) (intR i) (intR j) (eqR (g i j)) := fun Hv H x y Q s h1 h2 q => ⟨i, j, h1, h2, hc, q _ Hv H (.refl s) rfl⟩
theorem ox_I0 {g : Int → Int → V} {i j : Int} : OpX (rI0 g) (intR i) (intR j) (eqR (g i j)) := fun Hv H x y Q s h1 h2 q => ⟨i, j, h1, h2, q _ Hv H (.refl s) rfl⟩
theorem ox_eq (h : scal v w = true) : OpX rEq (eqR v) (eqR w) (blR (decide (v = w))) := fun Hv H x y Q s h1 h2 q => by
  rw [show x = v from h1, show y = w from h2]
  exact ⟨h, q _ Hv H (.refl s) rfl⟩
theorem ox_ne (h : scal v w = true) : OpX rNe (eqR v) (eqR w) (blR (!decide (v = w))) := fun Hv H x y Q s h1 h2 q => by
  rw [show x = v from h1, show y = w from h2]
  exact ⟨h, q _ Hv H (.refl s) rfl⟩
theorem ox_eqI {i j : Int} : OpX rEq (intR i) (intR j) (blR (decide (i = j))) := fun Hv H x y Q s h1 h2 q => by
  rw [show x = .int i from h1, show y = .int j from h2]
  refine ⟨rfl, q _ Hv H (.refl s) ?_⟩
  show V.bl (decide (V.int i = V.int j)) = V.bl (decide (i = j))
  congr 1
  exact decide_eq_decide.mpr ⟨V.int.inj, fun e => by rw [e]⟩
theorem ox_neI {i j : Int} : OpX rNe (intR i) (intR j) (blR (!decide (i = j))) := fun Hv H x y Q s h1 h2 q => by
  rw [show x = .int i from h1, show y = .int j from h2]
  refine ⟨rfl, q _ Hv H (.refl s) ?_⟩
  show V.bl (!decide (V.int i = V.int j)) = V.bl (!decide (i = j))
  congr 2
  exact decide_eq_decide.mpr ⟨V.int.inj, fun e => by rw [e]⟩
theorem ox_eqS {i j : Str} : OpX rEq (strR i) (strR j) (blR (decide (i = j))) := fun Hv H x y Q s h1 h2 q => by
  rw [show x = .str i from h1, show y = .str j from h2]
  refine ⟨rfl, q _ Hv H (.refl s) ?_⟩
  show V.bl (decide (V.str i = V.str j)) = V.bl (decide (i = j))
  congr 1
  exact decide_eq_decide.mpr ⟨V.str.inj, fun e => by rw [e]⟩
/-- == of data -/
theorem ox_eqD {d e : PyData} (hd : SeqAt.shaped d = true) (he : SeqAt.shaped e = true) : OpX (rEqD K) (dR K d) (dR K e) (blR (PyData.eqv d e)) := fun Hv H x y Q s h1 h2 q => ⟨d, e, dp_mono s _ _ h1, dp_mono s _ _ h2, hd, he, q _ Hv H (.refl s) rfl⟩
theorem ox_neD {d e : PyData} (hd : SeqAt.shaped d = true) (he : SeqAt.shaped e = true) : OpX (rNeD K) (dR K d) (dR K e) (blR (!PyData.eqv d e)) := fun Hv H x y Q s h1 h2 q => ⟨d, e, dp_mono s _ _ h1, dp_mono s _ _ h2, hd, he, q _ Hv H (.refl s) rfl⟩
/-- xs[i] -/
theorem ox_ixL {ds : List PyData} {i : Nat} {d : PyData} (h : ds[i]? = some d) : OpX (rIxL K) (dR K (.list ds)) (intR i) (dR K d) := fun Hv H x y Q s h1 h2 q => by
  obtain ⟨a, xs, e, hs, ha⟩ := dp_list h1
  obtain ⟨v, e1, e2⟩ := dpAll_get ha h
  exact ⟨a, xs, i, v, e, h2, same_l s hs, atI_nat e1, q v Hv H (.refl s) e2⟩
theorem ox_ixT {ds : List PyData} {i : Nat} {d : PyData} (h : ds[i]? = some d) : OpX (rIxT K) (dR K (.tuple ds)) (intR i) (dR K d) := fun Hv H x y Q s h1 h2 q => by
  obtain ⟨a, xs, e, hs, ha⟩ := dp_tup h1
  obtain ⟨v, e1, e2⟩ := dpAll_get ha h
  exact ⟨a, xs, i, v, e, h2, same_t s hs, atI_nat e1, q v Hv H (.refl s) e2⟩
theorem dpAll_last {H : Hp} {vs : List V} {ds : List PyData} {d : PyData} (h : DpAll K H vs (ds ++ [d])) : ∃ ws v, vs = ws ++ [v] ∧ DpAll K H ws ds ∧ Dp K H v d := by
  induction ds generalizing vs with
  | nil =>
    cases h with
    | cons h1 h2 =>
      cases h2
      exact ⟨[], _, rfl, .nil, h1⟩
  | cons x xs ih =>
    cases h with
    | cons h1 h2 =>
      obtain ⟨ws, v, e, a, b⟩ := ih h2
      exact ⟨_ :: ws, v, by rw [e] <;> rfl, .cons h1 a, b⟩
/-- xs[-1] -/
theorem ox_lastL {ds : List PyData} {d : PyData} : OpX (rIxL K) (dR K (.list (ds ++ [d]))) (intR (-1)) (dR K d) := fun Hv H x y Q s h1 h2 q => by
  obtain ⟨a, xs, e, hs, ha⟩ := dp_list h1
  obtain ⟨ws, v, e1, _, e2⟩ := dpAll_last ha
  subst e1
  exact ⟨a, _, -1, v, e, h2, same_l s hs, atI_last ws v, q v Hv H (.refl s) e2⟩
/-- x in xs of flat items -/
theorem ox_in {ds : List PyData} {vs : List V} {x0 : V} {neg : Bool} {d : PyData} (hd : d = .list ds ∨ d = .tuple ds) (hv : ∀ H ws, DpAll K H ws ds → ws = vs) (hx : flatV x0 = true) (ha : vs.all flatV = true) :
    OpX (rIn K neg) (eqR x0) (dR K d) (blR (if neg then !inV x0 vs else inV x0 vs)) := fun Hv H x y Q s h1 h2 q => by
  rw [show x = x0 from h1]
  rcases hd with e | e
  · subst e
    obtain ⟨a, xs, e, hs, h⟩ := dp_list h2
    have ev := hv _ _ h
    subst ev
    exact ⟨a, xs, e, .inl (same_l s hs), hx, ha, q _ Hv H (.refl s) rfl⟩
  · subst e
    obtain ⟨a, xs, e, hs, h⟩ := dp_tup h2
    have ev := hv _ _ h
    subst ev
    exact ⟨a, xs, e, .inr (same_t s hs), hx, ha, q _ Hv H (.refl s) rfl⟩
theorem inV_ints {i : Int} {ns : List Int} : inV (.int i) (ns.map V.int) = decide (i ∈ ns) := by
  unfold inV
  induction ns with
  | nil => simp
  | cons n ns ih =>
    rw [List.map_cons, List.any_cons, ih]
    have e : eqV (V.int n) (V.int i) = (n == i) := rfl
    rw [e]
    by_cases h : n = i
    · subst h
      simp
    · have h' : i ≠ n := fun z => h z.symm
      simp [h, h']
theorem flat_ints {ns : List Int} : (ns.map V.int).all flatV = true := by
  induction ns with
  | nil => rfl
  | cons n ns ih =>
    rw [List.map_cons, List.all_cons, ih]
    rfl
theorem ox_inL {ns : List Int} {i : Int} : OpX (rIn K false) (intR i) (dR K (.list (ns.map .int))) (blR (decide (i ∈ ns))) := fun Hv H x y Q s h1 h2 q =>
  ox_in (ds := ns.map .int) (vs := ns.map V.int) (.inl rfl) (fun H ws h => dpAll_ints h) rfl flat_ints Hv H x y Q s h1 h2 fun z Hv' H' a r => q z Hv' H' a (by
    rw [← inV_ints]
    exact r)
theorem ox_inT {ns : List Int} {i : Int} : OpX (rIn K false) (intR i) (dR K (.tuple (ns.map .int))) (blR (decide (i ∈ ns))) := fun Hv H x y Q s h1 h2 q =>
  ox_in (ds := ns.map .int) (vs := ns.map V.int) (.inr rfl) (fun H ws h => dpAll_ints h) rfl flat_ints Hv H x y Q s h1 h2 fun z Hv' H' a r => q z Hv' H' a (by
    rw [← inV_ints]
    exact r)
end
section
variable {X : Cx} {e a b : Expr} {es : List Expr} {Rs : Frm} {R : Rel} {pos p : Pos} {K : PySem.W.Frag}
theorem x_add {i j : Int} (ha : XE X a Rs (intR i)) (hb : XE X b Rs (intR j)) : XE X (.BinOp a .Add b pos) Rs (intR (i + j)) := x_op op_add ox_I0 ha hb
theorem x_sub {i j : Int} (ha : XE X a Rs (intR i)) (hb : XE X b Rs (intR j)) : XE X (.BinOp a .Sub b pos) Rs (intR (i - j)) := x_op op_sub ox_I0 ha hb
theorem x_toI {i : Int} (h : XE X e Rs (dR K (.int i))) : XE X e Rs (intR i) := x_weak h fun _ _ q => dp_int q
theorem x_ofI {i : Int} (h : XE X e Rs (intR i)) : XE X e Rs (dR K (.int i)) := x_weak h fun _ v q => by
  rw [show v = .int i from q]
  exact .int i
theorem x_ofB {i : Bool} (h : XE X e Rs (blR i)) : XE X e Rs (dR K (.bool i)) := x_weak h fun _ v q => by
  rw [show v = .bl i from q]
  exact .bl i
theorem x_ofS {i : Str} (h : XE X e Rs (strR i)) : XE X e Rs (dR K (.str i)) := x_weak h fun _ v q => by
  rw [show v = .str i from q]
  exact .str i
theorem x_toS {i : Str} (h : XE X e Rs (dR K (.str i))) : XE X e Rs (strR i) := x_weak h fun _ _ q => dp_str q
theorem x_ofN (h : XE X e Rs nonR) : XE X e Rs (dR K .none) := x_weak h fun _ v q => by
  rw [show v = .non from q]
  exact .non
theorem x_toB {i : Bool} (h : XE X e Rs (dR K (.bool i))) : XE X e Rs (blR i) := x_weak h fun _ _ q => dp_bl q
theorem x_eqv {v w : V} (h : XE X e Rs (eqR v)) (q : v = w) : XE X e Rs (eqR w) := by
  rw [← q]
  exact h
theorem x_eqd {d d' : PyData} (h : XE X e Rs (dR K d)) (q : d = d') : XE X e Rs (dR K d') := by
  rw [← q]
  exact h
theorem x_eI {i j : Int} (h : XE X e Rs (intR i)) (q : i = j := by rfl) : XE X e Rs (intR j) := by
  rw [← q]
  exact h
theorem x_eB {i j : Bool} (h : XE X e Rs (blR i)) (q : i = j := by rfl) : XE X e Rs (blR j) := by
  rw [← q]
  exact h
theorem x_neg {i : Int} (ha : XE X a Rs (intR i)) : XE X (.UnaryOp .USub a pos) Rs (intR (-i)) := pe_imp (pe_un un_neg ha) fun σ H Q ⟨Hv, ow, f, q⟩ => ⟨Hv, ow, f, fun v Hv' H' s f' r => ⟨i, r, q _ Hv' H' s f' rfl⟩⟩
/-- is None, is not None -/
theorem xt_isN {v : V} {j pos'} (h : XE X a Rs (eqR v)) : XT X (.Compare a [.Is] [.Constant .none j pos'] pos) Rs (decide (v = .non)) := pt_imp (pt_cmp (pc_isN h)) fun σ H Q ⟨Hv, ow, f, q⟩ => ⟨Hv, ow, f, fun x Hv' H' s f' r => ⟨decide (x = .non), rfl, by
  rw [show x = v from r]
  exact q Hv' H' s f'⟩⟩
/-- .. where only that it is none, or something else, is known -/
theorem xt_isN' {k : Bool} {j pos'} (h : XE X a Rs R) (hk : ∀ H v, R.r H v → decide (v = .non) = k) : XT X (.Compare a [.Is] [.Constant .none j pos'] pos) Rs k := pt_imp (pt_cmp (pc_isN h)) fun σ H Q ⟨Hv, ow, f, q⟩ => ⟨Hv, ow, f, fun x Hv' H' s f' r => ⟨decide (x = .non), rfl, by
  rw [hk _ _ r]
  exact q Hv' H' s f'⟩⟩
theorem cx_len {d : PyData} {ds : List PyData} (hd : d = .list ds ∨ d = .tuple ds) : CallX (fun xs H Q => ∃ p ys, xs = [.ref p] ∧ (SqL K H p ys ∨ SqT K H p ys) ∧ Q (.int ys.length) H) [dR K d] (intR ds.length) := fun Hv H vs Q s h q => by
  match vs, h with
  | [v], ⟨h, _⟩ =>
    rcases hd with e | e
    · subst e
      obtain ⟨a, xs, e, hs, ha⟩ := dp_list h
      subst e
      exact ⟨a, xs, rfl, .inl (same_l s hs), q _ Hv H (.refl s) (by rw [dpAll_length ha]; rfl)⟩
    · subst e
      obtain ⟨a, xs, e, hs, ha⟩ := dp_tup h
      subst e
      exact ⟨a, xs, rfl, .inr (same_t s hs), q _ Hv H (.refl s) (by rw [dpAll_length ha]; rfl)⟩
theorem x_lenL {ds : List PyData} (hm : X.mg "len" = none) (ha : XE X a Rs (dR X.K (.list ds))) (hg : Gl X "len" := by rfl) (h1 : starEach [a] X.env = [(false, eval a X.env)] := by rfl) : XE X (.Call (.Name "len" p) [a] [] pos) Rs (intR ds.length) :=
  x_callB call_len_seq (cx_len (.inl rfl)) hm PySem.boot_len (xa_cons ha xa_nil h1) hg (by decide) (by decide) h1 rfl
theorem x_lenT {ds : List PyData} (hm : X.mg "len" = none) (ha : XE X a Rs (dR X.K (.tuple ds))) (hg : Gl X "len" := by rfl) (h1 : starEach [a] X.env = [(false, eval a X.env)] := by rfl) : XE X (.Call (.Name "len" p) [a] [] pos) Rs (intR ds.length) :=
  x_callB call_len_seq (cx_len (.inr rfl)) hm PySem.boot_len (xa_cons ha xa_nil h1) hg (by decide) (by decide) h1 rfl
theorem x_ixL {ds : List PyData} {i : Nat} {d : PyData} (ha : XE X a Rs (dR X.K (.list ds))) (hb : XE X b Rs (intR i)) (h : ds[i]? = some d) (hs : PlainIx b := by exact fun _ _ => rfl) : XE X (.Subscript a b pos) Rs (dR X.K d) :=
  pe_imp (pe_ix ix_list ha hb hs) (op_x (ox_ixL h) (fun _ _ _ q => q) fun _ _ _ q => q)
theorem x_ixT {ds : List PyData} {i : Nat} {d : PyData} (ha : XE X a Rs (dR X.K (.tuple ds))) (hb : XE X b Rs (intR i)) (h : ds[i]? = some d) (hs : PlainIx b := by exact fun _ _ => rfl) : XE X (.Subscript a b pos) Rs (dR X.K d) :=
  pe_imp (pe_ix ix_tup ha hb hs) (op_x (ox_ixT h) (fun _ _ _ q => q) fun _ _ _ q => q)
theorem x_lastL {ds : List PyData} {d : PyData} (ha : XE X a Rs (dR X.K (.list (ds ++ [d])))) (hb : XE X b Rs (intR (-1))) (hs : PlainIx b := by exact fun _ _ => rfl) : XE X (.Subscript a b pos) Rs (dR X.K d) :=
  pe_imp (pe_ix ix_list ha hb hs) (op_x ox_lastL (fun _ _ _ q => q) fun _ _ _ q => q)
/-- tuples, lists that are written -/
theorem allR_dp {H : Hp} : ∀ {vs : List V} {ds : List PyData}, AllR H vs (ds.map (dR K)) → DpAll K H vs ds
  | [], [], _ => .nil
  | _ :: _, _ :: _, ⟨h1, h2⟩ => .cons h1 (allR_dp h2)
  | [], _ :: _, h => h.elim
  | _ :: _, [], h => h.elim
theorem x_tup {x1} {ds : List PyData} (h : XA X es Rs (ds.map (dR X.K))) (hl : ds.length ≤ 100000 := by exact Nat.le_of_ble_eq_true rfl) : XE X (.Tuple es x1 pos) Rs (dR X.K (.tuple ds)) := pe_imp (pe_tup h) fun σ H Q ⟨Hv, ow, f, q⟩ => ⟨Hv, ow, f, fun vs Hv1 H1 s1 f1 r => by
  have e := r.length
  rw [List.length_map] at e
  refine ⟨Nat.le_trans (by omega : vs.length ≤ 100000) (by decide), fun p hp => ?_⟩
  have a := Al.new (o := .tup vs) f1.sub hp
  exact q _ _ _ (s1.trans a.stp) (f1.al a) (.tup (.inl (.inl upd_same)) (dpAll_mono a.sv _ _ (allR_dp r)))⟩
theorem x_lstT {ds : List PyData} (h : XA X es Rs (ds.map (dR X.K))) (hl : ds.length ≤ 100000 := by exact Nat.le_of_ble_eq_true rfl) : XE X (.List es pos) Rs (tlR X.K ds) := pe_imp (pe_lst h) fun σ H Q ⟨Hv, ow, f, q⟩ => ⟨Hv, ow, f, fun vs Hv1 H1 s1 f1 r => by
  have e := r.length
  rw [List.length_map] at e
  refine ⟨Nat.le_trans (by omega : vs.length ≤ 100000) (by decide), fun p hp => ?_⟩
  have a := Al.new (o := .lst vs) f1.sub hp
  exact q _ _ _ (s1.trans a.stp) (f1.al a) ⟨p, vs, rfl, upd_same, dpAll_mono a.sv _ _ (allR_dp r)⟩⟩
theorem x_lst {ds : List PyData} (h : XA X es Rs (ds.map (dR X.K))) (hl : ds.length ≤ 100000 := by exact Nat.le_of_ble_eq_true rfl) : XE X (.List es pos) Rs (dR X.K (.list ds)) := x_weak (x_lstT h hl) fun _ _ r => tlR_d r
/-- a <= b <= c, of ints -/
theorem x_lele {c : Expr} {i j l : Int} (ha : XE X a Rs (intR i)) (hb : XE X b Rs (intR j)) (hc : XE X c Rs (intR l)) (hm : lastMarks [CmpOp.LtE, CmpOp.LtE] [b, c] = false := by with_unfolding_all rfl) : XE X (.Compare a [.LtE, .LtE] [b, c] pos) Rs (blR (decide (i ≤ j) && decide (j ≤ l))) := pe_imp (pe_chain op_le op_le ha hb hc hm) fun σ H Q ⟨Hv, ow, f, q⟩ =>
  ⟨Hv, ow, f, fun x Hv1 H1 s1 f1 r1 => ⟨Hv1, ow, f1, fun y Hv2 H2 s2 f2 r2 => ⟨i, j, r1, r2, decide (i ≤ j), rfl, by
    cases h : decide (i ≤ j) with
    | true =>
      rw [h] at q
      exact iteT ⟨Hv2, ow, f2, fun w Hv4 H4 s4 f4 r4 => ⟨j, l, r2, r4, q _ Hv4 H4 ((s1.trans s2).trans s4) f4 rfl⟩⟩
    | false =>
      rw [h] at q
      exact iteF (q _ Hv2 H2 (s1.trans s2) f2 rfl)⟩⟩⟩
end
/-- what the module leaves built-in -/
structure Bt (mg : Str → Option Value) : Prop where
  len : mg "len" = none
  isi : mg "isinstance" = none
  int_ : mg "int" = none
  bool_ : mg "bool" = none
  str_ : mg "str" = none
  tuple_ : mg "tuple" = none
  list_ : mg "list" = none
  dict_ : mg "dict" = none
  range_ : mg "range" = none
  enum : mg "enumerate" = none
  zip_ : mg "zip" = none
  min_ : mg "min" = none
  max_ : mg "max" = none
  all_ : mg "all" = none
  abs_ : mg "abs" = none
  sorted_ : mg "sorted" = none
  repr_ : mg "repr" = none
  divmod_ : mg "divmod" = none
end Bo
set_option maxHeartbeats 4000000
/-! Defs by their place in the text. -/
namespace Bo
open PySem L2
open PyProof.Rows (envOfC)
/-- a def of the text, under its name, without defaults -/
def Df (K : PySem.W.Frag) (mg : Str → Option Value) (x : Str) (st : Stmt) : Prop := ∃ (f : Addr) (fd : FuncData), C8.Def K mg x st f fd ∧ fd.defaults = .none
section
variable {P : Program} {w : World} {K : PySem.W.Frag} {mg : Str → Option Value} {base : Heap} {x : Str} {st : Stmt} {N ps : List Str} {k : Nat} {α : Type} {pre : α → Prop} {As : α → List Rel} {R : α → Rel}
theorem pure_def (F : Df K mg x st) (hb : ∀ (kV doc pm : Value) (an : Option Addr) (cdv ct : Value) (us : List Value), us.length = ps.length → bindArgs (PySem.W.fnOf x x (C8.fnArgs st) (C8.fnBody st) (C8.fnScope st) .none kV doc pm an cdv ct) ⟨us, []⟩ = pure (ps.zip us))
    (S : FnScope N ps (C8.fnScope st)) (m : Nat) (hm : N.length = ps.length + m) (hl : ∀ a, (As a).length = ps.length)
    (body : ∀ (f : Addr) (a : α) (cdv : Value) (A : Around) (outer : List Env) (s : Shared) (H : Hp) (E : XK), pre a → Room k (A.deeper (envOfC x (C8.fnScope st) s.heap.objs.size f cdv)) → XRs (BX P w K mg base N x (C8.fnScope st) f cdv A outer s H E) (C8.fnBody st) (fr0 (As a) m) (R a)) :
    C8.Cal P w K mg base (k + 1) x (spF pre As R) [] := by
  obtain ⟨f, fd, D, hd⟩ := F
  exact cal_of D (D.fn.binds hd hb) S m hm hl (body f)
theorem pure_defN (F : Df K mg x st) (hb : ∀ (kV doc pm : Value) (an : Option Addr) (cdv ct : Value) (us : List Value), us.length = ps.length → bindArgs (PySem.W.fnOf x x (C8.fnArgs st) (C8.fnBody st) (C8.fnScope st) .none kV doc pm an cdv ct) ⟨us, []⟩ = pure (ps.zip us))
    (S : FnScope N ps (C8.fnScope st)) (m : Nat) (hm : N.length = ps.length + m) (hl : ∀ a, (As a).length = ps.length) (Rz : α → Frm) (hz : ∀ a, NoOwn (Rz a))
    (body : ∀ (f : Addr) (a : α) (cdv : Value) (A : Around) (outer : List Env) (s : Shared) (H : Hp) (E : XK), pre a → Room k (A.deeper (envOfC x (C8.fnScope st) s.heap.objs.size f cdv)) → XNs (BX P w K mg base N x (C8.fnScope st) f cdv A outer s H E) (C8.fnBody st) (fr0 (As a) m) (Rz a)) :
    C8.Cal P w K mg base (k + 1) x (spF pre As fun _ => nonR) [] := by
  obtain ⟨f, fd, D, hd⟩ := F
  exact cal_ofN D (D.fn.binds hd hb) S m hm hl Rz hz (body f)
end
end Bo
set_option maxHeartbeats 4000000
/-! Walks over enumerate and zip of lists and tuples alike. -/
namespace Bo
open PySem PySem.Spec PyProof.Rows L2
/-- a list or a tuple -/
def SqX (K : PySem.W.Frag) (H : Hp) (a : Addr) (xs : List V) : Prop := SqL K H a xs ∨ SqT K H a xs
theorem same_x {K : PySem.W.Frag} {H H' : Hp} {a : Addr} {xs : List V} (s : Same H H') (h : SqX K H a xs) : SqX K H' a xs := h.elim (fun h => .inl (same_l s h)) fun h => .inr (same_t s h)
/-- the iterator's record, the source -/
def itS (h : Heap) (it a : Addr) (i : Nat) : Prop := h.IsListIter it a i ∨ h.IsTupleIter it a i
def srS (h : Heap) (it a : Addr) (i : Nat) (its : Array Value) : Prop := (h.IsListIter it a i ∧ h.IsList a its) ∨ (h.IsTupleIter it a i ∧ h.IsTuple a its)
/-- which kind of source it is -/
def kdS (b : Bool) (h : Heap) (it a : Addr) (i : Nat) : Prop := if b then h.IsListIter it a i else h.IsTupleIter it a i
def kdH (b : Bool) (h : Heap) (a : Addr) (its : Array Value) : Prop := if b then h.IsList a its else h.IsTuple a its
def itO (b : Bool) (a : Addr) : Obj := if b then { cls := .type "list_iterator", data := .fields #[.ref a, .int 0 0] } else { cls := .type "tuple_iterator", data := .fields #[.ref a, .int 0 0] }
def SqB (b : Bool) (K : PySem.W.Frag) (H : Hp) (a : Addr) (xs : List V) : Prop := if b then SqL K H a xs else SqT K H a xs
theorem SqX.kind {K : PySem.W.Frag} {H : Hp} {a : Addr} {xs : List V} (h : SqX K H a xs) : ∃ b, SqB b K H a xs := h.elim (fun h => ⟨true, h⟩) fun h => ⟨false, h⟩
theorem same_b {b : Bool} {K : PySem.W.Frag} {H H' : Hp} {a : Addr} {xs : List V} (s : Same H H') (h : SqB b K H a xs) : SqB b K H' a xs := by
  cases b with
  | true => exact same_l s h
  | false => exact same_t s h
theorem draws_b (b : Bool) {prog : Program} {w : World} {A : Around} (hh : A.handled = none) (it a : Addr) (hne : a ≠ it) (its : Array Value) :
    Draws prog w A it [it, a] its.size (fun i v => its[i]? = some v) (fun i h => kdS b h it a i ∧ kdH b h a its) := by
  cases b with
  | true => exact .list hh it a hne its
  | false => exact .tuple hh it a hne its
theorem begins_b (b : Bool) (a : Addr) (its : Array Value) : Begins (.ref a) (itO b a) fun h => kdH b h a its := by
  cases b with
  | true => exact begins_list a its
  | false => exact begins_tuple a its
theorem kdS_new {b : Bool} {h : Heap} {it a : Addr} (e : h.get? it = some (itO b a)) : kdS b h it a 0 := by
  cases b with
  | true => exact ⟨_, e, rfl, rfl⟩
  | false => exact ⟨_, e, rfl, rfl⟩
theorem kdS_obj {b : Bool} {h : Heap} {it a : Addr} {i : Nat} (st : kdS b h it a i) : ∃ o, h.get? it = some o ∧ ∀ v, o.data ≠ .cell v := by
  cases b with
  | true =>
    obtain ⟨o, e, _, d⟩ := st
    exact ⟨o, e, fun v q => by rw [d] at q; cases q⟩
  | false =>
    obtain ⟨o, e, _, d⟩ := st
    exact ⟨o, e, fun v q => by rw [d] at q; cases q⟩
theorem kdS_fields {b : Bool} {h : Heap} {it a : Addr} {i : Nat} (st : kdS b h it a i) : ∃ o, h.get? it = some o ∧ ∃ vs, o.data = .fields vs := by
  cases b with
  | true =>
    obtain ⟨o, e, _, d⟩ := st
    exact ⟨o, e, _, d⟩
  | false =>
    obtain ⟨o, e, _, d⟩ := st
    exact ⟨o, e, _, d⟩
theorem kdH_obj {b : Bool} {h : Heap} {a : Addr} {its : Array Value} (st : kdH b h a its) : ∃ o, h.get? a = some o ∧ ∀ vs, o.data ≠ .fields vs := by
  cases b with
  | true =>
    obtain ⟨o, e, _, n, d⟩ := st
    exact ⟨o, e, fun v q => by rw [d] at q; cases q⟩
  | false =>
    obtain ⟨o, e, _, n, d⟩ := st
    exact ⟨o, e, fun v q => by rw [d] at q; cases q⟩
theorem kdS_at {b : Bool} {h h' : Heap} {it a : Addr} {i : Nat} (st : kdS b h it a i) (k : ∀ o, h.get? it = some o → h'.get? it = some o) : kdS b h' it a i := by
  cases b with
  | true => exact Heap.IsListIter.at st k
  | false => exact Heap.IsTupleIter.at st k
theorem srcAt {X : Cx} {pins : List (Addr × Obj)} {σ : L2.St} {H : Hp} {s : Shared} {b : Bool} {a : Addr} {xs : List V} (I : Inv X pins σ H s) (h : SqB b X.K H a xs) : ∃ us : List Value, Vals xs us ∧ kdH b s.heap a us.toArray ∧ a < s.heap.objs.size ∧ us.length = xs.length := by
  cases b with
  | true =>
    obtain ⟨its, rv, p, _⟩ := I.list h
    exact ⟨its, rv, p.isList, p.lt, (Paired.length rv).symm⟩
  | false =>
    obtain ⟨its, rv, p, _⟩ := I.tuple h
    obtain ⟨o, ho, _⟩ := id p
    exact ⟨its, rv, p, Heap.lt_size ho, (Paired.length rv).symm⟩
theorem sq_inj {X : Cx} {pins : List (Addr × Obj)} {σ : L2.St} {H : Hp} {s : Shared} {b : Bool} {a : Addr} {xs ys : List V} (I : Inv X pins σ H s) (h : SqB b X.K H a xs) (h' : SqB b X.K H a ys) : xs = ys := by
  cases b with
  | true => exact I.list_inj h h'
  | false => exact I.tuple_inj h h'
theorem vals_at : ∀ {xs : List V} {us : List Value} {i : Nat} {u : Value}, Vals xs us → us[i]? = some u → ∃ x, xs[i]? = some x ∧ RelV x u
  | _, _, _, _, .nil, e => by simp at e
  | _, _, 0, _, .cons h _, e => by
    have q := Option.some.inj e
    subst q
    exact ⟨_, rfl, h⟩
  | _, _, i + 1, _, .cons _ t, e => vals_at (i := i) t e
/-- THE TURN of what gives new tuples: Sr what the sources hold, N how many turns, Rw the i-th row -/
theorem turn_wt {P : Program} {w : World} {K : PySem.W.Frag} {elts : List Expr} {kk : Nat} {tpos : Pos} {α : Type} (fp : List Addr) (I0 : Addr) (tn : Nat → Heap → Prop) (Sr : Hp → α → Prop) (N : α → Nat) (Rw : Nat → α → List V)
    (mem : I0 ∈ fp) (obj : ∀ i h, tn i h → ∀ b ∈ fp, ∃ o, h.get? b = some o ∧ ∀ v, o.data ≠ .cell v) (keep : ∀ i h h', tn i h → (∀ b ∈ fp, ∀ o, h.get? b = some o → h'.get? b = some o) → tn i h')
    (self : ∀ (A : Around) (i : Nat) (s : Shared) (Q : Value → Shared → Prop) (E : Value → Shared → Prop), tn i s.heap → Q (.ref I0) s → wpAny (model P w) A (pyIter (.ref I0)) Q E s)
    (inj : ∀ (X : Cx) (pins : List (Addr × Obj)) (σ : L2.St) (H : Hp) (s : Shared) (a a' : α), X.K = K → Inv X pins σ H s → Sr H a → Sr H a' → a = a') (lim : ∀ i a, (Rw i a).length ≤ 100000)
    (wk : ∀ (X : Cx) (pins : List (Addr × Obj)) (σ : L2.St) (H : Hp) (s : Shared) (a : α), X.prog = P → X.w = w → X.K = K → X.calm = true → Inv X pins σ H s → Sr H a → (∃ i, tn i s.heap) → ∃ fp' wr n Pt St Mid, n = N a ∧ WalksT P w X.A I0 fp' wr n Pt St Mid ∧ (∀ i, tn i s.heap → St i s.heap) ∧ (∀ i h, St i h → tn i h) ∧ (∀ b ∈ wr, b ∈ fp) ∧
      (∀ i vals, i < n → Pt i vals → Vals (Rw i a) vals.toList)) :
    Turn P w K (.Tuple elts kk tpos) ⟨fun i H => ∃ a, Sr H a ∧ i < N a, fun i H v H' => ∃ T r, v = .ref T ∧ H T = none ∧ H' = upd H T (.tup r) ∧ ∀ a, Sr H a → r = Rw i a, fun i H => ∃ a, Sr H a ∧ i = N a⟩ fp I0 tn where
  mem := mem
  obj := obj
  keep := keep
  item := by
    intro X hP hw hK hc i pins s σ H E I hf st ⟨a, hs, hlt⟩
    subst hP hw hK
    obtain ⟨fp', wr, n, Pt, St, Mid, hn, W, w1, w2, w3, w4⟩ := wk X pins σ H s a rfl rfl rfl hc I hs ⟨_, st⟩
    have hln : i < n := by rw [hn]; exact hlt
    refine W.item i s _ _ hln (w1 i st) fun T vals h' tk hP hT0 hTup hMid hk => ⟨_, rfl, W.go elts kk tpos i T _ _ _ hMid fun h'' st'' hk2 => ?_⟩
    have hTn : T ∉ wr := W.apart i T h' hMid
    obtain ⟨oT, eT, cT, nT, dT⟩ := hTup
    have hT2 : h''.get? T = some oT := hk2 T oT hTn eT
    have vl := w4 i vals hln hP
    have kept : ∀ b o, b ∉ fp → s.heap.get? b = some o → h''.get? b = some o := fun b o hb e => hk2 b o (fun z => hb (w3 b z)) (hk b o (fun z => hb (w3 b z)) e)
    have new : ObjOk X.prog X.w (upd H T (.tup (Rw i a))) h'' T (.tup (Rw i a)) :=
      ⟨Nat.le_trans (lim i a) (by decide), vals.toList, vl, ⟨oT, hT2, cT, nT, by rw [Array.toArray_toList]; exact dT⟩⟩
    have I1 := I.turnedNew (t' := tk) (ch := fp) kept hf hT0 new
    refine ⟨.ref T, _, I1, rfl, ⟨T, _, rfl, I.hok.fresh hT0, rfl, fun a' h' => by rw [inj X pins σ H s a a' rfl I hs h']⟩, w2 _ _ st'', fun b hb => ?_⟩
    obtain ⟨ob, eb, _⟩ := obj i s.heap st b hb
    rw [upd_ne (Nat.ne_of_lt (Nat.lt_of_lt_of_le (Heap.lt_size eb) hT0))]
    exact (hf b hb).1
  done := by
    intro X hP hw hK hc i pins s σ H E I hf st ⟨a, hs, he⟩
    subst hP hw hK
    obtain ⟨fp', wr, n, Pt, St, Mid, hn, W, w1, w2, w3, w4⟩ := wk X pins σ H s a rfl rfl rfl hc I hs ⟨_, st⟩
    rw [← hn] at he
    subst he
    exact W.done s _ _ (w1 _ st) fun h' tk hk => ⟨rfl, I.turnedL (t' := tk) (ch := fp) (fun b o hb e => hk b o (fun z => hb (w3 b z)) e) hf⟩
  self := self
/-! enumerate -/
abbrev ItE (K : PySem.W.Frag) (b : Bool) (a : Addr) : It := ⟨fun i H => ∃ xs, SqB b K H a xs ∧ i < List.length xs, fun i H v H' => ∃ T r, v = .ref T ∧ H T = none ∧ H' = upd H T (.tup r) ∧ ∀ xs, SqB b K H a xs → r = [.int (i : Nat), xs.getD i .non], fun i H => ∃ xs, SqB b K H a xs ∧ i = List.length xs⟩
theorem turn_en {P : Program} {w : World} {K : PySem.W.Frag} {elts : List Expr} {kk : Nat} {tpos : Pos} (b : Bool) (a e it : Addr) (hne : e ≠ it) :
    Turn P w K (.Tuple elts kk tpos) (ItE K b a) [e, it] e (fun i h => (∃ old, IsEnum h e it ((0 : Int) + (i : Int)) old) ∧ kdS b h it a i) :=
  turn_wt (α := List V) [e, it] e _ (fun H xs => SqB b K H a xs) (fun xs => xs.length) (fun i xs => [.int (i : Nat), xs.getD i .non]) (by simp)
    (fun i h st c hc => by
      obtain ⟨⟨old, he⟩, hi⟩ := st
      have q : c = e ∨ c = it := by simpa using hc
      rcases q with z | z
      · rw [z]; exact ⟨_, he, fun v q => nomatch q⟩
      · rw [z]; exact kdS_obj hi)
    (fun i h h' st k => ⟨⟨st.1.choose, k e (by simp) _ st.1.choose_spec⟩, kdS_at st.2 fun o q => k it (by simp) o q⟩)
    (fun A i s Q E st h => wpAny_pyIter_enum st.1.choose_spec h) (fun X pins σ H s xs ys hK I h1 h2 => by subst hK; exact sq_inj I h1 h2) (fun i xs => Nat.le_of_ble_eq_true rfl) fun X pins σ H s xs hP hw hK hc I hs ⟨i0, st0⟩ => by
      subst hP hw hK
      obtain ⟨us, rv, hk, la, hl⟩ := srcAt I hs
      have hae : a ≠ e := fun z => by
        obtain ⟨⟨old, he⟩, _⟩ := st0
        obtain ⟨o, ho, hd⟩ := kdH_obj hk
        rw [z, he] at ho
        cases ho
        exact hd _ rfl
      have hai : a ≠ it := fun z => by
        obtain ⟨o, ho, hd⟩ := kdH_obj hk
        obtain ⟨o', ho', vs, hd'⟩ := kdS_fields st0.2
        rw [z, ho'] at ho
        cases ho
        exact hd _ hd'
      have D := draws_b b (prog := X.prog) (w := X.w) (A := X.A.in1) (I.ok.hd hc) it a hai us.toArray
      refine ⟨_, _, _, _, _, _, by simpa using hl, WalksT.enumFrom 0 D e hne (by simp [hne, hae.symm]) (by simp), fun i st => ⟨st.1, st.2, hk⟩, fun i h st => ⟨st.1, st.2.1⟩, fun c hc => hc, fun i vals hlt ⟨t, x, hx, hv⟩ => ?_⟩
      subst hv
      have hx' : us[i]? = some x := by simpa using hx
      obtain ⟨y, hy, ry⟩ := vals_at rv hx'
      refine .cons ⟨t, by rw [Int.zero_add]⟩ (.cons ?_ .nil)
      rw [List.getD_eq_getElem?_getD, hy]
      exact ry
end Bo
namespace Bo
open PySem PySem.Spec L2
open PyProof.Rows hiding St
theorem meets_enum1 {v : Value} {o : Obj} {H : Heap → Prop} (B : Begins v o H) :
    Meets (Builtin.«enumerate.__new__» ⟨[.type "enumerate", v], []⟩) (fun _ R s => H s.heap ∧
      R (.ok (.ret (.ref (s.heap.push o).objs.size))) { s with heap := (s.heap.push o).push { cls := .type "enumerate", data := .fields #[.none, .bool false, .ref s.heap.objs.size, rawInt 0, .none, .none] } }) :=
  .of_wp fun prog w A R s h => by
    obtain ⟨hp, g, d, tk, os⟩ := s; obtain ⟨h1, h⟩ := h
    have hsub := sub_enumerate
    have q1 : ∀ {A' : Around} {E : Value → Shared → Prop} {Q : Value → Shared → Prop}, Q (.ref hp.objs.size) ⟨hp.push o, g, d, tk, os⟩ → wpAny (model prog w) A' (pyIter v) Q E ⟨hp, g, d, tk, os⟩ :=
      fun q => B.iter prog w _ _ ⟨hp, g, d, tk, os⟩ _ h1 q
    wp_walk using q1
    refine wpAny_stack_any fun st => wpAny_pure ?_
    split
    · rename_i c _ _ _ _ _
      cases (c == Value.type "enumerate")
      · wp_walk using q1
        exact ⟨_, rfl, h⟩
      · wp_walk using q1
        exact ⟨_, rfl, h⟩
    · wp_walk using q1
      exact ⟨_, rfl, h⟩
end Bo
set_option maxHeartbeats 4000000
/-! enumerate and zip as things that a for or a comprehension walks. -/
namespace Bo
open PySem PySem.Spec L2
open PyProof.Rows hiding St
theorem call_enumX {prog : Program} {w : World} {A : Around} {E : Value → Shared → Prop} {s : Shared} {b : Bool} {a : Addr} {its : Array Value} {Q : Value → Shared → Prop} (hk : kdH b s.heap a its)
    (q : ∀ h2, IsEnum h2 (s.heap.objs.size + 1) s.heap.objs.size 0 .none → h2.get? s.heap.objs.size = some (itO b a) → (∀ c o, s.heap.get? c = some o → h2.get? c = some o) → Q (.ref (s.heap.objs.size + 1)) { s with heap := h2 }) :
    wpAny (model prog w) A (call (.type "enumerate") [.ref a]) Q E s := by
  have B := begins_b b a its
  refine callType_new F.called_enumerate (by decide) (F.typeCall_enumerate_1 _) (F.newCall_enumerate_1 _) (fun ob => F.args_object_init_2 ob _) F.entry_enumerate_new (meets_enum1 B) ⟨hk, ?_⟩
  have z1 : (s.heap.push (itO b a)).objs.size = s.heap.objs.size + 1 := Heap.size_push ..
  have e1 : IsEnum ((s.heap.push (itO b a)).push { cls := .type "enumerate", data := .fields #[.none, .bool false, .ref s.heap.objs.size, rawInt 0, .none, .none] }) (s.heap.objs.size + 1) s.heap.objs.size 0 .none := by
    have x := Heap.get?_push_size (s.heap.push (itO b a)) (o := { cls := .type "enumerate", data := .fields #[.none, .bool false, .ref s.heap.objs.size, rawInt 0, .none, .none] }) rfl
    rw [z1] at x
    exact x
  show _ ∧ _
  rw [z1]
  exact ⟨⟨_, e1, rfl⟩, q _ e1 (Heap.get?_push_of_some _ (Heap.get?_push_size _ B.free)) fun c o x => Heap.get?_push_of_some _ (Heap.get?_push_of_some _ x)⟩
def iEnX (K : PySem.W.Frag) (ta : TA) : TI := fun σ H R => ta σ H fun vs H1 => ∃ b a xs, vs = [.ref a] ∧ SqB b K H1 a xs ∧ R (ItE K b a) H1
theorem pi_enX {X : Cx} {e : Expr} {ta : TA} {p pos tpos : Pos} {elts : List Expr} {kk : Nat} (hm : X.mg "enumerate" = none) (ha : PA X [e] ta) (hg : Gl X "enumerate" := by rfl) (hs : starEach [e] X.env = [(false, eval e X.env)] := by rfl) :
    PI X (.Tuple elts kk tpos) (.Call (.Name "enumerate" p) [e] [] pos) (iEnX X.K ta) := by
  refine ⟨fun pins s σ H R I hw => ?_⟩
  refine Call_ (ld_blt I hg hm boot_enumerate (PyProof.Rows.callWith_type1 (thn (ha.run pos pins s σ H _ I hw) fun us s1 ⟨vs, H1, I1, r1, q1⟩ => ?_) hs rfl))
  obtain ⟨b, a, xs, ex, hq, q⟩ := q1
  subst ex
  cases r1 with
  | cons r rr =>
    cases rr
    cases r
    obtain ⟨its, rv, hk, la, hl⟩ := srcAt I1 hq
    refine call_enumX hk fun h2 he hi k2 => wpAny_pyIter_enum he ?_
    have I2 : Inv X pins σ H1 { s1 with heap := h2 } := I1.kept (t' := s1.toks) k2
    refine ⟨s1.heap.objs.size + 1, [s1.heap.objs.size + 1, s1.heap.objs.size], _, _, H1, rfl, I2, turn_en b a (s1.heap.objs.size + 1) s1.heap.objs.size (Nat.succ_ne_self _), ⟨⟨.none, he⟩, kdS_new hi⟩, fun c hc => ?_, q⟩
    have hle : s1.heap.objs.size ≤ c := by
      rcases (show c = s1.heap.objs.size + 1 ∨ c = s1.heap.objs.size by simpa using hc) with z | z
      · rw [z]; exact Nat.le_add_right _ _
      · rw [z]; exact Nat.le_refl _
    exact I1.fpOk hle (I1.hok.fresh hle)
/-! zip of two -/
abbrev ItZ (K : PySem.W.Frag) (b1 b2 : Bool) (a1 a2 : Addr) : It := ⟨fun i H => ∃ p : List V × List V, (SqB b1 K H a1 p.1 ∧ SqB b2 K H a2 p.2) ∧ i < min p.1.length p.2.length,
  fun i H v H' => ∃ T r, v = .ref T ∧ H T = none ∧ H' = upd H T (.tup r) ∧ ∀ p : List V × List V, SqB b1 K H a1 p.1 ∧ SqB b2 K H a2 p.2 → r = [p.1.getD i .non, p.2.getD i .non], fun i H => ∃ p : List V × List V, (SqB b1 K H a1 p.1 ∧ SqB b2 K H a2 p.2) ∧ i = min p.1.length p.2.length⟩
structure Zp (z TI TO i1 i2 a1 a2 : Addr) : Prop where
  TIz : TI ≠ z
  TOz : TO ≠ z
  TITO : TI ≠ TO
  TI1 : TI ≠ i1
  TI2 : TI ≠ i2
  z1 : z ≠ i1
  z2 : z ≠ i2
  T1 : TO ≠ i1
  T2 : TO ≠ i2
  i12 : i1 ≠ i2
  off1 : ∀ c ∈ [z, TI, TO, i1, i2], a1 ≠ c
  off2 : ∀ c ∈ [z, TI, TO, i1, i2], a2 ≠ c
theorem turn_zX {P : Program} {w : World} {K : PySem.W.Frag} {elts : List Expr} {kk : Nat} {tpos : Pos} (b1 b2 : Bool) {a1 a2 z TI TO i1 i2 : Addr} (D : Zp z TI TO i1 i2 a1 a2) :
    Turn P w K (.Tuple elts kk tpos) (ItZ K b1 b2 a1 a2) [z, TI, TO, i1, i2] z (fun i h => IsZip h z TI TO .none ∧ IsTupOf2 h TI (.ref i1) (.ref i2) ∧ (∃ x y, IsTupOf2 h TO x y) ∧ kdS b1 h i1 a1 i ∧ kdS b2 h i2 a2 i) :=
  turn_wt (α := List V × List V) [z, TI, TO, i1, i2] z _ (fun H p => SqB b1 K H a1 p.1 ∧ SqB b2 K H a2 p.2) (fun p => min p.1.length p.2.length) (fun i p => [p.1.getD i .non, p.2.getD i .non]) (by simp)
    (fun i h st c hc => by
      obtain ⟨hz, hTI, ⟨x, y, hTO⟩, h1, h2⟩ := st
      rcases (show c = z ∨ c = TI ∨ c = TO ∨ c = i1 ∨ c = i2 by simpa using hc) with q | q | q | q | q
      · rw [q]; exact ⟨_, hz, fun v q => nomatch q⟩
      · rw [q]; exact ⟨_, hTI, fun v q => nomatch q⟩
      · rw [q]; exact ⟨_, hTO, fun v q => nomatch q⟩
      · rw [q]; exact kdS_obj h1
      · rw [q]; exact kdS_obj h2)
    (fun i h h' st k => by
      obtain ⟨hz, hTI, ⟨x, y, hTO⟩, h1, h2⟩ := st
      exact ⟨k z (by simp) _ hz, k TI (by simp) _ hTI, ⟨x, y, k TO (by simp) _ hTO⟩, kdS_at h1 fun o q => k i1 (by simp) o q, kdS_at h2 fun o q => k i2 (by simp) o q⟩)
    (fun A i s Q E st h => wpAny_pyIter_zip st.1 h) (fun X pins σ H s x y hK I h1 h2 => by subst hK; exact Prod.ext (sq_inj I h1.1 h2.1) (sq_inj I h1.2 h2.2)) (fun i p => Nat.le_of_ble_eq_true rfl) fun X pins σ H s p hP hw hK hc I ⟨hs1, hs2⟩ ⟨i0, st0⟩ => by
      subst hP hw hK
      obtain ⟨us1, rv1, hk1, la1, hl1⟩ := srcAt I hs1
      obtain ⟨us2, rv2, hk2, la2, hl2⟩ := srcAt I hs2
      have D1 := draws_b b1 (prog := X.prog) (w := X.w) (A := X.A.in1) (I.ok.hd hc) i1 a1 (D.off1 i1 (by simp)) us1.toArray
      have D2 := draws_b b2 (prog := X.prog) (w := X.w) (A := X.A.in1) (I.ok.hd hc) i2 a2 (D.off2 i2 (by simp)) us2.toArray
      have S : ZipSep2 z TI TO i1 i2 [i1, a1] [i2, a2] := { TIz := D.TIz, TOz := D.TOz, TITO := D.TITO, TIi1 := D.TI1, TIi2 := D.TI2, mem1 := (by simp), mem2 := (by simp), zf1 := (by simp [D.z1, (D.off1 z (by simp)).symm]), Tf1 := (by simp [D.T1, (D.off1 TO (by simp)).symm]), zf2 := (by simp [D.z2, (D.off2 z (by simp)).symm]), Tf2 := (by simp [D.T2, (D.off2 TO (by simp)).symm]), sep1_2 := (by simp [D.i12, (D.off2 i1 (by simp)).symm]), sep2_1 := (by simp [D.i12.symm, (D.off1 i2 (by simp)).symm]) }
      refine ⟨_, _, _, _, _, _, by simp [hl1, hl2], WalksT.zipD2 S D1 D2, fun i st => ⟨st.1, st.2.1, st.2.2.1, ⟨st.2.2.2.1, hk1⟩, st.2.2.2.2, hk2⟩, fun i h st => ⟨st.1, st.2.1, st.2.2.1, st.2.2.2.1.1, st.2.2.2.2.1⟩, fun c hc => ?_, fun i vals hlt ⟨x1, x2, hx1, hx2, hv⟩ => ?_⟩
      · simp at hc ⊢
        rcases hc with q | q | q | q <;> simp [q]
      · subst hv
        have hx1' : us1[i]? = some x1 := by simpa using hx1
        have hx2' : us2[i]? = some x2 := by simpa using hx2
        obtain ⟨y1, hy1, ry1⟩ := vals_at rv1 hx1'
        obtain ⟨y2, hy2, ry2⟩ := vals_at rv2 hx2'
        refine .cons ?_ (.cons ?_ .nil)
        · rw [List.getD_eq_getElem?_getD, hy1]
          exact ry1
        · rw [List.getD_eq_getElem?_getD, hy2]
          exact ry2
def iZX (K : PySem.W.Frag) (ta : TA) : TI := fun σ H R => ta σ H fun vs H1 => ∃ b1 b2 a1 a2 xs ys, vs = [.ref a1, .ref a2] ∧ SqB b1 K H1 a1 xs ∧ SqB b2 K H1 a2 ys ∧ R (ItZ K b1 b2 a1 a2) H1
theorem pi_zX {X : Cx} {e e2 : Expr} {ta : TA} {p pos tpos : Pos} {elts : List Expr} {kk : Nat} (hm : X.mg "zip" = none) (ha : PA X [e, e2] ta) (hg : Gl X "zip" := by rfl)
    (hs : starEach [e, e2] X.env = (false, eval e X.env) :: starEach [e2] X.env := by rfl) (hpl : (backTo pos (starEach [e2] X.env)).any (·.1) = false := by rfl) :
    PI X (.Tuple elts kk tpos) (.Call (.Name "zip" p) [e, e2] [] pos) (iZX X.K ta) := by
  refine ⟨fun pins s σ H R I hw => ?_⟩
  refine Call_ (ld_blt I hg hm PyProof.Rows.boot_zip (PyProof.Rows.callWith_type1 (thn (ha.run pos pins s σ H _ I hw) fun us s1 ⟨vs, H1, I1, r1, q1⟩ => ?_) hs hpl))
  obtain ⟨b1, b2, a1, a2, xs, ys, ex, hqx, hqy, q⟩ := q1
  subst ex
  cases r1 with
  | cons r rr =>
    cases rr with
    | cons r' rr =>
      cases rr
      cases r
      cases r'
      obtain ⟨us1, rv1, hk1, la1, hl1⟩ := srcAt I1 hqx
      obtain ⟨us2, rv2, hk2, la2, hl2⟩ := srcAt I1 hqy
      refine zip_begins2 (begins_b b1 a1 us1.toArray) (begins_b b2 a2 us2.toArray) hk1 hk2 fun h2 hz hTI hTO h1 h3 hsz k2 => wpAny_pyIter_zip hz ?_
      have I2 : Inv X pins σ H1 { s1 with heap := h2 } := I1.kept (t' := s1.toks) k2
      have lo : ∀ c ∈ [s1.heap.objs.size + 4, s1.heap.objs.size + 2, s1.heap.objs.size + 3, s1.heap.objs.size, s1.heap.objs.size + 1], s1.heap.objs.size ≤ c := fun c hc => by
        rcases (show c = s1.heap.objs.size + 4 ∨ c = s1.heap.objs.size + 2 ∨ c = s1.heap.objs.size + 3 ∨ c = s1.heap.objs.size ∨ c = s1.heap.objs.size + 1 by simpa using hc) with z | z | z | z | z
        · rw [z]; exact Nat.le_add_right _ _
        · rw [z]; exact Nat.le_add_right _ _
        · rw [z]; exact Nat.le_add_right _ _
        · rw [z]; exact Nat.le_refl _
        · rw [z]; exact Nat.le_add_right _ _
      refine ⟨_, _, _, _, H1, rfl, I2, turn_zX b1 b2 (a1 := a1) (a2 := a2) { TIz := ?_, TOz := ?_, TITO := ?_, TI1 := ?_, TI2 := ?_, z1 := ?_, z2 := ?_, T1 := ?_, T2 := ?_, i12 := ?_, off1 := fun c hc => Nat.ne_of_lt (Nat.lt_of_lt_of_le la1 (lo c hc)), off2 := fun c hc => Nat.ne_of_lt (Nat.lt_of_lt_of_le la2 (lo c hc)) }, ⟨hz, hTI, ⟨_, _, hTO⟩, kdS_new h1, kdS_new h3⟩, fun c hc => I1.fpOk (lo c hc) (I1.hok.fresh (lo c hc)), q⟩ <;> exact fun z => by
        have z' : (_ : Nat) = _ := z
        omega
/-! the rules -/
section
variable {X : Cx} {e e2 : Expr} {Rs : Frm} {p pos tpos : Pos} {elts : List Expr} {kk : Nat}
/-- data that is walked: a list or a tuple of ds -/
def SeqD (d : PyData) (ds : List PyData) : Prop := d = .list ds ∨ d = .tuple ds
theorem seqD_of {K : PySem.W.Frag} {H : Hp} {v : V} {d : PyData} {ds : List PyData} (h : SeqD d ds) (r : Dp K H v d) : ∃ b a xs, v = .ref a ∧ SqB b K H a xs ∧ DpAll K H xs ds := by
  rcases h with e | e
  · subst e
    obtain ⟨a, xs, e, h1, h2⟩ := dp_list r
    exact ⟨true, a, xs, e, h1, h2⟩
  · subst e
    obtain ⟨a, xs, e, h1, h2⟩ := dp_tup r
    exact ⟨false, a, xs, e, h1, h2⟩
theorem dpAll_nth {K : PySem.W.Frag} {H : Hp} {xs : List V} {ds : List PyData} {i : Nat} (h : DpAll K H xs ds) (hi : i < ds.length) : Dp K H (xs.getD i .non) (nthD ds i) := by
  obtain ⟨v, h1, h2⟩ := dpAll_get h (nthD_lt hi)
  rw [List.getD_eq_getElem?_getD, h1]
  exact h2
theorem xi_enum {d : PyData} {ds : List PyData} (hd : SeqD d ds) (hm : X.mg "enumerate" = none) (h : XE X e Rs (dR X.K d)) (hg : Gl X "enumerate" := by rfl) (hs : starEach [e] X.env = [(false, eval e X.env)] := by rfl) :
    XI X (.Tuple elts kk tpos) (.Call (.Name "enumerate" p) [e] [] pos) Rs ds.length (fun i => tupsR X.K [intR (i : Nat), dR X.K (nthD ds i)]) :=
  pi_imp (pi_enX hm (xa_cons h xa_nil hs) hg hs) fun σ H R ⟨Hv, ow, f, q⟩ => ⟨Hv, ow, f, fun vs Hv1 H1 s1 f1 r => by
    match vs, r with
    | [v], ⟨r, _⟩ =>
      obtain ⟨b, a, xs, ev, hs, ha⟩ := seqD_of hd r
      subst ev
      refine ⟨b, a, xs, rfl, same_b f1.sub hs, q (ItE X.K b a) (fun H => SqB b X.K H a xs ∧ DpAll X.K H xs ds) Hv1 H1 s1 f1 ⟨fun s g => ⟨same_b s g.1, dpAll_mono s _ _ g.2⟩, fun i Hv2 H2 hi s g => ⟨xs, same_b s g.1, by rw [dpAll_length g.2]; exact hi⟩, fun i Hv2 H2 x H3 hi s g y => ?_, fun Hv2 H2 s g => ⟨xs, same_b s g.1, (dpAll_length g.2).symm⟩⟩ ⟨hs, ha⟩⟩
      obtain ⟨T, r, e1, e2, e3, e4⟩ := y
      subst e1 e3
      have e5 := e4 xs (same_b s g.1)
      subst e5
      have a5 := Al.new (o := .tup [.int (i : Nat), xs.getD i .non]) s e2
      exact ⟨_, a5, T, _, rfl, .inl (.inl upd_same), rfl, dpAll_nth (dpAll_mono a5.sv _ _ g.2) hi, trivial⟩⟩
theorem xi_zip {d1 d2 : PyData} {ds1 ds2 : List PyData} (hd1 : SeqD d1 ds1) (hd2 : SeqD d2 ds2) (hm : X.mg "zip" = none) (h1 : XE X e Rs (dR X.K d1)) (h2 : XE X e2 Rs (dR X.K d2)) (hg : Gl X "zip" := by rfl)
    (hs1 : starEach [e, e2] X.env = (false, eval e X.env) :: starEach [e2] X.env := by rfl) (hs2 : starEach [e2] X.env = [(false, eval e2 X.env)] := by rfl) (hpl : (backTo pos (starEach [e2] X.env)).any (·.1) = false := by rfl) :
    XI X (.Tuple elts kk tpos) (.Call (.Name "zip" p) [e, e2] [] pos) Rs (min ds1.length ds2.length) (fun i => tupsR X.K [dR X.K (nthD ds1 i), dR X.K (nthD ds2 i)]) :=
  pi_imp (pi_zX hm (xa_cons h1 (xa_cons h2 xa_nil hs2) hs1) hg hs1 hpl) fun σ H R ⟨Hv, ow, f, q⟩ => ⟨Hv, ow, f, fun vs Hv1 H1 s1 f1 r => by
    match vs, r with
    | [v, v'], ⟨r, r', _⟩ =>
      obtain ⟨b, a, xs, ev, hs, ha⟩ := seqD_of hd1 r
      obtain ⟨b', a', xs', ev', hs', ha'⟩ := seqD_of hd2 r'
      subst ev ev'
      refine ⟨b, b', a, a', xs, xs', rfl, same_b f1.sub hs, same_b f1.sub hs', q (ItZ X.K b b' a a') (fun H => (SqB b X.K H a xs ∧ DpAll X.K H xs ds1) ∧ SqB b' X.K H a' xs' ∧ DpAll X.K H xs' ds2) Hv1 H1 s1 f1
        ⟨fun s g => ⟨⟨same_b s g.1.1, dpAll_mono s _ _ g.1.2⟩, same_b s g.2.1, dpAll_mono s _ _ g.2.2⟩, fun i Hv2 H2 hi s g => ⟨(xs, xs'), ⟨same_b s g.1.1, same_b s g.2.1⟩, ?_⟩, fun i Hv2 H2 x H3 hi s g y => ?_, fun Hv2 H2 s g => ⟨(xs, xs'), ⟨same_b s g.1.1, same_b s g.2.1⟩, ?_⟩⟩ ⟨⟨hs, ha⟩, hs', ha'⟩⟩
      · show i < min xs.length xs'.length
        rw [dpAll_length g.1.2, dpAll_length g.2.2]
        exact hi
      · obtain ⟨T, r, e1, e2, e3, e4⟩ := y
        subst e1 e3
        have e5 := e4 (xs, xs') ⟨same_b s g.1.1, same_b s g.2.1⟩
        subst e5
        have a5 := Al.new (o := .tup [xs.getD i .non, xs'.getD i .non]) s e2
        exact ⟨_, a5, T, _, rfl, .inl (.inl upd_same), dpAll_nth (dpAll_mono a5.sv _ _ g.1.2) (by omega), dpAll_nth (dpAll_mono a5.sv _ _ g.2.2) (by omega), trivial⟩
      · show min ds1.length ds2.length = min xs.length xs'.length
        rw [dpAll_length g.1.2, dpAll_length g.2.2]⟩
end
end Bo
set_option maxHeartbeats 4000000
/-! Hidden objects: lists that a def makes and changes. -/
namespace Bo
open PySem L2
section
variable {Hv H Hv' H' : Hp} {σ : St} {Rs : Frm} {ow : Nat → Addr} {i : Nat} {P P' : Own} {u : HO} {p : Addr}
theorem ent_lt (h : Rs[i]? = some (Ent.own P)) : i < Rs.length := (List.getElem?_eq_some_iff.mp h).1
theorem set_get {j : Nat} {e : Ent} (hi : i < Rs.length) : (Rs.set i e)[j]? = if i = j then some e else Rs[j]? := by
  by_cases h : i = j
  · subst h
    rw [List.getElem?_set_self hi, if_pos rfl]
  · rw [List.getElem?_set_ne h, if_neg h]
/-- a hidden object is changed where it stands -/
theorem Fr.put (f : Fr Hv H σ Rs ow) (hi : Rs[i]? = some (.own P)) (hu : P'.p Hv u) : Fr Hv (upd H (ow i) u) σ (Rs.set i (.own P')) ow := by
  have lt := ent_lt hi
  obtain ⟨h1, h2, u0, h3, h4⟩ := f.own i P hi
  refine ⟨fun b o e => ?_, by rw [List.length_set]; exact f.len, fun j R e => ?_, fun j Q e => ?_, fun j k Q Q' e1 e2 => ?_⟩
  · rw [upd_ne (ne_of_none e h2)]
    exact f.sub b o e
  · rw [set_get lt] at e
    by_cases hj : i = j
    · rw [if_pos hj] at e
      cases e
    · rw [if_neg hj] at e
      exact f.get j R e
  · rw [set_get lt] at e
    by_cases hj : i = j
    · rw [if_pos hj] at e
      subst hj
      cases e
      exact ⟨h1, h2, u, upd_same, hu⟩
    · rw [if_neg hj] at e
      obtain ⟨g1, g2, u1, g3, g4⟩ := f.own j Q e
      refine ⟨g1, g2, u1, ?_, g4⟩
      rw [upd_ne (fun z => hj (f.inj i j P Q hi e z.symm))]
      exact g3
  · have back : ∀ {j : Nat} {Q : Own}, (Rs.set i (.own P'))[j]? = some (.own Q) → ∃ Q0, Rs[j]? = some (.own Q0) := fun {j Q} e => by
      rw [set_get lt] at e
      by_cases hj : i = j
      · subst hj
        exact ⟨P, hi⟩
      · rw [if_neg hj] at e
        exact ⟨Q, e⟩
    obtain ⟨Q0, e1⟩ := back e1
    obtain ⟨Q1, e2⟩ := back e2
    exact f.inj j k Q0 Q1 e1 e2
theorem sts_put (f : Fr Hv H σ Rs ow) (hi : Rs[i]? = some (.own P)) : StS Hv H Rs ow Hv (upd H (ow i) u) (Rs.set i (.own P')) ow :=
  ⟨⟨fun b o e n => by
    rw [upd_ne (fun z => n ⟨i, P, hi, z.symm⟩)]
    exact e, Same.refl _, fun _ _ e _ _ => e, fun b o e => by
    by_cases hb : b = ow i
    · exact ⟨u, by rw [hb, upd_same]⟩
    · exact ⟨o, by rw [upd_ne hb]; exact e⟩⟩, fun _ _ _ _ _ => rfl, fun j Q e => by
    rw [set_get (ent_lt hi)] at e
    by_cases hj : i = j
    · subst hj
      exact .inl ⟨P, hi⟩
    · rw [if_neg hj] at e
      exact .inl ⟨Q, e⟩⟩
/-- a hidden object comes into a slot -/
theorem Fr.come (f : Fr Hv H σ Rs ow) (hn : ∀ Q, Rs[i]? ≠ some (.own Q)) (lt : i < Rs.length) (h1 : Hv p = none) (h2 : H p = some u) (h3 : P.p Hv u) (h4 : ∀ j Q, Rs[j]? = some (.own Q) → ow j ≠ p) :
    Fr Hv H (σ.set i (some (.ref p))) (Rs.set i (.own P)) (fun j => if j = i then p else ow j) := by
  refine ⟨f.sub, by rw [List.length_set, List.length_set]; exact f.len, fun j R e => ?_, fun j Q e => ?_, fun j k Q Q' e1 e2 ee => ?_⟩
  · rw [set_get lt] at e
    by_cases hj : i = j
    · rw [if_pos hj] at e
      cases e
    · rw [if_neg hj] at e
      rw [List.getElem?_set_ne hj]
      exact f.get j R e
  · rw [set_get lt] at e
    by_cases hj : i = j
    · rw [if_pos hj] at e
      subst hj
      cases e
      simp only [if_true]
      exact ⟨List.getElem?_set_self (by rw [f.len]; exact lt), h1, u, h2, h3⟩
    · rw [if_neg hj] at e
      rw [List.getElem?_set_ne hj]
      simp only [if_neg (Ne.symm hj)]
      exact f.own j Q e
  · rw [set_get lt] at e1 e2
    have ee : (if j = i then p else ow j) = (if k = i then p else ow k) := ee
    by_cases hj : i = j
    · subst hj
      by_cases hk : i = k
      · exact hk
      · rw [if_neg hk] at e2
        rw [if_pos rfl, if_neg (Ne.symm hk)] at ee
        exact (h4 k Q' e2 ee.symm).elim
    · rw [if_neg hj] at e1
      by_cases hk : i = k
      · subst hk
        rw [if_neg (Ne.symm hj), if_pos rfl] at ee
        exact (h4 j Q e1 ee).elim
      · rw [if_neg hk] at e2
        rw [if_neg (Ne.symm hj), if_neg (Ne.symm hk)] at ee
        exact f.inj j k Q Q' e1 e2 ee
theorem sts_come (hn : ∀ Q, Rs[i]? ≠ some (.own Q)) (lt : i < Rs.length) (s : Stp Hv H Rs ow Hv' H') (h : H p = none) : StS Hv H Rs ow Hv' H' (Rs.set i (.own P)) (fun j => if j = i then p else ow j) :=
  ⟨s, fun j Q Q' e e' => by
    have hj : j ≠ i := fun z => hn Q (by rw [← z]; exact e)
    show (if j = i then p else ow j) = ow j
    rw [if_neg hj], fun j Q e => by
    rw [set_get lt] at e
    by_cases hj : i = j
    · subst hj
      refine .inr ?_
      show H (if i = i then p else ow i) = none
      rw [if_pos rfl]
      exact h
    · rw [if_neg hj] at e
      exact .inl ⟨Q, e⟩⟩
end
/-! ### new hidden objects as values -/
section
variable {X : Cx} {e e2 a b : Expr} {es : List Expr} {Rs : Frm} {R Ra Rb : Rel} {P P' : Own} {pos : Pos}
theorem o_lst {ds : List PyData} (h : XA X es Rs (ds.map (dR X.K))) (hl : ds.length ≤ 100000 := by exact Nat.le_of_ble_eq_true rfl) : XO X (.List es pos) Rs (ownL X.K ds) := pe_imp (pe_lst h) fun σ H Q ⟨Hv, ow, f, q⟩ => ⟨Hv, ow, f, fun vs Hv1 H1 s1 f1 r => by
  have e := r.length
  rw [List.length_map] at e
  refine ⟨Nat.le_trans (by omega : vs.length ≤ 100000) (by decide), fun p hp => ?_⟩
  have vp : Hv1 p = none := f1.sub.free hp
  have h0 : H p = none := by
    cases hq : H p with
    | none => rfl
    | some o =>
      obtain ⟨o', e'⟩ := s1.th p o hq
      rw [e'] at hp
      cases hp
  have a : Al Hv1 H1 Hv1 (upd H1 p (.lst vs)) := ⟨same_new hp, Same.refl _, f1.sub.trans (same_new hp), fun _ _ e _ => e⟩
  exact q p _ Hv1 _ (s1.trans a.stp) (f1.al a) h0 vp upd_same ⟨vs, rfl, allR_dp r⟩⟩
/-- name = what makes a hidden object -/
theorem n_setO (i : Nat) {x : Str} {pos' : Pos} (h : XO X e Rs P) (hN : X.N.Nodup) (lt : i < Rs.length := by decide) (hn : ∀ Q, Rs[i]? ≠ some (Ent.own Q) := by intro P z; cases z) (hi : X.N[i]? = some x := by rfl) (hx : Loc X.env.scope x := by first | exact Or.inl rfl | exact Or.inr rfl)
    (hs : swapsWith e (some (.Name x pos')) pos.line X.env = pure false := by rfl) (hf : X.fn x = true ∨ X.env.scope.names.lookup x = some .local := by first | exact .inl rfl | exact .inr rfl) : XN X (.Assign [.Name x pos'] e pos) Rs (Rs.set i (.own P)) :=
  ps_imp (ps_set hN hi hx h hs hf) fun D σ H ⟨Hv, ow, f, q⟩ => ⟨Hv, ow, f, fun p u Hv' H' s f' h0 hv hh hp => q _ Hv' H' _ (sts_come hn lt s h0) (f'.come hn lt hv hh hp fun j Q e z => f.free h0 j Q e z)⟩
/-- the hidden object becomes one that is seen -/
theorem revealG (i : Nat) {P0 : Own} {R0 : Rel} {st : List Stmt} {pw : List (Nat × Own)} (hR : SeenAs P0 R0) (hi : Rs[i]? = some (.own P0)) (h : PSs X st (tXR pw (Rs.set i (.is R0)) R)) (hp : ∀ p ∈ pw, p.1 ≠ i := by intro i hi; cases hi) : PSs X st (tXR pw Rs R) :=
  pss_imp h fun D σ H ⟨Hv, ow, f, q⟩ => by
    have lt := ent_lt hi
    obtain ⟨h1, h2, u, h3, h5⟩ := f.own i _ hi
    have sm : Same Hv (upd Hv (ow i) u) := same_new h2
    have nb : ∀ {b : Addr}, ¬ Owned Rs ow b → ¬ Owned (Rs.set i (.is R0)) ow b := fun {b} n ⟨j, Q, e, z⟩ => by
      rw [set_get lt] at e
      by_cases hj : i = j
      · rw [if_pos hj] at e
        cases e
      · rw [if_neg hj] at e
        exact n ⟨j, Q, e, z⟩
    refine ⟨upd Hv (ow i) u, ow, ⟨fun b o e => ?_, by rw [List.length_set]; exact f.len, fun j R' e => ?_, fun j Q e => ?_, fun j k Q Q' e1 e2 => ?_⟩, fun v Hv' H' s sub pz r => q v Hv' H' ⟨fun b o e n => s.kp b o e (nb n), sm.trans s.sv, fun b o e1 e2 n => s.hid b o ?_ e2 (nb n), s.th⟩ sub pz r⟩
    · by_cases hb : b = ow i
      · rw [hb, upd_same] at e
        rw [hb, h3]
        exact e
      · rw [upd_ne hb] at e
        exact f.sub b o e
    · rw [set_get lt] at e
      by_cases hj : i = j
      · rw [if_pos hj] at e
        subst hj
        cases e
        exact ⟨_, h1, hR Hv _ u h2 h5⟩
      · rw [if_neg hj] at e
        obtain ⟨v, g1, g2⟩ := f.get j R' e
        exact ⟨v, g1, R'.mono sm g2⟩
    · rw [set_get lt] at e
      by_cases hj : i = j
      · rw [if_pos hj] at e
        cases e
      · rw [if_neg hj] at e
        obtain ⟨g1, g2, u2, g3, g4⟩ := f.own j Q e
        refine ⟨g1, ?_, u2, g3, Q.mono sm g4⟩
        rw [upd_ne (fun z => hj (f.inj i j _ Q hi e z.symm))]
        exact g2
    · rw [set_get lt] at e1 e2
      by_cases hj : i = j
      · rw [if_pos hj] at e1
        cases e1
      · by_cases hk : i = k
        · rw [if_pos hk] at e2
          cases e2
        · rw [if_neg hj] at e1
          rw [if_neg hk] at e2
          exact f.inj j k Q Q' e1 e2
    · rw [upd_ne (fun z => n ⟨i, _, hi, z.symm⟩)]
      exact e1
theorem reveal (i : Nat) {ds : List PyData} {st : List Stmt} {pw : List (Nat × Own)} (hi : Rs[i]? = some (.own (ownL X.K ds))) (h : PSs X st (tXR pw (Rs.set i (.is (dR X.K (.list ds)))) R)) (hp : ∀ p ∈ pw, p.1 ≠ i := by intro i hi; cases hi) : PSs X st (tXR pw Rs R) := revealG i seen_d hi h hp
/-- a method of a hidden object, as a statement -/
def MtO (r : V → List V → Hp → VK → Prop) (P P' : Own) (As : List Rel) : Prop := ∀ (Hv H : Hp) (l : Addr) (u : HO) (vs : List V) (Q : VK), Hv l = none → H l = some u → P.p Hv u → AllR Hv vs As → (∀ u' v, P'.p Hv u' → Q v (upd H l u')) → r (.ref l) vs H Q
theorem n_mtO (i : Nat) {As : List Rel} {o : Expr} {name : Str} {apos cpos : Pos} {T id : String} {r : V → List V → Hp → VK → Prop} (hi : Rs[i]? = some (.own P)) (pa : PlainAttrs T) (slot : Slot T name id) (hty : typeOf (.builtin id) = pure (.type "method_descriptor")) (hm : MtR X id r) (hr : MtO r P P' As)
    (hT : ∀ Hv H l u, H l = some u → P.p Hv u → tyV X.K T (.ref l) H) (ho : PE X o (tVar i)) (ha : XA X (e :: es) Rs As) (hsw : swapsWith (.Call (.Attribute o name apos) (e :: es) [] cpos) none pos.line X.env = pure false := by rfl) (hbase : attributeBase o name X.env (eval o X.env) = eval o X.env := by rfl)
    (hfew : ((backTo cpos (starEach (e :: es) X.env)).all (fun x => !x.1) && (backToKw cpos (keywordEach [] X.env)).all (fun x => x.1.isSome)
      && decide ((e :: es).length + ([] : List Keyword).length + (if ([] : List Keyword).isEmpty then 0 else 1) < 30)) = true := by rfl)
    (hline : (apos.endLine == cpos.line) = true := by rfl) (hs : starEach (e :: es) X.env = (false, eval e X.env) :: starEach es X.env := by rfl) (hplain : (backTo cpos (starEach es X.env)).any (·.1) = false := by rfl) :
    XN X (.Expr (.Call (.Attribute o name apos) (e :: es) [] cpos) pos) Rs (Rs.set i (.own P')) :=
  ps_imp (ps_expr (pe_bm pa slot hty hm ho ha hbase hfew hline hs hplain) hsw) fun D σ H ⟨Hv, ow, f, q⟩ => by
    obtain ⟨h1, h2, u, h3, h4⟩ := f.own i P hi
    refine ⟨_, h1, hT Hv H _ u h3 h4, Hv, ow, f, fun vs Hv1 H1 s1 f1 r1 => ?_⟩
    obtain ⟨_, g2, u1, g3, g4⟩ := f1.own i P hi
    exact hr Hv1 H1 (ow i) u1 vs _ g2 g3 g4 r1 fun u' v hu => q σ Hv1 _ ow ((StS.of s1).trans (sts_put f1 hi) fun j Q Q2 e _ => ⟨Q, e⟩) (f1.put hi hu)
theorem mo_append {K : PySem.W.Frag} {ds : List PyData} {d : PyData} (hl : ds.length < 100000) : MtO rAppend (ownL K ds) (ownL K (ds ++ [d])) [dR K d] := fun Hv H l u vs Q h1 h2 ⟨xs, e, h3⟩ r q => by
  subst e
  match vs, r with
  | [v], ⟨r, _⟩ =>
    refine ⟨l, xs, v, rfl, rfl, h2, ?_, q _ _ ⟨_, rfl, dpAll_snoc h3 r⟩⟩
    rw [dpAll_length h3]
    exact Nat.lt_of_lt_of_le hl (by decide)
theorem ty_own {K : PySem.W.Frag} {ds : List PyData} : ∀ (Hv H : Hp) (l : Addr) (u : HO), H l = some u → (ownL K ds).p Hv u → tyV K "list" (.ref l) H := fun Hv H l u h ⟨xs, e, _⟩ => .inl ⟨rfl, xs, .inl (.inl (by rw [h, e]))⟩
theorem n_append (i : Nat) {ds : List PyData} {d : PyData} {x : Str} {px apos cpos : Pos} (hi : Rs[i]? = some (.own (ownL X.K ds))) (ha : XE X e Rs (dR X.K d)) (hl : ds.length < 100000) (hN : X.N[i]? = some x := by rfl) (hv : Vis X.env.scope x := by first | exact Or.inl rfl | exact Or.inr (Or.inl rfl) | exact Or.inr (Or.inr rfl)) (hd : (x == ("__debug__" : Str)) = false := by decide)
    (hcd : (x == ("__classdict__" : Str)) = false := by decide) (hsw : swapsWith (.Call (.Attribute (.Name x px) "append" apos) [e] [] cpos) none pos.line X.env = pure false := by rfl) (hbase : attributeBase (.Name x px) "append" X.env (eval (.Name x px) X.env) = eval (.Name x px) X.env := by rfl)
    (hfew : ((backTo cpos (starEach [e] X.env)).all (fun x => !x.1) && (backToKw cpos (keywordEach [] X.env)).all (fun x => x.1.isSome)
      && decide ([e].length + ([] : List Keyword).length + (if ([] : List Keyword).isEmpty then 0 else 1) < 30)) = true := by rfl)
    (hline : (apos.endLine == cpos.line) = true := by rfl) (hs : starEach [e] X.env = [(false, eval e X.env)] := by rfl) : XN X (.Expr (.Call (.Attribute (.Name x px) "append" apos) [e] [] cpos) pos) Rs (Rs.set i (.own (ownL X.K (ds ++ [d])))) :=
  n_mtO i hi PySem.F.plainAttrs_list PySem.F.slot_list_append PySem.F.type_list_append mt_append (mo_append hl) ty_own (pv i hN hv hd hcd) (xa_cons ha xa_nil hs) hsw hbase hfew hline hs rfl
end
section
variable {X : Cx} {elt tg iter : Expr} {ifs : List Expr} {scope : Scope} {own : List (Str × Nat)} {Rs : Frm} {pos : Pos} {n : Nat} {I : Nat → Rel}
/-- name = [..] on one line, hidden -/
theorem n_setLcO (j : Nat) (b : Nat → Bool) (f : Nat → PyData) (Gi : Nat → Frm) {ks : List Nat} {y : Str} {py spos : Pos} (hc : X.calm = true) (hN : X.N.Nodup) (hi : XI X tg iter Rs n I) (ok : BlkOk X.N X.env.scope scope own) (hn : n ≤ 100000) (ho : NoOwn Rs) (hog : ∀ i, i < n → NoOwn (Gi i))
    (hw : ∀ k ∈ own.map (·.2), Rs[k]? = some Ent.no) (hk : ∀ k ∈ ks, k ∈ own.map (·.2)) (hg : Blk X scope fun Y => ∀ i, i < n → XG Y tg (I i) Rs (Gi i) ks) (ht : Blk X scope fun Y => ∀ i, i < n → PTs Y ifs (tXT (Gi i) (b i)))
    (he : Blk X scope fun Y => ∀ i, i < n → b i = true → XE Y elt (Gi i) (dR X.K (f i))) (hsw : swapsWith (.ListComp elt [⟨tg, iter, ifs, 0⟩] scope pos) (some (.Name y py)) spos.line X.env = pure true) (hy : X.N[j]? = some y := by rfl) (hyl : X.env.scope.names.lookup y = some .local := by rfl)
    (lt : j < Rs.length := by decide) (hs : ∀ x, foldedSetIterable iter X.env x = pure x := by intro _; rfl) : XN X (.Assign [.Name y py] (.ListComp elt [⟨tg, iter, ifs, 0⟩] scope pos) spos) Rs (Rs.set j (.own (ownL X.K (lcD n b f)))) :=
  ps_imp (ps_setLc (g := fun v σ H Q => ∃ i, i < n ∧ tXG (I i) Rs (Gi i) ks v σ H Q) (tt := fun σ H Q => ∃ i, i < n ∧ tXT (Gi i) (b i) σ H Q) (te := fun σ H Q => ∃ i, i < n ∧ b i = true ∧ tX (Gi i) (dR X.K (f i)) σ H Q) hc hN hy hyl hsw hi ok
    (fun s H C cl fp => ⟨fun pins s2 σ H2 v u Q J r ⟨i, hi, q⟩ => (hg s H C cl fp i hi).run pins s2 σ H2 v u Q J r q⟩) (fun s H C cl fp => ⟨fun pins s2 σ H2 Q J ⟨i, hi, q⟩ => (ht s H C cl fp i hi).run pins s2 σ H2 Q J q⟩)
    (fun s H C cl fp => ⟨fun pins s2 σ H2 Q J ⟨i, hi, hb, q⟩ => (he s H C cl fp i hi hb).run pins s2 σ H2 Q J q⟩) hs) fun D σ H ⟨Hv, ow, f0, q⟩ => lc_o b f Gi hn ho hog hw hk σ H _ ⟨Hv, ow, f0, fun p u Hv' H' s f' h0 hv hh hp => q _ Hv' H' _ (sts_come (ho j) lt s h0) (f'.come (ho j) lt hv hh hp fun j Q e z => f0.free h0 j Q e z)⟩
end
end Bo
set_option maxHeartbeats 4000000
/-! Lists and tuples: sums, slices, conversions; ints. -/
namespace Bo
open PySem L2
section
variable {K : PySem.W.Frag} {H : Hp}
theorem dpAll_take : ∀ {vs : List V} {ds : List PyData} (n : Nat), DpAll K H vs ds → DpAll K H (vs.take n) (ds.take n)
  | _, _, _, .nil => by simp; exact .nil
  | _, _, 0, .cons _ _ => .nil
  | _, _, n + 1, .cons h t => .cons h (dpAll_take n t)
theorem dpAll_drop : ∀ {vs : List V} {ds : List PyData} (n : Nat), DpAll K H vs ds → DpAll K H (vs.drop n) (ds.drop n)
  | _, _, _, .nil => by simp; exact .nil
  | _, _, 0, .cons h t => .cons h t
  | _, _, n + 1, .cons _ t => dpAll_drop n t
theorem dpAll_rev : ∀ {vs : List V} {ds : List PyData}, DpAll K H vs ds → DpAll K H vs.reverse ds.reverse
  | _, _, .nil => .nil
  | _, _, .cons h t => by
    rw [List.reverse_cons, List.reverse_cons]
    exact dpAll_snoc (dpAll_rev t) h
theorem dp_of_b {b : Bool} {a : Addr} {xs : List V} {d : PyData} {ds : List PyData} (hd : SeqD d ds) (v : V) (r : Dp K H v d) : ∃ a xs, v = .ref a ∧ (SqL K H a xs ∨ SqT K H a xs) ∧ DpAll K H xs ds := by
  rcases hd with e | e
  · subst e
    obtain ⟨a, xs, e, h1, h2⟩ := dp_list r
    exact ⟨a, xs, e, .inl h1, h2⟩
  · subst e
    obtain ⟨a, xs, e, h1, h2⟩ := dp_tup r
    exact ⟨a, xs, e, .inr h1, h2⟩
def oI : Option Nat → Option Int
  | none => none
  | some n => some (n : Int)
/-- a slice's parts, none below 0 -/
def cutD (lo : Nat) (hi : Option Nat) (ds : List PyData) : List PyData := (ds.drop lo).take (match hi with | none => ds.length | some n => n - lo)
theorem cut_dp {xs : List V} {ds : List PyData} {l u : Option Int} {lo : Nat} {hi : Option Nat} (hl : l = none ∧ lo = 0 ∨ l = some (lo : Int)) (hu : u = oI hi) (h : DpAll K H xs ds) : DpAll K H (cutV xs l u) (cutD lo hi ds) := by
  have e := dpAll_length h
  have e1 : xs.drop (HT.sIx xs.length 0 l) = xs.drop lo := by
    rcases hl with ⟨e, e'⟩ | e
    · subst e e'
      rfl
    · subst e
      rw [HT.sIx_nat]
      by_cases hlo : lo ≤ xs.length
      · rw [Nat.min_eq_left hlo]
      · rw [Nat.min_eq_right (by omega), List.drop_length, List.drop_eq_nil_of_le (by omega)]
  have e2 : HT.sIx xs.length 0 l = min lo xs.length := by
    rcases hl with ⟨e, e'⟩ | e
    · subst e e'
      simp [HT.sIx_none]
    · subst e
      rw [HT.sIx_nat]
  unfold cutV cutD
  rw [e1]
  cases hi with
  | none =>
    subst hu
    have e3 : (xs.drop lo).take (HT.sIx xs.length xs.length (oI none) - HT.sIx xs.length 0 l) = (xs.drop lo).take ds.length := by
      rw [e2, show HT.sIx xs.length xs.length (oI none) = xs.length from rfl, List.take_of_length_le (by rw [List.length_drop]; omega), List.take_of_length_le (by rw [List.length_drop]; omega)]
    rw [e3]
    exact dpAll_take _ (dpAll_drop _ h)
  | some n =>
    subst hu
    have e3 : (xs.drop lo).take (HT.sIx xs.length xs.length (oI (some n)) - HT.sIx xs.length 0 l) = (xs.drop lo).take (n - lo) := by
      rw [e2, show HT.sIx xs.length xs.length (oI (some n)) = min n xs.length from HT.sIx_nat _ _ _]
      by_cases hn : n ≤ xs.length
      · rw [Nat.min_eq_left hn]
        by_cases hlo : lo ≤ xs.length
        · rw [Nat.min_eq_left hlo]
        · rw [List.drop_eq_nil_of_le (by omega)]
          simp
      · rw [Nat.min_eq_right (by omega), List.take_of_length_le (by rw [List.length_drop]; omega), List.take_of_length_le (by rw [List.length_drop]; omega)]
    rw [e3]
    exact dpAll_take _ (dpAll_drop _ h)
end
section
variable {X : Cx} {e a b : Expr} {es : List Expr} {Rs : Frm} {R : Rel} {pos p p2 : Pos}
theorem x_dt {ds : List PyData} (h : XE X e Rs (tlR X.K ds)) : XE X e Rs (dR X.K (.list ds)) := x_weak h fun _ _ r => tlR_d r
/-- + of lists -/
theorem x_catL {ds es : List PyData} (ha : XE X a Rs (tlR X.K ds)) (hb : XE X b Rs (tlR X.K es)) (hl : ds.length + es.length ≤ 100000) : XE X (.BinOp a .Add b pos) Rs (tlR X.K (ds ++ es)) :=
  x_op (Ra := tlR X.K ds) (Rb := tlR X.K es) op_cat (fun Hv H x y Q s ⟨a1, xs, e1, h1, g1⟩ ⟨a2, ys, e2, h2, g2⟩ q => by
    subst e1 e2
    refine ⟨a1, a2, xs, ys, rfl, rfl, s _ _ h1, s _ _ h2, ?_, fun p hp => ?_⟩
    · rw [dpAll_length g1, dpAll_length g2]
      exact Nat.le_trans hl (by decide)
    · have a := Al.new (o := .lst (xs ++ ys)) s hp
      exact q _ _ _ a ⟨p, _, rfl, upd_same, dpAll_mono a.sv _ _ (dpAll_app g1 g2)⟩) ha hb
/-- + of tuples -/
theorem x_catT {ds es : List PyData} (ha : XE X a Rs (dR X.K (.tuple ds))) (hb : XE X b Rs (dR X.K (.tuple es))) (hl : ds.length + es.length ≤ 100000) : XE X (.BinOp a .Add b pos) Rs (dR X.K (.tuple (ds ++ es))) :=
  x_op (Ra := dR X.K (.tuple ds)) (Rb := dR X.K (.tuple es)) op_catA (fun Hv H x y Q s r1 r2 q => by
    obtain ⟨a1, xs, e1, h1, g1⟩ := dp_tup r1
    obtain ⟨a2, ys, e2, h2, g2⟩ := dp_tup r2
    subst e1 e2
    refine ⟨a1, a2, xs, ys, rfl, rfl, same_t s h1, same_t s h2, ?_, fun z => ?_, fun _ z => ?_, fun _ _ p hp => ?_⟩
    · rw [dpAll_length g1, dpAll_length g2]
      exact Nat.le_trans hl (by decide)
    · subst z
      have e := dpAll_length g1
      have e0 : ds = [] := List.length_eq_zero_iff.mp e.symm
      subst e0
      exact q _ _ _ (.refl s) (.tup h2 g2)
    · subst z
      have e := dpAll_length g2
      have e0 : es = [] := List.length_eq_zero_iff.mp e.symm
      subst e0
      rw [List.append_nil] at q
      exact q _ _ _ (.refl s) (.tup h1 g1)
    · have a := Al.new (o := .tup (xs ++ ys)) s hp
      exact q _ _ _ a (.tup (.inl (.inl upd_same)) (dpAll_mono a.sv _ _ (dpAll_app g1 g2)))) ha hb
/-- list(x) -/
theorem x_listOf {d : PyData} {ds : List PyData} (hd : SeqD d ds) (hm : X.mg "list" = none) (ha : XE X a Rs (dR X.K d)) (hg : Gl X "list" := by rfl) (h1 : starEach [a] X.env = [(false, eval a X.env)] := by rfl) : XE X (.Call (.Name "list" p) [a] [] pos) Rs (tlR X.K ds) :=
  x_callTy call_list_of (As := [dR X.K d]) (R := tlR X.K ds) (fun Hv H vs Q s h q => by
    match vs, h with
    | [v], ⟨h, _⟩ =>
      obtain ⟨a, xs, e, hs, g⟩ := dp_of_b (b := true) (a := 0) (xs := []) hd v h
      subst e
      refine ⟨a, xs, rfl, hs.elim (fun h => .inl (same_l s h)) (fun h => .inr (same_t s h)), fun l hl => ?_⟩
      have al := Al.new (o := .lst xs) s hl
      exact q _ _ _ al ⟨l, xs, rfl, upd_same, dpAll_mono al.sv _ _ g⟩) hm (by decide +kernel) (xa_cons ha xa_nil h1) hg (by decide) (by decide) h1 rfl
/-- tuple(x) -/
theorem x_tupOf {d : PyData} {ds : List PyData} (hd : SeqD d ds) (hm : X.mg "tuple" = none) (ha : XE X a Rs (dR X.K d)) (hg : Gl X "tuple" := by rfl) (h1 : starEach [a] X.env = [(false, eval a X.env)] := by rfl) : XE X (.Call (.Name "tuple" p) [a] [] pos) Rs (dR X.K (.tuple ds)) :=
  x_callTy call_tuple_of (As := [dR X.K d]) (R := dR X.K (.tuple ds)) (fun Hv H vs Q s h q => by
    match vs, h with
    | [v], ⟨h, _⟩ =>
      obtain ⟨a, xs, e, hs, g⟩ := dp_of_b (b := true) (a := 0) (xs := []) hd v h
      subst e
      rcases hs with hs | hs
      · refine ⟨a, xs, rfl, .inl ⟨same_l s hs, fun l hl => ?_⟩⟩
        have al := Al.new (o := .tup xs) s hl
        exact q _ _ _ al (.tup (.inl (.inl upd_same)) (dpAll_mono al.sv _ _ g))
      · exact ⟨a, xs, rfl, .inr ⟨same_t s hs, q _ _ _ (.refl s) (.tup hs g)⟩⟩) hm (by decide +kernel) (xa_cons ha xa_nil h1) hg (by decide) (by decide) h1 rfl
/-- the parts of a slice -/
def PartX (X : Cx) (e : Option Expr) (Rs : Frm) (o : Option Int) : Prop := PO X e (fun σ H Q => ∃ Hv ow, Fr Hv H σ Rs ow ∧ ∀ Hv' H', Stp Hv H Rs ow Hv' H' → Fr Hv' H' σ Rs ow → Q o H')
theorem po_imp {e : Option Expr} {t t' : TO} (h : PO X e t) (i : ∀ σ H Q, t' σ H Q → t σ H Q) : PO X e t' := ⟨fun pins s σ H Q I q => h.run pins s σ H Q I (i σ H Q q)⟩
theorem px_none : PartX X none Rs none := po_imp po_none fun σ H Q ⟨Hv, ow, f, q⟩ => q Hv H .refl f
theorem px_some {i : Int} (h : XE X e Rs (intR i)) : PartX X (some e) Rs (some i) := po_imp (po_some h) fun σ H Q ⟨Hv, ow, f, q⟩ => ⟨Hv, ow, f, fun v Hv' H' s f' r => ⟨i, r, q Hv' H' s f'⟩⟩
theorem x_slL {l u : Option Expr} {lo hi : Option Int} {ds : List PyData} {ln : Nat} {hn : Option Nat} (he : XE X e Rs (dR X.K (.list ds))) (h1 : PartX X l Rs lo) (h2 : PartX X u Rs hi) (e1 : lo = none ∧ ln = 0 ∨ lo = some (ln : Int)) (e2 : hi = oI hn) :
    XE X (.Subscript e (.Slice l u none p2) pos) Rs (tlR X.K (cutD ln hn ds)) :=
  pe_imp (pe_slice sl_list he h1 h2) fun σ H Q ⟨Hv, ow, f, q⟩ => ⟨Hv, ow, f, fun v Hv1 H1 s1 f1 r1 => ⟨Hv1, ow, f1, fun Hv2 H2 s2 f2 => ⟨Hv2, ow, f2, fun Hv3 H3 s3 f3 => by
    obtain ⟨a, xs, e, hs, g⟩ := dp_list r1
    have sm := s2.sv.trans s3.sv
    refine ⟨a, xs, e, same_l (sm.trans f3.sub) hs, fun p hp => ?_⟩
    have al := Al.new (o := .lst (cutV xs lo hi)) f3.sub hp
    exact q _ _ _ (((s1.trans s2).trans s3).trans al.stp) (f3.al al) ⟨p, _, rfl, upd_same, dpAll_mono (sm.trans al.sv) _ _ (cut_dp e1 e2 g)⟩⟩⟩⟩
theorem x_slT {l u : Option Expr} {lo hi : Option Int} {ds : List PyData} {ln : Nat} {hn : Option Nat} (he : XE X e Rs (dR X.K (.tuple ds))) (h1 : PartX X l Rs lo) (h2 : PartX X u Rs hi) (e1 : lo = none ∧ ln = 0 ∨ lo = some (ln : Int)) (e2 : hi = oI hn) :
    XE X (.Subscript e (.Slice l u none p2) pos) Rs (dR X.K (.tuple (cutD ln hn ds))) :=
  pe_imp (pe_slice sl_tupA he h1 h2) fun σ H Q ⟨Hv, ow, f, q⟩ => ⟨Hv, ow, f, fun v Hv1 H1 s1 f1 r1 => ⟨Hv1, ow, f1, fun Hv2 H2 s2 f2 => ⟨Hv2, ow, f2, fun Hv3 H3 s3 f3 => by
    obtain ⟨a, xs, e, hs, g⟩ := dp_tup r1
    have sm := s2.sv.trans s3.sv
    have cd := cut_dp e1 e2 g
    refine ⟨a, xs, e, same_t (sm.trans f3.sub) hs, fun ⟨z1, z2⟩ => ?_, fun _ p hp => ?_⟩
    · have ec : cutV xs lo hi = xs := by
        unfold cutV
        rw [z1, z2]
        simp
      rw [ec] at cd
      exact q _ _ _ ((s1.trans s2).trans s3) f3 (.tup (same_t sm hs) (dpAll_mono sm _ _ cd))
    · have al := Al.new (o := .tup (cutV xs lo hi)) f3.sub hp
      exact q _ _ _ (((s1.trans s2).trans s3).trans al.stp) (f3.al al) (.tup (.inl (.inl upd_same)) (dpAll_mono (sm.trans al.sv) _ _ cd))⟩⟩⟩
/-- xs[::-1] -/
theorem x_revL {ds : List PyData} {k : Nat} {p1 p3 : Pos} (he : XE X e Rs (dR X.K (.list ds))) : XE X (.Subscript e (.Slice none none (some (.UnaryOp .USub (.Constant (.int 1) k p1) p2)) p3) pos) Rs (tlR X.K ds.reverse) :=
  pe_imp (pe_revL he) fun σ H Q ⟨Hv, ow, f, q⟩ => ⟨Hv, ow, f, fun v Hv1 H1 s1 f1 r1 => by
    obtain ⟨a, xs, e, hs, g⟩ := dp_list r1
    refine ⟨a, xs, e, same_l f1.sub hs, fun p hp => ?_⟩
    have al := Al.new (o := .lst xs.reverse) f1.sub hp
    exact q _ _ _ (s1.trans al.stp) (f1.al al) ⟨p, _, rfl, upd_same, dpAll_mono al.sv _ _ (dpAll_rev g)⟩⟩
/-- ints -/
theorem x_min2 {i j : Int} (hc : X.calm = true) (hm : X.mg "min" = none) (ha : XE X a Rs (intR i)) (hb : XE X b Rs (intR j)) (hg : Gl X "min" := by rfl) (h1 : starEach [a, b] X.env = (false, eval a X.env) :: starEach [b] X.env := by rfl) (h2 : starEach [b] X.env = [(false, eval b X.env)] := by rfl) (hpl : (backTo pos (starEach [b] X.env)).any (·.1) = false := by rfl) :
    XE X (.Call (.Name "min" p) [a, b] [] pos) Rs (intR (min i j)) :=
  x_callB (call_min2 hc) (As := [intR i, intR j]) (fun Hv H vs Q s h q => by
    match vs, h with
    | [v, w], ⟨e1, e2, _⟩ =>
      refine ⟨i, j, by rw [show v = .int i from e1, show w = .int j from e2], q _ _ _ (.refl s) ?_⟩
      show V.int _ = V.int _
      congr 1
      split <;> omega) hm (by decide +kernel) (xa_cons ha (xa_cons hb xa_nil h2) h1) hg (by decide) (by decide) h1 hpl
theorem x_max2 {i j : Int} (hc : X.calm = true) (hm : X.mg "max" = none) (ha : XE X a Rs (intR i)) (hb : XE X b Rs (intR j)) (hg : Gl X "max" := by rfl) (h1 : starEach [a, b] X.env = (false, eval a X.env) :: starEach [b] X.env := by rfl) (h2 : starEach [b] X.env = [(false, eval b X.env)] := by rfl) (hpl : (backTo pos (starEach [b] X.env)).any (·.1) = false := by rfl) :
    XE X (.Call (.Name "max" p) [a, b] [] pos) Rs (intR (max i j)) :=
  x_callB (call_max2 hc) (As := [intR i, intR j]) (fun Hv H vs Q s h q => by
    match vs, h with
    | [v, w], ⟨e1, e2, _⟩ =>
      refine ⟨i, j, by rw [show v = .int i from e1, show w = .int j from e2], q _ _ _ (.refl s) ?_⟩
      show V.int _ = V.int _
      congr 1
      split <;> omega) hm (by decide +kernel) (xa_cons ha (xa_cons hb xa_nil h2) h1) hg (by decide) (by decide) h1 hpl
theorem x_abs {i : Int} (hm : X.mg "abs" = none) (ha : XE X a Rs (intR i)) (hg : Gl X "abs" := by rfl) (h1 : starEach [a] X.env = [(false, eval a X.env)] := by rfl) : XE X (.Call (.Name "abs" p) [a] [] pos) Rs (intR (if i < 0 then -i else i)) :=
  x_callB call_abs (As := [intR i]) (fun Hv H vs Q s h q => by
    match vs, h with
    | [v], ⟨e1, _⟩ => exact ⟨i, by rw [show v = .int i from e1], q _ _ _ (.refl s) rfl⟩) hm (by decide +kernel) (xa_cons ha xa_nil h1) hg (by decide) (by decide) h1 rfl
theorem x_int1 {i : Int} (hm : X.mg "int" = none) (ha : XE X a Rs (intR i)) (hg : Gl X "int" := by rfl) (h1 : starEach [a] X.env = [(false, eval a X.env)] := by rfl) : XE X (.Call (.Name "int" p) [a] [] pos) Rs (intR i) :=
  x_callTy call_int1 (As := [intR i]) (fun Hv H vs Q s h q => by
    match vs, h with
    | [v], ⟨e1, _⟩ => exact .inl ⟨i, by rw [show v = .int i from e1], q _ _ _ (.refl s) rfl⟩) hm (by decide +kernel) (xa_cons ha xa_nil h1) hg (by decide) (by decide) h1 rfl
theorem x_mul {i j : Int} (hc : CMulX i j) (ha : XE X a Rs (intR i)) (hb : XE X b Rs (intR j)) : XE X (.BinOp a .Mult b pos) Rs (intR (i * j)) := x_op op_mulX (ox_I hc) ha hb
theorem x_fdiv {i j : Int} (hc : CDivW i j) (ha : XE X a Rs (intR i)) (hb : XE X b Rs (intR j)) : XE X (.BinOp a .FloorDiv b pos) Rs (intR (i / j)) := x_op op_fdivW (ox_I hc) ha hb
theorem x_mod {i j : Int} (hc : 0 < j) (ha : XE X a Rs (intR i)) (hb : XE X b Rs (intR j)) : XE X (.BinOp a .Mod b pos) Rs (intR (i % j)) := x_op op_mod (ox_I hc) ha hb
theorem x_le {i j : Int} (ha : XE X a Rs (intR i)) (hb : XE X b Rs (intR j)) : XE X (.Compare a [.LtE] [b] pos) Rs (blR (decide (i ≤ j))) := x_cmp op_le ox_I0 ha hb
theorem x_lt {i j : Int} (ha : XE X a Rs (intR i)) (hb : XE X b Rs (intR j)) : XE X (.Compare a [.Lt] [b] pos) Rs (blR (decide (i < j))) := x_cmp op_lt ox_I0 ha hb
theorem xt_lt {i j : Int} (ha : XE X a Rs (intR i)) (hb : XE X b Rs (intR j)) : XT X (.Compare a [.Lt] [b] pos) Rs (decide (i < j)) := xt_cmp op_lt ox_I0 ha hb
theorem xt_le {i j : Int} (ha : XE X a Rs (intR i)) (hb : XE X b Rs (intR j)) : XT X (.Compare a [.LtE] [b] pos) Rs (decide (i ≤ j)) := xt_cmp op_le ox_I0 ha hb
theorem xt_gt {i j : Int} (ha : XE X a Rs (intR i)) (hb : XE X b Rs (intR j)) : XT X (.Compare a [.Gt] [b] pos) Rs (decide (j < i)) := xt_cmp op_gt ox_I0 ha hb
theorem xt_ge {i j : Int} (ha : XE X a Rs (intR i)) (hb : XE X b Rs (intR j)) : XT X (.Compare a [.GtE] [b] pos) Rs (decide (j ≤ i)) := xt_cmp op_ge ox_I0 ha hb
theorem xt_eqI {i j : Int} (ha : XE X a Rs (intR i)) (hb : XE X b Rs (intR j)) : XT X (.Compare a [.Eq] [b] pos) Rs (decide (i = j)) := xt_cmp op_eq ox_eqI ha hb
theorem xt_neI {i j : Int} (ha : XE X a Rs (intR i)) (hb : XE X b Rs (intR j)) : XT X (.Compare a [.NotEq] [b] pos) Rs (!decide (i = j)) := xt_cmp op_ne ox_neI ha hb
theorem xt_eqS {i j : Str} (ha : XE X a Rs (strR i)) (hb : XE X b Rs (strR j)) : XT X (.Compare a [.Eq] [b] pos) Rs (decide (i = j)) := xt_cmp op_eq ox_eqS ha hb
end
/-! forgetting -/
section
variable {X : Cx} {b : List Stmt} {Rs Rs1 : Frm} {st : Stmt}
theorem Fr.forget {Hv H : Hp} {σ : St} {ow : Nat → Addr} (f : Fr Hv H σ Rs ow) (k : Nat) : Fr Hv H σ (Rs.set k .no) ow := by
  have back : ∀ {j : Nat} {e : Ent}, (Rs.set k .no)[j]? = some e → e = .no ∨ Rs[j]? = some e := fun {j e} h => by
    by_cases hk : k < Rs.length
    · rw [set_get hk] at h
      by_cases hj : k = j
      · rw [if_pos hj] at h
        exact .inl (Option.some.inj h).symm
      · rw [if_neg hj] at h
        exact .inr h
    · rw [List.set_eq_of_length_le (by omega)] at h
      exact .inr h
  refine ⟨f.sub, by rw [List.length_set]; exact f.len, fun i R e => ?_, fun i P e => ?_, fun i j P P' e1 e2 => ?_⟩
  · rcases back e with z | z
    · cases z
    · exact f.get i R z
  · rcases back e with z | z
    · cases z
    · exact f.own i P z
  · rcases back e1 with z | z
    · cases z
    · rcases back e2 with z2 | z2
      · cases z2
      · exact f.inj i j P P' z z2
theorem StS.forget {Hv H Hv' H' : Hp} {ow ow' : Nat → Addr} (s : StS Hv H Rs ow Hv' H' Rs1 ow') (k : Nat) : StS Hv H Rs ow Hv' H' (Rs1.set k .no) ow' := by
  have back : ∀ {j : Nat} {P : Own}, (Rs1.set k .no)[j]? = some (.own P) → Rs1[j]? = some (.own P) := fun {j P} h => by
    by_cases hk : k < Rs1.length
    · rw [set_get hk] at h
      by_cases hj : k = j
      · rw [if_pos hj] at h
        cases h
      · rw [if_neg hj] at h
        exact h
    · rw [List.set_eq_of_length_le (by omega)] at h
      exact h
  exact ⟨s.toStp, fun j P P' e e' => s.same j P P' e (back e'), fun j P' e => s.new j P' (back e)⟩
theorem ns_forget (k : Nat) (h : XNs X b Rs Rs1) : XNs X b Rs (Rs1.set k .no) := pss_imp h fun D σ H ⟨Hv, ow, f, q⟩ => ⟨Hv, ow, f, fun σ' Hv' H' ow' s f' => q σ' Hv' H' ow' (s.forget k) (f'.forget k)⟩
theorem n_forget (k : Nat) (h : XN X st Rs Rs1) : XN X st Rs (Rs1.set k .no) := ps_imp h fun D σ H ⟨Hv, ow, f, q⟩ => ⟨Hv, ow, f, fun σ' Hv' H' ow' s f' => q σ' Hv' H' ow' (s.forget k) (f'.forget k)⟩
/-- one statement as a block -/
theorem ns_one (h : XN X st Rs Rs1) (hp : ∀ (i : Nat) (P P2 : Own), Rs[i]? = some (Ent.own P) → Rs1[i]? = some (Ent.own P2) → ∃ P1, Rs1[i]? = some (Ent.own P1) := by intro i P P2 _ e; exact ⟨P2, e⟩) : XNs X [st] Rs Rs1 := n_cons h n_nil hp
end
section
variable {X : Cx} {e c a : Expr} {Rs : Frm} {p pos : Pos} {n : String} {k : Bool}
/-- a built-in type by its name -/
theorem x_ty {x : Str} (hm : X.mg x = none) (hv : bootBuiltins x = some (.type n)) (hg : Gl X x := by rfl) (hn : x ≠ "__name__" := by decide) (hd : (x == ("__debug__" : Str)) = false := by decide) : XE X (.Name x pos) Rs (eqR (.ty n)) := x_con (pe_bltn hg hm hv rfl hn hd)
/-- isinstance of a relation's values -/
theorem x_isi {R : Rel} {t : Value} (hR : ∀ Hv H v, Same Hv H → R.r Hv v → TyX X.K H v t) (h : XE X e Rs R) (hm : X.mg "isinstance" = none) (hc : XE X c Rs (eqR (.ty n))) (hk : PySem.W.kitOne X.K t (.type n) = some k) (hg : Gl X "isinstance" := by rfl)
    (h1 : starEach [e, c] X.env = (false, eval e X.env) :: starEach [c] X.env := by rfl) (h2 : starEach [c] X.env = [(false, eval c X.env)] := by rfl) (hpl : (backTo pos (starEach [c] X.env)).any (·.1) = false := by rfl) :
    XE X (.Call (.Name "isinstance" p) [e, c] [] pos) Rs (blR k) :=
  x_callB call_isi (As := [R, eqR (.ty n)]) (R := blR k) (fun Hv H vs Q s h q => by
    match vs, h with
    | [v, u], ⟨h1, h2, _⟩ =>
      have e2 : u = .ty n := h2
      subst e2
      exact ⟨v, .ty n, t, .type n, k, rfl, .ty n, hR Hv H v s h1, hk, q _ Hv H (.refl s) rfl⟩) hm (by decide +kernel) (xa_cons h (xa_cons hc xa_nil h2) h1) hg (by decide) (by decide) h1 hpl
theorem ty_tup {K : PySem.W.Frag} {ds : List PyData} : ∀ Hv H v, Same Hv H → (dR K (.tuple ds)).r Hv v → TyX K H v (.type "tuple") := fun Hv H v s h => by
  obtain ⟨a, xs, e, hs, _⟩ := dp_tup h
  subst e
  rcases same_t s hs with (h | ⟨o, h⟩) | ⟨o, its, n, h1, h2, _⟩
  · exact .base (.tup h)
  · exact .fTuple h
  · exact .kTuple h1 h2
theorem ty_int {K : PySem.W.Frag} {i : Int} : ∀ Hv H v, Same Hv H → (intR i).r Hv v → TyX K H v (.type "int") := fun Hv H v s h => by
  rw [show v = .int i from h]
  exact .base (.int i)
theorem ty_str {K : PySem.W.Frag} {i : Str} : ∀ Hv H v, Same Hv H → (strR i).r Hv v → TyX K H v (.type "str") := fun Hv H v s h => by
  rw [show v = .str i from h]
  exact .base (.str i)
end
/-! a hidden list's items -/
section
variable {X : Cx} {e ix a : Expr} {Rs : Frm} {p pos tpos px : Pos} {x : Str}
theorem ixN_nat {n k : Nat} (h : k < n) : ixN n (k : Int) = some k := by
  unfold ixN
  first
    | (rw [if_pos (by omega)]; simp; omega)
    | (simp; omega)
/-- xs[k] = e, xs hidden -/
theorem n_putIx (i k : Nat) {ds : List PyData} {d : PyData} (hi : Rs[i]? = some (.own (ownL X.K ds))) (hk : k < ds.length) (he : XE X e Rs (dR X.K d)) (hx : XE X ix Rs (intR k)) (hN : X.N[i]? = some x := by rfl) (hv : Vis X.env.scope x := by first | exact Or.inl rfl | exact Or.inr (Or.inl rfl) | exact Or.inr (Or.inr rfl)) (hd : (x == ("__debug__" : Str)) = false := by decide)
    (hcd : (x == ("__classdict__" : Str)) = false := by decide) (hs : swapsWithSole [.Subscript (.Name x px) ix tpos] e pos.line X.env = pure false := by rfl) (hw : swappedStores [.Subscript (.Name x px) ix tpos] e X.env = pure none := by rfl)
    (h1 : (assignEach [.Subscript (.Name x px) ix tpos] X.env).map (·.2) = [assign (.Subscript (.Name x px) ix tpos) X.env] := by rfl)
    (ha : ∀ v, assign (.Subscript (.Name x px) ix tpos) X.env v = (do
      let ov ← holding [v] (eval (.Name x px) X.env)
      let iv ← holding [v, ov] (eval ix X.env)
      standAt tpos
      holding [v, ov, iv] (setItem ov iv v)
      release [v, ov, iv] []) := by intro _; rfl) : XN X (.Assign [.Subscript (.Name x px) ix tpos] e pos) Rs (Rs.set i (.own (ownL X.K (ds.set k d)))) :=
  ps_imp (ps_asg he (pg_sub (pv i hN hv hd hcd) hx set_list ha) hs hw h1) fun D σ H ⟨Hv, ow, f, q⟩ => ⟨Hv, ow, f, fun v Hv1 H1 s1 f1 r1 => by
    obtain ⟨g1, _⟩ := f1.own i _ hi
    refine ⟨_, g1, Hv1, ow, f1, fun w Hv2 H2 s2 f2 r2 => ?_⟩
    obtain ⟨_, _, u, h3, xs, e, h5⟩ := f2.own i _ hi
    subst e
    refine ⟨ow i, xs, (k : Int), k, rfl, r2, h3, ?_, ?_⟩
    · exact ixN_nat (by rw [dpAll_length h5]; exact hk)
    · exact q σ Hv2 _ ow ((StS.of (s1.trans s2)).trans (sts_put f2 hi) fun j Q Q2 e _ => ⟨Q, e⟩) (f2.put hi ⟨_, rfl, dpAll_set h5 (dp_mono s2.sv _ _ r1)⟩)⟩
/-- xs[-1], xs hidden -/
theorem x_ownLast (i : Nat) {ds : List PyData} {d : PyData} (hi : Rs[i]? = some (.own (ownL X.K (ds ++ [d])))) (hx : XE X ix Rs (intR (-1))) (hN : X.N[i]? = some x := by rfl) (hv : Vis X.env.scope x := by first | exact Or.inl rfl | exact Or.inr (Or.inl rfl) | exact Or.inr (Or.inr rfl)) (hd : (x == ("__debug__" : Str)) = false := by decide)
    (hcd : (x == ("__classdict__" : Str)) = false := by decide) (hs : PlainIx ix := by exact fun _ _ => rfl) : XE X (.Subscript (.Name x px) ix pos) Rs (dR X.K d) :=
  pe_imp (pe_ix ix_list (pv i hN hv hd hcd) hx hs) fun σ H Q ⟨Hv, ow, f, q⟩ => by
    obtain ⟨g1, _⟩ := f.own i _ hi
    refine ⟨_, g1, Hv, ow, f, fun w Hv2 H2 s2 f2 r2 => ?_⟩
    obtain ⟨_, _, u, h3, xs, e, h5⟩ := f2.own i _ hi
    subst e
    obtain ⟨ws, v, e1, _, e2⟩ := dpAll_last h5
    subst e1
    exact ⟨ow i, _, -1, v, rfl, r2, .inl (.inl h3), atI_last ws v, q v Hv2 H2 s2 f2 e2⟩
end
/-! lists of ints by comprehension -/
theorem lcD_all {n : Nat} {f : Nat → PyData} : lcD n (fun _ => true) f = (List.range n).map f := by
  unfold lcD
  congr 1
  exact List.filter_eq_self.mpr fun _ _ => rfl
theorem lcD_int {n : Nat} {b : Nat → Bool} {f : Nat → PyData} (g : Nat → Int) (h : ∀ i, i < n → f i = .int (g i)) : lcD n b f = (((List.range n).filter b).map g).map .int := by
  unfold lcD
  rw [List.map_map]
  refine List.map_congr_left fun i hi => ?_
  exact h i (List.mem_range.mp (List.mem_filter.mp hi).1)
/-! frames with hidden objects at the same places -/
def soF : Frm → Frm → Prop
  | [], [] => True
  | .own _ :: a, .own _ :: b => soF a b
  | .no :: a, .no :: b => soF a b
  | .no :: a, .is _ :: b => soF a b
  | .is _ :: a, .no :: b => soF a b
  | .is _ :: a, .is _ :: b => soF a b
  | _, _ => False
theorem so : ∀ {a b : Frm}, soF a b → SameOwn a b
  | [], [], _ => .refl
  | .own P :: a, .own P' :: b, h => fun i => by
    cases i with
    | zero => exact ⟨fun _ => ⟨P', rfl⟩, fun _ => ⟨P, rfl⟩⟩
    | succ i => exact so (a := a) (b := b) h i
  | .no :: a, .no :: b, h => fun i => by
    cases i with
    | zero => exact ⟨fun ⟨_, e⟩ => (by cases e), fun ⟨_, e⟩ => (by cases e)⟩
    | succ i => exact so (a := a) (b := b) h i
  | .no :: a, .is _ :: b, h => fun i => by
    cases i with
    | zero => exact ⟨fun ⟨_, e⟩ => (by cases e), fun ⟨_, e⟩ => (by cases e)⟩
    | succ i => exact so (a := a) (b := b) h i
  | .is _ :: a, .no :: b, h => fun i => by
    cases i with
    | zero => exact ⟨fun ⟨_, e⟩ => (by cases e), fun ⟨_, e⟩ => (by cases e)⟩
    | succ i => exact so (a := a) (b := b) h i
  | .is _ :: a, .is _ :: b, h => fun i => by
    cases i with
    | zero => exact ⟨fun ⟨_, e⟩ => (by cases e), fun ⟨_, e⟩ => (by cases e)⟩
    | succ i => exact so (a := a) (b := b) h i
  | [], _ :: _, h => h.elim
  | .own _ :: _, [], h => h.elim
  | .no :: _, [], h => h.elim
  | .is _ :: _, [], h => h.elim
  | .own _ :: _, .no :: _, h => h.elim
  | .own _ :: _, .is _ :: _, h => h.elim
  | .no :: _, .own _ :: _, h => h.elim
  | .is _ :: _, .own _ :: _, h => h.elim
def noF : Frm → Prop
  | [] => True
  | .own _ :: _ => False
  | .no :: a => noF a
  | .is _ :: a => noF a
theorem nof : ∀ {a : Frm}, noF a → NoOwn a
  | [], _ => noOwn_nil
  | .no :: a, h => noOwn_no (nof (a := a) h)
  | .is _ :: a, h => noOwn_is (nof (a := a) h)
  | .own _ :: _, h => h.elim
theorem w1 {Rs : Frm} {k : Nat} (h : Rs[k]? = some Ent.no) : ∀ j ∈ [k], Rs[j]? = some Ent.no := fun j hj => by
  rw [List.mem_singleton.mp hj]
  exact h
theorem w2 {Rs : Frm} {k l : Nat} (h : Rs[k]? = some Ent.no) (h' : Rs[l]? = some Ent.no) : ∀ j ∈ [k, l], Rs[j]? = some Ent.no := fun j hj => by
  rcases List.mem_cons.mp hj with e | hj
  · rw [e]
    exact h
  · rw [List.mem_singleton.mp hj]
    exact h'
/-- steps of a block in order, hidden objects kept in their places -/
theorem nc {X : Cx} {st : Stmt} {rest : List Stmt} {Rs Rs1 Rs2 : Frm} (h : XN X st Rs Rs1) (hr : XNs X rest Rs1 Rs2) (hp : ∀ (i : Nat) (P : Own), Rs[i]? = some (Ent.own P) → ∃ P1, Rs1[i]? = some (Ent.own P1) := by intro i P e; exact ⟨_, e⟩) : XNs X (st :: rest) Rs Rs2 :=
  n_cons h hr fun i P P2 e _ => hp i P e
theorem ncF {X : Cx} {st : Stmt} {rest : List Stmt} {Rs Rs1 Rs2 : Frm} (hn : NoOwn Rs) (h : XN X st Rs Rs1) (hr : XNs X rest Rs1 Rs2) : XNs X (st :: rest) Rs Rs2 :=
  n_cons h hr fun i P P2 e _ => (hn i P e).elim
theorem ns_eq {X : Cx} {b : List Stmt} {Rs Rs1 Rs2 : Frm} (h : XNs X b Rs Rs1) (e : Rs1 = Rs2) : XNs X b Rs Rs2 := e ▸ h
theorem n_eq {X : Cx} {b : Stmt} {Rs Rs1 Rs2 : Frm} (h : XN X b Rs Rs1) (e : Rs1 = Rs2) : XN X b Rs Rs2 := e ▸ h
theorem frm_own {K : PySem.W.Frag} {ds es : List PyData} {a b : Frm} (e : ds = es) (e2 : a = b) : Ent.own (ownL K ds) :: a = Ent.own (ownL K es) :: b := by
  rw [e, e2]
theorem frm_c {x : Ent} {a b : Frm} (e : a = b) : x :: a = x :: b := by
  rw [e]
/-- range(n), range(a, b) by whole numbers -/
theorem xi_rg1 {X : Cx} {tg a : Expr} {Rs : Frm} {p pos : Pos} {n : Nat} (h : XE X a Rs (intR (n : Int))) (hm : X.mg "range" = none) (hn : n ≤ 100000) (hg : Gl X "range" := by rfl) (hs : starEach [a] X.env = [(false, eval a X.env)] := by rfl) : XI X tg (.Call (.Name "range" p) [a] [] pos) Rs n (fun i => intR (i : Nat)) := by
  have z := xi_range1 (tg := tg) (p := p) (pos := pos) (xa_cons h xa_nil hs) hm (by omega) (by omega) hg hs
  rw [Int.toNat_natCast] at z
  refine xi_weak z fun k hk H v q => ?_
  rw [show v = .int (0 + (k : Int)) from q, Int.zero_add]
  rfl
theorem xi_rg2 {X : Cx} {tg a b : Expr} {Rs : Frm} {p pos : Pos} {lo hi : Nat} (h1 : XE X a Rs (intR (lo : Int))) (h2 : XE X b Rs (intR (hi : Int))) (hm : X.mg "range" = none) (hn : lo ≤ 100000 ∧ hi ≤ 100000) (hg : Gl X "range" := by rfl) (hs : starEach [a, b] X.env = [(false, eval a X.env), (false, eval b X.env)] := by rfl) (hs2 : starEach [b] X.env = [(false, eval b X.env)] := by rfl) :
    XI X tg (.Call (.Name "range" p) [a, b] [] pos) Rs (hi - lo) (fun i => intR ((lo + i : Nat) : Int)) := by
  have z := xi_range2 (tg := tg) (p := p) (pos := pos) (xa_cons h1 (xa_cons h2 xa_nil hs2) (by rw [hs, hs2])) hm (by omega) hg hs hs2
  rw [show ((hi : Int) - (lo : Int)).toNat = hi - lo by omega] at z
  refine xi_weak z fun k hk H v q => ?_
  rw [show v = .int ((lo : Int) + (k : Int)) from q]
  show V.int _ = V.int _
  congr 1
/-- the hidden objects of a frame stand in the other one too -/
theorem own1 {a b : Frm} (h : soF a b) : ∀ (i : Nat) (P : Own), a[i]? = some (Ent.own P) → ∃ P1, b[i]? = some (Ent.own P1) := fun i P e => ((so h) i).mp ⟨P, e⟩
/-- a <= b <= c, as a test -/
theorem xt_lele {X : Cx} {a b c : Expr} {Rs : Frm} {pos : Pos} {i j l : Int} (ha : XE X a Rs (intR i)) (hb : XE X b Rs (intR j)) (hc : XE X c Rs (intR l)) (hm : lastMarks [CmpOp.LtE, CmpOp.LtE] [b, c] = false := by with_unfolding_all rfl) : XT X (.Compare a [.LtE, .LtE] [b, c] pos) Rs (decide (i ≤ j) && decide (j ≤ l)) := pt_imp (pt_chain op_le op_le ha hb hc hm) fun σ H Q ⟨Hv, ow, f, q⟩ =>
  ⟨Hv, ow, f, fun x Hv1 H1 s1 f1 r1 => ⟨Hv1, ow, f1, fun y Hv2 H2 s2 f2 r2 => ⟨i, j, r1, r2, decide (i ≤ j), rfl, by
    cases h : decide (i ≤ j) with
    | true =>
      rw [h] at q
      exact iteT ⟨Hv2, ow, f2, fun w Hv4 H4 s4 f4 r4 => ⟨j, l, r2, r4, _, rfl, q Hv4 H4 ((s1.trans s2).trans s4) f4⟩⟩
    | false =>
      rw [h] at q
      exact iteF ⟨_, rfl, q Hv2 H2 (s1.trans s2) f2⟩⟩⟩⟩
end Bo
set_option maxHeartbeats 4000000
/-! Dicts of flat values. -/
namespace Bo
open PySem L2
def dcR (kvs : List (Key × V)) : Rel := ⟨fun H v => ∃ a, v = .ref a ∧ H a = some (.dK kvs), fun s ⟨a, e, h⟩ => ⟨a, e, s _ _ h⟩⟩
def ownDc (kvs : List (Key × V)) : Own := ⟨fun _ o => o = .dK kvs, fun _ h => h⟩
/-- ints to ints -/
abbrev kI (t : List (Int × Int)) : List (Key × V) := t.map fun p => (Sum.inl p.1, .int p.2)
def getI (t : List (Int × Int)) (k : Int) : Option Int := (t.find? fun p => decide (p.1 = k)).map (·.2)
def putI (t : List (Int × Int)) (k v : Int) : List (Int × Int) := if (t.any fun p => decide (p.1 = k)) = true then t.map (fun p => if p.1 = k then (p.1, v) else p) else t ++ [(k, v)]
def dropI (t : List (Int × Int)) (k : Int) : List (Int × Int) := t.filter fun p => decide (p.1 ≠ k)
theorem valV_kI {t : List (Int × Int)} {k : Int} : valV (kI t) (Sum.inl k) = (getI t k).map .int := by
  unfold valV getI
  induction t with
  | nil => rfl
  | cons p t ih =>
    rw [show kI (p :: t) = (Sum.inl p.1, V.int p.2) :: kI t from rfl, List.find?_cons, List.find?_cons]
    by_cases h : p.1 = k
    · have h' : (Sum.inl p.1 : Key) = Sum.inl k := by rw [h]
      simp [h, h']
    · have h' : ¬ (Sum.inl p.1 : Key) = Sum.inl k := fun z => h (Sum.inl.inj z)
      simp only [h, h', decide_false]
      exact ih
theorem putK_kI {t : List (Int × Int)} {k v : Int} : putK (kI t) (Sum.inl k) (.int v) = kI (putI t k v) := by
  unfold putK putI
  have e : ((kI t).any fun kv => decide (kv.1 = Sum.inl k)) = (t.any fun p => decide (p.1 = k)) := by
    rw [List.any_map]
    congr 1
    funext p
    exact decide_eq_decide.mpr ⟨fun z => Sum.inl.inj z, fun z => congrArg Sum.inl z⟩
  rw [e]
  by_cases h : (t.any fun p => decide (p.1 = k)) = true
  · rw [if_pos h, if_pos h]
    simp only [List.map_map]
    refine List.map_congr_left fun p _ => ?_
    by_cases hp : p.1 = k
    · simp [hp]
    · have h' : ¬ (Sum.inl p.1 : Key) = Sum.inl k := fun z => hp (Sum.inl.inj z)
      simp [hp, h']
  · rw [if_neg h, if_neg h]
    simp
theorem dropK_kI {t : List (Int × Int)} {k : Int} : dropK (kI t) (Sum.inl k) = kI (dropI t k) := by
  unfold dropK dropI
  rw [List.filter_map]
  congr 1
  refine List.filter_congr fun p _ => ?_
  show decide ((Sum.inl p.1 : Key) ≠ Sum.inl k) = decide (p.1 ≠ k)
  exact decide_eq_decide.mpr ⟨fun z e => z (by rw [e]), fun z e => z (Sum.inl.inj e)⟩
section
variable {X : Cx} {e a b : Expr} {ks : List (Option Expr)} {vs : List Expr} {Rs : Frm} {pos : Pos}
/-- the pairs of a display -/
def XPs (X : Cx) (pos : Pos) (keys : List (Option Expr)) (values : List Expr) (Rs : Frm) (ps : List (V × V)) : Prop :=
  ∃ trs, PPs X pos keys values trs ∧ ∀ σ H Q, (∃ Hv ow, Fr Hv H σ Rs ow ∧ ∀ Hv' H', Stp Hv H Rs ow Hv' H' → Fr Hv' H' σ Rs ow → Q ps H') → tPairs trs σ H Q
theorem xps_nil : XPs X pos [] [] Rs [] := ⟨[], pps_nil, fun σ H Q ⟨Hv, ow, f, q⟩ => q Hv H .refl f⟩
theorem xps_cons {v w : V} {ps : List (V × V)} (ha : XE X a Rs (eqR v)) (hb : XE X b Rs (eqR w)) (hr : XPs X pos ks vs Rs ps) : XPs X pos (some a :: ks) (b :: vs) Rs ((v, w) :: ps) := by
  obtain ⟨trs, h1, h2⟩ := hr
  refine ⟨_ :: trs, pps_cons ha hb h1, fun σ H Q ⟨Hv, ow, f, q⟩ => ⟨Hv, ow, f, fun x Hv1 H1 s1 f1 r1 => ⟨Hv1, ow, f1, fun y Hv2 H2 s2 f2 r2 => h2 σ H2 _ ⟨Hv2, ow, f2, fun Hv3 H3 s3 f3 => ?_⟩⟩⟩⟩
  rw [show x = v from r1, show y = w from r2]
  exact q Hv3 H3 ((s1.trans s2).trans s3) f3
/-- {k: v, ..} -/
theorem o_disp {ps : List (V × V)} (kvs : List (Key × V)) (h : XPs X pos ks vs Rs ps) (hp : ps = kvs.map fun kv => (kV kv.1, kv.2)) (h15 : kvs.length ≤ 15) (hall : ks.all (·.isSome) = true := by rfl) (hl : ks.length = vs.length := by rfl) (h0 : ks ≠ [] := by exact fun z => by cases z)
    (h15' : ks.length ≤ 15 := by decide) : XO X (.Dict ks vs pos) Rs (ownDc (mergeK [] kvs)) := by
  obtain ⟨trs, h1, h2⟩ := h
  refine pe_imp (pe_disp h1 hall hl h0 h15') fun σ H Q ⟨Hv, ow, f, q⟩ p hn => h2 σ _ _ ?_
  have al : Al Hv H Hv (upd H p (.dK [])) := ⟨same_new hn, Same.refl _, f.sub.trans (same_new hn), fun _ _ e _ => e⟩
  refine ⟨Hv, ow, f.al al, fun Hv' H' s' f' => ?_⟩
  have no : ¬ Owned Rs ow p := fun ⟨j, P, e, z⟩ => f.free hn j P e z
  have hp' : H' p = some (.dK []) := s'.kp p _ upd_same no
  have vp : Hv' p = none := s'.hid p _ (f.sub.free hn) upd_same no
  refine ⟨hp', kvs, hp, h15, ?_⟩
  refine q p _ Hv' _ ⟨fun b o e n => ?_, s'.sv, fun b o e1 e2 n => s'.hid b o e1 (by rw [upd_ne (ne_of_none e2 hn)]; exact e2) n, fun b o e => ?_⟩ ⟨fun b o e => ?_, f'.len, f'.get, fun i P e => ?_, f'.inj⟩ hn vp upd_same rfl
  · have hb : b ≠ p := ne_of_none e hn
    rw [upd_ne hb]
    exact s'.kp b o (by rw [upd_ne hb]; exact e) n
  · have hb : b ≠ p := ne_of_none e hn
    rw [upd_ne hb]
    exact s'.th b o (by rw [upd_ne hb]; exact e)
  · rw [upd_ne (ne_of_none e vp)]
    exact f'.sub b o e
  · obtain ⟨g1, g2, u, g3, g4⟩ := f'.own i P e
    refine ⟨g1, g2, u, ?_, g4⟩
    rw [upd_ne (f.free hn i P e)]
    exact g3
theorem seen_dc {kvs : List (Key × V)} : SeenAs (ownDc kvs) (dcR kvs) := fun Hv p u _ e => ⟨p, rfl, by rw [upd_same]; exact congrArg some e⟩
theorem x_seen {P : Own} {R : Rel} (h : XO X e Rs P) (hs : SeenAs P R) : XE X e Rs R := pe_imp h fun σ H Q q => xo_rev hs q
/-- d[k] -/
theorem x_dget {kvs : List (Key × V)} {k : Key} {v : V} (hu : X.A.units + 1 < cLine) (ha : XE X a Rs (dcR kvs)) (hb : XE X b Rs (eqR (kV k))) (hv : valV kvs k = some v) (hs : NoSl b := by exact fun _ _ => rfl) : XE X (.Subscript a b pos) Rs (eqR v) :=
  pe_imp (pe_dget hu ha hb hs) fun σ H Q ⟨Hv, ow, f, q⟩ => ⟨Hv, ow, f, fun x Hv1 H1 s1 f1 ⟨d, e1, h1⟩ => ⟨Hv1, ow, f1, fun y Hv2 H2 s2 f2 r2 => by
    have g : DGet H2 d y (some v) := by
      rw [← hv, show y = kV k from r2]
      exact DGet.k (f2.sub _ _ (s2.sv _ _ h1))
    exact ⟨d, v, e1, g, q v Hv2 H2 (s1.trans s2) f2 rfl⟩⟩⟩
/-- k in d -/
theorem xt_din {kvs : List (Key × V)} {k : Key} (hu : X.A.units + 1 < cLine) (ha : XE X a Rs (eqR (kV k))) (hb : XE X b Rs (dcR kvs)) (hm : behindInMarks CmpOp.In b = false := by rfl) : XT X (.Compare a [.In] [b] pos) Rs (valV kvs k).isSome :=
  pt_imp (pt_cmp (pc_din hu ha hb) hm) fun σ H Q ⟨Hv, ow, f, q⟩ => ⟨Hv, ow, f, fun y Hv1 H1 s1 f1 r1 => ⟨Hv1, ow, f1, fun x Hv2 H2 s2 f2 ⟨d, e1, h1⟩ => ⟨d, valV kvs k, e1, by
    rw [show y = kV k from r1]
    exact DGet.k (f2.sub _ _ h1), _, rfl, q Hv2 H2 (s1.trans s2) f2⟩⟩⟩
end
end Bo
set_option maxHeartbeats 4000000
namespace Bo
open PySem L2
open PyProof.Rows (envOfC)
section
variable {P : Program} {w : World} {K : PySem.W.Frag} {mg : Str → Option Value} {base : Heap}
/-! is_integer -/
abbrev sIsInteger : Stmt := top 13
theorem scIsInteger : FnScope ["value"] ["value"] (C8.fnScope sIsInteger) := C8.fnScope_by (by decide +kernel)
theorem isi_int {X : Cx} {e : Expr} {Rs : Frm} {i : Int} {p pos : Pos} {n : String} {k : Bool} (h : XE X e Rs (intR i)) (hm : X.mg "isinstance" = none) {c : Expr} (hc : XE X c Rs (eqR (.ty n))) (hk : PySem.W.kitOne X.K (.type "int") (.type n) = some k) (hg : Gl X "isinstance" := by rfl)
    (h1 : starEach [e, c] X.env = (false, eval e X.env) :: starEach [c] X.env := by rfl) (h2 : starEach [c] X.env = [(false, eval c X.env)] := by rfl) (hpl : (backTo pos (starEach [c] X.env)).any (·.1) = false := by rfl) :
    XE X (.Call (.Name "isinstance" p) [e, c] [] pos) Rs (blR k) :=
  x_callB call_isi (As := [intR i, eqR (.ty n)]) (R := blR k) (fun Hv H vs Q s h q => by
    match vs, h with
    | [v, u], ⟨h1, h2, _⟩ =>
      have e1 : v = .int i := h1
      have e2 : u = .ty n := h2
      subst e1 e2
      exact ⟨.int i, .ty n, .type "int", .type n, k, rfl, .ty n, .base (.int i), hk, q _ Hv H (.refl s) rfl⟩) hm (by decide +kernel) (xa_cons h (xa_cons hc xa_nil h2) h1) hg (by decide) (by decide) h1 hpl
theorem c_is_integer (F : Df K mg "is_integer" sIsInteger) (B : Bt mg) : C8.Cal P w K mg base 1 "is_integer" (spF (fun _ => True) (fun i : Int => [intR i]) fun _ => blR true) [] :=
  pure_def F (fun _ _ _ _ _ _ us hl => match us, hl with | [_], _ => rfl) scIsInteger 0 rfl (fun _ => rfl) fun f i cdv A outer s H E _ hr =>
    b_ret (x_eB (x_andV (isi_int (n := "int") (k := true) (x_v 0) B.isi (x_con (pe_bltn (by rfl) B.int_ (by decide +kernel) rfl)) (kit_ty (by decide +kernel))) fun _ =>
      x_one (x_notV (k := false) (isi_int (n := "bool") (k := false) (x_v 0) B.isi (x_con (pe_bltn (by rfl) B.bool_ (by decide +kernel) rfl)) (kit_ty (by decide +kernel))))))
/-! is_between -/
abbrev sIsBetween : Stmt := top 14
theorem scIsBetween : FnScope ["value", "low", "high"] ["value", "low", "high"] (C8.fnScope sIsBetween) := C8.fnScope_by (by decide +kernel)
theorem c_is_between (F : Df K mg "is_between" sIsBetween) (c1 : C8.Cal P w K mg base 1 "is_integer" (spF (fun _ => True) (fun i : Int => [intR i]) fun _ => blR true) []) :
    C8.Cal P w K mg base 2 "is_between" (spF (fun _ => True) (fun a : Int × Int × Int => [intR a.1, intR a.2.1, intR a.2.2]) fun a => blR (decide (a.2.1 ≤ a.1 ∧ a.1 ≤ a.2.2))) [] :=
  pure_def F (fun _ _ _ _ _ _ us hl => match us, hl with | [_, _, _], _ => rfl) scIsBetween 0 rfl (fun _ => rfl) fun f a cdv A outer s H E _ hr =>
    b_ret (x_eB (x_andV (x_call c1 a.1 hr (Nat.le_refl _) trivial (xa_cons (x_v 0) xa_nil)) fun _ => x_one (x_lele (x_v 1) (x_v 0) (x_v 2))) (by
      rw [Bool.true_and, Bool.decide_and]))
end
end Bo
set_option maxHeartbeats 4000000
namespace Bo
open PySem L2
open PyProof.Rows (envOfC)
/-- what the module's own names hold -/
structure Md (K : PySem.W.Frag) (mg : Str → Option Value) : Prop extends Bt mg where
  mostL : ∃ t, mg "MOST_LETTER" = some (.int (10 ^ 18) t)
  mostP : ∃ t, mg "MOST_PLACES" = some (.int 60 t)
  kinds : ∃ a, mg "KINDS" = some (.ref a) ∧ ∀ H, SqT K H a [.str "first", .str "last", .str "ring"]
abbrev PB : Int × Int × Int → Prop := fun _ => True
abbrev spBetween : Sp := spF (fun _ => True) (fun a : Int × Int × Int => [intR a.1, intR a.2.1, intR a.2.2]) fun a => blR (decide (a.2.1 ≤ a.1 ∧ a.1 ≤ a.2.2))
section
variable {P : Program} {w : World} {K : PySem.W.Frag} {mg : Str → Option Value} {base : Heap}
/-! check_place -/
abbrev sCheckPlace : Stmt := top 15
theorem scCheckPlace : FnScope ["place", "many"] ["place", "many"] (C8.fnScope sCheckPlace) := C8.fnScope_by (by decide +kernel)
abbrev spCheckPlace : Sp := spF (fun a : Int × Int => 0 ≤ a.1 ∧ a.1 < a.2) (fun a => [intR a.1, intR a.2]) fun _ => nonR
theorem c_check_place (F : Df K mg "check_place" sCheckPlace) (c1 : C8.Cal P w K mg base 2 "is_between" spBetween []) : C8.Cal P w K mg base 3 "check_place" spCheckPlace [] :=
  pure_defN F (fun _ _ _ _ _ _ us hl => match us, hl with | [_, _], _ => rfl) scCheckPlace 0 rfl (fun _ => rfl) (fun a => fr0 [intR a.1, intR a.2] 0) (fun _ => noOwn_fr0) fun f a cdv A outer s H E hp hr =>
    n_cons (n_ifF (xt_is (xt_not (xt_val (x_call c1 (a.1, 0, a.2 - 1) hr (Nat.le_refl _) trivial (xa_cons (x_v 0) (xa_cons x_int (xa_cons (x_sub (x_v 1) x_int) xa_nil)))))) (by
      obtain ⟨h1, h2⟩ := hp
      simp only [Bool.not_eq_false', decide_eq_true_eq]
      omega))) n_nil fun i P P2 e => (noOwn_fr0 i P e).elim
/-! check_letters -/
abbrev sCheckLetters : Stmt := top 16
theorem scCheckLetters : FnScope ["letters"] ["letters"] (C8.fnScope sCheckLetters) := C8.fnScope_by (by decide +kernel)
abbrev spCheckLetters : Sp := spF (fun a : Int => 1 ≤ a ∧ a ≤ 10 ^ 18) (fun a => [intR a]) fun _ => nonR
theorem c_check_letters (F : Df K mg "check_letters" sCheckLetters) (M : Md K mg) (c1 : C8.Cal P w K mg base 2 "is_between" spBetween []) : C8.Cal P w K mg base 3 "check_letters" spCheckLetters [] :=
  pure_defN F (fun _ _ _ _ _ _ us hl => match us, hl with | [_], _ => rfl) scCheckLetters 0 rfl (fun _ => rfl) (fun a => fr0 [intR a] 0) (fun _ => noOwn_fr0) fun f a cdv A outer s H E hp hr => by
    obtain ⟨t, hm⟩ := M.mostL
    exact n_cons (n_ifF (xt_is (xt_not (xt_val (x_call c1 (a, 1, 10 ^ 18) hr (Nat.le_refl _) trivial (xa_cons (x_v 0) (xa_cons x_int (xa_cons (x_con (pe_glob rfl hm ⟨t, rfl⟩)) xa_nil)))))) (by
      obtain ⟨h1, h2⟩ := hp
      simp only [Bool.not_eq_false', decide_eq_true_eq]
      omega))) n_nil fun i P P2 e => (noOwn_fr0 i P e).elim
/-! check_kind -/
inductive Kd where
  | fst | lst | rng
  deriving DecidableEq
def Kd.s : Kd → Str
  | .fst => "first"
  | .lst => "last"
  | .rng => "ring"
abbrev sCheckKind : Stmt := top 19
theorem scCheckKind : FnScope ["kind"] ["kind"] (C8.fnScope sCheckKind) := C8.fnScope_by (by decide +kernel)
abbrev spCheckKind : Sp := spF (fun _ : Kd => True) (fun a => [strR a.s]) fun _ => nonR
theorem dpAll_strs {H : Hp} : ∀ {vs : List V} {ns : List Str}, DpAll K H vs (ns.map .str) → vs = ns.map .str
  | _, [], h => by cases h; rfl
  | _, n :: ns, h => by
    cases h with
    | cons h1 h2 =>
      cases h1
      rw [dpAll_strs h2] <;> rfl
theorem isi_str {X : Cx} {e : Expr} {Rs : Frm} {i : Str} {p pos : Pos} {n : String} {k : Bool} (h : XE X e Rs (strR i)) (hm : X.mg "isinstance" = none) {c : Expr} (hc : XE X c Rs (eqR (.ty n))) (hk : PySem.W.kitOne X.K (.type "str") (.type n) = some k) (hg : Gl X "isinstance" := by rfl)
    (h1 : starEach [e, c] X.env = (false, eval e X.env) :: starEach [c] X.env := by rfl) (h2 : starEach [c] X.env = [(false, eval c X.env)] := by rfl) (hpl : (backTo pos (starEach [c] X.env)).any (·.1) = false := by rfl) :
    XE X (.Call (.Name "isinstance" p) [e, c] [] pos) Rs (blR k) :=
  x_callB call_isi (As := [strR i, eqR (.ty n)]) (R := blR k) (fun Hv H vs Q s h q => by
    match vs, h with
    | [v, u], ⟨h1, h2, _⟩ =>
      have e1 : v = .str i := h1
      have e2 : u = .ty n := h2
      subst e1 e2
      exact ⟨.str i, .ty n, .type "str", .type n, k, rfl, .ty n, .base (.str i), hk, q _ Hv H (.refl s) rfl⟩) hm (by decide +kernel) (xa_cons h (xa_cons hc xa_nil h2) h1) hg (by decide) (by decide) h1 hpl
theorem x_globD {X : Cx} {x : Str} {a : Addr} {d : PyData} {Rs : Frm} {pos : Pos} (hm : X.mg x = some (.ref a)) (hd : ∀ H, Dp X.K H (.ref a) d) (hg : Gl X x := by rfl) (hdb : (x == ("__debug__" : Str)) = false := by decide) : XE X (.Name x pos) Rs (dR X.K d) :=
  x_weak (x_con (v := .ref a) (pe_glob hg hm rfl hdb)) fun H v q => by
    rw [show v = .ref a from q]
    exact hd H
theorem c_check_kind (F : Df K mg "check_kind" sCheckKind) (M : Md K mg) : C8.Cal P w K mg base 1 "check_kind" spCheckKind [] :=
  pure_defN F (fun _ _ _ _ _ _ us hl => match us, hl with | [_], _ => rfl) scCheckKind 0 rfl (fun _ => rfl) (fun a => fr0 [strR a.s] 0) (fun _ => noOwn_fr0) fun f a cdv A outer s H E hp hr => by
    obtain ⟨b, hm, hk⟩ := M.kinds
    exact n_cons (n_ifF (xt_is (xw_pt (xw_or (xt_not (xt_val (isi_str (n := "str") (k := true) (x_v 0) M.isi (x_con (pe_bltn (by rfl) M.str_ (by decide +kernel) rfl)) (kit_ty (by decide +kernel))))) fun _ =>
      xw_or1 (xt_cmp op_notIn_seq (ox_in (ds := [.str "first", .str "last", .str "ring"]) (vs := [.str "first", .str "last", .str "ring"]) (neg := true) (.inr rfl) (fun H ws h => dpAll_strs (ns := ["first", "last", "ring"]) h) rfl (by decide +kernel)) (x_v 0) (x_globD hm fun H => .tup (hk H) (.cons (.str _) (.cons (.str _) (.cons (.str _) .nil)))) (by rfl)))) (by
      cases a <;> decide +kernel))) n_nil fun i P P2 e => (noOwn_fr0 i P e).elim
end
end Bo
set_option maxHeartbeats 4000000
namespace Bo
open PySem L2
open PyProof.Rows (envOfC)
abbrev tupI (ns : List Int) : PyData := .tuple (ns.map .int)
abbrev lstI (ns : List Int) : PyData := .list (ns.map .int)
theorem nthD_int {ns : List Int} {i : Nat} (h : i < ns.length) : nthD (ns.map .int) i = .int (ns.getD i 0) := by
  refine nthD_of ?_
  rw [List.getElem?_map, List.getElem?_eq_getElem h, List.getD_eq_getElem?_getD, List.getElem?_eq_getElem h]
  rfl
theorem cutD_to {ds : List PyData} {n : Nat} : cutD 0 (some n) ds = ds.take n := by
  unfold cutD
  simp
theorem cutD_from {ds : List PyData} {n : Nat} : cutD n none ds = ds.drop n := by
  show (ds.drop n).take ds.length = ds.drop n
  exact List.take_of_length_le (by rw [List.length_drop]; omega)
/-- orders -/
def okPs (ps : List Int) : Bool := decide (1 ≤ ps.length ∧ ps.length ≤ 4) && (List.range ps.length).all fun i => decide (0 ≤ ps.getD i 0) && decide (ps.getD i 0 ≤ (ps.length : Int) - 1) && !decide (ps.getD i 0 ∈ ps.take i)
theorem okPs_len {ps : List Int} (h : okPs ps = true) : 1 ≤ ps.length ∧ ps.length ≤ 4 := by
  unfold okPs at h
  rw [Bool.and_eq_true] at h
  exact of_decide_eq_true h.1
theorem okPs_at {ps : List Int} (h : okPs ps = true) {i : Nat} (hi : i < ps.length) : 0 ≤ ps.getD i 0 ∧ ps.getD i 0 ≤ (ps.length : Int) - 1 ∧ ps.getD i 0 ∉ ps.take i := by
  unfold okPs at h
  rw [Bool.and_eq_true] at h
  have z := List.all_eq_true.mp h.2 i (List.mem_range.mpr hi)
  simp only [Bool.and_eq_true, Bool.not_eq_true', decide_eq_true_eq, decide_eq_false_iff_not] at z
  exact ⟨z.1.1, z.1.2, z.2⟩
section
variable {P : Program} {w : World} {K : PySem.W.Frag} {mg : Str → Option Value} {base : Heap}
/-! check_places -/
abbrev sCheckPlaces : Stmt := top 20
theorem scCheckPlaces : FnScope ["places", "at", "place"] ["places"] (C8.fnScope sCheckPlaces) := C8.fnScope_by (by decide +kernel)
abbrev spCheckPlaces (K : PySem.W.Frag) : Sp := spF (fun ps : List Int => okPs ps = true) (fun ps => [dR K (tupI ps)]) fun _ => nonR
theorem atoms_ok {α : Type} (f : α → PyData) (hf : ∀ a, (f a).canLay0 = true ∧ (f a).depth = 0) : ∀ xs : List α, PyData.canLayAll0 (xs.map f) = true ∧ PyData.depthAll (xs.map f) = 0
  | [] => ⟨rfl, rfl⟩
  | x :: xs => by
    obtain ⟨h1, h2⟩ := atoms_ok f hf xs
    obtain ⟨g1, g2⟩ := hf x
    constructor
    · show (PyData.canLay0 (f x) && PyData.canLayAll0 (xs.map f)) = true
      rw [g1, h1] <;> rfl
    · show max (PyData.depth (f x)) (PyData.depthAll (xs.map f)) = 0
      rw [g2, h2] <;> rfl
theorem shaped_tupI (ns : List Int) : SeqAt.shaped (tupI ns) = true := by
  obtain ⟨h1, h2⟩ := atoms_ok PyData.int (fun _ => ⟨rfl, rfl⟩) ns
  show (PyData.canLayAll0 (ns.map .int) && decide (PyData.depthAll (ns.map .int) + 1 ≤ 64)) = true
  rw [h1, h2] <;> rfl
theorem shaped_lstI (ns : List Int) : SeqAt.shaped (lstI ns) = true := by
  obtain ⟨h1, h2⟩ := atoms_ok PyData.int (fun _ => ⟨rfl, rfl⟩) ns
  show (PyData.canLayAll0 (ns.map .int) && decide (PyData.depthAll (ns.map .int) + 1 ≤ 64)) = true
  rw [h1, h2] <;> rfl
/-- enumerate over ints -/
theorem xi_enumI {X : Cx} {e : Expr} {Rs : Frm} {p pos tpos : Pos} {elts : List Expr} {kk : Nat} {ns : List Int} {d : PyData} (hd : SeqD d (ns.map .int)) (hm : X.mg "enumerate" = none) (h : XE X e Rs (dR X.K d)) (hg : Gl X "enumerate" := by rfl) (hs : starEach [e] X.env = [(false, eval e X.env)] := by rfl) :
    XI X (.Tuple elts kk tpos) (.Call (.Name "enumerate" p) [e] [] pos) Rs ns.length (fun i => tupsR X.K [intR (i : Nat), intR (ns.getD i 0)]) := by
  have z := xi_enum (elts := elts) (kk := kk) (tpos := tpos) (p := p) (pos := pos) hd hm h hg hs
  rw [List.length_map] at z
  refine xi_weak z fun k hk H v ⟨a, xs, e, h1, h2⟩ => ⟨a, xs, e, h1, ?_⟩
  match xs, h2 with
  | [u, w], ⟨g1, g2, _⟩ =>
    have g2' : Dp X.K H w (nthD (ns.map .int) k) := g2
    rw [nthD_int hk] at g2'
    exact ⟨g1, dp_int g2', trivial⟩
theorem c_check_places (F : Df K mg "check_places" sCheckPlaces) (M : Md K mg) (c1 : C8.Cal P w K mg base 2 "is_between" spBetween []) : C8.Cal P w K mg base 3 "check_places" (spCheckPlaces K) [] :=
  pure_defN F (fun _ _ _ _ _ _ us hl => match us, hl with | [_], _ => rfl) scCheckPlaces 2 rfl (fun _ => rfl) (fun a => fr0 [dR K (tupI a)] 2) (fun _ => noOwn_fr0) fun f a cdv A outer s H E hp hr => by
    obtain ⟨t, hmp⟩ := M.mostP
    have hl := okPs_len hp
    have nd := scCheckPlaces.nd
    refine n_cons (n_ifF (xt_is (xw_pt (xw_or (xt_not (xt_val (x_isi (n := "tuple") (k := true) ty_tup (x_v 0) M.isi (x_ty M.tuple_ (by decide +kernel)) (kit_ty (by decide +kernel))))) fun _ => xw_or1 (xt_cmp (op_eqD hr.units) (ox_eqD (shaped_tupI a) (shaped_tupI []) ) (x_v 0) (x_tup (ds := []) xa_nil)))) ?_)) (ns_one ?_) ?_
    · cases a with
      | nil => exact absurd hl.1 (by decide)
      | cons x xs => rfl
    · exact n_for (fun _ => fr0 [dR K (tupI a)] 2) (fun i => [.is (dR K (tupI a)), .is (intR (i : Nat)), .is (intR (a.getD i 0))]) (xi_enumI (.inr rfl) M.enum (x_v 0)) rfl rfl PassesOwn.never (fun _ _ => .refl) (fun i _ => noOwn_fr0.same (noOwn_is (noOwn_is (noOwn_is noOwn_nil))))
        (fun i hi => xg_tup rfl (xgs_cons (xg_name 1 nd) (xgs_cons (xg_name 2 nd) xgs_nil))) fun i hi => ns_forget 1 (ns_forget 2 (ns_one (n_ifF (xt_is (xw_pt (xw_or (xt_eqI (x_v 1) (x_con (v := .int 60) (pe_glob (by rfl) hmp ⟨t, rfl⟩))) fun _ =>
          xw_or (xt_not (xt_val (x_call c1 (a.getD i 0, 0, (a.length : Int) - 1) hr (Nat.le_refl _) trivial (xa_cons (x_v 2) (xa_cons x_int (xa_cons (x_eI (x_sub (x_lenT M.len (x_v 0)) x_int) (by simp)) xa_nil)))))) fun _ =>
          xw_or1 (xt_cmp op_in_seq (ox_inT (ns := a.take i)) (x_v 2) (x_eqd (x_slT (x_v 0) px_none (px_some (x_v 1)) (.inl ⟨rfl, rfl⟩) (hn := some i) rfl) (by rw [cutD_to, ← List.map_take]))))) (by
            obtain ⟨g1, g2, g3⟩ := okPs_at hp hi
            simp only [g3, decide_false, Bool.or_false, Bool.or_eq_false_iff, decide_eq_false_iff_not, Bool.not_eq_false', decide_eq_true_eq]
            omega)))))
    · exact fun i P P2 e => (noOwn_fr0 i P e).elim
end
end Bo
set_option maxHeartbeats 4000000
namespace Bo
open PySem L2
open PyProof.Rows (envOfC)
/-- the ranks, turn by turn -/
def rkL (ps : List Int) : Nat → List Int
  | 0 => List.replicate ps.length 0
  | i + 1 => (rkL ps i).set (ps.getD i 0).toNat i
def rk (ps : List Int) : List Int := rkL ps ps.length
theorem rkL_len {ps : List Int} : ∀ i, (rkL ps i).length = ps.length
  | 0 => List.length_replicate
  | i + 1 => by
    show ((rkL ps i).set _ _).length = _
    rw [List.length_set, rkL_len i]
theorem map_set {α β : Type} (f : α → β) : ∀ (xs : List α) (i : Nat) (a : α), (xs.set i a).map f = (xs.map f).set i (f a)
  | [], _, _ => rfl
  | _ :: _, 0, _ => rfl
  | x :: xs, i + 1, a => congrArg (f x :: ·) (map_set f xs i a)
/-- a walk over ints -/
theorem xi_tupI {X : Cx} {tg e : Expr} {Rs : Frm} {ns : List Int} (h : XE X e Rs (dR X.K (tupI ns))) : XI X tg e Rs ns.length (fun i => intR (ns.getD i 0)) := by
  have z := xi_tup (tg := tg) h
  rw [List.length_map] at z
  exact xi_weak z fun k hk H v q => by
    have q' : Dp X.K H v (nthD (ns.map .int) k) := q
    rw [nthD_int hk] at q'
    exact dp_int q'
theorem xi_lstI {X : Cx} {tg e : Expr} {Rs : Frm} {ns : List Int} (h : XE X e Rs (dR X.K (lstI ns))) : XI X tg e Rs ns.length (fun i => intR (ns.getD i 0)) := by
  have z := xi_list (tg := tg) h
  rw [List.length_map] at z
  exact xi_weak z fun k hk H v q => by
    have q' : Dp X.K H v (nthD (ns.map .int) k) := q
    rw [nthD_int hk] at q'
    exact dp_int q'
section
variable {P : Program} {w : World} {K : PySem.W.Frag} {mg : Str → Option Value} {base : Heap}
/-! ranks_of -/
abbrev sRanksOf : Stmt := top 21
theorem scRanksOf : FnScope ["places", "found", "at", "place"] ["places"] (C8.fnScope sRanksOf) := C8.fnScope_by (by decide +kernel)
abbrev spRanksOf (K : PySem.W.Frag) : Sp := spF (fun ps : List Int => okPs ps = true) (fun ps => [dR K (tupI ps)]) fun ps => dR K (lstI (rk ps))
theorem c_ranks_of (F : Df K mg "ranks_of" sRanksOf) (M : Md K mg) : C8.Cal P w K mg base 1 "ranks_of" (spRanksOf K) [] :=
  pure_def F (fun _ _ _ _ _ _ us hl => match us, hl with | [_], _ => rfl) scRanksOf 3 rfl (fun _ => rfl) fun f a cdv A outer s H E hp hr => by
    have hl := okPs_len hp
    have nd := scRanksOf.nd
    have e0 : lcD a.length (fun _ => true) (fun _ => .int 0) = (rkL a 0).map .int := by
      rw [lcD_all]
      show (List.range a.length).map _ = (List.replicate a.length (0 : Int)).map _
      rw [List.map_replicate, List.map_const', List.length_range]
    refine b_cons (n_setLcO 1 (fun _ => true) (fun _ => .int 0) (own := [("place", 3)]) (ks := [3]) (fun i => [.is (dR K (tupI a)), .no, .no, .is (intR (a.getD i 0))]) rfl nd (xi_tupI (x_v 0)) (blkOk_by (own := [("place", 3)]) (N := ["places", "found", "at", "place"]) (sc := C8.fnScope sRanksOf) (by decide +kernel)) (by omega) noOwn_fr0 (fun i _ => nof trivial) (w1 rfl) (by decide)
      (fun _ _ _ _ _ i hi => xg_name 3 nd) (fun _ _ _ _ _ i hi => ts_nil) (fun _ _ _ _ _ i hi _ => x_ofI x_int) (sw_true rfl rfl rfl (by decide +kernel)) (lt := by show 1 < 4; decide)) ?_
    rw [e0]
    refine b_cons (n_for (fun i => [.is (dR K (tupI a)), .own (ownL K ((rkL a i).map .int)), .no, .no]) (fun i => [.is (dR K (tupI a)), .own (ownL K ((rkL a i).map .int)), .is (intR (i : Nat)), .is (intR (a.getD i 0))]) (xi_enumI (.inr rfl) M.enum (x_v 0)) rfl rfl PassesOwn.never (fun i _ => so trivial) (fun i _ => so trivial)
        (fun i hi => xg_tup rfl (xgs_cons (xg_name 2 nd) (xgs_cons (xg_name 3 nd) xgs_nil))) fun i hi => ?_) ?_
    · have g := okPs_at hp hi
      refine ns_eq (ns_forget 2 (ns_forget 3 (ns_one (n_putIx 1 (a.getD i 0).toNat (d := .int (i : Nat)) rfl ?_ (x_ofI (x_v 2)) (x_eI (x_v 3) ?_))))) ?_
      · rw [List.length_map, rkL_len]
        omega
      · omega
      · exact frm_c (frm_own (map_set _ _ _ _).symm rfl)
    · exact reveal 1 rfl (b_ret (x_v 1))
end
end Bo
set_option maxHeartbeats 4000000
namespace Bo
open PySem L2
open PyProof.Rows (envOfC)
def nxE (rs : List Int) : Kd → Int
  | .fst => -1
  | .lst => rs.length
  | .rng => rs.getD 0 0
def nxR (rs : List Int) (p : Int) (k : Kd) : Int := if p + 1 < rs.length then rs.getD (p + 1).toNat 0 else nxE rs k
theorem getI_int {ns : List Int} {i : Nat} (h : i < ns.length) : (ns.map PyData.int)[i]? = some (.int (ns.getD i 0)) := by
  rw [List.getElem?_map, List.getElem?_eq_getElem h, List.getD_eq_getElem?_getD, List.getElem?_eq_getElem h]
  rfl
section
variable {P : Program} {w : World} {K : PySem.W.Frag} {mg : Str → Option Value} {base : Heap}
abbrev sNextRank : Stmt := top 22
theorem scNextRank : FnScope ["ranks", "place", "kind"] ["ranks", "place", "kind"] (C8.fnScope sNextRank) := C8.fnScope_by (by decide +kernel)
abbrev spNextRank (K : PySem.W.Frag) : Sp := spF (fun a : List Int × Int × Kd => 1 ≤ a.1.length ∧ a.1.length ≤ 4 ∧ 0 ≤ a.2.1) (fun a => [dR K (lstI a.1), intR a.2.1, strR a.2.2.s]) fun a => intR (nxR a.1 a.2.1 a.2.2)
theorem c_next_rank (F : Df K mg "next_rank" sNextRank) (M : Md K mg) : C8.Cal P w K mg base 1 "next_rank" (spNextRank K) [] :=
  pure_def F (fun _ _ _ _ _ _ us hl => match us, hl with | [_, _, _], _ => rfl) scNextRank 0 rfl (fun _ => rfl) fun f a cdv A outer s H E hp hr => by
    obtain ⟨rs, p, k⟩ := a
    have h1 : 1 ≤ rs.length := hp.1
    have h2 : rs.length ≤ 4 := hp.2.1
    have h3 : 0 ≤ p := hp.2.2
    have hu : (A.deeper (envOfC "next_rank" (C8.fnScope sNextRank) s.heap.objs.size f cdv)).units + 1 < cLine := by have := hr.units; omega
    show XRs _ _ (fr0 [dR K (lstI rs), intR p, strR k.s] 0) (intR (nxR rs p k))
    refine b_if (xt_lt (x_add (x_v 1) x_int) (x_lenL M.len (x_v 0))) (fun hk => b_ret ?_) fun hk => b_ret ?_
    · have hk' : p + 1 < rs.length := by simpa using hk
      have e : nxR rs p k = rs.getD (p + 1).toNat 0 := if_pos hk'
      show XE _ _ _ (intR (nxR rs p k))
      rw [e]
      exact x_toI (x_ixL (i := (p + 1).toNat) (x_v 0) (x_eI (x_add (x_v 1) x_int) (by omega)) (getI_int (by omega)))
    · have hk' : ¬ p + 1 < rs.length := by simpa using hk
      have e : nxR rs p k = nxE rs k := if_neg hk'
      show XE _ _ _ (intR (nxR rs p k))
      rw [e]
      refine x_dget (k := Sum.inr k.s) hu (x_seen (o_disp [(Sum.inr "first", .int (-1)), (Sum.inr "last", .int rs.length), (Sum.inr "ring", .int (rs.getD 0 0))] (xps_cons x_str (x_neg x_int) (xps_cons x_str (x_eI (x_lenL M.len (x_v 0)) (by simp)) (xps_cons x_str (x_toI (x_ixL (i := 0) (x_v 0) x_int (getI_int (by omega)))) xps_nil))) rfl (by show 3 ≤ 15; decide)) seen_dc) (x_v 2) ?_
      cases k <;> rfl
/-! rises_of -/
def afL (ps : List Int) (k : Kd) : List Int := (List.range ps.length).map fun i => nxR (rk ps) (ps.getD i 0) k
def riL (ps : List Int) (k : Kd) : List Int := ((List.range (ps.length - 1)).filter fun i => decide ((afL ps k).getD (i + 1) 0 < (afL ps k).getD i 0)).map fun i : Nat => (i : Int)
abbrev sRisesOf : Stmt := top 23
theorem scRisesOf : FnScope ["places", "kind", "ranks", "after", "place", "at"] ["places", "kind"] (C8.fnScope sRisesOf) := C8.fnScope_by (by decide +kernel)
abbrev spRisesOf (K : PySem.W.Frag) : Sp := spF (fun a : List Int × Kd => okPs a.1 = true) (fun a => [dR K (tupI a.1), strR a.2.s]) fun a => dR K (lstI (riL a.1 a.2))
theorem afL_len {ps : List Int} {k : Kd} : (afL ps k).length = ps.length := by
  unfold afL
  rw [List.length_map, List.length_range]
theorem c_rises_of (F : Df K mg "rises_of" sRisesOf) (M : Md K mg) (c1 : C8.Cal P w K mg base 1 "ranks_of" (spRanksOf K) []) (c2 : C8.Cal P w K mg base 1 "next_rank" (spNextRank K) []) : C8.Cal P w K mg base 2 "rises_of" (spRisesOf K) [] :=
  pure_def F (fun _ _ _ _ _ _ us hl => match us, hl with | [_, _], _ => rfl) scRisesOf 4 rfl (fun _ => rfl) fun f a cdv A outer s H E hp hr => by
    obtain ⟨ps, k⟩ := a
    replace hp : okPs ps = true := hp
    have hl := okPs_len hp
    have nd := scRisesOf.nd
    show XRs _ _ (fr0 [dR K (tupI ps), strR k.s] 4) (dR K (lstI (riL ps k)))
    have hrk : (rk ps).length = ps.length := rkL_len _
    refine b_cons (n_set 2 (x_call c1 ps hr (by decide) hp (xa_cons (x_v 0) xa_nil)) nd) ?_
    refine b_cons (n_set 3 (x_lcT (fun _ => true) (fun i => .int (nxR (rk ps) (ps.getD i 0) k)) (own := [("place", 4)]) (ks := [4]) (fun i => [.is (dR K (tupI ps)), .is (strR k.s), .is (dR K (lstI (rk ps))), .no, .is (intR (ps.getD i 0)), .no]) rfl nd (xi_tupI (x_v 0)) (blkOk_by (own := [("place", 4)]) (N := ["places", "kind", "ranks", "after", "place", "at"]) (sc := C8.fnScope sRisesOf) (by decide +kernel)) (by omega) (nof trivial) (fun i _ => nof trivial) (w1 rfl) (by decide)
      (fun _ _ _ _ _ i hi => xg_name 4 nd) (fun _ _ _ _ _ i hi => ts_nil) (fun _ _ _ _ _ i hi _ => x_ofI (x_call c2 (rk ps, ps.getD i 0, k) hr (by decide) ⟨by show 1 ≤ (rk ps).length; omega, by show (rk ps).length ≤ 4; omega, (okPs_at hp hi).1⟩ (xa_cons (x_v 2) (xa_cons (x_v 4) (xa_cons (x_v 1) xa_nil)))))) nd) ?_
    have e1 : lcD ps.length (fun _ => true) (fun i => .int (nxR (rk ps) (ps.getD i 0) k)) = (afL ps k).map .int := by
      rw [lcD_all]
      unfold afL
      rw [List.map_map]
      rfl
    rw [e1]
    have hal := @afL_len ps k
    refine b_ret (x_eqd (x_lc (n := ps.length - 1) (fun i => decide ((afL ps k).getD (i + 1) 0 < (afL ps k).getD i 0)) (fun i => .int (i : Int)) (own := [("at", 5)]) (ks := [5]) (fun i => [.is (dR K (tupI ps)), .is (strR k.s), .is (dR K (lstI (rk ps))), .is (tlR K ((afL ps k).map .int)), .no, .is (intR (i : Nat))]) rfl nd (xi_rg1 (x_eI (x_sub (x_lenT M.len (x_v 0)) x_int) (by simp; omega)) M.range_ (by omega)) (blkOk_by (own := [("at", 5)]) (N := ["places", "kind", "ranks", "after", "place", "at"]) (sc := C8.fnScope sRisesOf) (by decide +kernel)) (by omega) (nof trivial) (fun i _ => nof trivial) (w1 rfl) (by decide)
      (fun _ _ _ _ _ i hi => xg_name 5 nd) (fun _ _ _ _ _ i hi => ts_one (xt_gt (x_toI (x_ixL (i := i) (x_dt (x_v 3)) (x_eI (x_v 5) (by omega)) (getI_int (by omega)))) (x_toI (x_ixL (i := i + 1) (x_dt (x_v 3)) (x_eI (x_add (x_v 5) x_int) (by omega)) (getI_int (by omega)))))) (fun _ _ _ _ _ i hi _ => x_ofI (x_eI (x_v 5) (by omega)))) ?_)
    show PyData.list _ = PyData.list _
    congr 1
    exact lcD_int (fun i => (i : Int)) fun i _ => rfl
end
end Bo
set_option maxHeartbeats 4000000
/-! Instances: fields that are seen, hidden instances that a def changes; a hidden first parameter. -/
namespace Bo
open PySem L2
open PyProof.Rows (envOfC)
abbrev Flds := List (Str × Rel)
/-- the fields, name by name -/
def FldR (H : Hp) : List (Str × V) → Flds → Prop
  | [], [] => True
  | (f, v) :: r, (g, R) :: q => f = g ∧ R.r H v ∧ FldR H r q
  | _, _ => False
theorem FldR.mono {H H' : Hp} (s : Same H H') : ∀ {fv : List (Str × V)} {fs : Flds}, FldR H fv fs → FldR H' fv fs
  | [], [], _ => trivial
  | (f, v) :: r, (g, R) :: q, ⟨a, b, c⟩ => ⟨a, R.mono s b, FldR.mono (fv := r) (fs := q) s c⟩
  | [], _ :: _, h => h.elim
  | _ :: _, [], h => h.elim
theorem FldR.get {H : Hp} : ∀ {fv : List (Str × V)} {fs : Flds} {f : Str} {R : Rel}, FldR H fv fs → fs.lookup f = some R → ∃ v, fv.lookup f = some v ∧ R.r H v
  | [], [], _, _, _, e => by cases e
  | (f, v) :: r, (g, R) :: q, k, R', ⟨a, b, c⟩, e => by
    subst a
    rw [List.lookup_cons] at e ⊢
    by_cases h : k == f
    · rw [h] at e ⊢
      cases e
      exact ⟨v, rfl, b⟩
    · simp only [Bool.not_eq_true] at h
      rw [h] at e ⊢
      exact FldR.get (fv := r) (fs := q) c e
  | [], _ :: _, _, _, h, _ => h.elim
  | _ :: _, [], _, _, h, _ => h.elim
theorem FldR.none {H : Hp} : ∀ {fv : List (Str × V)} {fs : Flds} {f : Str}, FldR H fv fs → fs.lookup f = Option.none → fv.lookup f = Option.none
  | [], [], _, _, _ => rfl
  | (f, v) :: r, (g, R) :: q, k, ⟨a, b, c⟩, e => by
    subst a
    rw [List.lookup_cons] at e ⊢
    by_cases h : k == f
    · rw [h] at e
      cases e
    · simp only [Bool.not_eq_true] at h
      rw [h] at e ⊢
      exact FldR.none (fv := r) (fs := q) c e
  | [], _ :: _, _, h, _ => h.elim
  | _ :: _, [], _, h, _ => h.elim
theorem FldR.length {H : Hp} : ∀ {fv : List (Str × V)} {fs : Flds}, FldR H fv fs → fv.length = fs.length
  | [], [], _ => rfl
  | (f, v) :: r, (g, R) :: q, ⟨_, _, c⟩ => congrArg (· + 1) (FldR.length (fv := r) (fs := q) c)
  | [], _ :: _, h => h.elim
  | _ :: _, [], h => h.elim
def putR (f : Str) (R : Rel) : Flds → Flds
  | [] => [(f, R)]
  | (g, x) :: r => if g = f then (g, R) :: r else (g, x) :: putR f R r
theorem FldR.put {H : Hp} {f : Str} {R : Rel} {y : V} (hy : R.r H y) : ∀ {fv : List (Str × V)} {fs : Flds}, FldR H fv fs → FldR H (putF f y fv) (putR f R fs)
  | [], [], _ => ⟨rfl, hy, trivial⟩
  | (g, v) :: r, (k, S) :: q, ⟨a, b, c⟩ => by
    subst a
    show FldR H (if g = f then (g, y) :: r else (g, v) :: putF f y r) (if g = f then (g, R) :: q else (g, S) :: putR f R q)
    by_cases h : g = f
    · rw [if_pos h, if_pos h]
      exact ⟨rfl, hy, c⟩
    · rw [if_neg h, if_neg h]
      exact ⟨rfl, b, FldR.put hy (fv := r) (fs := q) c⟩
  | [], _ :: _, h => h.elim
  | _ :: _, [], h => h.elim
def insR (C : Addr) (fs : Flds) : Rel := ⟨fun H v => ∃ a dx fv, v = .ref a ∧ H a = some (.ins C dx fv) ∧ FldR H fv fs, fun s ⟨a, dx, fv, e, h1, h2⟩ => ⟨a, dx, fv, e, s _ _ h1, h2.mono s⟩⟩
def ownI (C : Addr) (fs : Flds) : Own := ⟨fun H o => ∃ dx fv, o = .ins C dx fv ∧ FldR H fv fs, fun s ⟨dx, fv, e, h⟩ => ⟨dx, fv, e, h.mono s⟩⟩
theorem seen_i {C : Addr} {fs : Flds} : SeenAs (ownI C fs) (insR C fs) := fun Hv p u hv ⟨dx, fv, e, h⟩ => ⟨p, dx, fv, rfl, by rw [upd_same, e], h.mono (same_new hv)⟩
section
variable {X : Cx} {e : Expr} {Rs : Frm} {pos apos px : Pos} {C : Addr} {fs : Flds} {f x : Str} {R : Rel}
theorem x_fld (c : Cls X.K C) (n : NoAttr X.K C f) (h : XE X e Rs (insR C fs)) (hf : fs.lookup f = some R) (hb : attributeBase e f X.env (eval e X.env) = eval e X.env := by rfl) : XE X (.Attribute e f pos) Rs R :=
  pe_imp (pe_fld h hb) fun σ H Q ⟨Hv, ow, fr, q⟩ => ⟨Hv, ow, fr, fun v Hv1 H1 s1 f1 ⟨a, dx, fv, ev, h1, h2⟩ => by
    obtain ⟨w, g1, g2⟩ := h2.get hf
    exact ⟨a, C, dx, fv, w, ev, f1.sub _ _ h1, c, n, g1, q w Hv1 H1 s1 f1 g2⟩⟩
theorem x_fldO (i : Nat) (c : Cls X.K C) (n : NoAttr X.K C f) (hi : Rs[i]? = some (.own (ownI C fs))) (hf : fs.lookup f = some R) (hN : X.N[i]? = some x := by rfl) (hv : Vis X.env.scope x := by first | exact Or.inl rfl | exact Or.inr (Or.inl rfl) | exact Or.inr (Or.inr rfl)) (hd : (x == ("__debug__" : Str)) = false := by decide)
    (hcd : (x == ("__classdict__" : Str)) = false := by decide) (hb : attributeBase (.Name x px) f X.env (eval (.Name x px) X.env) = eval (.Name x px) X.env := by rfl) : XE X (.Attribute (.Name x px) f pos) Rs R :=
  pe_imp (pe_fld (pv i hN hv hd hcd) hb) fun σ H Q ⟨Hv, ow, fr, q⟩ => by
    obtain ⟨h1, h2, u, h3, dx, fv, e, h5⟩ := fr.own i _ hi
    subst e
    obtain ⟨w, g1, g2⟩ := h5.get hf
    exact ⟨_, h1, _, C, dx, fv, w, rfl, h3, c, n, g1, q w Hv H .refl fr g2⟩
/-- self.f = e -/
theorem n_fldO (i : Nat) (c : Cls X.K C) (n : NoAttr X.K C f) (hi : Rs[i]? = some (.own (ownI C fs))) (he : XE X e Rs R) (hl : fs.length < 1000 := by decide) (hN : X.N[i]? = some x := by rfl) (hv : Vis X.env.scope x := by first | exact Or.inl rfl | exact Or.inr (Or.inl rfl) | exact Or.inr (Or.inr rfl)) (hd : (x == ("__debug__" : Str)) = false := by decide)
    (hcd : (x == ("__classdict__" : Str)) = false := by decide) (hs : swapsWith e (some (.Attribute (.Name x px) f apos)) pos.line X.env = pure false := by rfl) : XN X (.Assign [.Attribute (.Name x px) f apos] e pos) Rs (Rs.set i (.own (ownI C (putR f R fs)))) :=
  ps_imp (ps_fld (pv i hN hv hd hcd) he hs) fun D σ H ⟨Hv, ow, fr, q⟩ => ⟨Hv, ow, fr, fun v Hv1 H1 s1 f1 r1 => by
    obtain ⟨h1, h2, u, h3, dx, fv, e, h5⟩ := f1.own i _ hi
    subst e
    refine ⟨_, h1, _, C, dx, fv, rfl, h3, c, n, by rw [h5.length]; exact hl, ?_⟩
    exact q σ Hv1 _ ow ((StS.of s1).trans (sts_put f1 hi) fun j Q Q2 e _ => ⟨Q, e⟩) (f1.put hi ⟨dx, _, rfl, h5.put r1⟩)⟩
end
/-! attributes as targets -/
def gAtt (K : PySem.W.Frag) (to : TE) (f : Str) : TG := fun v σ H Q => to σ H fun x H1 => ∃ a C dx fs, x = .ref a ∧ H1 a = some (.ins C dx fs) ∧ Cls K C ∧ NoAttr K C f ∧ fs.length < 1000 ∧ Q σ (upd H1 a (.ins C dx (putF f v fs)))
theorem pg_att {X : Cx} {o : Expr} {f : Str} {to : TE} {pos : Pos} (ho : PE X o to) : PG X (.Attribute o f pos) (gAtt X.K to f) := by
  refine ⟨fun pins s σ H v u Q I r h => ?_⟩
  rw [assign_Attribute]
  refine wpAny_bind (wpAny_holding (thn (ho.run pins s σ H _ I h) fun ov s1 ⟨x, H1, I1, r1, a, C, dx, fs, ex, ea, c, n, l, q⟩ => ?_))
  subst ex
  obtain rfl : ov = Value.ref a := r1
  refine wpAny_bind (wpAny_standAt (wpAny_bind (wpAny_holding (setattr_ok I1 ea c n l r fun s2 I2 => wpAny_release ⟨σ, _, I2, q⟩))))
/-- self.f, self.g = x, y -/
theorem n_fld2O (i : Nat) {X : Cx} {e e2 : Expr} {Rs : Frm} {pos apos1 apos2 px1 px2 pt pt2 : Pos} {kt k2} {C : Addr} {fs : Flds} {f g x : Str} {R R2 : Rel} (hc : X.calm = true) (c : Cls X.K C) (n : NoAttr X.K C f) (n2 : NoAttr X.K C g) (hi : Rs[i]? = some (.own (ownI C fs))) (he : XE X e Rs R) (he2 : XE X e2 Rs R2) (hl : fs.length < 900 := by decide)
    (hN : X.N[i]? = some x := by rfl) (hv : Vis X.env.scope x := by first | exact Or.inl rfl | exact Or.inr (Or.inl rfl) | exact Or.inr (Or.inr rfl)) (hd : (x == ("__debug__" : Str)) = false := by decide) (hcd : (x == ("__classdict__" : Str)) = false := by decide)
    (hs : swapsWithSole [.Tuple [.Attribute (.Name x px1) f apos1, .Attribute (.Name x px2) g apos2] kt pt] (.Tuple [e, e2] k2 pt2) pos.line X.env = pure false := by rfl) (hw : swappedStores [.Tuple [.Attribute (.Name x px1) f apos1, .Attribute (.Name x px2) g apos2] kt pt] (.Tuple [e, e2] k2 pt2) X.env = pure none := by rfl)
    (h1 : (assignEach [.Tuple [.Attribute (.Name x px1) f apos1, .Attribute (.Name x px2) g apos2] kt pt] X.env).map (·.2) = [assign (.Tuple [.Attribute (.Name x px1) f apos1, .Attribute (.Name x px2) g apos2] kt pt) X.env] := by rfl)
    (ht : (assignEach [.Attribute (.Name x px1) f apos1, .Attribute (.Name x px2) g apos2] X.env).map (·.2) = assign (.Attribute (.Name x px1) f apos1) X.env :: (assignEach [.Attribute (.Name x px2) g apos2] X.env).map (·.2) := by rfl)
    (ht2 : (assignEach [.Attribute (.Name x px2) g apos2] X.env).map (·.2) = [assign (.Attribute (.Name x px2) g apos2) X.env] := by rfl)
    (hn : (assignEach [.Attribute (.Name x px1) f apos1, .Attribute (.Name x px2) g apos2] X.env).length = 2 := by rfl) (hst : (assignEach [.Attribute (.Name x px1) f apos1, .Attribute (.Name x px2) g apos2] X.env).findIdx? (·.1) = none := by rfl)
    (se : starEach [e, e2] X.env = (false, eval e X.env) :: starEach [e2] X.env := by rfl) (se2 : starEach [e2] X.env = [(false, eval e2 X.env)] := by rfl) :
    XN X (.Assign [.Tuple [.Attribute (.Name x px1) f apos1, .Attribute (.Name x px2) g apos2] kt pt] (.Tuple [e, e2] k2 pt2) pos) Rs (Rs.set i (.own (ownI C (putR g R2 (putR f R fs))))) :=
  ps_imp (ps_asg (pe_tup (xa_cons he (xa_cons he2 xa_nil se2) se)) (pg_tup hc (pgs_cons (pg_att (pv i hN hv hd hcd)) (pgs_cons (pg_att (pv i hN hv hd hcd)) pgs_nil ht2) ht) hn hst) hs hw h1) fun D σ H ⟨Hv, ow, fr, q⟩ => ⟨Hv, ow, fr, fun vs Hv1 H1 s1 f1 r1 => by
    match vs, r1 with
    | [v, w], ⟨r1, r2, _⟩ =>
      refine ⟨by show 2 ≤ sizeLine; decide, fun p hp => ?_⟩
      have al := Al.new (o := .tup [v, w]) f1.sub hp
      have f2 := f1.al al
      obtain ⟨h1, h2, u, h3, dx, fv, e, h5⟩ := f2.own i _ hi
      subst e
      have hl0 := h5.length
      have hl1 := length_putF f v fv
      refine ⟨p, _, rfl, .inl (.inl upd_same), rfl, v, [w], rfl, _, h1, _, C, dx, fv, rfl, h3, c, n, by omega, w, [], rfl, _, h1, _, C, dx, putF f v fv, rfl, upd_same, c, n2, by omega, rfl, ?_⟩
      rw [upd_upd]
      exact q σ _ _ ow ((StS.of (s1.trans al.stp)).trans (sts_put f2 hi) fun j Q Q2 e _ => ⟨Q, e⟩) (f2.put hi ⟨dx, _, rfl, (h5.put (R.mono al.sv r1)).put (R2.mono al.sv r2)⟩)⟩
end Bo
set_option maxHeartbeats 4000000
/-! Defs with hidden parameters, expressions that change the frame. -/
namespace Bo
open PySem L2
open PyProof.Rows (envOfC)
/-! ### expressions that change hidden objects -/
def tXF (Rs Rs' : Frm) (R : Rel) : TE := fun σ H Q => ∃ Hv ow, Fr Hv H σ Rs ow ∧ ∀ v Hv' H', Stp Hv H Rs ow Hv' H' → Fr Hv' H' σ Rs' ow → R.r Hv' v → Q v H'
def tXTF (Rs Rs' : Frm) (b : Bool) : TT := fun σ H Q => ∃ Hv ow, Fr Hv H σ Rs ow ∧ ∀ Hv' H', Stp Hv H Rs ow Hv' H' → Fr Hv' H' σ Rs' ow → Q b H'
abbrev XF (X : Cx) (e : Expr) (Rs Rs' : Frm) (R : Rel) : Prop := PE X e (tXF Rs Rs' R)
abbrev XTF (X : Cx) (e : Expr) (Rs Rs' : Frm) (b : Bool) : Prop := PT X e (tXTF Rs Rs' b)
abbrev XWF (X : Cx) (e : Expr) (Rs Rs' : Frm) (b : Bool) : Prop := PW X e (tXTF Rs Rs' b)
theorem Stp.same {Hv H Hv' H' : Hp} {Rs Rs' : Frm} {ow : Nat → Addr} (h : SameOwn Rs Rs') (s : Stp Hv H Rs' ow Hv' H') : Stp Hv H Rs ow Hv' H' :=
  have e : ∀ {b}, Owned Rs' ow b → Owned Rs ow b := fun {b} ⟨i, P, e, z⟩ => by
    obtain ⟨P', e'⟩ := (h i).mpr ⟨P, e⟩
    exact ⟨i, P', e', z⟩
  ⟨fun b o e1 n => s.kp b o e1 fun z => n (e z), s.sv, fun b o e1 e2 n => s.hid b o e1 e2 fun z => n (e z), s.th⟩
section
variable {X : Cx} {e a b : Expr} {Rs Rs' Rs'' : Frm} {R : Rel} {pos : Pos} {k k' : Bool}
theorem xf_of (h : XE X e Rs R) : XF X e Rs Rs R := h
theorem xf_eq (h : XF X e Rs Rs' R) (q : Rs' = Rs'') : XF X e Rs Rs'' R := q ▸ h
theorem xtf_not (h : XTF X a Rs Rs' k) : XTF X (.UnaryOp .Not a pos) Rs Rs' (!k) := pt_imp (pt_not h) fun σ H Q ⟨Hv, ow, f, q⟩ => ⟨Hv, ow, f, fun Hv' H' s f' => q Hv' H' s f'⟩
theorem xtf_val (h : XF X e Rs Rs' (blR k)) (he : ∀ whole, isTrue e X.env whole = (do let v ← whole; standAt e.pos; holding [v] (truthy v)) := by intro _; rfl) : XTF X e Rs Rs' k :=
  pt_imp (pt_val h he) fun σ H Q ⟨Hv, ow, f, q⟩ => ⟨Hv, ow, f, fun v Hv' H' s f' r => ⟨k, r, q Hv' H' s f'⟩⟩
theorem xtf_is (h : XTF X a Rs Rs' k) (e : k = k') : XTF X a Rs Rs' k' := e ▸ h
theorem xwf_or1 (h : XTF X a Rs Rs' k) : XWF X (.BoolOp .Or [a] pos) Rs Rs' k := pw_or1 h
theorem xwf_or {rest : List Expr} (ho : SameOwn Rs Rs') (h : XTF X a Rs Rs' false) (h2 : XWF X (.BoolOp .Or (b :: rest) pos) Rs' Rs'' k) : XWF X (.BoolOp .Or (a :: b :: rest) pos) Rs Rs'' k :=
  pw_imp (pw_or h h2) fun σ H Q ⟨Hv, ow, f, q⟩ => ⟨Hv, ow, f, fun Hv1 H1 s1 f1 => ⟨Hv1, ow, f1, fun Hv2 H2 s2 f2 => q Hv2 H2 (s1.trans (s2.same ho)) f2⟩⟩
theorem xwf_pt (h : XWF X e Rs Rs' k) : XTF X e Rs Rs' k := PW.pt h
theorem sts_same {Hv H Hv' H' : Hp} {ow : Nat → Addr} (ho : SameOwn Rs Rs') (s : Stp Hv H Rs ow Hv' H') : StS Hv H Rs ow Hv' H' Rs' ow := ⟨s, fun _ _ _ _ _ => rfl, fun j P e => .inl ((ho j).mpr ⟨P, e⟩)⟩
theorem n_exprF (ho : SameOwn Rs Rs') (h : XF X e Rs Rs' R) (hs : swapsWith e none pos.line X.env = pure false := by rfl) : XN X (.Expr e pos) Rs Rs' := ps_imp (ps_expr h hs) fun D σ H ⟨Hv, ow, f, q⟩ =>
  ⟨Hv, ow, f, fun v Hv' H' s f' r => q σ Hv' H' ow (sts_same ho s) f'⟩
/-- if c: .. whose test is False and changes hidden objects -/
theorem n_ifFF {st : List Stmt} (ho : SameOwn Rs Rs') (h : XTF X e Rs Rs' false) : XN X (.If e st [] pos) Rs Rs' :=
  ps_imp (ps_if h pss_never pss_nil) fun D σ H ⟨Hv, ow, f, q⟩ => ⟨Hv, ow, f, fun Hv1 H1 s1 f1 => iteF (q σ Hv1 H1 ow (sts_same ho s1) f1)⟩
end
/-! ### the promise of a def with hidden parameters -/
def spE {α : Type} (pre : α → Prop) (As : α → Frm) (Os : α → List (Nat × Own)) (R : α → Rel) : Sp := fun vs H Q _ => ∃ (a : α) (Hv : Hp) (ow : Nat → Addr), pre a ∧ Fr Hv H (vs.map some) (As a) ow ∧
  ∀ z Hv' H', Stp Hv H (As a) ow Hv' H' → Same Hv' H' → (∀ p ∈ Os a, Hv' (ow p.1) = none ∧ ∃ u, H' (ow p.1) = some u ∧ p.2.p Hv' u) → (R a).r Hv' z → Q z H'
theorem ent_app {As : Frm} {m i : Nat} {e : Ent} (h : (As ++ List.replicate m Ent.no)[i]? = some e) (hn : e ≠ .no) : As[i]? = some e := by
  by_cases hi : i < As.length
  · rw [List.getElem?_append_left hi] at h
    exact h
  · rw [List.getElem?_append_right (by omega), List.getElem?_replicate] at h
    split at h
    · exact (hn (Option.some.inj h).symm).elim
    · cases h
theorem ent_left {As : Frm} {m i : Nat} {e : Ent} (h : As[i]? = some e) : (As ++ List.replicate m Ent.no)[i]? = some e := by
  rw [List.getElem?_append_left (List.getElem?_eq_some_iff.mp h).1]
  exact h
theorem fr_startE {Hv H : Hp} {N : List Str} {vs : List V} {As : Frm} {ow : Nat → Addr} (f : Fr Hv H (vs.map some) As ow) (hl : vs.length ≤ N.length) : Fr Hv H (L2.start N vs) (As ++ List.replicate (N.length - vs.length) .no) ow := by
  have e : vs.length = As.length := by have := f.len; simpa using this
  refine ⟨f.sub, ?_, fun i R q => ?_, fun i P q => ?_, fun i j P P' q q' => f.inj i j P P' (ent_app q (fun z => by cases z)) (ent_app q' (fun z => by cases z))⟩
  · show (vs.map some ++ List.replicate (N.length - vs.length) none).length = (As ++ List.replicate (N.length - vs.length) Ent.no).length
    simp [e]
  · obtain ⟨v, h1, h2⟩ := f.get i R (ent_app q (fun z => by cases z))
    refine ⟨v, ?_, h2⟩
    show (vs.map some ++ List.replicate (N.length - vs.length) none)[i]? = some (some v)
    rw [List.getElem?_append_left (List.getElem?_eq_some_iff.mp h1).1]
    exact h1
  · obtain ⟨h1, h2⟩ := f.own i P (ent_app q (fun z => by cases z))
    refine ⟨?_, h2⟩
    show (vs.map some ++ List.replicate (N.length - vs.length) none)[i]? = some (some _)
    rw [List.getElem?_append_left (List.getElem?_eq_some_iff.mp h1).1]
    exact h1
theorem stp_app {Hv H Hv' H' : Hp} {As : Frm} {m : Nat} {ow : Nat → Addr} (s : Stp Hv H (As ++ List.replicate m Ent.no) ow Hv' H') : Stp Hv H As ow Hv' H' :=
  have e : ∀ {b}, Owned (As ++ List.replicate m Ent.no) ow b → Owned As ow b := fun {b} ⟨i, P, e, z⟩ => ⟨i, P, ent_app e (fun z => by cases z), z⟩
  ⟨fun b o e1 n => s.kp b o e1 fun z => n (e z), s.sv, fun b o e1 e2 n => s.hid b o e1 e2 fun z => n (e z), s.th⟩
section
variable {P : Program} {w : World} {K : PySem.W.Frag} {mg : Str → Option Value} {base : Heap} {x : Str} {st : Stmt} {N ps : List Str} {k : Nat} {α : Type} {pre : α → Prop} {As : α → Frm} {Os : α → List (Nat × Own)} {R : α → Rel}
theorem own_def (F : Df K mg x st) (hb : ∀ (kV doc pm : Value) (an : Option Addr) (cdv ct : Value) (us : List Value), us.length = ps.length → bindArgs (PySem.W.fnOf x x (C8.fnArgs st) (C8.fnBody st) (C8.fnScope st) .none kV doc pm an cdv ct) ⟨us, []⟩ = pure (ps.zip us))
    (S : FnScope N ps (C8.fnScope st)) (m : Nat) (hm : N.length = ps.length + m) (hl : ∀ a, (As a).length = ps.length)
    (body : ∀ (f : Addr) (a : α) (cdv : Value) (A : Around) (outer : List Env) (s : Shared) (H : Hp) (E : XK), pre a → Room k (A.deeper (envOfC x (C8.fnScope st) s.heap.objs.size f cdv)) → PSs (BX P w K mg base N x (C8.fnScope st) f cdv A outer s H E) (C8.fnBody st) (tXR (Os a) (As a ++ List.replicate m .no) (R a))) :
    C8.Cal P w K mg base (k + 1) x (spE pre As Os R) [] := by
  obtain ⟨f, fd, D, hd⟩ := F
  have len : ∀ vs H Q E, spE pre As Os R vs H Q E → vs.length = ps.length := fun vs H Q E ⟨a, Hv, ow, hp, fr, q⟩ => by
    have e := fr.len
    rw [List.length_map] at e
    exact e.trans (hl a)
  refine C8.cal0 D (D.fn.binds hd hb) .nil S len fun cdv A outer s H vs Q E hr h => ?_
  have e1 := len vs H Q E h
  obtain ⟨a, Hv, ow, hp, fr, q⟩ := h
  refine ⟨_, body f a cdv A outer s H E hp hr, Hv, ow, ?_, fun v Hv' H' s' sub o r => q v Hv' H' (stp_app s') sub o r⟩
  have z := fr_startE (N := N) fr (by omega)
  rw [show N.length - vs.length = m by omega] at z
  exact z
end
/-! ### calls -/
section
variable {X : Cx} {e : Expr} {es : List Expr} {Rs : Frm} {R' : Rel} {pos p px : Pos} {x y : Str} {k j : Nat} {α : Type} {pre : α → Prop} {P1 P2 : α → Own} {As : α → List Rel} {R : α → Rel}
/-- a frame of arguments: the first is hidden -/
abbrev arg1 (P : Own) (As : List Rel) : Frm := .own P :: As.map Ent.is
theorem arg1_own {P : Own} {As : List Rel} {i : Nat} {Q : Own} (h : (arg1 P As)[i]? = some (.own Q)) : i = 0 ∧ Q = P := by
  cases i with
  | zero => cases h; exact ⟨rfl, rfl⟩
  | succ i =>
    have h' : (As.map Ent.is)[i]? = some (.own Q) := h
    rw [List.getElem?_map] at h'
    cases q : As[i]? with
    | none => rw [q] at h'; cases h'
    | some R => rw [q] at h'; cases h'
theorem fr_arg1 {Hv H : Hp} {vs : List V} {P : Own} {As : List Rel} {a : Addr} {u : HO} (s : Same Hv H) (h : AllR Hv vs As) (h1 : Hv a = none) (h2 : H a = some u) (h3 : P.p Hv u) : Fr Hv H ((V.ref a :: vs).map some) (arg1 P As) (fun _ => a) := by
  refine ⟨s, by simp [h.length], fun i R e => ?_, fun i Q e => ?_, fun i j Q Q' e e' _ => by rw [(arg1_own e).1, (arg1_own e').1]⟩
  · cases i with
    | zero => cases e
    | succ i =>
      have e' : (As.map Ent.is)[i]? = some (.is R) := e
      rw [List.getElem?_map] at e'
      cases q : As[i]? with
      | none => rw [q] at e'; cases e'
      | some R2 =>
        rw [q] at e'
        cases e'
        obtain ⟨v, g1, g2⟩ := allR_get h q
        refine ⟨v, ?_, g2⟩
        show (vs.map some)[i]? = some (some v)
        rw [List.getElem?_map, g1]
        rfl
  · obtain ⟨e1, e2⟩ := arg1_own e
    subst e1 e2
    exact ⟨rfl, h1, u, h2, h3⟩
theorem stp_arg1 {Hv H Hv' H' : Hp} {P : Own} {Ps : List Rel} {i : Nat} {Q : Own} {ow : Nat → Addr} (hi : Rs[i]? = some (.own Q)) (s : Stp Hv H (arg1 P Ps) (fun _ => ow i) Hv' H') : Stp Hv H Rs ow Hv' H' :=
  have e : ∀ {b}, Owned (arg1 P Ps) (fun _ => ow i) b → Owned Rs ow b := fun {b} ⟨j, Q', e, z⟩ => ⟨i, Q, hi, z⟩
  ⟨fun b o e1 n => s.kp b o e1 fun z => n (e z), s.sv, fun b o e1 e2 n => s.hid b o e1 e2 fun z => n (e z), s.th⟩
/-- behind a step that changed but the hidden object of slot i -/
theorem Fr.after {Hv H Hv' H' : Hp} {σ : St} {ow : Nat → Addr} {i : Nat} {P Q : Own} {Ps : List Rel} {Po : Own} {u : HO} (f : Fr Hv H σ Rs ow) (hi : Rs[i]? = some (.own Q)) (s : Stp Hv H (arg1 P Ps) (fun _ => ow i) Hv' H') (sub : Same Hv' H') (h1 : Hv' (ow i) = none) (h2 : H' (ow i) = some u) (h3 : Po.p Hv' u) :
    Fr Hv' H' σ (Rs.set i (.own Po)) ow := by
  have lt := ent_lt hi
  have no : ∀ {j : Nat} {P' : Own}, Rs[j]? = some (.own P') → i ≠ j → ¬ Owned (arg1 P Ps) (fun _ => ow i) (ow j) := fun {j P'} e hj ⟨k, _, _, z⟩ => hj (f.inj i j Q P' hi e z)
  refine ⟨sub, by rw [List.length_set]; exact f.len, fun j R e => ?_, fun j P' e => ?_, fun j k P' P'' e1 e2 => ?_⟩
  · rw [set_get lt] at e
    by_cases hj : i = j
    · rw [if_pos hj] at e
      cases e
    · rw [if_neg hj] at e
      obtain ⟨v, g1, g2⟩ := f.get j R e
      exact ⟨v, g1, R.mono s.sv g2⟩
  · rw [set_get lt] at e
    by_cases hj : i = j
    · rw [if_pos hj] at e
      subst hj
      cases e
      exact ⟨(f.own i Q hi).1, h1, u, h2, h3⟩
    · rw [if_neg hj] at e
      obtain ⟨g1, g2, u', g3, g4⟩ := f.own j P' e
      exact ⟨g1, s.hid _ _ g2 g3 (no e hj), u', s.kp _ _ g3 (no e hj), P'.mono s.sv g4⟩
  · have back : ∀ {j : Nat} {Q' : Own}, (Rs.set i (.own Po))[j]? = some (.own Q') → ∃ Q0, Rs[j]? = some (.own Q0) := fun {j Q'} e => by
      rw [set_get lt] at e
      by_cases hj : i = j
      · subst hj
        exact ⟨Q, hi⟩
      · rw [if_neg hj] at e
        exact ⟨Q', e⟩
    obtain ⟨Q0, e1⟩ := back e1
    obtain ⟨Q1, e2⟩ := back e2
    exact f.inj j k Q0 Q1 e1 e2
theorem x_call1 (i : Nat) (c : C8.Cal X.prog X.w X.K X.mg X.base k x (spE pre (fun a => arg1 (P1 a) (As a)) (fun a => [(0, P2 a)]) R) []) (a : α) (hi : Rs[i]? = some (.own (P1 a))) (hr : Room j X.A) (hk : k ≤ j) (hp : pre a) (ha : XA X es Rs (As a)) (hg : Gl X x := by rfl) (hN : X.N[i]? = some y := by rfl)
    (hv : Vis X.env.scope y := by first | exact Or.inl rfl | exact Or.inr (Or.inl rfl) | exact Or.inr (Or.inr rfl)) (hd : (y == ("__debug__" : Str)) = false := by decide) (hcd : (y == ("__classdict__" : Str)) = false := by decide) (hdb : (x == ("__debug__" : Str)) = false := by decide)
    (he : starEach (.Name y px :: es) X.env = (false, eval (.Name y px) X.env) :: starEach es X.env := by rfl) (hpl : (backTo pos (starEach es X.env)).any (·.1) = false := by rfl) (hR : R a = R' := by rfl) :
    XF X (.Call (.Name x p) (.Name y px :: es) [] pos) Rs (Rs.set i (.own (P2 a))) R' := hR ▸ pe_imp (C8.pe_c c hr hk hg (pa_cons (pv i hN hv hd hcd) ha he) hdb he hpl) fun σ H Q ⟨Hv, ow, f, q⟩ => by
  obtain ⟨h1, _⟩ := f.own i _ hi
  refine ⟨_, h1, Hv, ow, f, fun vs Hv1 H1 s1 f1 r1 => ?_⟩
  obtain ⟨_, g2, u, g3, g4⟩ := f1.own i _ hi
  rw [List.append_nil]
  refine ⟨a, Hv1, fun _ => ow i, hp, fr_arg1 f1.sub r1 g2 g3 g4, fun z Hv2 H2 s2 sub o r => ?_⟩
  obtain ⟨o1, u', o2, o3⟩ := o (0, P2 a) (by simp)
  exact q z Hv2 H2 (s1.trans (stp_arg1 hi s2)) (f1.after hi s2 sub o1 o2 o3) r
/-- .. where the object keeps what is told of it -/
theorem x_call1S (i : Nat) (c : C8.Cal X.prog X.w X.K X.mg X.base k x (spE pre (fun a => arg1 (P1 a) (As a)) (fun a => [(0, P2 a)]) R) []) (a : α) (hi : Rs[i]? = some (.own (P1 a))) (hr : Room j X.A) (hk : k ≤ j) (hp : pre a) (ha : XA X es Rs (As a)) (h12 : P2 a = P1 a := by rfl) (hg : Gl X x := by rfl) (hN : X.N[i]? = some y := by rfl)
    (hv : Vis X.env.scope y := by first | exact Or.inl rfl | exact Or.inr (Or.inl rfl) | exact Or.inr (Or.inr rfl)) (hd : (y == ("__debug__" : Str)) = false := by decide) (hcd : (y == ("__classdict__" : Str)) = false := by decide) (hdb : (x == ("__debug__" : Str)) = false := by decide)
    (he : starEach (.Name y px :: es) X.env = (false, eval (.Name y px) X.env) :: starEach es X.env := by rfl) (hpl : (backTo pos (starEach es X.env)).any (·.1) = false := by rfl) (hR : R a = R' := by rfl) :
    XE X (.Call (.Name x p) (.Name y px :: es) [] pos) Rs R' := by
  have z := x_call1 (Rs := Rs) (R' := R') (p := p) (pos := pos) (px := px) i c a hi hr hk hp ha hg hN hv hd hcd hdb he hpl hR
  have e : Rs.set i (.own (P2 a)) = Rs := by
    rw [h12]
    obtain ⟨lt, e⟩ := List.getElem?_eq_some_iff.mp hi
    rw [← e]
    exact List.set_getElem_self lt
  rw [e] at z
  exact z
end
/-! ### classes -/
section
variable {X : Cx} {e : Expr} {es : List Expr} {Rs : Frm} {pos p px apos : Pos} {x y m : Str} {k j : Nat} {α : Type} {pre : α → Prop} {P1 P2 : α → Own} {As : α → List Rel} {R : α → Rel} {C : Addr}
/-- C(..): a new hidden object -/
theorem o_make (c : C8.Mak X.prog X.w X.K X.mg X.base k x C (spE pre (fun a => arg1 (ownI C []) (As a)) (fun a => [(0, P2 a)]) fun _ => nonR) []) (a : α) (hr : Room j X.A) (hk : k + 1 ≤ j) (hp : pre a) (ha : XA X (e :: es) Rs (As a)) (hg : Gl X x := by rfl)
    (hdb : (x == ("__debug__" : Str)) = false := by decide) (he : starEach (e :: es) X.env = (false, eval e X.env) :: starEach es X.env := by rfl) (hpl : (backTo pos (starEach es X.env)).any (·.1) = false := by rfl) :
    XO X (.Call (.Name x p) (e :: es) [] pos) Rs (P2 a) := pe_imp (C8.pe_mk c hr hk hg ha hdb he hpl) fun σ H Q ⟨Hv, ow, f, q⟩ => ⟨Hv, ow, f, fun vs Hv1 H1 s1 f1 r1 o dx ho hx hne => by
  have vo : Hv1 o = none := f1.sub.free ho
  have vx : Hv1 dx = none := f1.sub.free hx
  have no : ¬ Owned Rs ow o := fun ⟨j, P, e, z⟩ => f1.free ho j P e z
  have nx : ¬ Owned Rs ow dx := fun ⟨j, P, e, z⟩ => f1.free hx j P e z
  have s0 : Same H1 (upd (upd H1 dx (.own o)) o (.ins C dx [])) := fun b u e => by
    rw [upd_ne (ne_of_none e ho), upd_ne (ne_of_none e hx)]
    exact e
  rw [List.append_nil]
  have h0 : H o = none := by
    cases hq : H o with
    | none => rfl
    | some u =>
      obtain ⟨u', e'⟩ := s1.th o u hq
      rw [e'] at ho
      cases ho
  refine ⟨a, Hv1, fun _ => o, hp, fr_arg1 (f1.sub.trans s0) r1 vo upd_same ⟨dx, [], rfl, trivial⟩, fun z Hv2 H2 s2 sub po rz => ?_⟩
  obtain ⟨o1, u', o2, o3⟩ := po (0, P2 a) (by simp)
  refine ⟨rz, ?_⟩
  have no2 : ∀ {b : Addr} {u : HO}, H1 b = some u → ¬ Owned (arg1 (ownI C []) (As a)) (fun _ => o) b := fun {b u} e ⟨j, P, e1, z⟩ => by
    have z' : o = b := z
    rw [← z', ho] at e
    cases e
  have st : Stp Hv1 H1 Rs ow Hv2 H2 := ⟨fun b u e _ => s2.kp b u (s0 b u e) (no2 e), s2.sv, fun b u e1 e2 _ => s2.hid b u e1 (s0 b u e2) (no2 e2), fun b u e => s2.th b u (s0 b u e)⟩
  refine q o u' Hv2 H2 (s1.trans st) ⟨sub, f1.len, fun i R' e => ?_, fun i P e => ?_, f1.inj⟩ h0 o1 o2 o3
  · obtain ⟨v, g1, g2⟩ := f1.get i R' e
    exact ⟨v, g1, R'.mono s2.sv g2⟩
  · obtain ⟨g1, g2, u, g3, g4⟩ := f1.own i P e
    exact ⟨g1, s2.hid _ u g2 (s0 _ u g3) (no2 g3), u, s2.kp _ u (s0 _ u g3) (no2 g3), P.mono s2.sv g4⟩⟩
end
end Bo
set_option maxHeartbeats 4000000
/-! Methods and makers by their place in the text. -/
namespace Bo
open PySem L2
open PyProof.Rows (envOfC)
section
variable {P : Program} {w : World} {K : PySem.W.Frag} {mg : Str → Option Value} {base : Heap} {x m qual : Str} {st : Stmt} {N ps : List Str} {k : Nat} {α : Type} {pre : α → Prop} {As : α → Frm} {Os : α → List (Nat × Own)} {R : α → Rel} {C f : Addr} {fd : FuncData}
theorem spE_len (hl : ∀ a, (As a).length = ps.length) : ∀ vs H Q E, spE pre As Os R vs H Q E → vs.length = ps.length := fun vs H Q E ⟨a, Hv, ow, hp, fr, q⟩ => by
  have e := fr.len
  rw [List.length_map] at e
  exact e.trans (hl a)
/-- what a def's body must do, for each form -/
def BodyR (P : Program) (w : World) (K : PySem.W.Frag) (mg : Str → Option Value) (base : Heap) (N : List Str) (qual : Str) (st : Stmt) (f : Addr) (k : Nat) (m : Nat) (pre : α → Prop) (As : α → Frm) (Os : α → List (Nat × Own)) (R : α → Rel) : Prop :=
  ∀ (a : α) (cdv : Value) (A : Around) (outer : List Env) (s : Shared) (H : Hp) (E : XK), pre a → Room k (A.deeper (envOfC qual (C8.fnScope st) s.heap.objs.size f cdv)) → PSs (BX P w K mg base N qual (C8.fnScope st) f cdv A outer s H E) (C8.fnBody st) (tXR (Os a) (As a ++ List.replicate m .no) (R a))
def BodyN (P : Program) (w : World) (K : PySem.W.Frag) (mg : Str → Option Value) (base : Heap) (N : List Str) (qual : Str) (st : Stmt) (f : Addr) (k : Nat) (m : Nat) (pre : α → Prop) (As Rz : α → Frm) : Prop :=
  ∀ (a : α) (cdv : Value) (A : Around) (outer : List Env) (s : Shared) (H : Hp) (E : XK), pre a → Room k (A.deeper (envOfC qual (C8.fnScope st) s.heap.objs.size f cdv)) → XNs (BX P w K mg base N qual (C8.fnScope st) f cdv A outer s H E) (C8.fnBody st) (As a ++ List.replicate m .no) (Rz a)
theorem bodyR_go {n : Nat} (hl : ∀ a, (As a).length = ps.length) (hm : N.length = ps.length + n) (body : BodyR P w K mg base N qual st f k n pre As Os R) : ∀ (cdv : Value) (A : Around) (outer : List Env) (s : Shared) (H : Hp) (vs : List V) (Q : VK) (E : XK), Room k (A.deeper (envOfC qual (C8.fnScope st) s.heap.objs.size f cdv)) → spE pre As Os R vs H Q E →
      ∃ t, PSs (cxOf C8.CX0 P w K mg base N qual (C8.fnScope st) f cdv A outer s H E).nox (C8.fnBody st) t ∧ t { nx := fun _ H' => Q .non H', rt := Q } (L2.start N vs) H := fun cdv A outer s H vs Q E hr h => by
  have e1 := spE_len hl vs H Q E h
  obtain ⟨a, Hv, ow, hp, fr, q⟩ := h
  refine ⟨_, body a cdv A outer s H E hp hr, Hv, ow, ?_, fun v Hv' H' s' sub o r => q v Hv' H' (stp_app s') sub o r⟩
  have z := fr_startE (N := N) fr (by omega)
  rw [show N.length - vs.length = n by omega] at z
  exact z
theorem bodyN_go {n : Nat} {Rz : α → Frm} (hl : ∀ a, (As a).length = ps.length) (hm : N.length = ps.length + n) (hz : ∀ a, ∀ p ∈ Os a, (∃ P, (As a)[p.1]? = some (.own P)) ∧ (Rz a)[p.1]? = some (.own p.2)) (body : BodyN P w K mg base N qual st f k n pre As Rz) : ∀ (cdv : Value) (A : Around) (outer : List Env) (s : Shared) (H : Hp) (vs : List V) (Q : VK) (E : XK), Room k (A.deeper (envOfC qual (C8.fnScope st) s.heap.objs.size f cdv)) → spE pre As Os (fun _ => nonR) vs H Q E →
      ∃ t, PSs (cxOf C8.CX0 P w K mg base N qual (C8.fnScope st) f cdv A outer s H E).nox (C8.fnBody st) t ∧ t { nx := fun _ H' => Q .non H', rt := Q } (L2.start N vs) H := fun cdv A outer s H vs Q E hr h => by
  have e1 := spE_len hl vs H Q E h
  obtain ⟨a, Hv, ow, hp, fr, q⟩ := h
  refine ⟨_, body a cdv A outer s H E hp hr, Hv, ow, ?_, fun σ' Hv' H' ow' s' f' => q .non Hv' H' (stp_app s'.toStp) f'.sub (fun p hp => ?_) rfl⟩
  · have z := fr_startE (N := N) fr (by omega)
    rw [show N.length - vs.length = n by omega] at z
    exact z
  · obtain ⟨⟨P0, e0⟩, e1⟩ := hz a p hp
    have z := (f'.own p.1 p.2 e1).2
    rw [s'.same p.1 P0 p.2 (ent_left e0) e1] at z
    exact z
abbrev BindsOk (x qual : Str) (st : Stmt) (ps : List Str) : Prop := ∀ (kV doc pm : Value) (an : Option Addr) (cdv ct : Value) (us : List Value), us.length = ps.length → bindArgs (PySem.W.fnOf x qual (C8.fnArgs st) (C8.fnBody st) (C8.fnScope st) .none kV doc pm an cdv ct) ⟨us, []⟩ = pure (ps.zip us)
theorem own_mak {n : Nat} {Rz : α → Frm} (M : Mk K C f) (hmg : mg x = some (.ref C)) (F : C8.Fun K "__init__" qual st f fd) (df : fd.defaults = .none) (hb : BindsOk "__init__" qual st ps) (S : FnScope N ps (C8.fnScope st)) (hm : N.length = ps.length + n) (hl : ∀ a, (As a).length = ps.length)
    (hz : ∀ a, ∀ p ∈ Os a, (∃ P, (As a)[p.1]? = some (.own P)) ∧ (Rz a)[p.1]? = some (.own p.2)) (body : BodyN P w K mg base N qual st f k n pre As Rz) : C8.Mak P w K mg base (k + 1) x C (spE pre As Os fun _ => nonR) [] :=
  C8.mak0 M hmg F (F.binds df hb) .nil S (spE_len hl) (bodyN_go hl hm hz body)
theorem own_met {n : Nat} (c : Cls K C) (me : Meth K C m f) (F : C8.Fun K m qual st f fd) (df : fd.defaults = .none) (hb : BindsOk m qual st ps) (S : FnScope N ps (C8.fnScope st)) (hm : N.length = ps.length + n) (hl : ∀ a, (As a).length = ps.length) (body : BodyR P w K mg base N qual st f k n pre As Os R) :
    C8.Met P w K mg base (k + 1) C m (spE pre As Os R) [] := C8.met0 c me F (F.binds df hb) S (spE_len hl) (bodyR_go hl hm body)
theorem own_metN {n : Nat} {Rz : α → Frm} (c : Cls K C) (me : Meth K C m f) (F : C8.Fun K m qual st f fd) (df : fd.defaults = .none) (hb : BindsOk m qual st ps) (S : FnScope N ps (C8.fnScope st)) (hm : N.length = ps.length + n) (hl : ∀ a, (As a).length = ps.length)
    (hz : ∀ a, ∀ p ∈ Os a, (∃ P, (As a)[p.1]? = some (.own P)) ∧ (Rz a)[p.1]? = some (.own p.2)) (body : BodyN P w K mg base N qual st f k n pre As Rz) : C8.Met P w K mg base (k + 1) C m (spE pre As Os fun _ => nonR) [] :=
  C8.met0 c me F (F.binds df hb) S (spE_len hl) (bodyN_go hl hm hz body)
end
end Bo
set_option maxHeartbeats 4000000
namespace Bo
open PySem L2
open PyProof.Rows (envOfC)
/-- what the class Order must have -/
structure OrdC (K : PySem.W.Frag) (mg : Str → Option Value) (CO : Addr) : Prop where
  ins : C8.InsC K CO
  mgo : mg "Order" = some (.ref CO)
  row : NoAttr K CO "row"
  sty : NoAttr K CO "style"
  stn : NoAttr K CO "standing"
  stp : NoAttr K CO "steep"
abbrev Ord := List Int × Kd
abbrev ordF (K : PySem.W.Frag) (o : Ord) : Flds := [("row", dR K (tupI o.1)), ("style", strR o.2.s), ("standing", dR K (lstI (rk o.1))), ("steep", dR K (lstI (riL o.1 o.2)))]
abbrev ordR (K : PySem.W.Frag) (CO : Addr) (o : Ord) : Rel := insR CO (ordF K o)
abbrev clsItem (i j : Nat) : Stmt := (C8.clsBody (top i)).getD j (.Pass ⟨0, 0, 0, 0⟩)
section
variable {P : Program} {w : World} {K : PySem.W.Frag} {mg : Str → Option Value} {base : Heap} {CO : Addr}
/-! Order.__init__ -/
abbrev sOrdInit : Stmt := clsItem 24 0
theorem scOrdInit : FnScope ["self", "places", "kind"] ["self", "places", "kind"] (C8.fnScope sOrdInit) := C8.fnScope_by (by decide +kernel)
abbrev spOrdInit (K : PySem.W.Frag) (CO : Addr) : Sp := spE (fun o : Ord => okPs o.1 = true) (fun o => arg1 (ownI CO []) [dR K (tupI o.1), strR o.2.s]) (fun o => [(0, ownI CO (ordF K o))]) fun _ => nonR
theorem c_ord_init {f : Addr} {fd : FuncData} (O : OrdC K mg CO) (M : Mk K CO f) (F : C8.Fun K "__init__" "Order.__init__" sOrdInit f fd) (df : fd.defaults = .none)
    (c1 : C8.Cal P w K mg base 3 "check_places" (spCheckPlaces K) []) (c2 : C8.Cal P w K mg base 1 "check_kind" spCheckKind []) (c3 : C8.Cal P w K mg base 1 "ranks_of" (spRanksOf K) []) (c4 : C8.Cal P w K mg base 2 "rises_of" (spRisesOf K) []) : C8.Mak P w K mg base 4 "Order" CO (spOrdInit K CO) [] :=
  own_mak (n := 0) (Rz := fun o => [.own (ownI CO (ordF K o)), .is (dR K (tupI o.1)), .is (strR o.2.s)]) M O.mgo F df (fun _ _ _ _ _ _ us hl => match us, hl with | [_, _, _], _ => rfl) scOrdInit rfl (fun _ => rfl) (fun o p hp => by
    rw [List.mem_singleton.mp hp]
    exact ⟨⟨_, rfl⟩, rfl⟩) fun o cdv A outer s H E hp hr => by
    refine nc (n_expr (x_call c1 o.1 hr (by decide) hp (xa_cons (x_v 1) xa_nil))) ?_
    refine nc (n_expr (x_call c2 o.2 hr (by decide) trivial (xa_cons (x_v 2) xa_nil))) ?_
    refine nc (n_fld2O 0 rfl O.ins.cl O.row O.sty rfl (x_v 1) (x_v 2)) ?_ (own1 trivial)
    refine ns_eq (ns_one (n_fld2O 0 rfl O.ins.cl O.stn O.stp rfl (x_call c3 o.1 hr (by decide) hp (xa_cons (x_v 1) xa_nil)) (x_call c4 o hr (by decide) hp (xa_cons (x_v 1) (xa_cons (x_v 2) xa_nil))) (hl := by show 2 < 900; decide))) rfl
end
end Bo
set_option maxHeartbeats 4000000
namespace Bo
open PySem L2
open PyProof.Rows (envOfC)
theorem rk_len {ps : List Int} : (rk ps).length = ps.length := rkL_len _
theorem rkL_rng {ps : List Int} : ∀ i, i ≤ ps.length → ∀ x ∈ rkL ps i, 0 ≤ x ∧ (x < i ∨ x = 0)
  | 0, _, x, h => by
    have e : x = 0 := (List.mem_replicate.mp h).2
    omega
  | i + 1, hi, x, h => by
    rcases List.mem_or_eq_of_mem_set h with h | h
    · have := rkL_rng i (by omega) x h
      omega
    · omega
theorem rk_rng {ps : List Int} (h : 1 ≤ ps.length) {i : Nat} (hi : i < ps.length) : 0 ≤ (rk ps).getD i 0 ∧ ((rk ps).getD i 0).toNat < ps.length := by
  have hl : i < (rk ps).length := by rw [rk_len]; exact hi
  have hm : (rk ps).getD i 0 ∈ rk ps := by
    rw [List.getD_eq_getElem?_getD, List.getElem?_eq_getElem hl]
    exact List.getElem_mem hl
  have z := rkL_rng ps.length (Nat.le_refl _) _ hm
  omega
/-- an order that is used with letters below b -/
def okB (o : Ord) (b : Nat) : Bool := okPs o.1 && decide ((riL o.1 o.2).length + 1 ≤ b ∧ b ≤ 4)
theorem okB_ps {o : Ord} {b : Nat} (h : okB o b = true) : okPs o.1 = true := (Bool.and_eq_true_iff.mp h).1
theorem okB_b {o : Ord} {b : Nat} (h : okB o b = true) : (riL o.1 o.2).length + 1 ≤ b ∧ b ≤ 4 := of_decide_eq_true (Bool.and_eq_true_iff.mp h).2
section
variable {P : Program} {w : World} {K : PySem.W.Frag} {mg : Str → Option Value} {base : Heap} {CO : Addr}
/-! check_order -/
abbrev sCheckOrder : Stmt := top 25
theorem scCheckOrder : FnScope ["value"] ["value"] (C8.fnScope sCheckOrder) := C8.fnScope_by (by decide +kernel)
abbrev spCheckOrder (K : PySem.W.Frag) (CO : Addr) : Sp := spF (fun o : Ord => True) (fun o => [ordR K CO o]) fun _ => nonR
theorem x_isC {X : Cx} {e c : Expr} {Rs : Frm} {p pos : Pos} {fs : Flds} (O : C8.InsC X.K CO) (hm : X.mg "isinstance" = none) (h : XE X e Rs (insR CO fs)) (hc : XE X c Rs (eqR (.ref CO))) (hg : Gl X "isinstance" := by rfl)
    (h1 : starEach [e, c] X.env = (false, eval e X.env) :: starEach [c] X.env := by rfl) (h2 : starEach [c] X.env = [(false, eval c X.env)] := by rfl) (hpl : (backTo pos (starEach [c] X.env)).any (·.1) = false := by rfl) :
    XE X (.Call (.Name "isinstance" p) [e, c] [] pos) Rs (blR true) :=
  x_callB (C8.call_isC O) (As := [insR CO fs, eqR (.ref CO)]) (R := blR true) (fun Hv H vs Q s h q => by
    match vs, h with
    | [v, u], ⟨⟨b, dx, fv, e, h1, _⟩, h2, _⟩ =>
      have e2 : u = .ref CO := h2
      subst e e2
      exact ⟨b, dx, fv, rfl, s _ _ h1, q _ Hv H (.refl s) rfl⟩) hm (by decide +kernel) (xa_cons h (xa_cons hc xa_nil h2) h1) hg (by decide) (by decide) h1 hpl
theorem c_check_order (F : Df K mg "check_order" sCheckOrder) (M : Md K mg) (O : OrdC K mg CO) : C8.Cal P w K mg base 1 "check_order" (spCheckOrder K CO) [] :=
  pure_defN F (fun _ _ _ _ _ _ us hl => match us, hl with | [_], _ => rfl) scCheckOrder 0 rfl (fun _ => rfl) (fun a => fr0 [ordR K CO a] 0) (fun _ => noOwn_fr0) fun f a cdv A outer s H E hp hr =>
    ns_one (n_ifF (xt_is (xt_not (xt_val (x_isC O.ins M.isi (x_v 0) (x_con (v := .ref CO) (pe_glob (by rfl) O.mgo rfl))))) rfl)) fun i P P2 e => (noOwn_fr0 i P e).elim
/-! put_along -/
def paD (rs : List Int) (ds : List PyData) : List PyData := (List.range rs.length).map fun i => nthD ds (rs.getD i 0).toNat
abbrev sPutAlong : Stmt := top 26
theorem scPutAlong : FnScope ["order", "letters", "rank"] ["order", "letters"] (C8.fnScope sPutAlong) := C8.fnScope_by (by decide +kernel)
abbrev spPutAlong (K : PySem.W.Frag) (CO : Addr) : Sp := spF (fun a : Ord × List PyData => okPs a.1.1 = true ∧ a.2.length = a.1.1.length) (fun a => [ordR K CO a.1, dR K (.list a.2)]) fun a => dR K (.tuple (paD (rk a.1.1) a.2))
theorem c_put_along (F : Df K mg "put_along" sPutAlong) (M : Md K mg) (O : OrdC K mg CO) : C8.Cal P w K mg base 1 "put_along" (spPutAlong K CO) [] :=
  pure_def F (fun _ _ _ _ _ _ us hl => match us, hl with | [_, _], _ => rfl) scPutAlong 1 rfl (fun _ => rfl) fun f a cdv A outer s H E hp hr => by
    obtain ⟨o, ds⟩ := a
    obtain ⟨h1, h2⟩ := hp
    replace h1 : okPs o.1 = true := h1
    replace h2 : ds.length = o.1.length := h2
    have nd := scPutAlong.nd
    have hl := okPs_len h1
    have hk : (rk o.1).length = o.1.length := rk_len
    show XRs _ _ (fr0 [ordR K CO o, dR K (.list ds)] 1) (dR K (.tuple (paD (rk o.1) ds)))
    refine b_ret (x_eqd (x_tupOf (.inl rfl) M.tuple_ (x_lc (n := (rk o.1).length) (fun _ => true) (fun i => nthD ds ((rk o.1).getD i 0).toNat) (own := [("rank", 2)]) (ks := [2]) (fun i => [.is (ordR K CO o), .is (dR K (.list ds)), .is (intR ((rk o.1).getD i 0))]) rfl nd (xi_lstI (x_fld O.ins.cl O.stn (x_v 0) rfl))
      (blkOk_by (own := [("rank", 2)]) (N := ["order", "letters", "rank"]) (sc := C8.fnScope sPutAlong) (by decide +kernel)) (by omega) (nof trivial) (fun i _ => nof trivial) (w1 rfl) (by decide) (fun _ _ _ _ _ i hi => xg_name 2 nd) (fun _ _ _ _ _ i hi => ts_nil) (fun _ _ _ _ _ i hi _ => ?_))) ?_)
    · have g := rk_rng (ps := o.1) (by omega) (i := i) (by omega)
      exact x_ixL (i := ((rk o.1).getD i 0).toNat) (x_v 1) (x_eI (x_v 2) (by omega)) (nthD_lt (by omega))
    · rw [lcD_all] <;> rfl
/-! rises_before -/
def rbN (st : List Int) : Nat → Int
  | 0 => 0
  | i + 1 => rbN st i + if (i : Int) ∈ st then 1 else 0
def rbL (st : List Int) (n : Nat) : List Int := (List.range n).map (rbN st)
theorem rbL_succ {st : List Int} {n : Nat} : rbL st (n + 1) = rbL st n ++ [rbN st n] := by
  unfold rbL
  rw [List.range_succ, List.map_append]
  rfl
abbrev sRisesBefore : Stmt := top 27
theorem scRisesBefore : FnScope ["order", "found", "at"] ["order"] (C8.fnScope sRisesBefore) := C8.fnScope_by (by decide +kernel)
abbrev spRisesBefore (K : PySem.W.Frag) (CO : Addr) : Sp := spF (fun o : Ord => okPs o.1 = true) (fun o => [ordR K CO o]) fun o => dR K (lstI (rbL (riL o.1 o.2) o.1.length))
theorem c_rises_before (F : Df K mg "rises_before" sRisesBefore) (M : Md K mg) (O : OrdC K mg CO) : C8.Cal P w K mg base 1 "rises_before" (spRisesBefore K CO) [] :=
  pure_def F (fun _ _ _ _ _ _ us hl => match us, hl with | [_], _ => rfl) scRisesBefore 2 rfl (fun _ => rfl) fun f o cdv A outer s H E hp hr => by
    have hl := okPs_len hp
    have nd := scRisesBefore.nd
    refine b_cons (n_setO 1 (o_lst (ds := [.int 0]) (xa_cons (x_ofI x_int) xa_nil)) nd (by show 1 < 3; decide)) ?_
    refine b_cons (n_for (fun i => [.is (ordR K CO o), .own (ownL K ((rbL (riL o.1 o.2) (i + 1)).map .int)), .no]) (fun i => [.is (ordR K CO o), .own (ownL K ((rbL (riL o.1 o.2) (i + 1)).map .int)), .is (intR ((1 + i : Nat) : Int))])
      (xi_rg2 (lo := 1) (hi := o.1.length) (x_eI x_int) (x_eI (x_lenT M.len (x_fld O.ins.cl O.row (x_v 0) rfl)) (by simp)) M.range_ (by omega)) rfl rfl PassesOwn.never (fun i _ => so trivial) (fun i _ => so trivial) (fun i hi => xg_name 2 nd) fun i hi => ?_) ?_
    · refine ns_eq (ns_forget 2 (ns_one (n_append 1 rfl (x_ofI (x_add (x_toI (x_ownLast (ds := (rbL (riL o.1 o.2) i).map .int) (d := .int (rbN (riL o.1 o.2) i)) 1 ?_ (x_neg x_int)))
        (x_if (k := decide ((i : Int) ∈ riL o.1 o.2)) (xt_is (xt_cmp op_in_seq (ox_inL (ns := riL o.1 o.2) (i := (i : Int))) (x_eI (x_sub (x_v 2) x_int) (by omega)) (x_fld O.ins.cl O.stp (x_v 0) rfl)) rfl) (R := intR (if (i : Int) ∈ riL o.1 o.2 then 1 else 0)) (fun hk => x_eI x_int ?_) (fun hk => x_eI x_int ?_)))) ?_))) ?_
      · show some (Ent.own (ownL K ((rbL (riL o.1 o.2) (i + 1)).map .int))) = _
        rw [rbL_succ, List.map_append]
        rfl
      · rw [if_pos (of_decide_eq_true hk)]
      · rw [if_neg (of_decide_eq_false hk)]
      · rw [List.length_map]
        show (rbL _ (i + 1)).length < 100000
        unfold rbL
        rw [List.length_map, List.length_range]
        omega
      · refine frm_c (frm_own ?_ rfl)
        rw [rbL_succ (n := i + 1), List.map_append]
        rfl
    · refine reveal 1 rfl (b_ret (x_eqd (x_v 1) ?_))
      rw [show o.1.length - 1 + 1 = o.1.length by omega]
/-! choose -/
def chL (m : Nat) : Nat → Int
  | 0 => 1
  | i + 1 => chL m i * ((m : Int) - i) / ((i : Int) + 1)
def chN (m s : Nat) : Int := chL m (min s (m - s))
theorem chL_le : ∀ m : Fin 9, ∀ i : Fin 9, 0 ≤ chL m i ∧ chL m i ≤ 100 := by decide +kernel
theorem cmx {i j : Int} (h1 : 0 ≤ i ∧ i ≤ 100) (h2 : 0 ≤ j ∧ j ≤ 100) : CMulX i j := by
  have b : ∀ x : Int, 0 ≤ x ∧ x ≤ 100 → Builtin.Int.intBits x ≤ 8 := fun x h => by
    obtain ⟨n, rfl⟩ := Int.eq_ofNat_of_zero_le h.1
    have hn : n < 101 := by omega
    exact (by decide +kernel : ∀ n : Fin 101, Builtin.Int.intBits ((n : Nat) : Int) ≤ 8) ⟨n, hn⟩
  have b1 := b i h1
  have b2 := b j h2
  show (_ : Int) ≤ _
  omega
abbrev sChoose : Stmt := top 29
theorem scChoose : FnScope ["many", "some", "found", "at"] ["many", "some"] (C8.fnScope sChoose) := C8.fnScope_by (by decide +kernel)
abbrev spChoose : Sp := spF (fun a : Nat × Nat => a.2 ≤ a.1 ∧ a.1 ≤ 8) (fun a => [intR (a.1 : Int), intR (a.2 : Int)]) fun a => intR (chN a.1 a.2)
theorem c_choose (F : Df K mg "choose" sChoose) (M : Md K mg) : C8.Cal P w K mg base 1 "choose" spChoose [] :=
  pure_def F (fun _ _ _ _ _ _ us hl => match us, hl with | [_, _], _ => rfl) scChoose 2 rfl (fun _ => rfl) fun f a cdv A outer s H E hp hr => by
    obtain ⟨m, t⟩ := a
    have h1 : t ≤ m := hp.1
    have h2 : m ≤ 8 := hp.2
    have nd := scChoose.nd
    show XRs _ _ (fr0 [intR (m : Int), intR (t : Int)] 2) (intR (chN m t))
    refine b_cons (n_set 2 x_int nd) ?_
    refine b_cons (n_for (fun i => [.is (intR (m : Int)), .is (intR (t : Int)), .is (intR (chL m i)), .no]) (fun i => [.is (intR (m : Int)), .is (intR (t : Int)), .is (intR (chL m i)), .is (intR (i : Nat))]) (n := min t (m - t))
      (xi_rg1 (x_eI (x_min2 rfl M.min_ (x_v 1) (x_sub (x_v 0) (x_v 1))) (by omega)) M.range_ (by omega)) rfl rfl PassesOwn.never (fun i _ => so trivial) (fun i _ => so trivial) (fun i hi => xg_name 3 nd) fun i hi => ?_) ?_
    · have c := chL_le ⟨m, by omega⟩ ⟨i, by omega⟩
      exact ns_eq (ns_forget 3 (ns_one (n_set 2 (x_fdiv ⟨by omega, by
        obtain ⟨n, hn⟩ : ∃ n : Nat, (i : Int) + 1 = n := ⟨i + 1, by omega⟩
        rw [hn]
        have : n < 10 := by omega
        exact (by decide +kernel : ∀ n : Fin 10, ((n : Nat) : Int).natAbs.log2 < 9000) ⟨n, this⟩⟩ (x_mul (cmx c (by omega)) (x_v 2) (x_sub (x_v 0) (x_v 3))) (x_add (x_v 3) x_int)) nd))) rfl
    · exact b_ret (x_if (k := true) (xt_is (xt_lele x_int (x_v 1) (x_v 0)) (by simp; omega)) (fun _ => x_v 2) fun z => by cases z)
end
end Bo
set_option maxHeartbeats 4000000
/-! Tuples whose object is known (they have no dict): what dict() takes. -/
namespace Bo
open PySem PySem.Spec L2
open PyProof.Rows hiding St
def PlT (ob : Obj) : Prop := ob.cls = .type "tuple" ∧ ob.dict = none ∧ ∃ its n, ob.data = .seq its n
def ptR (K : PySem.W.Frag) (ds : List PyData) : Rel := ⟨fun H v => ∃ a ob xs, v = .ref a ∧ H a = some (.frz ob (.tup xs)) ∧ PlT ob ∧ DpAll K H xs ds, fun s ⟨a, ob, xs, e, h1, h2, h3⟩ => ⟨a, ob, xs, e, s _ _ h1, h2, dpAll_mono s _ _ h3⟩⟩
theorem ptR_d {K : PySem.W.Frag} {ds : List PyData} {H : Hp} {v : V} (h : (ptR K ds).r H v) : Dp K H v (.tuple ds) := by
  obtain ⟨a, ob, xs, e, h1, h2, h3⟩ := h
  subst e
  exact .tup (.inl (.inr ⟨ob, h1⟩)) h3
section
variable {X : Cx}
def tTupF (t : TA) : TE := fun σ H Q => t σ H fun xs H1 => xs.length ≤ sizeLine ∧ ∀ p ob, PlT ob → H1 p = none → Q (.ref p) (upd H1 p (.frz ob (.tup xs)))
theorem pe_tupF {es : List Expr} {t : TA} {pos : Pos} {x1} (h : PA X es t) : PE X (.Tuple es x1 pos) (tTupF t) := by
  refine ⟨fun pins s σ H Q I hq => ?_⟩
  refine wpAny_Tuple_spliced (thn (h.run pos pins s σ H _ I hq) fun us s1 ⟨xs, H1, I1, r, z, q⟩ => ⟨by rw [← r.length]; exact z, ?_⟩)
  have hf : H1 s1.heap.objs.size = none := I1.hok.fresh (Nat.le_refl _)
  have e1 := Heap.get?_push_size s1.heap (o := { cls := .type "tuple", data := .seq us.toArray }) rfl
  refine ⟨.ref s1.heap.objs.size, upd H1 s1.heap.objs.size (.frz _ (.tup xs)), I1.laid (t' := s1.toks) (fun b u e => Heap.get?_push_of_some _ e) (Nat.le_refl _) ⟨e1, z, us, r, ⟨_, e1, rfl, _, rfl⟩⟩, rfl, q _ _ ⟨rfl, rfl, _, _, rfl⟩ hf⟩
theorem call_tupleF : CallR X (.type "tuple") (fun xs H Q => ∃ p ys, xs = [.ref p] ∧ SqL X.K H p ys ∧ ∀ l ob, PlT ob → H l = none → Q (.ref l) (upd H l (.frz ob (.tup ys)))) := by
  intro pins s σ H xs us Q I r h
  obtain ⟨p, ys, rfl, hq, q⟩ := h
  obtain ⟨u, rfl, rx⟩ := vals1 r
  cases rx
  obtain ⟨its, r', pl, hz⟩ := I.list hq
  have hlen := r'.length
  refine call_tuple_list pl.isList (fun h2 kp => ?_) (by simp only [List.size_toArray] <;> omega)
  have I1 : Inv X pins σ H { s with heap := h2 } := I.kept (t' := s.toks) kp
  have e1 := Heap.get?_push_size h2 (o := { cls := .type "tuple", data := .seq its.toArray }) rfl
  exact ⟨.ref h2.objs.size, _, I1.laid (o := .frz _ (.tup ys)) (t' := s.toks) (fun b o e => Heap.get?_push_of_some _ e) (Nat.le_refl _) ⟨e1, hz, its, r', ⟨_, e1, rfl, _, rfl⟩⟩, rfl, q _ _ ⟨rfl, rfl, _, _, rfl⟩ (I1.hok.fresh (Nat.le_refl _))⟩
theorem pairs_both {pins : List (Addr × Obj)} {σ : L2.St} {H : Hp} {s : Shared} (I : Inv X pins σ H s) : ∀ {ts : List Addr} {kvs : List (Key × V)}, Paired (fun p kv => SqT X.K H p [kV kv.1, kv.2]) ts kvs →
    ∃ (ps : List (Value × Value)) (prs : List (Key × Value)), KV kvs prs ∧ ps.length = ts.length ∧ prs.length = ts.length ∧ ∀ (j : Nat) (k v : Value), ps[j]? = some (k, v) → ∃ (b : Addr) (q : Key), ts[j]? = some b ∧ IsTup s.heap b #[k, v] ∧ prs[j]? = some (q, v) ∧ (mixKind X.prog X.w).is q k = true
  | _, _, .nil => ⟨[], [], .nil, rfl, rfl, fun j k v e => by simp at e⟩
  | _, _, .cons (a := p) (b := kv) h t => by
    obtain ⟨ps, prs, r, hl1, hl2, hp⟩ := pairs_both I t
    obtain ⟨its, rv, ht, _⟩ := I.tuple h
    obtain ⟨u, y, ei, ru, ry⟩ := vals2 rv
    subst ei
    refine ⟨(u, y) :: ps, (kv.1, y) :: prs, .cons ⟨rfl, ry⟩ r, by rw [List.length_cons, List.length_cons, hl1], by rw [List.length_cons, List.length_cons, hl2], fun j k v e => ?_⟩
    cases j with
    | zero =>
      cases e
      exact ⟨p, kv.1, rfl, ht, rfl, kV_is (P := X.prog) (w := X.w) ru⟩
    | succ j =>
      obtain ⟨b, q, e1, e2, e3, e4⟩ := hp j k v (by simpa using e)
      exact ⟨b, q, by simpa using e1, e2, by simpa using e3, e4⟩
/-- dict(t), t a tuple of pairs -/
theorem call_dictF (hcalm : X.calm = true) : CallR X (.type "dict") (fun xs H Q => ∃ (a : Addr) (ob : Obj) (ts : List Addr) (kvs : List (Key × V)), xs = [.ref a] ∧ H a = some (.frz ob (.tup (ts.map V.ref))) ∧ PlT ob ∧ Paired (fun p kv => SqT X.K H p [kV kv.1, kv.2]) ts kvs ∧
    ∀ p, H p = none → Q (.ref p) (upd H p (.dK (mergeK [] kvs)))) := by
  intro pins s σ H xs us Q I r q
  obtain ⟨a, ob, ts, kvs, ex, hq, ⟨c1, c2, its0, n0, c3⟩, hp, q⟩ := q
  subst ex
  obtain ⟨u, eu, rx⟩ := vals1 r
  subst eu
  cases rx
  obtain ⟨g1, hz, its, rv, ob2, g2, g3, n2, g4⟩ := (show ObjOk X.prog X.w H s.heap a (.frz ob (.tup (ts.map V.ref))) from I.hok a _ hq)
  have g5 : ob = ob2 := Option.some.inj (g1.symm.trans g2)
  subst g5
  have ei := refs_at rv
  subst ei
  rw [List.length_map] at hz
  obtain ⟨ps, prs, rel, hl1, hl2, hpr⟩ := pairs_both I hp
  have ok : (fun h : Heap => PlainSeq "tuple" h a (ts.map Value.ref).toArray ∧ PairItems h (ts.map Value.ref).toArray (fun j => ts.getD j 0) ps) s.heap := by
    refine ⟨⟨ob, n2, g1, c1, c2, g4⟩, by simp [hl1], fun j k v e => ?_⟩
    obtain ⟨b, q, e1, e2, _⟩ := hpr j k v e
    have e5 : ts.getD j 0 = b := by rw [List.getD_eq_getElem?_getD, e1] <;> rfl
    refine ⟨?_, .inl ?_⟩
    · show (ts.map Value.ref).toArray[j]? = some (Value.ref (ts.getD j 0))
      rw [e5]
      simp [e1]
    · show s.heap.IsTuple (ts.getD j 0) #[k, v]
      rw [e5]
      exact e2
  have arg := PairArg.tuple (prog := X.prog) (w := X.w) a (ts.map Value.ref).toArray (fun j => ts.getD j 0) ps
  have have_ : PairsHave (mixKind X.prog X.w) ps.length (PairRel ps) prs := ⟨by rw [hl2, hl1], fun j k v e => by
    obtain ⟨b, q, _, _, e3, e4⟩ := hpr j k v e
    exact ⟨q, e3, e4⟩⟩
  have sz : ps.length ≤ sizeLine := by rw [hl1]; exact hz
  refine PySem.call_dict_pairs (knd := mixKind X.prog X.w) (kvs := prs) arg (I.ok.hd hcalm) ok have_ sz fun h2 tk hd2 k2 => ?_
  · have hm : (s.heap.objs.size == sysModules) = false := beq_eq_false_iff_ne.mpr (Nat.ne_of_gt I.big)
    have hlen : (mergeK [] kvs).length ≤ sizeLine := by
      refine Nat.le_trans (length_mergeK kvs []) ?_
      rw [List.length_nil, Nat.zero_add, rel.length, hl2]
      exact hz
    have k3 : ∀ b o, s.heap.get? b = some o → h2.get? b = some o := fun b o e => k2 b o List.not_mem_nil e
    have new : ObjOk X.prog X.w (upd H s.heap.objs.size (.dK (mergeK [] kvs))) h2 s.heap.objs.size (.dK (mergeK [] kvs)) := ⟨hlen, hm, merged [] prs, KV.merge rel .nil, hd2⟩
    have I2 := I.laid (t' := tk) k3 (Nat.le_refl _) new
    exact ⟨.ref s.heap.objs.size, _, I2, rfl, q _ (I.hok.fresh (Nat.le_refl _))⟩
end
theorem AllR.one {H : Hp} {vs : List V} {R : Rel} (h : AllR H vs [R]) : ∃ v, vs = [v] ∧ R.r H v := by
  cases vs with
  | nil => exact h.elim
  | cons v vs =>
    cases vs with
    | nil => exact ⟨v, rfl, h.1⟩
    | cons w ws => exact h.2.elim
/-! the rules -/
abbrev pairD (p : Int × Int) : PyData := .tuple [.int p.1, .int p.2]
abbrev fsD (t : List (Int × Int)) : List PyData := t.map pairD
def mrg (t : List (Int × Int)) : List (Int × Int) := t.foldl (fun acc p => putI acc p.1 p.2) []
theorem mergeK_kI (t : List (Int × Int)) : mergeK [] (kI t) = kI (mrg t) := by
  have g : ∀ (t acc : List (Int × Int)), mergeK (kI acc) (kI t) = kI (t.foldl (fun acc p => putI acc p.1 p.2) acc) := fun t => by
    induction t with
    | nil => exact fun _ => rfl
    | cons p t ih =>
      intro acc
      show mergeK (putK (kI acc) (Sum.inl p.1) (.int p.2)) (kI t) = _
      rw [putK_kI, ih]
      rfl
  exact g t []
theorem pairs_in {K : PySem.W.Frag} {H : Hp} : ∀ {xs : List V} {t : List (Int × Int)}, DpAll K H xs (fsD t) → ∃ ts : List Addr, xs = ts.map V.ref ∧ Paired (fun p (kv : Key × V) => SqT K H p [kV kv.1, kv.2]) ts (kI t)
  | _, [], h => by
    cases h
    exact ⟨[], rfl, .nil⟩
  | _, p :: t, h => by
    cases h with
    | cons h1 h2 =>
      obtain ⟨ts, e, pr⟩ := pairs_in h2
      obtain ⟨a, ys, e1, hs, ha⟩ := dp_tup h1
      have e2 : ys = [.int p.1, .int p.2] := dpAll_ints (ns := [p.1, p.2]) ha
      subst e e1 e2
      exact ⟨a :: ts, rfl, .cons hs pr⟩
section
variable {X : Cx} {e a : Expr} {es : List Expr} {Rs : Frm} {pos p : Pos}
theorem x_tupF {x1} {ds : List PyData} (h : XA X es Rs (ds.map (dR X.K))) (hl : ds.length ≤ 100000 := by exact Nat.le_of_ble_eq_true rfl) : XE X (.Tuple es x1 pos) Rs (ptR X.K ds) := pe_imp (pe_tupF h) fun σ H Q ⟨Hv, ow, f, q⟩ => ⟨Hv, ow, f, fun vs Hv1 H1 s1 f1 r => by
  have e := r.length
  rw [List.length_map] at e
  refine ⟨Nat.le_trans (by omega : vs.length ≤ 100000) (by decide), fun p ob ho hp => ?_⟩
  have a := Al.new (o := .frz ob (.tup vs)) f1.sub hp
  exact q _ _ _ (s1.trans a.stp) (f1.al a) ⟨p, ob, vs, rfl, upd_same, ho, dpAll_mono a.sv _ _ (allR_dp r)⟩⟩
theorem x_tupOfF {ds : List PyData} (hm : X.mg "tuple" = none) (ha : XE X a Rs (dR X.K (.list ds))) (hg : Gl X "tuple" := by rfl) (h1 : starEach [a] X.env = [(false, eval a X.env)] := by rfl) : XE X (.Call (.Name "tuple" p) [a] [] pos) Rs (ptR X.K ds) :=
  x_callTy call_tupleF (As := [dR X.K (.list ds)]) (R := ptR X.K ds) (fun Hv H vs Q s h q => by
    match vs, h with
    | [v], ⟨h, _⟩ =>
      obtain ⟨a, xs, e, hs, g⟩ := dp_list h
      subst e
      refine ⟨a, xs, rfl, same_l s hs, fun l ob ho hl => ?_⟩
      have al := Al.new (o := .frz ob (.tup xs)) s hl
      exact q _ _ _ al ⟨l, ob, xs, rfl, upd_same, ho, dpAll_mono al.sv _ _ g⟩) hm (by decide +kernel) (xa_cons ha xa_nil h1) hg (by decide) (by decide) h1 rfl
theorem x_pt {ds : List PyData} (h : XE X e Rs (ptR X.K ds)) : XE X e Rs (dR X.K (.tuple ds)) := x_weak h fun _ _ r => ptR_d r
/-- dict(facts) -/
theorem x_dictF {t : List (Int × Int)} (hc : X.calm = true) (hm : X.mg "dict" = none) (ha : XE X a Rs (ptR X.K (fsD t))) (hg : Gl X "dict" := by rfl) (h1 : starEach [a] X.env = [(false, eval a X.env)] := by rfl) : XE X (.Call (.Name "dict" p) [a] [] pos) Rs (dcR (kI (mrg t))) :=
by
  have c : CallX (fun xs H Q => ∃ (a : Addr) (ob : Obj) (ts : List Addr) (kvs : List (Key × V)), xs = [.ref a] ∧ H a = some (.frz ob (.tup (ts.map V.ref))) ∧ PlT ob ∧ Paired (fun p kv => SqT X.K H p [kV kv.1, kv.2]) ts kvs ∧
    ∀ p, H p = none → Q (.ref p) (upd H p (.dK (mergeK [] kvs)))) [ptR X.K (fsD t)] (dcR (kI (mrg t))) := fun Hv H vs Q s h q => by
    obtain ⟨v, ev, h⟩ := h.one
    obtain ⟨b, ob, xs, e, g1, g2, g3⟩ := h
    obtain ⟨ts, e2, pr⟩ := pairs_in g3
    rw [e2] at g1
    have g4 := s _ _ g1
    refine ⟨b, ob, ts, kI t, by rw [ev, e], g4, g2, Paired.mapP pr fun p kv z => same_t s z, fun l hl => ?_⟩
    rw [mergeK_kI]
    have al := Al.new (o := .dK (kI (mrg t))) s hl
    exact q _ _ _ al ⟨l, rfl, upd_same⟩
  exact x_callTy (call_dictF hc) c hm (by decide +kernel) (xa_cons ha xa_nil h1) hg (by decide) (by decide) h1 rfl
end
end Bo
set_option maxHeartbeats 4000000
namespace Bo
open PySem L2
open PyProof.Rows (envOfC)
/-! parallel assignments -/
section
variable {X : Cx} {a b c : Expr} {Rs : Frm} {Ra Rb Rc : Rel} {x y z : Str} {px py pz pt pt2 pos : Pos} {kt k2 : Nat}
theorem n_par (i j : Nat) (ha : XE X a Rs Ra) (hb : XE X b Rs Rb) (hc : X.calm = true) (hN : X.N.Nodup) (hij : i ≠ j) (hni : ∀ P, Rs[i]? ≠ some (Ent.own P) := by intro P z; cases z) (hnj : ∀ P, Rs[j]? ≠ some (Ent.own P) := by intro P z; cases z) (hi : X.N[i]? = some x := by rfl) (hj : X.N[j]? = some y := by rfl)
    (hx : X.env.scope.names.lookup x = some .local := by rfl) (hy : X.env.scope.names.lookup y = some .local := by rfl) (hw : swappedStores [.Tuple [.Name x px, .Name y py] kt pt] (.Tuple [a, b] k2 pt2) X.env = pure (some [x, y]) := by rfl)
    (hs : swapsWithSole [.Tuple [.Name x px, .Name y py] kt pt] (.Tuple [a, b] k2 pt2) pos.line X.env = pure false := by rfl) (h1 : starEach [a, b] X.env = (false, eval a X.env) :: starEach [b] X.env := by rfl) (h2 : starEach [b] X.env = [(false, eval b X.env)] := by rfl) :
    XN X (.Assign [.Tuple [.Name x px, .Name y py] kt pt] (.Tuple [a, b] k2 pt2) pos) Rs ((Rs.set i (.is Ra)).set j (.is Rb)) :=
  ps_imp (ps_par hc hN hi hj hij hx hy (xa_cons ha (xa_cons hb xa_nil h2) h1) hw hs) fun D σ H ⟨Hv, ow, f, q⟩ => ⟨Hv, ow, f, fun vs Hv1 H1 s1 f1 r1 => by
    cases vs with
    | nil => exact r1.elim
    | cons v vs =>
      obtain ⟨r1, r2⟩ := r1
      obtain ⟨w, e, r3⟩ := r2.one
      subst e
      have hn2 : ∀ P, (Rs.set i (.is Ra))[j]? ≠ some (Ent.own P) := fun P e => by
        rw [List.getElem?_set_ne hij] at e
        exact hnj P e
      refine ⟨v, w, rfl, q _ Hv1 H1 ow ?_ ((f1.set hni r1).set hn2 r3)⟩
      have z1 := sts_set (R := Ra) s1 hni
      exact ⟨s1, fun _ _ _ _ _ => rfl, fun k P e => by
        obtain ⟨k', P', e', _⟩ := (owned_set (b := ow k) hn2).mp ⟨k, P, e, rfl⟩
        by_cases hk : j = k
        · subst hk
          have lt : j < (Rs.set i (.is Ra)).length := by
            have q := (List.getElem?_eq_some_iff.mp e).1
            rw [List.length_set] at q
            exact q
          rw [List.getElem?_set_self lt] at e
          cases e
        · rw [List.getElem?_set_ne hk] at e
          exact z1.new k P e⟩⟩
end
/-- a tuple that is written, item by item -/
theorem x_tupR {X : Cx} {es : List Expr} {Rs : Frm} {As : List Rel} {pos : Pos} {x1} (h : XA X es Rs As) (hl : As.length ≤ 100000 := by exact Nat.le_of_ble_eq_true rfl) : XE X (.Tuple es x1 pos) Rs (tupsR X.K As) := pe_imp (pe_tup h) fun σ H Q ⟨Hv, ow, f, q⟩ => ⟨Hv, ow, f, fun vs Hv1 H1 s1 f1 r => by
  have e := r.length
  refine ⟨Nat.le_trans (by omega : vs.length ≤ 100000) (by decide), fun p hp => ?_⟩
  have a := Al.new (o := .tup vs) f1.sub hp
  exact q _ _ _ (s1.trans a.stp) (f1.al a) ⟨p, vs, rfl, .inl (.inl upd_same), r.mono a.sv⟩⟩
/-- target = value, any target -/
theorem n_asgG {X : Cx} {tg e : Expr} {Rs Rs' : Frm} {I : Rel} {ks : List Nat} {pos : Pos} (he : XE X e Rs I) (hg : XG X tg I Rs Rs' ks) (ho : SameOwn Rs Rs') (hs : swapsWithSole [tg] e pos.line X.env = pure false := by rfl) (hw : swappedStores [tg] e X.env = pure none := by rfl)
    (h1 : (assignEach [tg] X.env).map (·.2) = [assign tg X.env] := by rfl) : XN X (.Assign [tg] e pos) Rs Rs' := ps_imp (ps_asg he hg hs hw h1) fun D σ H ⟨Hv, ow, f, q⟩ => ⟨Hv, ow, f, fun v Hv1 H1 s1 f1 r1 => ⟨Hv1, ow, f1, r1, fun σ' f' _ => q σ' Hv1 H1 ow ⟨s1, fun _ _ _ _ _ => rfl, fun j P e => .inl ((ho j).mpr ⟨P, e⟩)⟩ f'⟩⟩
/-- zip over ints -/
theorem xi_zipI {X : Cx} {e e2 : Expr} {Rs : Frm} {p pos tpos : Pos} {elts : List Expr} {kk : Nat} {ns ms : List Int} {d1 d2 : PyData} (hd1 : SeqD d1 (ns.map .int)) (hd2 : SeqD d2 (ms.map .int)) (hl : ns.length = ms.length) (hm : X.mg "zip" = none) (h1 : XE X e Rs (dR X.K d1)) (h2 : XE X e2 Rs (dR X.K d2)) (hg : Gl X "zip" := by rfl)
    (hs1 : starEach [e, e2] X.env = (false, eval e X.env) :: starEach [e2] X.env := by rfl) (hs2 : starEach [e2] X.env = [(false, eval e2 X.env)] := by rfl) (hpl : (backTo pos (starEach [e2] X.env)).any (·.1) = false := by rfl) :
    XI X (.Tuple elts kk tpos) (.Call (.Name "zip" p) [e, e2] [] pos) Rs ns.length (fun i => tupsR X.K [intR (ns.getD i 0), intR (ms.getD i 0)]) := by
  have z := xi_zip (elts := elts) (kk := kk) (tpos := tpos) (p := p) (pos := pos) hd1 hd2 hm h1 h2 hg hs1 hs2 hpl
  rw [List.length_map, List.length_map, ← hl, Nat.min_self] at z
  refine xi_weak z fun k hk H v ⟨a, xs, e, h1, h2⟩ => ⟨a, xs, e, h1, ?_⟩
  match xs, h2 with
  | [u, w], ⟨g1, g2, _⟩ =>
    have g1' : Dp X.K H u (nthD (ns.map .int) k) := g1
    have g2' : Dp X.K H w (nthD (ms.map .int) k) := g2
    rw [nthD_int hk] at g1'
    rw [nthD_int (by omega)] at g2'
    exact ⟨dp_int g1', dp_int g2', trivial⟩
/-! the numbers -/
def ctN (o : Ord) (b : Nat) : Int := chN (o.1.length + (b - (riL o.1 o.2).length) - 1) o.1.length
section
variable {P : Program} {w : World} {K : PySem.W.Frag} {mg : Str → Option Value} {base : Heap} {CO : Addr}
/-! rows_over -/
abbrev sRowsOver : Stmt := top 30
theorem scRowsOver : FnScope ["length", "many"] ["length", "many"] (C8.fnScope sRowsOver) := C8.fnScope_by (by decide +kernel)
abbrev spRowsOver : Sp := spF (fun a : Nat × Nat => (1 ≤ a.1 ∧ a.1 ≤ 4) ∧ 1 ≤ a.2 ∧ a.2 ≤ 4) (fun a => [intR (a.1 : Int), intR (a.2 : Int)]) fun a => intR (chN (a.1 + a.2 - 1) a.1)
theorem c_rows_over (F : Df K mg "rows_over" sRowsOver) (c1 : C8.Cal P w K mg base 1 "choose" spChoose []) : C8.Cal P w K mg base 2 "rows_over" spRowsOver [] :=
  pure_def F (fun _ _ _ _ _ _ us hl => match us, hl with | [_, _], _ => rfl) scRowsOver 0 rfl (fun _ => rfl) fun f a cdv A outer s H E hp hr => by
    obtain ⟨l, m⟩ := a
    obtain ⟨⟨h1, h2⟩, h3, h4⟩ := hp
    replace h1 : 1 ≤ l := h1
    replace h2 : l ≤ 4 := h2
    replace h3 : 1 ≤ m := h3
    replace h4 : m ≤ 4 := h4
    show XRs _ _ (fr0 [intR (l : Int), intR (m : Int)] 0) (intR (chN (l + m - 1) l))
    refine b_if (k := false) (xt_is (xt_eqI (x_v 0) x_int) (by simp; omega)) (fun z => by cases z) fun _ => b_ret (x_if (k := true) (xt_is (xt_gt (x_v 1) x_int) (by simp; omega)) (fun _ => ?_) fun z => by cases z)
    exact x_call c1 (l + m - 1, l) hr (by decide) ⟨by show l ≤ l + m - 1; omega, by show l + m - 1 ≤ 8; omega⟩ (xa_cons (x_eI (x_sub (x_add (x_v 0) (x_v 1)) x_int) (by omega)) (xa_cons (x_v 0) xa_nil))
/-! width -/
abbrev sWidth : Stmt := top 31
theorem scWidth : FnScope ["order", "letters"] ["order", "letters"] (C8.fnScope sWidth) := C8.fnScope_by (by decide +kernel)
abbrev spWidth (K : PySem.W.Frag) (CO : Addr) : Sp := spF (fun _ : Ord × Nat => True) (fun a => [ordR K CO a.1, intR (a.2 : Int)]) fun a => intR ((a.2 : Int) - (riL a.1.1 a.1.2).length)
theorem c_width (F : Df K mg "width" sWidth) (M : Md K mg) (O : OrdC K mg CO) : C8.Cal P w K mg base 1 "width" (spWidth K CO) [] :=
  pure_def F (fun _ _ _ _ _ _ us hl => match us, hl with | [_, _], _ => rfl) scWidth 0 rfl (fun _ => rfl) fun f a cdv A outer s H E hp hr =>
    b_ret (x_sub (x_v 1) (x_eI (x_lenL M.len (x_fld O.ins.cl O.stp (x_v 0) rfl)) (by simp)))
/-! count_texts -/
abbrev sCountTexts : Stmt := top 32
theorem scCountTexts : FnScope ["order", "letters"] ["order", "letters"] (C8.fnScope sCountTexts) := C8.fnScope_by (by decide +kernel)
abbrev spCountTexts (K : PySem.W.Frag) (CO : Addr) : Sp := spF (fun a : Ord × Nat => okB a.1 a.2 = true) (fun a => [ordR K CO a.1, intR (a.2 : Int)]) fun a => intR (ctN a.1 a.2)
theorem c_count_texts (F : Df K mg "count_texts" sCountTexts) (M : Md K mg) (O : OrdC K mg CO) (c1 : C8.Cal P w K mg base 1 "check_order" (spCheckOrder K CO) []) (c2 : C8.Cal P w K mg base 3 "check_letters" spCheckLetters []) (c3 : C8.Cal P w K mg base 2 "rows_over" spRowsOver []) (c4 : C8.Cal P w K mg base 1 "width" (spWidth K CO) []) :
    C8.Cal P w K mg base 4 "count_texts" (spCountTexts K CO) [] :=
  pure_def F (fun _ _ _ _ _ _ us hl => match us, hl with | [_, _], _ => rfl) scCountTexts 0 rfl (fun _ => rfl) fun f a cdv A outer s H E hp hr => by
    obtain ⟨o, b⟩ := a
    have h1 := okB_ps hp
    have h2 : (riL o.1 o.2).length + 1 ≤ b ∧ b ≤ 4 := okB_b hp
    have hl : 1 ≤ o.1.length ∧ o.1.length ≤ 4 := okPs_len h1
    show XRs _ _ (fr0 [ordR K CO o, intR (b : Int)] 0) (intR (ctN o b))
    refine b_cons (n_expr (x_call c1 o hr (by decide) trivial (xa_cons (x_v 0) xa_nil))) (b_cons (n_expr (x_call c2 (b : Int) hr (by decide) ⟨by omega, by omega⟩ (xa_cons (x_v 1) xa_nil))) (b_ret ?_))
    exact x_call c3 (o.1.length, b - (riL o.1 o.2).length) hr (by decide) ⟨hl, by show 1 ≤ b - (riL o.1 o.2).length; omega, by show b - (riL o.1 o.2).length ≤ 4; omega⟩ (xa_cons (x_eI (x_lenT M.len (x_fld O.ins.cl O.row (x_v 0) rfl)) (by simp)) (xa_cons (x_eI (x_call c4 (o, b) hr (by decide) trivial (xa_cons (x_v 0) (xa_cons (x_v 1) xa_nil)) (hR := rfl) (R' := intR ((b : Int) - (riL o.1 o.2).length))) (by omega)) xa_nil))
/-! numbers_told -/
/-- the told letters less the rises before, along an order -/
def nuL (o : Ord) (t : List (Int × Int)) : List (Option Int) := (List.range o.1.length).map fun i => (getI t (o.1.getD i 0)).map fun v => v - rbN (riL o.1 o.2) i
def optD : Option Int → PyData
  | none => .none
  | some i => .int i
abbrev sNumbersTold : Stmt := top 34
theorem scNumbersTold : FnScope ["order", "facts", "told", "before", "place", "less"] ["order", "facts"] (C8.fnScope sNumbersTold) := C8.fnScope_by (by decide +kernel)
abbrev spNumbersTold (K : PySem.W.Frag) (CO : Addr) : Sp := spF (fun a : Ord × List (Int × Int) => okPs a.1.1 = true) (fun a => [ordR K CO a.1, ptR K (fsD a.2)]) fun a => dR K (.list ((nuL a.1 (mrg a.2)).map optD))
theorem c_numbers_told (F : Df K mg "numbers_told" sNumbersTold) (M : Md K mg) (O : OrdC K mg CO) (c1 : C8.Cal P w K mg base 1 "rises_before" (spRisesBefore K CO) []) : C8.Cal P w K mg base 2 "numbers_told" (spNumbersTold K CO) [] :=
  pure_def F (fun _ _ _ _ _ _ us hl => match us, hl with | [_, _], _ => rfl) scNumbersTold 4 rfl (fun _ => rfl) fun f a cdv A outer s H E hp hr => by
    obtain ⟨o, t⟩ := a
    replace hp : okPs o.1 = true := hp
    have hl := okPs_len hp
    have nd := scNumbersTold.nd
    have hu : (A.deeper (envOfC "numbers_told" (C8.fnScope sNumbersTold) s.heap.objs.size f cdv)).units + 1 < cLine := by have := hr.units; omega
    show XRs _ _ (fr0 [ordR K CO o, ptR K (fsD t)] 4) (dR K (.list ((nuL o (mrg t)).map optD)))
    refine b_cons (n_asgG (x_tupR (xa_cons (x_dictF rfl M.dict_ (x_v 1)) (xa_cons (x_call c1 o hr (by decide) hp (xa_cons (x_v 0) xa_nil)) xa_nil))) (xg_tup rfl (xgs_cons (xg_name 2 nd) (xgs_cons (xg_name 3 nd) xgs_nil))) (so trivial)) ?_
    refine b_ret (x_eqd (x_lc (n := o.1.length) (fun _ => true) (fun i => optD ((getI (mrg t) (o.1.getD i 0)).map fun v => v - rbN (riL o.1 o.2) i)) (own := [("place", 4), ("less", 5)]) (ks := [4, 5]) (fun i => [.is (ordR K CO o), .is (ptR K (fsD t)), .is (dcR (kI (mrg t))), .is (dR K (lstI (rbL (riL o.1 o.2) o.1.length))), .is (intR (o.1.getD i 0)), .is (intR ((rbL (riL o.1 o.2) o.1.length).getD i 0))]) rfl nd
      (xi_zipI (.inr rfl) (.inl rfl) (by unfold rbL; simp) M.zip_ (x_fld O.ins.cl O.row (x_v 0) rfl) (x_v 3)) (blkOk_by (own := [("place", 4), ("less", 5)]) (N := ["order", "facts", "told", "before", "place", "less"]) (sc := C8.fnScope sNumbersTold) (by decide +kernel)) (by omega) (nof trivial) (fun i _ => nof trivial) (w2 rfl rfl) (by decide)
      (fun _ _ _ _ _ i hi => xg_tup rfl (xgs_cons (xg_name 4 nd) (xgs_cons (xg_name 5 nd) xgs_nil))) (fun _ _ _ _ _ i hi => ts_nil) (fun _ _ _ _ _ i hi _ => ?_)) ?_)
    · have er : (rbL (riL o.1 o.2) o.1.length).getD i 0 = rbN (riL o.1 o.2) i := by
        unfold rbL
        rw [List.getD_eq_getElem?_getD, List.getElem?_map, List.getElem?_range hi]
        rfl
      cases hg : getI (mrg t) (o.1.getD i 0) with
      | none => exact x_if (k := false) (xt_is (xt_din (k := Sum.inl (o.1.getD i 0)) hu (x_v 4) (x_v 2)) (by rw [valV_kI, hg]; rfl)) (fun z => by cases z) fun _ => x_ofN x_non
      | some v => exact x_if (k := true) (xt_is (xt_din (k := Sum.inl (o.1.getD i 0)) hu (x_v 4) (x_v 2)) (by rw [valV_kI, hg]; rfl)) (fun _ => x_ofI (x_sub (x_dget (k := Sum.inl (o.1.getD i 0)) hu (x_v 2) (x_v 4) (by rw [valV_kI, hg]; rfl)) (x_eI (x_v 5) er))) fun z => by cases z
    · rw [lcD_all]
      unfold nuL
      rw [List.map_map]
      rfl
end
end Bo
set_option maxHeartbeats 4000000
/-! Several targets with new hidden lists; insert(0, ..); all([..]). -/
namespace Bo
open PySem L2
theorem set_own {Rs : Frm} {i x : Nat} {e : Ent} {P : Own} (h : (Rs.set i e)[x]? = some (.own P)) : (x = i ∧ e = .own P) ∨ Rs[x]? = some (.own P) := by
  by_cases hx : i = x
  · subst hx
    by_cases hi : i < Rs.length
    · rw [List.getElem?_set_self hi] at h
      exact .inl ⟨rfl, Option.some.inj h⟩
    · rw [List.set_eq_of_length_le (by omega)] at h
      exact .inr h
  · rw [List.getElem?_set_ne hx] at h
    exact .inr h
section
variable {X : Cx} {a b c d : Expr} {Rs : Frm} {P1 P2 : Own} {R3 R4 : Rel} {x1 x2 x3 x4 : Str} {p1 p2 p3 p4 pt pt2 pos : Pos} {kt k2 : Nat}
/-- x1, x2, x3, x4 = a, b, c, d: two new hidden things, two values -/
theorem n_asg4 (i j k l : Nat) (hc : X.calm = true) (ha : XO X a Rs P1) (hb : XO X b Rs P2) (h3 : XE X c Rs R3) (h4 : XE X d Rs R4) (hN : X.N.Nodup) (hd : i ≠ j ∧ i ≠ k ∧ i ≠ l ∧ j ≠ k ∧ j ≠ l ∧ k ≠ l) (hi : Rs[i]? = some .no) (hj : Rs[j]? = some .no) (hk : Rs[k]? = some .no) (hl : Rs[l]? = some .no)
    (n1 : X.N[i]? = some x1 := by rfl) (n2 : X.N[j]? = some x2 := by rfl) (n3 : X.N[k]? = some x3 := by rfl) (n4 : X.N[l]? = some x4 := by rfl) (l1 : Loc X.env.scope x1 := by first | exact Or.inl rfl | exact Or.inr rfl) (l2 : Loc X.env.scope x2 := by first | exact Or.inl rfl | exact Or.inr rfl) (l3 : Loc X.env.scope x3 := by first | exact Or.inl rfl | exact Or.inr rfl) (l4 : Loc X.env.scope x4 := by first | exact Or.inl rfl | exact Or.inr rfl)
    (f1 : X.fn x1 = true ∨ X.env.scope.names.lookup x1 = some .local := by first | exact .inl rfl | exact .inr rfl) (f2 : X.fn x2 = true ∨ X.env.scope.names.lookup x2 = some .local := by first | exact .inl rfl | exact .inr rfl) (f3 : X.fn x3 = true ∨ X.env.scope.names.lookup x3 = some .local := by first | exact .inl rfl | exact .inr rfl) (f4 : X.fn x4 = true ∨ X.env.scope.names.lookup x4 = some .local := by first | exact .inl rfl | exact .inr rfl)
    (hs : swapsWithSole [.Tuple [.Name x1 p1, .Name x2 p2, .Name x3 p3, .Name x4 p4] kt pt] (.Tuple [a, b, c, d] k2 pt2) pos.line X.env = pure false := by rfl) (hw : swappedStores [.Tuple [.Name x1 p1, .Name x2 p2, .Name x3 p3, .Name x4 p4] kt pt] (.Tuple [a, b, c, d] k2 pt2) X.env = pure none := by rfl)
    (h0 : (assignEach [.Tuple [.Name x1 p1, .Name x2 p2, .Name x3 p3, .Name x4 p4] kt pt] X.env).map (·.2) = [assign (.Tuple [.Name x1 p1, .Name x2 p2, .Name x3 p3, .Name x4 p4] kt pt) X.env] := by rfl)
    (e1 : (assignEach [.Name x1 p1, .Name x2 p2, .Name x3 p3, .Name x4 p4] X.env).map (·.2) = assign (.Name x1 p1) X.env :: (assignEach [.Name x2 p2, .Name x3 p3, .Name x4 p4] X.env).map (·.2) := by rfl)
    (e2 : (assignEach [.Name x2 p2, .Name x3 p3, .Name x4 p4] X.env).map (·.2) = assign (.Name x2 p2) X.env :: (assignEach [.Name x3 p3, .Name x4 p4] X.env).map (·.2) := by rfl) (e3 : (assignEach [.Name x3 p3, .Name x4 p4] X.env).map (·.2) = assign (.Name x3 p3) X.env :: (assignEach [.Name x4 p4] X.env).map (·.2) := by rfl)
    (e4 : (assignEach [.Name x4 p4] X.env).map (·.2) = [assign (.Name x4 p4) X.env] := by rfl) (hn : (assignEach [.Name x1 p1, .Name x2 p2, .Name x3 p3, .Name x4 p4] X.env).length = 4 := by rfl) (hst : (assignEach [.Name x1 p1, .Name x2 p2, .Name x3 p3, .Name x4 p4] X.env).findIdx? (·.1) = none := by rfl)
    (s1 : starEach [a, b, c, d] X.env = (false, eval a X.env) :: starEach [b, c, d] X.env := by rfl) (s2 : starEach [b, c, d] X.env = (false, eval b X.env) :: starEach [c, d] X.env := by rfl) (s3 : starEach [c, d] X.env = (false, eval c X.env) :: starEach [d] X.env := by rfl) (s4 : starEach [d] X.env = [(false, eval d X.env)] := by rfl) :
    XN X (.Assign [.Tuple [.Name x1 p1, .Name x2 p2, .Name x3 p3, .Name x4 p4] kt pt] (.Tuple [a, b, c, d] k2 pt2) pos) Rs ((((Rs.set i (.own P1)).set j (.own P2)).set k (.is R3)).set l (.is R4)) := by
  refine ps_imp (ps_asg (pe_tup (pa_cons ha (pa_cons hb (pa_cons h3 (pa_cons h4 pa_nil s4) s3) s2) s1)) (pg_tup hc (pgs_cons (pg_name hN n1 l1 f1) (pgs_cons (pg_name hN n2 l2 f2) (pgs_cons (pg_name hN n3 l3 f3) (pgs_cons (pg_name hN n4 l4 f4) pgs_nil e4) e3) e2) e1) hn hst) hs hw h0) fun D σ H ⟨Hv, ow, f, q⟩ => ?_
  refine ⟨Hv, ow, f, fun q1 u1 Hv1 H1 t1 g1 z1 w1 y1 r1 => ⟨Hv1, ow, g1, fun q2 u2 Hv2 H2 t2 g2 z2 w2 y2 r2 => ⟨Hv2, ow, g2, fun v3 Hv3 H3 t3 g3 r3 => ⟨Hv3, ow, g3, fun v4 Hv4 H4 t4 g4 r4 => ⟨by show 4 ≤ sizeLine; decide, fun T hT => ?_⟩⟩⟩⟩⟩
  obtain ⟨d1, d2, d3, d4, d5, d6⟩ := hd
  have lt : ∀ {i : Nat}, Rs[i]? = some .no → i < Rs.length := fun {i} h => (List.getElem?_eq_some_iff.mp h).1
  have nT : Al Hv4 H4 Hv4 (upd H4 T (.tup [.ref q1, .ref q2, v3, v4])) := ⟨same_new hT, .refl _, g4.sub.trans (same_new hT), fun _ _ e _ => e⟩
  have g5 := g4.al nT
  refine ⟨T, _, rfl, .inl (.inl upd_same), rfl, .ref q1, _, rfl, .ref q2, _, rfl, v3, _, rfl, v4, _, rfl, rfl, ?_⟩
  -- the two new things at the end
  have no1 : ¬ Owned Rs ow q1 := fun ⟨j, P, e, z⟩ => f.free z1 j P e z
  have no2 : ¬ Owned Rs ow q2 := fun ⟨j, P, e, z⟩ => g1.free z2 j P e z
  have st : Stp Hv1 H1 Rs ow Hv4 (upd H4 T (.tup [.ref q1, .ref q2, v3, v4])) := ((t2.trans t3).trans t4).trans nT.stp
  have a1 : upd H4 T (.tup [.ref q1, .ref q2, v3, v4]) q1 = some u1 := st.kp _ _ y1 no1
  have b1 : Hv4 q1 = none := st.hid _ _ w1 y1 no1
  have st2 : Stp Hv2 H2 Rs ow Hv4 (upd H4 T (.tup [.ref q1, .ref q2, v3, v4])) := (t3.trans t4).trans nT.stp
  have a2 : upd H4 T (.tup [.ref q1, .ref q2, v3, v4]) q2 = some u2 := st2.kp _ _ y2 no2
  have b2 : Hv4 q2 = none := st2.hid _ _ w2 y2 no2
  have hq2 : H q2 = none := by
    cases hq : H q2 with
    | none => rfl
    | some o =>
      obtain ⟨o', e'⟩ := t1.th q2 o hq
      rw [e'] at z2
      cases z2
  have ne12 : q1 ≠ q2 := fun z => by rw [z, z2] at y1; cases y1
  have nf : ∀ (P : Own), Rs[i]? ≠ some (.own P) := fun P e => by rw [hi] at e; cases e
  have nj : ∀ (P : Own), (Rs.set i (.own P1))[j]? ≠ some (.own P) := fun P e => by
    rw [List.getElem?_set_ne d1, hj] at e
    cases e
  have c1 := g5.come (P := P1) nf (lt hi) b1 a1 (P1.mono st.sv r1) fun j' Q e z => no1 ⟨j', Q, e, z⟩
  have c2 := c1.come (P := P2) nj (by rw [List.length_set]; exact lt hj) b2 a2 (P2.mono st2.sv r2) fun j' Q e z => by
    have z' : (if j' = i then q1 else ow j') = q2 := z
    by_cases hj' : j' = i
    · rw [if_pos hj'] at z'
      exact ne12 z'
    · rw [if_neg hj'] at z'
      rcases set_own e with ⟨e1, _⟩ | e1
      · exact hj' e1
      · exact no2 ⟨j', Q, e1, z'⟩
  have nk : ∀ (P : Own), ((Rs.set i (.own P1)).set j (.own P2))[k]? ≠ some (.own P) := fun P e => by
    rw [List.getElem?_set_ne d4, List.getElem?_set_ne d2, hk] at e
    cases e
  have c3 := c2.set nk (R3.mono t4.sv r3)
  have nl : ∀ (P : Own), (((Rs.set i (.own P1)).set j (.own P2)).set k (.is R3))[l]? ≠ some (.own P) := fun P e => by
    rw [List.getElem?_set_ne d6, List.getElem?_set_ne d5, List.getElem?_set_ne d3, hl] at e
    cases e
  have c4 := c3.set nl r4
  refine q _ _ _ _ ⟨t1.trans st, fun m P P' e e' => ?_, fun m P e => ?_⟩ c4
  · show (if m = j then q2 else if m = i then q1 else ow m) = ow m
    rw [if_neg (fun z => by rw [z, hj] at e; cases e), if_neg (fun z => by rw [z, hi] at e; cases e)]
  · show _ ∨ H (if m = j then q2 else if m = i then q1 else ow m) = none
    rcases set_own e with ⟨_, z⟩ | e
    · cases z
    · rcases set_own e with ⟨_, z⟩ | e
      · cases z
      · rcases set_own e with ⟨z, _⟩ | e
        · rw [if_pos z]
          exact .inr hq2
        · rcases set_own e with ⟨z, _⟩ | e
          · rw [if_neg (by rw [z]; exact d1), if_pos z]
            exact .inr z1
          · exact .inl ⟨P, e⟩
end
section
variable {X : Cx} {e a : Expr} {Rs : Frm} {px apos cpos pos p : Pos} {x : Str}
theorem mo_ins0 {K : PySem.W.Frag} {ds : List PyData} {d : PyData} (hl : ds.length < 100000) : MtO (fun x vs H Q => ∃ (l : Addr) (xs : List V) (i : Int) (y : V), x = .ref l ∧ vs = [.int i, y] ∧ H l = some (.lst xs) ∧ xs.length < sizeLine ∧ 0 ≤ i ∧ i < 2 ^ 63 ∧
    Q .non (upd H l (.lst (xs.take i.toNat ++ [y] ++ xs.drop i.toNat)))) (ownL K ds) (ownL K (d :: ds)) [intR 0, dR K d] := fun Hv H l u vs Q h1 h2 ⟨xs, e, h3⟩ r q => by
  cases vs with
  | nil => exact r.elim
  | cons v vs =>
    obtain ⟨r1, r2⟩ := r
    obtain ⟨w, ew, r2⟩ := r2.one
    refine ⟨l, xs, 0, w, rfl, by rw [ew, show v = .int 0 from r1], by rw [h2, e], ?_, by omega, by omega, q _ _ ⟨w :: xs, rfl, .cons r2 h3⟩⟩
    rw [dpAll_length h3]
    exact Nat.lt_of_lt_of_le hl (by decide)
theorem n_ins0 (i : Nat) {ds : List PyData} {d : PyData} (hi : Rs[i]? = some (.own (ownL X.K ds))) (h0 : XE X a Rs (intR 0)) (ha : XE X e Rs (dR X.K d)) (hl : ds.length < 100000) (hN : X.N[i]? = some x := by rfl) (hv : Vis X.env.scope x := by first | exact Or.inl rfl | exact Or.inr (Or.inl rfl) | exact Or.inr (Or.inr rfl)) (hd : (x == ("__debug__" : Str)) = false := by decide)
    (hcd : (x == ("__classdict__" : Str)) = false := by decide) (hsw : swapsWith (.Call (.Attribute (.Name x px) "insert" apos) [a, e] [] cpos) none pos.line X.env = pure false := by rfl) (hbase : attributeBase (.Name x px) "insert" X.env (eval (.Name x px) X.env) = eval (.Name x px) X.env := by rfl)
    (hfew : ((backTo cpos (starEach [a, e] X.env)).all (fun x => !x.1) && (backToKw cpos (keywordEach [] X.env)).all (fun x => x.1.isSome)
      && decide ([a, e].length + ([] : List Keyword).length + (if ([] : List Keyword).isEmpty then 0 else 1) < 30)) = true := by rfl)
    (hline : (apos.endLine == cpos.line) = true := by rfl) (hs : starEach [a, e] X.env = (false, eval a X.env) :: starEach [e] X.env := by rfl) (hs2 : starEach [e] X.env = [(false, eval e X.env)] := by rfl) (hpl : (backTo cpos (starEach [e] X.env)).any (·.1) = false := by rfl) :
    XN X (.Expr (.Call (.Attribute (.Name x px) "insert" apos) [a, e] [] cpos) pos) Rs (Rs.set i (.own (ownL X.K (d :: ds)))) :=
  n_mtO i hi PySem.F.plainAttrs_list PySem.F.slot_list_insert PySem.F.type_list_insert mt_insert (mo_ins0 hl) ty_own (pv i hN hv hd hcd) (xa_cons h0 (xa_cons ha xa_nil hs2) hs) hsw hbase hfew hline hs hpl
/-- all([..]) -/
theorem x_all {bs : List Bool} (hc : X.calm = true) (hm : X.mg "all" = none) (ha : XE X a Rs (dR X.K (.list (bs.map .bool)))) (hg : Gl X "all" := by rfl) (h1 : starEach [a] X.env = [(false, eval a X.env)] := by rfl) : XE X (.Call (.Name "all" p) [a] [] pos) Rs (blR (bs.all id)) := by
  refine x_callB (cr_all hc) (As := [dR X.K (.list (bs.map .bool))]) (R := blR (bs.all id)) (fun Hv H vs Q s h q => ?_) hm (by decide +kernel) (xa_cons ha xa_nil h1) hg (by decide) (by decide) h1 rfl
  obtain ⟨v, ev, h⟩ := h.one
  obtain ⟨b, xs, e, hs, g⟩ := dp_list h
  refine ⟨b, bs, by rw [ev, e], ?_, q _ _ _ (.refl s) rfl⟩
  rw [← dpAll_bls g]
  exact same_l s hs
end
section
variable {X : Cx} {a b c : Expr} {Rs : Frm} {Ra Rb Rc : Rel} {x y z : Str} {px py pz pt pt2 pos : Pos} {kt k2 : Nat}
theorem sts_any {Hv H Hv' H' : Hp} {ow : Nat → Addr} {Rs' : Frm} (s : Stp Hv H Rs ow Hv' H') (h : ∀ (j : Nat) (P : Own), Rs'[j]? = some (.own P) → ∃ P0, Rs[j]? = some (.own P0)) : StS Hv H Rs ow Hv' H' Rs' ow := ⟨s, fun _ _ _ _ _ => rfl, fun j P e => .inl (h j P e)⟩
theorem n_par3 (i j l : Nat) (ha : XE X a Rs Ra) (hb : XE X b Rs Rb) (hc : XE X c Rs Rc) (hcm : X.calm = true) (hN : X.N.Nodup) (hij : i ≠ j) (hil : i ≠ l) (hjl : j ≠ l) (hni : ∀ P, Rs[i]? ≠ some (Ent.own P) := by intro P z; cases z) (hnj : ∀ P, Rs[j]? ≠ some (Ent.own P) := by intro P z; cases z) (hnl : ∀ P, Rs[l]? ≠ some (Ent.own P) := by intro P z; cases z)
    (hi : X.N[i]? = some x := by rfl) (hj : X.N[j]? = some y := by rfl) (hl : X.N[l]? = some z := by rfl) (hx : X.env.scope.names.lookup x = some .local := by rfl) (hy : X.env.scope.names.lookup y = some .local := by rfl) (hz : X.env.scope.names.lookup z = some .local := by rfl)
    (hw : swappedStores [.Tuple [.Name x px, .Name y py, .Name z pz] kt pt] (.Tuple [a, b, c] k2 pt2) X.env = pure (some [x, y, z]) := by rfl) (hs : swapsWithSole [.Tuple [.Name x px, .Name y py, .Name z pz] kt pt] (.Tuple [a, b, c] k2 pt2) pos.line X.env = pure false := by rfl)
    (h1 : starEach [a, b, c] X.env = (false, eval a X.env) :: starEach [b, c] X.env := by rfl) (h2 : starEach [b, c] X.env = (false, eval b X.env) :: starEach [c] X.env := by rfl) (h3 : starEach [c] X.env = [(false, eval c X.env)] := by rfl) :
    XN X (.Assign [.Tuple [.Name x px, .Name y py, .Name z pz] kt pt] (.Tuple [a, b, c] k2 pt2) pos) Rs (((Rs.set i (.is Ra)).set j (.is Rb)).set l (.is Rc)) :=
  ps_imp (ps_par3 hcm hN hi hj hl hij hil hjl hx hy hz (xa_cons ha (xa_cons hb (xa_cons hc xa_nil h3) h2) h1) hw hs) fun D σ H ⟨Hv, ow, f, q⟩ => ⟨Hv, ow, f, fun vs Hv1 H1 s1 f1 r1 => by
    cases vs with
    | nil => exact r1.elim
    | cons u vs =>
      cases vs with
      | nil => exact r1.2.elim
      | cons v vs =>
        obtain ⟨r1, r2, r3⟩ := r1
        obtain ⟨w, e, r4⟩ := r3.one
        subst e
        have hn2 : ∀ P, (Rs.set i (.is Ra))[j]? ≠ some (Ent.own P) := fun P e => by
          rw [List.getElem?_set_ne hij] at e
          exact hnj P e
        have hn3 : ∀ P, ((Rs.set i (.is Ra)).set j (.is Rb))[l]? ≠ some (Ent.own P) := fun P e => by
          rw [List.getElem?_set_ne hjl, List.getElem?_set_ne hil] at e
          exact hnl P e
        refine ⟨u, v, w, rfl, q _ Hv1 H1 ow (sts_any s1 fun k P e => ?_) (((f1.set hni r1).set hn2 r2).set hn3 r4)⟩
        rcases set_own e with ⟨_, z⟩ | e
        · cases z
        · rcases set_own e with ⟨_, z⟩ | e
          · cases z
          · rcases set_own e with ⟨_, z⟩ | e
            · cases z
            · exact ⟨P, e⟩⟩
end
/-- in any order -/
theorem ns_if {X : Cx} {c : Expr} {a b : List Stmt} {Rs Rs' : Frm} {pos : Pos} {k : Bool} (h : XT X c Rs k) (h1 : k = true → XNs X a Rs Rs') (h2 : k = false → XNs X b Rs Rs') : XNs X [.If c a b pos] Rs Rs' := ns_one (n_if h h1 h2)
end Bo
set_option maxHeartbeats 4000000
namespace Bo
open PySem L2
open PyProof.Rows (envOfC)
/-! the least and greatest numbers along an order -/
def loN (row : List (Option Int)) (most : Int) : Nat → Int
  | 0 => 0
  | i + 1 => match row.getD i none with
    | none => loN row most i
    | some v => if loN row most i ≤ v then v else most + 1
def hiN (rev : List (Option Int)) (most : Int) : Nat → Int
  | 0 => most
  | i + 1 => match rev.getD i none with
    | none => hiN rev most i
    | some v => min (hiN rev most i) v
def loL (row : List (Option Int)) (most : Int) (n : Nat) : List Int := (List.range n).map fun i => loN row most (i + 1)
def hiL (rev : List (Option Int)) (most : Int) : Nat → List Int
  | 0 => []
  | i + 1 => hiN rev most (i + 1) :: hiL rev most i
theorem loL_len {row : List (Option Int)} {most : Int} {n : Nat} : (loL row most n).length = n := by unfold loL; simp
theorem hiL_len {row : List (Option Int)} {most : Int} : ∀ {n : Nat}, (hiL row most n).length = n
  | 0 => rfl
  | n + 1 => by
    show (hiL row most n).length + 1 = n + 1
    rw [hiL_len]
def leL (a b : List Int) : List Bool := (List.range a.length).map fun i => decide (a.getD i 0 ≤ b.getD i 0)
def enO (row : List (Option Int)) (most : Int) : Option (List Int × List Int) :=
  if (leL (loL row most row.length) (hiL row.reverse most row.length)).all id = true then some (loL row most row.length, hiL row.reverse most row.length) else none
def enD : Option (List Int × List Int) → PyData
  | none => .none
  | some p => .tuple [lstI p.1, lstI p.2]
/-- of an order, letters, facts -/
def enT (o : Ord) (b : Nat) (t : List (Int × Int)) : Option (List Int × List Int) := enO (nuL o (mrg t)) ((b : Int) - (riL o.1 o.2).length - 1)
theorem nuL_len {o : Ord} {t : List (Int × Int)} : (nuL o t).length = o.1.length := by unfold nuL; simp
theorem nth_opt {row : List (Option Int)} {i : Nat} (h : i < row.length) : nthD (row.map optD) i = optD (row.getD i none) := by
  refine nthD_of ?_
  rw [List.getElem?_map, List.getElem?_eq_getElem h, List.getD_eq_getElem?_getD, List.getElem?_eq_getElem h]
  rfl
theorem xi_opt {X : Cx} {tg e : Expr} {Rs : Frm} {row : List (Option Int)} (h : XE X e Rs (dR X.K (.list (row.map optD)))) : XI X tg e Rs row.length (fun i => dR X.K (optD (row.getD i none))) := by
  have z := xi_list (tg := tg) h
  rw [List.length_map] at z
  exact xi_weak z fun k hk H v q => by
    rw [← nth_opt hk]
    exact q
theorem xt_optN {X : Cx} {a : Expr} {Rs : Frm} {o : Option Int} {j pos' pos} (h : XE X a Rs (dR X.K (optD o))) : XT X (.Compare a [.Is] [.Constant .none j pos'] pos) Rs o.isNone := xt_isN' h fun H v r => by
  cases o with
  | none =>
    rw [dp_non r]
    rfl
  | some i =>
    rw [dp_int r]
    rfl
section
variable {P : Program} {w : World} {K : PySem.W.Frag} {mg : Str → Option Value} {base : Heap} {CO : Addr}
abbrev sEndsTold : Stmt := top 35
abbrev nEnds : List Str := ["order", "letters", "facts", "row", "most", "lows", "highs", "low", "high", "number", "one", "other"]
theorem scEndsTold : FnScope nEnds ["order", "letters", "facts"] (C8.fnScope sEndsTold) := C8.fnScope_by (by decide +kernel)
abbrev spEndsTold (K : PySem.W.Frag) (CO : Addr) : Sp := spF (fun a : Ord × Nat × List (Int × Int) => okPs a.1.1 = true) (fun a => [ordR K CO a.1, intR (a.2.1 : Int), ptR K (fsD a.2.2)]) fun a => dR K (enD (enT a.1 a.2.1 a.2.2))
theorem c_ends_told (F : Df K mg "ends_told" sEndsTold) (M : Md K mg) (O : OrdC K mg CO) (c1 : C8.Cal P w K mg base 2 "numbers_told" (spNumbersTold K CO) []) (c2 : C8.Cal P w K mg base 1 "width" (spWidth K CO) []) : C8.Cal P w K mg base 3 "ends_told" (spEndsTold K CO) [] :=
  pure_def F (fun _ _ _ _ _ _ us hl => match us, hl with | [_, _, _], _ => rfl) scEndsTold 9 rfl (fun _ => rfl) fun f a cdv A outer s H E hp hr => by
    obtain ⟨o, b, t⟩ := a
    replace hp : okPs o.1 = true := hp
    have hl := okPs_len hp
    have nd := scEndsTold.nd
    show XRs _ _ (fr0 [ordR K CO o, intR (b : Int), ptR K (fsD t)] 9) (dR K (enD (enT o b t)))
    have hrow : (nuL o (mrg t)).length = o.1.length := nuL_len
    unfold enT
    refine b_cons (n_par 3 4 (x_call c1 (o, t) hr (by decide) hp (xa_cons (x_v 0) (xa_cons (x_v 2) xa_nil))) (x_sub (x_call c2 (o, b) hr (by decide) trivial (xa_cons (x_v 0) (xa_cons (x_v 1) xa_nil))) x_int) rfl nd (by decide)) ?_
    show PSs _ _ (tXR [] [.is (ordR K CO o), .is (intR (b : Int)), .is (ptR K (fsD t)), .is (dR K (.list ((nuL o (mrg t)).map optD))), .is (intR ((b : Int) - (riL o.1 o.2).length - 1)), .no, .no, .no, .no, .no, .no, .no] _)
    revert hrow
    generalize nuL o (mrg t) = row
    generalize (b : Int) - (riL o.1 o.2).length - 1 = most
    intro hrow
    refine b_cons (n_asg4 5 6 7 8 rfl (o_lst (ds := []) xa_nil) (o_lst (ds := []) xa_nil) x_int (x_v 4) nd (by decide) rfl rfl rfl rfl) ?_
    refine b_cons (n_for (fun i => [.is (ordR K CO o), .is (intR (b : Int)), .is (ptR K (fsD t)), .is (dR K (.list (row.map optD))), .is (intR most), .own (ownL K ((loL row most i).map .int)), .own (ownL K []), .is (intR (loN row most i)), .is (intR most), .no, .no, .no])
      (fun i => [.is (ordR K CO o), .is (intR (b : Int)), .is (ptR K (fsD t)), .is (dR K (.list (row.map optD))), .is (intR most), .own (ownL K ((loL row most i).map .int)), .own (ownL K []), .is (intR (loN row most i)), .is (intR most), .is (dR K (optD (row.getD i none))), .no, .no])
      (xi_opt (x_v 3)) rfl rfl PassesOwn.never (fun i _ => so trivial) (fun i _ => so trivial) (fun i hi => xg_name 9 nd) fun i hi => ?_) ?_
    · refine ns_eq (ns_forget 9 (nc (n_set 7 (R := intR (loN row most (i + 1))) ?_ nd) (ns_one (n_append 5 rfl (x_ofI (x_v 7)) ?_)) (own1 trivial))) ?_
      · show XE _ _ _ (intR (match row.getD i none with
          | none => loN row most i
          | some v => if loN row most i ≤ v then v else most + 1))
        cases hg : row.getD i none with
        | none => exact x_if (k := true) (xt_is (xt_optN (o := none) (x_v 9)) rfl) (fun _ => x_v 7) fun z => by cases z
        | some v =>
          refine x_if (k := false) (xt_is (xt_optN (o := some v) (x_v 9)) rfl) (fun z => by cases z) fun _ => x_if (xt_ge (x_toI (x_v 9)) (x_v 7)) (fun hk => x_eI (x_toI (x_v 9)) ?_) (fun hk => x_eI (x_add (x_v 4) x_int) ?_)
          · exact (if_pos (of_decide_eq_true hk)).symm
          · exact (if_neg (of_decide_eq_false hk)).symm
      · rw [List.length_map, loL_len]
        omega
      · refine frm_c (frm_c (frm_c (frm_c (frm_c (frm_own ?_ rfl)))))
        unfold loL
        rw [List.range_succ, List.map_append, List.map_append]
        rfl
    refine b_cons (n_for (fun i => [.is (ordR K CO o), .is (intR (b : Int)), .is (ptR K (fsD t)), .is (dR K (.list (row.map optD))), .is (intR most), .own (ownL K ((loL row most row.length).map .int)), .own (ownL K ((hiL row.reverse most i).map .int)), .is (intR (loN row most row.length)), .is (intR (hiN row.reverse most i)), .no, .no, .no])
      (fun i => [.is (ordR K CO o), .is (intR (b : Int)), .is (ptR K (fsD t)), .is (dR K (.list (row.map optD))), .is (intR most), .own (ownL K ((loL row most row.length).map .int)), .own (ownL K ((hiL row.reverse most i).map .int)), .is (intR (loN row most row.length)), .is (intR (hiN row.reverse most i)), .is (dR K (optD (row.reverse.getD i none))), .no, .no])
      (n := row.reverse.length) (xi_opt (x_eqd (x_dt (x_revL (x_v 3))) (by rw [List.map_reverse]))) rfl rfl PassesOwn.never (fun i _ => so trivial) (fun i _ => so trivial) (fun i hi => xg_name 9 nd) fun i hi => ?_) ?_
    · rw [List.length_reverse] at hi
      refine ns_eq (ns_forget 9 (nc (n_set 8 (R := intR (hiN row.reverse most (i + 1))) ?_ nd) (ns_one (n_ins0 6 rfl x_int (x_ofI (x_v 8)) ?_)) (own1 trivial))) ?_
      · show XE _ _ _ (intR (match row.reverse.getD i none with
          | none => hiN row.reverse most i
          | some v => min (hiN row.reverse most i) v))
        cases hg : row.reverse.getD i none with
        | none => exact x_if (k := true) (xt_is (xt_optN (o := none) (x_v 9)) rfl) (fun _ => x_v 8) fun z => by cases z
        | some v => exact x_if (k := false) (xt_is (xt_optN (o := some v) (x_v 9)) rfl) (fun z => by cases z) fun _ => x_min2 rfl M.min_ (x_v 8) (x_toI (x_v 9))
      · rw [List.length_map, hiL_len]
        omega
      · rfl
    rw [List.length_reverse]
    refine reveal 5 rfl (reveal 6 rfl (b_ret ?_))
    have ll : (loL row most row.length).length = (hiL row.reverse most row.length).length := by rw [loL_len, hiL_len]
    have l4 : (loL row most row.length).length ≤ 4 := by rw [loL_len]; omega
    unfold enO
    refine x_if (k := (leL (loL row most row.length) (hiL row.reverse most row.length)).all id) (xt_val (x_all rfl M.all_ (x_eqd (x_lc (n := (loL row most row.length).length) (fun _ => true) (fun i => .bool (decide ((loL row most row.length).getD i 0 ≤ (hiL row.reverse most row.length).getD i 0))) (own := [("one", 10), ("other", 11)]) (ks := [10, 11])
      (fun i => [.is (ordR K CO o), .is (intR (b : Int)), .is (ptR K (fsD t)), .is (dR K (.list (row.map optD))), .is (intR most), .is (dR K (lstI (loL row most row.length))), .is (dR K (lstI (hiL row.reverse most row.length))), .is (intR (loN row most row.length)), .is (intR (hiN row.reverse most row.length)), .no, .is (intR ((loL row most row.length).getD i 0)), .is (intR ((hiL row.reverse most row.length).getD i 0))]) rfl nd
      (xi_zipI (.inl rfl) (.inl rfl) ll M.zip_ (x_v 5) (x_v 6)) (blkOk_by (own := [("one", 10), ("other", 11)]) (N := nEnds) (sc := C8.fnScope sEndsTold) (by decide +kernel)) (by omega) (nof trivial) (fun i _ => nof trivial) (w2 rfl rfl) (by decide)
      (fun _ _ _ _ _ i hi => xg_tup rfl (xgs_cons (xg_name 10 nd) (xgs_cons (xg_name 11 nd) xgs_nil))) (fun _ _ _ _ _ i hi => ts_nil) (fun _ _ _ _ _ i hi _ => x_ofB (x_le (x_v 10) (x_v 11)))) ?_))) (fun hk => ?_) fun hk => ?_
    · rw [lcD_all]
      unfold leL
      rw [List.map_map]
      rfl
    · rw [if_pos hk]
      exact x_tup (xa_cons (x_v 5) (xa_cons (x_v 6) xa_nil))
    · rw [if_neg (by rw [hk]; exact Bool.false_ne_true)]
      exact x_ofN x_non
end
end Bo
set_option maxHeartbeats 4000000
namespace Bo
open PySem L2
open PyProof.Rows (envOfC)
/-- how many, turn by turn: what is found, how many stand free -/
def exL (row : List (Option Int)) (hi : List Int) : List (Option Int) := row ++ [some (hi.getD (hi.length - 1) 0)]
def lwN (lo : List Int) (i fr : Nat) (v : Int) : Int := if 0 < fr then lo.getD (i - fr) 0 else v
def maS (row : List (Option Int)) (lo hi : List Int) : Nat → Int × Nat
  | 0 => (1, 0)
  | i + 1 => match (exL row hi).getD i none with
    | none => ((maS row lo hi i).1, (maS row lo hi i).2 + 1)
    | some v => ((maS row lo hi i).1 * chN (((maS row lo hi i).2 : Int) + v - lwN lo i (maS row lo hi i).2 v).toNat (maS row lo hi i).2, 0)
/-- what the walk through it needs, turn by turn -/
def okM1 (row : List (Option Int)) (lo hi : List Int) (i : Nat) : Bool :=
  let fr := (maS row lo hi i).2
  decide (fr ≤ i ∧ fr ≤ 4) && match (exL row hi).getD i none with
    | none => true
    | some v => let l := lwN lo i fr v
      decide ((0 < fr → i - fr < lo.length) ∧ l ≤ v ∧ v - l ≤ 4) && decide (0 ≤ (maS row lo hi i).1 ∧ (maS row lo hi i).1 ≤ 100) && decide (0 ≤ chN ((fr : Int) + v - l).toNat fr ∧ chN ((fr : Int) + v - l).toNat fr ≤ 100)
def okMa (row : List (Option Int)) (lo hi : List Int) : Bool := (List.range (row.length + 1)).all (okM1 row lo hi)
def maO (row : List (Option Int)) (e : Option (List Int × List Int)) : Int := match e with
  | none => 0
  | some p => (maS row p.1 p.2 (row.length + 1)).1
def maT (o : Ord) (b : Nat) (t : List (Int × Int)) : Int := maO (nuL o (mrg t)) (enT o b t)
def okT (o : Ord) (b : Nat) (t : List (Int × Int)) : Bool := match enT o b t with
  | none => true
  | some p => okMa (nuL o (mrg t)) p.1 p.2
theorem enO_len {row : List (Option Int)} {m : Int} {p : List Int × List Int} (h : enO row m = some p) : p.1.length = row.length ∧ p.2.length = row.length := by
  unfold enO at h
  split at h
  · have e := Option.some.inj h
    subst e
    exact ⟨loL_len, hiL_len⟩
  · cases h
theorem last_eq {ns : List Int} (h : ns ≠ []) : ns = ns.dropLast ++ [ns.getD (ns.length - 1) 0] := by
  have e := (List.dropLast_concat_getLast h).symm
  rw [List.getLast_eq_getElem] at e
  rw [List.getD_eq_getElem?_getD, List.getElem?_eq_getElem (by have := List.length_pos_iff.mpr h; omega)]
  exact e
theorem x_lastI {X : Cx} {a b : Expr} {Rs : Frm} {pos : Pos} {ns : List Int} (h : ns ≠ []) (ha : XE X a Rs (dR X.K (lstI ns))) (hb : XE X b Rs (intR (-1))) (hs : PlainIx b := by exact fun _ _ => rfl) : XE X (.Subscript a b pos) Rs (intR (ns.getD (ns.length - 1) 0)) :=
  x_toI (x_lastL (ds := ns.dropLast.map .int) (x_eqd ha (by
    show PyData.list _ = PyData.list _
    congr 1
    conv => lhs; rw [last_eq h]
    rw [List.map_append]
    rfl)) hb hs)
theorem xi_enumO {X : Cx} {e : Expr} {Rs : Frm} {p pos tpos : Pos} {elts : List Expr} {kk : Nat} {row : List (Option Int)} (hm : X.mg "enumerate" = none) (h : XE X e Rs (dR X.K (.list (row.map optD)))) (hg : Gl X "enumerate" := by rfl) (hs : starEach [e] X.env = [(false, eval e X.env)] := by rfl) :
    XI X (.Tuple elts kk tpos) (.Call (.Name "enumerate" p) [e] [] pos) Rs row.length (fun i => tupsR X.K [intR (i : Nat), dR X.K (optD (row.getD i none))]) := by
  have z := xi_enum (elts := elts) (kk := kk) (tpos := tpos) (p := p) (pos := pos) (.inl rfl) hm h hg hs
  rw [List.length_map] at z
  refine xi_weak z fun k hk H v ⟨a, xs, e, h1, h2⟩ => ⟨a, xs, e, h1, ?_⟩
  match xs, h2 with
  | [u, w], ⟨g1, g2, _⟩ =>
    have g2' : Dp X.K H w (nthD (row.map optD) k) := g2
    rw [nth_opt hk] at g2'
    exact ⟨g1, g2', trivial⟩
/-- [*xs, e] -/
theorem x_starL {X : Cx} {e a : Expr} {Rs : Frm} {ds : List PyData} {d : PyData} {p pos : Pos} (he : XE X e Rs (dR X.K (.list ds))) (ha : XE X a Rs (dR X.K d)) (hl : ds.length + 1 ≤ 100000) (hs : starEach [.Starred e p, a] X.env = (true, eval e X.env) :: starEach [a] X.env := by rfl) (h1 : starEach [a] X.env = [(false, eval a X.env)] := by rfl) :
    XE X (.List [.Starred e p, a] pos) Rs (dR X.K (.list (ds ++ [d]))) := pe_imp (pe_lst (StX.pa_star he (xa_cons ha xa_nil h1) hs)) fun σ H Q ⟨Hv, ow, f, q⟩ => ⟨Hv, ow, f, fun v Hv1 H1 s1 f1 r1 => by
  obtain ⟨b, xs, e, h2, h3⟩ := dp_list r1
  refine ⟨b, xs, e, .inr (same_l f1.sub h2), Hv1, ow, f1, fun vs Hv2 H2 s2 f2 r2 => ?_⟩
  obtain ⟨w, ew, r3⟩ := r2.one
  subst ew
  have hlen : (xs ++ [w]).length = ds.length + 1 := by rw [List.length_append, dpAll_length h3] <;> rfl
  refine ⟨by rw [hlen]; exact Nat.le_trans hl (by decide), fun T hT => ?_⟩
  have al := Al.new (o := .lst (xs ++ [w])) f2.sub hT
  exact q _ _ _ ((s1.trans s2).trans al.stp) (f2.al al) (.lst (.inl (.inl upd_same)) (dpAll_snoc (dpAll_mono (s2.sv.trans al.sv) _ _ h3) (dp_mono al.sv _ _ r3)))⟩
section
variable {P : Program} {w : World} {K : PySem.W.Frag} {mg : Str → Option Value} {base : Heap} {CO : Addr}
abbrev sManyTold : Stmt := top 36
abbrev nMany : List Str := ["order", "letters", "facts", "ends", "row", "found", "free", "at", "number", "low"]
theorem scManyTold : FnScope nMany ["order", "letters", "facts"] (C8.fnScope sManyTold) := C8.fnScope_by (by decide +kernel)
abbrev spManyTold (K : PySem.W.Frag) (CO : Addr) : Sp := spF (fun a : Ord × Nat × List (Int × Int) => okPs a.1.1 = true ∧ okT a.1 a.2.1 a.2.2 = true) (fun a => [ordR K CO a.1, intR (a.2.1 : Int), ptR K (fsD a.2.2)]) fun a => intR (maT a.1 a.2.1 a.2.2)
theorem c_many_told (F : Df K mg "many_told" sManyTold) (M : Md K mg) (O : OrdC K mg CO) (c1 : C8.Cal P w K mg base 2 "numbers_told" (spNumbersTold K CO) []) (c2 : C8.Cal P w K mg base 3 "ends_told" (spEndsTold K CO) []) (c3 : C8.Cal P w K mg base 1 "choose" spChoose []) : C8.Cal P w K mg base 4 "many_told" (spManyTold K CO) [] :=
  pure_def F (fun _ _ _ _ _ _ us hl => match us, hl with | [_, _, _], _ => rfl) scManyTold 7 rfl (fun _ => rfl) fun f a cdv A outer s H E hp hr => by
    obtain ⟨o, b, t⟩ := a
    obtain ⟨hp, hk⟩ := hp
    replace hp : okPs o.1 = true := hp
    replace hk : okT o b t = true := hk
    have hl := okPs_len hp
    have nd := scManyTold.nd
    show XRs _ _ (fr0 [ordR K CO o, intR (b : Int), ptR K (fsD t)] 7) (intR (maT o b t))
    refine b_cons (n_set 3 (x_call c2 (o, b, t) hr (by decide) hp (xa_cons (x_v 0) (xa_cons (x_v 1) (xa_cons (x_v 2) xa_nil)))) nd) ?_
    have hrow : (nuL o (mrg t)).length = o.1.length := nuL_len
    unfold maT
    unfold okT at hk
    cases he : enT o b t with
    | none =>
      exact b_if (k := true) (xt_isN' (x_v 3) fun H v r => by rw [dp_non r] <;> rfl) (fun _ => b_ret x_int) fun z => by cases z
    | some e =>
      rw [he] at hk
      have hle := enO_len (show enO (nuL o (mrg t)) _ = some e from he)
      refine b_if (k := false) (xt_isN' (R := dR K (.tuple [lstI e.1, lstI e.2])) (x_v 3) fun H v r => by
        obtain ⟨a, xs, ea, _⟩ := dp_tup r
        rw [ea]
        rfl) (fun z => by cases z) fun _ => ?_
      show PSs _ _ (tXR [] [.is (ordR K CO o), .is (intR (b : Int)), .is (ptR K (fsD t)), .is (dR K (.tuple [lstI e.1, lstI e.2])), .no, .no, .no, .no, .no, .no] _)
      refine b_cons (n_par3 4 5 6 (x_call c1 (o, t) hr (by decide) hp (xa_cons (x_v 0) (xa_cons (x_v 2) xa_nil))) x_int x_int rfl nd (by decide) (by decide) (by decide)) ?_
      show PSs _ _ (tXR [] [.is (ordR K CO o), .is (intR (b : Int)), .is (ptR K (fsD t)), .is (dR K (.tuple [lstI e.1, lstI e.2])), .is (dR K (.list ((nuL o (mrg t)).map optD))), .is (intR 1), .is (intR 0), .no, .no, .no] (intR (maO (nuL o (mrg t)) (some e))))
      replace hk : okMa (nuL o (mrg t)) e.1 e.2 = true := hk
      revert hrow hk hle
      generalize nuL o (mrg t) = row
      intro hrow hle hk
      obtain ⟨lo, hh⟩ := e
      have hle : lo.length = row.length ∧ hh.length = row.length := hle
      have hk : okMa row lo hh = true := hk
      show PSs _ _ (tXR [] [.is (ordR K CO o), .is (intR (b : Int)), .is (ptR K (fsD t)), .is (dR K (.tuple [lstI lo, lstI hh])), .is (dR K (.list (row.map optD))), .is (intR 1), .is (intR 0), .no, .no, .no] (intR (maS row lo hh (row.length + 1)).1))
      have hex : (row.map optD ++ [.int (hh.getD (hh.length - 1) 0)]) = (exL row hh).map optD := by
        unfold exL
        rw [List.map_append]
        rfl
      have hne : hh ≠ [] := fun z => by
        have h2 := hle.2
        rw [z] at h2
        simp at h2
        omega
      have hel : (exL row hh).length = row.length + 1 := by
        unfold exL
        simp
      refine b_cons (n_eq (n_for (fun i => [.is (ordR K CO o), .is (intR (b : Int)), .is (ptR K (fsD t)), .is (dR K (.tuple [lstI lo, lstI hh])), .is (dR K (.list (row.map optD))), .is (intR (maS row lo hh i).1), .is (intR ((maS row lo hh i).2 : Int)), .no, .no, .no])
        (fun i => [.is (ordR K CO o), .is (intR (b : Int)), .is (ptR K (fsD t)), .is (dR K (.tuple [lstI lo, lstI hh])), .is (dR K (.list (row.map optD))), .is (intR (maS row lo hh i).1), .is (intR ((maS row lo hh i).2 : Int)), .is (intR (i : Nat)), .is (dR K (optD ((exL row hh).getD i none))), .no])
        (n := (exL row hh).length) (I := fun i => tupsR K [intR (i : Nat), dR K (optD ((exL row hh).getD i none))]) ?_ rfl rfl PassesOwn.never (fun i _ => so trivial) (fun i _ => so trivial) (fun i hi => xg_tup rfl (xgs_cons (xg_name 7 nd) (xgs_cons (xg_name 8 nd) xgs_nil))) fun i hi => ?_) (by rw [hel])) ?_
      · exact xi_enumO M.enum (x_eqd (x_starL (x_v 4) (x_ofI (x_lastI hne (x_ixT (i := 1) (x_v 3) x_int rfl) (x_neg x_int))) (by rw [List.length_map]; omega)) (by rw [hex]))
      · have okm : okM1 row lo hh i = true := List.all_eq_true.mp hk i (List.mem_range.mpr (by omega))
        refine ns_eq (ns_forget 7 (ns_forget 8 (ns_if (k := ((exL row hh).getD i none).isNone) (xt_optN (x_v 8)) (Rs' := [.is (ordR K CO o), .is (intR (b : Int)), .is (ptR K (fsD t)), .is (dR K (.tuple [lstI lo, lstI hh])), .is (dR K (.list (row.map optD))), .is (intR (maS row lo hh (i + 1)).1), .is (intR ((maS row lo hh (i + 1)).2 : Int)), .is (intR (i : Nat)), .is (dR K (optD ((exL row hh).getD i none))), .no]) (fun hn => ?_) fun hn => ?_))) rfl
        · have eg : (exL row hh).getD i none = none := by
            cases h : (exL row hh).getD i none with
            | none => rfl
            | some v => rw [h] at hn; cases hn
          have e1 : maS row lo hh (i + 1) = ((maS row lo hh i).1, (maS row lo hh i).2 + 1) := by
            show (match (exL row hh).getD i none with
              | none => ((maS row lo hh i).1, (maS row lo hh i).2 + 1)
              | some v => _) = _
            rw [eg]
          rw [e1]
          exact ns_eq (ns_one (n_set 6 (x_add (x_v 6) x_int) nd)) rfl
        · cases eg : (exL row hh).getD i none with
          | none => rw [eg] at hn; cases hn
          | some v =>
            have e1 : maS row lo hh (i + 1) = ((maS row lo hh i).1 * chN (((maS row lo hh i).2 : Int) + v - lwN lo i (maS row lo hh i).2 v).toNat (maS row lo hh i).2, 0) := by
              show (match (exL row hh).getD i none with
                | none => _
                | some v => ((maS row lo hh i).1 * chN (((maS row lo hh i).2 : Int) + v - lwN lo i (maS row lo hh i).2 v).toNat (maS row lo hh i).2, 0)) = _
              rw [eg]
            rw [e1]
            unfold okM1 at okm
            rw [eg] at okm
            simp only [Bool.and_eq_true, decide_eq_true_eq] at okm
            generalize hms : maS row lo hh i = ms at okm e1 ⊢
            obtain ⟨fd, fr⟩ := ms
            obtain ⟨⟨o1, o2⟩, ⟨⟨o3, o4, o5⟩, o6⟩, o7⟩ := okm
            have o3' : 0 < fr → i - fr < lo.length := o3
            replace o1 : fr ≤ i := o1
            replace o2 : fr ≤ 4 := o2
            replace o4 : lwN lo i fr v ≤ v := o4
            replace o5 : v - lwN lo i fr v ≤ 4 := o5
            replace o6 : 0 ≤ fd ∧ fd ≤ 100 := o6
            replace o7 : 0 ≤ chN ((fr : Int) + v - lwN lo i fr v).toNat fr ∧ chN ((fr : Int) + v - lwN lo i fr v).toNat fr ≤ 100 := o7
            refine ns_eq (ns_forget 9 (nc (n_set 9 (R := intR (lwN lo i fr v)) (x_if (k := decide (0 < fr)) (xt_is (xt_gt (x_v 6) x_int) (by simp)) (fun hf => ?_) fun hf => ?_) nd) (nc (n_set 5 (x_mul (cmx o6 o7) (x_v 5) (x_call c3 (((fr : Int) + v - lwN lo i fr v).toNat, fr) hr (by decide) ⟨by show fr ≤ ((fr : Int) + v - lwN lo i fr v).toNat; omega, by show ((fr : Int) + v - lwN lo i fr v).toNat ≤ 8; omega⟩ (xa_cons (x_eI (x_sub (x_add (x_v 6) (x_toI (x_v 8))) (x_v 9)) (by omega)) (xa_cons (x_v 6) xa_nil)))) nd) (ns_one (n_set 6 x_int nd)) (own1 trivial)) (own1 trivial))) rfl
            · have hf' : 0 < fr := of_decide_eq_true hf
              unfold lwN
              rw [if_pos hf']
              exact x_toI (x_ixL (i := i - fr) (x_ixT (i := 0) (x_v 3) x_int rfl) (x_eI (x_sub (x_v 7) (x_v 6)) (by omega)) (getI_int (o3' hf')))
            · have hf' : ¬ 0 < fr := of_decide_eq_false hf
              unfold lwN
              rw [if_neg hf']
              exact x_toI (x_v 8)
      · exact b_ret (x_v 5)
end
end Bo
set_option maxHeartbeats 4000000
/-! list(zip(xs, ys, zs)): the zip keeps the tuple that it gave out, so each further one is new. -/
namespace Bo
open PySem PySem.Spec L2
open PyProof.Rows hiding St
theorem zip_noLen : typeLookup (.type "zip") "__len__" = pure none := by rw [typeLookup_type, builtinLookup_eq_fast]; kernel_rfl
theorem zip_noHint : typeLookup (.type "zip") "__length_hint__" = pure none := by rw [typeLookup_type, builtinLookup_eq_fast]; kernel_rfl
section
variable {prog : Program} {w : World} {A : Around} {E : Value → Shared → Prop} {s : Shared} {z TI TO T i1 i2 i3 : Addr} {fp1 fp2 fp3 : List Addr} {n i : Nat} {P1 P2 P3 : Nat → Value → Prop} {St1 St2 St3 : Nat → Heap → Prop} {f : Bool} {oT : Obj}
theorem zh_item {Q : Value → Shared → Prop} (S : ZipSep3 z TI TO i1 i2 i3 fp1 fp2 fp3) (D1 : Draws prog w A i1 fp1 n P1 St1) (D2 : Draws prog w A i2 fp2 n P2 St2) (D3 : Draws prog w A i3 fp3 n P3 St3)
    (hz : IsZipHeld s.heap z TI TO T f) (hT : s.heap.get? T = some oT) (hTI : IsTupOf3 s.heap TI (.ref i1) (.ref i2) (.ref i3)) (s1 : St1 i s.heap) (s2 : St2 i s.heap) (s3 : St3 i s.heap) (lt : i < n)
    (q : ∀ y1 y2 y3 m tk, P1 i y1 → P2 i y2 → P3 i y3 → IsZipHeld m z TI TO T true → St1 (i + 1) m → St2 (i + 1) m → St3 (i + 1) m → IsTupOf3 m s.heap.objs.size y1 y2 y3 →
      (∀ c o, c ≠ z → c ≠ i1 → c ≠ i2 → c ≠ i3 → s.heap.get? c = some o → m.get? c = some o) → Q (.ref s.heap.objs.size) { s with heap := m, toks := tk }) :
    wpAny (model prog w) A (Builtin.«zip.__next__» ⟨[.ref z], []⟩) (fun fin s' => ∃ v, fin = .done (.ret v) ∧ Q v s') E s := by
  obtain ⟨m0, g, d, k0, os⟩ := s
  show wpAny _ _ (field (.ref z) 2 >>= _) _ _ _
  refine wpAny_bind (wpAny_field hz rfl (x := .bool false) rfl ?_)
  show wpAny _ _ (field (.ref z) 3 >>= _) _ _ _
  refine wpAny_bind (wpAny_field hz rfl (x := .ref TI) rfl ?_)
  refine wpAny_bind (wpAny_seqItems hTI rfl ?_)
  show wpAny _ _ (Builtin.SmallTypes.ownedTupleIsFree (.ref z) >>= _) _ _ _
  refine wpAny_bind (wpAny_tupleHeld_zip hz hT fun m1 hz1 b1 => ?_)
  simp only [Bool.false_eq_true, if_false]
  refine wpAny_bind ?_
  rw [← Array.forIn_toList]
  simp only [List.forIn_cons, List.forIn_nil]
  replace b1 : Heap.SameBut z m0 m1 := b1
  refine wpAny_bind (wpAny_bind (wpAny_holding ?_))
  show wpAny _ _ (Builtin.SmallTypes.nextOf (.ref i1) >>= _) _ _ ⟨m1, g, d, k0, os⟩
  refine wpAny_bind (D1.item i _ _ _ lt (D1.over s1 b1 S.zf1) fun y1 m2 k2 p1 t1 b2 => wpAny_pure (wpAny_pure ?_))
  replace b2 : Heap.SameBut i1 m1 m2 := b2
  refine wpAny_bind (wpAny_bind (wpAny_holding ?_))
  show wpAny _ _ (Builtin.SmallTypes.nextOf (.ref i2) >>= _) _ _ ⟨m2, g, d, k2, os⟩
  refine wpAny_bind (D2.item i _ _ _ lt (D2.over (D2.over s2 b1 S.zf2) b2 S.sep1_2) fun y2 m3 k3 p2 t2 b3 => wpAny_pure (wpAny_pure ?_))
  replace b3 : Heap.SameBut i2 m2 m3 := b3
  refine wpAny_bind (wpAny_bind (wpAny_holding ?_))
  show wpAny _ _ (Builtin.SmallTypes.nextOf (.ref i3) >>= _) _ _ ⟨m3, g, d, k3, os⟩
  refine wpAny_bind (D3.item i _ _ _ lt (D3.over (D3.over (D3.over s3 b1 S.zf3) b2 S.sep1_3) b3 S.sep2_3) fun y3 m4 k4 p3 t3 b4 => wpAny_pure (wpAny_pure ?_))
  replace b4 : Heap.SameBut i3 m3 m4 := b4
  refine wpAny_pure ?_
  show wpAny _ _ (newTuple [y1, y2, y3] >>= _) _ _ ⟨m4, g, d, k4, os⟩
  refine wpAny_bind (wpAny_newTuple ?_)
  have sz : m4.objs.size = m0.objs.size := by rw [b4.1, b3.1, b2.1, b1.1]
  have z4 : IsZipHeld m4 z TI TO T true := b4.extBut _ _ S.zi3 (b3.extBut _ _ S.zi2 (b2.extBut _ _ S.zi1 hz1))
  have kp : ∀ c o, c ≠ z → c ≠ i1 → c ≠ i2 → c ≠ i3 → m0.get? c = some o → m4.get? c = some o := fun c o c0 c1 c2 c3 e => b4.extBut _ _ c3 (b3.extBut _ _ c2 (b2.extBut _ _ c1 (b1.extBut _ _ c0 e)))
  have u1 : St1 (i + 1) m4 := D1.over (D1.over t1 b3 S.sep2_1) b4 S.sep3_1
  have u2 : St2 (i + 1) m4 := D2.over t2 b4 S.sep3_2
  refine wpAny_pure ⟨_, rfl, ?_⟩
  show Q (.ref m4.objs.size) _
  have nw : IsTupOf3 (m4.push { cls := .type "tuple", data := .seq #[y1, y2, y3] }) m4.objs.size y1 y2 y3 := Heap.get?_push_size _ rfl
  have up : ∀ b o, m4.get? b = some o → (m4.push { cls := .type "tuple", data := .seq #[y1, y2, y3] }).get? b = some o := fun b o e => Heap.get?_push_of_some _ e
  rw [sz] at nw ⊢
  exact q y1 y2 y3 _ k4 p1 p2 p3 (up _ _ z4) (D1.frame _ _ _ u1 fun b _ o e => up b o e) (D2.frame _ _ _ u2 fun b _ o e => up b o e) (D3.frame _ _ _ t3 fun b _ o e => up b o e) nw fun c o c0 c1 c2 c3 e => up _ _ (kp c o c0 c1 c2 c3 e)
theorem zh_end {Q : Fin → Shared → Prop} (S : ZipSep3 z TI TO i1 i2 i3 fp1 fp2 fp3) (D1 : Draws prog w A i1 fp1 n P1 St1)
    (hz : IsZipHeld s.heap z TI TO T f) (hT : s.heap.get? T = some oT) (hTI : IsTupOf3 s.heap TI (.ref i1) (.ref i2) (.ref i3)) (s1 : St1 n s.heap)
    (q : ∀ m e, (∀ c o, c ≠ z → c ≠ i1 → s.heap.get? c = some o → m.get? c = some o) → (∃ o, m.get? e = some o ∧ o.cls = .type "StopIteration") → E (.ref e) { s with heap := m }) :
    wpAny (model prog w) A (Builtin.«zip.__next__» ⟨[.ref z], []⟩) Q E s := by
  obtain ⟨m0, g, d, k0, os⟩ := s
  show wpAny _ _ (field (.ref z) 2 >>= _) _ _ _
  refine wpAny_bind (wpAny_field hz rfl (x := .bool false) rfl ?_)
  show wpAny _ _ (field (.ref z) 3 >>= _) _ _ _
  refine wpAny_bind (wpAny_field hz rfl (x := .ref TI) rfl ?_)
  refine wpAny_bind (wpAny_seqItems hTI rfl ?_)
  show wpAny _ _ (Builtin.SmallTypes.ownedTupleIsFree (.ref z) >>= _) _ _ _
  refine wpAny_bind (wpAny_tupleHeld_zip hz hT fun m1 hz1 b1 => ?_)
  simp only [Bool.false_eq_true, if_false]
  refine wpAny_bind ?_
  rw [← Array.forIn_toList]
  simp only [List.forIn_cons, List.forIn_nil]
  replace b1 : Heap.SameBut z m0 m1 := b1
  refine wpAny_bind (wpAny_bind (wpAny_holding ?_))
  show wpAny _ _ (Builtin.SmallTypes.nextOf (.ref i1) >>= _) _ _ ⟨m1, g, d, k0, os⟩
  refine wpAny_bind (D1.done _ _ _ (D1.over s1 b1 S.zf1) fun m2 e b2 he => ?_)
  exact q m2 e (fun c o c0 c1 x => b2 _ _ c1 (b1.extBut _ _ c0 x)) he
end
/-- the zip at turn i, while at S a list grows -/
def ZS (S z TI TO i1 i2 i3 : Addr) (St1 St2 St3 : Nat → Heap → Prop) (i : Nat) (h : Heap) : Prop :=
  ((i = 0 ∧ IsZip h z TI TO .none ∧ IsTupOf3 h TO .none .none .none) ∨ ∃ T f oT, IsZipHeld h z TI TO T f ∧ h.get? T = some oT ∧ T ≠ z ∧ T ≠ i1 ∧ T ≠ i2 ∧ T ≠ i3 ∧ T ≠ S) ∧ IsTupOf3 h TI (.ref i1) (.ref i2) (.ref i3) ∧ St1 i h ∧ St2 i h ∧ St3 i h
section
variable {prog : Program} {w : World} {A : Around} {E : Value → Shared → Prop} {s : Shared} {S z TI TO i1 i2 i3 : Addr} {fp1 fp2 fp3 : List Addr} {n i : Nat} {P1 P2 P3 : Nat → Value → Prop} {St1 St2 St3 : Nat → Heap → Prop}
theorem zs_item {Q : Option Value → Shared → Prop} (Z : ZipSep3 z TI TO i1 i2 i3 fp1 fp2 fp3) (D1 : Draws prog w A.in1 i1 fp1 n P1 St1) (D2 : Draws prog w A.in1 i2 fp2 n P2 St2) (D3 : Draws prog w A.in1 i3 fp3 n P3 St3) (st : ZS S z TI TO i1 i2 i3 St1 St2 St3 i s.heap) (hS : S < s.heap.objs.size) (lt : i < n)
    (q : ∀ y1 y2 y3 m tk, P1 i y1 → P2 i y2 → P3 i y3 → ZS S z TI TO i1 i2 i3 St1 St2 St3 (i + 1) m → IsTupOf3 m s.heap.objs.size y1 y2 y3 → (∀ c o, c ≠ z → c ≠ TO → c ≠ i1 → c ≠ i2 → c ≠ i3 → s.heap.get? c = some o → m.get? c = some o) → Q (some (.ref s.heap.objs.size)) { s with heap := m, toks := tk }) :
    wpAny (model prog w) A (pyNext (.ref z)) Q E s := by
  obtain ⟨st0, hTI, s1, s2, s3⟩ := st
  have new : ∀ {c o}, s.heap.get? c = some o → s.heap.objs.size ≠ c := fun e => Nat.ne_of_gt (Heap.lt_size e)
  have l1 : s.heap.objs.size ≠ i1 := by obtain ⟨_, e⟩ := D1.live _ _ s1; exact new e
  have l2 : s.heap.objs.size ≠ i2 := by obtain ⟨_, e⟩ := D2.live _ _ s2; exact new e
  have l3 : s.heap.objs.size ≠ i3 := by obtain ⟨_, e⟩ := D3.live _ _ s3; exact new e
  rcases st0 with ⟨_, hz, hTO⟩ | ⟨T, f, oT, hz, hT, n1, n2, n3, n4, n5⟩
  · refine wpAny_pyNext_zipD3_item Z D1 D2 D3 hz hTI hTO s1 s2 s3 lt lt lt fun y1 y2 y3 m tk p1 p2 p3 z' o' u1 u2 u3 nw sz kp => ?_
    exact q y1 y2 y3 m tk p1 p2 p3 ⟨.inr ⟨s.heap.objs.size, false, _, z', nw, new hz, l1, l2, l3, Nat.ne_of_gt hS⟩, kp _ _ Z.TIz Z.TITO Z.TIi1 Z.TIi2 Z.TIi3 hTI, u1, u2, u3⟩ nw kp
  · have hTy : s.TypeIs (.ref z) "zip" := ⟨_, hz, rfl⟩
    unfold pyNext
    refine wpAny_bind (wpAny_attempt (wpAny_callSpecial?_slot (name := Str.ofString "__next__") hTy F.slot_zip_next
      (wpAny_call_entry F.slot_zip_next hTy F.entry_zip_next (zh_item Z D1 D2 D3 hz hT hTI s1 s2 s3 lt fun y1 y2 y3 m tk p1 p2 p3 z' u1 u2 u3 nw kp => wpAny_pure ?_) (F.args_zip_next_1 _))))
    exact q y1 y2 y3 m tk p1 p2 p3 ⟨.inr ⟨T, true, oT, z', kp _ _ n1 n2 n3 n4 hT, n1, n2, n3, n4, n5⟩, kp _ _ Z.TIz Z.TIi1 Z.TIi2 Z.TIi3 hTI, u1, u2, u3⟩ nw fun c o c0 _ c1 c2 c3 e => kp c o c0 c1 c2 c3 e
theorem zs_done {Q : Option Value → Shared → Prop} (Z : ZipSep3 z TI TO i1 i2 i3 fp1 fp2 fp3) (D1 : Draws prog w A.in1 i1 fp1 n P1 St1) (D2 : Draws prog w A.in1 i2 fp2 n P2 St2) (D3 : Draws prog w A.in1 i3 fp3 n P3 St3) (st : ZS S z TI TO i1 i2 i3 St1 St2 St3 n s.heap)
    (q : ∀ m tk, (∀ c o, c ≠ z → c ≠ TO → c ≠ i1 → c ≠ i2 → c ≠ i3 → s.heap.get? c = some o → m.get? c = some o) → Q none { s with heap := m, toks := tk }) :
    wpAny (model prog w) A (pyNext (.ref z)) Q E s := by
  obtain ⟨st0, hTI, s1, s2, s3⟩ := st
  rcases st0 with ⟨_, hz, hTO⟩ | ⟨T, f, oT, hz, hT, n1, n2, n3, n4, n5⟩
  · exact wpAny_pyNext_zipD3_end Z D1 D2 D3 hz hTI hTO s1 s2 s3 (Nat.le_refl _) (Nat.le_refl _) (Nat.le_refl _) (.inl rfl) q
  · have hTy : s.TypeIs (.ref z) "zip" := ⟨_, hz, rfl⟩
    unfold pyNext
    refine wpAny_bind (wpAny_attempt (wpAny_callSpecial?_slot (name := Str.ofString "__next__") hTy F.slot_zip_next
      (wpAny_call_entry F.slot_zip_next hTy F.entry_zip_next (zh_end Z D1 hz hT hTI s1 fun m e kp he => ?_) (F.args_zip_next_1 _))))
    obtain ⟨o, ho, hc⟩ := he
    refine wpAny_bind (wpAny_isInstance (T := "StopIteration") (b := true) ⟨o, ho, hc⟩ isSubtype_stop ?_)
    exact wpAny_pure (q m s.toks fun c o c0 _ c1 _ _ e => kp c o c0 c1 e)
/-- the rows that have come -/
structure ZR (P1 P2 P3 : Nat → Value → Prop) (lo : Addr) (h : Heap) (ts : List Addr) : Prop where
  rise : ts.Pairwise (· < ·)
  above : ∀ t ∈ ts, lo < t
  rows : ∀ (j : Nat) (t : Addr), ts[j]? = some t → ∃ y1 y2 y3, P1 j y1 ∧ P2 j y2 ∧ P3 j y3 ∧ IsTupOf3 h t y1 y2 y3
theorem ZR.there {h : Heap} {lo : Addr} {ts : List Addr} (g : ZR P1 P2 P3 lo h ts) {t : Addr} (ht : t ∈ ts) : t < h.objs.size := by
  obtain ⟨j, hj⟩ := List.mem_iff_getElem?.mp ht
  obtain ⟨_, _, _, _, _, _, e⟩ := g.rows j t hj
  exact Heap.lt_size e
theorem zs_loop {R : Result → Shared → Prop} {lo : Addr} {h0 : Heap} (Z : ZipSep3 z TI TO i1 i2 i3 fp1 fp2 fp3) (D1 : Draws prog w A.in1.in1 i1 fp1 n P1 St1) (D2 : Draws prog w A.in1.in1 i2 fp2 n P2 St2) (D3 : Draws prog w A.in1.in1 i3 fp3 n P3 St3) (hn : n ≤ sizeLine)
    (off : ∀ c ∈ z :: TI :: TO :: (fp1 ++ fp2 ++ fp3), c ≠ S) (low : ∀ c ∈ [S, z, TO, i1, i2, i3], c ≤ lo) (res : Value)
    (fin : ∀ m tk acc c ts, (∀ b o, b ≠ S → b ≠ z → b ≠ TO → b ≠ i1 → b ≠ i2 → b ≠ i3 → h0.get? b = some o → m.get? b = some o) → m.get? S = some { cls := .type "list", dict := none, data := .seq acc c, slots := #[] } → ts.length = n → ZR P1 P2 P3 lo m ts → acc.toList = ts.map Value.ref → R (.ok (.ret res)) { s with heap := m, toks := tk }) :
    ∀ (k i : Nat) (h : Heap) (tk c : Nat) (acc : Array Value) (ts : List Addr), n - i = k → i ≤ n → ZS S z TI TO i1 i2 i3 St1 St2 St3 i h → (∀ b o, b ≠ S → b ≠ z → b ≠ TO → b ≠ i1 → b ≠ i2 → b ≠ i3 → h0.get? b = some o → h.get? b = some o) →
      h.get? S = some { cls := .type "list", dict := none, data := .seq acc c, slots := #[] } → acc.toList = ts.map Value.ref → ts.length = i → ZR P1 P2 P3 lo h ts → lo < h.objs.size →
      codeAny (model prog w) A (.builtin "list.extend.loop" ⟨[.ref S, .ref z, res], []⟩) R { s with heap := h, toks := tk } := by
  have lz : z ≤ lo := low z (by simp)
  have lT : TO ≤ lo := low TO (by simp)
  have l1 : i1 ≤ lo := low i1 (by simp)
  have l2 : i2 ≤ lo := low i2 (by simp)
  have l3 : i3 ≤ lo := low i3 (by simp)
  have lS : S ≤ lo := low S (by simp)
  have oz : z ≠ S := off z (by simp)
  have oT : TO ≠ S := off TO (by simp)
  have oI : TI ≠ S := off TI (by simp)
  have o1 : i1 ≠ S := off i1 (by simp [Z.mem1])
  have o2 : i2 ≠ S := off i2 (by simp [Z.mem2])
  have o3 : i3 ≠ S := off i3 (by simp [Z.mem3])
  have far : ∀ {t c : Addr}, lo < t → c ≤ lo → t ≠ c := fun h1 h2 e => Nat.lt_irrefl _ (Nat.lt_of_lt_of_le (by rw [← e]; exact h1) h2)
  intro k
  induction k with
  | zero =>
    intro i h tk c acc ts hk hi st kp hS ha hl G hlo
    have e : i = n := by omega
    subst e
    refine codeAny_builtin PySem.F.entry_extend_loop ?_
    rw [Around.under_plainId PySem.F.plain_extend_loop _]
    show wpAny _ A.in1 (pyNext (.ref z) >>= _) _ _ _
    refine wpAny_bind (zs_done (s := { s with heap := h, toks := tk }) (A := A.in1) Z D1 D2 D3 st fun m tk2 k2 => ?_)
    refine wpAny_pure (fin m tk2 acc c ts (fun b o b0 b1 b2 b3 b4 b5 e => k2 b o b1 b2 b3 b4 b5 (kp b o b0 b1 b2 b3 b4 b5 e)) (k2 S _ oz.symm oT.symm o1.symm o2.symm o3.symm hS) hl ⟨G.rise, G.above, fun j t hj => ?_⟩ ha)
    obtain ⟨y1, y2, y3, p1, p2, p3, e⟩ := G.rows j t hj
    have at_ := G.above t (List.mem_of_getElem? hj)
    exact ⟨y1, y2, y3, p1, p2, p3, k2 t _ (far at_ lz) (far at_ lT) (far at_ l1) (far at_ l2) (far at_ l3) e⟩
  | succ k ih =>
    intro i h tk c acc ts hk hi st kp hS ha hl G hlo
    have lt : i < n := by omega
    have hsz : acc.size = i := by rw [← Array.length_toList, ha, List.length_map, hl]
    refine codeAny_builtin PySem.F.entry_extend_loop ?_
    rw [Around.under_plainId PySem.F.plain_extend_loop _]
    show wpAny _ A.in1 (pyNext (.ref z) >>= _) _ _ _
    refine wpAny_bind (zs_item (s := { s with heap := h, toks := tk }) (A := A.in1) Z D1 D2 D3 st (Heap.lt_size hS) lt fun y1 y2 y3 m tk2 p1 p2 p3 st2 nw k2 => ?_)
    dsimp only at nw k2 ⊢
    have hS2 := k2 S _ oz.symm oT.symm o1.symm o2.symm o3.symm hS
    have up : ∀ b o, b ≠ S → m.get? b = some o → (m.update S (Obj.mapSeq (·.push (Value.ref h.objs.size)))).get? b = some o := fun b o hb e => (Heap.get?_update_other _ _ (Ne.symm hb)).trans e
    have nS : h.objs.size ≠ S := Nat.ne_of_gt (Heap.lt_size hS)
    have stu : ZS S z TI TO i1 i2 i3 St1 St2 St3 (i + 1) (m.update S (Obj.mapSeq (·.push (Value.ref h.objs.size)))) := by
      obtain ⟨st0, hTI, u1, u2, u3⟩ := st2
      refine ⟨?_, up _ _ oI hTI, D1.frame _ _ _ u1 fun b hb o e => up b o (off b (by simp [hb])) e, D2.frame _ _ _ u2 fun b hb o e => up b o (off b (by simp [hb])) e, D3.frame _ _ _ u3 fun b hb o e => up b o (off b (by simp [hb])) e⟩
      rcases st0 with ⟨e, _, _⟩ | ⟨T, f, ob, hz, hT, n1, n2, n3, n4, n5⟩
      · omega
      · exact .inr ⟨T, f, ob, up _ _ oz hz, up _ _ n5 hT, n1, n2, n3, n4, n5⟩
    show wpAny _ A.in1 (updateSeq S (·.push (Value.ref h.objs.size)) >>= _) _ _ _
    refine wpAny_bind ?_
    refine wpAny_updateSeq hS2 rfl (wpAny_pure ⟨plainId_quiet PySem.F.plain_extend_loop _, ih (i + 1) _ tk2 _ (acc.push (Value.ref h.objs.size)) (ts ++ [h.objs.size]) (by omega) lt stu
      (fun b o b0 b1 b2 b3 b4 b5 e => up b o b0 (k2 b o b1 b2 b3 b4 b5 (kp b o b0 b1 b2 b3 b4 b5 e))) (Heap.get?_update_self _ hS2 rfl) (by rw [Array.toList_push, ha, List.map_append] <;> rfl) (by rw [List.length_append, hl] <;> rfl) ⟨?_, ?_, ?_⟩ ?_⟩) (by rw [hsz]; omega) (by show (acc.push (Value.ref h.objs.size)).size ≤ sizeLine + 1; rw [Array.size_push, hsz]; omega)
    · refine List.pairwise_append.mpr ⟨G.rise, List.pairwise_singleton _ _, fun a ha b hb => ?_⟩
      rw [List.mem_singleton.mp hb]
      exact G.there ha
    · intro t ht
      rcases List.mem_append.mp ht with ht | ht
      · exact G.above t ht
      · rw [List.mem_singleton.mp ht]
        exact hlo
    · intro j t hj
      rcases Nat.lt_trichotomy j ts.length with g1 | g1 | g1
      · rw [List.getElem?_append_left g1] at hj
        obtain ⟨x1, x2, x3, q1, q2, q3, e⟩ := G.rows j t hj
        have at_ := G.above t (List.mem_of_getElem? hj)
        exact ⟨x1, x2, x3, q1, q2, q3, up t _ (far at_ lS) (k2 t _ (far at_ lz) (far at_ lT) (far at_ l1) (far at_ l2) (far at_ l3) e)⟩
      · subst g1
        have hb : h.objs.size = t := by simpa using hj
        subst hb
        exact ⟨y1, y2, y3, by rw [hl]; exact p1, by rw [hl]; exact p2, by rw [hl]; exact p3, up _ _ nS nw⟩
      · rw [List.getElem?_eq_none (by rw [List.length_append, List.length_singleton]; omega)] at hj
        cases hj
    · have e : (m.update S (Obj.mapSeq (·.push (Value.ref h.objs.size)))).get? h.objs.size = _ := up _ _ nS nw
      exact Nat.lt_trans hlo (Heap.lt_size e)
end
end Bo
set_option maxHeartbeats 4000000
/-! list(zip(xs, ys, zs)), the call and the rule. -/
namespace Bo
open PySem PySem.Spec L2
open PyProof.Rows hiding St
section
variable {prog : Program} {w : World} {A : Around} {E : Value → Shared → Prop} {s : Shared} {S z TI TO i1 i2 i3 : Addr} {fp1 fp2 fp3 : List Addr} {n : Nat} {P1 P2 P3 : Nat → Value → Prop} {St1 St2 St3 : Nat → Heap → Prop}
theorem zs_extend {R : Result → Shared → Prop} (Z : ZipSep3 z TI TO i1 i2 i3 fp1 fp2 fp3) (D1 : Draws prog w A.in1.in1 i1 fp1 n P1 St1) (D2 : Draws prog w A.in1.in1 i2 fp2 n P2 St2) (D3 : Draws prog w A.in1.in1 i3 fp3 n P3 St3) (hn : n ≤ sizeLine)
    (off : ∀ c ∈ z :: TI :: TO :: (fp1 ++ fp2 ++ fp3), c ≠ S) (low : ∀ c ∈ [S, z, TO, i1, i2, i3], c ≤ S) (res : Value) (c0 : Nat) (st : ZS S z TI TO i1 i2 i3 St1 St2 St3 0 s.heap) (hz : IsZip s.heap z TI TO .none) (hS : s.heap.get? S = some { cls := .type "list", data := .seq #[] c0 })
    (fin : ∀ m tk acc c ts, (∀ b o, b ≠ S → b ≠ z → b ≠ TO → b ≠ i1 → b ≠ i2 → b ≠ i3 → s.heap.get? b = some o → m.get? b = some o) → m.get? S = some { cls := .type "list", dict := none, data := .seq acc c, slots := #[] } → ts.length = n → ZR P1 P2 P3 S m ts → acc.toList = ts.map Value.ref → R (.ok (.ret res)) { s with heap := m, toks := tk }) :
    wpAny (model prog w) A.in1 (Builtin.List.listExtendWith (.ref S) (.ref z) res)
      (fun fin s' => match fin with | .done f => R (.ok f) s' | .again c' => c'.quiet = true ∧ codeAny (model prog w) A c' R s') (fun e s' => R (.error e) s') s := by
  have oz : z ≠ S := off z (by simp)
  have ty : s.TypeIs (.ref z) "zip" := ⟨_, hz, rfl⟩
  unfold Builtin.List.listExtendWith
  refine wpAny_bind (wpAny_typeOf (T := "zip") ty ?_)
  have e1 : Builtin.List.listSameRef (.ref S) (.ref z) = false := by simp [Builtin.List.listSameRef, oz.symm]
  have e2 : (Value.type "zip" == Value.type "list") = false := by decide
  have e3 : (Value.type "zip" == Value.type "tuple") = false := by decide
  simp only [e1, e2, e3, Bool.or_false, Bool.false_eq_true, if_false]
  refine wpAny_bind (wpAny_pyIter_zip hz ?_)
  refine wpAny_bind (wpAny_holding ?_)
  unfold Builtin.List.listLengthHint
  refine wpAny_bind (wpAny_specialOf ty zip_noLen ?_)
  show wpAny _ A.in1 (specialOf (Value.ref z) (Str.ofString "__length_hint__") >>= _) _ _ _
  refine wpAny_bind (wpAny_specialOf ty zip_noHint ?_)
  refine wpAny_pure ?_
  show wpAny _ A.in1 (rule "list.extend.makes-room" >>= fun _ => Builtin.List.listTouch (.ref S) >>= fun _ =>
    again (.builtin "list.extend.loop" ⟨[.ref S, .ref z, res], []⟩)) _ _ _
  refine wpAny_bind (wpAny_rule ?_)
  refine wpAny_bind ?_
  show wpAny _ A.in1 (updateSeq S (·.push .none) >>= fun _ => updateSeq S (·.pop)) _ _ _
  refine wpAny_bind (wpAny_updateSeq hS rfl ?_)
  have g1 := Heap.get?_update_self (Obj.mapSeq (·.push Value.none)) hS rfl
  refine wpAny_updateSeq (hz := by seq_fits) g1 rfl ?_
  have g2 := Heap.get?_update_self (Obj.mapSeq (·.pop)) g1 rfl
  have up : ∀ b o, b ≠ S → s.heap.get? b = some o → ((s.heap.update S (Obj.mapSeq (·.push Value.none))).update S (Obj.mapSeq (·.pop))).get? b = some o :=
    fun b o hb e => (Heap.get?_update_other _ _ (Ne.symm hb)).trans ((Heap.get?_update_other _ _ (Ne.symm hb)).trans e)
  refine wpAny_pure ⟨plainId_quiet F.plain_extend_loop _, zs_loop (h0 := s.heap) (lo := S) Z D1 D2 D3 hn off low res fin n 0 _ _ _ _ [] (Nat.sub_zero _) (Nat.zero_le _) ?_ (fun b o b0 _ _ _ _ _ e => up b o b0 e) g2 rfl rfl ⟨.nil, (fun t ht => by simp at ht), fun j t hj => by simp at hj⟩ (Heap.lt_size g2)⟩
  obtain ⟨st0, hTI, u1, u2, u3⟩ := st
  refine ⟨?_, up _ _ (off TI (by simp)) hTI, D1.frame _ _ _ u1 fun b hb o e => up b o (off b (by simp [hb])) e, D2.frame _ _ _ u2 fun b hb o e => up b o (off b (by simp [hb])) e, D3.frame _ _ _ u3 fun b hb o e => up b o (off b (by simp [hb])) e⟩
  rcases st0 with ⟨e, q1, q2⟩ | ⟨T, f, ob, q1, hT, n1, n2, n3, n4, n5⟩
  · exact .inl ⟨e, up _ _ oz q1, up _ _ (off TO (by simp)) q2⟩
  · exact .inr ⟨T, f, ob, up _ _ oz q1, up _ _ n5 hT, n1, n2, n3, n4, n5⟩
/-- list(z), z a zip of three just made -/
theorem zs_call {Q : Value → Shared → Prop} (Z : ZipSep3 z TI TO i1 i2 i3 fp1 fp2 fp3) (D1 : Draws prog w A.in1.in1.in1 i1 fp1 n P1 St1) (D2 : Draws prog w A.in1.in1.in1 i2 fp2 n P2 St2) (D3 : Draws prog w A.in1.in1.in1 i3 fp3 n P3 St3) (hn : n ≤ sizeLine)
    (lt : ∀ c ∈ z :: TI :: TO :: (fp1 ++ fp2 ++ fp3), c < s.heap.objs.size) (hz : IsZip s.heap z TI TO .none) (hTO : IsTupOf3 s.heap TO .none .none .none) (hTI : IsTupOf3 s.heap TI (.ref i1) (.ref i2) (.ref i3)) (u1 : St1 0 s.heap) (u2 : St2 0 s.heap) (u3 : St3 0 s.heap)
    (fin : ∀ m tk acc c ts, (∀ b o, b ≠ z → b ≠ TO → b ≠ i1 → b ≠ i2 → b ≠ i3 → s.heap.get? b = some o → m.get? b = some o) → m.get? s.heap.objs.size = some { cls := .type "list", dict := none, data := .seq acc c, slots := #[] } → ts.length = n → ZR P1 P2 P3 s.heap.objs.size m ts → acc.toList = ts.map Value.ref → Q (.ref s.heap.objs.size) { s with heap := m, toks := tk }) :
    wpAny (model prog w) A (call (.type "list") [.ref z]) Q E s := by
  refine callType_codes (Q₁ := fun obj s₁ => obj = .ref s.heap.objs.size ∧ s₁ = { s with heap := s.heap.push { cls := .type "list", data := .seq #[] } }) F.called_list (F.typeCall_list_1 _) F.entry_list_init (code_list_new _ ⟨rfl, rfl⟩) fun ob s1 e1 => ?_
  obtain ⟨rfl, rfl⟩ := e1
  have hS : (s.heap.push { cls := .type "list", data := .seq #[] }).get? s.heap.objs.size = some { cls := .type "list", data := .seq #[] } := Heap.get?_push_size _ rfl
  have ps : ∀ b o, s.heap.get? b = some o → (s.heap.push { cls := .type "list", data := .seq #[] }).get? b = some o := fun b o e => Heap.get?_push_of_some _ e
  refine ⟨⟨_, hS, rfl⟩, F.args_list_init_2 _ _, ?_⟩
  show wpAny _ _ (do let old ← Builtin.List.listItems (.ref s.heap.objs.size); Builtin.List.listUpdate (.ref s.heap.objs.size) (fun _ => #[]); letGo old.toList.reverse; Builtin.List.listExtendWith (.ref s.heap.objs.size) (.ref z) .none) _ _ _
  refine wpAny_bind ?_
  unfold Builtin.List.listItems
  refine wpAny_bind (wpAny_seqItems hS rfl (wpAny_pure ?_))
  show wpAny _ _ (updateSeq s.heap.objs.size (fun _ => #[]) >>= fun _ => letGo (#[] : Array Value).toList.reverse >>= fun _ => Builtin.List.listExtendWith (.ref s.heap.objs.size) (.ref z) .none) _ _ _
  refine wpAny_bind (wpAny_updateSeq hS rfl ?_)
  have g2 := Heap.get?_update_self (Obj.mapSeq (fun _ => (#[] : Array Value))) hS rfl
  have up : ∀ b o, b ≠ s.heap.objs.size → s.heap.get? b = some o → ((s.heap.push { cls := .type "list", data := .seq #[] }).update s.heap.objs.size (Obj.mapSeq (fun _ => (#[] : Array Value)))).get? b = some o :=
    fun b o hb e => (Heap.get?_update_other _ _ (Ne.symm hb)).trans (ps b o e)
  have nb : ∀ b o, s.heap.get? b = some o → b ≠ s.heap.objs.size := fun b o e => Nat.ne_of_lt (Heap.lt_size e)
  have up' : ∀ b o, s.heap.get? b = some o → ((s.heap.push { cls := .type "list", data := .seq #[] }).update s.heap.objs.size (Obj.mapSeq (fun _ => (#[] : Array Value)))).get? b = some o := fun b o e => up b o (nb b o e) e
  refine wpAny_bind (wpAny_letGo ?_)
  have low : ∀ c ∈ [s.heap.objs.size, z, TO, i1, i2, i3], c ≤ s.heap.objs.size := fun c hc => by
    rcases List.mem_cons.mp hc with e | hc
    · rw [e]; exact Nat.le_refl _
    · refine Nat.le_of_lt (lt c ?_)
      rcases (show c = z ∨ c = TO ∨ c = i1 ∨ c = i2 ∨ c = i3 by simpa using hc) with e | e | e | e | e
      · simp [e]
      · simp [e]
      · rw [e]; simp [Z.mem1]
      · rw [e]; simp [Z.mem2]
      · rw [e]; simp [Z.mem3]
  refine zs_extend (A := A.in1) (S := s.heap.objs.size) Z D1 D2 D3 hn (fun c hc => Nat.ne_of_lt (lt c hc)) low .none _ ⟨.inl ⟨rfl, up' _ _ hz, up' _ _ hTO⟩, up' _ _ hTI, D1.frame _ _ _ u1 fun b _ o e => up' b o e, D2.frame _ _ _ u2 fun b _ o e => up' b o e, D3.frame _ _ _ u3 fun b _ o e => up' b o e⟩ (up' _ _ hz) g2 fun m tk acc c ts kp hS' hl G ha => ?_
  exact ⟨rfl, fin m tk acc c ts (fun b o b1 b2 b3 b4 b5 e => kp b o (nb b o e) b1 b2 b3 b4 b5 (up' b o e)) hS' hl G ha⟩
end
/-! the heap behind it -/
def putTs : Hp → List Addr → List (List V) → Hp
  | H, a :: as, r :: rs => putTs (upd H a (.tup r)) as rs
  | H, _, _ => H
theorem putTs_off {b : Addr} : ∀ (as : List Addr) (rs : List (List V)) (H : Hp), b ∉ as → putTs H as rs b = H b
  | [], _, _, _ => rfl
  | _ :: _, [], _, _ => rfl
  | a :: as, r :: rs, H, h => by
    show putTs (upd H a (.tup r)) as rs b = H b
    rw [putTs_off as rs _ (fun z => h (List.mem_cons_of_mem _ z)), upd_ne (fun z => h (by rw [z]; exact List.mem_cons_self))]
theorem putTs_at : ∀ (as : List Addr) (rs : List (List V)) (H : Hp), as.length = rs.length → as.Nodup → ∀ (j : Nat) (a : Addr), as[j]? = some a → ∃ r, rs[j]? = some r ∧ putTs H as rs a = some (.tup r)
  | [], _, _, _, _, _, _, e => by simp at e
  | _ :: _, [], _, h, _, _, _, _ => by cases h
  | a :: as, r :: rs, H, h, hn, j, b, e => by
    have hn' := List.nodup_cons.mp hn
    cases j with
    | zero =>
      have e' : a = b := Option.some.inj e
      subst e'
      refine ⟨r, rfl, ?_⟩
      show putTs (upd H a (.tup r)) as rs a = some (.tup r)
      rw [putTs_off as rs _ hn'.1, upd_same]
    | succ j => exact putTs_at as rs (upd H a (.tup r)) (Nat.succ.inj h) hn'.2 j b e
theorem vals_refs : ∀ as : List Addr, Vals (as.map V.ref) (as.map Value.ref)
  | [] => .nil
  | _ :: as => .cons rfl (vals_refs as)
theorem zip_laid {X : Cx} {pins : List (Addr × Obj)} {σ : L2.St} {H : Hp} {s : Shared} {S : Addr} {m : Heap} {tk c : Nat} {acc : Array Value} {ts : List Addr} {rs : List (List V)} (I : Inv X pins σ H s) (hS0 : s.heap.objs.size ≤ S) (hz : rs.length ≤ sizeLine) (hk : ∀ b o, s.heap.get? b = some o → m.get? b = some o) (hS : m.get? S = some { cls := .type "list", dict := none, data := .seq acc c, slots := #[] })
    (hl : ts.length = rs.length) (nd : ts.Nodup) (above : ∀ t ∈ ts, S < t) (hrow : ∀ (j : Nat) (t : Addr) (r : List V), ts[j]? = some t → rs[j]? = some r → r.length ≤ sizeLine ∧ ∃ us : List Value, Vals r us ∧ IsTup m t us.toArray) (ha : acc.toList = ts.map Value.ref) :
    ∃ H' : Hp, Same H H' ∧ H S = none ∧ (∀ t ∈ ts, H t = none) ∧ S ∉ ts ∧ H' S = some (.lst (ts.map V.ref)) ∧ (∀ (j : Nat) (t : Addr), ts[j]? = some t → ∃ r, rs[j]? = some r ∧ H' t = some (.tup r)) ∧ (∀ b, b ∉ ts → b ≠ S → H' b = H b) ∧ Inv X pins σ H' { s with heap := m, toks := tk } := by
  have hSn : S ∉ ts := fun z => Nat.lt_irrefl _ (above _ z)
  have new : ∀ t ∈ ts, H t = none := fun t ht => I.hok.fresh (Nat.le_trans hS0 (Nat.le_of_lt (above t ht)))
  have newS : H S = none := I.hok.fresh hS0
  have at_ := putTs_at ts rs (upd H S (.lst (ts.map V.ref))) hl nd
  have off : ∀ b, b ∉ ts → b ≠ S → putTs (upd H S (.lst (ts.map V.ref))) ts rs b = H b := fun b h1 h2 => by rw [putTs_off ts rs _ h1, upd_ne h2]
  have low : ∀ b o, s.heap.get? b = some o → b ∉ ts ∧ b ≠ S := fun b o e => ⟨fun z => absurd (Heap.lt_size e) (Nat.not_lt.mpr (Nat.le_trans hS0 (Nat.le_of_lt (above b z)))), Nat.ne_of_lt (Nat.lt_of_lt_of_le (Heap.lt_size e) hS0)⟩
  have kp : Same H (putTs (upd H S (.lst (ts.map V.ref))) ts rs) := fun b u e => by
    rw [off b (fun z => by rw [new b z] at e; cases e) (fun z => by rw [z, newS] at e; cases e)]
    exact e
  have eS : (putTs (upd H S (.lst (ts.map V.ref))) ts rs) S = some (.lst (ts.map V.ref)) := by rw [putTs_off ts rs _ hSn, upd_same]
  refine ⟨_, kp, newS, new, hSn, eS, at_, off, ?_⟩
  refine I.call' (ch := []) rfl ⟨fun b o q _ _ _ => hk b o q, fun b o q _ _ _ => ⟨o.slots, hk b o q⟩, fun b o q n _ => ?_, fun b o q _ => ⟨o, hk b o q⟩, fun b xs q => kp b _ q, fun b o u q => kp b _ q, fun b ps q => ⟨#[], by rw [kp b _ q]; simp⟩⟩ (fun b u q => ?_) I.bare fun b z => by simp at z
  · obtain ⟨z1, z2⟩ := low b o q
    rw [off b z1 z2]
    exact n
  · by_cases hb : b ∈ ts
    · obtain ⟨j, hj⟩ := List.mem_iff_getElem?.mp hb
      obtain ⟨r, e2, e3⟩ := at_ j b hj
      rw [e3] at q
      cases q
      obtain ⟨h1, us, rv, it⟩ := hrow j b r hj e2
      exact ⟨h1, us, rv, it⟩
    · by_cases hb2 : b = S
      · rw [hb2] at q ⊢
        rw [eS] at q
        cases q
        refine ⟨by rw [List.length_map, hl]; exact hz, acc.toList, c, by rw [ha]; exact vals_refs ts, ?_⟩
        rw [Array.toArray_toList]
        exact hS
      · rw [off b hb hb2] at q
        exact (I.hok b u q).stay (fun d v _ y => hk d v y) (fun d y => kp d _ y) fun d xs y => kp d _ y
end Bo
set_option maxHeartbeats 4000000
namespace Bo
open PySem PySem.Spec L2
open PyProof.Rows hiding St
def rowV (xs ys zs : List V) (j : Nat) : List V := [xs.getD j .non, ys.getD j .non, zs.getD j .non]
def tLz3 (K : PySem.W.Frag) (ta : TA) : TE := fun σ H Q => ta σ H fun vs H1 => ∃ b1 b2 b3 a1 a2 a3 xs ys zs, vs = [.ref a1, .ref a2, .ref a3] ∧ SqB b1 K H1 a1 xs ∧ SqB b2 K H1 a2 ys ∧ SqB b3 K H1 a3 zs ∧ ys.length = xs.length ∧ zs.length = xs.length ∧ xs.length ≤ 100000 ∧
  ∀ (H' : Hp) (S : Addr) (ts : List Addr), Same H1 H' → H1 S = none → (∀ t ∈ ts, H1 t = none) → S ∉ ts → ts.length = xs.length → H' S = some (.lst (ts.map V.ref)) → (∀ (j : Nat) (t : Addr), ts[j]? = some t → H' t = some (.tup (rowV xs ys zs j))) → (∀ b, b ∉ ts → b ≠ S → H' b = H1 b) → Q (.ref S) H'
theorem pe_lz3 {X : Cx} {e1 e2 e3 : Expr} {ta : TA} {p p2 pos pos2 : Pos} (hc : X.calm = true) (hml : X.mg "list" = none) (hmz : X.mg "zip" = none) (ha : PA X [e1, e2, e3] ta) (hgl : Gl X "list" := by rfl) (hgz : Gl X "zip" := by rfl)
    (hs : starEach [.Call (.Name "zip" p2) [e1, e2, e3] [] pos2] X.env = [(false, eval (.Call (.Name "zip" p2) [e1, e2, e3] [] pos2) X.env)] := by rfl) (hs1 : starEach [e1, e2, e3] X.env = (false, eval e1 X.env) :: starEach [e2, e3] X.env := by rfl) (hpl : (backTo pos2 (starEach [e2, e3] X.env)).any (·.1) = false := by rfl) :
    PE X (.Call (.Name "list" p) [.Call (.Name "zip" p2) [e1, e2, e3] [] pos2] [] pos) (tLz3 X.K ta) := by
  refine ⟨fun pins s σ H Q I hq => ?_⟩
  refine Call_ (ld_blt I hgl hml (show bootBuiltins "list" = some (.type "list") by decide +kernel) (PyProof.Rows.callWith_type1 ?_ hs rfl))
  rw [hs]
  show wpAny _ _ (spliced ((false, eval (.Call (.Name "zip" p2) [e1, e2, e3] [] pos2) X.env) :: [])) _ _ s
  refine Calls.spliced_cons ?_
  refine Call_ (ld_blt I hgz hmz PyProof.Rows.boot_zip (PyProof.Rows.callWith_type1 (thn (ha.run pos2 pins s σ H _ I hq) fun us s1 ⟨vs, H1, I1, r1, q1⟩ => ?_) hs1 hpl))
  obtain ⟨b1, b2, b3, a1, a2, a3, xs, ys, zs, ex, hqx, hqy, hqz, l2, l3, l4, q⟩ := q1
  subst ex
  cases r1 with
  | cons r rr =>
  cases rr with
  | cons r' rr =>
  cases rr with
  | cons r'' rr =>
  cases rr
  cases r
  cases r'
  cases r''
  obtain ⟨us1, rv1, hk1, la1, hl1⟩ := srcAt I1 hqx
  obtain ⟨us2, rv2, hk2, la2, hl2⟩ := srcAt I1 hqy
  obtain ⟨us3, rv3, hk3, la3, hl3⟩ := srcAt I1 hqz
  refine zip_begins3 (begins_b b1 a1 us1.toArray) (begins_b b2 a2 us2.toArray) (begins_b b3 a3 us3.toArray) hk1 hk2 hk3 fun m hz hTI hTO i1 i2 i3 hsz k2 => ?_
  refine Calls.spliced_nil ?_
  have hh : X.A.in1.in1.in1.handled = none := I1.ok.hd hc
  have ne : ∀ {a k : Nat}, a < s1.heap.objs.size → a ≠ s1.heap.objs.size + k := fun {a k} h e => by omega
  have d1 := draws_b b1 (prog := X.prog) (w := X.w) hh s1.heap.objs.size a1 (Nat.ne_of_lt la1) us1.toArray
  have d2 := draws_b b2 (prog := X.prog) (w := X.w) hh (s1.heap.objs.size + 1) a2 (ne la2) us2.toArray
  have d3 := draws_b b3 (prog := X.prog) (w := X.w) hh (s1.heap.objs.size + 2) a3 (ne la3) us3.toArray
  rw [show us2.toArray.size = us1.toArray.size by simp [hl1, hl2, l2]] at d2
  rw [show us3.toArray.size = us1.toArray.size by simp [hl1, hl3, l3]] at d3
  have Z := zip_sep3 (N := s1.heap.objs.size) (fp1 := [a1]) (fp2 := [a2]) (fp3 := [a3]) (by simpa using la1) (by simpa using la2) (by simpa using la3)
  have kd : ∀ {b : Bool} {a : Addr} {its : Array Value}, kdH b s1.heap a its → kdH b m a its := fun {b a its} h => (begins_b b a its).keeps _ _ h k2
  refine zs_call (s := { s1 with heap := m }) Z d1 d2 d3 (by simp only [List.size_toArray]; rw [hl1]; exact Nat.le_trans l4 (by decide)) (fun c hc => ?_) hz hTO hTI ⟨kdS_new i1, kd hk1⟩ ⟨kdS_new i2, kd hk2⟩ ⟨kdS_new i3, kd hk3⟩ fun m2 tk acc c ts kp hS hl G hacc => ?_
  · show c < m.objs.size
    rw [hsz]
    have hc' : c = s1.heap.objs.size + 5 ∨ c = s1.heap.objs.size + 3 ∨ c = s1.heap.objs.size + 4 ∨ c = s1.heap.objs.size ∨ c = a1 ∨ c = s1.heap.objs.size + 1 ∨ c = a2 ∨ c = s1.heap.objs.size + 2 ∨ c = a3 := by simpa using hc
    have up : ∀ k, s1.heap.objs.size ≤ s1.heap.objs.size + k := fun k => Nat.le_add_right _ _
    rcases hc' with e | e | e | e | e | e | e | e | e
    · rw [e]; exact Nat.lt_succ_self _
    · rw [e]; exact Nat.add_lt_add_left (by decide) _
    · rw [e]; exact Nat.add_lt_add_left (by decide) _
    · rw [e]; exact Nat.lt_add_of_pos_right (by decide)
    · rw [e]; exact Nat.lt_of_lt_of_le la1 (up 6)
    · rw [e]; exact Nat.add_lt_add_left (by decide) _
    · rw [e]; exact Nat.lt_of_lt_of_le la2 (up 6)
    · rw [e]; exact Nat.add_lt_add_left (by decide) _
    · rw [e]; exact Nat.lt_of_lt_of_le la3 (up 6)
  · have hsz' : us1.toArray.size = xs.length := by simp [hl1]
    have nw : ∀ b o, s1.heap.get? b = some o → m2.get? b = some o := fun b o e => by
      have lb := Heap.lt_size e
      have nk : ∀ k, b ≠ s1.heap.objs.size + k := fun k => Nat.ne_of_lt (Nat.lt_of_lt_of_le lb (Nat.le_add_right _ _))
      exact kp b o (nk 5) (nk 4) (nk 0) (nk 1) (nk 2) (k2 b o e)
    have rsl : ((List.range xs.length).map (rowV xs ys zs)).length = xs.length := by simp
    have ri : ∀ (j : Nat) (r : List V), ((List.range xs.length).map (rowV xs ys zs))[j]? = some r → j < xs.length ∧ r = rowV xs ys zs j := fun j r e => by
      rw [List.getElem?_map] at e
      by_cases hj : j < xs.length
      · rw [List.getElem?_range hj] at e
        exact ⟨hj, (Option.some.inj e).symm⟩
      · rw [List.getElem?_eq_none (by simpa using hj)] at e
        cases e
    obtain ⟨H', k1, k3, k4, k5, k6, k7, k8, J⟩ := zip_laid (S := m.objs.size) (m := m2) (tk := tk) (rs := (List.range xs.length).map (rowV xs ys zs)) I1 (by rw [hsz]; exact Nat.le_add_right _ _) (by rw [rsl]; exact Nat.le_trans l4 (by decide)) nw hS (by rw [hl, hsz', rsl]) (List.Pairwise.imp (fun {a b} (h : a < b) => Nat.ne_of_lt h) G.rise) G.above (fun j t r ht hr => by
      obtain ⟨hj, e⟩ := ri j r hr
      subst e
      obtain ⟨y1, y2, y3, p1, p2, p3, it⟩ := G.rows j t ht
      obtain ⟨x1, g1, v1⟩ := vals_at rv1 (by simpa using p1)
      obtain ⟨x2, g2, v2⟩ := vals_at rv2 (by simpa using p2)
      obtain ⟨x3, g3, v3⟩ := vals_at rv3 (by simpa using p3)
      refine ⟨by show 3 ≤ sizeLine; decide, [y1, y2, y3], .cons ?_ (.cons ?_ (.cons ?_ .nil)), ⟨_, it, rfl, _, rfl⟩⟩
      · rw [List.getD_eq_getElem?_getD, g1]; exact v1
      · rw [List.getD_eq_getElem?_getD, g2]; exact v2
      · rw [List.getD_eq_getElem?_getD, g3]; exact v3) hacc
    refine ⟨.ref m.objs.size, H', J, rfl, q H' _ ts k1 k3 k4 k5 (by rw [hl, hsz']) k6 (fun j t ht => ?_) k8⟩
    obtain ⟨r, g1, g2⟩ := k7 j t ht
    rw [g2, (ri j r g1).2]
/-! the rule -/
theorem dpAll_of {K : PySem.W.Frag} {H : Hp} : ∀ {xs : List V} {ds : List PyData}, xs.length = ds.length → (∀ (j : Nat) (v : V), xs[j]? = some v → ∃ d, ds[j]? = some d ∧ Dp K H v d) → DpAll K H xs ds
  | [], [], _, _ => .nil
  | v :: xs, d :: ds, hl, h => by
    obtain ⟨d', e, q⟩ := h 0 v rfl
    have e' : d = d' := Option.some.inj e
    subst e'
    exact .cons q (dpAll_of (Nat.succ.inj hl) fun j w e => h (j + 1) w (by simpa using e))
  | [], _ :: _, hl, _ => by cases hl
  | _ :: _, [], hl, _ => by cases hl
theorem x_lz3 {X : Cx} {e1 e2 e3 : Expr} {Rs : Frm} {p p2 pos pos2 : Pos} {d1 d2 d3 : PyData} {as bs cs : List PyData} (hc : X.calm = true) (hml : X.mg "list" = none) (hmz : X.mg "zip" = none) (q1 : SeqD d1 as) (q2 : SeqD d2 bs) (q3 : SeqD d3 cs) (l2 : bs.length = as.length) (l3 : cs.length = as.length) (ll : as.length ≤ 100000)
    (h1 : XE X e1 Rs (dR X.K d1)) (h2 : XE X e2 Rs (dR X.K d2)) (h3 : XE X e3 Rs (dR X.K d3)) (hgl : Gl X "list" := by rfl) (hgz : Gl X "zip" := by rfl)
    (hs : starEach [.Call (.Name "zip" p2) [e1, e2, e3] [] pos2] X.env = [(false, eval (.Call (.Name "zip" p2) [e1, e2, e3] [] pos2) X.env)] := by rfl) (hs1 : starEach [e1, e2, e3] X.env = (false, eval e1 X.env) :: starEach [e2, e3] X.env := by rfl) (hs2 : starEach [e2, e3] X.env = (false, eval e2 X.env) :: starEach [e3] X.env := by rfl) (hs3 : starEach [e3] X.env = [(false, eval e3 X.env)] := by rfl) (hpl : (backTo pos2 (starEach [e2, e3] X.env)).any (·.1) = false := by rfl) :
    XE X (.Call (.Name "list" p) [.Call (.Name "zip" p2) [e1, e2, e3] [] pos2] [] pos) Rs (tlR X.K ((List.range as.length).map fun j => .tuple [nthD as j, nthD bs j, nthD cs j])) :=
  pe_imp (pe_lz3 hc hml hmz (xa_cons h1 (xa_cons h2 (xa_cons h3 xa_nil hs3) hs2) hs1) hgl hgz hs hs1 hpl) fun σ H Q ⟨Hv, ow, f, q⟩ => ⟨Hv, ow, f, fun vs Hv1 H1 s1 f1 r1 => by
    cases vs with
    | nil => exact r1.elim
    | cons u vs =>
    cases vs with
    | nil => exact r1.2.elim
    | cons v vs =>
    obtain ⟨r1, r2, r3⟩ := r1
    obtain ⟨x, e, r4⟩ := r3.one
    subst e
    obtain ⟨b1, a1, xs, e1, g1, k1⟩ := seqD_of q1 r1
    obtain ⟨b2, a2, ys, e2, g2, k2⟩ := seqD_of q2 r2
    obtain ⟨b3, a3, zs, e3, g3, k3⟩ := seqD_of q3 r4
    have n1 := dpAll_length k1
    have n2 := dpAll_length k2
    have n3 := dpAll_length k3
    refine ⟨b1, b2, b3, a1, a2, a3, xs, ys, zs, by rw [e1, e2, e3], same_b f1.sub g1, same_b f1.sub g2, same_b f1.sub g3, by omega, by omega, by omega, fun H' S ts sm hS ht nS hl eS et off => ?_⟩
    -- what is seen behind it
    have vS : Hv1 S = none := f1.sub.free hS
    have vt : ∀ t ∈ ts, Hv1 t = none := fun t h => f1.sub.free (ht t h)
    have svS : ∀ b, (b ∈ S :: ts) → Hv1 b = none := fun b hb => by
      rcases List.mem_cons.mp hb with e | hb
      · rw [e]; exact vS
      · exact vt b hb
    let Hv2 : Hp := fun b => if b ∈ S :: ts then H' b else Hv1 b
    have in2 : ∀ {b}, b ∈ S :: ts → Hv2 b = H' b := fun {b} h => if_pos h
    have out2 : ∀ {b}, b ∉ S :: ts → Hv2 b = Hv1 b := fun {b} h => if_neg h
    have sv : Same Hv1 Hv2 := fun b o e => by
      rw [out2 (fun h => by rw [svS b h] at e; cases e)]
      exact e
    have al : Al Hv1 H1 Hv2 H' := ⟨sm, sv, fun b o e => by
      by_cases hb : b ∈ S :: ts
      · rw [in2 hb] at e
        exact e
      · rw [out2 hb] at e
        exact sm b o (f1.sub b o e), fun b o c1 c2 => by
      rw [out2 (fun h => by
        have c3 : H1 b = none := by
          rcases List.mem_cons.mp h with e | h
          · rw [e]; exact hS
          · exact ht b h
        rw [c3] at c2
        cases c2)]
      exact c1⟩
    refine q _ Hv2 H' (s1.trans al.stp) (f1.al al) ⟨S, _, rfl, by rw [in2 List.mem_cons_self]; exact eS, dpAll_of (by simp [hl, n1]) fun j v ev => ?_⟩
    rw [List.getElem?_map] at ev
    cases hj : ts[j]? with
    | none => rw [hj] at ev; cases ev
    | some t =>
      rw [hj] at ev
      cases ev
      have lj : j < as.length := by
        have := (List.getElem?_eq_some_iff.mp hj).1
        omega
      refine ⟨_, by rw [List.getElem?_map, List.getElem?_range lj]; rfl, .tup (.inl (.inl ?_)) (.cons (dpAll_nth (dpAll_mono sv _ _ k1) (by omega)) (.cons (dpAll_nth (dpAll_mono sv _ _ k2) (by omega)) (.cons (dpAll_nth (dpAll_mono sv _ _ k3) (by omega)) .nil)))⟩
      rw [in2 (List.mem_cons_of_mem _ (List.mem_of_getElem? hj))]
      exact et j t hj⟩
end Bo
set_option maxHeartbeats 4000000
namespace Bo
open PySem L2
open PyProof.Rows (envOfC)
def spPair (a b : Int) : PyData := .tuple [.int a, .int b]
def spRow (o : Ord) (e : List Int × List Int) : List PyData := (List.range o.1.length).map fun i => spPair (e.1.getD i 0 + rbN (riL o.1 o.2) i) (e.2.getD i 0 + rbN (riL o.1 o.2) i)
def spO (o : Ord) (e : Option (List Int × List Int)) : PyData := match e with
  | none => .none
  | some p => .tuple (paD (rk o.1) (spRow o p))
def spT (o : Ord) (b : Nat) (t : List (Int × Int)) : PyData := spO o (enT o b t)
theorem rbL_len {st : List Int} {n : Nat} : (rbL st n).length = n := by unfold rbL; simp
theorem rbL_get {st : List Int} {n i : Nat} (h : i < n) : (rbL st n).getD i 0 = rbN st i := by
  unfold rbL
  rw [List.getD_eq_getElem?_getD, List.getElem?_map, List.getElem?_range h]
  rfl
theorem tups_of {K : PySem.W.Frag} {H : Hp} {v : V} {ds : List PyData} (h : Dp K H v (.tuple ds)) : (tupsR K (ds.map (dR K))).r H v := by
  obtain ⟨a, xs, e, h1, h2⟩ := dp_tup h
  refine ⟨a, xs, e, h1, ?_⟩
  clear h h1 e
  induction ds generalizing xs with
  | nil => cases h2; trivial
  | cons d ds ih =>
    cases h2 with
    | cons g1 g2 => exact ⟨g1, ih _ g2⟩
/-- a walk over a list of tuples that is told item by item -/
theorem xi_rows {X : Cx} {tg e : Expr} {Rs : Frm} {n : Nat} {g : Nat → List PyData} (h : XE X e Rs (dR X.K (.list ((List.range n).map fun j => .tuple (g j))))) : XI X tg e Rs n (fun i => tupsR X.K ((g i).map (dR X.K))) := by
  have z := xi_list (tg := tg) h
  rw [List.length_map, List.length_range] at z
  refine xi_weak z fun k hk H v q => tups_of ?_
  have e : nthD ((List.range n).map fun j => PyData.tuple (g j)) k = .tuple (g k) := nthD_of (by rw [List.getElem?_map, List.getElem?_range hk] <;> rfl)
  rw [← e]
  exact q
section
variable {P : Program} {w : World} {K : PySem.W.Frag} {mg : Str → Option Value} {base : Heap} {CO : Addr}
abbrev sSpansTold : Stmt := top 37
abbrev nSpans : List Str := ["order", "letters", "facts", "ends", "rows", "low", "high", "more"]
theorem scSpansTold : FnScope nSpans ["order", "letters", "facts"] (C8.fnScope sSpansTold) := C8.fnScope_by (by decide +kernel)
abbrev spSpansTold (K : PySem.W.Frag) (CO : Addr) : Sp := spF (fun a : Ord × Nat × List (Int × Int) => okPs a.1.1 = true) (fun a => [ordR K CO a.1, intR (a.2.1 : Int), ptR K (fsD a.2.2)]) fun a => dR K (spT a.1 a.2.1 a.2.2)
theorem c_spans_told (F : Df K mg "spans_told" sSpansTold) (M : Md K mg) (O : OrdC K mg CO) (c1 : C8.Cal P w K mg base 3 "ends_told" (spEndsTold K CO) []) (c2 : C8.Cal P w K mg base 1 "rises_before" (spRisesBefore K CO) []) (c3 : C8.Cal P w K mg base 1 "put_along" (spPutAlong K CO) []) : C8.Cal P w K mg base 4 "spans_told" (spSpansTold K CO) [] :=
  pure_def F (fun _ _ _ _ _ _ us hl => match us, hl with | [_, _, _], _ => rfl) scSpansTold 5 rfl (fun _ => rfl) fun f a cdv A outer s H E hp hr => by
    obtain ⟨o, b, t⟩ := a
    replace hp : okPs o.1 = true := hp
    have hl := okPs_len hp
    have nd := scSpansTold.nd
    show XRs _ _ (fr0 [ordR K CO o, intR (b : Int), ptR K (fsD t)] 5) (dR K (spO o (enT o b t)))
    refine b_cons (n_set 3 (x_call c1 (o, b, t) hr (by decide) hp (xa_cons (x_v 0) (xa_cons (x_v 1) (xa_cons (x_v 2) xa_nil)))) nd) ?_
    show PSs _ _ (tXR [] [.is (ordR K CO o), .is (intR (b : Int)), .is (ptR K (fsD t)), .is (dR K (enD (enT o b t))), .no, .no, .no, .no] _)
    have hle : ∀ e, enT o b t = some e → e.1.length = o.1.length ∧ e.2.length = o.1.length := fun e he => by
      have h := enO_len (show enO (nuL o (mrg t)) _ = some e from he)
      rw [nuL_len] at h
      exact h
    cases he : enT o b t with
    | none => exact b_if (k := true) (xt_isN' (x_v 3) fun H v r => by rw [dp_non r] <;> rfl) (fun _ => b_ret (x_ofN x_non)) fun z => by cases z
    | some e =>
      obtain ⟨lo, hh⟩ := e
      obtain ⟨g1, g2⟩ := hle _ he
      replace g1 : lo.length = o.1.length := g1
      replace g2 : hh.length = o.1.length := g2
      show PSs _ _ (tXR [] [.is (ordR K CO o), .is (intR (b : Int)), .is (ptR K (fsD t)), .is (dR K (.tuple [lstI lo, lstI hh])), .no, .no, .no, .no] (dR K (.tuple (paD (rk o.1) (spRow o (lo, hh))))))
      refine b_if (k := false) (xt_isN' (x_v 3) fun H v r => by
        obtain ⟨a, xs, ea, _⟩ := dp_tup r
        rw [ea]
        rfl) (fun z => by cases z) fun _ => ?_
      have hrb : (rbL (riL o.1 o.2) o.1.length).length = o.1.length := rbL_len
      refine b_cons (n_set 4 (x_lz3 (as := lo.map .int) (bs := hh.map .int) (cs := (rbL (riL o.1 o.2) o.1.length).map .int) rfl M.list_ M.zip_ (.inl rfl) (.inl rfl) (.inl rfl) (by simp [g1, g2]) (by simp [g1, hrb]) (by simp [g1]; omega) (x_ixT (i := 0) (x_v 3) x_int rfl) (x_ixT (i := 1) (x_v 3) x_int rfl) (x_call c2 o hr (by decide) hp (xa_cons (x_v 0) xa_nil))) nd) ?_
      have er : (List.range (lo.map PyData.int).length).map (fun j => PyData.tuple [nthD (lo.map .int) j, nthD (hh.map .int) j, nthD ((rbL (riL o.1 o.2) o.1.length).map .int) j]) = (List.range o.1.length).map fun j => PyData.tuple [.int (lo.getD j 0), .int (hh.getD j 0), .int (rbN (riL o.1 o.2) j)] := by
        rw [List.length_map, g1]
        refine List.map_congr_left fun j hj => ?_
        have hj' := List.mem_range.mp hj
        rw [nthD_int (by omega), nthD_int (by omega), nthD_int (by omega), rbL_get hj']
      rw [er]
      refine b_ret (x_call c3 (o, spRow o (lo, hh)) hr (by decide) ⟨hp, by unfold spRow; simp⟩ (xa_cons (x_v 0) (xa_cons (x_eqd (x_lc (n := o.1.length) (fun _ => true) (fun i => spPair (lo.getD i 0 + rbN (riL o.1 o.2) i) (hh.getD i 0 + rbN (riL o.1 o.2) i)) (own := [("low", 5), ("high", 6), ("more", 7)]) (ks := [5, 6, 7])
        (I := fun i => tupsR K [dR K (.int (lo.getD i 0)), dR K (.int (hh.getD i 0)), dR K (.int (rbN (riL o.1 o.2) i))]) (fun i => [.is (ordR K CO o), .is (intR (b : Int)), .is (ptR K (fsD t)), .is (dR K (.tuple [lstI lo, lstI hh])), .is (tlR K ((List.range o.1.length).map fun j => .tuple [.int (lo.getD j 0), .int (hh.getD j 0), .int (rbN (riL o.1 o.2) j)])), .is (dR K (.int (lo.getD i 0))), .is (dR K (.int (hh.getD i 0))), .is (dR K (.int (rbN (riL o.1 o.2) i)))]) rfl nd ?_
        (blkOk_by (own := [("low", 5), ("high", 6), ("more", 7)]) (N := nSpans) (sc := C8.fnScope sSpansTold) (by decide +kernel)) (by omega) (nof trivial) (fun i _ => nof trivial) ?_ (by decide)
        (fun _ _ _ _ _ i hi => xg_tup rfl (xgs_cons (xg_name 5 nd) (xgs_cons (xg_name 6 nd) (xgs_cons (xg_name 7 nd) xgs_nil)))) (fun _ _ _ _ _ i hi => ts_nil) (fun _ _ _ _ _ i hi _ => x_tup (xa_cons (x_ofI (x_add (x_toI (x_v 5)) (x_toI (x_v 7)))) (xa_cons (x_ofI (x_add (x_toI (x_v 6)) (x_toI (x_v 7)))) xa_nil)))) ?_) xa_nil)))
      · exact xi_rows (g := fun j => [.int (lo.getD j 0), .int (hh.getD j 0), .int (rbN (riL o.1 o.2) j)]) (x_dt (x_v 4))
      · intro k hk
        rcases (show k = 5 ∨ k = 6 ∨ k = 7 by simpa using hk) with e | e | e <;> rw [e] <;> rfl
      · rw [lcD_all] <;> rfl
end
end Bo
set_option maxHeartbeats 4000000
/-! Defs that raise: the program's three errors, promises with two ways out. -/
namespace Bo
open PySem PySem.Spec L2
open PyProof.Rows hiding St
/-- C(), an own error class without __init__ -/
theorem pmk0 {X : Cx} {C : Addr} {bmB : List Value} {B newId initId : String} {x : Str} {p pos : Pos} (F : ExcBaseFacts B newId initId bmB) (q : PySem.W.excIn X.K C bmB newId = true) (gC : X.mg x = some (.ref C)) (kC : PySem.W.keepIn X.K (.ref C) = true) (r : Raises X (.ref C)) (hg : Gl X x)
    (hdb : (x == ("__debug__" : Str)) = false := by decide) : PMk X (.Call (.Name x p) [] [] pos) (fun _ H Q => Q (.ref C) none H) := by
  intro pins s σ H Q I h
  refine wpAny_Call_Name_kw (ld_glob I hg gC ?_ hdb)
  refine PySem.W.callWith_K0 I.kIn kC ?_
  show wpAny _ _ (call (.ref C) []) _ _ _
  obtain ⟨bm, N, nm, qn, bs, hdct, sn, sub, ab, col, dd, k0, k1, k2, k3, k5, mN, hC, hN, hni, T⟩ := exc_obj I.kIn q
  refine wpAny_call_exc_subT F T hC hN hni (fun m e hm => ?_) (Nat.zero_le _)
  exact mk_of I hm r h (I.hok.gone hm.new)
/-- the three errors -/
inductive Exn where
  | num (v : Int) | noT | noU
  deriving DecidableEq
abbrev numBody : List Stmt → Prop := fun b => ∃ p1 p2 p3 p4, b = [.Assign [.Attribute (.Name "self" p1) "given" p2] (.Name "given" p3) p4]
structure ErrC (K : PySem.W.Frag) (mg : Str → Option Value) (CI CN CU : Addr) : Prop where
  oex : OexC K CI
  init : ∃ fI fd, PySem.W.findIn K (.ref CI) "__init__" = some (some (.ref fI)) ∧ PySem.W.typeIn K (.ref fI) = some (.type "function") ∧ fd.defaults = .none ∧ C8.Fun K "__init__" "InvalidNumber.__init__" ((C8.clsBody (PySem.Challenge.pw_endorders_k54_whole_boards_taken_back.main.body.getD 4 (.Pass ⟨0, 0, 0, 0⟩))).getD 0 (.Pass ⟨0, 0, 0, 0⟩)) fI fd
  mgI : mg "InvalidNumber" = some (.ref CI)
  noG : PySem.W.findIn K (.ref CI) "given" = some none
  xf : XfC K CI
  exN : PySem.W.excIn K CN [.type "ArithmeticError", .type "Exception", .type "BaseException", .type "object"] "ArithmeticError.__new__" = true
  mgN : mg "NoText" = some (.ref CN)
  kN : PySem.W.keepIn K (.ref CN) = true
  bN : PySem.W.subIn K (.ref CN) (.type "BaseException") = some true
  tN : PySem.W.typeIn K (.ref CN) = some (.type "type")
  exU : PySem.W.excIn K CU [.type "ArithmeticError", .type "Exception", .type "BaseException", .type "object"] "ArithmeticError.__new__" = true
  mgU : mg "NothingToUndo" = some (.ref CU)
  kU : PySem.W.keepIn K (.ref CU) = true
  bU : PySem.W.subIn K (.ref CU) (.type "BaseException") = some true
  tU : PySem.W.typeIn K (.ref CU) = some (.type "type")
  mII : PySem.W.exmOne K (.ref CI) (.ref CI) = some true
  mNI : PySem.W.exmOne K (.ref CN) (.ref CI) = some false
  mNN : PySem.W.exmOne K (.ref CN) (.ref CN) = some true
  mUI : PySem.W.exmOne K (.ref CU) (.ref CI) = some false
  mUN : PySem.W.exmOne K (.ref CU) (.ref CN) = some false
  mUU : PySem.W.exmOne K (.ref CU) (.ref CU) = some true
def ExnAt (CI CN CU : Addr) : Exn → Value → Option Addr → Hp → Prop
  | .num v, cls, d, Hv => cls = .ref CI ∧ ∃ dd, d = some dd ∧ Hv dd = some (.xd [("given", .int v)])
  | .noT, cls, d, _ => cls = .ref CN ∧ d = none
  | .noU, cls, d, _ => cls = .ref CU ∧ d = none
abbrev sNumInit : Stmt := (C8.clsBody (PySem.Challenge.pw_endorders_k54_whole_boards_taken_back.main.body.getD 4 (.Pass ⟨0, 0, 0, 0⟩))).getD 0 (.Pass ⟨0, 0, 0, 0⟩)
theorem scNumInit : FnScope ["self", "given"] ["self", "given"] (C8.fnScope sNumInit) := C8.fnScope_by (by decide +kernel)
def spNumInit (CI : Addr) : Sp := fun vs H Q _ => ∃ a v, vs = [.ref a, v] ∧ H a = some (exo a CI none) ∧ ∀ dx, H dx = none → dx ≠ a → Q .non (upd (upd H dx (exd dx [("given", v)])) a (exo a CI (some dx)))
section
variable {P : Program} {w : World} {K : PySem.W.Frag} {mg : Str → Option Value} {base : Heap} {CI CN CU : Addr}
theorem numInit_fn {fI : Addr} {fd : FuncData} (T : OexC K CI) (ng : PySem.W.findIn K (.ref CI) "given" = some none) (F : C8.Fun K "__init__" "InvalidNumber.__init__" sNumInit fI fd) : FnOk P w K mg base C8.CX0 1 fI fd ["self", "given"] (spNumInit CI) :=
  C8.fn0 F scNumInit (fun vs H Q E ⟨a, v, e, _⟩ => by rw [e] <;> rfl) fun cdv A outer s H vs Q E hr ⟨a, v, e, ha, q⟩ => by
    subst e
    refine ⟨_, pss_one (ps_ost (pv 0) (pv 1)), ?_⟩
    exact ⟨v, rfl, .ref a, rfl, a, CI, rfl, T, ng, .inl ⟨ha, fun dx h1 h2 => q dx h1 h2⟩⟩
end
/-! ### ways out -/
/-- a raise: the error comes, the hidden objects are told of -/
def tXE (CI CN CU : Addr) (E : XK) (x : Exn) (Os : List (Nat × Own)) (Rs : Frm) : TS := fun _ σ H => ∃ Hv ow, Fr Hv H σ Rs ow ∧ ∀ cls d Hv' H', Stp Hv H Rs ow Hv' H' → Same Hv' H' → (∀ p ∈ Os, Hv' (ow p.1) = none ∧ ∃ u, H' (ow p.1) = some u ∧ p.2.p Hv' u) → ExnAt CI CN CU x cls d Hv' → E cls d H'
/-- the end of a def without a return -/
def tXF0 (Os : List (Nat × Own)) (Rs : Frm) : TS := fun D σ H => ∃ Hv ow, Fr Hv H σ Rs ow ∧ ∀ σ' Hv' H', Stp Hv H Rs ow Hv' H' → Same Hv' H' → (∀ p ∈ Os, Hv' (ow p.1) = none ∧ ∃ u, H' (ow p.1) = some u ∧ p.2.p Hv' u) → D.nx σ' H'
section
variable {X : Cx} {st : Stmt} {rest a : List Stmt} {Rs Rs1 : Frm} {Os : List (Nat × Own)} {E : XK} {x : Exn} {CI CN CU : Addr} {e c : Expr} {pos p pos2 : Pos} {k : Bool} {n : Str}
theorem own_eq {Hv H Hv' H' Hv1 H1 : Hp} {ow ow1 : Nat → Addr} {Os : List (Nat × Own)} (hp : ∀ p ∈ Os, (∃ P, Rs[p.1]? = some (Ent.own P)) ∧ ∃ P, Rs1[p.1]? = some (Ent.own P)) (s1 : StS Hv H Rs ow Hv1 H1 Rs1 ow1)
    (o2 : ∀ p ∈ Os, Hv' (ow p.1) = none ∧ ∃ u, H' (ow p.1) = some u ∧ p.2.p Hv' u) : ∀ p ∈ Os, Hv' (ow1 p.1) = none ∧ ∃ u, H' (ow1 p.1) = some u ∧ p.2.p Hv' u := fun p hi => by
  obtain ⟨⟨P, e⟩, P1, e1⟩ := hp p hi
  rw [s1.same p.1 P P1 e e1]
  exact o2 p hi
theorem own_eq' {Hv H Hv' H' Hv1 H1 : Hp} {ow ow1 : Nat → Addr} {Os : List (Nat × Own)} (hp : ∀ p ∈ Os, (∃ P, Rs[p.1]? = some (Ent.own P)) ∧ ∃ P, Rs1[p.1]? = some (Ent.own P)) (s1 : StS Hv H Rs ow Hv1 H1 Rs1 ow1)
    (o2 : ∀ p ∈ Os, Hv' (ow1 p.1) = none ∧ ∃ u, H' (ow1 p.1) = some u ∧ p.2.p Hv' u) : ∀ p ∈ Os, Hv' (ow p.1) = none ∧ ∃ u, H' (ow p.1) = some u ∧ p.2.p Hv' u := fun p hi => by
  obtain ⟨⟨P, e⟩, P1, e1⟩ := hp p hi
  have z := o2 p hi
  rw [s1.same p.1 P P1 e e1] at z
  exact z
theorem e_cons (h : XN X st Rs Rs1) (hr : PSs X rest (tXE CI CN CU E x Os Rs1)) (hp : ∀ p ∈ Os, (∃ P, Rs[p.1]? = some (Ent.own P)) ∧ ∃ P, Rs1[p.1]? = some (Ent.own P)) : PSs X (st :: rest) (tXE CI CN CU E x Os Rs) :=
  pss_imp (pss_cons h hr) fun D σ H ⟨Hv, ow, f, q⟩ => ⟨Hv, ow, f, fun σ1 Hv1 H1 ow1 s1 f1 => ⟨Hv1, ow1, f1, fun cls d Hv2 H2 s2 f2 o2 r => q cls d Hv2 H2 (s1.stp' s2) f2 (own_eq' hp s1 o2) r⟩⟩
theorem f_cons (h : XN X st Rs Rs1) (hr : PSs X rest (tXF0 Os Rs1)) (hp : ∀ p ∈ Os, (∃ P, Rs[p.1]? = some (Ent.own P)) ∧ ∃ P, Rs1[p.1]? = some (Ent.own P)) : PSs X (st :: rest) (tXF0 Os Rs) :=
  pss_imp (pss_cons h hr) fun D σ H ⟨Hv, ow, f, q⟩ => ⟨Hv, ow, f, fun σ1 Hv1 H1 ow1 s1 f1 => ⟨Hv1, ow1, f1, fun σ2 Hv2 H2 s2 f2 o2 => q σ2 Hv2 H2 (s1.stp' s2) f2 (own_eq' hp s1 o2)⟩⟩
theorem f_nil (hp : ∀ p ∈ Os, Rs[p.1]? = some (Ent.own p.2)) : PSs X [] (tXF0 Os Rs) := pss_imp pss_nil fun D σ H ⟨Hv, ow, f, q⟩ => q σ Hv H .refl f.sub fun p hi => (f.own p.1 p.2 (hp p hi)).2
/-- if c: raise ..; the way that is taken -/
theorem e_ifT (h : XT X c Rs true) (h1 : PSs X a (tXE CI CN CU E x Os Rs)) : PSs X (.If c a [] pos :: rest) (tXE CI CN CU E x Os Rs) :=
  pss_imp (pss_cons (ps_if h h1 pss_nil) pss_never) fun D σ H ⟨Hv, ow, f, q⟩ => ⟨Hv, ow, f, fun Hv1 H1 s1 f1 => iteT ⟨Hv1, ow, f1, fun cls d Hv2 H2 s2 f2 o r => q cls d Hv2 H2 (s1.trans s2) f2 o r⟩⟩
/-- raise C() -/
theorem e_raise0 {C : Addr} {B newId initId : String} {bmB : List Value} (F : ExcBaseFacts B newId initId bmB) (q : PySem.W.excIn X.K C bmB newId = true) (gC : X.mg n = some (.ref C)) (kC : PySem.W.keepIn X.K (.ref C) = true) (b1 : PySem.W.subIn X.K (.ref C) (.type "BaseException") = some true) (b2 : PySem.W.typeIn X.K (.ref C) = some (.type "type"))
    (tk : Takes X fun cls d _ H => E cls d H) (hx : ∀ Hv, ExnAt CI CN CU x (.ref C) none Hv) (hp : ∀ p ∈ Os, Rs[p.1]? = some (Ent.own p.2)) (hc : X.calm = true := by rfl) (hg : Gl X n := by rfl) (hdb : (n == ("__debug__" : Str)) = false := by decide) :
    PSs X [.Raise (some (.Call (.Name n p) [] [] pos2)) none pos] (tXE CI CN CU E x Os Rs) :=
  pss_imp (pss_one (ps_raise hc tk (pmk0 F q gC kC (raises_own b1 b2) hg hdb))) fun D σ H ⟨Hv, ow, f, q⟩ => q _ _ Hv H .refl f.sub (fun p hi => (f.own p.1 p.2 (hp p hi)).2) (hx Hv)
/-- raise InvalidNumber(e) -/
theorem e_raiseNum {mgv : X.mg "InvalidNumber" = some (.ref CI)} {v : Int} {fI : Addr} {fd : FuncData} (T : OexC X.K CI) (ng : PySem.W.findIn X.K (.ref CI) "given" = some none) (iC : PySem.W.findIn X.K (.ref CI) "__init__" = some (some (.ref fI))) (tI : PySem.W.typeIn X.K (.ref fI) = some (.type "function")) (df : fd.defaults = .none)
    (F : C8.Fun X.K "__init__" "InvalidNumber.__init__" sNumInit fI fd) {j : Nat} (hr : Room j X.A) (hj : 2 ≤ j) (tk : Takes X fun cls d _ H => E cls d H) (he : XE X e Rs (intR v)) (hp : ∀ p ∈ Os, Rs[p.1]? = some (Ent.own p.2)) (hc : X.calm = true := by rfl) (hg : Gl X "InvalidNumber" := by rfl) (hs : starEach [e] X.env = [(false, eval e X.env)] := by rfl) :
    PSs X [.Raise (some (.Call (.Name "InvalidNumber" p) [e] [] pos2)) none pos] (tXE CI CN CU E (.num v) Os Rs) := by
  have b : Binds X.K fd ["self", "given"] [] := F.binds df fun _ _ _ _ _ _ us hl => match us, hl with | [_, _], _ => rfl
  refine pss_imp (pss_one (ps_raise hc tk (pmk_oex (dvs := []) T iC tI (numInit_fn T ng F) (hr.mono hj) b .nil C8.pass0 hg mgv (xa_cons he xa_nil hs) (by decide) hs rfl))) fun D σ H ⟨Hv, ow, f, q⟩ => ?_
  refine ⟨Hv, ow, f, fun vs Hv1 H1 s1 f1 r1 => ?_⟩
  obtain ⟨u, eu, r⟩ := r1.one
  have r' : u = .int v := r
  subst eu r'
  refine ⟨by show 1 ≤ 1000; decide, fun a ha => ⟨a, .int v, rfl, upd_same, fun dx hd hne => ⟨rfl, dx, [("given", .int v)], upd_same, by rw [upd_ne hne, upd_same], ?_, ?_⟩⟩⟩
  · rw [upd_ne hne] at hd
    exact hd
  · have hd' : H1 dx = none := by
      rw [upd_ne hne] at hd
      exact hd
    have eH : upd (del (upd (upd (upd H1 a (exo a CI none)) dx (exd dx [("given", .int v)])) a (exo a CI (some dx))) a) dx (.xd [("given", .int v)]) = upd H1 dx (.xd [("given", .int v)]) := by
      funext b
      by_cases h1 : b = dx
      · rw [h1, upd_same, upd_same]
      · rw [upd_ne h1, upd_ne h1]
        by_cases h2 : b = a
        · rw [h2, del_same, ha]
        · rw [del_ne h2, upd_ne h2, upd_ne h1, upd_ne h2]
    rw [eH]
    have al := Al.new (o := .xd [("given", .int v)]) f1.sub hd'
    have f2 := f1.al al
    exact q _ _ _ _ (s1.trans al.stp) f2.sub (fun p hi => (f2.own p.1 p.2 (hp p hi)).2) ⟨rfl, dx, rfl, upd_same⟩
end
end Bo
set_option maxHeartbeats 4000000
/-! Promises with two ways out; methods; properties. -/
namespace Bo
open PySem L2
open PyProof.Rows (envOfC)
/-- the context of a body that may raise -/
abbrev BXX (P : Program) (w : World) (K : PySem.W.Frag) (mg : Str → Option Value) (base : Heap) (N : List Str) (x : Str) (sc : Scope) (f : Addr) (cdv : Value) (A : Around) (outer : List Env) (s : Shared) (H : Hp) (E : XK) : Cx := cxOf (L2.CX P w) P w K mg base N x sc f cdv A outer s H E
def owns (Os : List (Nat × Own)) (ow : Nat → Addr) (Hv H : Hp) : Prop := ∀ p ∈ Os, Hv (ow p.1) = none ∧ ∃ u, H (ow p.1) = some u ∧ p.2.p Hv u
def spX (CI CN CU : Addr) {α : Type} (pre : α → Prop) (As : α → Frm) (res : α → Option Exn) (Os : α → List (Nat × Own)) (R : α → Rel) : Sp := fun vs H Q E => ∃ (a : α) (Hv : Hp) (ow : Nat → Addr), pre a ∧ Fr Hv H (vs.map some) (As a) ow ∧
  (res a = none → ∀ z Hv' H', Stp Hv H (As a) ow Hv' H' → Same Hv' H' → owns (Os a) ow Hv' H' → (R a).r Hv' z → Q z H') ∧
  ∀ x, res a = some x → ∀ cls d Hv' H', Stp Hv H (As a) ow Hv' H' → Same Hv' H' → owns (Os a) ow Hv' H' → ExnAt CI CN CU x cls d Hv' → E cls d H'
section
variable {P : Program} {w : World} {K : PySem.W.Frag} {mg : Str → Option Value} {base : Heap} {x m qual : Str} {st : Stmt} {N ps : List Str} {k : Nat} {α : Type} {pre : α → Prop} {As : α → Frm} {res : α → Option Exn} {Os : α → List (Nat × Own)} {R : α → Rel} {C f CI CN CU : Addr} {fd : FuncData}
/-- a def that falls through, or raises -/
theorem fnX {n : Nat} (F : C8.Fun K x qual st f fd) (S : FnScope N ps (C8.fnScope st)) (hm : N.length = ps.length + n) (hl : ∀ a, (As a).length = ps.length)
    (body : ∀ (a : α) (cdv : Value) (A : Around) (outer : List Env) (s : Shared) (H : Hp) (E : XK), pre a → Room k (A.deeper (envOfC qual (C8.fnScope st) s.heap.objs.size f cdv)) → Takes (BXX P w K mg base N qual (C8.fnScope st) f cdv A outer s H E) (fun cls d _ H => E cls d H) →
      (res a = none → PSs (BXX P w K mg base N qual (C8.fnScope st) f cdv A outer s H E) (C8.fnBody st) (tXF0 (Os a) (As a ++ List.replicate n .no))) ∧ ∀ x, res a = some x → PSs (BXX P w K mg base N qual (C8.fnScope st) f cdv A outer s H E) (C8.fnBody st) (tXE CI CN CU E x (Os a) (As a ++ List.replicate n .no))) :
    FnOk P w K mg base (L2.CX P w) (k + 1) f fd ps (spX CI CN CU pre As res Os fun _ => nonR) := by
  obtain ⟨oc, od, dV, kV, doc, pm, an, cdv, ct, osl, rfl, lk, hcd⟩ := F.ex
  have len : ∀ vs H Q E, spX CI CN CU pre As res Os (fun _ => nonR) vs H Q E → vs.length = ps.length := fun vs H Q E ⟨a, Hv, ow, hp, fr, q⟩ => by
    have e := fr.len
    rw [List.length_map] at e
    exact e.trans (hl a)
  refine fn_of lk hcd S len fun A outer s H vs Q E hr h => ?_
  have e1 := len vs H Q E h
  obtain ⟨a, Hv, ow, hp, fr, q1, q2⟩ := h
  have tk : Takes (BXX P w K mg base N qual (C8.fnScope st) f cdv A outer s H E) (fun cls d _ H => E cls d H) := takes_of rfl rfl rfl rfl
  obtain ⟨b1, b2⟩ := body a cdv A outer s H E hp hr tk
  have z := fr_startE (N := N) fr (by omega)
  rw [show N.length - vs.length = n by omega] at z
  cases hres : res a with
  | none => exact ⟨_, b1 hres, Hv, ow, z, fun σ' Hv' H' s' sub o => q1 hres .non Hv' H' (stp_app s') sub o rfl⟩
  | some x => exact ⟨_, b2 x hres, Hv, ow, z, fun cls d Hv' H' s' sub o r => q2 x hres cls d Hv' H' (stp_app s') sub o r⟩
/-- a method that may raise -/
structure MetX (P : Program) (w : World) (K : PySem.W.Frag) (mg : Str → Option Value) (base : Heap) (k : Nat) (C : Addr) (m : Str) (sp : Sp) (ps : List Str) : Prop where
  ex : ∃ (f : Addr) (fd : FuncData), Cls K C ∧ Meth K C m f ∧ FnOk P w K mg base (L2.CX P w) k f fd ps sp ∧ Binds K fd ps []
end
/-! ### expressions with two ways out -/
def tXFX (CI CN CU : Addr) (E : St → XK) (Rs : Frm) (res : Option Exn) (Rs' : Frm) (R : Rel) : TE := fun σ H Q => ∃ Hv ow, Fr Hv H σ Rs ow ∧ (res = none → ∀ v Hv' H', Stp Hv H Rs ow Hv' H' → Fr Hv' H' σ Rs' ow → R.r Hv' v → Q v H') ∧
  ∀ x, res = some x → ∀ cls d Hv' H', Stp Hv H Rs ow Hv' H' → Fr Hv' H' σ Rs' ow → ExnAt CI CN CU x cls d Hv' → E σ cls d H'
section
variable {X : Cx} {e : Expr} {es : List Expr} {Rs Rs' : Frm} {R : Rel} {pos apos px : Pos} {x y m : Str} {k j : Nat} {α : Type} {pre : α → Prop} {P2 : α → Own} {fs : α → Flds} {As : α → List Rel} {Rr : α → Rel} {res : α → Option Exn} {C CI CN CU : Addr} {E : XK} {ps : List Str}
theorem passX {W : XK} (tk : Takes X fun cls d _ H => W cls d H) : Passes (L2.CX X.prog X.w) X W := fun pins σ H s e s' I c => passAt tk σ pins H s e s' I c
theorem meth_core {σ : St} {H : Hp} {Q : VK} {E : XK} {a : α} {i : Nat} {vs : List V} {Hv Hv1 H1 : Hp} {ow : Nat → Addr} (hi : Rs[i]? = some (.own (ownI C (fs a)))) (hp : pre a) (s1 : Stp Hv H Rs ow Hv1 H1) (f1 : Fr Hv1 H1 σ Rs ow) (r1 : AllR Hv1 vs (As a))
    (q : (res a = none → ∀ v Hv' H', Stp Hv H Rs ow Hv' H' → Fr Hv' H' σ (Rs.set i (.own (P2 a))) ow → (Rr a).r Hv' v → Q v H') ∧ ∀ x, res a = some x → ∀ cls d Hv' H', Stp Hv H Rs ow Hv' H' → Fr Hv' H' σ (Rs.set i (.own (P2 a))) ow → ExnAt CI CN CU x cls d Hv' → E cls d H') :
    spX CI CN CU pre (fun a => arg1 (ownI C (fs a)) (As a)) res (fun a => [(0, P2 a)]) Rr (.ref (ow i) :: vs) H1 Q E := by
  obtain ⟨_, g2, u, g3, g4⟩ := f1.own i _ hi
  refine ⟨a, Hv1, fun _ => ow i, hp, fr_arg1 f1.sub r1 g2 g3 g4, fun hn z Hv2 H2 s2 sub o r => ?_, fun x hx cls d Hv2 H2 s2 sub o r => ?_⟩
  · obtain ⟨o1, u', o2, o3⟩ := o (0, P2 a) (by simp)
    exact q.1 hn z Hv2 H2 (s1.trans (stp_arg1 hi s2)) (f1.after hi s2 sub o1 o2 o3) r
  · obtain ⟨o1, u', o2, o3⟩ := o (0, P2 a) (by simp)
    exact q.2 x hx cls d Hv2 H2 (s1.trans (stp_arg1 hi s2)) (f1.after hi s2 sub o1 o2 o3) r
/-- o.m(e, ..), o hidden, its method may raise -/
theorem x_methX (i : Nat) {pl : Sem Bool} (c : MetX X.prog X.w X.K X.mg X.base k C m (spX CI CN CU pre (fun a => arg1 (ownI C (fs a)) (As a)) res (fun a => [(0, P2 a)]) Rr) ps) (a : α) (hi : Rs[i]? = some (.own (ownI C (fs a)))) (hm : (fs a).lookup m = none) (hr : Room j X.A) (hk : k ≤ j) (hp : pre a) (tk : Takes X fun cls d _ H => E cls d H) (ha : XA X (e :: es) Rs (As a)) (hN : X.N[i]? = some y := by rfl)
    (hv : Vis X.env.scope y := by first | exact Or.inl rfl | exact Or.inr (Or.inl rfl) | exact Or.inr (Or.inr rfl)) (hd : (y == ("__debug__" : Str)) = false := by decide) (hcd : (y == ("__classdict__" : Str)) = false := by decide) (hst : starEach (e :: es) X.env = (false, eval e X.env) :: starEach es X.env := by rfl) (hpl : (backTo pos (starEach es X.env)).any (·.1) = false := by rfl)
    (ht : eval (.Call (.Attribute (.Name y px) m apos) (e :: es) [] pos) X.env = (do
      let ov ← eval (.Name y px) X.env
      standAt apos.atName
      let (f, first) ← holding [ov] (getMethod ov m pl)
      callWith pos f first (backTo pos (starEach (e :: es) X.env)) (backToKw pos (keywordEach [] X.env))) := by rfl) :
    PE X (.Call (.Attribute (.Name y px) m apos) (e :: es) [] pos) (tXFX CI CN CU (fun _ => E) Rs (res a) (Rs.set i (.own (P2 a))) (Rr a)) := by
  obtain ⟨f, fd, hc, hme, F, b⟩ := c.ex
  refine pe_imp (pe_meth (pl := pl) (dvs := []) (pv i hN hv hd hcd) hc hme F (hr.mono hk) b .nil (passX tk) ha hst hpl ht) fun σ H Q ⟨Hv, ow, f, q⟩ => ?_
  obtain ⟨h1, h2, u, h3, dx, fv, eu, h5⟩ := f.own i _ hi
  subst eu
  refine ⟨_, h1, ow i, dx, fv, rfl, h3, h5.none hm, Hv, ow, f, fun vs Hv1 H1 s1 f1 r1 => ?_⟩
  simp only [List.append_nil]
  exact meth_core hi hp s1 f1 r1 q
theorem x_methX0 (i : Nat) {pl : Sem Bool} (c : MetX X.prog X.w X.K X.mg X.base k C m (spX CI CN CU pre (fun a => arg1 (ownI C (fs a)) (As a)) res (fun a => [(0, P2 a)]) Rr) ps) (a : α) (hA : As a = []) (hi : Rs[i]? = some (.own (ownI C (fs a)))) (hm : (fs a).lookup m = none) (hr : Room j X.A) (hk : k ≤ j) (hp : pre a) (tk : Takes X fun cls d _ H => E cls d H) (hN : X.N[i]? = some y := by rfl)
    (hv : Vis X.env.scope y := by first | exact Or.inl rfl | exact Or.inr (Or.inl rfl) | exact Or.inr (Or.inr rfl)) (hd : (y == ("__debug__" : Str)) = false := by decide) (hcd : (y == ("__classdict__" : Str)) = false := by decide)
    (ht : eval (.Call (.Attribute (.Name y px) m apos) [] [] pos) X.env = (do
      let ov ← eval (.Name y px) X.env
      standAt apos.atName
      let (f, first) ← holding [ov] (getMethod ov m pl)
      callWith pos f first (backTo pos (starEach [] X.env)) (backToKw pos (keywordEach [] X.env))) := by rfl) :
    PE X (.Call (.Attribute (.Name y px) m apos) [] [] pos) (tXFX CI CN CU (fun _ => E) Rs (res a) (Rs.set i (.own (P2 a))) (Rr a)) := by
  obtain ⟨f, fd, hc, hme, F, b⟩ := c.ex
  refine pe_imp (pe_meth0 (pl := pl) (dvs := []) (pv i hN hv hd hcd) hc hme F (hr.mono hk) b .nil (passX tk) ht) fun σ H Q ⟨Hv, ow, f, q⟩ => ?_
  obtain ⟨h1, h2, u, h3, dx, fv, eu, h5⟩ := f.own i _ hi
  subst eu
  refine ⟨_, h1, ow i, dx, fv, rfl, h3, h5.none hm, ?_⟩
  exact meth_core (vs := []) hi hp .refl f (by rw [hA]; trivial) q
/-- e, as the last statement -/
theorem f_last {Os : List (Nat × Own)} {o : Option Exn} (ho : o = none) (h : PE X e (tXFX CI CN CU (fun _ => E) Rs o Rs' R)) (hp : ∀ p ∈ Os, Rs'[p.1]? = some (Ent.own p.2)) (hs : swapsWith e none pos.line X.env = pure false := by rfl) : PSs X [.Expr e pos] (tXF0 Os Rs) :=
  pss_imp (pss_one (ps_expr h hs)) fun D σ H ⟨Hv, ow, f, q⟩ => ⟨Hv, ow, f, fun _ v Hv' H' s' f' r => q σ Hv' H' s' f'.sub fun p hi => (f'.own p.1 p.2 (hp p hi)).2, fun x hx => by rw [ho] at hx; cases hx⟩
theorem e_last {Os : List (Nat × Own)} {x : Exn} {o : Option Exn} (ho : o = some x) (h : PE X e (tXFX CI CN CU (fun _ => E) Rs o Rs' R)) (hp : ∀ p ∈ Os, Rs'[p.1]? = some (Ent.own p.2)) (hs : swapsWith e none pos.line X.env = pure false := by rfl) : PSs X [.Expr e pos] (tXE CI CN CU E x Os Rs) :=
  pss_imp (pss_one (ps_expr h hs)) fun D σ H ⟨Hv, ow, f, q⟩ => ⟨Hv, ow, f, (fun z => by rw [ho] at z; cases z), fun x' hx cls d Hv' H' s' f' r => by
    rw [ho] at hx
    cases hx
    exact q cls d Hv' H' s' f'.sub (fun p hi => (f'.own p.1 p.2 (hp p hi)).2) r⟩
/-- return e -/
theorem b_retX {Os : List (Nat × Own)} {o : Option Exn} (ho : o = none) (h : PE X e (tXFX CI CN CU (fun _ => E) Rs o Rs' R)) (hp : ∀ p ∈ Os, Rs'[p.1]? = some (Ent.own p.2)) : PSs X [.Return (some e) pos] (tXR Os Rs R) :=
  pss_imp (pss_one (ps_ret h)) fun D σ H ⟨Hv, ow, f, q⟩ => ⟨Hv, ow, f, fun _ v Hv' H' s' f' r => q v Hv' H' s' f'.sub (fun p hi => (f'.own p.1 p.2 (hp p hi)).2) r, fun x hx => by rw [ho] at hx; cases hx⟩
theorem e_retX {Os : List (Nat × Own)} {x : Exn} {o : Option Exn} (ho : o = some x) (h : PE X e (tXFX CI CN CU (fun _ => E) Rs o Rs' R)) (hp : ∀ p ∈ Os, Rs'[p.1]? = some (Ent.own p.2)) : PSs X [.Return (some e) pos] (tXE CI CN CU E x Os Rs) :=
  pss_imp (pss_one (ps_ret h)) fun D σ H ⟨Hv, ow, f, q⟩ => ⟨Hv, ow, f, (fun z => by rw [ho] at z; cases z), fun x' hx cls d Hv' H' s' f' r => by
    rw [ho] at hx
    cases hx
    exact q cls d Hv' H' s' f'.sub (fun p hi => (f'.own p.1 p.2 (hp p hi)).2) r⟩
end
/-! ### properties -/
structure Prp (P : Program) (w : World) (K : PySem.W.Frag) (mg : Str → Option Value) (base : Heap) (k : Nat) (C : Addr) (f : Str) (sp : Sp) : Prop where
  ex : ∃ (p g : Addr) (fd : FuncData), Cls K C ∧ PropOf K C f p g ∧ FnOk P w K mg base C8.CX0 k g fd ["self"] sp ∧ Binds K fd ["self"] []
theorem x_prop {X : Cx} {Rs : Frm} {R : Rel} {px pos : Pos} {y f : Str} {k j : Nat} {α : Type} {pre : α → Prop} {fs : α → Flds} {Rr : α → Rel} {C : Addr} (i : Nat) (c : Prp X.prog X.w X.K X.mg X.base k C f (spE pre (fun a => arg1 (ownI C (fs a)) []) (fun a => [(0, ownI C (fs a))]) Rr)) (a : α) (hi : Rs[i]? = some (.own (ownI C (fs a)))) (hr : Room j X.A) (hk : k + 1 ≤ j) (hp : pre a) (hN : X.N[i]? = some y := by rfl)
    (hv : Vis X.env.scope y := by first | exact Or.inl rfl | exact Or.inr (Or.inl rfl) | exact Or.inr (Or.inr rfl)) (hd : (y == ("__debug__" : Str)) = false := by decide) (hcd : (y == ("__classdict__" : Str)) = false := by decide) (hb : attributeBase (.Name y px) f X.env (eval (.Name y px) X.env) = eval (.Name y px) X.env := by rfl) (hR : Rr a = R := by rfl) :
    XE X (.Attribute (.Name y px) f pos) Rs R := by
  obtain ⟨p, g, fd, hc, hpo, F, b⟩ := c.ex
  subst hR
  refine pe_imp (pe_prop (dvs := []) (E := C8.E0) (pv i hN hv hd hcd) hc hpo F (hr.mono hk) b .nil C8.pass0 hb) fun σ H Q ⟨Hv, ow, f, q⟩ => ?_
  obtain ⟨h1, h2, u, h3, dx, fv, eu, h5⟩ := f.own i _ hi
  refine ⟨_, h1, ow i, dx, fv, rfl, by rw [h3, eu], ?_⟩
  refine ⟨a, Hv, fun _ => ow i, hp, fr_arg1 f.sub trivial h2 h3 ⟨dx, fv, eu, h5⟩, fun z Hv2 H2 s2 sub o r => ?_⟩
  obtain ⟨o1, u', o2, o3⟩ := o (0, ownI C (fs a)) (by simp)
  have f2 := f.after hi s2 sub o1 o2 o3
  have e : Rs.set i (.own (ownI C (fs a))) = Rs := by
    obtain ⟨lt, e⟩ := List.getElem?_eq_some_iff.mp hi
    rw [← e]
    exact List.set_getElem_self lt
  rw [e] at f2
  exact q z Hv2 H2 (stp_arg1 hi s2) f2 r
end Bo
set_option maxHeartbeats 4000000
/-! A display that takes another dict in, and one more pair. -/
namespace Bo
open PySem PySem.Spec L2
open PyProof.Rows hiding St
section
variable {prog : Program} {w : World} {A : Around} {E : Value → Shared → Prop} {s : Shared}
abbrev MK (prog : Program) (w : World) := mixKind prog w
theorem w_put {d : Addr} {kvs : List (Key × Value)} {k : Key} {key v : Value} {Q : Unit → Shared → Prop} (hkey : (MK prog w).is k key = true) (hm : s.heap.DictOf (MK prog w) d kvs)
    (hQ : ∀ h', h'.DictOf (MK prog w) d (stored kvs k v) → Heap.SameBut d s.heap h' → Q () { s with heap := h' }) (hsz : kvs.length ≤ sizeLine) :
    wpAny (model prog w) A (dictPut d ((MK prog w).hash k) key v) Q E s := by
  obtain ⟨o, es, ep, ho, hc, hd, hk, hp, hn⟩ := hm
  have hes : es.size ≤ sizeLine := by
    have e1 := hp.length
    have e2 : es.toList.length = es.size := by simp
    omega
  unfold dictPut
  refine wpAny_bind (wpAny_dictFind_of hkey ho hd hk ?_)
  have hidx : (es.findIdx? fun e => (MK prog w).is k e.key) = kvs.findIdx? fun kv => decide (kv.1 = k) := by
    rw [← hp.findIdx k]
    obtain ⟨l⟩ := es
    simp
  cases hi : es.findIdx? fun e => (MK prog w).is k e.key with
  | some i =>
    refine wpAny_updateDict ho hd (hQ _ ⟨_, _, ep, Heap.get?_update_self _ ho (Obj.isFreed_of_dict (Obj.data_mapDict hd _)), hc.mapDict _, Obj.data_mapDict hd _, hk.modify _ _, ?_, ?_⟩ (Heap.SameBut.update ..))
    · rw [stored, if_pos (any_of_findIdx_some (hidx ▸ hi))]
      have hl : (es.toList.findIdx? fun e => (MK prog w).is k e.key) = some i := by
        rw [← hi]
        obtain ⟨l⟩ := es
        simp
      have := hp.modify hn hl v
      obtain ⟨l⟩ := es
      simpa using this
    · rw [stored, if_pos (any_of_findIdx_some (hidx ▸ hi)), keys_map_store]
      exact hn
  | none =>
    have hnot : k ∉ kvs.map (·.1) := not_mem_of_findIdx_none (hidx ▸ hi)
    have hany : ¬ (kvs.any fun kv => decide (kv.1 = k)) = true := by
      rw [List.any_eq_true]
      rintro ⟨kv, hkv, he⟩
      exact hnot (List.mem_map.mpr ⟨kv, hkv, of_decide_eq_true he⟩)
    refine wpAny_updateDictKeys (hz := hes) ho hd (hQ _ ⟨_, _, ep + 1, Heap.get?_update_self _ ho (Obj.isFreed_of_dict (Obj.data_mapDictKeys hd _)), hc.mapDictKeys _, Obj.data_mapDictKeys hd _, hk.push hkey _, ?_, ?_⟩ (Heap.SameBut.update ..))
    · rw [stored, if_neg hany]
      have := hp.append hkey ((MK prog w).hash k) v
      obtain ⟨l⟩ := es
      simpa using this
    · rw [stored, if_neg hany, List.map_append, List.nodup_append]
      refine ⟨hn, by simp, ?_⟩
      intro a ha b hb
      simp only [List.map_cons, List.map_nil, List.mem_singleton] at hb
      subst hb
      exact fun e => hnot (e ▸ ha)
theorem w_merge {d o : Addr} {kvs more : List (Key × Value)} {Q : Unit → Shared → Prop} (hdo : d ≠ o) (hoS : (o == sysModules) = false) (hd : s.heap.DictOf (MK prog w) d kvs) (ho : s.heap.DictOf (MK prog w) o more)
    (hQ : ∀ h', h'.DictOf (MK prog w) d (merged kvs more) → Heap.SameBut d s.heap h' → Q () { s with heap := h' }) (hsz : kvs.length + more.length ≤ sizeLine) :
    wpAny (model prog w) A (mergeMapping d (.ref o) false) Q E s := by
  obtain ⟨od, esd, epd, hod, hcd, hdd, hkd, hpd, hnd⟩ := id hd
  obtain ⟨oo, eso, epo, hoo, hco, hdo', hko, hpo, hno⟩ := id ho
  have hlen : more.length = eso.size := by
    rw [← hpo.length]
    simp
  unfold mergeMapping
  refine wpAny_bind ?_
  refine wpAny_mono (Q := fun b s' => b = true ∧ s' = s) (wpAny_isInstance ho.typeIs isSubtype_dict_dict ⟨rfl, rfl⟩) (fun b z ⟨e1, e2⟩ => ?_) fun _ _ e => e
  rw [e1, e2]
  show wpAny _ _ (if true = true then _ else _) _ _ _
  rw [if_pos rfl]
  refine wpAny_bind (wpAny_specialOf ho.typeIs F.slot_dict_iter.lookup (wpAny_bind (wpAny_pure ?_)))
  rw [beq_self_eq_true]
  dsimp only
  rw [if_neg (by rw [hoS]; exact Bool.false_ne_true)]
  refine wpAny_bind (wpAny_dictEntries hod hdd ?_)
  have noref : ∀ e ∈ eso, ∀ a, e.key ≠ Value.ref a := fun e he a z => by
    obtain ⟨k, hk, _⟩ := hko e he
    rw [z] at hk
    rcases keyIs_shape (show keyIs k (Value.ref a) = true from hk) with ⟨i, t, _, e2⟩ | ⟨x, t, _, e2⟩ <;> cases e2
  have loop : wpAny (model prog w) A (do
      let l ← dictEntries o
      let epoch ← dictEpoch o
      forIn (List.range l.size) PUnit.unit fun i (_ : PUnit) => (do
          let l' ← dictEntries o
          match l'[i]? with
            | some e => do
              holding [e.key, e.val] (if false = true then do
                                  let __do_lift ← dictFind d e.key e.hash
                                  if __do_lift.isSome = true then do
                                      rule "dict.merge.duplicate-key"
                                      let __do_lift ← newExc (Value.type "KeyError") [e.key]
                                      let __r ← (raiseNew __do_lift : Sem PUnit)
                                      dictPut d e.hash e.key e.val
                                    else dictPut d e.hash e.key e.val
                                else dictPut d e.hash e.key e.val)
              let ep' ← dictEpoch o
              if (ep' != epoch) = true then do
                  (unsupported "dict.changed-during-merge" : Sem PUnit)
                  pure (ForInStep.yield PUnit.unit)
                else pure (ForInStep.yield PUnit.unit)
            | _ => do
              (unsupported "dict.changed-during-merge" : Sem PUnit)
              pure (ForInStep.yield PUnit.unit) : Sem (ForInStep PUnit))
      pure ()) Q E s := by
    refine wpAny_bind (wpAny_dictEntries hoo hdo' ?_)
    refine wpAny_bind (wpAny_dictEpoch hoo hdo' ?_)
    refine wpAny_bind ?_
    rw [List.range_eq_range']
    refine wpAny_forIn_list _
      (fun rest _ s' => ∃ h' i, s' = { s with heap := h' } ∧ rest = List.range' i (eso.size - i) ∧ i ≤ eso.size ∧ h'.DictOf (MK prog w) d (merged kvs (more.take i)) ∧ h'.get? o = some oo ∧ Heap.SameBut d s.heap h')
      _ ?_ ?_ _ _ ⟨s.heap, 0, rfl, by simp, Nat.zero_le _, by simpa [merged] using hd, hoo, Heap.SameBut.refl _ _⟩
    · rintro x rest b s' ⟨h', i, rfl, hr, hi, hd', hoo', hs'⟩
      have hlt : i < eso.size := by
        rcases Nat.lt_or_ge i eso.size with h | h
        · exact h
        · rw [Nat.sub_eq_zero_of_le h] at hr
          simp at hr
      obtain ⟨rfl, hrest⟩ : x = i ∧ rest = List.range' (i + 1) (eso.size - (i + 1)) := by
        have e : eso.size - i = (eso.size - (i + 1)) + 1 := by omega
        rw [e, List.range'_succ] at hr
        injection hr with h1 h2
        exact ⟨h1, h2⟩
      refine wpAny_bind (wpAny_dictEntries hoo' hdo' ?_)
      rw [Array.getElem?_eq_getElem hlt]
      obtain ⟨kv, hkv⟩ : ∃ kv, more[x]? = some kv := ⟨more[x]'(by rw [hlen]; exact hlt), List.getElem?_eq_getElem _⟩
      obtain ⟨k, v⟩ := kv
      obtain ⟨hkey, hval⟩ := hpo.get? (e := eso[x]) (by simp [hlt]) hkv
      obtain ⟨k', hkey', hhash⟩ := hko eso[x] (Array.getElem_mem hlt)
      obtain rfl : k' = k := (MK prog w).inj _ _ _ hkey' hkey
      dsimp only
      rw [if_neg Bool.false_ne_true, hhash, hval]
      have hmx : (merged kvs (more.take x)).length ≤ sizeLine := by
        have e1 := merged_length_le kvs (more.take x)
        have e2 : (more.take x).length ≤ more.length := by
          rw [List.length_take]
          omega
        omega
      refine wpAny_bind (wpAny_holding (w_put (hsz := hmx) hkey hd' fun h'' hd'' hs'' => ?_))
      have hoo'' : h''.get? o = some oo := (hs''.2 o (Ne.symm hdo)).trans hoo'
      refine wpAny_bind (wpAny_dictEpoch hoo'' hdo' ?_)
      rw [if_neg (by simp)]
      exact wpAny_pure ⟨h'', x + 1, rfl, hrest, hlt, by rw [merged_take_succ kvs more x (k', v) hkv]; exact hd'', hoo'', hs'.trans hs''⟩
    · rintro b s' ⟨h', i, rfl, hr, hi, hd', hoo', hs'⟩
      have hin : i = eso.size := by
        rcases Nat.lt_or_ge i eso.size with h | h
        · have e : eso.size - i = (eso.size - (i + 1)) + 1 := by omega
          rw [e, List.range'_succ] at hr
          exact nomatch hr
        · exact Nat.le_antisymm hi h
      refine wpAny_pure (hQ h' ?_ hs')
      rw [hin, ← hlen, List.take_length] at hd'
      exact hd'
  by_cases hem : esd.isEmpty = true
  · rw [if_pos hem]
    refine wpAny_bind (wpAny_dictEntries hoo hdo' ?_)
    refine wpAny_bind ?_
    have hl : (forIn eso PUnit.unit fun e (_ : PUnit) => (match e.key with
        | Value.ref a => do
          let __do_lift ← specialOf e.key (Str.ofString "__eq__")
          if (__do_lift != some (Value.builtin "object.__eq__")) = true then
              if (Array.filter (fun x => x.hash == e.hash) eso).size > 1 then do
                (unsupported "dict.merge-into-an-empty-dict:keys-of-equal-hash" : Sem PUnit)
                pure (ForInStep.yield PUnit.unit)
              else pure (ForInStep.yield PUnit.unit)
            else pure (ForInStep.yield PUnit.unit)
        | x => pure (ForInStep.yield PUnit.unit) : Sem (ForInStep PUnit))) = pure PUnit.unit := by
      rw [← Array.forIn_toList]
      refine forIn_yield_id _ fun e he c => ?_
      have nr := noref e (Array.mem_toList_iff.mp he)
      revert nr
      cases e.key <;> intro nr <;> first | rfl | exact (nr _ rfl).elim
    exact wpAny_of_eq hl loop
  · rw [if_neg hem]
    exact loop
theorem w_display {x k v : Sem Value} {Q : Value → Shared → Prop}
    (h : wpAny (model prog w) A x (fun m s1 => ∃ o, m = .ref o ∧ wpAny (model prog w) A (mergeMapping s.heap.objs.size (.ref o) false) (fun _ s2 => wpAny (model prog w) A (subDict [(k, v)]) (fun b s3 => wpAny (model prog w) A (mergeMapping s.heap.objs.size (.ref b) false) (fun _ s4 => Q (.ref s.heap.objs.size) s4) (fun _ _ => False) s3) E s2) (fun _ _ => False) s1) E { s with heap := s.heap.push { cls := .type "dict", data := .dict #[] } }) :
    wpAny (model prog w) A (dictDisplay [(none, x), (some k, v)]) Q E s := by
  unfold dictDisplay
  dsimp only
  refine wpAny_bind ?_
  rw [List.forIn_cons]
  refine wpAny_bind ?_
  dsimp only [List.isEmpty, List.nil_append]
  rw [if_pos rfl]
  refine wpAny_bind (wpAny_pure ?_)
  dsimp only
  refine wpAny_bind (wpAny_alloc ?_)
  refine wpAny_bind (wpAny_holding (wpAny_mono h (fun m s1 hm => ?_) fun _ _ e => e))
  obtain ⟨o, rfl, hm⟩ := hm
  refine wpAny_bind (wpAny_onRaise (wpAny_tryCatch (wpAny_onRaise (wpAny_holding (wpAny_mono hm (fun _ s2 h2 => ?_) fun _ _ e => e.elim)))))
  refine wpAny_pure ?_
  dsimp only
  rw [List.forIn_cons]
  refine wpAny_bind ?_
  dsimp only [List.nil_append, List.length]
  rw [if_neg (by decide)]
  refine wpAny_pure ?_
  dsimp only
  rw [List.forIn_nil]
  refine wpAny_pure ?_
  dsimp only [List.isEmpty]
  rw [if_neg (by decide)]
  refine wpAny_bind (wpAny_bind (wpAny_holding (wpAny_mono h2 (fun b s3 h3 => ?_) fun _ _ e => e)))
  refine wpAny_bind (wpAny_onRaise (wpAny_holding (wpAny_mono h3 (fun _ s4 h4 => ?_) fun _ _ e => e.elim)))
  exact wpAny_pure (wpAny_pure h4)
end
section
variable {X : Cx}
def tDStar (tx tk tv : TE) : TE := fun σ H Q => ∀ p, H p = none → tx σ (upd H p (.dK [])) fun x H1 => ∃ (o : Addr) (kvs : List (Key × V)), x = .ref o ∧ p ≠ o ∧ H1 o = some (.dK kvs) ∧ H1 p = some (.dK []) ∧ kvs.length < 1000 ∧
  ∀ q, (upd H1 p (.dK (mergeK [] kvs))) q = none → tk σ (upd (upd H1 p (.dK (mergeK [] kvs))) q (.dK [])) fun y H2 => tv σ H2 fun z H3 => ∃ key : Key, y = kV key ∧ H3 q = some (.dK []) ∧ H3 p = some (.dK (mergeK [] kvs)) ∧
    Q (.ref p) (upd (upd H3 q (.dK [(key, z)])) p (.dK (putK (mergeK [] kvs) key z)))
theorem pe_dstar {a k v : Expr} {tx tk tv : TE} {pos : Pos} (hx : PE X a tx) (hk : PE X k tk) (hv : PE X v tv) : PE X (.Dict [none, some k] [a, v] pos) (tDStar tx tk tv) := by
  refine ⟨fun pins s σ H Q I q => ?_⟩
  have hn := I.hok.fresh (Nat.le_refl s.heap.objs.size)
  have I1 := I.laid (a := s.heap.objs.size) (o := .dK []) (h' := s.heap.push { cls := .type "dict", data := .dict #[] }) (t' := s.toks) (fun _ _ q => Heap.get?_push_of_some _ q) (Nat.le_refl _) (dk_empty s.heap I.big)
  rw [arm_eval_Dict]
  refine wpAny_bind (wpAny_standAt ?_)
  show wpAny _ _ (dictDisplay [(none, do let x ← eval a X.env; standAt pos; pure x), (some (eval k X.env), do let x ← eval v X.env; standAt pos; pure x)]) _ _ _
  refine w_display (wpAny_bind (thn (hx.run pins _ σ _ _ I1 (q _ hn)) fun u s1 ⟨x, H1, J1, rx, o, kvs, ex, hop, ho, hp, hl, q2⟩ => wpAny_bind (wpAny_standAt (wpAny_pure ?_))))
  subst ex
  cases rx
  refine ⟨o, rfl, ?_⟩
  obtain ⟨z1, hoS, vs, r1, d1⟩ := dk_of J1.hok ho
  obtain ⟨z2, hpS, vs0, r0, d0⟩ := dk_of J1.hok hp
  cases r0
  have hlv : vs.length < 1000 := by rw [← Paired.length r1]; exact hl
  have big : 2000 ≤ sizeLine := by decide
  refine w_merge hop hoS d0 d1 (fun h' dd hs => ?_) (by rw [List.length_nil]; omega)
  have lm : (mergeK [] kvs).length < 1000 := Nat.lt_of_le_of_lt (length_mergeK kvs []) (by rw [List.length_nil]; omega)
  have J2 : Inv X pins σ (upd H1 s.heap.objs.size (.dK (mergeK [] kvs))) { s1 with heap := h' } := d_write (t' := s1.toks) J1 (by rw [hp]; exact True.intro) hs (let ⟨o, _, _, hq, _⟩ := dd; ⟨o, hq⟩) (dk_new (by omega) hpS (r1.merge .nil) dd)
  have hq := J2.hok.fresh (Nat.le_refl _)
  have J3 := J2.laid (o := .dK []) (t' := s1.toks) (h' := h'.push { cls := .type "dict", data := .dict #[] }) (fun _ _ q => Heap.get?_push_of_some _ q) (Nat.le_refl _) (dk_empty h' J2.big)
  refine wpAny_subDict (knd := mixKind X.prog X.w) (by show 1 ≤ 15; omega) ?_
  refine wpAny_bind (thn (hk.run pins _ σ _ _ J3 (q2 _ hq)) fun u1 s2 ⟨y, H2, J4, ry, q3⟩ => wpAny_bind (wpAny_holding (wpAny_bind (thn (hv.run pins _ σ _ _ J4 q3) fun u2 s3 ⟨z, H3, J5, rz, key, ey, hq3, hp3, q4⟩ => wpAny_bind (wpAny_standAt (wpAny_pure ?_))))))
  refine wpAny_bind (wpAny_holding (wpAny_pure (wpAny_pure ?_)))
  subst ey
  obtain ⟨w1, hqS, ws0, t0, e0⟩ := dk_of J5.hok hq3
  cases t0
  refine ⟨[(key, u2)], ⟨kV_is ry, rfl, True.intro⟩, e0, fun h2 e2 hs2 => ?_⟩
  have hpq : s.heap.objs.size ≠ h'.objs.size := fun z => by
    rw [← z] at hq
    have hq' : upd H1 s.heap.objs.size (.dK (mergeK [] kvs)) s.heap.objs.size = none := hq
    rw [upd_same] at hq'
    cases hq'
  have k2 : KV (putK [] key z) (stored [] key u2) := KV.put .nil key rz
  have k2' : KV [(key, z)] [(key, u2)] := k2
  have J6 : Inv X pins σ (upd H3 h'.objs.size (.dK [(key, z)])) { s3 with heap := h2, toks := s3.toks + 1 } := d_write (t' := s3.toks + 1) J5 (by rw [hq3]; exact True.intro) hs2 (let ⟨o, _, _, hq, _⟩ := e2; ⟨o, hq⟩) (dk_new (by show 1 ≤ sizeLine; omega) hqS k2' e2)
  have hp4 : upd H3 h'.objs.size (.dK [(key, z)]) s.heap.objs.size = some (.dK (mergeK [] kvs)) := by
    rw [upd_ne hpq]
    exact hp3
  obtain ⟨v1, hpS2, vs3, r3, d3⟩ := dk_of J6.hok hp4
  have hl3 : vs3.length < 1000 := by rw [← Paired.length r3]; exact lm
  refine w_merge hpq hqS d3 e2 (fun h5 d5 hs5 => ?_) (by show vs3.length + 1 ≤ _; omega)
  have lp : (putK (mergeK [] kvs) key z).length ≤ sizeLine := by
    have := length_putK (mergeK [] kvs) key z
    omega
  have J7 : Inv X pins σ (upd (upd H3 h'.objs.size (.dK [(key, z)])) s.heap.objs.size (.dK (putK (mergeK [] kvs) key z))) { s3 with heap := h5, toks := s3.toks + 1 } := d_write (s := { s3 with heap := h2, toks := s3.toks + 1 }) (t' := s3.toks + 1) J6 (by rw [hp4]; exact True.intro) hs5 (let ⟨o, _, _, hq, _⟩ := d5; ⟨o, hq⟩) (dk_new lp hpS2 (r3.put key rz) d5)
  exact ⟨.ref s.heap.objs.size, _, J7, rfl, q4⟩
theorem stp_upd {Hv H Hv' H' : Hp} {Rs : Frm} {ow : Nat → Addr} {p : Addr} {u : HO} (s : Stp Hv H Rs ow Hv' H') (hp : H p = none) : Stp Hv H Rs ow Hv' (upd H' p u) :=
  ⟨fun b o e n => by
    rw [upd_ne (ne_of_none e hp)]
    exact s.kp b o e n, s.sv, fun b o e1 e2 n => s.hid b o e1 e2 n, fun b o e => by
    rw [upd_ne (ne_of_none e hp)]
    exact s.th b o e⟩
theorem Fr.upd {Hv H : Hp} {σ : St} {Rs : Frm} {ow : Nat → Addr} {p : Addr} {u : HO} (f : Fr Hv H σ Rs ow) (vp : Hv p = none) (no : ¬ Owned Rs ow p) : Fr Hv (L2.upd H p u) σ Rs ow :=
  ⟨fun b o e => by
    rw [upd_ne (ne_of_none e vp)]
    exact f.sub b o e, f.len, f.get, fun i P e => by
    obtain ⟨g1, g2, u', g3, g4⟩ := f.own i P e
    refine ⟨g1, g2, u', ?_, g4⟩
    rw [upd_ne fun z => no ⟨i, P, e, z⟩]
    exact g3, f.inj⟩
theorem al_hid {Hv H : Hp} {p : Addr} {u : HO} (s : Same Hv H) (hn : H p = none) : Al Hv H Hv (L2.upd H p u) := ⟨same_new hn, Same.refl _, s.trans (same_new hn), fun _ _ e _ => e⟩
/-- {**d, k: v} -/
theorem o_dstar {a b c : Expr} {Rs : Frm} {pos : Pos} {t : List (Int × Int)} {k v : Int} (ha : XE X a Rs (dcR (kI t))) (hb : XE X b Rs (intR k)) (hc : XE X c Rs (intR v)) (hl : t.length < 1000) :
    XO X (.Dict [none, some b] [a, c] pos) Rs (ownDc (kI (putI (mrg t) k v))) := by
  refine pe_imp (pe_dstar ha hb hc) fun σ H Q ⟨Hv, ow, f, q⟩ p hn => ?_
  have al := al_hid (u := .dK []) f.sub hn
  have no : ¬ Owned Rs ow p := fun ⟨j, P, e, z⟩ => f.free hn j P e z
  refine ⟨Hv, ow, f.al al, fun x Hv1 H1 s1 f1 ⟨o, ex, ho⟩ => ?_⟩
  have hp1 : H1 p = some (.dK []) := s1.kp p _ upd_same no
  have vp1 : Hv1 p = none := s1.hid p _ (f.sub.free hn) upd_same no
  have hpo : p ≠ o := fun z => by
    rw [z, ho] at vp1
    cases vp1
  refine ⟨o, kI t, ex, hpo, f1.sub _ _ ho, hp1, by rw [List.length_map]; exact hl, fun r hr => ?_⟩
  have g1 := f1.upd (u := .dK (mergeK [] (kI t))) vp1 no
  have t1 : Stp Hv H Rs ow Hv1 (L2.upd H1 p (.dK (mergeK [] (kI t)))) := stp_upd (al.stp.trans s1) hn
  have al2 := al_hid (u := .dK []) g1.sub hr
  have nr : ¬ Owned Rs ow r := fun ⟨j, P, e, z⟩ => g1.free hr j P e z
  refine ⟨Hv1, ow, g1.al al2, fun y Hv2 H2 s2 f2 r2 => ⟨Hv2, ow, f2, fun z Hv3 H3 s3 f3 r3 => ?_⟩⟩
  have s23 := s2.trans s3
  have hr3 : H3 r = some (.dK []) := s23.kp r _ upd_same nr
  have vr3 : Hv3 r = none := s23.hid r _ (g1.sub.free hr) upd_same nr
  have hpr : p ≠ r := fun z => by
    rw [← z, upd_same] at hr
    cases hr
  have hp2 : L2.upd (L2.upd H1 p (.dK (mergeK [] (kI t)))) r (.dK []) p = some (.dK (mergeK [] (kI t))) := by rw [upd_ne hpr, upd_same]
  have hp3 : H3 p = some (.dK (mergeK [] (kI t))) := s23.kp p _ hp2 no
  have vp3 : Hv3 p = none := s23.hid p _ vp1 hp2 no
  refine ⟨Sum.inl k, r2, hr3, hp3, ?_⟩
  have g3 := (f3.upd (u := .dK [(Sum.inl k, z)]) vr3 nr).upd (u := .dK (putK (mergeK [] (kI t)) (Sum.inl k) z)) vp3 no
  have t3 : Stp Hv H Rs ow Hv3 (L2.upd (L2.upd H3 r (.dK [(Sum.inl k, z)])) p (.dK (putK (mergeK [] (kI t)) (Sum.inl k) z))) := stp_upd (t1.trans (stp_upd (al2.stp.trans s23) hr)) hn
  refine q p _ Hv3 _ t3 g3 hn vp3 upd_same ?_
  rw [show z = .int v from r3, mergeK_kI, putK_kI]
  rfl
end
end Bo
set_option maxHeartbeats 4000000
/-! sorted(d.items()), d a dict of whole numbers. -/
namespace Bo
open PySem PySem.Spec L2
open PyProof.Rows hiding St
open L2.DX (itemsO itemsO_ok takeT pget)
theorem msort_is {α : Type} {le : α → α → Bool} (T : PySem.W.TotalLe le) {l L : List α} (hp : L.Perm l) (hs : L.Pairwise (fun a b => le a b = true)) (an : ∀ a b, a ∈ L → b ∈ L → le a b = true → le b a = true → a = b) : l.mergeSort le = L := by
  refine List.Perm.eq_of_pairwise (le := fun a b => le a b = true) (fun a b ha hb h1 h2 => an a b (hp.mem_iff.mpr ((List.mergeSort_perm l le).mem_iff.mp ha)) hb h1 h2) (PySem.W.sort_pairwise T l) hs ((List.mergeSort_perm l le).trans hp.symm)
/-- new things that are seen -/
theorem al_ext {Hv H H' : Hp} (s : Same Hv H) (g : Same H H') : Al Hv H (fun b => match H b with | none => H' b | some _ => Hv b) H' := by
  refine ⟨g, fun b o e => ?_, fun b o e => ?_, fun b o e1 e2 => ?_⟩
  · show (match H b with | none => H' b | some _ => Hv b) = some o
    rw [s b o e]
    exact e
  · have e' : (match H b with | none => H' b | some _ => Hv b) = some o := e
    cases h : H b with
    | none => rw [h] at e'; exact e'
    | some u =>
      rw [h] at e'
      rw [g b u h, ← s b o e', h]
  · show (match H b with | none => H' b | some _ => Hv b) = none
    rw [e2]
    exact e1
theorem each_at {α β γ : Type} {R : γ → β → Prop} {f : α → γ} : ∀ {as : List α} {t : List β}, as.length = t.length → (∀ (j : Nat) (b : α) (e : β), as[j]? = some b → t[j]? = some e → R (f b) e) → PySem.W.EachIs R (as.map f) t
  | [], [], _, _ => .nil
  | [], _ :: _, h, _ => by cases h
  | _ :: _, [], h, _ => by cases h
  | a :: as, e :: t, h, g => .cons (g 0 a e rfl rfl) (each_at (Nat.succ.inj h) fun j b e h1 h2 => g (j + 1) b e h1 h2)
theorem each_refs {as : List Addr} {h' : Heap} : ∀ {out : List Value} {L : List (Int × Int)}, PySem.W.EachIs (fun v z => ∃ (b : Addr) (t1 t2 : Tok), v = Value.ref b ∧ b ∈ as ∧ h'.get? b = some { cls := .type "tuple", data := .seq #[Value.int z.1 t1, Value.int z.2 t2] }) out L →
    ∃ bs : List Addr, out = bs.map Value.ref ∧ Paired (fun (b : Addr) (z : Int × Int) => ∃ t1 t2 : Tok, b ∈ as ∧ h'.get? b = some { cls := .type "tuple", data := .seq #[Value.int z.1 t1, Value.int z.2 t2] }) bs L
  | _, _, .nil => ⟨[], rfl, .nil⟩
  | _, _, .cons ⟨b, t1, t2, e, h1, h2⟩ t => by
    obtain ⟨bs, e2, h3⟩ := each_refs t
    exact ⟨b :: bs, by rw [e, e2]; rfl, .cons ⟨t1, t2, h1, h2⟩ h3⟩
theorem paired_mem {α β : Type} {F : α → β → Prop} : ∀ {l1 : List α} {l2 : List β}, Paired F l1 l2 → ∀ {a : α}, a ∈ l1 → ∃ b, F a b
  | _, _, .cons h t, a, m => by
    rcases List.mem_cons.mp m with e | m
    · rw [e]
      exact ⟨_, h⟩
    · exact paired_mem t m
section
variable {X : Cx}
def rItemsK : V → List V → Hp → VK → Prop := fun x xs H Q => ∃ (a : Addr) (kvs : List (L2.Key × V)), x = .ref a ∧ xs = [] ∧ H a = some (.dK kvs) ∧ ∀ p, H p = none → Q (.ref p) (upd H p (itemsO p a))
theorem mt_itemsK : MtR X "dict.items" rItemsK := by
  intro pins s σ H x xs v us Q I rx rxs h
  obtain ⟨a, kvs, rfl, rfl, ha, q⟩ := h
  cases rx
  cases rxs
  obtain ⟨z, hd, vs, rel, o, es, ep, ho, hx, hdat, _⟩ := dk_of I.hok ha
  refine DT.callItems (es := es) (ep := ep) hd ⟨o, ho, hx, hdat⟩ ?_
  have hf : H s.heap.objs.size = none := I.hok.fresh (Nat.le_refl _)
  exact ⟨.ref s.heap.objs.size, upd H s.heap.objs.size (itemsO s.heap.objs.size a), I.laid (t' := s.toks) (fun b u e => Heap.get?_push_of_some _ e) (Nat.le_refl _) (itemsO_ok (Heap.get?_push_size _ rfl)), rfl, q _ hf⟩
def itvR (kvs : List (L2.Key × V)) : Rel := ⟨fun H v => ∃ p a, v = .ref p ∧ H p = some (itemsO p a) ∧ H a = some (.dK kvs), fun s ⟨p, a, e, h1, h2⟩ => ⟨p, a, e, s _ _ h1, s _ _ h2⟩⟩
theorem x_items {d : Expr} {Rs : Frm} {apos cpos : Pos} {kvs : List (L2.Key × V)} (h : XE X d Rs (dcR kvs)) (hbase : attributeBase d "items" X.env (eval d X.env) = eval d X.env := by rfl) (hline : (apos.endLine == cpos.line) = true := by rfl) : XE X (.Call (.Attribute d "items" apos) [] [] cpos) Rs (itvR kvs) :=
  pe_imp (pe_bm0 F.plainAttrs_dict F.slot_dict_items F.type_dict_items mt_itemsK h hbase hline) fun σ H Q ⟨Hv, ow, f, q⟩ => ⟨Hv, ow, f, fun v Hv1 H1 s1 f1 ⟨a, ev, ha⟩ => by
    subst ev
    have ha' := f1.sub _ _ ha
    refine ⟨.inr (.inr (.inl ⟨rfl, .inl ⟨kvs, ha'⟩⟩)), a, kvs, rfl, rfl, ha', fun p hp => ?_⟩
    have al := Al.new (o := itemsO p a) f1.sub hp
    exact q _ _ _ (s1.trans al.stp) (f1.al al) ⟨p, a, rfl, upd_same, al.sv _ _ ha⟩⟩
def rSrtK : List V → Hp → VK → Prop := fun vs H Q => ∃ (p a : Addr) (t L : List (Int × Int)), vs = [.ref p] ∧ H p = some (itemsO p a) ∧ H a = some (.dK (kI t)) ∧ t.length < 1000 ∧ L.Perm t ∧ L.Pairwise (fun x y => x.1 < y.1) ∧
  ∀ (H' : Hp) (l : Addr) (bs : List Addr), Same H H' → H l = none → (∀ b ∈ bs, H b = none) → H' l = some (.lst (bs.map V.ref)) → Paired (fun (b : Addr) (z : Int × Int) => H' b = some (.tup [.int z.1, .int z.2])) bs L → Q (.ref l) H'
theorem cr_srtK (hc : X.calm = true) (hu : X.A.units + 64 < cLine) : CallR X (.builtin "sorted") rSrtK := by
  intro pins s σ H xs us Q I r h
  obtain ⟨p, a, t, L, rfl, hp, ha, hlt0, hperm, hsort, q⟩ := h
  obtain rfl := Vals.ref1 r
  have view : s.heap.IsItemsView p a := (show ObjOk X.prog X.w H s.heap p (itemsO p a) from I.hok p _ hp).1
  obtain ⟨z, hd, vs, rel, o, es, ep, ho, hx, hdat, hk, hps, hn⟩ := dk_of I.hok ha
  have l1 : (kI t).length = vs.length := Paired.length rel
  rw [List.length_map] at l1
  have l2 : es.size = vs.length := by
    have e := hps.length
    simpa using e
  have hh : X.A.handled = none := I.ok.hd hc
  have big : 1000 ≤ sizeLine := by decide
  refine DT.sortedI (es := es) (ep := ep) hh view ⟨o, ho, hx, hdat⟩ (by omega) fun h' tk as hk' hlt hl hG => ?_
  have nd : as.Nodup := List.Pairwise.imp (fun h => Nat.ne_of_lt h) hG.rise
  have pr : ∀ (j : Nat) (b : Addr), as[j]? = some b → ∃ (e : Int × Int) (t1 t2 : Tok), t[j]? = some e ∧ h'.get? b = some { cls := .type "tuple", data := .seq #[Value.int e.1 t1, Value.int e.2 t2] } := by
    intro j b hj
    obtain ⟨en, he, hg⟩ := hG.pairs j b hj
    have he' : es.toList[j]? = some en := by simpa using he
    have hjv : j < vs.length := by
      have := (Array.getElem?_eq_some_iff.mp he).1
      omega
    obtain ⟨kv, hkv⟩ : ∃ kv, vs[j]? = some kv := ⟨_, List.getElem?_eq_getElem hjv⟩
    obtain ⟨hkey, hval⟩ := hps.get? he' hkv
    obtain ⟨y, hy, r1, r2⟩ := pget rel hkv
    rw [List.getElem?_map] at hy
    cases htj : t[j]? with
    | none => rw [htj] at hy; exact nomatch hy
    | some e =>
      rw [htj] at hy
      have ey := Option.some.inj hy
      subst ey
      have r1' : Sum.inl e.1 = kv.1 := r1
      rw [← r1'] at hkey
      obtain ⟨t1, e1⟩ := Value.isInt_shape (k := e.1) (v := en.key) hkey
      obtain ⟨t2, e2⟩ := (show RelV (.int e.2) kv.2 from r2)
      refine ⟨e, t1, t2, rfl, ?_⟩
      rw [hg, e1, hval, e2]
  have hob : (h'.push { cls := .type "list", data := .seq (as.map Value.ref).toArray }).get? h'.objs.size = some (seqObj "list" (as.map Value.ref).toArray 0) := Heap.get?_push_size _ rfl
  have kb : ∀ b o, s.heap.get? b = some o → (h'.push { cls := .type "list", data := .seq (as.map Value.ref).toArray }).get? b = some o := fun b o e => Heap.get?_push_of_some _ (hk' b o e)
  have ne0 : ∀ b o, h'.get? b = some o → b ≠ h'.objs.size := fun b o e => Nat.ne_of_lt (Heap.lt_size e)
  generalize hh2 : h'.push { cls := .type "list", data := .seq (as.map Value.ref).toArray } = h2 at hob kb ⊢
  have ka : ∀ b o, h'.get? b = some o → h2.get? b = some o := fun b o e => by rw [← hh2]; exact Heap.get?_push_of_some _ e
  have e0 : PySem.W.EachIs (fun v z => ∃ (b : Addr) (t1 t2 : Tok), v = Value.ref b ∧ b ∈ as ∧ h'.get? b = some { cls := .type "tuple", data := .seq #[Value.int z.1 t1, Value.int z.2 t2] }) (as.map Value.ref) t :=
    each_at (by omega) fun j b e hj he => by
      obtain ⟨e', t1, t2, h1, h2⟩ := pr j b hj
      rw [he] at h1
      cases h1
      exact ⟨b, t1, t2, rfl, List.mem_of_getElem? hj, h2⟩
  have er : PySem.W.EachIs (fun v z => ∃ as', Reads h2 v (pairD z) as' ∧ h'.objs.size ∉ as') (as.map Value.ref) t := e0.mono fun v z ⟨b, t1, t2, ev, hb, hg⟩ => by
    subst ev
    exact ⟨[], Reads.tuple (ka _ _ hg) rfl rfl (as := [] ++ ([] ++ [])) (ReadsAll.cons (Reads.int _ _) (ReadsAll.cons (Reads.int _ _) ReadsAll.nil)), List.not_mem_nil⟩
  have le_iff : ∀ x y : Int × Int, PySem.W.dataLe false pairD x y = decide (x.1 < y.1 ∨ (x.1 = y.1 ∧ x.2 ≤ y.2)) := fun x y => congrFun (congrFun (PySem.W.dataLe_ii (β := Int × Int) (·.1) (·.2)) x) y
  have eL : t.mergeSort (PySem.W.dataLe false pairD) = L := msort_is (le := PySem.W.dataLe false pairD) (PySem.W.sortLe_total _ _ _) hperm (hsort.imp fun h => by rw [le_iff]; exact decide_eq_true (.inl h)) fun x y _ _ h1 h2 => by
    rw [le_iff] at h1 h2
    have h1 := of_decide_eq_true h1
    have h2 := of_decide_eq_true h2
    exact Prod.ext (by omega) (by omega)
  refine PySem.W.list_sort_data (s := { s with heap := h2, toks := tk }) (enc := pairD) hob e0 er (PySem.W.AllAlike.of fun _ _ => by simp [PySem.W.alike, PySem.W.alikeAll]) (PySem.W.Sortable.tuples fun _ => ⟨_, _, rfl⟩) (by omega) (fun z _ => ?_) fun out hlen eo => ?_
  · have hdp : (pairD z).depth = 1 := by simp [PyData.depth, PyData.depthAll]
    rw [hdp]
    show X.A.units + 1 + 1 + 1 < cLine
    omega
  · rw [eL] at eo
    obtain ⟨bs, ebs, hbs⟩ := each_refs eo
    subst ebs
    have kF : ∀ b o, b ≠ h'.objs.size → h2.get? b = some o → (sortedHeap h2 h'.objs.size (as.map Value.ref) (bs.map Value.ref).toArray).get? b = some o := fun b o hb e => (PyProof.Rows.sortedHeap_old hb (Heap.lt_size e)).trans e
    have kS : ∀ b o, s.heap.get? b = some o → (sortedHeap h2 h'.objs.size (as.map Value.ref) (bs.map Value.ref).toArray).get? b = some o := fun b o e => kF b o (ne0 _ _ (hk' b o e)) (kb b o e)
    obtain ⟨eF, heF⟩ := PyProof.Rows.sortedHeap_at (vs := as.map Value.ref) (out := (bs.map Value.ref).toArray) hob
    have I1 : Inv X pins σ H { s with heap := sortedHeap h2 h'.objs.size (as.map Value.ref) (bs.map Value.ref).toArray, toks := tk } := I.kept (t' := tk) kS
    have hn0 : H h'.objs.size = none := I.hok.fresh (Nat.le_of_lt hlt)
    have lb : bs.length = t.length := by
      rw [List.length_map] at hlen
      exact hlen
    have rv : Vals (bs.map V.ref) (bs.map Value.ref) := LiI.vals_refs bs
    have I2 : Inv X pins σ (upd H h'.objs.size (.lst (bs.map V.ref))) { s with heap := sortedHeap h2 h'.objs.size (as.map Value.ref) (bs.map Value.ref).toArray, toks := tk } :=
      I1.take (h' := sortedHeap h2 h'.objs.size (as.map Value.ref) (bs.map Value.ref).toArray) (t' := tk) (fun b ob _ e => e) (I.fpOk (Nat.le_of_lt hlt) hn0) ⟨by rw [List.length_map]; omega, bs.map Value.ref, eF, rv, heF⟩
    obtain ⟨H2, I3, g, qt⟩ := takeT (P := fun b vs => ∃ (i j : Int) (t1 t2 : Tok), vs = [.int i, .int j] ∧ h'.get? b = some { cls := .type "tuple", data := .seq #[Value.int i t1, Value.int j t2] }) I as _ I2 nd fun b hb => by
      obtain ⟨j, hj⟩ := List.mem_iff_getElem?.mp hb
      obtain ⟨e, t1, t2, _, hg⟩ := pr j b hj
      have hbl : s.heap.objs.size ≤ b := Nat.le_of_lt (hG.above b hb)
      refine ⟨hbl, ?_, [.int e.1, .int e.2], ⟨e.1, e.2, t1, t2, rfl, hg⟩, fun H3 => ⟨(by show 2 ≤ sizeLine; omega), [Value.int e.1 t1, Value.int e.2 t2], .cons ⟨t1, rfl⟩ (.cons ⟨t2, rfl⟩ .nil), ⟨_, kF _ _ (ne0 _ _ hg) (ka _ _ hg), rfl, 0, rfl⟩⟩⟩
      rw [upd_ne (ne0 _ _ hg)]
      exact I.hok.fresh hbl
    have gr : Same H H2 := fun b o e => g b o (by rw [upd_ne (ne_of_none e hn0)]; exact e)
    refine ⟨.ref h'.objs.size, H2, I3, rfl, q H2 h'.objs.size bs gr hn0 (fun b hb => ?_) (g _ _ upd_same) (L2.Paired.mapP hbs fun b z ⟨t1, t2, hb, hg⟩ => ?_)⟩
    · have hb' : b ∈ as := by
        obtain ⟨z, _, _, hb', _⟩ := paired_mem hbs hb
        exact hb'
      exact I.hok.fresh (Nat.le_of_lt (hG.above b hb'))
    · obtain ⟨vs2, ⟨i, j, u1, u2, ev, hg2⟩, hH⟩ := qt b hb
      rw [hg] at hg2
      have e1 := Option.some.inj hg2
      injection e1 with _ _ e2 _
      injection e2 with e3 _
      have e4 := congrArg Array.toList e3
      injection e4 with e5 e6
      injection e6 with e7 _
      injection e5 with e8 _
      injection e7 with e9 _
      rw [hH, ev, ← e8, ← e9]
theorem pairs_dp {K : PySem.W.Frag} {H Hv H' : Hp} : ∀ {bs : List Addr} {L : List (Int × Int)}, (∀ b ∈ bs, H b = none) → Paired (fun (b : Addr) (z : Int × Int) => H' b = some (.tup [.int z.1, .int z.2])) bs L → DpAll K (fun b => match H b with | none => H' b | some _ => Hv b) (bs.map V.ref) (fsD L)
  | _, _, _, .nil => .nil
  | b :: bs, z :: L, hn, .cons h t => .cons (.tup (.inl (.inl (by
      show (match H b with | none => H' b | some _ => Hv b) = _
      rw [hn b List.mem_cons_self]
      exact h))) (.cons (.int _) (.cons (.int _) .nil))) (pairs_dp (fun c hc => hn c (List.mem_cons_of_mem _ hc)) t)
/-- sorted(d.items()) -/
theorem x_srtItems {e : Expr} {Rs : Frm} {p pos : Pos} {t L : List (Int × Int)} (hc : X.calm = true) (hu : X.A.units + 64 < cLine) (hm : X.mg "sorted" = none) (h : XE X e Rs (itvR (kI t))) (hl : t.length < 1000) (hp : L.Perm t) (hs : L.Pairwise (fun x y => x.1 < y.1)) (hg : Gl X "sorted" := by rfl)
    (h1 : starEach [e] X.env = [(false, eval e X.env)] := by rfl) : XE X (.Call (.Name "sorted" p) [e] [] pos) Rs (dR X.K (.list (fsD L))) := by
  refine x_callB (cr_srtK hc hu) (As := [itvR (kI t)]) (R := dR X.K (.list (fsD L))) (fun Hv H vs Q s r q => ?_) hm (by decide +kernel) (xa_cons h xa_nil h1) hg (by decide) (by decide) h1 rfl
  obtain ⟨v, ev, r⟩ := r.one
  obtain ⟨b, a, e, g1, g2⟩ := r
  refine ⟨b, a, t, L, by rw [ev, e], s _ _ g1, s _ _ g2, hl, hp, hs, fun H' l bs sm hn hbs hL pr => ?_⟩
  refine q _ _ _ (al_ext s sm) (.lst (.inl (.inl ?_)) (pairs_dp hbs pr))
  show (match H l with | none => H' l | some _ => Hv l) = _
  rw [hn]
  exact hL
end
end Bo
set_option maxHeartbeats 4000000
namespace Bo
open PySem L2
open PyProof.Rows (envOfC)
theorem ox_ixR {K : PySem.W.Frag} {As : List Rel} {i : Nat} {R : Rel} (h : As[i]? = some R) : OpX (rIxT K) (tupsR K As) (intR i) R := fun Hv H x y Q s h1 h2 q => by
  obtain ⟨a, xs, e, hs, ha⟩ := h1
  obtain ⟨v, e1, e2⟩ := allR_get ha h
  exact ⟨a, xs, i, v, e, h2, same_t s hs, atI_nat e1, q v Hv H (.refl s) e2⟩
theorem x_ixR {X : Cx} {a b : Expr} {Rs : Frm} {pos : Pos} {As : List Rel} {i : Nat} {R : Rel} (ha : XE X a Rs (tupsR X.K As)) (hb : XE X b Rs (intR i)) (h : As[i]? = some R) (hs : PlainIx b := by exact fun _ _ => rfl) : XE X (.Subscript a b pos) Rs R :=
  pe_imp (pe_ix ix_tup ha hb hs) (op_x (ox_ixR h) (fun _ _ _ q => q) fun _ _ _ q => q)
abbrev Chn := List (List (Int × Int))
def hdR (K : PySem.W.Frag) (o : Ord) (b : Nat) : Chn → Rel
  | [] => nonR
  | t :: ts => tupsR K [ptR K (fsD t), hdR K o b ts, intR (ts.length : Nat), intR (maT o b t), dR K (spT o b t)]
structure BrdC (K : PySem.W.Frag) (mg : Str → Option Value) (CB : Addr) : Prop where
  ins : C8.InsC K CB
  mgo : mg "Board" = some (.ref CB)
  bas : NoAttr K CB "base"
  bel : NoAttr K CB "below"
  hel : NoAttr K CB "held"
abbrev brdF (K : PySem.W.Frag) (CO : Addr) (o : Ord) (b : Nat) (ch : Chn) : Flds := [("base", ordR K CO o), ("below", intR (b : Int)), ("held", hdR K o b ch)]
def okBd (o : Ord) (b : Nat) : Bool := okB o b && decide (ctN o b ≠ 0 ∧ maT o b [] = ctN o b)
theorem okBd_b {o : Ord} {b : Nat} (h : okBd o b = true) : okB o b = true := (Bool.and_eq_true_iff.mp h).1
theorem okBd_c {o : Ord} {b : Nat} (h : okBd o b = true) : ctN o b ≠ 0 ∧ maT o b [] = ctN o b := of_decide_eq_true (Bool.and_eq_true_iff.mp h).2
section
variable {P : Program} {w : World} {K : PySem.W.Frag} {mg : Str → Option Value} {base : Heap} {CO CB : Addr}
abbrev sBrdInit : Stmt := clsItem 39 0
theorem scBrdInit : FnScope ["self", "order", "letters"] ["self", "order", "letters"] (C8.fnScope sBrdInit) := C8.fnScope_by (by decide +kernel)
abbrev spBrdInit (K : PySem.W.Frag) (CO CB : Addr) : Sp := spE (fun a : Ord × Nat => okBd a.1 a.2 = true) (fun a => arg1 (ownI CB []) [ordR K CO a.1, intR (a.2 : Int)]) (fun a => [(0, ownI CB (brdF K CO a.1 a.2 [[]]))]) fun _ => nonR
theorem c_brd_init {f : Addr} {fd : FuncData} (B : BrdC K mg CB) (M : Mk K CB f) (F : C8.Fun K "__init__" "Board.__init__" sBrdInit f fd) (df : fd.defaults = .none)
    (c1 : C8.Cal P w K mg base 4 "count_texts" (spCountTexts K CO) []) (c2 : C8.Cal P w K mg base 4 "spans_told" (spSpansTold K CO) []) : C8.Mak P w K mg base 5 "Board" CB (spBrdInit K CO CB) [] :=
  own_mak (n := 0) (Rz := fun a => [.own (ownI CB (brdF K CO a.1 a.2 [[]])), .is (ordR K CO a.1), .is (intR (a.2 : Int))]) M B.mgo F df (fun _ _ _ _ _ _ us hl => match us, hl with | [_, _, _], _ => rfl) scBrdInit rfl (fun _ => rfl) (fun o p hp => by
    rw [List.mem_singleton.mp hp]
    exact ⟨⟨_, rfl⟩, rfl⟩) fun a cdv A outer s H E hp hr => by
    obtain ⟨o, b⟩ := a
    replace hp : okBd o b = true := hp
    have hb := okBd_b hp
    obtain ⟨h1, h2⟩ := okBd_c hp
    have ct : ∀ {X : Cx} {Rs : Frm}, True := fun {_ _} => trivial
    refine nc (n_ifF (xt_is (xt_eqI (x_call c1 (o, b) hr (by decide) hb (xa_cons (x_v 1) (xa_cons (x_v 2) xa_nil))) x_int) (decide_eq_false h1))) ?_
    refine nc (n_fld2O 0 rfl B.ins.cl B.bas B.bel rfl (x_v 1) (x_v 2)) ?_ (own1 trivial)
    refine ns_eq (ns_one (n_fldO 0 B.ins.cl B.hel rfl (R := hdR K o b [[]]) ?_ (hl := by show 2 < 1000; decide))) rfl
    show XE _ _ _ (tupsR K [ptR K (fsD []), nonR, intR ((([] : Chn).length : Nat) : Int), intR (maT o b []), dR K (spT o b [])])
    rw [h2]
    refine x_tupR (xa_cons (x_tupF xa_nil) (xa_cons x_non (xa_cons x_int (xa_cons (x_call c1 (o, b) hr (by decide) hb (xa_cons (x_v 1) (xa_cons (x_v 2) xa_nil))) (xa_cons (x_call c2 (o, b, []) hr (by decide) (okB_ps hb) (xa_cons (x_v 1) (xa_cons (x_v 2) (xa_cons (x_tupF xa_nil) xa_nil)))) xa_nil)))))
end
end Bo
set_option maxHeartbeats 4000000
namespace Bo
open PySem PySem.Spec L2
open PyProof.Rows hiding St
theorem os0 {Rs Rs1 : Frm} {P A B : Own} (h1 : Rs[0]? = some (.own A)) (h2 : Rs1[0]? = some (.own B)) : ∀ p ∈ [((0 : Nat), P)], (∃ P, Rs[p.1]? = some (Ent.own P)) ∧ ∃ P, Rs1[p.1]? = some (Ent.own P) := fun p hi => by
  rw [List.mem_singleton.mp hi]
  exact ⟨⟨A, h1⟩, B, h2⟩
theorem oz0 {Rs : Frm} {P : Own} (h : Rs[0]? = some (.own P)) : ∀ p ∈ [((0 : Nat), P)], Rs[p.1]? = some (Ent.own p.2) := fun p hi => by
  rw [List.mem_singleton.mp hi]
  exact h
section
variable {P : Program} {w : World} {K : PySem.W.Frag} {mg : Str → Option Value} {base : Heap} {CO CB CI CN CU : Addr}
/-! become -/
abbrev sBecome : Stmt := clsItem 39 6
abbrev nBecome : List Str := ["self", "facts", "many"]
theorem scBecome : FnScope nBecome ["self", "facts"] (C8.fnScope sBecome) := C8.fnScope_by (by decide +kernel)
abbrev BS := Ord × Nat × Chn × List (Int × Int)
def becR (o : Ord) (b : Nat) (t : List (Int × Int)) : Option Exn := if maT o b t = 0 then some .noT else none
def becC (o : Ord) (b : Nat) (ch : Chn) (t : List (Int × Int)) : Chn := if maT o b t = 0 then ch else t :: ch
abbrev okBec (o : Ord) (b : Nat) (ch : Chn) (t : List (Int × Int)) : Prop := okPs o.1 = true ∧ okT o b t = true ∧ ch ≠ []
abbrev spBecome (K : PySem.W.Frag) (CO CB CI CN CU : Addr) : Sp := spX CI CN CU (fun a : BS => okBec a.1 a.2.1 a.2.2.1 a.2.2.2) (fun a => arg1 (ownI CB (brdF K CO a.1 a.2.1 a.2.2.1)) [ptR K (fsD a.2.2.2)]) (fun a => becR a.1 a.2.1 a.2.2.2) (fun a => [(0, ownI CB (brdF K CO a.1 a.2.1 (becC a.1 a.2.1 a.2.2.1 a.2.2.2)))]) fun _ => nonR
theorem c_become {f : Addr} {fd : FuncData} (B : BrdC K mg CB) (EC : ErrC K mg CI CN CU) (me : Meth K CB "become" f) (F : C8.Fun K "become" "Board.become" sBecome f fd) (df : fd.defaults = .none)
    (c1 : C8.Cal P w K mg base 4 "many_told" (spManyTold K CO) []) (c2 : C8.Cal P w K mg base 4 "spans_told" (spSpansTold K CO) []) : MetX P w K mg base 5 CB "become" (spBecome K CO CB CI CN CU) ["self", "facts"] := by
  refine ⟨f, fd, B.ins.cl, me, fnX (n := 1) F scBecome rfl (fun _ => rfl) fun a cdv A outer s H E hp hr tk => ?_, F.binds df fun _ _ _ _ _ _ us hl => match us, hl with | [_, _], _ => rfl⟩
  obtain ⟨o, b, ch, t⟩ := a
  obtain ⟨h1, h2, h3⟩ := hp
  replace h1 : okPs o.1 = true := h1
  replace h2 : okT o b t = true := h2
  have nd := scBecome.nd
  have mt : ∀ {X : Cx}, True := fun {_} => trivial
  refine ⟨fun hn => ?_, fun x hx => ?_⟩
  · replace hn : becR o b t = none := hn
    have hz : maT o b t ≠ 0 := fun z => by
      unfold becR at hn
      rw [if_pos z] at hn
      cases hn
    obtain ⟨t0, ts, rfl⟩ : ∃ t0 ts, ch = t0 :: ts := by
      cases ch with
      | nil => exact (h3 rfl).elim
      | cons t0 ts => exact ⟨t0, ts, rfl⟩
    have eb : becC o b (t0 :: ts) t = t :: t0 :: ts := by
      unfold becC
      rw [if_neg hz]
    show PSs _ _ (tXF0 [(0, ownI CB (brdF K CO o b (becC o b (t0 :: ts) t)))] [.own (ownI CB (brdF K CO o b (t0 :: ts))), .is (ptR K (fsD t)), .no])
    rw [eb]
    refine f_cons (n_set 2 (x_call c1 (o, b, t) hr (by decide) ⟨h1, h2⟩ (xa_cons (x_fldO 0 B.ins.cl B.bas rfl rfl) (xa_cons (x_fldO 0 B.ins.cl B.bel rfl rfl) (xa_cons (x_v 1) xa_nil)))) nd) ?_ (os0 rfl rfl)
    refine f_cons (n_ifF (xt_is (xt_eqI (x_v 2) x_int) (decide_eq_false hz))) ?_ (os0 rfl rfl)
    refine f_cons (n_fldO 0 B.ins.cl B.hel rfl (R := hdR K o b (t :: t0 :: ts)) ?_ (hl := by show 3 < 1000; decide)) (f_nil (oz0 rfl)) (os0 rfl rfl)
    show XE _ _ _ (tupsR K [ptR K (fsD t), hdR K o b (t0 :: ts), intR (((t0 :: ts).length : Nat) : Int), intR (maT o b t), dR K (spT o b t)])
    refine x_tupR (xa_cons (x_v 1) (xa_cons (x_fldO 0 B.ins.cl B.hel rfl rfl) (xa_cons ?_ (xa_cons (x_v 2) (xa_cons (x_call c2 (o, b, t) hr (by decide) h1 (xa_cons (x_fldO 0 B.ins.cl B.bas rfl rfl) (xa_cons (x_fldO 0 B.ins.cl B.bel rfl rfl) (xa_cons (x_v 1) xa_nil)))) xa_nil)))))
    exact x_eI (x_add (x_ixR (As := [ptR K (fsD t0), hdR K o b ts, intR (ts.length : Nat), intR (maT o b t0), dR K (spT o b t0)]) (i := 2) (x_fldO 0 B.ins.cl B.hel rfl rfl) x_int rfl) x_int) (by simp)
  · replace hx : becR o b t = some x := hx
    have hz : maT o b t = 0 := by
      by_cases z : maT o b t = 0
      · exact z
      · unfold becR at hx
        rw [if_neg z] at hx
        cases hx
    have ex : x = .noT := by
      unfold becR at hx
      rw [if_pos hz] at hx
      exact (Option.some.inj hx).symm
    subst ex
    have eb : becC o b ch t = ch := by
      unfold becC
      rw [if_pos hz]
    show PSs _ _ (tXE CI CN CU E .noT [(0, ownI CB (brdF K CO o b (becC o b ch t)))] [.own (ownI CB (brdF K CO o b ch)), .is (ptR K (fsD t)), .no])
    rw [eb]
    refine e_cons (n_set 2 (x_call c1 (o, b, t) hr (by decide) ⟨h1, h2⟩ (xa_cons (x_fldO 0 B.ins.cl B.bas rfl rfl) (xa_cons (x_fldO 0 B.ins.cl B.bel rfl rfl) (xa_cons (x_v 1) xa_nil)))) nd) ?_ (os0 rfl rfl)
    exact e_ifT (xt_is (xt_eqI (x_v 2) x_int) (decide_eq_true hz)) (e_raise0 PySem.F.excBase_ArithmeticError EC.exN EC.mgN EC.kN EC.bN EC.tN tk (fun _ => ⟨rfl, rfl⟩) (oz0 rfl))
end
end Bo
set_option maxHeartbeats 4000000
/-! Comprehensions beside hidden objects: inside, the hidden objects are left out of sight. -/
namespace Bo
open PySem L2
theorem Fr.hide {Hv H : Hp} {σ : St} {Rs : Frm} {ow : Nat → Addr} (f : Fr Hv H σ Rs ow) (i : Nat) : Fr Hv H σ (Rs.set i .no) ow := by
  refine ⟨f.sub, by rw [List.length_set]; exact f.len, fun j R e => ?_, fun j P e => ?_, fun j k P P' e e' => ?_⟩
  · by_cases h : i = j
    · subst h
      by_cases hl : i < Rs.length
      · rw [List.getElem?_set_self hl] at e
        cases e
      · rw [List.set_eq_of_length_le (by omega)] at e
        exact f.get i R e
    · rw [List.getElem?_set_ne h] at e
      exact f.get j R e
  · rcases set_own e with ⟨_, z⟩ | e
    · cases z
    · exact f.own j P e
  · rcases set_own e with ⟨_, z⟩ | e
    · cases z
    · rcases set_own e' with ⟨_, z⟩ | e'
      · cases z
      · exact f.inj j k P P' e e'
abbrev Hides (Rs Rn : Frm) : Prop := ∀ {Hv H : Hp} {σ : St} {ow : Nat → Addr}, Fr Hv H σ Rs ow → Fr Hv H σ Rn ow
theorem hides (i : Nat) {Rs : Frm} : Hides Rs (Rs.set i .no) := fun f => f.hide i
section
variable {X : Cx} {elt tg iter : Expr} {ifs : List Expr} {scope : Scope} {own : List (Str × Nat)} {Rs Rn : Frm} {pos : Pos} {n : Nat} {I : Nat → Rel}
theorem lch_o (b : Nat → Bool) (f : Nat → PyData) (Gi : Nat → Frm) {ks : List Nat} (hd : Hides Rs Rn) (hn : n ≤ 100000) (ho : NoOwn Rn) (hog : ∀ i, i < n → NoOwn (Gi i)) (hw : ∀ k ∈ own.map (·.2), Rn[k]? = some Ent.no) (hk : ∀ k ∈ ks, k ∈ own.map (·.2)) :
    ∀ σ H Q, tXO Rs (ownL X.K (lcD n b f)) σ H Q → tLc (tXI Rs n I) (fun v σ H Q => ∃ i, i < n ∧ tXG (I i) Rn (Gi i) ks v σ H Q) (fun σ H Q => ∃ i, i < n ∧ tXT (Gi i) (b i) σ H Q) (fun σ H Q => ∃ i, i < n ∧ b i = true ∧ tX (Gi i) (dR X.K (f i)) σ H Q) (own.map (·.2)) σ H Q := by
  intro σ H Q ⟨Hv, ow, f0, q⟩
  refine ⟨Hv, ow, f0, fun J G Hv1 H1 s1 f1' w g1 D nD => ?_⟩
  have f1 := hd f1'
  have vD : Hv1 D = none := f1.sub.free nD
  refine ⟨fun i m H2 => m = n - i ∧ i ≤ n ∧ ∃ Hv2 xs, Fr Hv2 H2 σ Rn ow ∧ Al Hv1 H1 Hv2 H2 ∧ G Hv2 ∧ H2 D = some (.lst xs) ∧ Hv2 D = none ∧ DpAll X.K Hv2 xs (lcD i b f) ∧ xs.length ≤ i,
    ⟨n, by omega, Nat.zero_le _, Hv1, [], ⟨f1.sub.trans (same_new nD), f1.len, f1.get, fun i P e => (ho i P e).elim, f1.inj⟩, ⟨same_new nD, Same.refl _, f1.sub.trans (same_new nD), fun _ _ e _ => e⟩, g1, upd_same, vD, .nil, Nat.le_refl _⟩, ?_⟩
  rintro i m H2 ⟨rfl, hin, Hv2, xs, f2, a2, g2, hD, vD2, dx, hl⟩
  by_cases hlt : i < n
  · refine .inr ⟨w.go i Hv2 H2 hlt f2.sub g2, _, fun H' h => h, fun x H3 y => ?_⟩
    obtain ⟨Hv3, a3, r3⟩ := w.yld i Hv2 H2 x H3 hlt f2.sub g2 y
    have f3 : Fr Hv3 H3 σ Rn ow := f2.al a3
    refine ⟨i, hlt, Hv3, ow, f3.wipe hw, r3, fun σ4 f4 ag => ⟨wipe_agree ag hk, i, hlt, Hv3, ow, f4, fun Hv5 H5 s5 f5 => ?_⟩⟩
    have a5 : Al Hv3 H3 Hv5 H5 := s5.al (hog i hlt) f5.sub
    have b5 := a3.trans a5
    cases hb : b i with
    | false =>
      refine iteF ⟨n - (i + 1), by omega, rfl, hlt, Hv5, xs, f2.al b5, a2.trans b5, w.mono b5.sv g2, b5.s _ _ hD, b5.hid _ _ vD2 hD, ?_, by omega⟩
      rw [lcD_succ, hb, if_neg Bool.false_ne_true]
      exact dpAll_mono b5.sv _ _ dx
    | true =>
      refine iteT ⟨i, hlt, hb, Hv5, ow, f5, fun v Hv6 H6 s6 f6 r6 => ?_⟩
      have a6 : Al Hv5 H5 Hv6 H6 := s6.al (hog i hlt) f6.sub
      have b6 := b5.trans a6
      have vD6 : Hv6 D = none := b6.hid _ _ vD2 hD
      refine ⟨xs, b6.s _ _ hD, Nat.lt_of_le_of_lt (by omega : xs.length ≤ 100000) (by decide), n - (i + 1), by omega, rfl, hlt, Hv6, xs ++ [v], ?_, ?_, w.mono b6.sv g2, upd_same, vD6, ?_, by rw [List.length_append, List.length_singleton]; omega⟩
      · have f7 := f2.al b6
        refine ⟨fun c o e => ?_, f7.len, f7.get, fun i P e => (ho i P e).elim, f7.inj⟩
        rw [upd_ne (ne_of_none e vD6)]
        exact f7.sub c o e
      · have a7 := a2.trans b6
        refine ⟨fun c o e => ?_, a7.sv, fun c o e => ?_, a7.hid⟩
        · rw [upd_ne (ne_of_none e nD)]
          exact a7.s c o e
        · rw [upd_ne (ne_of_none e vD6)]
          exact a7.sub c o e
      · rw [lcD_succ, hb, if_pos rfl]
        exact dpAll_snoc (dpAll_mono b6.sv _ _ dx) r6
  · have e : i = n := by omega
    subst e
    refine .inl ⟨w.stop Hv2 H2 f2.sub g2, q D (.lst xs) Hv2 H2 (s1.trans a2.stp) (f1'.al a2) ?_ vD2 hD ⟨xs, rfl, dx⟩⟩
    cases hq : H D with
    | none => rfl
    | some o =>
      obtain ⟨o', e'⟩ := s1.th D o hq
      rw [e'] at nD
      cases nD
theorem lch_x (b : Nat → Bool) (f : Nat → PyData) (Gi : Nat → Frm) {ks : List Nat} (hd : Hides Rs Rn) (hn : n ≤ 100000) (ho : NoOwn Rn) (hog : ∀ i, i < n → NoOwn (Gi i)) (hw : ∀ k ∈ own.map (·.2), Rn[k]? = some Ent.no) (hk : ∀ k ∈ ks, k ∈ own.map (·.2)) :
    ∀ σ H Q, tX Rs (tlR X.K (lcD n b f)) σ H Q → tLc (tXI Rs n I) (fun v σ H Q => ∃ i, i < n ∧ tXG (I i) Rn (Gi i) ks v σ H Q) (fun σ H Q => ∃ i, i < n ∧ tXT (Gi i) (b i) σ H Q) (fun σ H Q => ∃ i, i < n ∧ b i = true ∧ tX (Gi i) (dR X.K (f i)) σ H Q) (own.map (·.2)) σ H Q :=
  fun σ H Q h => lch_o b f Gi hd hn ho hog hw hk σ H Q (xo_reveal h)
theorem x_lcH (b : Nat → Bool) (f : Nat → PyData) (Gi : Nat → Frm) {ks : List Nat} (hd : Hides Rs Rn) (hc : X.calm = true) (hN : X.N.Nodup) (hi : XI X tg iter Rs n I) (ok : BlkOk X.N X.env.scope scope own) (hn : n ≤ 100000) (ho : NoOwn Rn) (hog : ∀ i, i < n → NoOwn (Gi i))
    (hw : ∀ k ∈ own.map (·.2), Rn[k]? = some Ent.no) (hk : ∀ k ∈ ks, k ∈ own.map (·.2)) (hg : Blk X scope fun Y => ∀ i, i < n → XG Y tg (I i) Rn (Gi i) ks) (ht : Blk X scope fun Y => ∀ i, i < n → PTs Y ifs (tXT (Gi i) (b i)))
    (he : Blk X scope fun Y => ∀ i, i < n → b i = true → XE Y elt (Gi i) (dR X.K (f i))) (hs : ∀ x, foldedSetIterable iter X.env x = pure x := by intro _; rfl) : XE X (.ListComp elt [⟨tg, iter, ifs, 0⟩] scope pos) Rs (tlR X.K (lcD n b f)) :=
  pe_imp (pe_lc (g := fun v σ H Q => ∃ i, i < n ∧ tXG (I i) Rn (Gi i) ks v σ H Q) (tt := fun σ H Q => ∃ i, i < n ∧ tXT (Gi i) (b i) σ H Q) (te := fun σ H Q => ∃ i, i < n ∧ b i = true ∧ tX (Gi i) (dR X.K (f i)) σ H Q) hc hN hi ok
    (fun s H C cl fp => ⟨fun pins s2 σ H2 v u Q J r ⟨i, hi, q⟩ => (hg s H C cl fp i hi).run pins s2 σ H2 v u Q J r q⟩) (fun s H C cl fp => ⟨fun pins s2 σ H2 Q J ⟨i, hi, q⟩ => (ht s H C cl fp i hi).run pins s2 σ H2 Q J q⟩)
    (fun s H C cl fp => ⟨fun pins s2 σ H2 Q J ⟨i, hi, hb, q⟩ => (he s H C cl fp i hi hb).run pins s2 σ H2 Q J q⟩) hs) (lch_x b f Gi hd hn ho hog hw hk)
/-- name = [..] on one line -/
theorem n_setLcH (j : Nat) (b : Nat → Bool) (f : Nat → PyData) (Gi : Nat → Frm) {ks : List Nat} {y : Str} {py spos : Pos} (hd : Hides Rs Rn) (hc : X.calm = true) (hN : X.N.Nodup) (hi : XI X tg iter Rs n I) (ok : BlkOk X.N X.env.scope scope own) (hn : n ≤ 100000) (ho : NoOwn Rn) (hog : ∀ i, i < n → NoOwn (Gi i))
    (hw : ∀ k ∈ own.map (·.2), Rn[k]? = some Ent.no) (hk : ∀ k ∈ ks, k ∈ own.map (·.2)) (hg : Blk X scope fun Y => ∀ i, i < n → XG Y tg (I i) Rn (Gi i) ks) (ht : Blk X scope fun Y => ∀ i, i < n → PTs Y ifs (tXT (Gi i) (b i)))
    (he : Blk X scope fun Y => ∀ i, i < n → b i = true → XE Y elt (Gi i) (dR X.K (f i))) (hsw : swapsWith (.ListComp elt [⟨tg, iter, ifs, 0⟩] scope pos) (some (.Name y py)) spos.line X.env = pure true) (hnj : ∀ P, Rs[j]? ≠ some (Ent.own P) := by intro P z; cases z) (hy : X.N[j]? = some y := by rfl) (hyl : X.env.scope.names.lookup y = some .local := by rfl)
    (hs : ∀ x, foldedSetIterable iter X.env x = pure x := by intro _; rfl) : XN X (.Assign [.Name y py] (.ListComp elt [⟨tg, iter, ifs, 0⟩] scope pos) spos) Rs (Rs.set j (.is (tlR X.K (lcD n b f)))) :=
  ps_imp (ps_setLc (g := fun v σ H Q => ∃ i, i < n ∧ tXG (I i) Rn (Gi i) ks v σ H Q) (tt := fun σ H Q => ∃ i, i < n ∧ tXT (Gi i) (b i) σ H Q) (te := fun σ H Q => ∃ i, i < n ∧ b i = true ∧ tX (Gi i) (dR X.K (f i)) σ H Q) hc hN hy hyl hsw hi ok
    (fun s H C cl fp => ⟨fun pins s2 σ H2 v u Q J r ⟨i, hi, q⟩ => (hg s H C cl fp i hi).run pins s2 σ H2 v u Q J r q⟩) (fun s H C cl fp => ⟨fun pins s2 σ H2 Q J ⟨i, hi, q⟩ => (ht s H C cl fp i hi).run pins s2 σ H2 Q J q⟩)
    (fun s H C cl fp => ⟨fun pins s2 σ H2 Q J ⟨i, hi, hb, q⟩ => (he s H C cl fp i hi hb).run pins s2 σ H2 Q J q⟩) hs) fun D σ H ⟨Hv, ow, f0, q⟩ => lch_x b f Gi hd hn ho hog hw hk σ H _ ⟨Hv, ow, f0, fun v Hv' H' s f' r => q _ Hv' H' ow (sts_set s hnj) (f'.set hnj r)⟩
/-- an expression that does not look at a hidden object -/
theorem x_hide {e : Expr} {R : Rel} (i : Nat) (h : XE X e (Rs.set i .no) R) : XE X e Rs R := pe_imp h fun σ H Q ⟨Hv, ow, f, q⟩ => ⟨Hv, ow, f.hide i, fun v Hv' H' s' f' r => by
  have no : ∀ {b : Addr}, Owned (Rs.set i .no) ow b → Owned Rs ow b := fun {b} ⟨j, P, e, z⟩ => by
    rcases set_own e with ⟨_, z'⟩ | e
    · cases z'
    · exact ⟨j, P, e, z⟩
  refine q v Hv' H' ⟨fun b o e n => s'.kp b o e fun z => n (no z), s'.sv, fun b o e1 e2 n => s'.hid b o e1 e2 fun z => n (no z), s'.th⟩ ⟨f'.sub, f.len, fun j R e => ?_, fun j P e => ?_, f.inj⟩ r
  · obtain ⟨w, g1, g2⟩ := f.get j R e
    exact ⟨w, g1, R.mono s'.sv g2⟩
  · by_cases hj : i = j
    · subst hj
      obtain ⟨g1, g2, u, g3, g4⟩ := f.own i P e
      have nw : ¬ Owned (Rs.set i .no) ow (ow i) := fun ⟨k, P', e', z⟩ => by
        rcases set_own e' with ⟨_, z'⟩ | e2
        · cases z'
        · have hk := f.inj k i P' P e2 e z
          subst hk
          rw [List.getElem?_set_self (List.getElem?_eq_some_iff.mp e).1] at e'
          cases e'
      exact ⟨g1, s'.hid _ _ g2 g3 nw, u, s'.kp _ _ g3 nw, P.mono s'.sv g4⟩
    · exact f'.own j P (by rw [List.getElem?_set_ne hj]; exact e)⟩
end
end Bo
set_option maxHeartbeats 4000000
/-! Methods called by keywords alone; a choice of two calls that may raise; defs that return or raise. -/
namespace Bo
open PySem L2
open PyProof.Rows (envOfC)
/-- ks: the keywords' names as they are written, pm: their values in the parameters' order -/
structure MetK (P : Program) (w : World) (K : PySem.W.Frag) (mg : Str → Option Value) (base : Heap) (k : Nat) (C : Addr) (m : Str) (sp : Sp) (ps ks : List Str) (pm : {α : Type} → List α → List α) : Prop where
  ex : ∃ (f : Addr) (fd : FuncData), Cls K C ∧ Meth K C m f ∧ FnOk P w K mg base (L2.CX P w) k f fd ps sp ∧ KBn K fd ps 1 ks (fun us ws => us ++ pm ws) (fun vs zs => vs ++ pm zs)
section
variable {K : PySem.W.Frag} {x qual : Str} {st : Stmt} {f : Addr} {fd : FuncData} {ps ks : List Str} {pm : {α : Type} → List α → List α}
theorem kbn_of (F : C8.Fun K x qual st f fd) (df : fd.defaults = .none) (hrel : ∀ {zs : List V} {ws : List Value}, Vals zs ws → Vals (pm zs) (pm ws))
    (h : ∀ (kV doc pm' : Value) (an : Option Addr) (cdv ct : Value) (u : Value) (ws : List Value), ws.length = ks.length → bindArgs (PySem.W.fnOf x qual (C8.fnArgs st) (C8.fnBody st) (C8.fnScope st) .none kV doc pm' an cdv ct) ⟨[u], ks.zip ws⟩ = pure (ps.zip (u :: pm ws))) : KBn K fd ps 1 ks (fun us ws => us ++ pm ws) (fun vs zs => vs ++ pm zs) := by
  obtain ⟨oc, od, dV, kV, doc, pm', an, cdv, ct, osl, rfl, lk, hcd⟩ := F.ex
  have e : dV = .none := df
  subst e
  refine ⟨fun s us ws X l1 l2 => ?_, fun r1 r2 => r1.append (hrel r2)⟩
  match us, l1 with
  | [u], _ =>
    refine BindsTo.of_looks fun M => ?_
    rw [h kV doc pm' an cdv ct u ws l2]
    exact PySem.W.Looks.of_pure rfl
end
section
variable {X : Cx} {e a b c : Expr} {es : List Expr} {Rs Rs' : Frm} {R : Rel} {pos apos px : Pos} {x y m : Str} {k j : Nat} {α : Type} {pre : α → Prop} {P2 : α → Own} {fs : α → Flds} {As : α → List Rel} {Rr : α → Rel} {res : α → Option Exn} {C CI CN CU : Addr} {E : XK} {ps ks : List Str} {pm : {α : Type} → List α → List α} {o : Option Exn}
abbrev XKw (X : Cx) (kws : List Keyword) (Rs : Frm) (As : List Rel) : Prop := PK X kws (tXA Rs As)
theorem pk_imp {kws : List Keyword} {t t' : TA} (h : PK X kws t) (i : ∀ σ H Q, t' σ H Q → t σ H Q) : PK X kws t' := ⟨fun pos pins s σ H Q I q => h.run pos pins s σ H Q I (i σ H Q q)⟩
theorem xkw_nil : XKw X [] Rs [] := pk_imp pk_nil fun σ H Q ⟨Hv, ow, f, q⟩ => q [] Hv H .refl f trivial
theorem xkw_cons {nm : Option Str} {kp : Pos} {kws : List Keyword} {Bs : List Rel} (h : XE X e Rs R) (hr : XKw X kws Rs Bs) : XKw X (⟨nm, e, kp⟩ :: kws) Rs (R :: Bs) := pk_imp (pk_cons h hr) fun σ H Q ⟨Hv, ow, f, q⟩ =>
  ⟨Hv, ow, f, fun v Hv1 H1 s1 f1 r1 => ⟨Hv1, ow, f1, fun vs Hv2 H2 s2 f2 r2 => q (v :: vs) Hv2 H2 (s1.trans s2) f2 ⟨R.mono s2.sv r1, r2⟩⟩⟩
/-- o.m(k = v, ..), o hidden -/
theorem x_methK (i : Nat) {pl : Sem Bool} {kws : List Keyword} {Bs : List Rel} (c : MetK X.prog X.w X.K X.mg X.base k C m (spX CI CN CU pre (fun a => arg1 (ownI C (fs a)) (As a)) res (fun a => [(0, P2 a)]) Rr) ps ks pm) (a : α) (hi : Rs[i]? = some (.own (ownI C (fs a)))) (hm : (fs a).lookup m = none) (hr : Room j X.A) (hk : k ≤ j) (hp : pre a) (tk : Takes X fun cls d _ H => E cls d H)
    (ha : XKw X kws Rs Bs) (hb : ∀ Hv vs, AllR Hv vs Bs → AllR Hv (pm vs) (As a)) (hbl : Bs.length = ks.length := by rfl) (hN : X.N[i]? = some y := by rfl) (hv : Vis X.env.scope y := by first | exact Or.inl rfl | exact Or.inr (Or.inl rfl) | exact Or.inr (Or.inr rfl)) (hd : (y == ("__debug__" : Str)) = false := by decide) (hcd : (y == ("__classdict__" : Str)) = false := by decide)
    (hall : (backToKw pos (keywordEach kws X.env)).all (·.1.isSome) = true := by rfl) (hks : (backToKw pos (keywordEach kws X.env)).filterMap (·.1) = ks := by rfl) (hpl : ((backTo pos (starEach [] X.env)).any (·.1) || (backToKw pos (keywordEach kws X.env)).any (·.1.isNone)) = false := by rfl)
    (ht : eval (.Call (.Attribute (.Name y px) m apos) [] kws pos) X.env = (do
      let ov ← eval (.Name y px) X.env
      standAt apos.atName
      let (f, first) ← holding [ov] (getMethod ov m pl)
      callWith pos f first (backTo pos (starEach [] X.env)) (backToKw pos (keywordEach kws X.env))) := by rfl) :
    PE X (.Call (.Attribute (.Name y px) m apos) [] kws pos) (tXFX CI CN CU (fun _ => E) Rs (res a) (Rs.set i (.own (P2 a))) (Rr a)) := by
  obtain ⟨f, fd, hc, hme, F, kb⟩ := c.ex
  refine ⟨fun pins s σ H Q I ⟨Hv, ow, fr, q⟩ => ?_⟩
  obtain ⟨h1, h2, u0, h3, dx, fv, eu, h5⟩ := fr.own i _ hi
  subst eu
  refine PySem.W.methodCall_KW (pl := pl) (thn ((pv (X := X) (pos := px) i hN hv hd hcd).run pins s σ H (fun v H1 => v = .ref (ow i) ∧ H1 = H) I ⟨_, h1, rfl, rfl⟩) fun u s1 ⟨v, H1, I1, rx, ev, eH⟩ => ?_) ht
  subst ev
  subst eH
  obtain rfl : u = Value.ref (ow i) := rx
  refine getmeth_ok I1 h3 hc hme (h5.none hm) ?_
  refine PySem.W.callWith_KW0 (first := [.ref (ow i)]) (h₀ := X.base) I.ok.mod.kin hme.kp hall ?_ hpl
  refine thn (ha.run pos pins s1 σ H1 _ I1 ⟨Hv, ow, fr, fun vs Hv1 H2 s2 f1 r1 => (show (fun zs H2 => zs.length = ks.length ∧ spX CI CN CU pre (fun a => arg1 (ownI C (fs a)) (As a)) res (fun a => [(0, P2 a)]) Rr (.ref (ow i) :: pm zs) H2 Q E) vs H2 from ⟨r1.length.trans hbl, meth_core hi hp s2 f1 (hb _ _ r1) q⟩)⟩) fun ws s2 ⟨zs, H2, I2, rz, l2, q2⟩ => ⟨I2.kIn, ?_⟩
  rw [hks]
  exact run_fnN (us := [.ref (ow i)]) (vs := [.ref (ow i)]) F (hr.mono hk) kb (passX tk) I2 (.cons rfl .nil) rz rfl l2 q2
/-- a if c else b, both may raise -/
theorem x_ifX {k : Bool} (h : XT X c Rs k) (h1 : k = true → PE X a (tXFX CI CN CU (fun _ => E) Rs o Rs' R)) (h2 : k = false → PE X b (tXFX CI CN CU (fun _ => E) Rs o Rs' R)) : PE X (.IfExp c a b pos) (tXFX CI CN CU (fun _ => E) Rs o Rs' R) := by
  have st : ∀ {σ : St} {H : Hp} {Q : VK} {Hv Hv1 H1 : Hp} {ow : Nat → Addr}, Stp Hv H Rs ow Hv1 H1 → Fr Hv1 H1 σ Rs ow → ((o = none → ∀ v Hv' H', Stp Hv H Rs ow Hv' H' → Fr Hv' H' σ Rs' ow → R.r Hv' v → Q v H') ∧ ∀ x, o = some x → ∀ cls d Hv' H', Stp Hv H Rs ow Hv' H' → Fr Hv' H' σ Rs' ow → ExnAt CI CN CU x cls d Hv' → E cls d H') →
      tXFX CI CN CU (fun _ => E) Rs o Rs' R σ H1 Q := fun s1 f1 q => ⟨_, _, f1, fun hn v Hv2 H2 s2 f2 r => q.1 hn v Hv2 H2 (s1.trans s2) f2 r, fun x hx cls d Hv2 H2 s2 f2 r => q.2 x hx cls d Hv2 H2 (s1.trans s2) f2 r⟩
  cases k with
  | true => exact pe_imp (pe_ifExp h (h1 rfl) pe_never) fun σ H Q ⟨Hv, ow, f, q⟩ => ⟨Hv, ow, f, fun Hv1 H1 s1 f1 => iteT (st s1 f1 q)⟩
  | false => exact pe_imp (pe_ifExp h pe_never (h2 rfl)) fun σ H Q ⟨Hv, ow, f, q⟩ => ⟨Hv, ow, f, fun Hv1 H1 s1 f1 => iteF (st s1 f1 q)⟩
end
section
variable {P : Program} {w : World} {K : PySem.W.Frag} {mg : Str → Option Value} {base : Heap} {x m qual : Str} {st : Stmt} {N ps : List Str} {k : Nat} {α : Type} {pre : α → Prop} {As : α → Frm} {res : α → Option Exn} {Os : α → List (Nat × Own)} {R : α → Rel} {C f CI CN CU : Addr} {fd : FuncData}
/-- a def that returns, or raises -/
theorem fnXR {n : Nat} (F : C8.Fun K x qual st f fd) (S : FnScope N ps (C8.fnScope st)) (hm : N.length = ps.length + n) (hl : ∀ a, (As a).length = ps.length)
    (body : ∀ (a : α) (cdv : Value) (A : Around) (outer : List Env) (s : Shared) (H : Hp) (E : XK), pre a → Room k (A.deeper (envOfC qual (C8.fnScope st) s.heap.objs.size f cdv)) → Takes (BXX P w K mg base N qual (C8.fnScope st) f cdv A outer s H E) (fun cls d _ H => E cls d H) →
      (res a = none → PSs (BXX P w K mg base N qual (C8.fnScope st) f cdv A outer s H E) (C8.fnBody st) (tXR (Os a) (As a ++ List.replicate n .no) (R a))) ∧ ∀ x, res a = some x → PSs (BXX P w K mg base N qual (C8.fnScope st) f cdv A outer s H E) (C8.fnBody st) (tXE CI CN CU E x (Os a) (As a ++ List.replicate n .no))) :
    FnOk P w K mg base (L2.CX P w) (k + 1) f fd ps (spX CI CN CU pre As res Os R) := by
  obtain ⟨oc, od, dV, kV, doc, pm, an, cdv, ct, osl, rfl, lk, hcd⟩ := F.ex
  have len : ∀ vs H Q E, spX CI CN CU pre As res Os R vs H Q E → vs.length = ps.length := fun vs H Q E ⟨a, Hv, ow, hp, fr, q⟩ => by
    have e := fr.len
    rw [List.length_map] at e
    exact e.trans (hl a)
  refine fn_of lk hcd S len fun A outer s H vs Q E hr h => ?_
  have e1 := len vs H Q E h
  obtain ⟨a, Hv, ow, hp, fr, q1, q2⟩ := h
  have tk : Takes (BXX P w K mg base N qual (C8.fnScope st) f cdv A outer s H E) (fun cls d _ H => E cls d H) := takes_of rfl rfl rfl rfl
  obtain ⟨b1, b2⟩ := body a cdv A outer s H E hp hr tk
  have z := fr_startE (N := N) fr (by omega)
  rw [show N.length - vs.length = n by omega] at z
  cases hres : res a with
  | none => exact ⟨_, b1 hres, Hv, ow, z, fun v Hv' H' s' sub o r => q1 hres v Hv' H' (stp_app s') sub o r⟩
  | some x => exact ⟨_, b2 x hres, Hv, ow, z, fun cls d Hv' H' s' sub o r => q2 x hres cls d Hv' H' (stp_app s') sub o r⟩
end
end Bo
set_option maxHeartbeats 4000000
namespace Bo
open PySem PySem.Spec L2
open PyProof.Rows hiding St
section
variable {P : Program} {w : World} {K : PySem.W.Frag} {mg : Str → Option Value} {base : Heap} {CO CB CI CN CU : Addr}
/-! put -/
abbrev sPut : Stmt := clsItem 39 7
abbrev nPut : List Str := ["self", "place", "letter", "told"]
theorem scPut : FnScope nPut ["self", "place", "letter"] (C8.fnScope sPut) := C8.fnScope_by (by decide +kernel)
/-- order, letters, chain; place, letter; the facts behind it -/
abbrev PutA := BS × Int × Int
abbrev okPut (a : PutA) : Prop := okBec a.1.1 a.1.2.1 a.1.2.2.1 a.1.2.2.2 ∧ (0 ≤ a.2.1 ∧ a.2.1 < (a.1.1.1.length : Int)) ∧ (0 ≤ a.2.2 ∧ a.2.2 < (a.1.2.1 : Int)) ∧ (mrg (a.1.2.2.1.headD [])).length < 100 ∧ a.1.2.2.2.Perm (putI (mrg (mrg (a.1.2.2.1.headD []))) a.2.1 a.2.2) ∧ a.1.2.2.2.Pairwise (fun x y => x.1 < y.1)
abbrev spPut (K : PySem.W.Frag) (CO CB CI CN CU : Addr) : Sp := spX CI CN CU okPut (fun a => arg1 (ownI CB (brdF K CO a.1.1 a.1.2.1 a.1.2.2.1)) [intR a.2.1, intR a.2.2]) (fun a => becR a.1.1 a.1.2.1 a.1.2.2.2) (fun a => [(0, ownI CB (brdF K CO a.1.1 a.1.2.1 (becC a.1.1 a.1.2.1 a.1.2.2.1 a.1.2.2.2)))]) fun _ => nonR
theorem putI_len {t : List (Int × Int)} {k v : Int} : (putI t k v).length ≤ t.length + 1 := by
  unfold putI
  split <;> simp
theorem mrg_len {t : List (Int × Int)} : (mrg t).length ≤ t.length := by
  have g : ∀ (t acc : List (Int × Int)), (t.foldl (fun acc p => putI acc p.1 p.2) acc).length ≤ acc.length + t.length := fun t => by
    induction t with
    | nil => exact fun acc => Nat.le_refl _
    | cons p t ih =>
      intro acc
      have h1 := ih (putI acc p.1 p.2)
      have h2 := putI_len (t := acc) (k := p.1) (v := p.2)
      show (t.foldl _ (putI acc p.1 p.2)).length ≤ _
      rw [List.length_cons]
      omega
  have := g t []
  rw [List.length_nil, Nat.zero_add] at this
  exact this
theorem f_put {f : Addr} {fd : FuncData} (B : BrdC K mg CB) (O : OrdC K mg CO) (M : Md K mg) (EC : ErrC K mg CI CN CU) (F : C8.Fun K "put" "Board.put" sPut f fd)
    (c1 : C8.Cal P w K mg base 3 "check_place" spCheckPlace []) (c2 : C8.Cal P w K mg base 2 "is_between" spBetween []) (c3 : MetX P w K mg base 5 CB "become" (spBecome K CO CB CI CN CU) ["self", "facts"]) : FnOk P w K mg base (L2.CX P w) 6 f fd ["self", "place", "letter"] (spPut K CO CB CI CN CU) := by
  refine fnX (n := 1) F scPut rfl (fun _ => rfl) fun a cdv A outer s H E hp hr tk => ?_
  obtain ⟨⟨o, b, ch, L⟩, p, v⟩ := a
  obtain ⟨h1, ⟨h2, h3⟩, ⟨h4, h5⟩, h6, h7, h8⟩ := hp
  replace h1 : okBec o b ch L := h1
  replace h2 : 0 ≤ p := h2
  replace h3 : p < (o.1.length : Int) := h3
  replace h4 : 0 ≤ v := h4
  replace h5 : v < (b : Int) := h5
  obtain ⟨t0, ts, rfl⟩ : ∃ t0 ts, ch = t0 :: ts := by
    cases ch with
    | nil => exact (h1.2.2 rfl).elim
    | cons t0 ts => exact ⟨t0, ts, rfl⟩
  replace h6 : (mrg t0).length < 100 := h6
  replace h7 : L.Perm (putI (mrg (mrg t0)) p v) := h7
  replace h8 : L.Pairwise (fun x y => x.1 < y.1) := h8
  have hL : (putI (mrg (mrg t0)) p v).length < 1000 := by
    have e1 := putI_len (t := mrg (mrg t0)) (k := p) (v := v)
    have e2 := mrg_len (t := mrg t0)
    omega
  have nd := scPut.nd
  have st1 : ∀ {X : Cx}, True := fun {_} => trivial
  refine ⟨fun hn => ?_, fun x hx => ?_⟩
  · replace hn : becR o b L = none := hn
    show PSs _ _ (tXF0 [(0, ownI CB (brdF K CO o b (becC o b (t0 :: ts) L)))] [.own (ownI CB (brdF K CO o b (t0 :: ts))), .is (intR p), .is (intR v), .no])
    refine f_cons (n_expr (x_call c1 (p, o.1.length) hr (by decide) ⟨h2, h3⟩ (xa_cons (x_v 1) (xa_cons (x_eI (x_lenT M.len (x_fld O.ins.cl O.row (x_fldO 0 B.ins.cl B.bas rfl rfl) rfl)) (by simp)) xa_nil)))) ?_ (os0 rfl rfl)
    refine f_cons (n_ifF (xt_is (xt_not (xt_val (x_call c2 (v, 0, (b : Int) - 1) hr (by decide) trivial (xa_cons (x_v 2) (xa_cons x_int (xa_cons (x_sub (x_fldO 0 B.ins.cl B.bel rfl rfl) x_int) xa_nil)))))) (by
      simp only [Bool.not_eq_false', decide_eq_true_eq]
      omega))) ?_ (os0 rfl rfl)
    refine f_cons (n_set 3 (x_seen (o_dstar (x_dictF rfl M.dict_ (x_ixR (As := [ptR K (fsD t0), hdR K o b ts, intR (ts.length : Nat), intR (maT o b t0), dR K (spT o b t0)]) (i := 0) (x_fldO 0 B.ins.cl B.hel rfl rfl) x_int rfl)) (x_v 1) (x_v 2) (by omega)) seen_dc) nd) ?_ (os0 rfl rfl)
    exact f_last hn (x_methX 0 c3 (o, b, t0 :: ts, L) rfl rfl hr (by decide) h1 tk (xa_cons (x_tupOfF M.tuple_ (x_srtItems rfl hr.units M.sorted_ (x_items (x_v 3)) hL h7 h8)) xa_nil)) (oz0 rfl)
  · replace hx : becR o b L = some x := hx
    show PSs _ _ (tXE CI CN CU E x [(0, ownI CB (brdF K CO o b (becC o b (t0 :: ts) L)))] [.own (ownI CB (brdF K CO o b (t0 :: ts))), .is (intR p), .is (intR v), .no])
    refine e_cons (n_expr (x_call c1 (p, o.1.length) hr (by decide) ⟨h2, h3⟩ (xa_cons (x_v 1) (xa_cons (x_eI (x_lenT M.len (x_fld O.ins.cl O.row (x_fldO 0 B.ins.cl B.bas rfl rfl) rfl)) (by simp)) xa_nil)))) ?_ (os0 rfl rfl)
    refine e_cons (n_ifF (xt_is (xt_not (xt_val (x_call c2 (v, 0, (b : Int) - 1) hr (by decide) trivial (xa_cons (x_v 2) (xa_cons x_int (xa_cons (x_sub (x_fldO 0 B.ins.cl B.bel rfl rfl) x_int) xa_nil)))))) (by
      simp only [Bool.not_eq_false', decide_eq_true_eq]
      omega))) ?_ (os0 rfl rfl)
    refine e_cons (n_set 3 (x_seen (o_dstar (x_dictF rfl M.dict_ (x_ixR (As := [ptR K (fsD t0), hdR K o b ts, intR (ts.length : Nat), intR (maT o b t0), dR K (spT o b t0)]) (i := 0) (x_fldO 0 B.ins.cl B.hel rfl rfl) x_int rfl)) (x_v 1) (x_v 2) (by omega)) seen_dc) nd) ?_ (os0 rfl rfl)
    exact e_last hx (x_methX 0 c3 (o, b, t0 :: ts, L) rfl rfl hr (by decide) h1 tk (xa_cons (x_tupOfF M.tuple_ (x_srtItems rfl hr.units M.sorted_ (x_items (x_v 3)) hL h7 h8)) xa_nil)) (oz0 rfl)
theorem c_put {f : Addr} {fd : FuncData} (B : BrdC K mg CB) (O : OrdC K mg CO) (M : Md K mg) (EC : ErrC K mg CI CN CU) (me : Meth K CB "put" f) (F : C8.Fun K "put" "Board.put" sPut f fd) (df : fd.defaults = .none)
    (c1 : C8.Cal P w K mg base 3 "check_place" spCheckPlace []) (c2 : C8.Cal P w K mg base 2 "is_between" spBetween []) (c3 : MetX P w K mg base 5 CB "become" (spBecome K CO CB CI CN CU) ["self", "facts"]) : MetX P w K mg base 6 CB "put" (spPut K CO CB CI CN CU) ["self", "place", "letter"] :=
  ⟨f, fd, B.ins.cl, me, f_put B O M EC F c1 c2 c3, F.binds df fun _ _ _ _ _ _ us hl => match us, hl with | [_, _, _], _ => rfl⟩
theorem vals_rev : ∀ {zs : List V} {ws : List Value}, Vals zs ws → Vals zs.reverse ws.reverse
  | _, _, .nil => .nil
  | _, _, .cons h t => by
    rw [List.reverse_cons, List.reverse_cons]
    exact (vals_rev t).append (.cons h .nil)
theorem k_put {f : Addr} {fd : FuncData} (B : BrdC K mg CB) (O : OrdC K mg CO) (M : Md K mg) (EC : ErrC K mg CI CN CU) (me : Meth K CB "put" f) (F : C8.Fun K "put" "Board.put" sPut f fd) (df : fd.defaults = .none)
    (c1 : C8.Cal P w K mg base 3 "check_place" spCheckPlace []) (c2 : C8.Cal P w K mg base 2 "is_between" spBetween []) (c3 : MetX P w K mg base 5 CB "become" (spBecome K CO CB CI CN CU) ["self", "facts"]) : MetK P w K mg base 6 CB "put" (spPut K CO CB CI CN CU) ["self", "place", "letter"] ["letter", "place"] List.reverse :=
  ⟨f, fd, B.ins.cl, me, f_put B O M EC F c1 c2 c3, kbn_of F df vals_rev fun _ _ _ _ _ _ _ ws hl => match ws, hl with | [_, _], _ => rfl⟩
/-! undo -/
abbrev sUndo : Stmt := clsItem 39 9
theorem scUndo : FnScope ["self"] ["self"] (C8.fnScope sUndo) := C8.fnScope_by (by decide +kernel)
def undR : Chn → Option Exn
  | [] => none
  | [_] => some .noU
  | _ => none
def undC : Chn → Chn
  | _ :: t :: ts => t :: ts
  | ch => ch
abbrev spUndo (K : PySem.W.Frag) (CO CB CI CN CU : Addr) : Sp := spX CI CN CU (fun a : Ord × Nat × Chn => a.2.2 ≠ []) (fun a => arg1 (ownI CB (brdF K CO a.1 a.2.1 a.2.2)) []) (fun a => undR a.2.2) (fun a => [(0, ownI CB (brdF K CO a.1 a.2.1 (undC a.2.2)))]) fun _ => nonR
theorem c_undo {f : Addr} {fd : FuncData} (B : BrdC K mg CB) (EC : ErrC K mg CI CN CU) (me : Meth K CB "undo" f) (F : C8.Fun K "undo" "Board.undo" sUndo f fd) (df : fd.defaults = .none) : MetX P w K mg base 1 CB "undo" (spUndo K CO CB CI CN CU) ["self"] := by
  refine ⟨f, fd, B.ins.cl, me, fnX (n := 0) (k := 0) F scUndo rfl (fun _ => rfl) fun a cdv A outer s H E hp hr tk => ?_, F.binds df fun _ _ _ _ _ _ us hl => match us, hl with | [_], _ => rfl⟩
  obtain ⟨o, b, ch⟩ := a
  replace hp : ch ≠ [] := hp
  have hel : ∀ (t0 : List (Int × Int)) (ts : Chn), hdR K o b (t0 :: ts) = tupsR K [ptR K (fsD t0), hdR K o b ts, intR (ts.length : Nat), intR (maT o b t0), dR K (spT o b t0)] := fun _ _ => rfl
  match ch, hp with
  | [t0], _ =>
    refine ⟨fun hn => (by cases hn), fun x hx => ?_⟩
    cases (show Exn.noU = x from Option.some.inj hx)
    show PSs _ _ (tXE CI CN CU E .noU [(0, ownI CB (brdF K CO o b [t0]))] [.own (ownI CB (brdF K CO o b [t0]))])
    exact e_ifT (xt_isN' (x_ixR (As := [ptR K (fsD t0), nonR, intR ((0 : Nat) : Int), intR (maT o b t0), dR K (spT o b t0)]) (i := 1) (x_fldO 0 B.ins.cl B.hel rfl rfl) x_int rfl) fun H v r => by
      rw [show v = .non from r]
      rfl) (e_raise0 PySem.F.excBase_ArithmeticError EC.exU EC.mgU EC.kU EC.bU EC.tU tk (fun _ => ⟨rfl, rfl⟩) (oz0 rfl))
  | t0 :: t1 :: ts, _ =>
    refine ⟨fun hn => ?_, fun x hx => (by cases hx)⟩
    show PSs _ _ (tXF0 [(0, ownI CB (brdF K CO o b (t1 :: ts)))] [.own (ownI CB (brdF K CO o b (t0 :: t1 :: ts)))])
    refine f_cons (n_ifF (xt_isN' (x_ixR (As := [ptR K (fsD t0), hdR K o b (t1 :: ts), intR ((t1 :: ts).length : Nat), intR (maT o b t0), dR K (spT o b t0)]) (i := 1) (x_fldO 0 B.ins.cl B.hel rfl rfl) x_int rfl) fun H v r => by
      obtain ⟨a, xs, e, _⟩ := r
      rw [e]
      rfl)) ?_ (os0 rfl rfl)
    exact f_cons (n_fldO 0 B.ins.cl B.hel rfl (R := hdR K o b (t1 :: ts)) (x_ixR (As := [ptR K (fsD t0), hdR K o b (t1 :: ts), intR ((t1 :: ts).length : Nat), intR (maT o b t0), dR K (spT o b t0)]) (i := 1) (x_fldO 0 B.ins.cl B.hel rfl rfl) x_int rfl) (hl := by show 3 < 1000; decide)) (f_nil (oz0 rfl)) (os0 rfl rfl)
/-! the properties -/
theorem prp_of {α : Type} {R : Rel} {qual nm : Str} {st : Stmt} {p f : Addr} {fd : FuncData} {k : Nat} {pre : α → Prop} {fs : α → Flds} {Rr : α → Rel} (B : C8.InsC K CB) (po : PropOf K CB nm p f) (F : C8.Fun K nm qual st f fd) (df : fd.defaults = .none) (hb : BindsOk nm qual st ["self"]) (S : FnScope ["self"] ["self"] (C8.fnScope st))
    (body : BodyR P w K mg base ["self"] qual st f k 0 pre (fun a => arg1 (ownI CB (fs a)) []) (fun a => [(0, ownI CB (fs a))]) Rr) : Prp P w K mg base (k + 1) CB nm (spE pre (fun a => arg1 (ownI CB (fs a)) []) (fun a => [(0, ownI CB (fs a))]) Rr) :=
  ⟨p, f, fd, B.cl, po, C8.fn0 F S (spE_len fun _ => rfl) fun cdv A outer s H vs Q E hr h => bodyR_go (n := 0) (fun _ => rfl) rfl body cdv A outer s H vs Q E hr h, F.binds df hb⟩
end
end Bo
set_option maxHeartbeats 4000000
namespace Bo
open PySem PySem.Spec L2
open PyProof.Rows hiding St
theorem pairs_ok : ∀ xs : List (Int × Int), PyData.canLayAll0 (fsD xs) = true ∧ PyData.depthAll (fsD xs) ≤ 1
  | [] => ⟨rfl, by decide⟩
  | x :: xs => by
    obtain ⟨h1, h2⟩ := pairs_ok xs
    constructor
    · show (PyData.canLay0 (pairD x) && PyData.canLayAll0 (fsD xs)) = true
      rw [h1]
      rfl
    · show max (PyData.depth (pairD x)) (PyData.depthAll (fsD xs)) ≤ 1
      have e : PyData.depth (pairD x) = 1 := rfl
      rw [e]
      omega
theorem shaped_fs (xs : List (Int × Int)) : SeqAt.shaped (.list (fsD xs)) = true := by
  obtain ⟨h1, h2⟩ := pairs_ok xs
  show (PyData.canLayAll0 (fsD xs) && decide (PyData.depthAll (fsD xs) + 1 ≤ 64)) = true
  rw [h1, Bool.true_and]
  exact decide_eq_true (by omega)
theorem filter_ix {α : Type} (p : α → Bool) (d : α) : ∀ l : List α, ((List.range l.length).filter fun i => p (l.getD i d)).map (fun i => l.getD i d) = l.filter p
  | [] => rfl
  | x :: l => by
    have ih := filter_ix p d l
    rw [List.length_cons, List.range_succ_eq_map, List.filter_cons, List.filter_map]
    have e : ∀ i, (x :: l).getD (i + 1) d = l.getD i d := fun i => by simp
    have e2 : List.filter ((fun i => p ((x :: l).getD i d)) ∘ Nat.succ) (List.range l.length) = List.filter (fun i => p (l.getD i d)) (List.range l.length) := List.filter_congr fun i _ => by
      show p ((x :: l).getD (i + 1) d) = _
      rw [e]
    rw [e2]
    have e3 : ((List.filter (fun i => p (l.getD i d)) (List.range l.length)).map Nat.succ).map (fun i => (x :: l).getD i d) = l.filter p := by
      rw [List.map_map, ← ih]
      refine List.map_congr_left fun i _ => ?_
      exact e i
    cases hx : p x with
    | true =>
      have h0 : p ((x :: l).getD 0 d) = true := hx
      rw [if_pos h0, List.map_cons, e3, List.filter_cons_of_pos (by exact hx)]
      rfl
    | false =>
      have h0 : p ((x :: l).getD 0 d) = false := hx
      rw [if_neg (by rw [h0]; exact Bool.false_ne_true), e3, List.filter_cons_of_neg (by rw [hx]; exact Bool.false_ne_true)]
theorem lcD_filter (p : Int × Int → Bool) (t : List (Int × Int)) : lcD t.length (fun i => p (t.getD i (0, 0))) (fun i => pairD (t.getD i (0, 0))) = fsD (t.filter p) := by
  unfold lcD
  have e := congrArg (List.map pairD) (filter_ix p (0, 0) t)
  rw [List.map_map] at e
  exact e
theorem nthD_fs {t : List (Int × Int)} {i : Nat} (h : i < t.length) : nthD (fsD t) i = pairD (t.getD i (0, 0)) := by
  refine nthD_of ?_
  rw [List.getElem?_map, List.getElem?_eq_getElem h, List.getD_eq_getElem?_getD, List.getElem?_eq_getElem h]
  rfl
theorem xi_fs {X : Cx} {tg e : Expr} {Rs : Frm} {t : List (Int × Int)} (h : XE X e Rs (ptR X.K (fsD t))) : XI X tg e Rs t.length (fun i => dR X.K (pairD (t.getD i (0, 0)))) := by
  have z := xi_tup (tg := tg) (x_pt h)
  rw [List.length_map] at z
  exact xi_weak z fun k hk H v q => by
    rw [← nthD_fs hk]
    exact q
section
variable {P : Program} {w : World} {K : PySem.W.Frag} {mg : Str → Option Value} {base : Heap} {CO CB CI CN CU : Addr}
/-! drop -/
abbrev sDrop : Stmt := clsItem 39 8
abbrev nDrop : List Str := ["self", "place", "found", "fact"]
theorem scDrop : FnScope nDrop ["self", "place"] (C8.fnScope sDrop) := C8.fnScope_by (by decide +kernel)
abbrev drF (t : List (Int × Int)) (p : Int) : List (Int × Int) := t.filter fun z => decide (z.1 = p)
abbrev drN (t : List (Int × Int)) (p : Int) : List (Int × Int) := t.filter fun z => !decide (z.1 = p)
def drpR (o : Ord) (b : Nat) (t : List (Int × Int)) (p : Int) : Option Exn := if drF t p = [] then some (.num p) else becR o b (drN t p)
def drpC (o : Ord) (b : Nat) (t : List (Int × Int)) (ts : Chn) (p : Int) : Chn := if drF t p = [] then t :: ts else becC o b (t :: ts) (drN t p)
/-- order, letters, chain, place -/
abbrev DS := Ord × Nat × List (Int × Int) × Chn × Int
abbrev okDrop (a : DS) : Prop := okPs a.1.1 = true ∧ (drF a.2.2.1 a.2.2.2.2 ≠ [] → okT a.1 a.2.1 (drN a.2.2.1 a.2.2.2.2) = true) ∧ a.2.2.1.length ≤ 1000
abbrev spDrop (K : PySem.W.Frag) (CO CB CI CN CU : Addr) : Sp := spX CI CN CU okDrop (fun a => arg1 (ownI CB (brdF K CO a.1 a.2.1 (a.2.2.1 :: a.2.2.2.1))) [intR a.2.2.2.2]) (fun a => drpR a.1 a.2.1 a.2.2.1 a.2.2.2.2) (fun a => [(0, ownI CB (brdF K CO a.1 a.2.1 (drpC a.1 a.2.1 a.2.2.1 a.2.2.2.1 a.2.2.2.2)))]) fun _ => nonR
section
variable {X : Cx} {o : Ord} {b : Nat} {t : List (Int × Int)} {ts : Chn}
theorem x_heldT {px p1 p2 : Pos} {e : Expr} {Rs : Frm} {y : Str} (i : Nat) (B : BrdC X.K mg CB) (hi : Rs[0]? = some (.own (ownI CB (brdF X.K CO o b (t :: ts))))) (he : XE X e Rs (intR (i : Int))) {R : Rel} (hR : [ptR X.K (fsD t), hdR X.K o b ts, intR (ts.length : Nat), intR (maT o b t), dR X.K (spT o b t)][i]? = some R) (hN : X.N[0]? = some y := by rfl) (hv : Vis X.env.scope y := by first | exact Or.inl rfl | exact Or.inr (Or.inl rfl) | exact Or.inr (Or.inr rfl))
    (hd : (y == ("__debug__" : Str)) = false := by decide) (hcd : (y == ("__classdict__" : Str)) = false := by decide) (hb : attributeBase (.Name y px) "held" X.env (eval (.Name y px) X.env) = eval (.Name y px) X.env := by rfl) (hs : PlainIx e := by exact fun _ _ => rfl) : XE X (.Subscript (.Attribute (.Name y px) "held" p1) e p2) Rs R :=
  x_ixR (x_fldO 0 B.ins.cl B.hel hi (R := hdR X.K o b (t :: ts)) rfl hN hv hd hcd hb) he hR hs
end
theorem f_drop {f : Addr} {fd : FuncData} (B : BrdC K mg CB) (M : Md K mg) (EC : ErrC K mg CI CN CU) (F : C8.Fun K "drop" "Board.drop" sDrop f fd)
    (c3 : MetX P w K mg base 5 CB "become" (spBecome K CO CB CI CN CU) ["self", "facts"]) : FnOk P w K mg base (L2.CX P w) 6 f fd ["self", "place"] (spDrop K CO CB CI CN CU) := by
  refine fnX (n := 2) F scDrop rfl (fun _ => rfl) fun a cdv A outer s H E hp hr tk => ?_
  obtain ⟨o, b, t, ts, p⟩ := a
  obtain ⟨h1, h2, h3⟩ := hp
  replace h1 : okPs o.1 = true := h1
  replace h2 : drF t p ≠ [] → okT o b (drN t p) = true := h2
  replace h3 : t.length ≤ 1000 := h3
  have nd := scDrop.nd
  have s1 : XN (BXX P w K mg base nDrop "Board.drop" (C8.fnScope sDrop) f cdv A outer s H E) ((C8.fnBody sDrop).getD 0 (.Pass ⟨0, 0, 0, 0⟩)) [.own (ownI CB (brdF K CO o b (t :: ts))), .is (intR p), .no, .no] [.own (ownI CB (brdF K CO o b (t :: ts))), .is (intR p), .is (tlR K (fsD (drF t p))), .no] := by
    rw [← lcD_filter]
    exact n_setLcH 2 (Rn := [.no, .is (intR p), .no, .no]) (I := fun i => dR K (pairD (t.getD i (0, 0)))) (fun i => decide ((t.getD i (0, 0)).1 = p)) (fun i => pairD (t.getD i (0, 0))) (own := [("fact", 3)]) (ks := [3]) (fun i => [.no, .is (intR p), .no, .is (dR K (pairD (t.getD i (0, 0))))]) (hides 0) rfl nd (xi_fs (x_heldT 0 B rfl x_int rfl))
      (blkOk_by (own := [("fact", 3)]) (N := nDrop) (sc := C8.fnScope sDrop) (by decide +kernel)) (by omega) (nof trivial) (fun i _ => nof trivial) (w1 rfl) (by decide) (fun _ _ _ _ _ i hi => xg_name 3 nd) (fun _ _ _ _ _ i hi => ts_one (xt_eqI (x_toI (x_ixT (i := 0) (x_v 3) x_int rfl)) (x_v 1))) (fun _ _ _ _ _ i hi _ => x_v 3) (by with_unfolding_all rfl)
  have tst : ∀ {Y : Cx} {es : List Expr}, True := fun {_ _} => trivial
  have e2 : ∀ (X : Cx) (hX : X = BXX P w K mg base nDrop "Board.drop" (C8.fnScope sDrop) f cdv A outer s H E), True := fun _ _ => trivial
  by_cases hf : drF t p = []
  · have er : drpR o b t p = some (.num p) := if_pos hf
    refine ⟨fun hn => ?_, fun x hx => ?_⟩
    · replace hn : drpR o b t p = none := hn
      rw [er] at hn
      cases hn
    · replace hx : drpR o b t p = some x := hx
      rw [er] at hx
      cases hx
      have ec : drpC o b t ts p = t :: ts := if_pos hf
      show PSs _ _ (tXE CI CN CU E (.num p) [(0, ownI CB (brdF K CO o b (drpC o b t ts p)))] [.own (ownI CB (brdF K CO o b (t :: ts))), .is (intR p), .no, .no])
      rw [ec]
      refine e_cons s1 ?_ (os0 rfl rfl)
      obtain ⟨fI, fdI, hI1, hI2, hI3, hI4⟩ := EC.init
      refine e_ifT (xt_is (xw_pt (xw_or (xt_val (x_isi (n := "bool") (k := false) ty_int (x_v 1) M.isi (x_ty M.bool_ (by decide +kernel)) (kit_ty (by decide +kernel)))) fun _ => xw_or1 (xt_cmp (op_eqD hr.units) (ox_eqD (shaped_fs (drF t p)) (shaped_fs [])) (x_dt (x_v 2)) (x_lst (ds := []) xa_nil)))) ?_) ?_
      · rw [hf]
        rfl
      · exact e_raiseNum (mgv := EC.mgI) EC.oex EC.noG hI1 hI2 hI3 hI4 hr (by decide) tk (x_v 1) (oz0 rfl)
  · have er : drpR o b t p = becR o b (drN t p) := if_neg hf
    have ec : drpC o b t ts p = becC o b (t :: ts) (drN t p) := if_neg hf
    have hb : okBec o b (t :: ts) (drN t p) := ⟨h1, h2 hf, fun z => by cases z⟩
    have hq : PyData.eqv (.list (fsD (drF t p))) (.list (fsD [])) = false := by
      cases h : drF t p with
      | nil => exact (hf h).elim
      | cons z zs => rfl
    refine ⟨fun hn => ?_, fun x hx => ?_⟩
    · replace hn : drpR o b t p = none := hn
      rw [er] at hn
      show PSs _ _ (tXF0 [(0, ownI CB (brdF K CO o b (drpC o b t ts p)))] [.own (ownI CB (brdF K CO o b (t :: ts))), .is (intR p), .no, .no])
      rw [ec]
      refine f_cons s1 ?_ (os0 rfl rfl)
      refine f_cons (n_ifF (xt_is (xw_pt (xw_or (xt_val (x_isi (n := "bool") (k := false) ty_int (x_v 1) M.isi (x_ty M.bool_ (by decide +kernel)) (kit_ty (by decide +kernel)))) fun _ => xw_or1 (xt_cmp (op_eqD hr.units) (ox_eqD (shaped_fs (drF t p)) (shaped_fs [])) (x_dt (x_v 2)) (x_lst (ds := []) xa_nil)))) (by rw [hq] <;> rfl))) ?_ (os0 rfl rfl)
      refine f_last hn (x_methX 0 c3 (o, b, t :: ts, drN t p) rfl rfl hr (by decide) hb tk (xa_cons (x_tupOfF M.tuple_ (x_eqd (x_dt ?_) (congrArg PyData.list (lcD_filter (fun z => !decide (z.1 = p)) t)))) xa_nil)) (oz0 rfl)
      exact x_lcH (Rn := [.no, .is (intR p), .is (tlR K (fsD (drF t p))), .no]) (I := fun i => dR K (pairD (t.getD i (0, 0)))) (fun i => !decide ((t.getD i (0, 0)).1 = p)) (fun i => pairD (t.getD i (0, 0))) (own := [("fact", 3)]) (ks := [3]) (fun i => [.no, .is (intR p), .is (tlR K (fsD (drF t p))), .is (dR K (pairD (t.getD i (0, 0))))]) (hides 0) rfl nd (xi_fs (x_heldT 0 B rfl x_int rfl))
        (blkOk_by (own := [("fact", 3)]) (N := nDrop) (sc := C8.fnScope sDrop) (by decide +kernel)) (by omega) (nof trivial) (fun i _ => nof trivial) (w1 rfl) (by decide) (fun _ _ _ _ _ i hi => xg_name 3 nd) (fun _ _ _ _ _ i hi => ts_one (xt_neI (x_toI (x_ixT (i := 0) (x_v 3) x_int rfl)) (x_v 1))) (fun _ _ _ _ _ i hi _ => x_v 3)
    · replace hx : drpR o b t p = some x := hx
      rw [er] at hx
      show PSs _ _ (tXE CI CN CU E x [(0, ownI CB (brdF K CO o b (drpC o b t ts p)))] [.own (ownI CB (brdF K CO o b (t :: ts))), .is (intR p), .no, .no])
      rw [ec]
      refine e_cons s1 ?_ (os0 rfl rfl)
      refine e_cons (n_ifF (xt_is (xw_pt (xw_or (xt_val (x_isi (n := "bool") (k := false) ty_int (x_v 1) M.isi (x_ty M.bool_ (by decide +kernel)) (kit_ty (by decide +kernel)))) fun _ => xw_or1 (xt_cmp (op_eqD hr.units) (ox_eqD (shaped_fs (drF t p)) (shaped_fs [])) (x_dt (x_v 2)) (x_lst (ds := []) xa_nil)))) (by rw [hq] <;> rfl))) ?_ (os0 rfl rfl)
      refine e_last hx (x_methX 0 c3 (o, b, t :: ts, drN t p) rfl rfl hr (by decide) hb tk (xa_cons (x_tupOfF M.tuple_ (x_eqd (x_dt ?_) (congrArg PyData.list (lcD_filter (fun z => !decide (z.1 = p)) t)))) xa_nil)) (oz0 rfl)
      exact x_lcH (Rn := [.no, .is (intR p), .is (tlR K (fsD (drF t p))), .no]) (I := fun i => dR K (pairD (t.getD i (0, 0)))) (fun i => !decide ((t.getD i (0, 0)).1 = p)) (fun i => pairD (t.getD i (0, 0))) (own := [("fact", 3)]) (ks := [3]) (fun i => [.no, .is (intR p), .is (tlR K (fsD (drF t p))), .is (dR K (pairD (t.getD i (0, 0))))]) (hides 0) rfl nd (xi_fs (x_heldT 0 B rfl x_int rfl))
        (blkOk_by (own := [("fact", 3)]) (N := nDrop) (sc := C8.fnScope sDrop) (by decide +kernel)) (by omega) (nof trivial) (fun i _ => nof trivial) (w1 rfl) (by decide) (fun _ _ _ _ _ i hi => xg_name 3 nd) (fun _ _ _ _ _ i hi => ts_one (xt_neI (x_toI (x_ixT (i := 0) (x_v 3) x_int rfl)) (x_v 1))) (fun _ _ _ _ _ i hi _ => x_v 3)
theorem c_drop {f : Addr} {fd : FuncData} (B : BrdC K mg CB) (M : Md K mg) (EC : ErrC K mg CI CN CU) (me : Meth K CB "drop" f) (F : C8.Fun K "drop" "Board.drop" sDrop f fd) (df : fd.defaults = .none)
    (c3 : MetX P w K mg base 5 CB "become" (spBecome K CO CB CI CN CU) ["self", "facts"]) : MetX P w K mg base 6 CB "drop" (spDrop K CO CB CI CN CU) ["self", "place"] :=
  ⟨f, fd, B.ins.cl, me, f_drop B M EC F c3, F.binds df fun _ _ _ _ _ _ us hl => match us, hl with | [_, _], _ => rfl⟩
theorem k_drop {f : Addr} {fd : FuncData} (B : BrdC K mg CB) (M : Md K mg) (EC : ErrC K mg CI CN CU) (me : Meth K CB "drop" f) (F : C8.Fun K "drop" "Board.drop" sDrop f fd) (df : fd.defaults = .none)
    (c3 : MetX P w K mg base 5 CB "become" (spBecome K CO CB CI CN CU) ["self", "facts"]) : MetK P w K mg base 6 CB "drop" (spDrop K CO CB CI CN CU) ["self", "place"] ["place"] (fun l => l) :=
  ⟨f, fd, B.ins.cl, me, f_drop B M EC F c3, kbn_of (ps := ["self", "place"]) (ks := ["place"]) (pm := fun l => l) F df (fun r => r) fun _ _ _ _ _ _ _ ws hl => match ws, hl with | [_], _ => rfl⟩
/-! the properties -/
abbrev QS := Ord × Nat × List (Int × Int) × Chn
abbrev spGet (K : PySem.W.Frag) (CO CB : Addr) (R : QS → Rel) : Sp := spE (fun _ : QS => True) (fun a => arg1 (ownI CB (brdF K CO a.1 a.2.1 (a.2.2.1 :: a.2.2.2))) []) (fun a => [(0, ownI CB (brdF K CO a.1 a.2.1 (a.2.2.1 :: a.2.2.2)))]) R
theorem scFacts : FnScope ["self"] ["self"] (C8.fnScope (clsItem 39 2)) := C8.fnScope_by (by decide +kernel)
theorem scManyP : FnScope ["self"] ["self"] (C8.fnScope (clsItem 39 3)) := C8.fnScope_by (by decide +kernel)
theorem scSpansP : FnScope ["self"] ["self"] (C8.fnScope (clsItem 39 4)) := C8.fnScope_by (by decide +kernel)
theorem scChanges : FnScope ["self"] ["self"] (C8.fnScope (clsItem 39 5)) := C8.fnScope_by (by decide +kernel)
theorem c_facts {p f : Addr} {fd : FuncData} (B : BrdC K mg CB) (po : PropOf K CB "facts" p f) (F : C8.Fun K "facts" "Board.facts" (clsItem 39 2) f fd) (df : fd.defaults = .none) : Prp P w K mg base 1 CB "facts" (spGet K CO CB fun a => ptR K (fsD a.2.2.1)) :=
  prp_of (R := nonR) B.ins po F df (fun _ _ _ _ _ _ us hl => match us, hl with | [_], _ => rfl) scFacts fun a cdv A outer s H E hp hr => by
    obtain ⟨o, b, t, ts⟩ := a
    exact b_ret (x_heldT 0 B rfl x_int rfl) (oz0 rfl)
theorem c_manyP {p f : Addr} {fd : FuncData} (B : BrdC K mg CB) (po : PropOf K CB "many" p f) (F : C8.Fun K "many" "Board.many" (clsItem 39 3) f fd) (df : fd.defaults = .none) : Prp P w K mg base 1 CB "many" (spGet K CO CB fun a => intR (maT a.1 a.2.1 a.2.2.1)) :=
  prp_of (R := nonR) B.ins po F df (fun _ _ _ _ _ _ us hl => match us, hl with | [_], _ => rfl) scManyP fun a cdv A outer s H E hp hr => by
    obtain ⟨o, b, t, ts⟩ := a
    exact b_ret (x_heldT 3 B rfl x_int rfl) (oz0 rfl)
theorem c_spansP {p f : Addr} {fd : FuncData} (B : BrdC K mg CB) (po : PropOf K CB "spans" p f) (F : C8.Fun K "spans" "Board.spans" (clsItem 39 4) f fd) (df : fd.defaults = .none) : Prp P w K mg base 1 CB "spans" (spGet K CO CB fun a => dR K (spT a.1 a.2.1 a.2.2.1)) :=
  prp_of (R := nonR) B.ins po F df (fun _ _ _ _ _ _ us hl => match us, hl with | [_], _ => rfl) scSpansP fun a cdv A outer s H E hp hr => by
    obtain ⟨o, b, t, ts⟩ := a
    exact b_ret (x_heldT 4 B rfl x_int rfl) (oz0 rfl)
theorem c_changes {p f : Addr} {fd : FuncData} (B : BrdC K mg CB) (po : PropOf K CB "changes" p f) (F : C8.Fun K "changes" "Board.changes" (clsItem 39 5) f fd) (df : fd.defaults = .none) : Prp P w K mg base 1 CB "changes" (spGet K CO CB fun a => intR (a.2.2.2.length : Nat)) :=
  prp_of (R := nonR) B.ins po F df (fun _ _ _ _ _ _ us hl => match us, hl with | [_], _ => rfl) scChanges fun a cdv A outer s H E hp hr => by
    obtain ⟨o, b, t, ts⟩ := a
    exact b_ret (x_heldT 2 B rfl x_int rfl) (oz0 rfl)
end
end Bo
set_option maxHeartbeats 4000000
/-! What is not told by one value: some value of a family; frames of a family. -/
namespace Bo
open PySem L2
def exR {Z : Type} (p : Z → Prop) (R : Z → Rel) : Rel := ⟨fun H v => ∃ z, p z ∧ (R z).r H v, fun s ⟨z, h1, h2⟩ => ⟨z, h1, (R z).mono s h2⟩⟩
def exO {Z : Type} (p : Z → Prop) (P : Z → Own) : Own := ⟨fun H o => ∃ z, p z ∧ (P z).p H o, fun s ⟨z, h1, h2⟩ => ⟨z, h1, (P z).mono s h2⟩⟩
section
variable {Hv H Hv' H' : Hp} {σ : St} {Rs : Frm} {ow : Nat → Addr} {i : Nat} {P Q : Own} {R R2 : Rel}
/-- another word for the same hidden object -/
theorem owned_put (hi : Rs[i]? = some (.own P)) {b : Addr} : Owned (Rs.set i (.own Q)) ow b ↔ Owned Rs ow b := by
  have lt := ent_lt hi
  constructor
  · rintro ⟨j, P', e, z⟩
    rw [set_get lt] at e
    by_cases h : i = j
    · subst h
      exact ⟨i, P, hi, z⟩
    · rw [if_neg h] at e
      exact ⟨j, P', e, z⟩
  · rintro ⟨j, P', e, z⟩
    refine ⟨j, if i = j then Q else P', ?_, z⟩
    rw [set_get lt]
    by_cases h : i = j
    · rw [if_pos h, if_pos h]
    · rw [if_neg h, if_neg h]
      exact e
theorem Stp.word {Rs2 : Frm} (h : ∀ {b}, Owned Rs2 ow b ↔ Owned Rs ow b) (s : Stp Hv H Rs ow Hv' H') : Stp Hv H Rs2 ow Hv' H' := ⟨fun b o e n => s.kp b o e fun z => n (h.mpr z), s.sv, fun b o e1 e2 n => s.hid b o e1 e2 fun z => n (h.mpr z), s.th⟩
theorem Fr.word (f : Fr Hv H σ Rs ow) (hi : Rs[i]? = some (.own P)) (hq : ∀ u, H (ow i) = some u → P.p Hv u → Q.p Hv u) : Fr Hv H σ (Rs.set i (.own Q)) ow := by
  have lt := ent_lt hi
  refine ⟨f.sub, by rw [List.length_set]; exact f.len, fun j R e => ?_, fun j P' e => ?_, fun j k P' P'' e e' => ?_⟩
  · rw [set_get lt] at e
    by_cases h : i = j
    · rw [if_pos h] at e; cases e
    · rw [if_neg h] at e
      exact f.get j R e
  · rw [set_get lt] at e
    by_cases h : i = j
    · rw [if_pos h] at e
      cases e
      subst h
      obtain ⟨g1, g2, u, g3, g4⟩ := f.own i P hi
      exact ⟨g1, g2, u, g3, hq u g3 g4⟩
    · rw [if_neg h] at e
      exact f.own j P' e
  · have back : ∀ {j : Nat} {Q' : Own}, (Rs.set i (.own Q))[j]? = some (.own Q') → ∃ Q0, Rs[j]? = some (.own Q0) := fun {j Q'} e => by
      rw [set_get lt] at e
      by_cases hj : i = j
      · subst hj
        exact ⟨P, hi⟩
      · rw [if_neg hj] at e
        exact ⟨Q', e⟩
    obtain ⟨Q0, e1⟩ := back e
    obtain ⟨Q1, e2⟩ := back e'
    exact f.inj j k Q0 Q1 e1 e2
theorem owned_is (hi : Rs[i]? = some (.is R)) {b : Addr} : Owned (Rs.set i (.is R2)) ow b ↔ Owned Rs ow b := by
  have lt := (List.getElem?_eq_some_iff.mp hi).1
  constructor
  · rintro ⟨j, P', e, z⟩
    rcases set_own e with ⟨_, z'⟩ | e
    · cases z'
    · exact ⟨j, P', e, z⟩
  · rintro ⟨j, P', e, z⟩
    refine ⟨j, P', ?_, z⟩
    rw [List.getElem?_set_ne fun h => by subst h; rw [hi] at e; cases e]
    exact e
theorem Fr.wordR (f : Fr Hv H σ Rs ow) (hi : Rs[i]? = some (.is R)) (hq : ∀ v, σ[i]? = some (some v) → R.r Hv v → R2.r Hv v) : Fr Hv H σ (Rs.set i (.is R2)) ow := by
  have lt := (List.getElem?_eq_some_iff.mp hi).1
  refine ⟨f.sub, by rw [List.length_set]; exact f.len, fun j R e => ?_, fun j P' e => ?_, fun j k P' P'' e e' => ?_⟩
  · rw [set_get lt] at e
    by_cases h : i = j
    · rw [if_pos h] at e
      cases e
      subst h
      obtain ⟨v, g1, g2⟩ := f.get i _ hi
      exact ⟨v, g1, hq v g1 g2⟩
    · rw [if_neg h] at e
      exact f.get j R e
  · rcases set_own e with ⟨_, z⟩ | e
    · cases z
    · exact f.own j P' e
  · rcases set_own e with ⟨_, z⟩ | e
    · cases z
    · rcases set_own e' with ⟨_, z⟩ | e'
      · cases z
      · exact f.inj j k P' P'' e e'
end
/-- Rs is, in every state, one of a family that asks the same of the hidden ones -/
def Cov {Z : Type} (Rs : Frm) (p : Z → Prop) (F : Z → Frm) : Prop := ∀ {Hv H : Hp} {σ : St} {ow : Nat → Addr}, Fr Hv H σ Rs ow → ∃ z, p z ∧ Fr Hv H σ (F z) ow ∧ (∀ b, Owned (F z) ow b ↔ Owned Rs ow b) ∧ (∀ {Hv' H' : Hp} {σ' : St}, Fr Hv' H' σ' (F z) ow → Fr Hv' H' σ' Rs ow) ∧ (∀ j : Nat, (∃ P, Rs[j]? = some (Ent.own P)) ↔ ∃ P, (F z)[j]? = some (Ent.own P))
section
variable {Z : Type} {p : Z → Prop} {Rs : Frm} {i : Nat}
theorem set_back {e e0 : Ent} (hi : Rs[i]? = some e0) : (Rs.set i e).set i e0 = Rs := by
  obtain ⟨lt, h⟩ := List.getElem?_eq_some_iff.mp hi
  rw [List.set_set, ← h]
  exact List.set_getElem_self lt
theorem cov_is {R : Z → Rel} (hi : Rs[i]? = some (.is (exR p R))) : Cov Rs p fun z => Rs.set i (.is (R z)) := fun {Hv H σ ow} f => by
  obtain ⟨v, g1, z, g2, g3⟩ := f.get i _ hi
  have lt := (List.getElem?_eq_some_iff.mp hi).1
  refine ⟨z, g2, f.wordR hi fun w h _ => ?_, fun b => owned_is hi, fun {Hv' H' σ'} f' => ?_, fun j => ⟨fun ⟨P, e⟩ => ⟨P, ?_⟩, fun ⟨P, e⟩ => ?_⟩⟩
  · rw [g1] at h
    cases h
    exact g3
  · have e2 : (Rs.set i (.is (R z)))[i]? = some (.is (R z)) := List.getElem?_set_self lt
    have z2 := f'.wordR (R2 := exR p R) e2 fun v _ h => ⟨z, g2, h⟩
    rw [set_back hi] at z2
    exact z2
  · rw [List.getElem?_set_ne fun h => by subst h; rw [hi] at e; cases e]
    exact e
  · rcases set_own e with ⟨_, z'⟩ | e
    · cases z'
    · exact ⟨P, e⟩
theorem cov_own {P : Z → Own} (hi : Rs[i]? = some (.own (exO p P))) : Cov Rs p fun z => Rs.set i (.own (P z)) := fun {Hv H σ ow} f => by
  obtain ⟨g0, g1, u, g2, z, g3, g4⟩ := f.own i _ hi
  have lt := ent_lt hi
  refine ⟨z, g3, f.word hi fun w h _ => ?_, fun b => owned_put hi, fun {Hv' H' σ'} f' => ?_, fun j => ⟨fun ⟨Q, e⟩ => ?_, fun ⟨Q, e⟩ => ?_⟩⟩
  · rw [g2] at h
    cases h
    exact g4
  · have e2 : (Rs.set i (.own (P z)))[i]? = some (.own (P z)) := List.getElem?_set_self lt
    have z2 := f'.word (Q := exO p P) e2 fun v _ h => ⟨z, g3, h⟩
    rw [set_back hi] at z2
    exact z2
  · by_cases h : i = j
    · subst h
      exact ⟨P z, List.getElem?_set_self lt⟩
    · exact ⟨Q, by rw [List.getElem?_set_ne h]; exact e⟩
  · rcases set_own e with ⟨h, _⟩ | e
    · subst h
      exact ⟨_, hi⟩
    · exact ⟨Q, e⟩
end
/-- frames of a family at the end -/
def tXQ {Z : Type} (Rs : Frm) (p : Z → Prop) (F : Z → Frm) : TS := fun D σ H => ∃ Hv ow, Fr Hv H σ Rs ow ∧ ∀ z, p z → ∀ σ' Hv' H' ow', StS Hv H Rs ow Hv' H' (F z) ow' → Fr Hv' H' σ' (F z) ow' → D.nx σ' H'
abbrev XQ (X : Cx) {Z : Type} (st : Stmt) (Rs : Frm) (p : Z → Prop) (F : Z → Frm) : Prop := PS X st (tXQ Rs p F)
abbrev XQs (X : Cx) {Z : Type} (st : List Stmt) (Rs : Frm) (p : Z → Prop) (F : Z → Frm) : Prop := PSs X st (tXQ Rs p F)
section
variable {X : Cx} {Z Y : Type} {p : Z → Prop} {py : Y → Prop} {F : Z → Frm} {G : Y → Frm} {Rs Rs1 : Frm} {e : Expr} {R : Rel} {st : Stmt} {rest body : List Stmt} {pw : List (Nat × Own)} {pos : Pos}
theorem pe_any {t : Z → TE} (h : ∀ z, p z → PE X e (t z)) : PE X e (fun σ H Q => ∃ z, p z ∧ t z σ H Q) := ⟨fun pins s σ H Q I ⟨z, hz, q⟩ => (h z hz).run pins s σ H Q I q⟩
theorem pss_any {t : Z → TS} (h : ∀ z, p z → PSs X rest (t z)) : PSs X rest (fun D σ H => ∃ z, p z ∧ t z D σ H) := ⟨fun pins s σ H D J ⟨z, hz, q⟩ => (h z hz).run pins s σ H D J q⟩
theorem ps_any' {t : Z → TS} (h : ∀ z, p z → PS X st (t z)) : PS X st (fun D σ H => ∃ z, p z ∧ t z D σ H) := ⟨fun pins s σ H D J ⟨z, hz, q⟩ => (h z hz).run pins s σ H D J q⟩
theorem pt_any {t : Z → TT} (h : ∀ z, p z → PT X e (t z)) : PT X e (fun σ H Q => ∃ z, p z ∧ t z σ H Q) := ⟨fun pins s σ H Q I ⟨z, hz, q⟩ => (h z hz).run pins s σ H Q I q⟩
/-- an expression, one of the family at a time -/
theorem x_cov (c : Cov Rs p F) (h : ∀ z, p z → XE X e (F z) R) : XE X e Rs R := pe_imp (pe_any h) fun σ H Q ⟨Hv, ow, f, q⟩ => by
  obtain ⟨z, hz, fz, ho, back, _⟩ := c f
  exact ⟨z, hz, Hv, ow, fz, fun v Hv' H' s f' r => q v Hv' H' (s.word fun {b} => (ho b).symm) (back f') r⟩
theorem b_cov (c : Cov Rs p F) (h : ∀ z, p z → PSs X rest (tXR pw (F z) R)) : PSs X rest (tXR pw Rs R) := pss_imp (pss_any h) fun D σ H ⟨Hv, ow, f, q⟩ => by
  obtain ⟨z, hz, fz, ho, back, _⟩ := c f
  exact ⟨z, hz, Hv, ow, fz, fun v Hv' H' s f' o r => q v Hv' H' (s.word fun {b} => (ho b).symm) f' o r⟩
theorem sts_word {Hv H Hv' H' : Hp} {ow ow' : Nat → Addr} {Rs2 Rs' : Frm} (ho : ∀ b, Owned Rs2 ow b ↔ Owned Rs ow b) (hj : ∀ j : Nat, (∃ P, Rs[j]? = some (Ent.own P)) ↔ ∃ P, Rs2[j]? = some (Ent.own P)) (s : StS Hv H Rs2 ow Hv' H' Rs' ow') : StS Hv H Rs ow Hv' H' Rs' ow' :=
  ⟨s.toStp.word fun {b} => (ho b).symm, fun j P P' e e' => by
    obtain ⟨P2, e2⟩ := (hj j).mp ⟨P, e⟩
    exact s.same j P2 P' e2 e', fun j P' e' => by
    rcases s.new j P' e' with h | h
    · exact .inl ((hj j).mpr h)
    · exact .inr h⟩
theorem p_cov (c : Cov Rs py G) (h : ∀ z, py z → XQs X rest (G z) p F) : XQs X rest Rs p F := pss_imp (pss_any h) fun D σ H ⟨Hv, ow, f, q⟩ => by
  obtain ⟨z, hz, fz, ho, back, hj⟩ := c f
  exact ⟨z, hz, Hv, ow, fz, fun y hy σ' Hv' H' ow' s f' => q y hy σ' Hv' H' ow' (sts_word ho hj s) f'⟩
theorem p_of (z : Z) (hz : p z) (h : XN X st Rs (F z)) : XQ X st Rs p F := ps_imp h fun D σ H ⟨Hv, ow, f, q⟩ => ⟨Hv, ow, f, fun σ' Hv' H' ow' s f' => q z hz σ' Hv' H' ow' s f'⟩
theorem ps_of (z : Z) (hz : p z) (h : XNs X rest Rs (F z)) : XQs X rest Rs p F := pss_imp h fun D σ H ⟨Hv, ow, f, q⟩ => ⟨Hv, ow, f, fun σ' Hv' H' ow' s f' => q z hz σ' Hv' H' ow' s f'⟩
/-- a statement that ends in one of a family, then the rest -/
theorem b_consP (h : XQ X st Rs p F) (hr : ∀ z, p z → PSs X rest (tXR pw (F z) R)) (hp : ∀ z, p z → ∀ q ∈ pw, (∃ P, Rs[q.1]? = some (Ent.own P)) ∧ ∃ P, (F z)[q.1]? = some (Ent.own P) := by intro z hz i hi; cases hi) : PSs X (st :: rest) (tXR pw Rs R) :=
  pss_imp (pss_cons h (pss_any hr)) fun D σ H ⟨Hv, ow, f, q⟩ => ⟨Hv, ow, f, fun z hz σ1 Hv1 H1 ow1 s1 f1 => ⟨z, hz, Hv1, ow1, f1, fun v Hv2 H2 s2 f2 o2 r => q v Hv2 H2 (s1.stp' s2) f2 (fun p' hi => by
    obtain ⟨⟨P, e⟩, P1, e1⟩ := hp z hz p' hi
    have z' := o2 p' hi
    rw [s1.same p'.1 P P1 e e1] at z'
    exact z') r⟩⟩
theorem p_cons (h : XN X st Rs Rs1) (hr : XQs X rest Rs1 p F) (hp : ∀ (i : Nat) (P : Own), Rs[i]? = some (Ent.own P) → ∃ P1, Rs1[i]? = some (Ent.own P1)) : XQs X (st :: rest) Rs p F :=
  pss_imp (pss_cons h hr) fun D σ H ⟨Hv, ow, f, q⟩ => ⟨Hv, ow, f, fun σ1 Hv1 H1 ow1 s1 f1 => ⟨Hv1, ow1, f1, fun z hz σ2 Hv2 H2 ow2 s2 f2 => q z hz σ2 Hv2 H2 ow2 (s1.trans s2 fun j P P2 e e2 => hp j P e) f2⟩⟩
/-- for, each turn from one of a family to one of the next -/
theorem p_for {tg iter : Expr} {n : Nat} {I : Nat → Rel} {inv : Nat → Z → Prop} (F Gi : Nat → Z → Frm) {ks : List Nat} (z0 : Z) (hi : XI X tg iter Rs n I) (h0 : F 0 z0 = Rs) (hz0 : inv 0 z0) (hc : X.calm = true) (hp : PassesOwn (model X.prog X.w) X.A X.env X.xe) (ho : ∀ i z, i ≤ n → SameOwn Rs (F i z)) (hog : ∀ i z, i < n → SameOwn Rs (Gi i z))
    (hg : ∀ i z, i < n → inv i z → XG X tg (I i) (F i z) (Gi i z) ks) (hb : ∀ i z, i < n → inv i z → XQs X body (Gi i z) (inv (i + 1)) (F (i + 1))) (hs : ∀ x, foldedSetIterable iter X.env x = pure x := by intro _; rfl) : XQ X (.For tg iter body [] pos) Rs (inv n) (F n) := by
  have g : PG X tg (fun v σ H Q => ∃ i z, (i < n ∧ inv i z) ∧ tXG (I i) (F i z) (Gi i z) ks v σ H Q) := ⟨fun pins s σ H v u Q J r ⟨i, z, hi, q⟩ => (hg i z hi.1 hi.2).run pins s σ H v u Q J r q⟩
  have b : PSs X body (fun D σ H => ∃ i z, (i < n ∧ inv i z) ∧ tXQ (Gi i z) (inv (i + 1)) (F (i + 1)) D σ H) := ⟨fun pins s σ H D J ⟨i, z, hi, q⟩ => (hb i z hi.1 hi.2).run pins s σ H D J q⟩
  refine ps_imp (ps_for hp hc hi g b hs) fun D σ H ⟨Hv, ow, f, q⟩ => ⟨Hv, ow, f, fun J G Hv1 H1 s1 f1 w g1 => ?_⟩
  refine ⟨fun i m σ2 H2 => m = n - i ∧ i ≤ n ∧ ∃ z, inv i z ∧ ∃ Hv2 ow2, Fr Hv2 H2 σ2 (F i z) ow2 ∧ StS Hv H Rs ow Hv2 H2 (F i z) ow2 ∧ G Hv2, ⟨n, by omega, Nat.zero_le _, z0, hz0, Hv1, ow, by rw [h0]; exact f1, by rw [h0]; exact .of s1, g1⟩, ?_⟩
  rintro i m σ2 H2 ⟨rfl, hin, z, hz, Hv2, ow2, f2, s2, g2⟩
  by_cases hlt : i < n
  · refine .inr ⟨w.go i Hv2 H2 hlt f2.sub g2, _, fun σ' H' h => h, fun x H3 y => ?_⟩
    obtain ⟨Hv3, a3, r3⟩ := w.yld i Hv2 H2 x H3 hlt f2.sub g2 y
    refine ⟨i, z, ⟨hlt, hz⟩, Hv3, ow2, f2.al a3, r3, fun σ4 f4 _ => ⟨i, z, ⟨hlt, hz⟩, Hv3, ow2, f4, fun z' hz' σ5 Hv5 H5 ow5 s5 f5 => ?_⟩⟩
    have sA : StS Hv2 H2 (F i z) ow2 Hv3 H3 (Gi i z) ow2 := ⟨a3.stp, fun _ _ _ _ _ => rfl, fun j P e => .inl (((ho i z hin) j).mp (((hog i z hlt) j).mpr ⟨P, e⟩))⟩
    have sB := sA.trans s5 fun j P P2 e e2 => ((hog i z hlt) j).mp (((ho i z hin) j).mpr ⟨P, e⟩)
    have sC := s2.trans sB fun j P P2 e e2 => ((ho i z hin) j).mp ⟨P, e⟩
    exact ⟨n - (i + 1), by omega, rfl, hlt, z', hz', Hv5, ow5, f5, sC, w.mono (a3.sv.trans s5.sv) g2⟩
  · have e : i = n := by omega
    subst e
    exact .inl ⟨w.stop Hv2 H2 f2.sub g2, q z hz σ2 Hv2 H2 ow2 s2 f2⟩
theorem x_exI {Rz : Z → Rel} (z : Z) (hz : p z) (h : XE X e Rs (Rz z)) : XE X e Rs (exR p Rz) := x_weak h fun _ _ r => ⟨z, hz, r⟩
end
end Bo
set_option maxHeartbeats 4000000
/-! Items of a hidden list; divmod. -/
namespace Bo
open PySem L2
section
variable {X : Cx} {e ix a b : Expr} {Rs : Frm} {px tpos pos py pt p : Pos} {x y : Str}
/-- xs[k], xs hidden -/
theorem x_ownIx (i : Nat) {ds : List PyData} {k : Nat} {d : PyData} (hi : Rs[i]? = some (.own (ownL X.K ds))) (hx : XE X ix Rs (intR k)) (hk : ds[k]? = some d) (hN : X.N[i]? = some x := by rfl) (hv : Vis X.env.scope x := by first | exact Or.inl rfl | exact Or.inr (Or.inl rfl) | exact Or.inr (Or.inr rfl)) (hd : (x == ("__debug__" : Str)) = false := by decide)
    (hcd : (x == ("__classdict__" : Str)) = false := by decide) (hs : PlainIx ix := by exact fun _ _ => rfl) : XE X (.Subscript (.Name x px) ix pos) Rs (dR X.K d) :=
  pe_imp (pe_ix ix_list (pv i hN hv hd hcd) hx hs) fun σ H Q ⟨Hv, ow, f, q⟩ => by
    obtain ⟨g1, _⟩ := f.own i _ hi
    refine ⟨_, g1, Hv, ow, f, fun w Hv2 H2 s2 f2 r2 => ?_⟩
    obtain ⟨_, _, u, h3, xs, e, h5⟩ := f2.own i _ hi
    subst e
    obtain ⟨v, e1, e2⟩ := dpAll_get h5 hk
    exact ⟨ow i, _, k, v, rfl, r2, .inl (.inl h3), atI_nat e1, q v Hv2 H2 s2 f2 e2⟩
theorem x_divmod {i j : Int} (hc : CDivP i j) (hm : X.mg "divmod" = none) (ha : XE X a Rs (intR i)) (hb : XE X b Rs (intR j)) (hg : Gl X "divmod" := by rfl) (h1 : starEach [a, b] X.env = (false, eval a X.env) :: starEach [b] X.env := by rfl) (h2 : starEach [b] X.env = [(false, eval b X.env)] := by rfl) (hpl : (backTo pos (starEach [b] X.env)).any (·.1) = false := by rfl) :
    XE X (.Call (.Name "divmod" p) [a, b] [] pos) Rs (tupsR X.K [intR (i / j), intR (i % j)]) := by
  refine x_callB call_divmodW (As := [intR i, intR j]) (R := tupsR X.K [intR (i / j), intR (i % j)]) (fun Hv H vs Q s r q => ?_) hm (by decide +kernel) (xa_cons ha (xa_cons hb xa_nil h2) h1) hg (by decide) (by decide) h1 hpl
  cases vs with
  | nil => exact r.elim
  | cons v vs =>
    obtain ⟨r1, r2⟩ := r
    obtain ⟨u, eu, r3⟩ := r2.one
    refine ⟨i, j, by rw [eu, show v = .int i from r1, show u = .int j from r3], hc, fun q0 hq => ?_⟩
    have al := Al.new (o := .tup [.int (i / j), .int (i % j)]) s hq
    exact q _ _ _ al ⟨q0, _, rfl, .inl (.inl upd_same), rfl, rfl, trivial⟩
/-- xs[k], y = pair, xs hidden -/
theorem n_putPair (i j k : Nat) {ds : List PyData} {d : PyData} {R : Rel} {kt : Nat} (hc : X.calm = true) (hi : Rs[i]? = some (.own (ownL X.K ds))) (hk : k < ds.length) (he : XE X e Rs (tupsR X.K [dR X.K d, R])) (hx : XE X ix Rs (intR k)) (hnd : X.N.Nodup) (hnj : ∀ P, Rs[j]? ≠ some (Ent.own P) := by intro P z; cases z) (hN : X.N[i]? = some x := by rfl) (hv : Vis X.env.scope x := by first | exact Or.inl rfl | exact Or.inr (Or.inl rfl) | exact Or.inr (Or.inr rfl)) (hd : (x == ("__debug__" : Str)) = false := by decide)
    (hcd : (x == ("__classdict__" : Str)) = false := by decide) (hj : X.N[j]? = some y := by rfl) (hl : Loc X.env.scope y := by first | exact Or.inl rfl | exact Or.inr rfl) (hf : X.fn y = true ∨ X.env.scope.names.lookup y = some .local := by first | exact .inl rfl | exact .inr rfl)
    (hs : swapsWithSole [.Tuple [.Subscript (.Name x px) ix tpos, .Name y py] kt pt] e pos.line X.env = pure false := by rfl) (hw : swappedStores [.Tuple [.Subscript (.Name x px) ix tpos, .Name y py] kt pt] e X.env = pure none := by rfl)
    (h1 : (assignEach [.Tuple [.Subscript (.Name x px) ix tpos, .Name y py] kt pt] X.env).map (·.2) = [assign (.Tuple [.Subscript (.Name x px) ix tpos, .Name y py] kt pt) X.env] := by rfl)
    (e1 : (assignEach [.Subscript (.Name x px) ix tpos, .Name y py] X.env).map (·.2) = assign (.Subscript (.Name x px) ix tpos) X.env :: (assignEach [.Name y py] X.env).map (·.2) := by rfl) (e2 : (assignEach [.Name y py] X.env).map (·.2) = [assign (.Name y py) X.env] := by rfl)
    (hn : (assignEach [.Subscript (.Name x px) ix tpos, .Name y py] X.env).length = 2 := by rfl) (hst : (assignEach [.Subscript (.Name x px) ix tpos, .Name y py] X.env).findIdx? (·.1) = none := by rfl)
    (ha : ∀ v, assign (.Subscript (.Name x px) ix tpos) X.env v = (do
      let ov ← holding [v] (eval (.Name x px) X.env)
      let iv ← holding [v, ov] (eval ix X.env)
      standAt tpos
      holding [v, ov, iv] (setItem ov iv v)
      release [v, ov, iv] []) := by intro _; rfl) : XN X (.Assign [.Tuple [.Subscript (.Name x px) ix tpos, .Name y py] kt pt] e pos) Rs ((Rs.set i (.own (ownL X.K (ds.set k d)))).set j (.is R)) :=
  ps_imp (ps_asg he (pg_tup hc (pgs_cons (pg_sub (pv i hN hv hd hcd) hx set_list ha) (pgs_cons (pg_name hnd hj hl hf) pgs_nil e2) e1) hn hst) hs hw h1) fun D σ H ⟨Hv, ow, f, q⟩ => ⟨Hv, ow, f, fun v Hv1 H1 s1 f1 r1 => by
    obtain ⟨T, vs, ev, hT, r1⟩ := r1
    cases vs with
    | nil => exact r1.elim
    | cons w vs =>
      obtain ⟨r1, r2⟩ := r1
      obtain ⟨w2, ew, r5⟩ := AllR.one r2
      subst ew
      obtain ⟨g1, _⟩ := f1.own i _ hi
      refine ⟨T, _, ev, same_t f1.sub hT, rfl, w, [w2], rfl, _, g1, Hv1, ow, f1, fun z Hv2 H2 s2 f2 r3 => ?_⟩
      obtain ⟨_, _, u, h3, xs, e, h5⟩ := f2.own i _ hi
      subst e
      refine ⟨ow i, xs, (k : Int), k, rfl, r3, h3, ixN_nat (by rw [dpAll_length h5]; exact hk), w2, [], rfl, rfl, ?_⟩
      have hnj2 : ∀ P, (Rs.set i (.own (ownL X.K (ds.set k d))))[j]? ≠ some (Ent.own P) := fun P z => by
        rcases set_own z with ⟨e, _⟩ | z
        · rw [← e] at hi
          exact hnj _ hi
        · exact hnj P z
      refine q _ Hv2 _ ow ?_ ((f2.put (P' := ownL X.K (ds.set k d)) (u := .lst (xs.set k w)) hi ⟨_, rfl, dpAll_set h5 (dp_mono s2.sv _ _ r1)⟩).set hnj2 (R.mono s2.sv r5))
      have z1 := (StS.of (s1.trans s2)).trans (sts_put (P' := ownL X.K (ds.set k d)) (u := .lst (xs.set k w)) f2 hi) fun j Q Q2 e _ => ⟨Q, e⟩
      refine ⟨z1.toStp, fun m P P' e e' => rfl, fun m P e => ?_⟩
      rcases set_own e with ⟨_, z⟩ | e
      · cases z
      · exact z1.new m P e⟩
end
end Bo
set_option maxHeartbeats 4000000
namespace Bo
open PySem L2
open PyProof.Rows (envOfC)
theorem divp_small {i j : Int} (h1 : 0 < j) (h2 : j ≤ 4) : CDivP i j := by
  refine ⟨h1, ?_⟩
  have h : j = 1 ∨ j = 2 ∨ j = 3 ∨ j = 4 := by omega
  show (_ && _) = false
  rcases h with e | e | e | e <;> rw [e] <;> exact Bool.false_and _
/-- what a def tells, in weaker words -/
theorem b_tell {X : Cx} {st : List Stmt} {Rs : Frm} {R R' : Rel} {p : List Nat} {P P' : Nat → Own} (h : PSs X st (tXR (p.map fun i => (i, P i)) Rs R)) (hp : ∀ i ∈ p, ∀ Hv u, (P i).p Hv u → (P' i).p Hv u) (hR : ∀ H v, R.r H v → R'.r H v) : PSs X st (tXR (p.map fun i => (i, P' i)) Rs R') :=
  pss_imp h fun D σ H ⟨Hv, ow, f, q⟩ => ⟨Hv, ow, f, fun v Hv' H' s' sub o r => q v Hv' H' s' sub (fun z hz => by
    obtain ⟨i, hi, e⟩ := List.mem_map.mp hz
    subst e
    obtain ⟨g1, u, g2, g3⟩ := o (i, P i) (List.mem_map.mpr ⟨i, hi, rfl⟩)
    exact ⟨g1, u, g2, hp i hi _ _ g3⟩) (hR _ _ r)⟩
abbrev okJug (z : Int × Int) : Prop := 0 ≤ z.1 ∧ 0 ≤ z.2 ∧ z.2 < 2147482949
def jugO (K : PySem.W.Frag) : Own := exO okJug fun z => ownL K [.int z.1, .int z.2]
def rngR (n : Int) : Rel := exR (fun i : Int => 0 ≤ i ∧ i < n) fun i => intR i
section
variable {P : Program} {w : World} {K : PySem.W.Frag} {mg : Str → Option Value} {base : Heap} {CO : Addr}
/-! _law_swig -/
abbrev sSwig : Stmt := top 42
abbrev nSwig : List Str := ["_law_jug_here", "_law_top", "_law_digit"]
theorem scSwig : FnScope nSwig ["_law_jug_here", "_law_top"] (C8.fnScope sSwig) := C8.fnScope_by (by decide +kernel)
abbrev spSwig (K : PySem.W.Frag) : Sp := spE (fun t : Nat => 1 ≤ t ∧ t ≤ 4) (fun t => arg1 (jugO K) [intR (t : Int)]) (fun _ => [(0, jugO K)]) fun t => rngR t
theorem jug1 {X : Cx} {st : List Stmt} {Rs : Frm} {x y i t : Int} (hz : okJug (x, y)) (hi : 0 ≤ i ∧ i < t) (h : PSs X st (tXR [(0, ownL X.K [.int x, .int y])] Rs (intR i))) : PSs X st (tXR [(0, jugO X.K)] Rs (rngR t)) :=
  b_tell (p := [0]) (P := fun _ => ownL X.K [.int x, .int y]) (P' := fun _ => jugO X.K) h (fun _ _ Hv u g => ⟨(x, y), hz, g⟩) fun H v r => ⟨i, hi, r⟩
theorem c_swig (F : Df K mg "_law_swig" sSwig) (M : Md K mg) : C8.Cal P w K mg base 1 "_law_swig" (spSwig K) [] :=
  own_def F (fun _ _ _ _ _ _ us hl => match us, hl with | [_, _], _ => rfl) scSwig 1 rfl (fun _ => rfl) fun f t cdv A outer s H E hp hr => by
    have h1 : 1 ≤ t := hp.1
    have h2 : t ≤ 4 := hp.2
    have nd := scSwig.nd
    show PSs _ _ (tXR [(0, jugO K)] [.own (jugO K), .is (intR (t : Int)), .no] (rngR t))
    refine b_cov (cov_own (i := 0) rfl) fun ⟨x, y⟩ hz => ?_
    show PSs _ _ (tXR [(0, jugO K)] [.own (ownL K [.int x, .int y]), .is (intR (t : Int)), .no] (rngR t))
    obtain ⟨z1, z2, z3⟩ := hz
    replace z1 : 0 ≤ x := z1
    replace z2 : 0 ≤ y := z2
    replace z3 : y < 2147482949 := z3
    refine b_if (k := decide (0 < x)) (xt_gt (x_toI (x_ownIx 0 (k := 0) rfl x_int rfl)) x_int) (fun hk => ?_) fun hk => ?_
    · have hk' : 0 < x := of_decide_eq_true hk
      refine jug1 (x := x / t) (y := y) (i := x % t) (t := t) ⟨Int.ediv_nonneg z1 (by omega), z2, z3⟩ ⟨Int.emod_nonneg _ (by omega), Int.emod_lt_of_pos _ (by omega)⟩ ?_
      refine b_cons (n_putPair 0 2 0 (ds := [.int x, .int y]) (d := .int (x / t)) (R := intR (x % t)) rfl rfl (by show 0 < 2; decide) ?_ x_int nd) (b_ret (x_v 2) (oz0 rfl)) (os0 rfl rfl)
      exact x_weak (x_divmod (i := x) (j := (t : Int)) (divp_small (by omega) (by omega)) M.divmod_ (x_toI (x_ownIx 0 (k := 0) rfl x_int rfl)) (x_v 1)) fun H v ⟨a, xs, e, h1, h2⟩ => ⟨a, xs, e, h1, by
        cases xs with
        | nil => exact h2.elim
        | cons u xs => exact ⟨by rw [show u = .int (x / t) from h2.1]; exact .int _, h2.2⟩⟩
    · refine jug1 (x := x) (y := (y * 63601 + 18013) % 2147482949) (i := ((y * 63601 + 18013) % 2147482949 / 953) % t) (t := t) ⟨z1, Int.emod_nonneg _ (by omega), Int.emod_lt_of_pos _ (by omega)⟩ ⟨Int.emod_nonneg _ (by omega), Int.emod_lt_of_pos _ (by omega)⟩ ?_
      refine b_cons (n_putIx 0 1 (ds := [.int x, .int y]) (d := .int ((y * 63601 + 18013) % 2147482949)) rfl (by show 1 < 2; decide) (x_ofI (x_mod (by decide) (x_int1 M.int_ (x_add (x_mul (mulx_ok (a := 40) (b := 40) (by omega) (by decide) (by decide)) (x_toI (x_ownIx 0 (k := 1) rfl x_int rfl)) x_int) x_int)) x_int)) x_int) ?_ (os0 rfl rfl)
      refine b_ret (x_mod (by omega) (x_int1 M.int_ (x_fdiv (wide_div (b := 40) (by decide) (by decide) (by decide) (by decide)) (x_toI (x_ownIx 0 (k := 1) rfl x_int rfl)) x_int)) (x_v 1)) (oz0 rfl)
end
end Bo
set_option maxHeartbeats 4000000
namespace Bo
open PySem L2
open PyProof.Rows (envOfC)
/-! defs that hand out a new hidden thing -/
def tXRO (Rs : Frm) (P : Own) : TS := fun D σ H => ∃ Hv ow, Fr Hv H σ Rs ow ∧ ∀ p u Hv' H', Stp Hv H Rs ow Hv' H' → Same Hv' H' → H p = none → Hv' p = none → H' p = some u → P.p Hv' u → D.rt (.ref p) H'
def spN {α : Type} (pre : α → Prop) (As : α → List Rel) (P : α → Own) : Sp := fun vs H Q _ => ∃ (a : α) (Hv : Hp), pre a ∧ Same Hv H ∧ AllR Hv vs (As a) ∧ ∀ p u Hv' H', Al Hv H Hv' H' → H p = none → Hv' p = none → H' p = some u → (P a).p Hv' u → Q (.ref p) H'
section
variable {X : Cx} {st : Stmt} {rest : List Stmt} {Rs Rs1 : Frm} {P P2 : Own} {e : Expr} {pos : Pos}
theorem none_back {Hv H Hv' H' : Hp} {ow : Nat → Addr} {p : Addr} (s : Stp Hv H Rs ow Hv' H') (h : H' p = none) : H p = none := by
  cases q : H p with
  | none => rfl
  | some o =>
    obtain ⟨o', e'⟩ := s.th p o q
    rw [e'] at h
    cases h
theorem bo_cons (h : XN X st Rs Rs1) (hr : PSs X rest (tXRO Rs1 P)) : PSs X (st :: rest) (tXRO Rs P) :=
  pss_imp (pss_cons h hr) fun D σ H ⟨Hv, ow, f, q⟩ => ⟨Hv, ow, f, fun σ1 Hv1 H1 ow1 s1 f1 => ⟨Hv1, ow1, f1, fun p u Hv2 H2 s2 f2 n1 n2 g r => q p u Hv2 H2 (s1.stp' s2) f2 (none_back s1.toStp n1) n2 g r⟩⟩
theorem bo_ret (h : XO X e Rs P) : PSs X [.Return (some e) pos] (tXRO Rs P) :=
  pss_imp (pss_one (ps_ret h)) fun D σ H ⟨Hv, ow, f, q⟩ => ⟨Hv, ow, f, fun p u Hv' H' s' f' n1 n2 g r => q p u Hv' H' s' f'.sub n1 n2 g r⟩
theorem bo_tell {st : List Stmt} (h : PSs X st (tXRO Rs P)) (hp : ∀ Hv u, P.p Hv u → P2.p Hv u) : PSs X st (tXRO Rs P2) := pss_imp h fun D σ H ⟨Hv, ow, f, q⟩ => ⟨Hv, ow, f, fun p u Hv' H' s' sub n1 n2 g r => q p u Hv' H' s' sub n1 n2 g (hp _ _ r)⟩
end
section
variable {P : Program} {w : World} {K : PySem.W.Frag} {mg : Str → Option Value} {base : Heap} {x : Str} {st : Stmt} {N ps : List Str} {k : Nat} {α : Type} {pre : α → Prop} {As : α → List Rel} {Pn : α → Own}
theorem new_def (F : Df K mg x st) (hb : BindsOk x x st ps) (S : FnScope N ps (C8.fnScope st)) (m : Nat) (hm : N.length = ps.length + m) (hl : ∀ a, (As a).length = ps.length)
    (body : ∀ (f : Addr) (a : α) (cdv : Value) (A : Around) (outer : List Env) (s : Shared) (H : Hp) (E : XK), pre a → Room k (A.deeper (envOfC x (C8.fnScope st) s.heap.objs.size f cdv)) → PSs (BX P w K mg base N x (C8.fnScope st) f cdv A outer s H E) (C8.fnBody st) (tXRO (fr0 (As a) m) (Pn a))) :
    C8.Cal P w K mg base (k + 1) x (spN pre As Pn) [] := by
  obtain ⟨f, fd, D, hd⟩ := F
  refine C8.cal0 D (D.fn.binds hd hb) .nil S (fun vs H Q E ⟨a, Hv, hp, hs, ha, q⟩ => ha.length.trans (hl a)) fun cdv A outer s H vs Q E hr ⟨a, Hv, hp, hs, ha, q⟩ => ⟨_, body f a cdv A outer s H E hp hr, ?_⟩
  have e1 := ha.length.trans (hl a)
  refine ⟨Hv, fun _ => 0, ?_, fun p u Hv' H' s' sub n1 n2 g r => q p u Hv' H' (s'.al noOwn_fr0 sub) n1 n2 g r⟩
  have z := fr_start (N := N) hs ha (by omega) (fun _ => 0)
  rw [show N.length - vs.length = m by omega] at z
  exact z
end
section
variable {X : Cx} {e : Expr} {es : List Expr} {Rs : Frm} {P' : Own} {pos p : Pos} {x : Str} {k j : Nat} {α : Type} {pre : α → Prop} {As : α → List Rel} {Pn : α → Own}
theorem o_call (c : C8.Cal X.prog X.w X.K X.mg X.base k x (spN pre As Pn) []) (a : α) (hr : Room j X.A) (hk : k ≤ j) (hp : pre a) (ha : XA X (e :: es) Rs (As a)) (hg : Gl X x := by rfl)
    (hdb : (x == ("__debug__" : Str)) = false := by decide) (he : starEach (e :: es) X.env = (false, eval e X.env) :: starEach es X.env := by rfl) (hpl : (backTo pos (starEach es X.env)).any (·.1) = false := by rfl) :
    XO X (.Call (.Name x p) (e :: es) [] pos) Rs (Pn a) := pe_imp (C8.pe_c c hr hk hg ha hdb he hpl) fun σ H Q ⟨Hv, ow, f, q⟩ =>
  ⟨Hv, ow, f, fun vs Hv1 H1 s1 f1 r1 => ⟨a, Hv1, hp, f1.sub, by rw [List.append_nil]; exact r1, fun q0 u Hv2 H2 a2 n1 n2 g r2 => q q0 u Hv2 H2 (s1.trans a2.stp) (f1.al a2) (none_back s1 n1) n2 g r2⟩⟩
theorem x_pow {a b : Expr} {i j : Int} (hc : CPow i j) (ha : XE X a Rs (intR i)) (hb : XE X b Rs (intR j)) : XE X (.BinOp a .Pow b pos) Rs (intR (i ^ j.toNat)) := x_op op_pow (ox_I hc) ha hb
end
/-! _law_jug -/
def stL (l : List Int) (s0 : Int) : Nat → Int
  | 0 => s0
  | i + 1 => (stL l s0 i * 41231 + l.getD i 0 % 2147482949 + 61) % 2147482949
theorem stL_rng {l : List Int} {s0 : Int} (h : 0 ≤ s0 ∧ s0 < 2147482949) : ∀ i, 0 ≤ stL l s0 i ∧ stL l s0 i < 2147482949
  | 0 => h
  | i + 1 => ⟨Int.emod_nonneg _ (by omega), Int.emod_lt_of_pos _ (by omega)⟩
section
variable {P : Program} {w : World} {K : PySem.W.Frag} {mg : Str → Option Value} {base : Heap}
abbrev sJug : Stmt := top 41
abbrev nJug : List Str := ["_law_cells", "_law_turn", "_law_cell", "_law_stirred", "_law_each"]
theorem scJug : FnScope nJug ["_law_cells", "_law_turn"] (C8.fnScope sJug) := C8.fnScope_by (by decide +kernel)
abbrev spJug (K : PySem.W.Frag) : Sp := spN (fun a : List Int × Nat => a.1.length ≤ 63 ∧ a.2 < 3) (fun a => [dR K (lstI a.1), intR (a.2 : Int)]) fun _ => jugO K
theorem c_jug (F : Df K mg "_law_jug" sJug) (M : Md K mg) : C8.Cal P w K mg base 1 "_law_jug" (spJug K) [] :=
  new_def F (fun _ _ _ _ _ _ us hl => match us, hl with | [_, _], _ => rfl) scJug 3 rfl (fun _ => rfl) fun f a cdv A outer s H E hp hr => by
    obtain ⟨cs, t⟩ := a
    have h1 : cs.length ≤ 63 := hp.1
    have h2 : t < 3 := hp.2
    have nd := scJug.nd
    show PSs _ _ (tXRO [.is (dR K (lstI cs)), .is (intR (t : Int)), .no, .no, .no] (jugO K))
    obtain ⟨c, hc⟩ : ∃ c : Int, c = if t < cs.length then cs.getD t 0 else 51001 * ((t : Int) + 9) := ⟨_, rfl⟩
    refine bo_cons (n_set 2 (R := intR c) (x_if (k := decide (t < cs.length)) (xt_is (xt_lt (x_v 1) (x_lenL M.len (x_v 0))) (by simp)) (fun hk => ?_) fun hk => ?_) nd) ?_
    · have hk' : t < cs.length := of_decide_eq_true hk
      rw [hc, if_pos hk']
      exact x_toI (x_ixL (i := t) (x_v 0) (x_v 1) (getI_int hk'))
    · have hk' : ¬ t < cs.length := of_decide_eq_false hk
      rw [hc, if_neg hk']
      exact x_mul (mulx_ok (a := 30) (b := 30) (by decide) (by omega) (by decide)) x_int (x_add (x_v 1) x_int)
    refine bo_cons (n_set 3 (R := intR (39119 + 5077 * (t : Int))) (x_add x_int (x_mul (mulx_ok (a := 30) (b := 30) (by decide) (by omega) (by decide)) x_int (x_v 1))) nd) ?_
    obtain ⟨l, hl⟩ : ∃ l, l = cs.take 4 ++ [c] := ⟨_, rfl⟩
    have h0 : 0 ≤ (39119 + 5077 * (t : Int)) ∧ (39119 + 5077 * (t : Int)) < 2147482949 := by omega
    have hll : (l.map PyData.int).length = l.length := List.length_map ..
    have hlen : l.length ≤ 5 := by
      rw [hl, List.length_append, List.length_take]
      show min 4 cs.length + 1 ≤ 5
      omega
    refine bo_cons (n_for (ks := [4]) (fun i => [.is (dR K (lstI cs)), .is (intR (t : Int)), .is (intR c), .is (intR (stL l (39119 + 5077 * (t : Int)) i)), .no])
      (fun i => [.is (dR K (lstI cs)), .is (intR (t : Int)), .is (intR c), .is (intR (stL l (39119 + 5077 * (t : Int)) i)), .is (intR (l.getD i 0))])
      (n := l.length) (I := fun i => intR (l.getD i 0)) (xi_lstI (x_eqd (x_dt (x_catL (x_slL (x_v 0) px_none (px_some x_int) (.inl ⟨rfl, rfl⟩) (hn := some 4) rfl) (x_lstT (ds := [.int c]) (xa_cons (x_ofI (x_v 2)) xa_nil)) ?_)) ?_)) rfl rfl PassesOwn.never (fun i _ => so trivial) (fun i _ => so trivial) (fun i hi => xg_name 4 nd) fun i hi => ?_) ?_
    · rw [cutD_to]
      have e1 : (List.take 4 (cs.map PyData.int)).length ≤ 4 := by rw [List.length_take]; omega
      show (List.take 4 (cs.map PyData.int)).length + 1 ≤ 100000
      omega
    · rw [hl, cutD_to]
      show PyData.list _ = PyData.list _
      rw [List.map_append, List.map_take]
      rfl
    · exact ns_forget 4 (ns_one (n_set 3 (R := intR (stL l (39119 + 5077 * (t : Int)) (i + 1))) (by
        have sr := stL_rng (l := l) h0 i
        exact x_mod (by decide) (x_int1 M.int_ (x_add (x_add (x_mul (mulx_ok (a := 40) (b := 40) (by omega) (by decide) (by decide)) (x_v 3) x_int) (x_mod (by decide) (x_int1 M.int_ (x_v 4)) x_int)) x_int)) x_int) nd))
    · have sr := stL_rng (l := l) h0 l.length
      refine bo_tell (P := ownL K [.int (if c < 0 ∨ 10 ^ 17 ≤ c then (if c < 0 then -c else c) else 0), .int (stL l (39119 + 5077 * (t : Int)) l.length)]) (bo_ret (o_lst (ds := [.int (if c < 0 ∨ 10 ^ 17 ≤ c then (if c < 0 then -c else c) else 0), .int (stL l (39119 + 5077 * (t : Int)) l.length)]) (xa_cons (x_ofI (x_if (k := decide (c < 0) || decide (10 ^ 17 ≤ c)) (xw_pt (xw_or (xt_lt (x_v 2) x_int) fun _ => xw_or1 (xt_ge (x_v 2) (x_pow (i := 10) (j := 17) ⟨by decide, by decide, by decide⟩ x_int x_int)))) (fun hk => ?_) fun hk => ?_)) (xa_cons (x_ofI (x_v 3)) xa_nil)))) fun Hv u g => ⟨(_, _), ⟨?_, sr.1, sr.2⟩, g⟩
      · have hk' : c < 0 ∨ 10 ^ 17 ≤ c := by simpa using hk
        rw [if_pos hk']
        exact x_abs M.abs_ (x_v 2)
      · have hk' : ¬ (c < 0 ∨ 10 ^ 17 ≤ c) := by simpa using hk
        rw [if_neg hk']
        exact x_int
      · show 0 ≤ (if c < 0 ∨ 10 ^ 17 ≤ c then (if c < 0 then -c else c) else 0)
        split
        · split <;> omega
        · omega
end
end Bo
set_option maxHeartbeats 4000000
namespace Bo
open PySem L2
open PyProof.Rows (envOfC)
section
variable {X : Cx} {Z : Type} {p : Z → Prop} {Rs : Frm} {e a : Expr} {pos pp : Pos}
theorem ox_exR {r : R2} {Ra : Rel} {Rb R : Z → Rel} (h : ∀ z, p z → OpX r Ra (Rb z) (R z)) : OpX r Ra (exR p Rb) (exR p R) := fun Hv H x y Q s h1 ⟨z, hz, h2⟩ q => h z hz Hv H x y Q s h1 h2 fun w Hv' H' a r' => q w Hv' H' a ⟨z, hz, r'⟩
/-- list(range(n)), n of a family -/
theorem x_listRgZ {n : Z → Nat} (hc : X.calm = true) (hl : X.mg "list" = none) (hr : X.mg "range" = none) (h : XE X a Rs (exR p fun z => intR (n z : Nat))) (hn : ∀ z, p z → n z ≤ 100000) (hg : Gl X "list" := by rfl) (hg2 : Gl X "range" := by rfl) {p2 pos2 : Pos} (na : starEach [a] X.env = (false, eval a X.env) :: starEach [] X.env := by rfl)
    (nb : starEach [.Call (.Name "range" p2) [a] [] pos2] X.env = (false, eval (.Call (.Name "range" p2) [a] [] pos2) X.env) :: starEach [] X.env := by rfl) : XE X (.Call (.Name "list" pp) [.Call (.Name "range" p2) [a] [] pos2] [] pos) Rs (exR p fun z => tlR X.K ((List.range (n z)).map fun i : Nat => .int (i : Int))) :=
  pe_imp (pe_listRg hc hg hl (prg_1 hg2 hr h na) nb) fun σ H Q ⟨Hv, ow, f, q⟩ => ⟨Hv, ow, f, fun v Hv1 H1 s1 f1 ⟨z, hz, r⟩ => ⟨(n z : Int), r, RgOk.of_le (by omega) (by have := hn z hz; omega) (by omega) (by omega), fun q0 hq => by
    have al := Al.new (o := .lst (rgV 0 (n z))) f1.sub hq
    refine q _ _ _ (s1.trans al.stp) (f1.al al) ⟨z, hz, q0, rgV 0 (n z), rfl, upd_same, ?_⟩
    unfold rgV
    have e1 : ((n z : Int) - 0).toNat = n z := by omega
    rw [e1]
    have g : ∀ (L : List Nat), DpAll X.K (upd Hv1 q0 (.lst ((List.range (n z)).map fun i => V.int (0 + (i : Nat))))) (L.map fun i => V.int (0 + (i : Nat))) (L.map fun i : Nat => PyData.int (i : Int)) := fun L => by
      induction L with
      | nil => exact .nil
      | cons i L ih =>
        refine .cons ?_ ih
        show Dp _ _ (V.int (0 + (i : Int))) (.int (i : Int))
        rw [Int.zero_add]
        exact .int _
    exact g _⟩⟩
theorem x_call0 {x : Str} {k j : Nat} {α : Type} {pre : α → Prop} {As : α → List Rel} {R : α → Rel} (c : C8.Cal X.prog X.w X.K X.mg X.base k x (spF pre As R) []) (a : α) (hA : As a = []) (hr : Room j X.A) (hk : k ≤ j) (hp : pre a) (hg : Gl X x := by rfl) (hdb : (x == ("__debug__" : Str)) = false := by decide) : XE X (.Call (.Name x pp) [] [] pos) Rs (R a) := by
  obtain ⟨f, fd, ps, ds, F, hm, kp, b, d⟩ := c.ex
  exact pe_imp (pe_call0 (E := C8.E0) F (hr.mono hk) hg hm kp b d C8.pass0 hdb) fun σ H Q ⟨Hv, ow, f, q⟩ => ⟨a, Hv, hp, f.sub, by rw [hA]; trivial, fun z Hv2 H2 a2 r2 => q z Hv2 H2 a2.stp (f.al a2) r2⟩
end
def oneR (K : PySem.W.Frag) (ds : List PyData) : Rel := exR (fun d => d ∈ ds) fun d => dR K d
theorem ox_oneL {K : PySem.W.Frag} {ds : List PyData} {n : Int} (hn : n = ds.length) : OpX (rIxL K) (dR K (.list ds)) (rngR n) (oneR K ds) := fun Hv H x y Q s h1 ⟨i, hi, h2⟩ q => by
  have hl : i.toNat < ds.length := by omega
  have e : (i.toNat : Int) = i := Int.toNat_of_nonneg hi.1
  refine ox_ixL (i := i.toNat) (d := ds[i.toNat]) (List.getElem?_eq_getElem hl) Hv H x y Q s h1 (by rw [e]; exact h2) fun w Hv' H' a r => q w Hv' H' a ⟨_, List.getElem_mem hl, r⟩
theorem ox_oneT {K : PySem.W.Frag} {ds : List PyData} {n : Int} (hn : n = ds.length) : OpX (rIxT K) (dR K (.tuple ds)) (rngR n) (oneR K ds) := fun Hv H x y Q s h1 ⟨i, hi, h2⟩ q => by
  have hl : i.toNat < ds.length := by omega
  have e : (i.toNat : Int) = i := Int.toNat_of_nonneg hi.1
  refine ox_ixT (i := i.toNat) (d := ds[i.toNat]) (List.getElem?_eq_getElem hl) Hv H x y Q s h1 (by rw [e]; exact h2) fun w Hv' H' a r => q w Hv' H' a ⟨_, List.getElem_mem hl, r⟩
section
variable {P : Program} {w : World} {K : PySem.W.Frag} {mg : Str → Option Value} {base : Heap}
/-! _law_one -/
abbrev sOne : Stmt := top 43
abbrev nOne : List Str := ["_law_jug_here", "_law_things"]
theorem scOne : FnScope nOne nOne (C8.fnScope sOne) := C8.fnScope_by (by decide +kernel)
abbrev spOne (K : PySem.W.Frag) : Sp := spE (fun a : PyData × List PyData => SeqD a.1 a.2 ∧ 1 ≤ a.2.length ∧ a.2.length ≤ 4) (fun a => arg1 (jugO K) [dR K a.1]) (fun _ => [(0, jugO K)]) fun a => oneR K a.2
theorem c_one (F : Df K mg "_law_one" sOne) (M : Md K mg) (c1 : C8.Cal P w K mg base 1 "_law_swig" (spSwig K) []) : C8.Cal P w K mg base 2 "_law_one" (spOne K) [] :=
  own_def F (fun _ _ _ _ _ _ us hl => match us, hl with | [_, _], _ => rfl) scOne 0 rfl (fun _ => rfl) fun f a cdv A outer s H E hp hr => by
    obtain ⟨d, ds⟩ := a
    obtain ⟨h0, h1, h2⟩ := hp
    replace h0 : SeqD d ds := h0
    replace h1 : 1 ≤ ds.length := h1
    replace h2 : ds.length ≤ 4 := h2
    show PSs _ _ (tXR [(0, jugO K)] [.own (jugO K), .is (dR K d)] (oneR K ds))
    rcases h0 with e | e
    · subst e
      exact b_ret (pe_imp (pe_ix ix_list (x_v 1) (x_call1S 0 c1 ds.length rfl hr (by decide) ⟨h1, h2⟩ (xa_cons (x_lenL M.len (x_v 1)) xa_nil)) (fun _ _ => rfl)) (op_x (ox_oneL rfl) (fun _ _ _ q => q) fun _ _ _ q => q)) (oz0 rfl)
    · subst e
      exact b_ret (pe_imp (pe_ix ix_tup (x_v 1) (x_call1S 0 c1 ds.length rfl hr (by decide) ⟨h1, h2⟩ (xa_cons (x_lenT M.len (x_v 1)) xa_nil)) (fun _ _ => rfl)) (op_x (ox_oneT rfl) (fun _ _ _ q => q) fun _ _ _ q => q)) (oz0 rfl)
/-! _law_sorts -/
abbrev sSorts : Stmt := top 45
theorem scSorts : FnScope [] [] (C8.fnScope sSorts) := C8.fnScope_by (by decide +kernel)
abbrev kdDs : List PyData := [.str "first", .str "last", .str "ring"]
abbrev spSorts (K : PySem.W.Frag) : Sp := spF (fun _ : Unit => True) (fun _ => []) fun _ => dR K (.list kdDs)
theorem c_sorts (F : Df K mg "_law_sorts" sSorts) : C8.Cal P w K mg base 1 "_law_sorts" (spSorts K) [] :=
  pure_def F (fun _ _ _ _ _ _ us hl => match us, hl with | [], _ => rfl) scSorts 0 rfl (fun _ => rfl) fun f a cdv A outer s H E hp hr =>
    b_ret (x_lst (ds := kdDs) (xa_cons (x_ofS x_str) (xa_cons (x_ofS x_str) (xa_cons (x_ofS x_str) xa_nil))))
/-! _law_shuffled -/
abbrev sShuf : Stmt := top 44
abbrev nShuf : List Str := ["_law_jug_here", "_law_things", "_law_found", "_law_rest", "_law_turn", "_law_at"]
theorem scShuf : FnScope nShuf ["_law_jug_here", "_law_things"] (C8.fnScope sShuf) := C8.fnScope_by (by decide +kernel)
abbrev rgI (n : Nat) : List Int := (List.range n).map fun i : Nat => (i : Int)
def rgR (K : PySem.W.Frag) : Rel := exR (fun n : Nat => 1 ≤ n ∧ n ≤ 4) fun n => dR K (lstI (rgI n))
def pmR (K : PySem.W.Frag) : Rel := exR (fun ps : List Int => ∃ n, (1 ≤ n ∧ n ≤ 4) ∧ ps.Perm (rgI n)) fun ps => dR K (lstI ps)
abbrev spShuf (K : PySem.W.Frag) : Sp := spE (fun _ : Unit => True) (fun _ => arg1 (jugO K) [rgR K]) (fun _ => [(0, jugO K)]) fun _ => pmR K
theorem c_shuf (F : Df K mg "_law_shuffled" sShuf) (M : Md K mg) (c1 : C8.Cal P w K mg base 1 "_law_swig" (spSwig K) []) : C8.Cal P w K mg base 2 "_law_shuffled" (spShuf K) [] :=
  own_def F (fun _ _ _ _ _ _ us hl => match us, hl with | [_, _], _ => rfl) scShuf 4 rfl (fun _ => rfl) fun f a cdv A outer s H E hp hr => by
    have nd := scShuf.nd
    show PSs _ _ (tXR [(0, jugO K)] [.own (jugO K), .is (rgR K), .no, .no, .no, .no] (pmR K))
    refine b_cov (cov_is (i := 1) rfl) fun n hn => ?_
    show PSs _ _ (tXR [(0, jugO K)] [.own (jugO K), .is (dR K (lstI (rgI n))), .no, .no, .no, .no] (pmR K))
    refine b_cons (n_par 2 3 (Ra := tlR K []) (Rb := tlR K ((rgI n).map .int)) (x_lstT (ds := []) xa_nil) (x_listOf (.inl rfl) M.list_ (x_v 1)) rfl nd (by decide)) ?_ (os0 rfl rfl)
    show PSs _ _ (tXR [(0, jugO K)] [.own (jugO K), .is (dR K (lstI (rgI n))), .is (tlR K []), .is (tlR K ((rgI n).map .int)), .no, .no] (pmR K))
    have ln : (rgI n).length = n := by simp
    refine b_consP (p_for (Z := List Int × List Int) (n := n) (ks := [4]) (I := fun i => intR (i : Nat)) (inv := fun i z => (z.1 ++ z.2).Perm (rgI n) ∧ z.1.length = i)
      (fun i z => [.own (jugO K), .is (dR K (lstI (rgI n))), .is (tlR K (z.1.map .int)), .is (tlR K (z.2.map .int)), .no, .no])
      (fun i z => [.own (jugO K), .is (dR K (lstI (rgI n))), .is (tlR K (z.1.map .int)), .is (tlR K (z.2.map .int)), .is (intR (i : Nat)), .no])
      ([], rgI n) (xi_rg1 (x_eI (x_lenL M.len (x_v 1)) (by simp)) M.range_ (by omega)) rfl ⟨.refl _, rfl⟩ rfl PassesOwn.never (fun i z _ => so trivial) (fun i z _ => so trivial) (fun i z _ _ => xg_name 4 nd) fun i z hi hz => ?_) ?_ (fun z _ => os0 rfl rfl)
    · obtain ⟨zf, zr⟩ := z
      obtain ⟨z1, z2⟩ := hz
      replace z1 : (zf ++ zr).Perm (rgI n) := z1
      replace z2 : zf.length = i := z2
      have hl := z1.length_eq
      rw [List.length_append, ln] at hl
      show XQs _ _ [.own (jugO K), .is (dR K (lstI (rgI n))), .is (tlR K (zf.map .int)), .is (tlR K (zr.map .int)), .is (intR (i : Nat)), .no] _ _
      refine p_cons (n_set 5 (R := rngR (zr.length : Nat)) (x_call1S 0 c1 zr.length rfl hr (by decide) (by constructor <;> omega) (xa_cons (x_eI (x_lenL M.len (x_dt (x_v 3))) (by simp)) xa_nil)) nd) ?_ (own1 (by exact trivial))
      show XQs _ _ [.own (jugO K), .is (dR K (lstI (rgI n))), .is (tlR K (zf.map .int)), .is (tlR K (zr.map .int)), .is (intR (i : Nat)), .is (rngR (zr.length : Nat))] _ _
      refine p_cov (cov_is (i := 5) rfl) fun at' hat => ?_
      show XQs _ _ [.own (jugO K), .is (dR K (lstI (rgI n))), .is (tlR K (zf.map .int)), .is (tlR K (zr.map .int)), .is (intR (i : Nat)), .is (intR at')] _ _
      obtain ⟨k, rfl⟩ : ∃ k : Nat, at' = (k : Int) := ⟨at'.toNat, (Int.toNat_of_nonneg hat.1).symm⟩
      have hk : k < zr.length := by
        have := hat.2
        omega
      refine ps_of (zf ++ [zr.getD k 0], zr.take k ++ zr.drop (k + 1)) ⟨?_, ?_⟩ ?_
      · have e1 : zr = zr.take k ++ (zr.getD k 0 :: zr.drop (k + 1)) := by
          rw [List.getD_eq_getElem?_getD, List.getElem?_eq_getElem hk]
          simp
        refine List.Perm.trans ?_ z1
        conv => rhs; rw [e1]
        show ((zf ++ [zr.getD k 0]) ++ (zr.take k ++ zr.drop (k + 1))).Perm _
        rw [List.append_assoc]
        exact List.Perm.append_left _ (List.perm_middle (a := zr.getD k 0) (l₁ := zr.take k) (l₂ := zr.drop (k + 1))).symm
      · rw [List.length_append, z2]
        rfl
      · refine ns_eq (ns_forget 4 (ns_forget 5 (ns_one (n_par 2 3 (Ra := tlR K ((zf ++ [zr.getD k 0]).map .int)) (Rb := tlR K ((zr.take k ++ zr.drop (k + 1)).map .int)) ?_ ?_ rfl nd (by decide))))) rfl
        · rw [List.map_append]
          exact x_catL (x_v 2) (x_lstT (ds := [.int (zr.getD k 0)]) (xa_cons (x_ixL (i := k) (x_dt (x_v 3)) (x_v 5) (getI_int hk)) xa_nil)) (by rw [List.length_map]; show zf.length + 1 ≤ 100000; omega)
        · have q := x_catL (X := BX P w K mg base nShuf "_law_shuffled" (C8.fnScope sShuf) f cdv A outer s H E) (Rs := [.own (jugO K), .is (dR K (lstI (rgI n))), .is (tlR K (zf.map .int)), .is (tlR K (zr.map .int)), .is (intR (i : Nat)), .is (intR (k : Int))]) (pos := ⟨0, 0, 0, 0⟩) (a := .Constant .none 0 ⟨0, 0, 0, 0⟩) (b := .Constant .none 0 ⟨0, 0, 0, 0⟩) (ds := (zr.take k).map .int) (es := (zr.drop (k + 1)).map .int)
          rw [List.map_append, List.map_take, List.map_drop]
          have ec : cutD 0 (some k) (zr.map PyData.int) = (zr.map PyData.int).take k := cutD_to
          have ed : cutD (k + 1) none (zr.map PyData.int) = (zr.map PyData.int).drop (k + 1) := cutD_from
          rw [← ec, ← ed]
          refine x_catL (x_slL (x_dt (x_v 3)) px_none (px_some (x_v 5)) (.inl ⟨rfl, rfl⟩) (hn := some k) rfl) (x_slL (x_dt (x_v 3)) (px_some (x_add (x_v 5) x_int)) px_none (.inr rfl) (hn := none) rfl) ?_
          rw [ec, ed, List.length_take, List.length_drop, List.length_map]
          omega
    · intro z hz
      obtain ⟨zf, zr⟩ := z
      obtain ⟨z1, z2⟩ := hz
      replace z1 : (zf ++ zr).Perm (rgI n) := z1
      replace z2 : zf.length = n := z2
      have hl := z1.length_eq
      rw [List.length_append, ln] at hl
      have e : zr = [] := List.length_eq_zero_iff.mp (by omega)
      rw [e, List.append_nil] at z1
      exact b_ret (x_exI zf ⟨n, hn, z1⟩ (x_dt (x_v 2))) (oz0 rfl)
end
end Bo
set_option maxHeartbeats 4000000
namespace Bo
open PySem L2
open PyProof.Rows (envOfC)
theorem perm_ok {ps : List Int} {n : Nat} (hn : 1 ≤ n ∧ n ≤ 4) (h : ps.Perm (rgI n)) : okPs ps = true := by
  have hl := h.length_eq
  rw [List.length_map, List.length_range] at hl
  have nd : (rgI n).Nodup := by
    unfold rgI
    rw [List.Nodup, List.pairwise_map]
    exact List.nodup_range.imp fun h e => h (Int.ofNat.inj e)
  have nd2 : ps.Nodup := h.nodup_iff.mpr nd
  unfold okPs
  rw [Bool.and_eq_true]
  refine ⟨decide_eq_true (by omega), List.all_eq_true.mpr fun i hi => ?_⟩
  have hi' := List.mem_range.mp hi
  have hm : ps.getD i 0 ∈ ps := by
    rw [List.getD_eq_getElem?_getD, List.getElem?_eq_getElem hi']
    exact List.getElem_mem hi'
  obtain ⟨k, hk, ek⟩ := List.mem_map.mp (h.mem_iff.mp hm)
  have hk' := List.mem_range.mp hk
  have hnt : ps.getD i 0 ∉ ps.take i := fun hz => by
    have e : ps = ps.take i ++ ps.drop i := (List.take_append_drop i ps).symm
    rw [e, List.nodup_append] at nd2
    refine nd2.2.2 _ hz (ps.getD i 0) ?_ rfl
    rw [List.getD_eq_getElem?_getD, List.getElem?_eq_getElem hi', List.drop_eq_getElem_cons hi']
    exact List.mem_cons_self
  simp only [Bool.and_eq_true, Bool.not_eq_true', decide_eq_true_eq, decide_eq_false_iff_not]
  exact ⟨⟨by omega, by omega⟩, hnt⟩
def pmOk (ps : List Int) : Prop := ∃ n, (1 ≤ n ∧ n ≤ 4) ∧ ps.Perm (rgI n)
def spotsR (K : PySem.W.Frag) : Rel := exR pmOk fun ps => ptR K (ps.map .int)
section
variable {P : Program} {w : World} {K : PySem.W.Frag} {mg : Str → Option Value} {base : Heap}
theorem x_tupOfZ {X : Cx} {Z : Type} {p : Z → Prop} {ds : Z → List PyData} {a : Expr} {Rs : Frm} {pp pos : Pos} (hm : X.mg "tuple" = none) (ha : XE X a Rs (exR p fun z => dR X.K (.list (ds z)))) (hg : Gl X "tuple" := by rfl) (h1 : starEach [a] X.env = [(false, eval a X.env)] := by rfl) : XE X (.Call (.Name "tuple" pp) [a] [] pos) Rs (exR p fun z => ptR X.K (ds z)) :=
  x_callTy call_tupleF (As := [exR p fun z => dR X.K (.list (ds z))]) (R := exR p fun z => ptR X.K (ds z)) (fun Hv H vs Q s h q => by
    obtain ⟨v, ev, z, hz, h⟩ := h.one
    obtain ⟨a, xs, e, hs, g⟩ := dp_list h
    refine ⟨a, xs, by rw [ev, e], same_l s hs, fun l ob ho hl => ?_⟩
    have al := Al.new (o := .frz ob (.tup xs)) s hl
    exact q _ _ _ al ⟨z, hz, l, ob, xs, rfl, upd_same, ho, dpAll_mono al.sv _ _ g⟩) hm (by decide +kernel) (xa_cons ha xa_nil h1) hg (by decide) (by decide) h1 rfl
/-! _law_drawn_spots -/
abbrev sDrawn : Stmt := top 50
abbrev nDrawn : List Str := ["_law_jug_here", "_law_most"]
theorem scDrawn : FnScope nDrawn nDrawn (C8.fnScope sDrawn) := C8.fnScope_by (by decide +kernel)
abbrev spDrawn (K : PySem.W.Frag) : Sp := spE (fun _ : Unit => True) (fun _ => arg1 (jugO K) [intR 4]) (fun _ => [(0, jugO K)]) fun _ => spotsR K
theorem c_drawn (F : Df K mg "_law_drawn_spots" sDrawn) (M : Md K mg) (c1 : C8.Cal P w K mg base 1 "_law_swig" (spSwig K) []) (c2 : C8.Cal P w K mg base 2 "_law_shuffled" (spShuf K) []) : C8.Cal P w K mg base 3 "_law_drawn_spots" (spDrawn K) [] :=
  own_def F (fun _ _ _ _ _ _ us hl => match us, hl with | [_, _], _ => rfl) scDrawn 0 rfl (fun _ => rfl) fun f a cdv A outer s H E hp hr => by
    show PSs _ _ (tXR [(0, jugO K)] [.own (jugO K), .is (intR 4)] (spotsR K))
    refine b_ret (x_weak (R := exR (fun ps : List Int => ∃ n, (1 ≤ n ∧ n ≤ 4) ∧ ps.Perm (rgI n)) fun ps => ptR K (ps.map .int)) (x_tupOfZ (ds := fun ps : List Int => ps.map .int) M.tuple_ (x_call1S (α := Unit) (R' := pmR K) 0 c2 () rfl hr (by decide) trivial (xa_cons ?_ xa_nil))) fun H v ⟨z, hz, r⟩ => ⟨z, hz, r⟩) (oz0 rfl)
    refine x_weak (x_listRgZ (p := fun i : Int => 0 ≤ i ∧ i < 4) (n := fun i => (1 + i).toNat) rfl M.list_ M.range_ ?_ fun z hz => ?_) fun H v ⟨z, hz, r⟩ => ⟨(1 + z).toNat, ?_, ?_⟩
    · refine x_weak (x_op op_add (ox_exR (p := fun i : Int => 0 ≤ i ∧ i < 4) (Rb := fun i : Int => intR i) (R := fun i : Int => intR (1 + i)) fun z _ => ox_I0) x_int (x_call1S (α := Nat) (R' := rngR 4) 0 c1 (4 : Nat) rfl hr (by decide) ⟨by decide, by decide⟩ (xa_cons (x_v 1) xa_nil))) fun H v ⟨z, hz, r⟩ => ⟨z, hz, ?_⟩
      show v = .int ((1 + z).toNat : Nat)
      rw [show v = .int (1 + z) from r, Int.toNat_of_nonneg (by omega)]
    · show (1 + z).toNat ≤ 100000
      omega
    · show 1 ≤ (1 + z).toNat ∧ (1 + z).toNat ≤ 4
      omega
    · have r2 := tlR_d r
      show Dp _ _ _ (PyData.list ((rgI (1 + z).toNat).map .int))
      unfold rgI
      rw [List.map_map]
      exact r2
end
end Bo
set_option maxHeartbeats 4000000
/-! x, y = new hidden thing, value (or a second new hidden thing). -/
namespace Bo
open PySem L2
section
variable {X : Cx} {a b : Expr} {Rs : Frm} {P1 P2 : Own} {Rb : Rel} {x y : Str} {px py pt pt2 pos : Pos} {kt k2 : Nat}
theorem n_parO (i j : Nat) (ha : XO X a Rs P1) (hb : XE X b Rs Rb) (hc : X.calm = true) (hN : X.N.Nodup) (hij : i ≠ j) (hni : Rs[i]? = some .no) (hnj : Rs[j]? = some .no) (hi : X.N[i]? = some x := by rfl) (hj : X.N[j]? = some y := by rfl)
    (hx : X.env.scope.names.lookup x = some .local := by rfl) (hy : X.env.scope.names.lookup y = some .local := by rfl) (hw : swappedStores [.Tuple [.Name x px, .Name y py] kt pt] (.Tuple [a, b] k2 pt2) X.env = pure (some [x, y]) := by rfl)
    (hs : swapsWithSole [.Tuple [.Name x px, .Name y py] kt pt] (.Tuple [a, b] k2 pt2) pos.line X.env = pure false := by rfl) (h1 : starEach [a, b] X.env = (false, eval a X.env) :: starEach [b] X.env := by rfl) (h2 : starEach [b] X.env = [(false, eval b X.env)] := by rfl) :
    XN X (.Assign [.Tuple [.Name x px, .Name y py] kt pt] (.Tuple [a, b] k2 pt2) pos) Rs ((Rs.set i (.own P1)).set j (.is Rb)) :=
  ps_imp (ps_par hc hN hi hj hij hx hy (pa_cons ha (xa_cons hb xa_nil h2) h1) hw hs) fun D σ H ⟨Hv, ow, f, q⟩ => ⟨Hv, ow, f, fun p u Hv1 H1 s1 f1 n1 n2 g1 r1 => ⟨Hv1, ow, f1, fun vs Hv2 H2 s2 f2 r2 => by
    obtain ⟨w, ew, r3⟩ := AllR.one r2
    subst ew
    have lt : ∀ {i : Nat}, Rs[i]? = some .no → i < Rs.length := fun {i} h => (List.getElem?_eq_some_iff.mp h).1
    have no1 : ¬ Owned Rs ow p := fun ⟨j, P, e, z⟩ => f.free n1 j P e z
    have a1 : H2 p = some u := s2.kp _ _ g1 no1
    have b1 : Hv2 p = none := s2.hid _ _ n2 g1 no1
    have nf : ∀ (P : Own), Rs[i]? ≠ some (.own P) := fun P e => by rw [hni] at e; cases e
    have nj : ∀ (P : Own), (Rs.set i (.own P1))[j]? ≠ some (.own P) := fun P e => by
      rw [List.getElem?_set_ne hij, hnj] at e
      cases e
    have c1 := f2.come (P := P1) nf (lt hni) b1 a1 (P1.mono s2.sv r1) fun j' Q e z => no1 ⟨j', Q, e, z⟩
    have c2 := c1.set nj r3
    refine ⟨.ref p, w, rfl, q _ _ _ _ ⟨s1.trans s2, fun m P P' e e' => ?_, fun m P e => ?_⟩ c2⟩
    · show (if m = i then p else ow m) = ow m
      rw [if_neg fun z => by rw [z, hni] at e; cases e]
    · show _ ∨ H (if m = i then p else ow m) = none
      rcases set_own e with ⟨_, z⟩ | e
      · cases z
      · rcases set_own e with ⟨z, _⟩ | e
        · rw [if_pos z]
          exact .inr n1
        · exact .inl ⟨P, e⟩⟩⟩
theorem n_parOO (i j : Nat) (ha : XO X a Rs P1) (hb : XO X b Rs P2) (hc : X.calm = true) (hN : X.N.Nodup) (hij : i ≠ j) (hni : Rs[i]? = some .no) (hnj : Rs[j]? = some .no) (hi : X.N[i]? = some x := by rfl) (hj : X.N[j]? = some y := by rfl)
    (hx : X.env.scope.names.lookup x = some .local := by rfl) (hy : X.env.scope.names.lookup y = some .local := by rfl) (hw : swappedStores [.Tuple [.Name x px, .Name y py] kt pt] (.Tuple [a, b] k2 pt2) X.env = pure (some [x, y]) := by rfl)
    (hs : swapsWithSole [.Tuple [.Name x px, .Name y py] kt pt] (.Tuple [a, b] k2 pt2) pos.line X.env = pure false := by rfl) (h1 : starEach [a, b] X.env = (false, eval a X.env) :: starEach [b] X.env := by rfl) (h2 : starEach [b] X.env = [(false, eval b X.env)] := by rfl) :
    XN X (.Assign [.Tuple [.Name x px, .Name y py] kt pt] (.Tuple [a, b] k2 pt2) pos) Rs ((Rs.set i (.own P1)).set j (.own P2)) :=
  ps_imp (ps_par hc hN hi hj hij hx hy (pa_cons ha (pa_cons hb pa_nil h2) h1) hw hs) fun D σ H ⟨Hv, ow, f, q⟩ => ⟨Hv, ow, f, fun p u Hv1 H1 s1 f1 n1 n2 g1 r1 => ⟨Hv1, ow, f1, fun p2 u2 Hv2 H2 s2 f2 m1 m2 g2 r2 => by
    have lt : ∀ {i : Nat}, Rs[i]? = some .no → i < Rs.length := fun {i} h => (List.getElem?_eq_some_iff.mp h).1
    have no1 : ¬ Owned Rs ow p := fun ⟨j, P, e, z⟩ => f.free n1 j P e z
    have no2 : ¬ Owned Rs ow p2 := fun ⟨j, P, e, z⟩ => f1.free m1 j P e z
    have a1 : H2 p = some u := s2.kp _ _ g1 no1
    have b1 : Hv2 p = none := s2.hid _ _ n2 g1 no1
    have hp2 : H p2 = none := by
      cases hq : H p2 with
      | none => rfl
      | some o =>
        obtain ⟨o', e'⟩ := s1.th p2 o hq
        rw [e'] at m1
        cases m1
    have ne12 : p ≠ p2 := fun z => by rw [z, m1] at g1; cases g1
    have nf : ∀ (P : Own), Rs[i]? ≠ some (.own P) := fun P e => by rw [hni] at e; cases e
    have nj : ∀ (P : Own), (Rs.set i (.own P1))[j]? ≠ some (.own P) := fun P e => by
      rw [List.getElem?_set_ne hij, hnj] at e
      cases e
    have c1 := f2.come (P := P1) nf (lt hni) b1 a1 (P1.mono s2.sv r1) fun j' Q e z => no1 ⟨j', Q, e, z⟩
    have c2 := c1.come (P := P2) nj (by rw [List.length_set]; exact lt hnj) m2 g2 r2 fun j' Q e z => by
      have z' : (if j' = i then p else ow j') = p2 := z
      by_cases hj' : j' = i
      · rw [if_pos hj'] at z'
        exact ne12 z'
      · rw [if_neg hj'] at z'
        rcases set_own e with ⟨e1, _⟩ | e1
        · exact hj' e1
        · exact no2 ⟨j', Q, e1, z'⟩
    refine ⟨.ref p, .ref p2, rfl, q _ _ _ _ ⟨s1.trans s2, fun m P P' e e' => ?_, fun m P e => ?_⟩ c2⟩
    · show (if m = j then p2 else if m = i then p else ow m) = ow m
      rw [if_neg (fun z => by rw [z, hnj] at e; cases e), if_neg (fun z => by rw [z, hni] at e; cases e)]
    · show _ ∨ H (if m = j then p2 else if m = i then p else ow m) = none
      rcases set_own e with ⟨z, _⟩ | e
      · rw [if_pos z]
        exact .inr hp2
      · rcases set_own e with ⟨z, _⟩ | e
        · rw [if_neg (by rw [z]; exact hij), if_pos z]
          exact .inr n1
        · exact .inl ⟨P, e⟩⟩⟩
end
end Bo
set_option maxHeartbeats 4000000
namespace Bo
open PySem L2
open PyProof.Rows (envOfC)
/-- the ends of a text -/
def pastD (k : Kd) : Int := if k = .fst then -1 else 10 ^ 19
def lendT (l : List Int) (k : Kd) (i : Nat) : List Int := l.drop i ++ if k = .rng then l.take i else [pastD k]
def lendL (l : List Int) (k : Kd) (n : Nat) : List (List Int) := (List.range n).map (lendT l k)
section
variable {P : Program} {w : World} {K : PySem.W.Frag} {mg : Str → Option Value} {base : Heap}
/-! _law_ends -/
abbrev sLEnds : Stmt := top 46
abbrev nLEnds : List Str := ["_law_line", "_law_sort", "_law_found", "_law_past_all", "_law_k", "_law_tail"]
theorem scLEnds : FnScope nLEnds ["_law_line", "_law_sort"] (C8.fnScope sLEnds) := C8.fnScope_by (by decide +kernel)
abbrev spLEnds (K : PySem.W.Frag) : Sp := spF (fun a : List Int × Kd => a.1.length ≤ 4) (fun a => [dR K (tupI a.1), strR a.2.s]) fun a => dR K (.list ((lendL a.1 a.2 a.1.length).map lstI))
theorem xt_kd {X : Cx} {a b : Expr} {Rs : Frm} {k : Kd} {s : Str} {pos : Pos} (ha : XE X a Rs (strR k.s)) (hb : XE X b Rs (strR s)) {k2 : Kd} (hs : k2.s = s) : XT X (.Compare a [.Eq] [b] pos) Rs (decide (k = k2)) :=
  xt_is (xt_eqS ha hb) (by
    subst hs
    cases k <;> cases k2 <;> decide +kernel)
theorem c_lends (F : Df K mg "_law_ends" sLEnds) (M : Md K mg) : C8.Cal P w K mg base 1 "_law_ends" (spLEnds K) [] :=
  pure_def F (fun _ _ _ _ _ _ us hl => match us, hl with | [_, _], _ => rfl) scLEnds 4 rfl (fun _ => rfl) fun f a cdv A outer s H E hp hr => by
    obtain ⟨l, k⟩ := a
    replace hp : l.length ≤ 4 := hp
    have nd := scLEnds.nd
    show PSs _ _ (tXR [] [.is (dR K (tupI l)), .is (strR k.s), .no, .no, .no, .no] (dR K (.list ((lendL l k l.length).map lstI))))
    refine b_cons (n_parO 2 3 (P1 := ownL K []) (Rb := tlR K [.int (pastD k)]) (o_lst (ds := []) xa_nil) (x_lstT (ds := [.int (pastD k)]) (xa_cons (x_ofI (x_if (k := decide (k = .fst)) (xt_kd (x_v 1) x_str rfl) (fun hk => ?_) fun hk => ?_)) xa_nil)) rfl nd (by decide) rfl rfl) ?_
    · unfold pastD
      rw [if_pos (of_decide_eq_true hk)]
      exact x_neg x_int
    · unfold pastD
      rw [if_neg (of_decide_eq_false hk)]
      exact x_pow (i := 10) (j := 19) ⟨by decide, by decide, by decide⟩ x_int x_int
    show PSs _ _ (tXR [] [.is (dR K (tupI l)), .is (strR k.s), .own (ownL K []), .is (tlR K [.int (pastD k)]), .no, .no] _)
    refine b_cons (n_for (ks := [4]) (n := l.length) (I := fun i => intR (i : Nat)) (fun i => [.is (dR K (tupI l)), .is (strR k.s), .own (ownL K ((lendL l k i).map lstI)), .is (tlR K [.int (pastD k)]), .no, .no])
      (fun i => [.is (dR K (tupI l)), .is (strR k.s), .own (ownL K ((lendL l k i).map lstI)), .is (tlR K [.int (pastD k)]), .is (intR (i : Nat)), .no])
      (xi_rg1 (x_eI (x_lenT M.len (x_v 0)) (by simp)) M.range_ (by omega)) rfl rfl PassesOwn.never (fun i _ => so trivial) (fun i _ => so trivial) (fun i hi => xg_name 4 nd) fun i hi => ?_) ?_
    · have e1 : (lendL l k (i + 1)).map lstI = (lendL l k i).map lstI ++ [lstI (lendT l k i)] := by
        unfold lendL
        rw [List.range_succ, List.map_append, List.map_append]
        rfl
      have eln : ((lendL l k i).map lstI).length = i := by
        unfold lendL
        simp
      rw [e1]
      have hdr : (l.map PyData.int).drop i = (l.drop i).map .int := (List.map_drop ..).symm
      refine ns_eq (ns_forget 4 (ns_forget 5 (nc (n_set 5 (R := tlR K ((if k = .rng then l.take i else [pastD k]).map .int)) (x_if (k := decide (k = .rng)) (xt_kd (x_v 1) x_str rfl) (fun hk => ?_) fun hk => ?_) nd) (ns_one (n_append 2 (ds := (lendL l k i).map lstI) (d := lstI (lendT l k i)) rfl (x_eqd (x_dt (x_catL (x_listOf (.inr rfl) M.list_ (x_slT (x_v 0) (px_some (x_v 4)) px_none (.inr rfl) (hn := none) rfl)) (x_v 5) ?_)) ?_) (by rw [eln]; omega))) (own1 (by exact trivial))))) rfl
      · rw [if_pos (of_decide_eq_true hk), List.map_take]
        have ec : (l.map PyData.int).take i = cutD 0 (some i) (l.map PyData.int) := cutD_to.symm
        rw [ec]
        exact x_listOf (.inr rfl) M.list_ (x_slT (x_v 0) px_none (px_some (x_v 4)) (.inl ⟨rfl, rfl⟩) (hn := some i) rfl)
      · rw [if_neg (of_decide_eq_false hk)]
        exact x_v 3
      · rw [cutD_from, List.length_drop, List.length_map, List.length_map]
        split
        · rw [List.length_take]
          omega
        · show l.length - i + 1 ≤ 100000
          omega
      · rw [cutD_from, hdr, ← List.map_append]
        rfl
    · exact reveal 2 rfl (b_ret (x_v 2))
end
end Bo
set_option maxHeartbeats 4000000
/-! sorted of a list of data. -/
namespace Bo
open PySem PySem.Spec L2
open PyProof.Rows hiding St
section
variable {X : Cx} {β : Type} {enc : β → PyData}
def rSrtD (K : PySem.W.Frag) (A : Around) (enc : β → PyData) (bs L : List β) : List V → Hp → VK → Prop := fun vs H Q => ∃ (p : Addr) (xs : List V) (Hv : Hp), vs = [.ref p] ∧ SqL K H p xs ∧ Same Hv H ∧ DpAll K Hv xs (bs.map enc) ∧
  ∀ (l : Addr) (ys : List V), H l = none → DpAll K Hv ys (L.map enc) → Q (.ref l) (upd H l (.lst ys))
theorem each_dp {K : PySem.W.Frag} {H : Hp} : ∀ {xs : List V} {us : List Value} {bs : List β}, Vals xs us → DpAll K H xs (bs.map enc) → PySem.W.EachIs (fun v b => ∃ x : V, RelV x v ∧ Dp K H x (enc b)) us bs
  | _, _, [], r, h => by
    cases h
    cases r
    exact .nil
  | _, _, b :: bs, r, h => by
    cases h with
    | cons h1 h2 =>
      cases r with
      | cons r1 r2 => exact .cons ⟨_, r1, h1⟩ (each_dp r2 h2)
theorem dp_each {K : PySem.W.Frag} {H : Hp} : ∀ {us : List Value} {bs : List β}, PySem.W.EachIs (fun v b => ∃ x : V, RelV x v ∧ Dp K H x (enc b)) us bs → ∃ xs, Vals xs us ∧ DpAll K H xs (bs.map enc)
  | _, _, .nil => ⟨[], .nil, .nil⟩
  | _, _, .cons ⟨x, r, h⟩ t => by
    obtain ⟨xs, h1, h2⟩ := dp_each t
    exact ⟨x :: xs, .cons r h1, .cons h h2⟩
theorem cr_srtD {bs L : List β} (hal : PySem.W.AllAlike (bs.map enc)) (hk : PySem.W.Sortable (bs.map enc)) (hu : X.A.units + 64 < cLine) (hd : ∀ b ∈ bs, (enc b).depth ≤ 10) (hl : bs.length ≤ 1000) (hL : bs.mergeSort (PySem.W.dataLe false enc) = L) : CallR X (.builtin "sorted") (rSrtD X.K X.A enc bs L) := by
  intro pins s σ H xs us Q I r h
  obtain ⟨p, ys, Hv, rfl, hq, hs, hdp, q⟩ := h
  obtain rfl := Vals.ref1 r
  obtain ⟨its, rv, pl, hz⟩ := I.list hq
  have e : PySem.W.EachIs (fun v b => ∃ x : V, RelV x v ∧ Dp X.K Hv x (enc b)) its bs := each_dp rv hdp
  have er : PySem.W.EachIs (fun v b => ∃ as, Reads s.heap v (enc b) as) its bs := e.mono fun v b ⟨x, r, h⟩ => Dp.reads I _ _ _ (dp_mono hs _ _ h) r
  have big : 1000 ≤ sizeLine := by decide
  refine PySem.W.sorted_data pl.isList e er hal hk (by omega) (fun b hb => by have := hd b hb; omega) fun out hlen eo => ?_
  rw [hL] at eo
  obtain ⟨zs, z1, z2⟩ := dp_each eo
  obtain ⟨c, hc⟩ := sortedAll_at s.heap its out.toArray
  have hLl : L.length = bs.length := by rw [← hL, List.length_mergeSort]
  have hzl : zs.length ≤ sizeLine := by
    have := z1.length
    omega
  exact ⟨.ref (s.heap.objs.size + 1), _, I.laid (t' := s.toks) (fun _ _ => sortedAll_old) (Nat.le_succ _) (show ObjOk X.prog X.w _ _ _ (.lst zs) from ⟨hzl, out, c, z1, hc⟩), rfl, q _ zs (I.hok.fresh (Nat.le_succ _)) z2⟩
/-- sorted(xs) -/
theorem x_srtD {e : Expr} {Rs : Frm} {p pos : Pos} {bs L : List β} (hal : PySem.W.AllAlike (bs.map enc)) (hk : PySem.W.Sortable (bs.map enc)) (hu : X.A.units + 64 < cLine) (hd : ∀ b ∈ bs, (enc b).depth ≤ 10) (hl : bs.length ≤ 1000) (hL : bs.mergeSort (PySem.W.dataLe false enc) = L) (hm : X.mg "sorted" = none)
    (h : XE X e Rs (dR X.K (.list (bs.map enc)))) (hg : Gl X "sorted" := by rfl) (h1 : starEach [e] X.env = [(false, eval e X.env)] := by rfl) : XE X (.Call (.Name "sorted" p) [e] [] pos) Rs (dR X.K (.list (L.map enc))) := by
  refine x_callB (cr_srtD hal hk hu hd hl hL) (As := [dR X.K (.list (bs.map enc))]) (R := dR X.K (.list (L.map enc))) (fun Hv H vs Q s r q => ?_) hm (by decide +kernel) (xa_cons h xa_nil h1) hg (by decide) (by decide) h1 rfl
  obtain ⟨v, ev, r⟩ := r.one
  obtain ⟨a, xs, e, hs, g⟩ := dp_list r
  refine ⟨a, xs, Hv, by rw [ev, e], same_l s hs, s, g, fun l ys hn hy => ?_⟩
  have al := Al.new (o := .lst ys) s hn
  exact q _ _ _ al (.lst (.inl (.inl upd_same)) (dpAll_mono al.sv _ _ hy))
end
end Bo
set_option maxHeartbeats 4000000
namespace Bo
open PySem L2
open PyProof.Rows (envOfC)
section
variable {α : Type} (le : α → α → Bool)
def insB (x : α) : List α → List α
  | [] => [x]
  | y :: ys => if le x y then x :: y :: ys else y :: insB x ys
def srtB : List α → List α
  | [] => []
  | x :: xs => insB le x (srtB xs)
variable {le}
theorem insB_perm {x : α} : ∀ l : List α, (insB le x l).Perm (x :: l)
  | [] => .refl _
  | y :: ys => by
    unfold insB
    split
    · exact .refl _
    · exact ((insB_perm ys).cons y).trans (List.Perm.swap x y ys)
theorem srtB_perm : ∀ l : List α, (srtB le l).Perm l
  | [] => .refl _
  | x :: xs => (insB_perm _).trans ((srtB_perm xs).cons x)
theorem insB_pw (T : PySem.W.TotalLe le) {x : α} : ∀ {l : List α}, l.Pairwise (fun a b => le a b = true) → (insB le x l).Pairwise (fun a b => le a b = true)
  | [], _ => List.pairwise_singleton _ _
  | y :: ys, h => by
    have h' := List.pairwise_cons.mp h
    unfold insB
    cases hx : le x y with
    | true =>
      rw [if_pos rfl]
      refine List.pairwise_cons.mpr ⟨fun z hz => ?_, h⟩
      rcases List.mem_cons.mp hz with e | hz
      · rw [e]; exact hx
      · exact T.trans _ _ _ hx (h'.1 z hz)
    | false =>
      rw [if_neg Bool.false_ne_true]
      have hy : le y x = true := (T.total x y).resolve_left (by rw [hx]; exact Bool.false_ne_true)
      refine List.pairwise_cons.mpr ⟨fun z hz => ?_, insB_pw T h'.2⟩
      rcases List.mem_cons.mp ((insB_perm ys).mem_iff.mp hz) with e | hz
      · rw [e]; exact hy
      · exact h'.1 z hz
theorem srtB_pw (T : PySem.W.TotalLe le) : ∀ l : List α, (srtB le l).Pairwise (fun a b => le a b = true)
  | [] => .nil
  | x :: xs => insB_pw T (srtB_pw T xs)
end
def ltL : List Int → List Int → Bool
  | [], [] => false
  | [], _ :: _ => true
  | _ :: _, [] => false
  | x :: xs, y :: ys => if x < y then true else if y < x then false else ltL xs ys
abbrev EK := List Int × Nat
def ltP (p q : EK) : Bool := ltL p.1 q.1 || (!ltL q.1 p.1 && decide (p.2 < q.2))
def leP (p q : EK) : Bool := !ltP q p
abbrev encP (b : EK) : PyData := .tuple [lstI b.1, .int (b.2 : Int)]
theorem ltL_irr : ∀ l, ltL l l = false
  | [] => rfl
  | x :: xs => by
    unfold ltL
    rw [if_neg (Int.lt_irrefl x), if_neg (Int.lt_irrefl x)]
    exact ltL_irr xs
theorem ltL_tri : ∀ a b, ltL a b = false → ltL b a = false → a = b
  | [], [], _, _ => rfl
  | [], _ :: _, h, _ => by cases h
  | _ :: _, [], _, h => by cases h
  | x :: xs, y :: ys, h1, h2 => by
    unfold ltL at h1 h2
    by_cases e1 : x < y
    · rw [if_pos e1] at h1; cases h1
    · rw [if_neg e1] at h1
      by_cases e2 : y < x
      · rw [if_pos e2] at h2; cases h2
      · rw [if_neg e2] at h1 h2
        rw [if_neg e1] at h2
        have e : x = y := by omega
        rw [e, ltL_tri xs ys h1 h2]
theorem ltL_asym : ∀ a b, ltL a b = true → ltL b a = false
  | [], [], h => by cases h
  | [], _ :: _, _ => rfl
  | _ :: _, [], h => by cases h
  | x :: xs, y :: ys, h => by
    unfold ltL at h ⊢
    by_cases e1 : x < y
    · rw [if_neg (by omega), if_pos e1]
    · rw [if_neg e1] at h
      by_cases e2 : y < x
      · rw [if_pos e2] at h; cases h
      · rw [if_neg e2] at h
        rw [if_neg e2, if_neg e1]
        exact ltL_asym xs ys h
theorem ltL_lt : ∀ a b : List Int, ltL a b = decide (a < b)
  | [], [] => rfl
  | [], _ :: _ => by
    unfold ltL
    exact (decide_eq_true (List.nil_lt_cons _ _)).symm
  | _ :: _, [] => by
    unfold ltL
    exact (decide_eq_false (List.not_lt_nil _)).symm
  | x :: xs, y :: ys => by
    unfold ltL
    rw [ltL_lt xs ys]
    by_cases e1 : x < y
    · rw [if_pos e1]
      exact (decide_eq_true (List.cons_lt_cons_iff.mpr (.inl e1))).symm
    · rw [if_neg e1]
      by_cases e2 : y < x
      · rw [if_pos e2]
        refine (decide_eq_false fun h => ?_).symm
        rcases List.cons_lt_cons_iff.mp h with h | h <;> omega
      · rw [if_neg e2]
        have e : x = y := by omega
        exact decide_eq_decide.mpr ⟨fun h => List.cons_lt_cons_iff.mpr (.inr ⟨e, h⟩), fun h => by
          rcases List.cons_lt_cons_iff.mp h with h | h
          · exact absurd h e1
          · exact h.2⟩
theorem eqvAll_ints : ∀ a b : List Int, PyData.eqvAll (a.map .int) (b.map .int) = decide (a = b)
  | [], [] => rfl
  | [], _ :: _ => rfl
  | _ :: _, [] => rfl
  | x :: xs, y :: ys => by
    show (PyData.eqv (.int x) (.int y) && PyData.eqvAll (xs.map .int) (ys.map .int)) = _
    rw [eqvAll_ints xs ys]
    have e : PyData.eqv (.int x) (.int y) = decide (x = y) := rfl
    rw [e]
    by_cases h : x = y <;> by_cases h2 : xs = ys <;> simp [h, h2]
theorem dataLt_encP (p q : EK) : PySem.W.dataLt (encP p) (encP q) = ltP p q := by
  have e1 : PyData.eqv (lstI p.1) (lstI q.1) = decide (p.1 = q.1) := eqvAll_ints p.1 q.1
  have al : ∀ a b : List Int, PySem.W.alikeAll (a.map .int) (b.map .int) = true := fun a => by
    induction a with
    | nil => intro b; cases b <;> rfl
    | cons x xs ih =>
      intro b
      cases b with
      | nil => rfl
      | cons y ys => exact ih ys
  rw [show PySem.W.dataLt (encP p) (encP q) = _ from PySem.W.dataLt_pair (x := lstI p.1) (y := .int (p.2 : Int)) (x' := lstI q.1) (y' := .int (q.2 : Int)) (by exact al p.1 q.1) rfl, e1]
  have e2 : PyData.eqv (.int (p.2 : Int)) (.int (q.2 : Int)) = decide ((p.2 : Int) = q.2) := rfl
  have e3 : PySem.W.dataLt (lstI p.1) (lstI q.1) = ltL p.1 q.1 := by
    rw [ltL_lt]
    exact PySem.W.dataLt_ints p.1 q.1
  rw [e2, e3, PySem.W.dataLt_int]
  unfold ltP
  by_cases h : p.1 = q.1
  · rw [if_pos (decide_eq_true h), h, ltL_irr]
    by_cases h2 : p.2 = q.2
    · simp [h2]
    · rw [if_neg fun z => h2 (by have := of_decide_eq_true z; omega)]
      show decide ((p.2 : Int) < q.2) = decide (p.2 < q.2)
      exact decide_eq_decide.mpr (by omega)
  · rw [if_neg (by simpa using h)]
    cases e : ltL p.1 q.1 with
    | true => rfl
    | false =>
      cases e' : ltL q.1 p.1 with
      | true => rfl
      | false => exact (h (ltL_tri _ _ e e')).elim
theorem dataLe_encP : PySem.W.dataLe false encP = leP := by
  funext p q
  show (!PySem.W.dataLt (encP q) (encP p)) = _
  rw [dataLt_encP]
  rfl
theorem leP_total : PySem.W.TotalLe leP := by
  rw [← dataLe_encP]
  exact PySem.W.sortLe_total _ _ _
theorem leP_anti (p q : EK) (h1 : leP p q = true) (h2 : leP q p = true) : p = q := by
  unfold leP ltP at h1 h2
  simp only [Bool.not_eq_true', Bool.or_eq_false_iff] at h1 h2
  have e := ltL_tri _ _ h2.1 h1.1
  have g1 := h1.2
  have g2 := h2.2
  rw [h2.1] at g1
  rw [h1.1] at g2
  simp at g1 g2
  exact Prod.ext e (by omega)
theorem sort_encP (bs : List EK) : bs.mergeSort (PySem.W.dataLe false encP) = srtB leP bs := by
  rw [dataLe_encP]
  exact msort_is leP_total (srtB_perm bs) (srtB_pw leP_total bs) fun a b _ _ h1 h2 => leP_anti a b h1 h2
end Bo
set_option maxHeartbeats 4000000
namespace Bo
open PySem L2
open PyProof.Rows (envOfC)
def spPairs (l : List Int) (k : Kd) : List EK := srtB leP ((List.range l.length).map fun i => (lendT l k i, i))
def spTest (ps : List EK) (i : Nat) : Bool := decide ((ps.getD (1 + i) ([], 0)).1 = (ps.getD i ([], 0)).1)
def spSame (ps : List EK) : Bool := (List.range (ps.length - 1)).any (spTest ps)
def spM (l : List Int) (k : Kd) : Option (List Int) := if spSame (spPairs l k) then none else some ((spPairs l k).map fun p => (p.2 : Int))
def optT : Option (List Int) → PyData
  | none => .none
  | some s => tupI s
theorem spPairs_len {l : List Int} {k : Kd} : (spPairs l k).length = l.length := by
  have e := (srtB_perm (le := leP) ((List.range l.length).map fun i => (lendT l k i, i))).length_eq
  rw [List.length_map, List.length_range] at e
  exact e
theorem eqv_nil (ds : List PyData) : PyData.eqv (.list ds) (.list []) = ds.isEmpty := by
  cases ds <;> rfl
theorem xi_enumG {X : Cx} {e : Expr} {Rs : Frm} {p pos tpos : Pos} {elts : List Expr} {kk : Nat} {d : PyData} {ds : List PyData} {n : Nat} {g : Nat → PyData} (hd : SeqD d ds) (hn : ds.length = n) (hg' : ∀ i, i < n → nthD ds i = g i) (hm : X.mg "enumerate" = none) (h : XE X e Rs (dR X.K d)) (hg : Gl X "enumerate" := by rfl) (hs : starEach [e] X.env = [(false, eval e X.env)] := by rfl) :
    XI X (.Tuple elts kk tpos) (.Call (.Name "enumerate" p) [e] [] pos) Rs n (fun i => tupsR X.K [intR (i : Nat), dR X.K (g i)]) := by
  have z := xi_enum (elts := elts) (kk := kk) (tpos := tpos) (p := p) (pos := pos) hd hm h hg hs
  rw [hn] at z
  refine xi_weak z fun k hk H v ⟨a, xs, e, h1, h2⟩ => ⟨a, xs, e, h1, ?_⟩
  match xs, h2 with
  | [u, w], ⟨g1, g2, _⟩ =>
    have g2' : Dp X.K H w (nthD ds k) := g2
    rw [hg' k hk] at g2'
    exact ⟨g1, g2', trivial⟩
theorem xi_listG {X : Cx} {tg e : Expr} {Rs : Frm} {ds : List PyData} {n : Nat} {g : Nat → PyData} (hn : ds.length = n) (hg : ∀ i, i < n → nthD ds i = g i) (h : XE X e Rs (dR X.K (.list ds))) : XI X tg e Rs n (fun i => dR X.K (g i)) := by
  have z := xi_list (tg := tg) h
  rw [hn] at z
  exact xi_weak z fun k hk H v q => by
    have q' : Dp X.K H v (nthD ds k) := q
    rw [hg k hk] at q'
    exact q'
section
variable {P : Program} {w : World} {K : PySem.W.Frag} {mg : Str → Option Value} {base : Heap}
/-! _law_spots -/
abbrev sLSpots : Stmt := top 47
abbrev nLSpots : List Str := ["_law_line", "_law_sort", "_law_pairs", "_law_end", "_law_k"]
theorem scLSpots : FnScope nLSpots ["_law_line", "_law_sort"] (C8.fnScope sLSpots) := C8.fnScope_by (by decide +kernel)
abbrev spLSpots (K : PySem.W.Frag) : Sp := spF (fun a : List Int × Kd => a.1.length ≤ 4) (fun a => [dR K (tupI a.1), strR a.2.s]) fun a => dR K (optT (spM a.1 a.2))
theorem c_lspots (F : Df K mg "_law_spots" sLSpots) (M : Md K mg) (c1 : C8.Cal P w K mg base 1 "_law_ends" (spLEnds K) []) : C8.Cal P w K mg base 2 "_law_spots" (spLSpots K) [] :=
  pure_def F (fun _ _ _ _ _ _ us hl => match us, hl with | [_, _], _ => rfl) scLSpots 3 rfl (fun _ => rfl) fun f a cdv A outer s H E hp hr => by
    obtain ⟨l, k⟩ := a
    replace hp : l.length ≤ 4 := hp
    have nd := scLSpots.nd
    show PSs _ _ (tXR [] [.is (dR K (tupI l)), .is (strR k.s), .no, .no, .no] (dR K (optT (spM l k))))
    have hds : ((lendL l k l.length).map lstI).length = l.length := by
      unfold lendL
      simp
    have hnth : ∀ i, i < l.length → nthD ((lendL l k l.length).map lstI) i = lstI (lendT l k i) := fun i hi => nthD_of (by
      unfold lendL
      rw [List.getElem?_map, List.getElem?_map, List.getElem?_range hi] <;> rfl)
    have hbs : ((List.range l.length).map fun i => (lendT l k i, i)).length = l.length := by simp
    refine b_cons (n_set 2 (R := dR K (.list ((spPairs l k).map encP))) (x_srtD (bs := (List.range l.length).map fun i => (lendT l k i, i)) (L := spPairs l k) ?_ (PySem.W.Sortable.tuples fun _ => ⟨_, _, rfl⟩) hr.units (fun b _ => ?_) (by rw [hbs]; omega) (sort_encP _) M.sorted_
      (x_eqd (x_lc (n := l.length) (fun _ => true) (fun i => encP (lendT l k i, i)) (own := [("_law_end", 3), ("_law_k", 4)]) (ks := [4, 3]) (I := fun i => tupsR K [intR (i : Nat), dR K (lstI (lendT l k i))])
        (fun i => [.is (dR K (tupI l)), .is (strR k.s), .no, .is (dR K (lstI (lendT l k i))), .is (intR (i : Nat))]) rfl nd ?_ (blkOk_by (own := [("_law_end", 3), ("_law_k", 4)]) (N := nLSpots) (sc := C8.fnScope sLSpots) (by decide +kernel)) (by omega) (nof trivial) (fun i _ => nof trivial) (w2 rfl rfl) (by decide)
        (fun _ _ _ _ _ i hi => xg_tup rfl (xgs_cons (xg_name 4 nd) (xgs_cons (xg_name 3 nd) xgs_nil))) (fun _ _ _ _ _ i hi => ts_nil) (fun _ _ _ _ _ i hi _ => x_tup (xa_cons (x_v 3) (xa_cons (x_ofI (x_v 4)) xa_nil)))) ?_)) nd) ?_
    · exact PySem.W.AllAlike.of fun p q => by
        have al : ∀ a b : List Int, PySem.W.alikeAll (a.map .int) (b.map .int) = true := fun a => by
          induction a with
          | nil => intro b; cases b <;> rfl
          | cons x xs ih =>
            intro b
            cases b with
            | nil => rfl
            | cons y ys => exact ih ys
        show (PySem.W.alike (lstI p.1) (lstI q.1) && (PySem.W.alike (.int p.2) (.int q.2) && _)) = true
        rw [show PySem.W.alike (lstI p.1) (lstI q.1) = true from al p.1 q.1]
        rfl
    · obtain ⟨h1, h2⟩ := atoms_ok PyData.int (fun _ => ⟨rfl, rfl⟩) b.1
      have e : (encP b).depth = 2 := by
        show max (PyData.depthAll (b.1.map .int) + 1) 0 + 1 = 2
        rw [h2]
        rfl
      omega
    · exact xi_enumG (.inl rfl) hds hnth M.enum (x_call c1 (l, k) hr (by decide) hp (xa_cons (x_v 0) (xa_cons (x_v 1) xa_nil)))
    · rw [lcD_all, List.map_map]
      rfl
    have hpl : (spPairs l k).length = l.length := spPairs_len
    show PSs _ _ (tXR [] [.is (dR K (tupI l)), .is (strR k.s), .is (dR K (.list ((spPairs l k).map encP))), .no, .no] (dR K (optT (spM l k))))
    unfold spM
    revert hpl
    generalize spPairs l k = ps
    intro hpl
    have hat : ∀ i, i < ps.length → (ps.map encP)[i]? = some (encP (ps.getD i ([], 0))) := fun i hi => by
      rw [List.getElem?_map, List.getElem?_eq_getElem hi, List.getD_eq_getElem?_getD, List.getElem?_eq_getElem hi]
      rfl
    have hlm : (ps.map encP).length = ps.length := List.length_map ..
    have hlc : lcD (ps.length - 1) (spTest ps) (fun i => .int ((1 + i : Nat) : Int)) = (((List.range (ps.length - 1)).filter (spTest ps)).map fun i => ((1 + i : Nat) : Int)).map .int := lcD_int _ fun _ _ => rfl
    have hem : (((List.range (ps.length - 1)).filter (spTest ps)).map fun i => ((1 + i : Nat) : Int)).isEmpty = !spSame ps := by
      unfold spSame
      rw [List.isEmpty_map]
      cases h : (List.range (ps.length - 1)).any (spTest ps) with
      | true =>
        obtain ⟨i, hi, ht⟩ := List.any_eq_true.mp h
        have hm : i ∈ (List.range (ps.length - 1)).filter (spTest ps) := List.mem_filter.mpr ⟨hi, ht⟩
        cases hq : (List.range (ps.length - 1)).filter (spTest ps) with
        | nil => rw [hq] at hm; cases hm
        | cons a b => rfl
      | false =>
        have hq : (List.range (ps.length - 1)).filter (spTest ps) = [] := List.filter_eq_nil_iff.mpr fun i hi ht => by
          have := List.any_eq_true.mpr ⟨i, hi, ht⟩
          rw [h] at this
          cases this
        rw [hq]
        rfl
    have cond : XT (BX P w K mg base nLSpots "_law_spots" (C8.fnScope sLSpots) f cdv A outer s H E) (match (C8.fnBody sLSpots).getD 1 (.Pass ⟨0, 0, 0, 0⟩) with | .If c _ _ _ => c | _ => .Constant .none 0 ⟨0, 0, 0, 0⟩) [.is (dR K (tupI l)), .is (strR k.s), .is (dR K (.list (ps.map encP))), .no, .no] (spSame ps) := by
      refine xt_is (xt_cmp (op_neD hr.units) (ox_neD (shaped_lstI (((List.range (ps.length - 1)).filter (spTest ps)).map fun i => ((1 + i : Nat) : Int))) (shaped_fs [])) (x_eqd (x_lc (n := ps.length - 1) (spTest ps) (fun i => .int ((1 + i : Nat) : Int)) (own := [("_law_k", 4)]) (ks := [4]) (I := fun i => intR ((1 + i : Nat) : Int))
        (fun i => [.is (dR K (tupI l)), .is (strR k.s), .is (dR K (.list (ps.map encP))), .no, .is (intR ((1 + i : Nat) : Int))]) rfl nd (xi_rg2 (lo := 1) (hi := ps.length) x_int (x_eI (x_lenL M.len (x_v 2)) (by rw [hlm])) M.range_ ⟨by omega, by omega⟩) (blkOk_by (own := [("_law_k", 4)]) (N := nLSpots) (sc := C8.fnScope sLSpots) (by decide +kernel)) (by omega) (nof trivial) (fun i _ => nof trivial) (w1 rfl) (by decide)
        (fun _ _ _ _ _ i hi => xg_name 4 nd) (fun _ _ _ _ _ i hi => ts_one ?_) (fun _ _ _ _ _ i hi _ => x_ofI (x_v 4))) (congrArg PyData.list hlc)) (x_lst (ds := []) xa_nil)) ?_
      · refine xt_is (xt_cmp (op_eqD hr.units) (ox_eqD (shaped_lstI (ps.getD (1 + i) ([], 0)).1) (shaped_lstI (ps.getD i ([], 0)).1)) (x_ixT (i := 0) (x_ixL (i := 1 + i) (x_v 2) (x_v 4) (hat (1 + i) (by omega))) x_int rfl) (x_ixT (i := 0) (x_ixL (i := i) (x_v 2) (x_eI (x_sub (x_v 4) x_int) (by omega)) (hat i (by omega))) x_int rfl)) ?_
        exact eqvAll_ints _ _
      · rw [show PyData.eqv _ (.list (fsD [])) = _ from eqv_nil _, List.isEmpty_map, hem, Bool.not_not]
    refine b_if cond (fun hk => ?_) fun hk => ?_
    · rw [hk, if_pos rfl]
      exact b_ret (x_ofN x_non)
    · rw [hk, if_neg Bool.false_ne_true]
      refine b_ret (x_eqd (x_tupOf (.inl rfl) M.tuple_ (x_lc (n := ps.length) (fun _ => true) (fun i => .int ((ps.getD i ([], 0)).2 : Int)) (own := [("_law_end", 3), ("_law_k", 4)]) (ks := [3, 4]) (I := fun i => dR K (encP (ps.getD i ([], 0))))
        (fun i => [.is (dR K (tupI l)), .is (strR k.s), .is (dR K (.list (ps.map encP))), .is (dR K (lstI (ps.getD i ([], 0)).1)), .is (dR K (.int ((ps.getD i ([], 0)).2 : Int)))]) rfl nd ?_ (blkOk_by (own := [("_law_end", 3), ("_law_k", 4)]) (N := nLSpots) (sc := C8.fnScope sLSpots) (by decide +kernel)) (by omega) (nof trivial) (fun i _ => nof trivial) (w2 rfl rfl) (by decide)
        (fun _ _ _ _ _ i hi => pg_imp (xg_tup (As := [dR K (lstI (ps.getD i ([], 0)).1), dR K (.int ((ps.getD i ([], 0)).2 : Int))]) rfl (xgs_cons (xg_name 3 nd) (xgs_cons (xg_name 4 nd) xgs_nil))) fun v σ H Q ⟨Hv, ow, f, r, q⟩ => ⟨Hv, ow, f, tups_of r, q⟩) (fun _ _ _ _ _ i hi => ts_nil) (fun _ _ _ _ _ i hi _ => x_v 4))) ?_)
      · exact xi_listG hlm (fun i hi => nthD_of (hat i hi)) (x_v 2)
      · rw [lcD_all]
        show PyData.tuple _ = PyData.tuple _
        congr 1
        rw [List.map_map]
        refine List.ext_getElem (by simp) fun i h1 h2 => ?_
        have hi : i < ps.length := by simpa using h1
        simp [List.getElem?_eq_getElem hi]
end
end Bo
set_option maxHeartbeats 4000000
/-! t.index(k), t a tuple of ints whose object is known. -/
namespace Bo
open PySem PySem.Spec L2
open PyProof.Rows hiding St
section
variable {X : Cx}
def tyPt (x : V) (H : Hp) : Prop := ∃ a ob xs, x = .ref a ∧ H a = some (.frz ob (.tup xs)) ∧ PlT ob
theorem ty_pt : TyOk X "tuple" tyPt := by
  intro pins σ H s x v I r ty
  obtain ⟨a, ob, xs, rfl, h, ⟨c1, c2, its0, n0, c3⟩⟩ := ty
  cases r
  obtain ⟨g1, _⟩ := (show ObjOk X.prog X.w H s.heap a (.frz ob (.tup xs)) from I.hok a _ h)
  refine ⟨⟨ob, g1, c1⟩, fun b e => ?_⟩
  cases e
  exact ⟨ob, g1, c2⟩
def rTix (K : PySem.W.Frag) : V → List V → Hp → VK → Prop := fun x xs H Q => ∃ (p : Addr) (ns : List Int) (k : Int), x = .ref p ∧ xs = [.int k] ∧ SqT K H p (ns.map V.int) ∧ k ∈ ns ∧ Q (.int (ns.idxOf k : Nat)) H
theorem mt_tix : MtR X "tuple.index" (rTix X.K) := by
  intro pins s σ H x xs v us Q I rx rxs h
  obtain ⟨p, ns, k, rfl, rfl, hq, hk, q⟩ := h
  cases rx
  obtain ⟨u, rfl, r⟩ := vals1 rxs
  obtain ⟨t, rfl⟩ := r
  obtain ⟨its, rv, ht, _⟩ := I.tuple hq
  exact PySem.SeqAt.tuple_index_ints (vs := its) ht (intsAre_of rv) hk ⟨.int _, H, I.tok _, ⟨_, rfl⟩, q⟩
/-- t.index(k) -/
theorem x_tix {e a : Expr} {Rs : Frm} {apos cpos : Pos} {ns : List Int} {k : Int} (h : XE X e Rs (ptR X.K (ns.map .int))) (ha : XE X a Rs (intR k)) (hk : k ∈ ns) (hbase : attributeBase e "index" X.env (eval e X.env) = eval e X.env := by rfl)
    (hfew : ((backTo cpos (starEach [a] X.env)).all (fun x => !x.1) && (backToKw cpos (keywordEach [] X.env)).all (fun x => x.1.isSome)
      && decide ([a].length + ([] : List Keyword).length + (if ([] : List Keyword).isEmpty then 0 else 1) < 30)) = true := by rfl)
    (hline : (apos.endLine == cpos.line) = true := by rfl) (hs : starEach [a] X.env = [(false, eval a X.env)] := by rfl) : XE X (.Call (.Attribute e "index" apos) [a] [] cpos) Rs (intR (ns.idxOf k : Nat)) :=
  pe_imp (pe_mG ty_pt PySem.F.plainAttrs_tuple PySem.F.slot_tuple_index PySem.F.type_tuple_index mt_tix h (xa_cons ha xa_nil hs) hbase hfew hline hs rfl) fun σ H Q ⟨Hv, ow, f, q⟩ => ⟨Hv, ow, f, fun v Hv1 H1 s1 f1 ⟨b, ob, xs, ev, h1, h2, h3⟩ => ⟨⟨b, ob, xs, ev, f1.sub _ _ h1, h2⟩, Hv1, ow, f1, fun vs Hv2 H2 s2 f2 r2 => by
    obtain ⟨w, ew, r2⟩ := r2.one
    have ex : xs = ns.map .int := dpAll_ints h3
    subst ex
    exact ⟨b, ns, k, ev, by rw [ew, show w = .int k from r2], .inl (.inr ⟨ob, f2.sub _ _ (s2.sv _ _ h1)⟩), hk, q _ Hv2 H2 (s1.trans s2) f2 rfl⟩⟩⟩
end
end Bo
set_option maxHeartbeats 4000000
namespace Bo
open PySem L2
open PyProof.Rows (envOfC)
theorem pmOk_len {ps : List Int} (h : pmOk ps) : 1 ≤ ps.length ∧ ps.length ≤ 4 := by
  obtain ⟨n, hn, hp⟩ := h
  have hl := hp.length_eq
  rw [List.length_map, List.length_range] at hl
  omega
theorem pmOk_ps {ps : List Int} (h : pmOk ps) : okPs ps = true := by
  obtain ⟨n, hn, hp⟩ := h
  exact perm_ok hn hp
theorem pmOk_mem {ps : List Int} (h : pmOk ps) {v : Int} : v ∈ ps ↔ 0 ≤ v ∧ v < ps.length := by
  obtain ⟨n, hn, hp⟩ := h
  have hl := hp.length_eq
  rw [List.length_map, List.length_range] at hl
  rw [hp.mem_iff]
  constructor
  · intro hm
    obtain ⟨k, hk, ek⟩ := List.mem_map.mp hm
    have := List.mem_range.mp hk
    omega
  · intro hv
    exact List.mem_map.mpr ⟨v.toNat, List.mem_range.mpr (by omega), by omega⟩
/-- the next ranks -/
def beyM (ps : List Int) (k : Kd) : Int := match k with
  | .fst => -1
  | .lst => ps.length
  | .rng => (ps.idxOf 0 : Nat)
def nxM (ps : List Int) (k : Kd) (s : Int) : Int := if s + 1 = ps.length then beyM ps k else (ps.idxOf (s + 1) : Nat)
def afM (ps : List Int) (k : Kd) (n : Nat) : List Int := (List.range n).map fun i => nxM ps k (ps.getD i 0)
def stM (ps : List Int) (k : Kd) : List Int := ((List.range (ps.length - 1)).filter fun i => decide ((afM ps k ps.length).getD (i + 1) 0 < (afM ps k ps.length).getD i 0)).map fun i : Nat => (i : Int)
section
variable {P : Program} {w : World} {K : PySem.W.Frag} {mg : Str → Option Value} {base : Heap}
/-! _law_after -/
abbrev sAfter : Stmt := top 48
abbrev nAfter : List Str := ["_law_spots_here", "_law_sort", "_law_size", "_law_beyond", "_law_found", "_law_k"]
theorem scAfter : FnScope nAfter ["_law_spots_here", "_law_sort"] (C8.fnScope sAfter) := C8.fnScope_by (by decide +kernel)
abbrev spAfter (K : PySem.W.Frag) : Sp := spF (fun a : List Int × Kd => pmOk a.1) (fun a => [ptR K (a.1.map .int), strR a.2.s]) fun a => dR K (lstI (afM a.1 a.2 a.1.length))
theorem c_after (F : Df K mg "_law_after" sAfter) (M : Md K mg) : C8.Cal P w K mg base 1 "_law_after" (spAfter K) [] :=
  pure_def F (fun _ _ _ _ _ _ us hl => match us, hl with | [_, _], _ => rfl) scAfter 4 rfl (fun _ => rfl) fun f a cdv A outer s H E hp hr => by
    obtain ⟨ps, k⟩ := a
    replace hp : pmOk ps := hp
    have hl := pmOk_len hp
    have nd := scAfter.nd
    have hu : (A.deeper (envOfC "_law_after" (C8.fnScope sAfter) s.heap.objs.size f cdv)).units + 1 < cLine := by have := hr.units; omega
    show PSs _ _ (tXR [] [.is (ptR K (ps.map .int)), .is (strR k.s), .no, .no, .no, .no] (dR K (lstI (afM ps k ps.length))))
    refine b_cons (n_set 2 (R := intR (ps.length : Nat)) (x_eI (x_lenT M.len (x_pt (x_v 0))) (by simp)) nd) ?_
    refine b_cons (n_set 3 (R := intR (beyM ps k)) (x_weak (x_dget (k := Sum.inr k.s) (v := .int (beyM ps k)) hu (x_seen (o_disp [(Sum.inr "first", .int (-1)), (Sum.inr "last", .int ps.length), (Sum.inr "ring", .int (ps.idxOf 0 : Nat))] (xps_cons x_str (x_neg x_int) (xps_cons x_str (x_v 2) (xps_cons x_str (x_tix (x_v 0) x_int ((pmOk_mem hp).mpr (by omega))) xps_nil))) rfl (by show 3 ≤ 15; decide)) seen_dc) (x_v 1) (by cases k <;> rfl)) fun H v r => r) nd) ?_
    refine b_cons (n_setO 4 (o_lst (ds := []) xa_nil) nd (lt := by show 4 < 6; decide)) ?_
    show PSs _ _ (tXR [] [.is (ptR K (ps.map .int)), .is (strR k.s), .is (intR (ps.length : Nat)), .is (intR (beyM ps k)), .own (ownL K []), .no] _)
    refine b_cons (n_for (ks := [5]) (n := ps.length) (I := fun i => intR (ps.getD i 0)) (fun i => [.is (ptR K (ps.map .int)), .is (strR k.s), .is (intR (ps.length : Nat)), .is (intR (beyM ps k)), .own (ownL K ((afM ps k i).map .int)), .no])
      (fun i => [.is (ptR K (ps.map .int)), .is (strR k.s), .is (intR (ps.length : Nat)), .is (intR (beyM ps k)), .own (ownL K ((afM ps k i).map .int)), .is (intR (ps.getD i 0))])
      (xi_tupI (x_pt (x_v 0))) rfl rfl PassesOwn.never (fun i _ => so trivial) (fun i _ => so trivial) (fun i hi => xg_name 5 nd) fun i hi => ?_) (reveal 4 rfl (b_ret (x_v 4)))
    have e1 : (afM ps k (i + 1)).map PyData.int = (afM ps k i).map .int ++ [.int (nxM ps k (ps.getD i 0))] := by
      unfold afM
      rw [List.range_succ, List.map_append, List.map_append]
      rfl
    have eln : ((afM ps k i).map PyData.int).length = i := by
      unfold afM
      simp
    rw [e1]
    have hm : ps.getD i 0 ∈ ps := by
      rw [List.getD_eq_getElem?_getD, List.getElem?_eq_getElem hi]
      exact List.getElem_mem hi
    have hv := (pmOk_mem hp).mp hm
    refine ns_eq (ns_forget 5 (ns_one (n_append 4 rfl (x_ofI (x_if (k := decide (ps.getD i 0 + 1 = ps.length)) (xt_eqI (x_add (x_v 5) x_int) (x_v 2)) (fun hk => ?_) fun hk => ?_)) (by rw [eln]; omega)))) rfl
    · unfold nxM
      rw [if_pos (of_decide_eq_true hk)]
      exact x_v 3
    · have hk' := of_decide_eq_false hk
      unfold nxM
      rw [if_neg hk']
      exact x_tix (x_v 0) (x_add (x_v 5) x_int) ((pmOk_mem hp).mpr (by omega))
/-! _law_steep -/
abbrev sSteep : Stmt := top 49
abbrev nSteep : List Str := ["_law_spots_here", "_law_sort", "_law_after_here", "_law_k"]
theorem scSteep : FnScope nSteep ["_law_spots_here", "_law_sort"] (C8.fnScope sSteep) := C8.fnScope_by (by decide +kernel)
abbrev spSteep (K : PySem.W.Frag) : Sp := spF (fun a : List Int × Kd => pmOk a.1) (fun a => [ptR K (a.1.map .int), strR a.2.s]) fun a => dR K (lstI (stM a.1 a.2))
theorem c_steep (F : Df K mg "_law_steep" sSteep) (M : Md K mg) (c1 : C8.Cal P w K mg base 1 "_law_after" (spAfter K) []) : C8.Cal P w K mg base 2 "_law_steep" (spSteep K) [] :=
  pure_def F (fun _ _ _ _ _ _ us hl => match us, hl with | [_, _], _ => rfl) scSteep 2 rfl (fun _ => rfl) fun f a cdv A outer s H E hp hr => by
    obtain ⟨ps, k⟩ := a
    replace hp : pmOk ps := hp
    have hl := pmOk_len hp
    have nd := scSteep.nd
    show PSs _ _ (tXR [] [.is (ptR K (ps.map .int)), .is (strR k.s), .no, .no] (dR K (lstI (stM ps k))))
    have hal : (afM ps k ps.length).length = ps.length := by
      unfold afM
      simp
    refine b_cons (n_set 2 (x_call c1 (ps, k) hr (by decide) hp (xa_cons (x_v 0) (xa_cons (x_v 1) xa_nil))) nd) ?_
    refine b_ret (x_eqd (x_lc (n := ps.length - 1) (fun i => decide ((afM ps k ps.length).getD (i + 1) 0 < (afM ps k ps.length).getD i 0)) (fun i => .int (i : Int)) (own := [("_law_k", 3)]) (ks := [3]) (I := fun i => intR (i : Nat)) (fun i => [.is (ptR K (ps.map .int)), .is (strR k.s), .is (dR K (lstI (afM ps k ps.length))), .is (intR (i : Nat))]) rfl nd
      (xi_rg1 (x_eI (x_sub (x_lenT M.len (x_pt (x_v 0))) x_int) (by rw [List.length_map]; omega)) M.range_ (by omega)) (blkOk_by (own := [("_law_k", 3)]) (N := nSteep) (sc := C8.fnScope sSteep) (by decide +kernel)) (by omega) (nof trivial) (fun i _ => nof trivial) (w1 rfl) (by decide)
      (fun _ _ _ _ _ i hi => xg_name 3 nd) (fun _ _ _ _ _ i hi => ts_one (xt_gt (x_toI (x_ixL (i := i) (x_v 2) (x_v 3) (getI_int (by omega)))) (x_toI (x_ixL (i := i + 1) (x_v 2) (x_eI (x_add (x_v 3) x_int) (by omega)) (getI_int (by omega)))))) (fun _ _ _ _ _ i hi _ => x_ofI (x_v 3))) ?_)
    rw [lcD_int (g := fun i : Nat => (i : Int)) (h := fun _ _ => rfl)]
    rfl
end
end Bo
set_option maxHeartbeats 4000000
namespace Bo
open PySem L2
open PyProof.Rows (envOfC)
def stepM (b : Nat) (l : List Int) : List (List Int) := (List.range b).map fun e : Nat => l ++ [(e : Int)]
def evM (b : Nat) : Nat → List (List Int)
  | 0 => [[]]
  | i + 1 => (evM b i).flatMap (stepM b)
theorem flat_len {b : Nat} : ∀ L : List (List Int), (L.flatMap (stepM b)).length = L.length * b
  | [] => by simp
  | l :: L => by
    rw [List.flatMap_cons, List.length_append, flat_len L, List.length_cons, Nat.add_mul]
    unfold stepM
    rw [List.length_map, List.length_range]
    omega
theorem evM_len {b : Nat} : ∀ i, (evM b i).length = b ^ i
  | 0 => rfl
  | i + 1 => by
    show ((evM b i).flatMap (stepM b)).length = _
    rw [flat_len, evM_len i, Nat.pow_succ]
theorem evM_at {b : Nat} : ∀ i, ∀ l ∈ evM b i, l.length = i ∧ ∀ x ∈ l, 0 ≤ x ∧ x < (b : Int)
  | 0, l, h => by
    rw [List.mem_singleton.mp h]
    exact ⟨rfl, fun x hx => by cases hx⟩
  | i + 1, l, h => by
    obtain ⟨m, hm, hl⟩ := List.mem_flatMap.mp h
    obtain ⟨e, he, el⟩ := List.mem_map.mp hl
    have ih := evM_at i m hm
    have he' := List.mem_range.mp he
    subst el
    refine ⟨by rw [List.length_append, ih.1]; rfl, fun x hx => ?_⟩
    rcases List.mem_append.mp hx with hx | hx
    · exact ih.2 x hx
    · rw [List.mem_singleton.mp hx]
      omega
section
variable {P : Program} {w : World} {K : PySem.W.Frag} {mg : Str → Option Value} {base : Heap}
abbrev sEvery : Stmt := top 51
abbrev nEvery : List Str := ["_law_size", "_law_below", "_law_found", "_law_later", "_law_turn", "_law_line", "_law_each"]
theorem scEvery : FnScope nEvery ["_law_size", "_law_below"] (C8.fnScope sEvery) := C8.fnScope_by (by decide +kernel)
abbrev lnD (L : List (List Int)) : List PyData := L.map tupI
abbrev spEvery (K : PySem.W.Frag) : Sp := spF (fun a : Nat × Nat => a.1 ≤ 4 ∧ a.2 ≤ 4) (fun a => [intR (a.1 : Int), intR (a.2 : Int)]) fun a => dR K (.list (lnD (evM a.2 a.1)))
theorem c_every (F : Df K mg "_law_every_line" sEvery) (M : Md K mg) : C8.Cal P w K mg base 1 "_law_every_line" (spEvery K) [] :=
  pure_def F (fun _ _ _ _ _ _ us hl => match us, hl with | [_, _], _ => rfl) scEvery 5 rfl (fun _ => rfl) fun f a cdv A outer s H E hp hr => by
    obtain ⟨n, b⟩ := a
    obtain ⟨h1, h2⟩ := hp
    replace h1 : n ≤ 4 := h1
    replace h2 : b ≤ 4 := h2
    have nd := scEvery.nd
    have hlen : ∀ i, i ≤ 4 → (evM b i).length ≤ 256 := fun i hi => by
      rw [evM_len]
      calc b ^ i ≤ 4 ^ i := Nat.pow_le_pow_left h2 i
        _ ≤ 4 ^ 4 := Nat.pow_le_pow_right (by decide) hi
    show PSs _ _ (tXR [] [.is (intR (n : Int)), .is (intR (b : Int)), .no, .no, .no, .no, .no] (dR K (.list (lnD (evM b n)))))
    refine b_cons (n_set 2 (R := tlR K (lnD (evM b 0))) (x_lstT (ds := [.tuple []]) (xa_cons (x_tup (ds := []) xa_nil) xa_nil)) nd) ?_
    refine b_cons (n_for (ks := [4]) (n := n) (I := fun i => intR (i : Nat)) (fun i => [.is (intR (n : Int)), .is (intR (b : Int)), .is (tlR K (lnD (evM b i))), .no, .no, .no, .no])
      (fun i => [.is (intR (n : Int)), .is (intR (b : Int)), .is (tlR K (lnD (evM b i))), .no, .is (intR (i : Nat)), .no, .no])
      (xi_rg1 (x_v 0) M.range_ (by omega)) rfl rfl PassesOwn.never (fun i _ => so trivial) (fun i _ => so trivial) (fun i hi => xg_name 4 nd) fun i hi => ?_) (b_ret (x_dt (x_v 2)))
    have hL := hlen i (by omega)
    refine ns_eq (ns_forget 3 (ns_forget 4 (nc (n_set 3 (R := tlR K (lnD [])) (x_lstT (ds := []) xa_nil) nd) (nc (n_for (ks := [5]) (n := (evM b i).length) (I := fun j => dR K (tupI ((evM b i).getD j [])))
      (fun j => [.is (intR (n : Int)), .is (intR (b : Int)), .is (tlR K (lnD (evM b i))), .is (tlR K (lnD (((evM b i).take j).flatMap (stepM b)))), .is (intR (i : Nat)), .no, .no])
      (fun j => [.is (intR (n : Int)), .is (intR (b : Int)), .is (tlR K (lnD (evM b i))), .is (tlR K (lnD (((evM b i).take j).flatMap (stepM b)))), .is (intR (i : Nat)), .is (dR K (tupI ((evM b i).getD j []))), .no])
      (xi_listG (List.length_map ..) (fun j hj => nthD_of ?_) (x_dt (x_v 2))) rfl rfl PassesOwn.never (fun i _ => so trivial) (fun i _ => so trivial) (fun i hi => xg_name 5 nd) fun j hj => ?_) (ns_one (n_set 2 (R := tlR K (lnD (evM b (i + 1)))) ?_ nd)) (own1 (by exact trivial))) (own1 (by exact trivial))))) rfl
    · rw [List.getElem?_map, List.getElem?_eq_getElem hj, List.getD_eq_getElem?_getD, List.getElem?_eq_getElem hj]
      rfl
    · have e1 : ((evM b i).take (j + 1)).flatMap (stepM b) = ((evM b i).take j).flatMap (stepM b) ++ stepM b ((evM b i).getD j []) := by
        rw [List.take_succ, List.flatMap_append, List.getElem?_eq_getElem hj, List.getD_eq_getElem?_getD, List.getElem?_eq_getElem hj]
        simp
      rw [e1]
      refine ns_eq (ns_forget 5 (ns_one (n_set 3 (R := tlR K (lnD (((evM b i).take j).flatMap (stepM b) ++ stepM b ((evM b i).getD j [])))) ?_ nd))) rfl
      have e2 : lnD (((evM b i).take j).flatMap (stepM b) ++ stepM b ((evM b i).getD j [])) = lnD (((evM b i).take j).flatMap (stepM b)) ++ lcD b (fun _ => true) (fun e => .tuple (((evM b i).getD j []).map .int ++ [.int (e : Int)])) := by
        show List.map tupI _ = List.map tupI _ ++ _
        rw [List.map_append, lcD_all]
        unfold stepM
        rw [List.map_map]
        congr 1
        refine List.map_congr_left fun e _ => ?_
        show PyData.tuple _ = PyData.tuple _
        rw [List.map_append]
        rfl
      rw [e2]
      refine x_catL (Rs := [.is (intR (n : Int)), .is (intR (b : Int)), .is (tlR K (lnD (evM b i))), .is (tlR K (lnD (((evM b i).take j).flatMap (stepM b)))), .is (intR (i : Nat)), .is (dR K (tupI ((evM b i).getD j []))), .no]) (x_v 3) (x_lcT (n := b) (fun _ => true) (fun e => .tuple (((evM b i).getD j []).map .int ++ [.int (e : Int)])) (own := [("_law_each", 6)]) (ks := [6]) (I := fun e => intR (e : Nat))
        (fun e => [.is (intR (n : Int)), .is (intR (b : Int)), .is (tlR K (lnD (evM b i))), .is (tlR K (lnD (((evM b i).take j).flatMap (stepM b)))), .is (intR (i : Nat)), .is (dR K (tupI ((evM b i).getD j []))), .is (intR (e : Nat))]) rfl nd (xi_rg1 (x_v 1) M.range_ (by omega))
        (blkOk_by (own := [("_law_each", 6)]) (N := nEvery) (sc := C8.fnScope sEvery) (by decide +kernel)) (by omega) (nof (by exact trivial)) (fun i _ => nof (by exact trivial)) (w1 rfl) (by decide) (fun _ _ _ _ _ i hi => xg_name 6 nd) (fun _ _ _ _ _ i hi => ts_nil)
        (fun _ _ _ _ _ e he _ => x_catT (x_v 5) (x_tup (ds := [.int (e : Int)]) (xa_cons (x_ofI (x_v 6)) xa_nil)) ?_)) ?_
      · have hm : (evM b i).getD j [] ∈ evM b i := by
          rw [List.getD_eq_getElem?_getD, List.getElem?_eq_getElem hj]
          exact List.getElem_mem hj
        rw [List.length_map, (evM_at i _ hm).1]
        show i + 1 ≤ 100000
        omega
      · rw [List.length_map, flat_len, List.length_take, lcD_all, List.length_map, List.length_range]
        have : min j (evM b i).length * b ≤ 256 * 4 := Nat.mul_le_mul (by omega) h2
        omega
    · have e3 : evM b (i + 1) = ((evM b i).take (evM b i).length).flatMap (stepM b) := by
        rw [List.take_length]
        rfl
      rw [e3]
      exact x_v 3
end
end Bo
set_option maxHeartbeats 4000000
namespace Bo
open PySem L2
open PyProof.Rows (envOfC)
def fitM (ps : List Int) (k : Kd) (b : Nat) : List (List Int) := (evM b ps.length).filter fun l => decide (spM l k = some ps)
theorem lcD_lines (p : List Int → Bool) (L : List (List Int)) : lcD L.length (fun i => p (L.getD i [])) (fun i => tupI (L.getD i [])) = lnD (L.filter p) := by
  unfold lcD
  have e := congrArg (List.map tupI) (filter_ix p [] L)
  rw [List.map_map] at e
  exact e
theorem nthD_ln {L : List (List Int)} {i : Nat} (h : i < L.length) : nthD (lnD L) i = tupI (L.getD i []) := by
  refine nthD_of ?_
  rw [List.getElem?_map, List.getElem?_eq_getElem h, List.getD_eq_getElem?_getD, List.getElem?_eq_getElem h]
  rfl
theorem eqv_optT (o : Option (List Int)) (ps : List Int) : PyData.eqv (optT o) (tupI ps) = decide (o = some ps) := by
  cases o with
  | none => rfl
  | some s =>
    show PyData.eqvAll (s.map .int) (ps.map .int) = _
    rw [eqvAll_ints]
    exact decide_eq_decide.mpr ⟨fun h => by rw [h], fun h => Option.some.inj h⟩
theorem shaped_optT (o : Option (List Int)) : SeqAt.shaped (optT o) = true := by
  cases o with
  | none => rfl
  | some s => exact shaped_tupI s
section
variable {P : Program} {w : World} {K : PySem.W.Frag} {mg : Str → Option Value} {base : Heap}
abbrev sFit : Stmt := top 52
abbrev nFit : List Str := ["_law_spots_here", "_law_sort", "_law_below", "_law_line"]
theorem scFit : FnScope nFit ["_law_spots_here", "_law_sort", "_law_below"] (C8.fnScope sFit) := C8.fnScope_by (by decide +kernel)
abbrev spFit (K : PySem.W.Frag) : Sp := spF (fun a : List Int × Kd × Nat => pmOk a.1 ∧ a.2.2 ≤ 4) (fun a => [ptR K (a.1.map .int), strR a.2.1.s, intR (a.2.2 : Int)]) fun a => dR K (.list (lnD (fitM a.1 a.2.1 a.2.2)))
theorem c_fit (F : Df K mg "_law_fitting" sFit) (M : Md K mg) (c1 : C8.Cal P w K mg base 1 "_law_every_line" (spEvery K) []) (c2 : C8.Cal P w K mg base 2 "_law_spots" (spLSpots K) []) : C8.Cal P w K mg base 3 "_law_fitting" (spFit K) [] :=
  pure_def F (fun _ _ _ _ _ _ us hl => match us, hl with | [_, _, _], _ => rfl) scFit 1 rfl (fun _ => rfl) fun f a cdv A outer s H E hp hr => by
    obtain ⟨ps, k, b⟩ := a
    obtain ⟨h1, h2⟩ := hp
    replace h1 : pmOk ps := h1
    replace h2 : b ≤ 4 := h2
    have hl := pmOk_len h1
    have nd := scFit.nd
    show PSs _ _ (tXR [] [.is (ptR K (ps.map .int)), .is (strR k.s), .is (intR (b : Int)), .no] (dR K (.list (lnD (fitM ps k b)))))
    have hL : (evM b ps.length).length ≤ 256 := by
      rw [evM_len]
      calc b ^ ps.length ≤ 4 ^ ps.length := Nat.pow_le_pow_left h2 _
        _ ≤ 4 ^ 4 := Nat.pow_le_pow_right (by decide) hl.2
    refine b_ret (x_eqd (x_lc (n := (evM b ps.length).length) (fun i => decide (spM ((evM b ps.length).getD i []) k = some ps)) (fun i => tupI ((evM b ps.length).getD i [])) (own := [("_law_line", 3)]) (ks := [3]) (I := fun i => dR K (tupI ((evM b ps.length).getD i [])))
      (fun i => [.is (ptR K (ps.map .int)), .is (strR k.s), .is (intR (b : Int)), .is (dR K (tupI ((evM b ps.length).getD i [])))]) rfl nd
      (xi_listG (List.length_map ..) (fun j hj => nthD_ln hj) (x_call c1 (ps.length, b) hr (by decide) ⟨hl.2, h2⟩ (xa_cons (x_eI (x_lenT M.len (x_pt (x_v 0))) (by simp)) (xa_cons (x_v 2) xa_nil)))) (blkOk_by (own := [("_law_line", 3)]) (N := nFit) (sc := C8.fnScope sFit) (by decide +kernel)) (by omega) (nof trivial) (fun i _ => nof trivial) (w1 rfl) (by decide)
      (fun _ _ _ _ _ i hi => xg_name 3 nd) (fun _ _ _ _ _ i hi => ts_one (xt_is (xt_cmp (op_eqD hr.units) (ox_eqD (shaped_optT (spM ((evM b ps.length).getD i []) k)) (shaped_tupI ps)) (x_call c2 ((evM b ps.length).getD i [], k) hr (by decide) ?_ (xa_cons (x_v 3) (xa_cons (x_v 1) xa_nil))) (x_pt (x_v 0))) (eqv_optT _ _))) (fun _ _ _ _ _ i hi _ => x_v 3)) (congrArg PyData.list (lcD_lines (fun l => decide (spM l k = some ps)) (evM b ps.length))))
    have hm : (evM b ps.length).getD i [] ∈ evM b ps.length := by
      rw [List.getD_eq_getElem?_getD, List.getElem?_eq_getElem hi]
      exact List.getElem_mem hi
    show ((evM b ps.length).getD i []).length ≤ 4
    rw [(evM_at _ _ hm).1]
    exact hl.2
end
end Bo
set_option maxHeartbeats 4000000
/-! A dict that is walked: locked for one expression. -/
namespace Bo
open PySem L2
def fdR (kvs : List (Key × V)) : Rel := ⟨fun H v => ∃ a ob, v = .ref a ∧ H a = some (.frz ob (.dK kvs)), fun s ⟨a, ob, e, h⟩ => ⟨a, ob, e, s _ _ h⟩⟩
section
variable {X : Cx} {tg e : Expr} {Rs : Frm}
theorem xi_keysF {t : List (Int × Int)} (h : XE X e Rs (fdR (kI t))) : XI X tg e Rs t.length (fun i => intR (t.getD i (0, 0)).1) :=
  pi_imp (pi_keys h) fun σ H R ⟨Hv, ow, f, q⟩ => ⟨Hv, ow, f, fun v Hv1 H1 s1 f1 ⟨d, o, ev, hd⟩ => ⟨d, o, ev, .inl ⟨kI t, f1.sub _ _ hd, q (Itk d o (kI t)) (fun Hv => Hv d = some (.frz o (.dK (kI t)))) Hv1 H1 s1 f1
    ⟨fun s g => s _ _ g, fun i Hv2 H2 hi s g => ⟨s _ _ g, by rw [List.length_map]; exact hi⟩, fun i Hv2 H2 x H3 hi s g y => by
      obtain ⟨e1, k, v, e2, e3⟩ := y
      subst e1
      refine ⟨Hv2, .refl s, ?_⟩
      rw [List.getElem?_map, List.getElem?_eq_getElem hi] at e2
      have e4 := congrArg Prod.fst (Option.some.inj e2)
      have e5 : Sum.inl (t[i]).1 = k := e4
      show x = .int (t.getD i (0, 0)).1
      rw [e3, ← e5, List.getD_eq_getElem?_getD, List.getElem?_eq_getElem hi]
      rfl, fun Hv2 H2 s g => ⟨s _ _ g, by rw [List.length_map]; exact Nat.le_refl _⟩⟩ hd⟩⟩⟩
end
/-- u is a dict, locked or not -/
def IsDk (u : HO) : Prop := (∃ kvs, u = .dK kvs) ∨ ∃ o kvs, u = .frz o (.dK kvs)
/-- a relation that looks at no dict -/
def Lk (R : Rel) : Prop := ∀ (Hv : Hp) (d : Addr) (u u' : HO) (v : V), Hv d = some u → IsDk u → R.r Hv v → R.r (upd Hv d u') v
theorem lk_eq {w : V} : Lk (eqR w) := fun _ _ _ _ _ _ _ r => r
section
variable {K : PySem.W.Frag} {Hv : Hp} {d : Addr} {u u' : HO}
theorem rd_lk {a : Addr} {w : HO} (hd : Hv d = some u) (hu : IsDk u) (hw : ∀ kvs, w ≠ .dK kvs) (hw2 : ∀ o kvs, w ≠ .frz o (.dK kvs)) (h : Rd Hv a w) : Rd (upd Hv d u') a w := by
  have ne : a ≠ d := fun z => by
    subst z
    rcases hu with ⟨kvs, e⟩ | ⟨o, kvs, e⟩
    · subst e
      rcases h with h | ⟨o, h⟩
      · rw [hd] at h
        exact hw kvs (Option.some.inj h).symm
      · rw [hd] at h
        cases h
    · subst e
      rcases h with h | ⟨o, h⟩
      · rw [hd] at h
        exact hw2 o kvs (Option.some.inj h).symm
      · rw [hd] at h
        have e := Option.some.inj h
        injection e with _ e2
        exact hw kvs e2.symm
  rcases h with h | ⟨o, h⟩
  · exact .inl (by rw [upd_ne ne]; exact h)
  · exact .inr ⟨o, by rw [upd_ne ne]; exact h⟩
theorem sql_lk {a : Addr} {xs : List V} (hd : Hv d = some u) (hu : IsDk u) (h : SqL K Hv a xs) : SqL K (upd Hv d u') a xs := h.elim (fun h => .inl (rd_lk hd hu (fun _ z => by cases z) (fun _ _ z => by cases z) h)) .inr
theorem sqt_lk {a : Addr} {xs : List V} (hd : Hv d = some u) (hu : IsDk u) (h : SqT K Hv a xs) : SqT K (upd Hv d u') a xs := h.elim (fun h => .inl (rd_lk hd hu (fun _ z => by cases z) (fun _ _ z => by cases z) h)) .inr
mutual
theorem dp_lk (hd : Hv d = some u) (hu : IsDk u) : ∀ (p : PyData) (v : V), Dp K Hv v p → Dp K (upd Hv d u') v p
  | .none, _, h => by cases h; exact .non
  | .bool b, _, h => by cases h; exact .bl b
  | .int i, _, h => by cases h; exact .int i
  | .str x, _, h => by cases h; exact .str x
  | .list ds, _, h => by
    cases h with
    | lst hs ha => exact .lst (sql_lk hd hu hs) (dps_lk hd hu ds _ ha)
  | .tuple ds, _, h => by
    cases h with
    | tup hs ha => exact .tup (sqt_lk hd hu hs) (dps_lk hd hu ds _ ha)
  | .dict _, _, h => by cases h
theorem dps_lk (hd : Hv d = some u) (hu : IsDk u) : ∀ (ds : List PyData) (vs : List V), DpAll K Hv vs ds → DpAll K (upd Hv d u') vs ds
  | [], _, h => by cases h; exact .nil
  | p :: ps, _, h => by
    cases h with
    | cons h1 h2 => exact .cons (dp_lk hd hu p _ h1) (dps_lk hd hu ps _ h2)
end
theorem lk_d {p : PyData} : Lk (dR K p) := fun _ _ _ _ _ hd hu r => dp_lk hd hu p _ r
end
section
variable {X : Cx} {e : Expr} {Rs : Frm} {R : Rel}
theorem fr_swap {Hv H : Hp} {σ : St} {ow : Nat → Addr} {d : Addr} {u u' : HO} {i : Nat} {Ra Rb : Rel} (no : NoOwn Rs) (hi : Rs[i]? = some (.is Ra)) (hl : ∀ j R', j ≠ i → Rs[j]? = some (.is R') → Lk R') (f : Fr Hv H σ Rs ow) (hd : Hv d = some u) (hu : IsDk u) (hv : ∀ v, σ[i]? = some (some v) → Ra.r Hv v → Rb.r (upd Hv d u') v) : Fr (upd Hv d u') (upd H d u') σ (Rs.set i (.is Rb)) ow := by
  have lt := (List.getElem?_eq_some_iff.mp hi).1
  refine ⟨fun b o e => ?_, by rw [List.length_set]; exact f.len, fun j R e => ?_, fun j P e => ?_, fun j k P P' e e' => ?_⟩
  · by_cases hb : b = d
    · rw [hb, upd_same] at e ⊢
      exact e
    · rw [upd_ne hb] at e ⊢
      exact f.sub b o e
  · rw [set_get lt] at e
    by_cases h : i = j
    · rw [if_pos h] at e
      cases e
      subst h
      obtain ⟨v, g1, g2⟩ := f.get i _ hi
      exact ⟨v, g1, hv v g1 g2⟩
    · rw [if_neg h] at e
      obtain ⟨v, g1, g2⟩ := f.get j R e
      exact ⟨v, g1, hl j R (fun z => h z.symm) e Hv d u u' v hd hu g2⟩
  · rcases set_own e with ⟨_, z⟩ | e
    · cases z
    · exact (no j P e).elim
  · rcases set_own e with ⟨_, z⟩ | e
    · cases z
    · exact (no j P e).elim
/-- an expression, the dict of slot i locked -/
theorem x_lock (i : Nat) {kvs : List (Key × V)} (no : NoOwn Rs) (hi : Rs[i]? = some (.is (dcR kvs))) (hl : ∀ j R', j ≠ i → Rs[j]? = some (.is R') → Lk R') (hR : Lk R) (h : XE X e (Rs.set i (.is (fdR kvs))) R) : XE X e Rs R :=
  pe_imp (pe_lock h) fun σ H Q ⟨Hv, ow, f, q⟩ => by
    obtain ⟨v0, g1, d, ev, hd⟩ := f.get i _ hi
    have lt := (List.getElem?_eq_some_iff.mp hi).1
    refine ⟨d, .dK kvs, f.sub _ _ hd, trivial, fun od => ⟨upd Hv d (.frz od (.dK kvs)), ow, fr_swap no hi hl f hd (.inl ⟨kvs, rfl⟩) fun v gv r => ?_, fun v Hv2 H2 s2 f2 r2 => ?_⟩⟩
    · rw [g1] at gv
      cases gv
      exact ⟨d, od, ev, upd_same⟩
    · have hd2 : Hv2 d = some (.frz od (.dK kvs)) := s2.sv _ _ upd_same
      refine ⟨f2.sub _ _ hd2, ?_⟩
      have no2 : NoOwn (Rs.set i (.is (fdR kvs))) := fun j P e => by
        rcases set_own e with ⟨_, z⟩ | e
        · cases z
        · exact no j P e
      have hi2 : (Rs.set i (.is (fdR kvs)))[i]? = some (.is (fdR kvs)) := List.getElem?_set_self lt
      have f3 := fr_swap (u' := .dK kvs) (Rb := dcR kvs) no2 hi2 (fun j R' hj e => by
        rw [List.getElem?_set_ne fun z => hj z.symm] at e
        exact hl j R' hj e) f2 hd2 (.inr ⟨od, kvs, rfl⟩) fun v gv r => by
          rw [g1] at gv
          cases gv
          exact ⟨d, ev, upd_same⟩
      rw [set_back hi] at f3
      refine q v (upd Hv2 d (.dK kvs)) (upd H2 d (.dK kvs)) ⟨fun b o e n => ?_, fun b o e => ?_, fun b o e1 e2 n => ?_, fun b o e => ?_⟩ f3 (hR Hv2 d _ _ v hd2 (.inr ⟨od, kvs, rfl⟩) r2)
      · by_cases hb : b = d
        · rw [hb] at e ⊢
          rw [upd_same, ← f.sub _ _ hd]
          exact e
        · rw [upd_ne hb]
          exact s2.kp b o (by rw [upd_ne hb]; exact e) fun ⟨j, P, e', _⟩ => no2 j P e'
      · by_cases hb : b = d
        · rw [hb] at e ⊢
          rw [upd_same, ← hd]
          exact e
        · rw [upd_ne hb]
          exact s2.sv b o (by rw [upd_ne hb]; exact e)
      · have hb : b ≠ d := fun z => by
          rw [z, hd] at e1
          cases e1
        rw [upd_ne hb]
        exact s2.hid b o (by rw [upd_ne hb]; exact e1) (by rw [upd_ne hb]; exact e2) fun ⟨j, P, e', _⟩ => no2 j P e'
      · by_cases hb : b = d
        · rw [hb, upd_same]
          exact ⟨_, rfl⟩
        · rw [upd_ne hb]
          exact s2.th b o (by rw [upd_ne hb]; exact e)
end
end Bo
set_option maxHeartbeats 4000000
namespace Bo
open PySem L2
open PyProof.Rows (envOfC)
/-- a line that has the letters of a dict -/
def hasM (t : List (Int × Int)) (l : List Int) : Bool := t.all fun p => decide (l.getD p.1.toNat 0 = p.2)
def keM (L : List (List Int)) (t : List (Int × Int)) : List (List Int) := L.filter (hasM t)
/-- a dict of told letters: keys that are places, once each -/
def tdOk (n : Nat) (t : List (Int × Int)) : Prop := (∀ p ∈ t, 0 ≤ p.1 ∧ p.1 < n) ∧ (t.map (·.1)).Nodup ∧ t.length ≤ 4
theorem getI_at {t : List (Int × Int)} (nd : (t.map (·.1)).Nodup) {i : Nat} (hi : i < t.length) : getI t (t.getD i (0, 0)).1 = some (t.getD i (0, 0)).2 := by
  induction t generalizing i with
  | nil => exact absurd hi (Nat.not_lt_zero _)
  | cons p t ih =>
    have nd' := List.nodup_cons.mp nd
    unfold getI
    rw [List.find?_cons]
    cases i with
    | zero =>
      have h1 : decide (p.1 = (((p :: t).getD 0 (0, 0)).1)) = true := decide_eq_true rfl
      rw [h1]
      rfl
    | succ i =>
      have hi' : i < t.length := Nat.lt_of_succ_lt_succ hi
      have e : ((p :: t).getD (i + 1) (0, 0)) = t.getD i (0, 0) := by simp
      rw [e]
      have hm : (t.getD i (0, 0)).1 ∈ t.map (·.1) := by
        rw [List.getD_eq_getElem?_getD, List.getElem?_eq_getElem hi']
        exact List.mem_map.mpr ⟨_, List.getElem_mem hi', rfl⟩
      rw [decide_eq_false fun z : p.1 = (t.getD i (0, 0)).1 => nd'.1 (by show p.1 ∈ _; rw [z]; exact hm)]
      exact ih nd'.2 hi'
/-- d[k], d locked -/
theorem x_dgetF {X : Cx} {a b : Expr} {Rs : Frm} {pos : Pos} {kvs : List (Key × V)} {k : Key} {v : V} (hu : X.A.units + 1 < cLine) (ha : XE X a Rs (fdR kvs)) (hb : XE X b Rs (eqR (kV k))) (hv : valV kvs k = some v) (hs : NoSl b := by exact fun _ _ => rfl) : XE X (.Subscript a b pos) Rs (eqR v) :=
  pe_imp (pe_dget hu ha hb hs) fun σ H Q ⟨Hv, ow, f, q⟩ => ⟨Hv, ow, f, fun x Hv1 H1 s1 f1 ⟨d, ob, e1, h1⟩ => ⟨Hv1, ow, f1, fun y Hv2 H2 s2 f2 r2 => by
    have g : DGet H2 d y (some v) := by
      refine .inl ⟨kvs, k, .inr ⟨ob, f2.sub _ _ (s2.sv _ _ h1)⟩, r2, hv.symm⟩
    exact ⟨d, v, e1, g, q v Hv2 H2 (s1.trans s2) f2 rfl⟩⟩⟩
section
variable {P : Program} {w : World} {K : PySem.W.Frag} {mg : Str → Option Value} {base : Heap}
abbrev sKeep : Stmt := top 53
abbrev nKeep : List Str := ["_law_lines", "_law_told", "_law_line", "_law_k"]
theorem scKeep : FnScope nKeep ["_law_lines", "_law_told"] (C8.fnScope sKeep) := C8.fnScope_by (by decide +kernel)
abbrev okKe (a : List (List Int) × List (Int × Int)) : Prop := a.1.length ≤ 256 ∧ (∀ l ∈ a.1, ∀ p ∈ a.2, 0 ≤ p.1 ∧ p.1 < (l.length : Int)) ∧ (a.2.map (·.1)).Nodup ∧ a.2.length ≤ 4
abbrev spKeep (K : PySem.W.Frag) : Sp := spF okKe (fun a => [dR K (.list (lnD a.1)), dcR (kI a.2)]) fun a => dR K (.list (lnD (keM a.1 a.2)))
theorem c_keep (F : Df K mg "_law_keeping" sKeep) (M : Md K mg) : C8.Cal P w K mg base 1 "_law_keeping" (spKeep K) [] :=
  pure_def F (fun _ _ _ _ _ _ us hl => match us, hl with | [_, _], _ => rfl) scKeep 2 rfl (fun _ => rfl) fun f a cdv A outer s H E hp hr => by
    obtain ⟨L, t⟩ := a
    obtain ⟨h1, h2, h3, h4⟩ := hp
    replace h1 : L.length ≤ 256 := h1
    replace h2 : ∀ l ∈ L, ∀ p ∈ t, 0 ≤ p.1 ∧ p.1 < (l.length : Int) := h2
    replace h3 : (t.map (·.1)).Nodup := h3
    replace h4 : t.length ≤ 4 := h4
    have nd := scKeep.nd
    have hu : (A.deeper (envOfC "_law_keeping" (C8.fnScope sKeep) s.heap.objs.size f cdv)).units + 1 < cLine := by have := hr.units; omega
    show PSs _ _ (tXR [] [.is (dR K (.list (lnD L))), .is (dcR (kI t)), .no, .no] (dR K (.list (lnD (keM L t)))))
    have hb : ∀ l, (((List.range t.length).filter fun i => !decide (l.getD (t.getD i (0, 0)).1.toNat 0 = (t.getD i (0, 0)).2)).map fun i => (t.getD i (0, 0)).1).isEmpty = hasM t l := fun l => by
      rw [List.isEmpty_map]
      unfold hasM
      have e := congrArg List.isEmpty (congrArg (List.map id) (filter_ix (fun p : Int × Int => !decide (l.getD p.1.toNat 0 = p.2)) (0, 0) t))
      rw [List.map_map, List.isEmpty_map, List.isEmpty_map] at e
      rw [e]
      cases h : t.all fun p => decide (l.getD p.1.toNat 0 = p.2) with
      | true =>
        have hq : t.filter (fun p : Int × Int => !decide (l.getD p.1.toNat 0 = p.2)) = [] := List.filter_eq_nil_iff.mpr fun p hp => by
          have := List.all_eq_true.mp h p hp
          rw [this]
          exact Bool.false_ne_true
        rw [hq]
        rfl
      | false =>
        cases hq : t.filter (fun p : Int × Int => !decide (l.getD p.1.toNat 0 = p.2)) with
        | nil =>
          have := List.filter_eq_nil_iff.mp hq
          have ha : (t.all fun p => decide (l.getD p.1.toNat 0 = p.2)) = true := List.all_eq_true.mpr fun p hp => by
            have z := this p hp
            simpa using z
          rw [ha] at h
          cases h
        | cons p ps => rfl
    refine b_ret (x_lock 1 (nof (by exact trivial)) rfl (fun j R' hj e => ?_) lk_d ?_)
    · match j, hj, e with
      | 0, _, e =>
        cases e
        exact lk_d
      | 1, hj, _ => exact (hj rfl).elim
      | 2, _, e => cases e
      | 3, _, e => cases e
      | n + 4, _, e => cases e
    · refine x_eqd (x_lc (n := L.length) (fun i => hasM t (L.getD i [])) (fun i => tupI (L.getD i [])) (own := [("_law_line", 2), ("_law_k", 3)]) (ks := [2]) (I := fun i => dR K (tupI (L.getD i []))) (fun i => [.is (dR K (.list (lnD L))), .is (fdR (kI t)), .is (dR K (tupI (L.getD i []))), .no]) rfl nd
        (xi_listG (List.length_map ..) (fun j hj => nthD_ln hj) (x_v 0)) (blkOk_by (own := [("_law_line", 2), ("_law_k", 3)]) (N := nKeep) (sc := C8.fnScope sKeep) (by decide +kernel)) (by omega) (nof (by exact trivial)) (fun i _ => nof (by exact trivial)) (w2 rfl rfl) (by decide)
        (fun _ _ _ _ _ i hi => xg_name 2 nd) (fun _ _ _ _ _ i hi => ts_one ?_) (fun _ _ _ _ _ i hi _ => x_v 2)) (congrArg PyData.list (lcD_lines (hasM t) L))
      have hm : L.getD i [] ∈ L := by
        rw [List.getD_eq_getElem?_getD, List.getElem?_eq_getElem hi]
        exact List.getElem_mem hi
      have hlt := h2 _ hm
      generalize L.getD i [] = l at hlt
      refine xt_is (xt_cmp (op_eqD hr.units) (ox_eqD (shaped_lstI (((List.range t.length).filter fun i => !decide (l.getD (t.getD i (0, 0)).1.toNat 0 = (t.getD i (0, 0)).2)).map fun i => (t.getD i (0, 0)).1)) (shaped_fs [])) (x_eqd (x_lc (n := t.length) (fun i => !decide (l.getD (t.getD i (0, 0)).1.toNat 0 = (t.getD i (0, 0)).2)) (fun i => .int (t.getD i (0, 0)).1) (own := [("_law_k", 3)]) (ks := [3]) (I := fun i => intR (t.getD i (0, 0)).1)
        (fun i => [.is (dR K (.list (lnD L))), .is (fdR (kI t)), .is (dR K (tupI l)), .is (intR (t.getD i (0, 0)).1)]) rfl nd (xi_keysF (x_v 1)) (show BlkOk nKeep (relS _ (C8.fnScope sKeep)) _ [("_law_k", 3)] from blkOk_by (by decide +kernel)) (by omega) (nof (by exact trivial)) (fun i _ => nof (by exact trivial)) (w1 rfl) (by decide)
        (fun _ _ _ _ _ i hi => xg_name 3 nd) (fun _ _ _ _ _ i hi => ts_one ?_) (fun _ _ _ _ _ i hi _ => x_ofI (x_v 3))) (congrArg PyData.list (lcD_int _ fun _ _ => rfl))) (x_lst (ds := []) xa_nil)) (by rw [show PyData.eqv _ (.list (fsD [])) = _ from eqv_nil _, List.isEmpty_map]; exact hb l)
      have hm2 : t.getD i (0, 0) ∈ t := by
        rw [List.getD_eq_getElem?_getD, List.getElem?_eq_getElem hi]
        exact List.getElem_mem hi
      obtain ⟨q1, q2⟩ := hlt _ hm2
      obtain ⟨k, ek⟩ : ∃ k : Nat, (t.getD i (0, 0)).1 = (k : Int) := ⟨(t.getD i (0, 0)).1.toNat, (Int.toNat_of_nonneg q1).symm⟩
      have hk : k < l.length := by omega
      have en : (t.getD i (0, 0)).1.toNat = k := by omega
      rw [en]
      exact xt_neI (x_toI (x_ixT (i := k) (x_v 2) (x_eI (x_v 3) ek) (getI_int hk))) (x_dgetF (k := Sum.inl (t.getD i (0, 0)).1) (v := .int (t.getD i (0, 0)).2) hu (x_v 1) (x_v 3) (by rw [valV_kI, getI_at h3 hi]; rfl))
end
end Bo
set_option maxHeartbeats 4000000
/-! min, max of a list of ints; sorted of a dict of ints. -/
namespace Bo
open PySem L2
def minL : List Int → Int
  | [] => 0
  | [x] => x
  | x :: y :: r => min x (minL (y :: r))
def maxL : List Int → Int
  | [] => 0
  | [x] => x
  | x :: y :: r => max x (maxL (y :: r))
theorem minL_mem : ∀ {ns : List Int}, ns ≠ [] → minL ns ∈ ns ∧ ∀ y ∈ ns, minL ns ≤ y
  | [], h => (h rfl).elim
  | [x], _ => ⟨List.mem_singleton.mpr rfl, fun y hy => by rw [List.mem_singleton.mp hy]; exact Int.le_refl _⟩
  | x :: z :: r, _ => by
    obtain ⟨h1, h2⟩ := minL_mem (ns := z :: r) (by simp)
    show min x (minL (z :: r)) ∈ _ ∧ ∀ y ∈ x :: z :: r, min x (minL (z :: r)) ≤ y
    refine ⟨?_, fun y hy => ?_⟩
    · rcases Int.le_total x (minL (z :: r)) with h | h
      · rw [Int.min_eq_left h]
        exact List.mem_cons_self
      · rw [Int.min_eq_right h]
        exact List.mem_cons_of_mem _ h1
    · rcases List.mem_cons.mp hy with e | hy
      · rw [e]
        exact Int.min_le_left _ _
      · exact Int.le_trans (Int.min_le_right _ _) (h2 y hy)
theorem maxL_mem : ∀ {ns : List Int}, ns ≠ [] → maxL ns ∈ ns ∧ ∀ y ∈ ns, y ≤ maxL ns
  | [], h => (h rfl).elim
  | [x], _ => ⟨List.mem_singleton.mpr rfl, fun y hy => by rw [List.mem_singleton.mp hy]; exact Int.le_refl _⟩
  | x :: z :: r, _ => by
    obtain ⟨h1, h2⟩ := maxL_mem (ns := z :: r) (by simp)
    show max x (maxL (z :: r)) ∈ _ ∧ ∀ y ∈ x :: z :: r, y ≤ max x (maxL (z :: r))
    refine ⟨?_, fun y hy => ?_⟩
    · rcases Int.le_total x (maxL (z :: r)) with h | h
      · rw [Int.max_eq_right h]
        exact List.mem_cons_of_mem _ h1
      · rw [Int.max_eq_left h]
        exact List.mem_cons_self
    · rcases List.mem_cons.mp hy with e | hy
      · rw [e]
        exact Int.le_max_left _ _
      · exact Int.le_trans (h2 y hy) (Int.le_max_right _ _)
section
variable {X : Cx} {a : Expr} {Rs : Frm} {pos p : Pos}
theorem x_minL {ns : List Int} (hc : X.calm = true) (hm : X.mg "min" = none) (hn : ns ≠ []) (ha : XE X a Rs (dR X.K (.list (ns.map .int)))) (hg : Gl X "min" := by rfl) (h1 : starEach [a] X.env = [(false, eval a X.env)] := by rfl) : XE X (.Call (.Name "min" p) [a] [] pos) Rs (intR (minL ns)) :=
  x_callB (cr_min hc) (As := [dR X.K (.list (ns.map .int))]) (R := intR (minL ns)) (fun Hv H vs Q s h q => by
    obtain ⟨v, ev, h⟩ := h.one
    obtain ⟨b, xs, e, hs, g⟩ := dp_list h
    have ex := dpAll_ints g
    subst ex
    refine ⟨b, ns, by rw [ev, e], same_l s hs, List.length_pos_iff.mpr hn, fun m h1 h2 => ?_⟩
    obtain ⟨g1, g2⟩ := minL_mem hn
    have em : m = minL ns := Int.le_antisymm (h2 _ g1) (g2 _ h1)
    exact q _ Hv H (.refl s) (by rw [em]; rfl)) hm (by decide +kernel) (xa_cons ha xa_nil h1) hg (by decide) (by decide) h1 rfl
theorem x_maxL {ns : List Int} (hc : X.calm = true) (hm : X.mg "max" = none) (hn : ns ≠ []) (ha : XE X a Rs (dR X.K (.list (ns.map .int)))) (hg : Gl X "max" := by rfl) (h1 : starEach [a] X.env = [(false, eval a X.env)] := by rfl) : XE X (.Call (.Name "max" p) [a] [] pos) Rs (intR (maxL ns)) :=
  x_callB (cr_max hc) (As := [dR X.K (.list (ns.map .int))]) (R := intR (maxL ns)) (fun Hv H vs Q s h q => by
    obtain ⟨v, ev, h⟩ := h.one
    obtain ⟨b, xs, e, hs, g⟩ := dp_list h
    have ex := dpAll_ints g
    subst ex
    refine ⟨b, ns, by rw [ev, e], same_l s hs, List.length_pos_iff.mpr hn, fun m h1 h2 => ?_⟩
    obtain ⟨g1, g2⟩ := maxL_mem hn
    have em : m = maxL ns := Int.le_antisymm (g2 _ h1) (h2 _ g1)
    exact q _ Hv H (.refl s) (by rw [em]; rfl)) hm (by decide +kernel) (xa_cons ha xa_nil h1) hg (by decide) (by decide) h1 rfl
end
end Bo
set_option maxHeartbeats 4000000
namespace Bo
open PySem L2
open PyProof.Rows (envOfC)
theorem range_getD {α β : Type} (g : α → β) (d : α) : ∀ L : List α, (List.range L.length).map (fun i => g (L.getD i d)) = L.map g
  | [] => rfl
  | x :: L => by
    rw [List.length_cons, List.range_succ_eq_map, List.map_cons, List.map_map, List.map_cons, ← range_getD g d L]
    congr 1
def colM (L : List (List Int)) (k : Nat) : List Int := L.map fun l => l.getD k 0
def spnM (L : List (List Int)) (n : Nat) : List PyData := (List.range n).map fun k => spPair (minL (colM L k)) (maxL (colM L k))
section
variable {P : Program} {w : World} {K : PySem.W.Frag} {mg : Str → Option Value} {base : Heap}
abbrev sSpn : Stmt := top 54
abbrev nSpn : List Str := ["_law_lines", "_law_k", "_law_line"]
theorem scSpn : FnScope nSpn ["_law_lines"] (C8.fnScope sSpn) := C8.fnScope_by (by decide +kernel)
abbrev okSpn (a : List (List Int) × Nat) : Prop := a.1 ≠ [] ∧ a.1.length ≤ 256 ∧ (∀ l ∈ a.1, l.length = a.2) ∧ a.2 ≤ 4
abbrev spSpn (K : PySem.W.Frag) : Sp := spF okSpn (fun a => [dR K (.list (lnD a.1))]) fun a => dR K (.tuple (spnM a.1 a.2))
theorem c_spn (F : Df K mg "_law_spans" sSpn) (M : Md K mg) : C8.Cal P w K mg base 1 "_law_spans" (spSpn K) [] :=
  pure_def F (fun _ _ _ _ _ _ us hl => match us, hl with | [_], _ => rfl) scSpn 2 rfl (fun _ => rfl) fun f a cdv A outer s H E hp hr => by
    obtain ⟨L, n⟩ := a
    obtain ⟨h1, h2, h3, h4⟩ := hp
    replace h1 : L ≠ [] := h1
    replace h2 : L.length ≤ 256 := h2
    replace h3 : ∀ l ∈ L, l.length = n := h3
    replace h4 : n ≤ 4 := h4
    have nd := scSpn.nd
    have ne : ∀ k, colM L k ≠ [] := fun k z => h1 (List.map_eq_nil_iff.mp z)
    have e0 : (lnD L)[0]? = some (tupI (L.headD [])) := by
      cases L with
      | nil => exact (h1 rfl).elim
      | cons l L => rfl
    have l0 : (L.headD []).length = n := by
      cases L with
      | nil => exact (h1 rfl).elim
      | cons l L => exact h3 l List.mem_cons_self
    have ec : ∀ k, lcD L.length (fun _ => true) (fun i => PyData.int ((L.getD i []).getD k 0)) = (colM L k).map .int := fun k => by
      rw [lcD_all]
      unfold colM
      rw [List.map_map]
      exact range_getD (fun l : List Int => PyData.int (l.getD k 0)) [] L
    have hget : ∀ i, i < L.length → (L.getD i []).length = n := fun i hi => by
      rw [List.getD_eq_getElem?_getD, List.getElem?_eq_getElem hi]
      exact h3 _ (List.getElem_mem hi)
    show PSs _ _ (tXR [] [.is (dR K (.list (lnD L))), .no, .no] (dR K (.tuple (spnM L n))))
    refine b_ret (x_tupOf (.inl rfl) M.tuple_ (x_eqd (x_lc (n := n) (fun _ => true) (fun k => spPair (minL (colM L k)) (maxL (colM L k))) (own := [("_law_k", 1), ("_law_line", 2)]) (ks := [1]) (I := fun k => intR (k : Nat))
      (fun k => [.is (dR K (.list (lnD L))), .is (intR (k : Nat)), .no]) rfl nd (xi_rg1 (x_eI (x_lenT M.len (x_ixL (i := 0) (x_v 0) x_int e0)) (by rw [List.length_map, l0])) M.range_ (by omega))
      (blkOk_by (own := [("_law_k", 1), ("_law_line", 2)]) (N := nSpn) (sc := C8.fnScope sSpn) (by decide +kernel)) (by omega) (nof (by exact trivial)) (fun i _ => nof (by exact trivial)) (w2 rfl rfl) (by decide)
      (fun _ _ _ _ _ i hi => xg_name 1 nd) (fun _ _ _ _ _ i hi => ts_nil) (fun _ _ _ _ _ k hk _ => x_tup (ds := [.int (minL (colM L k)), .int (maxL (colM L k))]) (xa_cons (x_ofI (x_minL rfl M.min_ (ne k) ?_)) (xa_cons (x_ofI (x_maxL rfl M.max_ (ne k) ?_)) xa_nil)))) (congrArg PyData.list lcD_all)))
    · exact x_eqd (x_lc (n := L.length) (fun _ => true) (fun i => .int ((L.getD i []).getD k 0)) (own := [("_law_line", 2)]) (ks := [2]) (I := fun i => dR K (tupI (L.getD i [])))
        (fun i => [.is (dR K (.list (lnD L))), .is (intR (k : Nat)), .is (dR K (tupI (L.getD i [])))]) rfl nd (xi_listG (List.length_map ..) (fun j hj => nthD_ln hj) (x_v 0))
        (show BlkOk nSpn (relS _ (C8.fnScope sSpn)) _ [("_law_line", 2)] from blkOk_by (by decide +kernel)) (by omega) (nof (by exact trivial)) (fun i _ => nof (by exact trivial)) (w1 rfl) (by decide)
        (fun _ _ _ _ _ i hi => xg_name 2 nd) (fun _ _ _ _ _ i hi => ts_nil) (fun _ _ _ _ _ i hi _ => x_ixT (i := k) (x_v 2) (x_v 1) (getI_int (by rw [hget i hi]; exact hk)))) (congrArg PyData.list (ec k))
    · exact x_eqd (x_lc (n := L.length) (fun _ => true) (fun i => .int ((L.getD i []).getD k 0)) (own := [("_law_line", 2)]) (ks := [2]) (I := fun i => dR K (tupI (L.getD i [])))
        (fun i => [.is (dR K (.list (lnD L))), .is (intR (k : Nat)), .is (dR K (tupI (L.getD i [])))]) rfl nd (xi_listG (List.length_map ..) (fun j hj => nthD_ln hj) (x_v 0))
        (show BlkOk nSpn (relS _ (C8.fnScope sSpn)) _ [("_law_line", 2)] from blkOk_by (by decide +kernel)) (by omega) (nof (by exact trivial)) (fun i _ => nof (by exact trivial)) (w1 rfl) (by decide)
        (fun _ _ _ _ _ i hi => xg_name 2 nd) (fun _ _ _ _ _ i hi => ts_nil) (fun _ _ _ _ _ i hi _ => x_ixT (i := k) (x_v 2) (x_v 1) (getI_int (by rw [hget i hi]; exact hk)))) (congrArg PyData.list (ec k))
end
end Bo
set_option maxHeartbeats 4000000
/-! Hidden lists of seen things, hidden dicts, tests that change hidden objects, more forms of assignment. -/
namespace Bo
open PySem PySem.Spec L2
open PyProof.Rows hiding St
theorem set_same {Rs : Frm} {i : Nat} {e : Ent} (hi : Rs[i]? = some e) : Rs.set i e = Rs := by
  obtain ⟨lt, h⟩ := List.getElem?_eq_some_iff.mp hi
  rw [← h]
  exact List.set_getElem_self lt
/-! ### hidden lists of seen things -/
def ownLs (Ds : List Rel) : Own := ⟨fun H o => ∃ xs, o = .lst xs ∧ AllR H xs Ds, fun s ⟨xs, e, h⟩ => ⟨xs, e, AllR.mono s h⟩⟩
theorem allR_snoc {H : Hp} {D : Rel} {v : V} (r : D.r H v) : ∀ {xs : List V} {Ds : List Rel}, AllR H xs Ds → AllR H (xs ++ [v]) (Ds ++ [D])
  | [], [], _ => ⟨r, trivial⟩
  | _ :: _, _ :: _, ⟨h1, h2⟩ => ⟨h1, allR_snoc r h2⟩
  | [], _ :: _, h => h.elim
  | _ :: _, [], h => h.elim
theorem allR_last {H : Hp} {D : Rel} : ∀ {xs : List V} {Ds : List Rel}, AllR H xs (Ds ++ [D]) → ∃ ys v, xs = ys ++ [v] ∧ AllR H ys Ds ∧ D.r H v
  | [], [], h => h.elim
  | [x], [], h => ⟨[], x, rfl, trivial, h.1⟩
  | _ :: _ :: _, [], h => h.2.elim
  | [], _ :: _, h => h.elim
  | x :: xs, R :: Ds, ⟨h1, h2⟩ => by
    obtain ⟨ys, v, e, a, b⟩ := allR_last (xs := xs) (Ds := Ds) h2
    exact ⟨x :: ys, v, by rw [e] <;> rfl, ⟨h1, a⟩, b⟩
section
variable {X : Cx} {e ix a b : Expr} {es : List Expr} {Rs : Frm} {R : Rel} {x : Str} {px p pos apos cpos : Pos}
theorem x_ownLenR (i : Nat) {Ds : List Rel} (hm : X.mg "len" = none) (hi : Rs[i]? = some (.own (ownLs Ds))) (hg : Gl X "len" := by rfl) (hN : X.N[i]? = some x := by rfl) (hv : Vis X.env.scope x := by first | exact Or.inl rfl | exact Or.inr (Or.inl rfl) | exact Or.inr (Or.inr rfl)) (hd : (x == ("__debug__" : Str)) = false := by decide)
    (hcd : (x == ("__classdict__" : Str)) = false := by decide) (h1 : starEach [Expr.Name x px] X.env = [(false, eval (.Name x px) X.env)] := by rfl) : XE X (.Call (.Name "len" p) [.Name x px] [] pos) Rs (intR Ds.length) :=
  pe_imp (pe_callB call_len_seq hg hm PySem.boot_len (pa_cons (pv i hN hv hd hcd) pa_nil h1) (by decide) (by decide) h1 rfl) fun σ H Q ⟨Hv, ow, f, q⟩ => by
    obtain ⟨g1, _, u, h3, xs, e, h5⟩ := f.own i _ hi
    subst e
    exact ⟨_, g1, ow i, xs, rfl, .inl (.inl (.inl h3)), q _ Hv H .refl f (by rw [h5.length] <;> rfl)⟩
/-- xs[-1] -/
theorem x_ownLastR (i : Nat) {Ds : List Rel} {D : Rel} (hi : Rs[i]? = some (.own (ownLs (Ds ++ [D])))) (hx : XE X ix Rs (intR (-1))) (hN : X.N[i]? = some x := by rfl) (hv : Vis X.env.scope x := by first | exact Or.inl rfl | exact Or.inr (Or.inl rfl) | exact Or.inr (Or.inr rfl)) (hd : (x == ("__debug__" : Str)) = false := by decide)
    (hcd : (x == ("__classdict__" : Str)) = false := by decide) (hs : PlainIx ix := by exact fun _ _ => rfl) : XE X (.Subscript (.Name x px) ix pos) Rs D :=
  pe_imp (pe_ix ix_list (pv i hN hv hd hcd) hx hs) fun σ H Q ⟨Hv, ow, f, q⟩ => by
    obtain ⟨g1, _⟩ := f.own i _ hi
    refine ⟨_, g1, Hv, ow, f, fun w Hv2 H2 s2 f2 r2 => ?_⟩
    obtain ⟨_, _, u, h3, xs, e, h5⟩ := f2.own i _ hi
    subst e
    obtain ⟨ws, v, e1, _, e2⟩ := allR_last h5
    subst e1
    exact ⟨ow i, _, -1, v, rfl, r2, .inl (.inl h3), atI_last ws v, q v Hv2 H2 s2 f2 e2⟩
theorem mo_appendR {Ds : List Rel} {D : Rel} (hl : Ds.length < 100000) : MtO rAppend (ownLs Ds) (ownLs (Ds ++ [D])) [D] := fun Hv H l u vs Q h1 h2 ⟨xs, e, h3⟩ r q => by
  subst e
  obtain ⟨v, ev, r'⟩ := AllR.one r
  subst ev
  refine ⟨l, xs, v, rfl, rfl, h2, ?_, q _ _ ⟨_, rfl, allR_snoc r' h3⟩⟩
  rw [h3.length]
  exact Nat.lt_of_lt_of_le hl (by decide)
theorem ty_ownLs {K : PySem.W.Frag} {Ds : List Rel} : ∀ (Hv H : Hp) (l : Addr) (u : HO), H l = some u → (ownLs Ds).p Hv u → tyV K "list" (.ref l) H := fun Hv H l u h ⟨xs, e, _⟩ => .inl ⟨rfl, xs, .inl (.inl (by rw [h, e]))⟩
theorem n_appendR (i : Nat) {Ds : List Rel} {D : Rel} (hi : Rs[i]? = some (.own (ownLs Ds))) (ha : XE X e Rs D) (hl : Ds.length < 100000) (hN : X.N[i]? = some x := by rfl) (hv : Vis X.env.scope x := by first | exact Or.inl rfl | exact Or.inr (Or.inl rfl) | exact Or.inr (Or.inr rfl)) (hd : (x == ("__debug__" : Str)) = false := by decide)
    (hcd : (x == ("__classdict__" : Str)) = false := by decide) (hsw : swapsWith (.Call (.Attribute (.Name x px) "append" apos) [e] [] cpos) none pos.line X.env = pure false := by rfl) (hbase : attributeBase (.Name x px) "append" X.env (eval (.Name x px) X.env) = eval (.Name x px) X.env := by rfl)
    (hfew : ((backTo cpos (starEach [e] X.env)).all (fun x => !x.1) && (backToKw cpos (keywordEach [] X.env)).all (fun x => x.1.isSome)
      && decide ([e].length + ([] : List Keyword).length + (if ([] : List Keyword).isEmpty then 0 else 1) < 30)) = true := by rfl)
    (hline : (apos.endLine == cpos.line) = true := by rfl) (hs : starEach [e] X.env = [(false, eval e X.env)] := by rfl) : XN X (.Expr (.Call (.Attribute (.Name x px) "append" apos) [e] [] cpos) pos) Rs (Rs.set i (.own (ownLs (Ds ++ [D])))) :=
  n_mtO i hi PySem.F.plainAttrs_list PySem.F.slot_list_append PySem.F.type_list_append mt_append (mo_appendR hl) ty_ownLs (pv i hN hv hd hcd) (xa_cons ha xa_nil hs) hsw hbase hfew hline hs rfl
/-- xs.pop() -/
theorem n_popR (i : Nat) {Ds : List Rel} {D : Rel} (hi : Rs[i]? = some (.own (ownLs (Ds ++ [D])))) (hN : X.N[i]? = some x := by rfl) (hv : Vis X.env.scope x := by first | exact Or.inl rfl | exact Or.inr (Or.inl rfl) | exact Or.inr (Or.inr rfl)) (hd : (x == ("__debug__" : Str)) = false := by decide)
    (hcd : (x == ("__classdict__" : Str)) = false := by decide) (hsw : swapsWith (.Call (.Attribute (.Name x px) "pop" apos) [] [] cpos) none pos.line X.env = pure false := by rfl) (hbase : attributeBase (.Name x px) "pop" X.env (eval (.Name x px) X.env) = eval (.Name x px) X.env := by rfl)
    (hline : (apos.endLine == cpos.line) = true := by rfl) : XN X (.Expr (.Call (.Attribute (.Name x px) "pop" apos) [] [] cpos) pos) Rs (Rs.set i (.own (ownLs Ds))) :=
  ps_imp (ps_expr (pe_bm0 PySem.F.plainAttrs_list PySem.F.slot_list_pop PySem.F.type_list_pop mt_pop (pv i hN hv hd hcd) hbase hline) hsw) fun D' σ H ⟨Hv, ow, f, q⟩ => by
    obtain ⟨g1, _, u, h3, h4⟩ := f.own i _ hi
    have ty := ty_ownLs (K := X.K) Hv H _ u h3 h4
    obtain ⟨xs, e, h5⟩ := h4
    subst e
    obtain ⟨ws, v, e1, a1, _⟩ := allR_last h5
    subst e1
    refine ⟨_, g1, ty, ow i, ws ++ [v], v, rfl, rfl, h3, by simp, ?_⟩
    rw [List.dropLast_concat]
    exact q σ Hv _ ow (sts_put f hi) (f.put hi ⟨ws, rfl, a1⟩)
/-- [e, ..], hidden -/
theorem o_lstR {Ds : List Rel} (h : XA X es Rs Ds) (hl : Ds.length ≤ 100000 := by exact Nat.le_of_ble_eq_true rfl) : XO X (.List es pos) Rs (ownLs Ds) := pe_imp (pe_lst h) fun σ H Q ⟨Hv, ow, f, q⟩ => ⟨Hv, ow, f, fun vs Hv1 H1 s1 f1 r => by
  have e := r.length
  refine ⟨Nat.le_trans (by omega : vs.length ≤ 100000) (by decide), fun p hp => ?_⟩
  have vp : Hv1 p = none := f1.sub.free hp
  have h0 : H p = none := by
    cases hq : H p with
    | none => rfl
    | some o =>
      obtain ⟨o', e'⟩ := s1.th p o hq
      rw [e'] at hp
      cases hp
  have a : Al Hv1 H1 Hv1 (upd H1 p (.lst vs)) := al_hid f1.sub hp
  exact q p _ Hv1 _ (s1.trans a.stp) (f1.al a) h0 vp upd_same ⟨vs, rfl, r⟩⟩
/-- {} -/
theorem x_dict0 : XE X (.Dict [] [] pos) Rs (dcR []) := pe_imp pe_dnewK fun σ H Q ⟨Hv, ow, f, q⟩ p hp => by
  have a := Al.new (o := .dK []) f.sub hp
  exact q _ _ _ a.stp (f.al a) ⟨p, rfl, upd_same⟩
/-! ### hidden dicts -/
/-- dict(d) -/
theorem o_dictOf {kvs : List (Key × V)} (hm : X.mg "dict" = none) (ha : XE X a Rs (dcR kvs)) (hg : Gl X "dict" := by rfl) (h1 : starEach [a] X.env = [(false, eval a X.env)] := by rfl) : XO X (.Call (.Name "dict" p) [a] [] pos) Rs (ownDc kvs) :=
  pe_imp (pe_callTy call_dictD hg hm (by decide +kernel) (xa_cons ha xa_nil h1) (by decide) (by decide) h1 rfl) fun σ H Q ⟨Hv, ow, f, q⟩ => ⟨Hv, ow, f, fun vs Hv1 H1 s1 f1 r1 => by
    obtain ⟨v, ev, b, eb, hb⟩ := AllR.one r1
    refine ⟨b, kvs, by rw [ev, eb], .inl (f1.sub _ _ hb), fun p hp => ?_⟩
    have vp : Hv1 p = none := f1.sub.free hp
    have h0 : H p = none := by
      cases hq : H p with
      | none => rfl
      | some o =>
        obtain ⟨o', e'⟩ := s1.th p o hq
        rw [e'] at hp
        cases hp
    have al : Al Hv1 H1 Hv1 (upd H1 p (.dK kvs)) := al_hid f1.sub hp
    exact q p _ Hv1 _ (s1.trans al.stp) (f1.al al) h0 vp upd_same rfl⟩
/-- d.pop(k, None), d hidden -/
theorem x_popF (i : Nat) {t : List (Int × Int)} {k : Int} {j pn} (hi : Rs[i]? = some (.own (ownDc (kI t)))) (hk : XE X a Rs (intR k)) (m : M2 X (.Name x px) "pop" apos a (.Constant .none j pn) cpos) (hN : X.N[i]? = some x := by rfl) (hv : Vis X.env.scope x := by first | exact Or.inl rfl | exact Or.inr (Or.inl rfl) | exact Or.inr (Or.inr rfl)) (hd : (x == ("__debug__" : Str)) = false := by decide)
    (hcd : (x == ("__classdict__" : Str)) = false := by decide) : XF X (.Call (.Attribute (.Name x px) "pop" apos) [a, .Constant .none j pn] [] cpos) Rs (Rs.set i (.own (ownDc (kI (dropI t k))))) (eqR (match getI t k with | some v => .int v | none => .non)) :=
  pe_imp (pe_dpop2 (pv i hN hv hd hcd) hk pe_non m) fun σ H Q ⟨Hv, ow, f, q⟩ => by
    obtain ⟨g1, _, u, h3, h4⟩ := f.own i _ hi
    have eu : u = .dK (kI t) := h4
    subst eu
    refine ⟨_, g1, ow i, rfl, .inl ⟨kI t, .inl h3⟩, Hv, ow, f, fun y Hv2 H2 s2 f2 r2 => ?_⟩
    obtain ⟨_, _, u2, g3, g4⟩ := f2.own i _ hi
    have eu2 : u2 = .dK (kI t) := g4
    subst eu2
    have sp : Stp Hv2 H2 Rs ow Hv2 (upd H2 (ow i) (.dK (kI (dropI t k)))) := (sts_put (P' := ownDc (kI (dropI t k))) f2 hi).toStp
    refine ⟨kI t, .inl k, g3, r2, fun v hv' => ?_, fun hn => ?_⟩
    · rw [dropK_kI]
      refine q v Hv2 _ (s2.trans sp) (f2.put hi rfl) ?_
      rw [valV_kI] at hv'
      cases hg : getI t k with
      | none => rw [hg] at hv'; cases hv'
      | some w =>
        rw [hg] at hv'
        exact (Option.some.inj hv').symm
    · have hg : getI t k = none := by
        rw [valV_kI] at hn
        cases hg : getI t k with
        | none => rfl
        | some w => rw [hg] at hn; cases hn
      have ed : dropI t k = t := by
        unfold dropI
        refine List.filter_eq_self.mpr fun p hp => ?_
        unfold getI at hg
        have := List.find?_eq_none.mp (Option.map_eq_none_iff.mp hg) p hp
        simpa using this
      rw [ed, set_same hi] at q
      refine q _ Hv2 H2 s2 f2 ?_
      rw [hg]
      exact rfl
/-- d[k] = v, d hidden -/
theorem n_dputO (i : Nat) {t : List (Int × Int)} {k v : Int} {c : Expr} {tpos : Pos} (hu : X.A.units + 1 < cLine) (hi : Rs[i]? = some (.own (ownDc (kI t)))) (hv' : XE X c Rs (intR v)) (hk : XE X a Rs (intR k)) (hl : t.length < 1000) (hN : X.N[i]? = some x := by rfl) (hv : Vis X.env.scope x := by first | exact Or.inl rfl | exact Or.inr (Or.inl rfl) | exact Or.inr (Or.inr rfl)) (hd : (x == ("__debug__" : Str)) = false := by decide)
    (hcd : (x == ("__classdict__" : Str)) = false := by decide) (hs : swapsWith c (some (.Subscript (.Name x px) a tpos)) pos.line X.env = pure false := by rfl) : XN X (.Assign [.Subscript (.Name x px) a tpos] c pos) Rs (Rs.set i (.own (ownDc (kI (putI t k v))))) :=
  ps_imp (ps_dput hu (pv i hN hv hd hcd) hk hv' hs) fun D σ H ⟨Hv, ow, f, q⟩ => ⟨Hv, ow, f, fun y Hv1 H1 s1 f1 r1 => by
    obtain ⟨g1, _⟩ := f1.own i _ hi
    refine ⟨_, g1, Hv1, ow, f1, fun z Hv2 H2 s2 f2 r2 => ?_⟩
    obtain ⟨_, _, u2, g3, g4⟩ := f2.own i _ hi
    have eu2 : u2 = .dK (kI t) := g4
    subst eu2
    refine ⟨ow i, upd H2 (ow i) (.dK (kI (putI t k v))), rfl, ?_, q σ Hv2 _ ow ((StS.of (s1.trans s2)).trans (sts_put f2 hi) fun j Q Q2 e _ => ⟨Q, e⟩) (f2.put hi rfl)⟩
    rw [show z = kV (.inl k) from r2, show y = .int v from r1, ← putK_kI]
    refine DPut.k g3 ?_
    rw [List.length_map]
    exact Nat.lt_of_lt_of_le hl (by decide)⟩
end
end Bo
set_option maxHeartbeats 4000000
/-! sorted(dict of ints), d != {}, [d] == [{}]; what is hidden comes to be seen; tests that change hidden objects. -/
namespace Bo
open PySem PySem.Spec L2
open PyProof.Rows hiding St
section
variable {X : Cx}
def rSrtKeys : List V → Hp → VK → Prop := fun xs H Q => ∃ (a : Addr) (t : List (Int × Int)), xs = [V.ref a] ∧ Rd H a (.dK (kI t)) ∧ t.length < 64 ∧
  ∀ (ns : List Int) (p : Addr), ns.Perm (t.map (·.1)) → ns.Pairwise (· ≤ ·) → H p = none → Q (.ref p) (upd H p (.lst (ns.map V.int)))
theorem cr_srtKeys (hcalm : X.calm = true) : CallR X (.builtin "sorted") rSrtKeys := by
  intro pins s σ H xs us Q I r ⟨a, t, ex, hd, h64, q⟩
  subst ex
  obtain ⟨u, eu, rx⟩ := vals1 r
  subst eu
  cases rx
  obtain ⟨z, lo, vs, rel, dd⟩ := dk_rd I.hok hd
  obtain ⟨ep, hat⟩ := dd.dictAt
  have hkeys : vs.map (·.1) = (t.map (·.1)).map Sum.inl := by
    rw [← rel.keys]
    unfold kI
    rw [List.map_map, List.map_map]
    rfl
  have hl : vs.length = (t.map (·.1)).length := by
    have e := congrArg List.length hkeys
    rw [List.length_map, List.length_map] at e
    exact e
  have hlt : (t.map (·.1)).length < 64 := by rw [List.length_map]; exact h64
  have h16 : vs.length ≤ sizeLine := by rw [hl, sizeLine_eq]; omega
  refine Calls.call_function_entry PyProof.Rows.kind_sorted PyProof.Rows.plain_sorted PyProof.Rows.entry_sorted (PyProof.Rows.args_sorted1 _) ?_
  unfold Builtin.«sorted»
  refine wpAny_bind (m := checkCount "sorted" 1 1 _) (wpAny_pure ?_)
  refine wpAny_bind (PySem.W.kdu_collect (A := X.A.in1) (PySem.W.kdl_dict (knd := mixKind X.prog X.w) (kvs := vs) (ep := ep) lo) (I.ok.hd hcalm) hat h16 fun h' tk acc hk hacc => ?_)
  have hal : acc.toList.length = (t.map (·.1)).length := by rw [Array.length_toList, hacc.1, hl]
  have hI : IntsAre acc.toList (t.map (·.1)) := by
    have g : ∀ (us : List Value) (ns : List Int), us.length = ns.length → (∀ (j : Nat) (v : Value), us[j]? = some v → ∃ n tk, ns[j]? = some n ∧ v = Value.int n tk) → IntsAre us ns := by
      intro us
      induction us with
      | nil =>
        intro ns hn _
        cases ns with
        | nil => exact .nil
        | cons n ns => cases hn
      | cons v us ih =>
        intro ns hn h
        cases ns with
        | nil => cases hn
        | cons n ns =>
          obtain ⟨m, tk, e1, e2⟩ := h 0 v rfl
          cases e1
          subst e2
          exact .cons _ tk (ih ns (Nat.succ.inj hn) fun j w e => h (j + 1) w e)
    refine g _ _ hal fun j v e => ?_
    obtain ⟨k, x, e1, e2⟩ := hacc.2 j v (by rw [← Array.getElem?_toList]; exact e)
    have e3 : (vs.map (·.1))[j]? = some k := by rw [List.getElem?_map, e1] <;> rfl
    rw [hkeys, List.getElem?_map] at e3
    cases e4 : (t.map (·.1))[j]? with
    | none => rw [e4] at e3; cases e3
    | some y =>
      rw [e4] at e3
      have e5 : Sum.inl y = k := Option.some.inj e3
      subst e5
      obtain ⟨tk2, ev⟩ := Value.isInt_shape (k := y) (v := v) e2
      exact ⟨y, tk2, rfl, ev⟩
  have I1 : Inv X pins σ H { s with heap := h', toks := tk } := I.kept hk
  refine wpAny_bind (wpAny_newList ?_ (by rw [hal, sizeLine_eq]; omega))
  have hoL : (h'.push (seqObj "list" acc.toList.toArray 0)).get? h'.objs.size = some (seqObj "list" acc.toList.toArray 0) := Heap.get?_push_size _ rfl
  show wpAny _ _ _ _ _ { s with heap := h'.push (seqObj "list" acc.toList.toArray 0), toks := tk }
  refine wpAny_bind (wpAny_holding (wpAny_call_entry PyProof.Rows.slot_list_sort ⟨_, hoL, rfl⟩ PyProof.Rows.entry_list_sort
    (PyProof.Rows.list_sort_tree hoL hI (by rw [hal]; exact hlt) fun out ns' h1 h2 h3 => ⟨_, rfl, ?_⟩) (PyProof.Rows.args_list_sort _)))
  obtain ⟨e', he'⟩ := PyProof.Rows.sortedHeap_at (vs := acc.toList) (out := out) hoL
  have hlen : (ns'.map V.int).length ≤ sizeLine := by
    rw [List.length_map, h2.length_eq]
    exact Nat.le_trans (Nat.le_of_lt hlt) (by decide)
  refine wpAny_pure ⟨_, rfl, .ref h'.objs.size, upd H h'.objs.size (.lst (ns'.map V.int)), I1.laid (t' := tk) (fun b u e => ?_) (Nat.le_refl _)
    (show ObjOk X.prog X.w _ _ _ (.lst (ns'.map V.int)) from ⟨hlen, out.toList, e', vals_of_ints h1, he'⟩), rfl, q ns' _ h2 h3 (I1.hok.fresh (Nat.le_refl _))⟩
  have hb : b < h'.objs.size := Heap.lt_size e
  rw [PyProof.Rows.sortedHeap_old (Nat.ne_of_lt hb) (by rw [size_push']; exact Nat.lt_succ_of_lt hb)]
  exact Heap.get?_push_of_some _ e
theorem ints_uniq : ∀ {ns ms : List Int}, ns.Perm ms → ns.Pairwise (· ≤ ·) → ms.Pairwise (· ≤ ·) → ns = ms := fun {ns ms} p h1 h2 =>
  List.Perm.eq_of_pairwise (fun a b _ _ h h' => Int.le_antisymm h h') h1 h2 p
/-- sorted(d) -/
theorem x_srtKeys {a : Expr} {Rs : Frm} {p pos : Pos} {t : List (Int × Int)} {ns : List Int} (hc : X.calm = true) (hm : X.mg "sorted" = none) (h : XE X a Rs (dcR (kI t))) (hl : t.length < 64) (hp : ns.Perm (t.map (·.1))) (hs : ns.Pairwise (· ≤ ·)) (hg : Gl X "sorted" := by rfl)
    (h1 : starEach [a] X.env = [(false, eval a X.env)] := by rfl) : XE X (.Call (.Name "sorted" p) [a] [] pos) Rs (tlR X.K (ns.map .int)) :=
  x_callB (cr_srtKeys hc) (As := [dcR (kI t)]) (R := tlR X.K (ns.map .int)) (fun Hv H vs Q s h q => by
    obtain ⟨v, ev, b, eb, hb⟩ := AllR.one h
    refine ⟨b, t, by rw [ev, eb], .inl (s _ _ hb), hl, fun ms p' g1 g2 g3 => ?_⟩
    have em : ms = ns := ints_uniq (g1.trans hp.symm) g2 hs
    subst em
    have al := Al.new (o := .lst (ms.map V.int)) s g3
    exact q _ _ _ al ⟨p', _, rfl, upd_same, ints_dp ms⟩) hm (by decide +kernel) (xa_cons h xa_nil h1) hg (by decide) (by decide) h1 rfl
/-! d != {} -/
theorem op_neDk (hu : X.A.units < cLine) : OpR X (compareOp .NotEq) (fun x y H Q => ∃ a b t, x = .ref a ∧ y = .ref b ∧ H a = some (.dK (kI t)) ∧ H b = some (.dK []) ∧ Q (.bl (!t.isEmpty)) H) := by
  intro pins s σ H x y v u Q I rx ry ⟨a, b, t, ex, ey, ea, eb, q⟩
  subst ex ey
  cases rx
  cases ry
  obtain ⟨_, ya, va, ra, da⟩ := (show ObjOk X.prog X.w H s.heap a (.dK (kI t)) from I.hok a _ ea)
  obtain ⟨_, yb, vb, rb, db⟩ := (show ObjOk X.prog X.w H s.heap b (.dK []) from I.hok b _ eb)
  have lb : vb.length = 0 := rb.length.symm
  have la : va.length = t.length := by
    rw [← ra.length]
    exact List.length_map ..
  refine PySem.W.keq_ne (knd := mixKind X.prog X.w) (r := true) ya yb da db hu (fun e => ?_) (fin_bl I q ?_)
  · have e0 : va = [] := List.length_eq_zero_iff.mp (by rw [e, lb])
    subst e0
    exact .nil
  · rw [la, lb]
    cases t <;> rfl
theorem xt_neDk {a b : Expr} {Rs : Frm} {pos : Pos} {t : List (Int × Int)} (hu : X.A.units < cLine) (ha : XE X a Rs (dcR (kI t))) (hb : XE X b Rs (dcR [])) (hm : behindInMarks CmpOp.NotEq b = false := by first | exact nomark _ | rfl) : XT X (.Compare a [.NotEq] [b] pos) Rs (!t.isEmpty) :=
  xt_cmp (Ra := dcR (kI t)) (Rb := dcR []) (op_neDk hu) (fun Hv H x y Q s ⟨d, e1, h1⟩ ⟨d2, e2, h2⟩ q => ⟨d, d2, t, e1, e2, s _ _ h1, s _ _ h2, q _ Hv H (.refl s) rfl⟩) ha hb hm
/-! [d] == [{}] -/
theorem op_eqLD (hu : X.A.units + 2 < cLine) : OpR X (compareOp .Eq) (fun x y H Q => ∃ l m d e, x = .ref l ∧ y = .ref m ∧ H l = some (.lst [.ref d]) ∧ H m = some (.lst [.ref e]) ∧ d ≠ e ∧ H d = some (.dK []) ∧ H e = some (.dK []) ∧ Q (.bl true) H) := by
  intro pins s σ H x y v u Q I rx ry ⟨l, m, d, e, ex, ey, el, em, ne, ed, ee, q⟩
  subst ex ey
  cases rx
  cases ry
  obtain ⟨_, its1, n1, r1, o1⟩ := (show ObjOk X.prog X.w H s.heap l (.lst [.ref d]) from I.hok l _ el)
  obtain ⟨_, its2, n2, r2, o2⟩ := (show ObjOk X.prog X.w H s.heap m (.lst [.ref e]) from I.hok m _ em)
  obtain ⟨u1, e1, w1⟩ := vals1 r1
  obtain ⟨u2, e2, w2⟩ := vals1 r2
  subst e1 e2
  cases w1
  cases w2
  obtain ⟨_, ya, va, ra, da⟩ := (show ObjOk X.prog X.w H s.heap d (.dK []) from I.hok d _ ed)
  obtain ⟨_, yb, vb, rb, db⟩ := (show ObjOk X.prog X.w H s.heap e (.dK []) from I.hok e _ ee)
  have lb : vb = [] := List.length_eq_zero_iff.mp rb.length.symm
  have la : va = [] := List.length_eq_zero_iff.mp ra.length.symm
  subst lb la
  refine SeqAt.rcP_lists (e := fun _ => true) ⟨_, o1, rfl, _, rfl⟩ ⟨_, o2, rfl, _, rfl⟩ rfl (by omega) (fun j h1 h2 => ?_) _ _ (fin_bl I q rfl)
  have hj : j = 0 := Nat.lt_one_iff.mp h1
  subst hj
  exact SeqAt.eqP_refs ne fun E Q' h => PySem.W.rcP_dicts (knd := mixKind X.prog X.w) (r := true) ya yb da db (by show X.A.units + 1 < cLine; omega) (fun _ => .nil) E Q' h
/-- past == [{}] -/
theorem x_eqPast (i : Nat) {Rs : Frm} {x : Str} {px p1 p2 pos : Pos} (hu : X.A.units + 2 < cLine) (hi : Rs[i]? = some (.own (ownLs [dcR []]))) (hN : X.N[i]? = some x := by rfl) (hv : Vis X.env.scope x := by first | exact Or.inl rfl | exact Or.inr (Or.inl rfl) | exact Or.inr (Or.inr rfl)) (hd : (x == ("__debug__" : Str)) = false := by decide)
    (hcd : (x == ("__classdict__" : Str)) = false := by decide) (hm : behindInMarks CmpOp.Eq (.List [.Dict [] [] p1] p2) = false := by first | exact nomark _ | rfl) (h1 : starEach [Expr.Dict [] [] p1] X.env = [(false, eval (.Dict [] [] p1) X.env)] := by rfl) :
    XE X (.Compare (.Name x px) [.Eq] [.List [.Dict [] [] p1] p2] pos) Rs (blR true) :=
  pe_imp (pe_cmpR (op_eqLD hu) (pv i hN hv hd hcd) (pe_lst (pa_cons pe_dnewK pa_nil h1)) hm) fun σ H Q ⟨Hv, ow, f, q⟩ => by
    obtain ⟨g1, g2, u, g3, xs, e, g4⟩ := f.own i _ hi
    subst e
    obtain ⟨w, ew, d, ed, hd'⟩ := AllR.one g4
    subst ew ed
    refine ⟨_, g1, fun e' he' => ?_⟩
    refine ⟨by show 1 ≤ sizeLine; decide, fun m hm' => ?_⟩
    have hdH := f.sub _ _ hd'
    have a1 := Al.new (o := .dK []) f.sub he'
    have f1 := f.al a1
    have a2 := Al.new (o := .lst [.ref e']) f1.sub hm'
    have f2 := f1.al a2
    have ne : d ≠ e' := ne_of_none hdH he'
    have st := a1.stp.trans a2.stp (Rs := Rs) (ow := ow)
    have al := a1.trans a2
    refine ⟨ow i, m, d, e', rfl, rfl, al.s _ _ g3, upd_same, ne, al.s _ _ hdH, a2.s _ _ upd_same, q _ _ _ st f2 rfl⟩
end
/-! ### what was hidden comes to be seen -/
theorem fr_reveal {Hv H : Hp} {σ : St} {Rs : Frm} {ow : Nat → Addr} {i : Nat} {P0 : Own} {R0 : Rel} (f : Fr Hv H σ Rs ow) (hR : SeenAs P0 R0) (hi : Rs[i]? = some (.own P0)) :
    ∃ Hv1, Fr Hv1 H σ (Rs.set i (.is R0)) ow ∧ ∀ {Hv' H' : Hp}, Stp Hv1 H (Rs.set i (.is R0)) ow Hv' H' → Stp Hv H Rs ow Hv' H' := by
  have lt := ent_lt hi
  obtain ⟨h1, h2, u, h3, h5⟩ := f.own i _ hi
  have sm : Same Hv (upd Hv (ow i) u) := same_new h2
  have back : ∀ {j : Nat} {Q : Own}, (Rs.set i (.is R0))[j]? = some (.own Q) → i ≠ j ∧ Rs[j]? = some (.own Q) := fun {j Q} e => by
    rw [set_get lt] at e
    by_cases hj : i = j
    · rw [if_pos hj] at e
      cases e
    · rw [if_neg hj] at e
      exact ⟨hj, e⟩
  have nb : ∀ {b : Addr}, ¬ Owned Rs ow b → ¬ Owned (Rs.set i (.is R0)) ow b := fun {b} n ⟨j, Q, e, z⟩ => n ⟨j, Q, (back e).2, z⟩
  refine ⟨upd Hv (ow i) u, ⟨fun b o e => ?_, by rw [List.length_set]; exact f.len, fun j R' e => ?_, fun j Q e => ?_, fun j k Q Q' e1 e2 => f.inj j k Q Q' (back e1).2 (back e2).2⟩, fun {Hv' H'} s => ⟨fun b o e n => s.kp b o e (nb n), sm.trans s.sv, fun b o e1 e2 n => s.hid b o ?_ e2 (nb n), s.th⟩⟩
  · by_cases hb : b = ow i
    · rw [hb, upd_same] at e
      rw [hb, h3]
      exact e
    · rw [upd_ne hb] at e
      exact f.sub b o e
  · rw [set_get lt] at e
    by_cases hj : i = j
    · rw [if_pos hj] at e
      subst hj
      cases e
      exact ⟨_, h1, hR Hv _ u h2 h5⟩
    · rw [if_neg hj] at e
      obtain ⟨v, g1, g2⟩ := f.get j R' e
      exact ⟨v, g1, R'.mono sm g2⟩
  · obtain ⟨hj, e'⟩ := back e
    obtain ⟨g1, g2, u2, g3, g4⟩ := f.own j Q e'
    refine ⟨g1, ?_, u2, g3, Q.mono sm g4⟩
    rw [upd_ne (fun z => hj (f.inj i j _ Q hi e' z.symm))]
    exact g2
  · rw [upd_ne (fun z => n ⟨i, _, hi, z.symm⟩)]
    exact e1
section
variable {X : Cx} {e c a b : Expr} {Rs Rs1 Rs2 : Frm} {R Ra Rb : Rel} {pos : Pos} {k : Bool} {st : List Stmt}
theorem ns_reveal (i : Nat) {P0 : Own} {R0 : Rel} (hR : SeenAs P0 R0) (hi : Rs[i]? = some (.own P0)) (h : XNs X st (Rs.set i (.is R0)) Rs2) (hn : ∀ P, Rs2[i]? ≠ some (.own P)) : XNs X st Rs Rs2 := pss_imp h fun D σ H ⟨Hv, ow, f, q⟩ => by
  obtain ⟨Hv1, f1, back⟩ := fr_reveal f hR hi
  have lt := ent_lt hi
  refine ⟨Hv1, ow, f1, fun σ' Hv' H' ow' s f' => q σ' Hv' H' ow' ⟨back s.toStp, fun j P P' e e' => ?_, fun j P' e' => ?_⟩ f'⟩
  · have hj : i ≠ j := fun z => by subst z; exact hn _ e'
    exact s.same j P P' (by rw [set_get lt, if_neg hj]; exact e) e'
  · have hj : i ≠ j := fun z => by subst z; exact hn _ e'
    rcases s.new j P' e' with ⟨P, z⟩ | z
    · rw [set_get lt, if_neg hj] at z
      exact .inl ⟨P, z⟩
    · exact .inr z
/-! ### tests that change hidden objects -/
theorem xt_isNF {j p'} (h : XF X a Rs Rs1 R) (hk : ∀ H v, R.r H v → decide (v = .non) = k) : XTF X (.Compare a [.Is] [.Constant .none j p'] pos) Rs Rs1 k := pt_imp (pt_cmp (pc_isN h)) fun σ H Q ⟨Hv, ow, f, q⟩ => ⟨Hv, ow, f, fun x Hv' H' s f' r => ⟨decide (x = .non), rfl, by
  rw [hk _ _ r]
  exact q Hv' H' s f'⟩⟩
theorem x_ifF (ho : SameOwn Rs Rs1) (h : XTF X c Rs Rs1 k) (h1 : k = true → XE X a Rs1 R) (h2 : k = false → XE X b Rs1 R) : XF X (.IfExp c a b pos) Rs Rs1 R := by
  cases k with
  | true => exact pe_imp (pe_ifExp h (h1 rfl) pe_never) fun σ H Q ⟨Hv, ow, f, q⟩ => ⟨Hv, ow, f, fun Hv' H' s f' => iteT ⟨Hv', ow, f', fun v Hv2 H2 s2 f2 r => q v Hv2 H2 (s.trans (s2.same ho)) f2 r⟩⟩
  | false => exact pe_imp (pe_ifExp h pe_never (h2 rfl)) fun σ H Q ⟨Hv, ow, f, q⟩ => ⟨Hv, ow, f, fun Hv' H' s f' => iteF ⟨Hv', ow, f', fun v Hv2 H2 s2 f2 r => q v Hv2 H2 (s.trans (s2.same ho)) f2 r⟩⟩
theorem n_setF (i : Nat) {x : Str} {p' : Pos} (ho : SameOwn Rs Rs1) (h : XF X e Rs Rs1 R) (hN : X.N.Nodup) (hn : ∀ P, Rs1[i]? ≠ some (Ent.own P) := by intro P z; cases z) (hi : X.N[i]? = some x := by rfl) (hx : Loc X.env.scope x := by first | exact Or.inl rfl | exact Or.inr rfl)
    (hs : swapsWith e (some (.Name x p')) pos.line X.env = pure false := by rfl) (hf : X.fn x = true ∨ X.env.scope.names.lookup x = some .local := by first | exact .inl rfl | exact .inr rfl) : XN X (.Assign [.Name x p'] e pos) Rs (Rs1.set i (.is R)) :=
  ps_imp (ps_set hN hi hx h hs hf) fun D σ H ⟨Hv, ow, f, q⟩ => ⟨Hv, ow, f, fun v Hv' H' s f' r => q _ Hv' H' ow ((sts_same ho s).trans (sts_set .refl hn) fun j P P2 e _ => (ho j).mp ⟨P, e⟩) (f'.set hn r)⟩
/-- a comparison whose left side changes hidden objects -/
theorem xtf_cmp {op : CmpOp} {r : R2} (ho : SameOwn Rs Rs1) (hp : OpR X (compareOp op) r) (hr : OpX r Ra Rb (blR k)) (ha : XF X a Rs Rs1 Ra) (hb : XE X b Rs1 Rb) (hm : behindInMarks op b = false := by first | exact nomark _ | rfl) : XTF X (.Compare a [op] [b] pos) Rs Rs1 k :=
  pt_imp (pt_cmpR hp ha hb hm) fun σ H Q ⟨Hv, ow, f, q⟩ => ⟨Hv, ow, f, fun x Hv1 H1 s1 f1 r1 => ⟨Hv1, ow, f1, fun y Hv2 H2 s2 f2 r2 => hr Hv2 H2 x y _ f2.sub (Ra.mono s2.sv r1) r2 fun z Hv3 H3 al r3 => ⟨k, r3, q Hv3 H3 (s1.trans ((s2.trans al.stp).same ho)) (f2.al al)⟩⟩⟩
/-- a, b, .. = value -/
theorem n_asg {tg : Expr} {ks : List Nat} (h : XE X e Rs R) (hg : XG X tg R Rs Rs1 ks) (ho : SameOwn Rs Rs1) (hs : swapsWithSole [tg] e pos.line X.env = pure false := by rfl) (hw : swappedStores [tg] e X.env = pure none := by rfl) (h1 : (assignEach [tg] X.env).map (·.2) = [assign tg X.env] := by rfl) : XN X (.Assign [tg] e pos) Rs Rs1 :=
  ps_imp (ps_asg h hg hs hw h1) fun D σ H ⟨Hv, ow, f, q⟩ => ⟨Hv, ow, f, fun v Hv' H' s f' r => ⟨Hv', ow, f', r, fun σ' f2 _ => q σ' Hv' H' ow (sts_same ho s) f2⟩⟩
/-- x, y = value, new hidden thing -/
theorem n_parRO (i j : Nat) {P2 : Own} {x y : Str} {px py pt pt2 : Pos} {kt k2 : Nat} (ha : XE X a Rs Ra) (hb : XO X b Rs P2) (hc : X.calm = true) (hN : X.N.Nodup) (hij : i ≠ j) (hni : Rs[i]? = some .no) (hnj : Rs[j]? = some .no) (hi : X.N[i]? = some x := by rfl) (hj : X.N[j]? = some y := by rfl)
    (hx : X.env.scope.names.lookup x = some .local := by rfl) (hy : X.env.scope.names.lookup y = some .local := by rfl) (hw : swappedStores [.Tuple [.Name x px, .Name y py] kt pt] (.Tuple [a, b] k2 pt2) X.env = pure (some [x, y]) := by rfl)
    (hs : swapsWithSole [.Tuple [.Name x px, .Name y py] kt pt] (.Tuple [a, b] k2 pt2) pos.line X.env = pure false := by rfl) (h1 : starEach [a, b] X.env = (false, eval a X.env) :: starEach [b] X.env := by rfl) (h2 : starEach [b] X.env = [(false, eval b X.env)] := by rfl) :
    XN X (.Assign [.Tuple [.Name x px, .Name y py] kt pt] (.Tuple [a, b] k2 pt2) pos) Rs ((Rs.set i (.is Ra)).set j (.own P2)) :=
  ps_imp (ps_par hc hN hi hj hij hx hy (pa_cons ha (pa_cons hb pa_nil h2) h1) hw hs) fun D σ H ⟨Hv, ow, f, q⟩ => ⟨Hv, ow, f, fun w Hv1 H1 s1 f1 r1 => ⟨Hv1, ow, f1, fun p2 u2 Hv2 H2 s2 f2 m1 m2 g2 r2 => by
    have lt : ∀ {i : Nat}, Rs[i]? = some .no → i < Rs.length := fun {i} h => (List.getElem?_eq_some_iff.mp h).1
    have no2 : ¬ Owned Rs ow p2 := fun ⟨j, P, e, z⟩ => f1.free m1 j P e z
    have hp2 : H p2 = none := by
      cases hq : H p2 with
      | none => rfl
      | some o =>
        obtain ⟨o', e'⟩ := s1.th p2 o hq
        rw [e'] at m1
        cases m1
    have nf : ∀ (P : Own), Rs[i]? ≠ some (.own P) := fun P e => by rw [hni] at e; cases e
    have nj : ∀ (P : Own), (Rs.set i (.is Ra))[j]? ≠ some (.own P) := fun P e => by
      rw [List.getElem?_set_ne hij, hnj] at e
      cases e
    have c1 := f2.set nf (Ra.mono s2.sv r1)
    have c2 := c1.come (P := P2) nj (by rw [List.length_set]; exact lt hnj) m2 g2 r2 fun j' Q e z => by
      rcases set_own e with ⟨_, z'⟩ | e1
      · cases z'
      · exact no2 ⟨j', Q, e1, z⟩
    refine ⟨w, .ref p2, rfl, q _ _ _ _ ⟨s1.trans s2, fun m P P' e e' => ?_, fun m P e => ?_⟩ c2⟩
    · show (if m = j then p2 else ow m) = ow m
      rw [if_neg fun z => by rw [z, hnj] at e; cases e]
    · show _ ∨ H (if m = j then p2 else ow m) = none
      rcases set_own e with ⟨z, _⟩ | e
      · rw [if_pos z]
        exact .inr hp2
      · rcases set_own e with ⟨_, z⟩ | e
        · cases z
        · exact .inl ⟨P, e⟩⟩⟩
end
end Bo
set_option maxHeartbeats 4000000
/-! Calls with several hidden things; slots that no name sees; calls while no repr is under way. -/
namespace Bo
open PySem PySem.Spec L2
open PyProof.Rows hiding St
/-! ### behind a call with several hidden things -/
def putAll (js : List Nat) : List (Nat × Own) → Frm → Frm
  | [], Rs => Rs
  | p :: Os, Rs => putAll js Os (Rs.set (js.getD p.1 0) (.own p.2))
theorem putAll_len {js : List Nat} : ∀ {Os : List (Nat × Own)} {Rs : Frm}, (putAll js Os Rs).length = Rs.length
  | [], _ => rfl
  | p :: Os, Rs => (putAll_len (Os := Os)).trans List.length_set
theorem putAll_is {js : List Nat} {j : Nat} {R : Rel} : ∀ {Os : List (Nat × Own)} {Rs : Frm}, (putAll js Os Rs)[j]? = some (.is R) → Rs[j]? = some (.is R)
  | [], _, h => h
  | p :: Os, Rs, h => by
    have z := putAll_is (Os := Os) h
    by_cases hj : js.getD p.1 0 = j
    · rw [hj] at z
      by_cases lt : j < Rs.length
      · rw [List.getElem?_set_self lt] at z
        cases z
      · rw [List.getElem?_eq_none (by rw [List.length_set]; omega)] at z
        cases z
    · rw [List.getElem?_set_ne hj] at z
      exact z
theorem putAll_own {js : List Nat} {j : Nat} {Q : Own} : ∀ {Os : List (Nat × Own)} {Rs : Frm}, (putAll js Os Rs)[j]? = some (.own Q) → (Rs[j]? = some (.own Q) ∧ ∀ p ∈ Os, js.getD p.1 0 ≠ j) ∨ ∃ p ∈ Os, js.getD p.1 0 = j ∧ p.2 = Q
  | [], _, h => .inl ⟨h, fun p hp => by cases hp⟩
  | p :: Os, Rs, h => by
    rcases putAll_own (Os := Os) h with ⟨z, n⟩ | ⟨p', hp, e1, e2⟩
    · by_cases hj : js.getD p.1 0 = j
      · rw [hj] at z
        by_cases lt : j < Rs.length
        · rw [List.getElem?_set_self lt] at z
          cases z
          exact .inr ⟨p, List.mem_cons_self, hj, rfl⟩
        · rw [List.getElem?_eq_none (by rw [List.length_set]; omega)] at z
          cases z
      · rw [List.getElem?_set_ne hj] at z
        refine .inl ⟨z, fun p' hp' => ?_⟩
        rcases List.mem_cons.mp hp' with e | e
        · rw [e]
          exact hj
        · exact n p' e
    · exact .inr ⟨p', List.mem_cons_of_mem _ hp, e1, e2⟩
section
variable {Hv H Hv' H' : Hp} {σ : St} {Rs As : Frm} {ow : Nat → Addr} {js : List Nat} {Os : List (Nat × Own)}
theorem Stp.lift (ha : ∀ (k : Nat) (P : Own), As[k]? = some (.own P) → Rs[js.getD k 0]? = some (.own P)) (s : Stp Hv H As (fun i => ow (js.getD i 0)) Hv' H') : Stp Hv H Rs ow Hv' H' :=
  have e : ∀ {b}, Owned As (fun i => ow (js.getD i 0)) b → Owned Rs ow b := fun {b} ⟨k, P, e, z⟩ => ⟨_, P, ha k P e, z⟩
  ⟨fun b o e1 n => s.kp b o e1 fun z => n (e z), s.sv, fun b o e1 e2 n => s.hid b o e1 e2 fun z => n (e z), s.th⟩
theorem Fr.calls (f : Fr Hv H σ Rs ow) (ha : ∀ (k : Nat) (P : Own), As[k]? = some (.own P) → Rs[js.getD k 0]? = some (.own P)) (s : Stp Hv H As (fun i => ow (js.getD i 0)) Hv' H') (sub : Same Hv' H') (o : owns Os (fun i => ow (js.getD i 0)) Hv' H')
    (hall : ∀ (k : Nat) (P : Own), As[k]? = some (.own P) → ∃ Q, (k, Q) ∈ Os) (hos : ∀ p ∈ Os, ∃ P, As[p.1]? = some (.own P)) : Fr Hv' H' σ (putAll js Os Rs) ow := by
  have back : ∀ {j : Nat} {Q : Own}, (putAll js Os Rs)[j]? = some (.own Q) → ∃ P, Rs[j]? = some (.own P) := fun {j Q} e => by
    rcases putAll_own e with ⟨z, _⟩ | ⟨p, hp, e1, _⟩
    · exact ⟨Q, z⟩
    · obtain ⟨P, e2⟩ := hos p hp
      exact ⟨P, by rw [← e1]; exact ha _ P e2⟩
  refine ⟨sub, by rw [putAll_len]; exact f.len, fun j R e => ?_, fun j Q e => ?_, fun j k P P' e1 e2 => ?_⟩
  · obtain ⟨v, g1, g2⟩ := f.get j R (putAll_is e)
    exact ⟨v, g1, R.mono s.sv g2⟩
  · rcases putAll_own e with ⟨z, n⟩ | ⟨p, hp, e1, e2⟩
    · obtain ⟨g1, g2, u, g3, g4⟩ := f.own j Q z
      have no : ¬ Owned As (fun i => ow (js.getD i 0)) (ow j) := fun ⟨k, P, e', z'⟩ => by
        have ek := f.inj _ _ _ _ (ha k P e') z z'
        obtain ⟨Q', hq⟩ := hall k P e'
        exact n _ hq ek
      exact ⟨g1, s.hid _ _ g2 g3 no, u, s.kp _ _ g3 no, Q.mono s.sv g4⟩
    · obtain ⟨P, e3⟩ := hos p hp
      obtain ⟨g1, _⟩ := f.own _ _ (ha _ P e3)
      obtain ⟨o1, u, o2, o3⟩ := o p hp
      have o1' : Hv' (ow (js.getD p.1 0)) = none := o1
      have o2' : H' (ow (js.getD p.1 0)) = some u := o2
      rw [e1] at g1 o1' o2'
      rw [e2] at o3
      exact ⟨g1, o1', u, o2', o3⟩
  · obtain ⟨Q1, z1⟩ := back e1
    obtain ⟨Q2, z2⟩ := back e2
    exact f.inj j k Q1 Q2 z1 z2
end
/-! ### arguments, some of them hidden things of the frame -/
def tXAF (Rs As : Frm) (js gj : List Nat) : TA := fun σ H Q => ∃ Hv ow, Fr Hv H σ Rs ow ∧ ∀ vs Hv' H', Stp Hv H Rs ow Hv' H' → Fr Hv' H' σ Rs ow → Fr Hv' H' (vs.map some ++ gj.map fun j => some (.ref (ow j))) As (fun i => ow (js.getD i 0)) → Q vs H'
structure XAF (X : Cx) (es : List Expr) (Rs As : Frm) (js gj : List Nat) : Prop where
  pa : PA X es (tXAF Rs As js gj)
  ow : ∀ (k : Nat) (P : Own), As[k]? = some (.own P) → Rs[js.getD k 0]? = some (.own P)
section
variable {X : Cx} {e : Expr} {es : List Expr} {Rs As : Frm} {R : Rel} {P : Own} {js gj : List Nat}
theorem fr_nil {Hv H : Hp} {ow : Nat → Addr} (s : Same Hv H) : Fr Hv H [] [] ow := ⟨s, rfl, fun i R e => by simp at e, fun i P e => by simp at e, fun i j P P' e => by simp at e⟩
theorem fr_is {Hv H : Hp} {τ : St} {ow : Nat → Addr} {v : V} {j0 : Nat} (f : Fr Hv H τ As (fun i => ow (js.getD i 0))) (r : R.r Hv v) : Fr Hv H (some v :: τ) (.is R :: As) (fun i => ow ((j0 :: js).getD i 0)) := by
  refine ⟨f.sub, by rw [List.length_cons, List.length_cons, f.len], fun i R' e => ?_, fun i P e => ?_, fun i j P P' e1 e2 z => ?_⟩
  · cases i with
    | zero =>
      cases e
      exact ⟨v, rfl, r⟩
    | succ i => exact f.get i R' e
  · cases i with
    | zero => cases e
    | succ i => exact f.own i P e
  · cases i with
    | zero => cases e1
    | succ i =>
      cases j with
      | zero => cases e2
      | succ j => exact congrArg (· + 1) (f.inj i j P P' e1 e2 z)
theorem fr_own {Hv H : Hp} {σ τ : St} {ow : Nat → Addr} {j0 : Nat} (g : Fr Hv H σ Rs ow) (hj : Rs[j0]? = some (.own P)) (f : Fr Hv H τ As (fun i => ow (js.getD i 0))) (ha : ∀ (k : Nat) (P : Own), As[k]? = some (.own P) → Rs[js.getD k 0]? = some (.own P))
    (hn : ∀ (k : Nat) (P : Own), As[k]? = some (.own P) → js.getD k 0 ≠ j0) : Fr Hv H (some (.ref (ow j0)) :: τ) (.own P :: As) (fun i => ow ((j0 :: js).getD i 0)) := by
  refine ⟨f.sub, by rw [List.length_cons, List.length_cons, f.len], fun i R' e => ?_, fun i P' e => ?_, fun i j P1 P2 e1 e2 z => ?_⟩
  · cases i with
    | zero => cases e
    | succ i => exact f.get i R' e
  · cases i with
    | zero =>
      cases e
      exact ⟨rfl, (g.own _ _ hj).2⟩
    | succ i => exact f.own i P' e
  · cases i with
    | zero =>
      cases j with
      | zero => rfl
      | succ j =>
        exact (hn j P2 e2 (g.inj _ _ _ _ (ha j P2 e2) hj (Eq.symm z))).elim
    | succ i =>
      cases j with
      | zero => exact (hn i P1 e1 (g.inj _ _ _ _ (ha i P1 e1) hj z)).elim
      | succ j => exact congrArg (· + 1) (f.inj i j P1 P2 e1 e2 z)
theorem xaf_nil : XAF X [] Rs [] [] [] := ⟨pa_imp pa_nil fun σ H Q ⟨Hv, ow, f, q⟩ => q [] Hv H .refl f (fr_nil f.sub), fun k P e => by simp at e⟩
/-- a slot that no name sees, handed on -/
theorem xaf_ghost (j : Nat) (hj : Rs[j]? = some (.own P)) : XAF X [] Rs [.own P] [j] [j] := ⟨pa_imp pa_nil fun σ H Q ⟨Hv, ow, f, q⟩ => q [] Hv H .refl f (fr_own (js := []) (τ := []) f hj (fr_nil f.sub) (fun k P e => by simp at e) fun k P e => by simp at e), fun k P' e => by
  cases k with
  | zero =>
    cases e
    exact hj
  | succ k => simp at e⟩
theorem Fr.stp1 {Hv H Hv' H' : Hp} {τ : St} {ow' : Nat → Addr} (f : Fr Hv H τ As ow') (g : Fr Hv' H' τ As ow') : Fr Hv' H' τ As ow' := g
theorem xaf_is (h : XE X e Rs R) (hr : XAF X es Rs As js gj) (hs : starEach (e :: es) X.env = (false, eval e X.env) :: starEach es X.env := by rfl) : XAF X (e :: es) Rs (.is R :: As) (0 :: js) gj := ⟨pa_imp (pa_cons h hr.pa hs) fun σ H Q ⟨Hv, ow, f, q⟩ =>
  ⟨Hv, ow, f, fun v Hv1 H1 s1 f1 r1 => ⟨Hv1, ow, f1, fun vs Hv2 H2 s2 f2 g => q (v :: vs) Hv2 H2 (s1.trans s2) f2 (fr_is g (R.mono s2.sv r1))⟩⟩, fun k P e => by
  cases k with
  | zero => cases e
  | succ k => exact hr.ow k P e⟩
theorem xaf_own (j : Nat) {x : Str} {px : Pos} (hj : Rs[j]? = some (.own P)) (hr : XAF X es Rs As js gj) (hn : ∀ (k : Nat) (P : Own), As[k]? = some (.own P) → js.getD k 0 ≠ j) (hN : X.N[j]? = some x := by rfl) (hv : Vis X.env.scope x := by first | exact Or.inl rfl | exact Or.inr (Or.inl rfl) | exact Or.inr (Or.inr rfl))
    (hd : (x == ("__debug__" : Str)) = false := by decide) (hcd : (x == ("__classdict__" : Str)) = false := by decide) (hs : starEach (.Name x px :: es) X.env = (false, eval (.Name x px) X.env) :: starEach es X.env := by rfl) : XAF X (.Name x px :: es) Rs (.own P :: As) (j :: js) gj :=
  ⟨pa_imp (pa_cons (pv j hN hv hd hcd) hr.pa hs) fun σ H Q ⟨Hv, ow, f, q⟩ => ⟨_, (f.own j _ hj).1, Hv, ow, f, fun vs Hv2 H2 s2 f2 g => q (.ref (ow j) :: vs) Hv2 H2 s2 f2 (fr_own f2 hj g hr.ow hn)⟩, fun k P' e => by
  cases k with
  | zero =>
    cases e
    exact hj
  | succ k => exact hr.ow k P' e⟩
end
/-! ### slots that no name sees -/
theorem Inv.other {X : Cx} {pins : List (Addr × Obj)} {σ σ' : St} {H : Hp} {s : Shared} (I : Inv X pins σ H s) (hl : σ'.length = σ.length) (h : ∀ (i : Nat) (x : Str), X.N[i]? = some x → Vis X.env.scope x → σ'[i]? = σ[i]?) : Inv X pins σ' H s := by
  refine ⟨I.ok, I.os, I.bare, I.base, ?_, I.cell, I.free, I.freeC, I.pin, I.hok, hl.trans I.len⟩
  obtain ⟨m, h1, h2⟩ := I.loc
  refine ⟨m, h1, fun i x v e1 e2 e3 => h2 i x v e1 ?_ e3⟩
  rw [← h i x e1 e3]
  exact e2
theorem pss_other {X : Cx} {st : List Stmt} {t : TS} (h : PSs X st t) : PSs X st (fun D σ H => ∃ σ' : St, σ'.length = σ.length ∧ (∀ (i : Nat) (x : Str), X.N[i]? = some x → Vis X.env.scope x → σ'[i]? = σ[i]?) ∧ t D σ' H) :=
  ⟨fun pins s σ H D I ⟨σ', h1, h2, q⟩ => h.run pins s σ' H D (Inv.other I h1 h2) q⟩
theorem fr_ext {Hv H : Hp} {τ : St} {As : Frm} {ow : Nat → Addr} {n : Nat} (f : Fr Hv H τ As ow) : Fr Hv H (τ ++ List.replicate n none) (As ++ List.replicate n .no) ow := by
  have lt : ∀ {i : Nat} {e : Ent}, As[i]? = some e → i < τ.length := fun {i e} h => by
    rw [f.len]
    exact (List.getElem?_eq_some_iff.mp h).1
  refine ⟨f.sub, by simp [f.len], fun i R e => ?_, fun i P e => ?_, fun i j P P' e1 e2 => f.inj i j P P' (ent_app e1 (fun z => by cases z)) (ent_app e2 (fun z => by cases z))⟩
  · have e' := ent_app e (fun z => by cases z)
    obtain ⟨v, g1, g2⟩ := f.get i R e'
    exact ⟨v, by rw [List.getElem?_append_left (lt e')]; exact g1, g2⟩
  · have e' := ent_app e (fun z => by cases z)
    obtain ⟨g1, g2⟩ := f.own i P e'
    exact ⟨by rw [List.getElem?_append_left (lt e')]; exact g1, g2⟩
/-! ### defs that are called while no repr is under way -/
def NoG (A : Around) : Prop := A.guards = some []
theorem NoG.deeper {A : Around} {env : Env} (h : NoG A) : NoG (A.deeper env) := h
structure FnG (P : Program) (w : World) (K : PySem.W.Frag) (mg : Str → Option Value) (base : Heap) (k : Nat) (f : Addr) (fd : FuncData) (ps : List Str) (sp : Sp) : Prop where
  len : ∀ vs H Q E, sp vs H Q E → vs.length = ps.length
  run : ∀ (A : Around) (outer : List Env) (s : Shared) (H : Hp) (args : Args) (us : List Value) (vs : List V) (Q : VK) (E : XK), NoG A → Room k A → Env0 P w K mg base A outer s H → BindsTo s fd args (ps.zip us) → Vals vs us → sp vs H Q E →
    codeAny (model P w) A (.call (.ref f) args) (CR C8.CX0 outer P w H s Q E) s
structure CalG (P : Program) (w : World) (K : PySem.W.Frag) (mg : Str → Option Value) (base : Heap) (k : Nat) (x : Str) (sp : Sp) : Prop where
  ex : ∃ (f : Addr) (fd : FuncData) (ps : List Str), FnG P w K mg base k f fd ps sp ∧ mg x = some (.ref f) ∧ PySem.W.keepIn K (.ref f) = true ∧ Binds K fd ps []
/-- a def whose code object is known -/
def DfC (K : PySem.W.Frag) (mg : Str → Option Value) (x : Str) (st : Stmt) (c : Addr) : Prop := ∃ (f : Addr) (oc : Value) (od : Option Addr) (kV doc pm : Value) (an : Option Addr) (ct : Value) (osl : Array (Option Value)),
  K.lookup f = some ⟨oc, od, .func (PySem.W.fnOf x x (C8.fnArgs st) (C8.fnBody st) (C8.fnScope st) .none kV doc pm an (.ref c) ct), osl⟩ ∧ PySem.W.codeIn K (.ref c) x = true ∧ mg x = some (.ref f) ∧ PySem.W.keepIn K (.ref f) = true
section
variable {P : Program} {w : World} {K : PySem.W.Frag} {mg : Str → Option Value} {base : Heap} {x : Str} {st : Stmt} {N ps : List Str} {k : Nat} {α : Type} {pre : α → Prop} {As : α → Frm} {Os : α → List (Nat × Own)} {R : α → Rel} {c : Addr}
/-- gs: what stands in the slots behind the parameters, that no name sees -/
def spG (gs : List (Option V)) {α : Type} (pre : α → Prop) (As : α → Frm) (Os : α → List (Nat × Own)) (R : α → Rel) : Sp := fun vs H Q _ => ∃ (a : α) (Hv : Hp) (ow : Nat → Addr), pre a ∧ Fr Hv H (vs.map some ++ gs) (As a) ow ∧
  ∀ z Hv' H', Stp Hv H (As a) ow Hv' H' → Same Hv' H' → owns (Os a) ow Hv' H' → (R a).r Hv' z → Q z H'
theorem fn_defG {gs : List (Option V)} {n : Nat} {t : St → TS} {f : Addr} {oc kV doc pm ct : Value} {od an : Option Addr} {osl : Array (Option Value)} (lk : K.lookup f = some ⟨oc, od, .func (PySem.W.fnOf x x (C8.fnArgs st) (C8.fnBody st) (C8.fnScope st) .none kV doc pm an (.ref c) ct), osl⟩) (hcd : PySem.W.codeIn K (.ref c) x = true)
    (S : FnScope N ps (C8.fnScope st)) (hm : N.length = ps.length + gs.length + n) (hl : ∀ a, (As a).length = ps.length + gs.length) (hgh : ∀ i, ps.length ≤ i → i < ps.length + gs.length → ∀ y, N[i]? = some y → ¬ Vis (C8.fnScope st) y)
    (body : ∀ (a : α) (A : Around) (outer : List Env) (s : Shared) (H : Hp) (E : XK), pre a → NoG (A.deeper (envOfC x (C8.fnScope st) s.heap.objs.size f (.ref c))) → Room k (A.deeper (envOfC x (C8.fnScope st) s.heap.objs.size f (.ref c))) →
      PSs (BX P w K mg base N x (C8.fnScope st) f (.ref c) A outer s H E) (C8.fnBody st) (fun D σ H => (∃ vs : List V, vs.length = ps.length ∧ σ = vs.map some ++ gs ++ List.replicate n none) ∧ tXR (Os a) (As a ++ List.replicate n .no) (R a) D σ H)) :
    FnG P w K mg base (k + 1) f (PySem.W.fnOf x x (C8.fnArgs st) (C8.fnBody st) (C8.fnScope st) .none kV doc pm an (.ref c) ct) ps (spG gs pre As Os R) := by
  have len : ∀ vs H Q E, spG gs pre As Os R vs H Q E → vs.length = ps.length := fun vs H Q E ⟨a, Hv, ow, hp, fr, q⟩ => by
    have e := fr.len
    rw [List.length_append, List.length_map, hl a] at e
    omega
  refine ⟨len, fun A outer s H args us vs Q E hg hr e0 hb rv hsp => ?_⟩
  have hvl := len vs H Q E hsp
  obtain ⟨a, Hv, ow, hp, fr, q⟩ := hsp
  refine LamX.run_ofS (N := N) lk hcd S hr e0 hb rv hvl fun hr' => ⟨_, (pss_other (body a A outer s H E hp hg.deeper hr')).nox, vs.map some ++ gs ++ List.replicate n none, ?_, fun i y e1 e2 => ?_, ⟨vs, hvl, rfl⟩, Hv, ow, fr_ext fr, fun z Hv' H' s' sub o r => q z Hv' H' (stp_app s') sub o r⟩
  · show _ = (vs.map some ++ List.replicate (N.length - vs.length) none).length
    simp
    omega
  · show _ = (vs.map some ++ List.replicate (N.length - vs.length) none)[i]?
    have hi : i < N.length := (List.getElem?_eq_some_iff.mp e1).1
    by_cases h1 : i < vs.length
    · rw [List.append_assoc, List.getElem?_append_left (by simpa using h1), List.getElem?_append_left (by simpa using h1)]
    · by_cases h2 : i < vs.length + gs.length
      · exact (hgh i (by omega) (by omega) y e1 e2).elim
      · rw [List.getElem?_append_right (by simp; omega), List.getElem?_append_right (by simpa using h1), List.getElem?_replicate, List.getElem?_replicate, if_pos (by simp; omega), if_pos (by simp; omega)]
theorem cal_defG {gs : List (Option V)} {n : Nat} (F : DfC K mg x st c) (hb : BindsOk x x st ps) (S : FnScope N ps (C8.fnScope st)) (hm : N.length = ps.length + gs.length + n) (hl : ∀ a, (As a).length = ps.length + gs.length) (hgh : ∀ i, ps.length ≤ i → i < ps.length + gs.length → ∀ y, N[i]? = some y → ¬ Vis (C8.fnScope st) y)
    (body : ∀ (f : Addr) (a : α) (A : Around) (outer : List Env) (s : Shared) (H : Hp) (E : XK), pre a → NoG (A.deeper (envOfC x (C8.fnScope st) s.heap.objs.size f (.ref c))) → Room k (A.deeper (envOfC x (C8.fnScope st) s.heap.objs.size f (.ref c))) →
      PSs (BX P w K mg base N x (C8.fnScope st) f (.ref c) A outer s H E) (C8.fnBody st) (fun D σ H => (∃ vs : List V, vs.length = ps.length ∧ σ = vs.map some ++ gs ++ List.replicate n none) ∧ tXR (Os a) (As a ++ List.replicate n .no) (R a) D σ H)) :
    CalG P w K mg base (k + 1) x (spG gs pre As Os R) := by
  obtain ⟨f, oc, od, kV, doc, pm, an, ct, osl, lk, hcd, hmg, hkp⟩ := F
  exact ⟨f, _, ps, fn_defG (t := fun _ => tXR [] [] nonR) lk hcd S hm hl hgh (body f), hmg, hkp, .all (hb kV doc pm an (.ref c) ct)⟩
end
/-! ### the calls -/
section
variable {X : Cx} {e : Expr} {es : List Expr} {Rs : Frm} {R' : Rel} {p pos : Pos} {x : Str} {k j : Nat} {α : Type} {pre : α → Prop} {As : α → Frm} {Os : α → List (Nat × Own)} {R : α → Rel} {js gj : List Nat} {sp : Sp} {t : TA}
theorem pe_callG (c : CalG X.prog X.w X.K X.mg X.base k x sp) (hg : NoG X.A) (hr : Room j X.A) (hk : k ≤ j) (hgl : Gl X x) (ha : PA X (e :: es) t) (hdb : (x == ("__debug__" : Str)) = false := by decide) (he : starEach (e :: es) X.env = (false, eval e X.env) :: starEach es X.env := by rfl)
    (hpl : (backTo pos (starEach es X.env)).any (·.1) = false := by rfl) : PE X (.Call (.Name x p) (e :: es) [] pos) (fun σ H Q => t σ H fun vs H1 => sp vs H1 Q C8.E0) := by
  obtain ⟨f, fd, ps, F, hm, kp, b⟩ := c.ex
  refine ⟨fun pins s σ H Q I h => ?_⟩
  refine wpAny_Call_Name_kw (ld_glob I hgl hm ?_ hdb)
  refine PySem.W.callWith_K (h₀ := X.base) I.ok.mod.kin kp (thn (ha.run pos pins s σ H _ I h) fun us s1 ⟨vs, H1, I1, r, q⟩ => ⟨I1.kIn, ?_⟩) he hpl
  have hl : us.length = ps.length := by rw [← r.length]; exact F.len _ _ _ _ q
  have b' := b s1 us I1.kIn (by simpa using hl)
  rw [List.append_nil] at b'
  refine wpAny_call (codeAny_mono (F.run X.A X.stack s1 H1 ⟨us, []⟩ us vs Q C8.E0 hg (hr.mono hk) I1.env0 b' r q) fun z s' hq => ?_)
  cases z with
  | error e => exact C8.pass0 (E := C8.E0) pins σ H1 s1 e s' I1 hq
  | ok fl =>
    cases fl with
    | ret u => exact I1.after hq
    | next => exact False.elim hq
    | brk => exact False.elim hq
    | cont => exact False.elim hq
/-- nothing but what names see -/
theorem x_callG (c : CalG X.prog X.w X.K X.mg X.base k x (spG [] pre As Os R)) (a : α) (hg : NoG X.A) (hr : Room j X.A) (hk : k ≤ j) (hp : pre a) (ha : XAF X (e :: es) Rs (As a) js []) (hall : ∀ (k : Nat) (P : Own), (As a)[k]? = some (.own P) → ∃ Q, (k, Q) ∈ Os a) (hos : ∀ p ∈ Os a, ∃ P, (As a)[p.1]? = some (.own P)) (hgl : Gl X x := by rfl)
    (hdb : (x == ("__debug__" : Str)) = false := by decide) (he : starEach (e :: es) X.env = (false, eval e X.env) :: starEach es X.env := by rfl) (hpl : (backTo pos (starEach es X.env)).any (·.1) = false := by rfl) (hR : R a = R' := by rfl) :
    XF X (.Call (.Name x p) (e :: es) [] pos) Rs (putAll js (Os a) Rs) R' := hR ▸ pe_imp (pe_callG c hg hr hk hgl ha.pa hdb he hpl) fun σ H Q ⟨Hv, ow, f, q⟩ =>
  ⟨Hv, ow, f, fun vs Hv1 H1 s1 f1 g => ⟨a, Hv1, _, hp, g, fun z Hv2 H2 s2 sub o r => q z Hv2 H2 (s1.trans (s2.lift ha.ow)) (f1.calls ha.ow s2 sub o hall hos) r⟩⟩
/-- what stands in slot g, that no name sees -/
def An (g : Nat) (T : Addr) (σ : St) : Prop := σ[g]? = some (some (.ref T))
theorem An.at {Hv H : Hp} {σ : St} {ow : Nat → Addr} {g : Nat} {T : Addr} {P : Own} (h : An g T σ) (f : Fr Hv H σ Rs ow) (hg : Rs[g]? = some (.own P)) : ow g = T := by
  have e := (f.own g P hg).1
  have h' : σ[g]? = some (some (.ref T)) := h
  rw [h'] at e
  cases e
  rfl
/-- .. and the thing of slot g, handed on -/
theorem x_callT (g : Nat) {T : Addr} {Pt : Own} (c : CalG X.prog X.w X.K X.mg X.base k x (spG [some (.ref T)] pre As Os R)) (a : α) (hg : NoG X.A) (hr : Room j X.A) (hk : k ≤ j) (hp : pre a) (ht : Rs[g]? = some (.own Pt)) (ha : XAF X (e :: es) Rs (As a) js [g]) (hall : ∀ (k : Nat) (P : Own), (As a)[k]? = some (.own P) → ∃ Q, (k, Q) ∈ Os a)
    (hos : ∀ p ∈ Os a, ∃ P, (As a)[p.1]? = some (.own P)) (hgl : Gl X x := by rfl) (hdb : (x == ("__debug__" : Str)) = false := by decide) (he : starEach (e :: es) X.env = (false, eval e X.env) :: starEach es X.env := by rfl) (hpl : (backTo pos (starEach es X.env)).any (·.1) = false := by rfl) (hR : R a = R' := by rfl) :
    PE X (.Call (.Name x p) (e :: es) [] pos) (fun σ H Q => An g T σ ∧ tXF Rs (putAll js (Os a) Rs) R' σ H Q) := hR ▸ pe_imp (pe_callG c hg hr hk hgl ha.pa hdb he hpl) fun σ H Q ⟨an, Hv, ow, f, q⟩ =>
  ⟨Hv, ow, f, fun vs Hv1 H1 s1 f1 g' => ⟨a, Hv1, _, hp, by
    have e := an.at f ht
    rw [List.map_cons, List.map_nil, e] at g'
    exact g', fun z Hv2 H2 s2 sub o r => q z Hv2 H2 (s1.trans (s2.lift ha.ow)) (f1.calls ha.ow s2 sub o hall hos) r⟩⟩
end
end Bo
set_option maxHeartbeats 4000000
namespace Bo
open PySem L2
open PyProof.Rows (envOfC)
section
variable {X : Cx} {a b c : Expr} {Rs : Frm} {R : Rel} {p pos : Pos} {Z : Type} {pz : Z → Prop} {rest st : List Stmt} {pw : List (Nat × Own)}
theorem x_min2Z {i : Int} {g : Z → Int} (hc : X.calm = true) (hm : X.mg "min" = none) (ha : XE X a Rs (intR i)) (hb : XE X b Rs (exR pz fun z => intR (g z))) (hg : Gl X "min" := by rfl) (h1 : starEach [a, b] X.env = (false, eval a X.env) :: starEach [b] X.env := by rfl) (h2 : starEach [b] X.env = [(false, eval b X.env)] := by rfl) (hpl : (backTo pos (starEach [b] X.env)).any (·.1) = false := by rfl) :
    XE X (.Call (.Name "min" p) [a, b] [] pos) Rs (exR pz fun z => intR (min i (g z))) :=
  x_callB (call_min2 hc) (As := [intR i, exR pz fun z => intR (g z)]) (fun Hv H vs Q s h q => by
    match vs, h with
    | [v, w], ⟨e1, ⟨z, hz, e2⟩, _⟩ =>
      refine ⟨i, g z, by rw [show v = .int i from e1, show w = .int (g z) from e2], q _ _ _ (.refl s) ⟨z, hz, ?_⟩⟩
      show V.int _ = V.int _
      congr 1
      split <;> omega) hm (by decide +kernel) (xa_cons ha (xa_cons hb xa_nil h2) h1) hg (by decide) (by decide) h1 hpl
/-- a test of which nothing is known -/
def tXTU (Rs : Frm) : TT := fun σ H Q => ∃ Hv ow, Fr Hv H σ Rs ow ∧ ∀ b Hv' H', Stp Hv H Rs ow Hv' H' → Fr Hv' H' σ Rs ow → Q b H'
abbrev XTU (X : Cx) (e : Expr) (Rs : Frm) : Prop := PT X e (tXTU Rs)
theorem xtu_eqI {g : Z → Int} {j : Int} (ha : XE X a Rs (exR pz fun z => intR (g z))) (hb : XE X b Rs (intR j)) (hm : behindInMarks CmpOp.Eq b = false := by first | exact nomark _ | rfl) : XTU X (.Compare a [.Eq] [b] pos) Rs :=
  pt_imp (pt_cmpR op_eq ha hb hm) fun σ H Q ⟨Hv, ow, f, q⟩ => ⟨Hv, ow, f, fun x Hv1 H1 s1 f1 ⟨z, _, e1⟩ => ⟨Hv1, ow, f1, fun y Hv2 H2 s2 f2 e2 => by
    rw [show x = .int (g z) from e1, show y = .int j from e2]
    exact ⟨rfl, _, rfl, q _ Hv2 H2 (s1.trans s2) f2⟩⟩⟩
theorem b_ifU (h : XTU X c Rs) (h1 : PSs X st (tXR pw Rs R)) (h2 : PSs X rest (tXR pw Rs R)) : PSs X (.If c st [] pos :: rest) (tXR pw Rs R) :=
  pss_imp (pss_cons (ps_if h h1 pss_nil) h2) fun D σ H ⟨Hv, ow, f, q⟩ => ⟨Hv, ow, f, fun k Hv1 H1 s1 f1 => by
    cases k with
    | true => exact iteT ⟨Hv1, ow, f1, fun v Hv2 H2 s2 f2 o r => q v Hv2 H2 (s1.trans s2) f2 o r⟩
    | false => exact iteF ⟨Hv1, ow, f1, fun v Hv2 H2 s2 f2 o r => q v Hv2 H2 (s1.trans s2) f2 o r⟩⟩
end
theorem stM_len (ps : List Int) (k : Kd) : (stM ps k).length ≤ ps.length - 1 := by
  unfold stM
  rw [List.length_map]
  exact Nat.le_trans (List.length_filter_le ..) (by simp)
/-- an order, its kind, letters below -/
abbrev Cs := List Int × Kd × Nat
def okCs (z : Cs) : Prop := pmOk z.1 ∧ 1 + (stM z.1 z.2.1).length ≤ z.2.2 ∧ z.2.2 ≤ 4
abbrev csR (K : PySem.W.Frag) (z : Cs) : Rel := tupsR K [ptR K (z.1.map .int), strR z.2.1.s, intR (z.2.2 : Int), dR K (.list (lnD (fitM z.1 z.2.1 z.2.2)))]
section
variable {P : Program} {w : World} {K : PySem.W.Frag} {mg : Str → Option Value} {base : Heap}
abbrev sCase : Stmt := top 56
abbrev nCase : List Str := ["_law_jug_here", "_law_spots_here", "_law_sort", "_law_below"]
theorem scCase : FnScope nCase ["_law_jug_here"] (C8.fnScope sCase) := C8.fnScope_by (by decide +kernel)
abbrev spCase (K : PySem.W.Frag) : Sp := spE (fun _ : Unit => True) (fun _ => arg1 (jugO K) []) (fun _ => [(0, jugO K)]) fun _ => exR okCs (csR K)
theorem c_case (F : Df K mg "_law_board_case" sCase) (M : Md K mg) (c1 : C8.Cal P w K mg base 1 "_law_swig" (spSwig K) []) (c2 : C8.Cal P w K mg base 3 "_law_drawn_spots" (spDrawn K) []) (c3 : C8.Cal P w K mg base 2 "_law_one" (spOne K) []) (c4 : C8.Cal P w K mg base 1 "_law_sorts" (spSorts K) [])
    (c5 : C8.Cal P w K mg base 2 "_law_steep" (spSteep K) []) (c6 : C8.Cal P w K mg base 3 "_law_fitting" (spFit K) []) : C8.Cal P w K mg base 4 "_law_board_case" (spCase K) [] :=
  own_def F (fun _ _ _ _ _ _ us hl => match us, hl with | [_], _ => rfl) scCase 3 rfl (fun _ => rfl) fun f a cdv A outer s H E hp hr => by
    have nd := scCase.nd
    show PSs _ _ (tXR [(0, jugO K)] [.own (jugO K), .no, .no, .no] (exR okCs (csR K)))
    refine b_cons (n_par 1 2 (Ra := spotsR K) (Rb := oneR K kdDs) (x_call1S (α := Unit) (R' := spotsR K) 0 c2 () rfl hr (by decide) trivial (xa_cons x_int xa_nil)) (x_call1S (R' := oneR K kdDs) 0 c3 (.list kdDs, kdDs) rfl hr (by decide) ⟨.inl rfl, by decide, by decide⟩ (xa_cons (x_call0 (k := 1) (j := 3) (α := Unit) (pre := fun _ => True) (As := fun _ => []) (R := fun _ => dR K (.list kdDs)) (x := "_law_sorts") c4 () rfl hr (by decide) trivial) xa_nil)) rfl nd (by decide)) ?_ (os0 rfl rfl)
    show PSs _ _ (tXR [(0, jugO K)] [.own (jugO K), .is (spotsR K), .is (oneR K kdDs), .no] (exR okCs (csR K)))
    refine b_cov (cov_is (i := 1) rfl) fun ps hps => ?_
    refine b_cov (cov_is (i := 2) rfl) fun d hd => ?_
    obtain ⟨k, rfl⟩ : ∃ k : Kd, d = .str k.s := by
      rcases List.mem_cons.mp hd with e | hd
      · exact ⟨.fst, e⟩
      · rcases List.mem_cons.mp hd with e | hd
        · exact ⟨.lst, e⟩
        · exact ⟨.rng, List.mem_singleton.mp hd⟩
    show PSs _ _ (tXR [(0, jugO K)] [.own (jugO K), .is (ptR K (ps.map .int)), .is (dR K (.str k.s)), .no] (exR okCs (csR K)))
    have hl := pmOk_len hps
    have hs := stM_len ps k
    refine b_cons (n_set 3 (R := exR (fun z : Int => 0 ≤ z ∧ z < 3) fun z => intR (min 4 (1 + ((stM ps k).length : Int) + z))) (x_min2Z rfl M.min_ x_int (x_op op_add (ox_exR fun z _ => ox_I0) (x_add x_int (x_eI (x_lenL M.len (x_call c5 (ps, k) hr (by decide) hps (xa_cons (x_v 1) (xa_cons (x_toS (x_v 2)) xa_nil)))) (by simp))) (x_call1S (α := Nat) (R' := rngR 3) 0 c1 (3 : Nat) rfl hr (by decide) ⟨by decide, by decide⟩ (xa_cons x_int xa_nil)))) nd) ?_ (os0 rfl rfl)
    show PSs _ _ (tXR [(0, jugO K)] [.own (jugO K), .is (ptR K (ps.map .int)), .is (dR K (.str k.s)), .is (exR (fun z : Int => 0 ≤ z ∧ z < 3) fun z => intR (min 4 (1 + ((stM ps k).length : Int) + z)))] (exR okCs (csR K)))
    refine b_cov (cov_is (i := 3) rfl) fun z hz => ?_
    show PSs _ _ (tXR [(0, jugO K)] [.own (jugO K), .is (ptR K (ps.map .int)), .is (dR K (.str k.s)), .is (intR (min 4 (1 + ((stM ps k).length : Int) + z)))] (exR okCs (csR K)))
    obtain ⟨b, hb⟩ : ∃ b : Nat, min 4 (1 + ((stM ps k).length : Int) + z) = (b : Int) := ⟨(min 4 (1 + ((stM ps k).length : Int) + z)).toNat, by omega⟩
    rw [hb]
    have hb1 : 1 + (stM ps k).length ≤ b := by omega
    have hb2 : b ≤ 4 := by omega
    refine b_ret (x_exI (Rz := csR K) (ps, k, b) ⟨hps, hb1, hb2⟩ (x_tupR (xa_cons (x_v 1) (xa_cons (x_toS (x_v 2)) (xa_cons (x_v 3) (xa_cons (x_call c6 (ps, k, b) hr (by decide) ⟨hps, hb2⟩ (xa_cons (x_v 1) (xa_cons (x_toS (x_v 2)) (xa_cons (x_v 3) xa_nil)))) xa_nil)))))) (oz0 rfl)
/-! _law_board_deed -/
inductive Dd where
  | drop (p : Int) | put (p v : Int) | undo
def ddD : Dd → PyData
  | .drop p => .tuple [.str "drop", .int p, .none]
  | .put p v => .tuple [.str "put", .int p, .int v]
  | .undo => .tuple [.str "undo", .none, .none]
def okDd (n b : Nat) : Dd → Prop
  | .drop p => 0 ≤ p ∧ p < (n : Int)
  | .put p v => (0 ≤ p ∧ p < (n : Int)) ∧ 0 ≤ v ∧ v < (b : Int)
  | .undo => True
abbrev ddR (K : PySem.W.Frag) (n b : Nat) : Rel := exR (okDd n b) fun d => dR K (ddD d)
abbrev sDeed : Stmt := top 57
abbrev nDeed : List Str := ["_law_jug_here", "_law_spots_here", "_law_below"]
theorem scDeed : FnScope nDeed nDeed (C8.fnScope sDeed) := C8.fnScope_by (by decide +kernel)
abbrev spDeed (K : PySem.W.Frag) : Sp := spE (fun a : List Int × Nat => pmOk a.1 ∧ 1 ≤ a.2 ∧ a.2 ≤ 4) (fun a => arg1 (jugO K) [ptR K (a.1.map .int), intR (a.2 : Int)]) (fun _ => [(0, jugO K)]) fun a => ddR K a.1.length a.2
theorem c_deed (F : Df K mg "_law_board_deed" sDeed) (M : Md K mg) (c1 : C8.Cal P w K mg base 1 "_law_swig" (spSwig K) []) (c3 : C8.Cal P w K mg base 2 "_law_one" (spOne K) []) : C8.Cal P w K mg base 3 "_law_board_deed" (spDeed K) [] :=
  own_def F (fun _ _ _ _ _ _ us hl => match us, hl with | [_, _, _], _ => rfl) scDeed 0 rfl (fun _ => rfl) fun f a cdv A outer s H E hp hr => by
    obtain ⟨ps, b⟩ := a
    obtain ⟨h1, h2, h3⟩ := hp
    replace h1 : pmOk ps := h1
    replace h2 : 1 ≤ b := h2
    replace h3 : b ≤ 4 := h3
    have hl := pmOk_len h1
    have nd := scDeed.nd
    show PSs _ _ (tXR [(0, jugO K)] [.own (jugO K), .is (ptR K (ps.map .int)), .is (intR (b : Int))] (ddR K ps.length b))
    have lm : (ps.map PyData.int).length = ps.length := List.length_map ..
    refine b_ifU (xtu_eqI (x_call1S (α := Nat) (R' := rngR 4) 0 c1 (4 : Nat) rfl hr (by decide) ⟨by decide, by decide⟩ (xa_cons x_int xa_nil)) x_int) ?_ ?_
    · refine b_ret (x_weak (x_tupR (As := [strR "drop", oneR K (ps.map .int), nonR]) (xa_cons x_str (xa_cons (x_call1S (R' := oneR K (ps.map .int)) 0 c3 (.tuple (ps.map .int), ps.map .int) rfl hr (by decide) ⟨.inr rfl, by rw [lm]; exact hl.1, by rw [lm]; exact hl.2⟩ (xa_cons (x_pt (x_v 1)) xa_nil)) (xa_cons x_non xa_nil)))) fun H v ⟨l, xs, e, hs, g⟩ => ?_) (oz0 rfl)
      match xs, g with
      | [x1, x2, x3], ⟨g1, ⟨d, hd, g2⟩, g3, _⟩ =>
        obtain ⟨q, hq, eq⟩ := List.mem_map.mp hd
        subst eq
        refine ⟨.drop q, (pmOk_mem h1).mp hq, ?_⟩
        rw [e]
        refine .tup hs (.cons ?_ (.cons g2 (.cons ?_ .nil)))
        · rw [show x1 = .str "drop" from g1]
          exact .str _
        · rw [show x3 = .non from g3]
          exact .non
    · refine b_ret (x_weak (x_tupR (As := [strR "put", oneR K (ps.map .int), rngR (b : Int)]) (xa_cons x_str (xa_cons (x_call1S (R' := oneR K (ps.map .int)) 0 c3 (.tuple (ps.map .int), ps.map .int) rfl hr (by decide) ⟨.inr rfl, by rw [lm]; exact hl.1, by rw [lm]; exact hl.2⟩ (xa_cons (x_pt (x_v 1)) xa_nil)) (xa_cons (x_call1S (α := Nat) (R' := rngR (b : Int)) 0 c1 b rfl hr (by decide) ⟨h2, h3⟩ (xa_cons (x_v 2) xa_nil)) xa_nil)))) fun H v ⟨l, xs, e, hs, g⟩ => ?_) (oz0 rfl)
      match xs, g with
      | [x1, x2, x3], ⟨g1, ⟨d, hd, g2⟩, ⟨i, hi, g3⟩, _⟩ =>
        obtain ⟨q, hq, eq⟩ := List.mem_map.mp hd
        subst eq
        refine ⟨.put q i, ⟨(pmOk_mem h1).mp hq, hi⟩, ?_⟩
        rw [e]
        refine .tup hs (.cons ?_ (.cons g2 (.cons ?_ .nil)))
        · rw [show x1 = .str "put" from g1]
          exact .str _
        · rw [show x3 = .int i from g3]
          exact .int _
end
end Bo
set_option maxHeartbeats 4000000
/-! repr of data, of ints, of None. -/
namespace Bo
open PySem PySem.Spec L2
open PyProof.Rows hiding St
def repOk (d : PyData) : Prop := d.showable = true ∧ d.hasDict = false ∧ d.depth ≤ 10 ∧ d.leavesShort 13 = true ∧ d.weight ≤ 1000
section
variable {X : Cx} {a : Expr} {Rs : Frm} {p pos : Pos}
theorem cr_reprL (hg : NoG X.A) (hu : X.A.units + 64 < cLine) : CallR X (.builtin "repr") (fun xs H Q => ∃ v ds, xs = [v] ∧ Dp X.K H v (.list ds) ∧ repOk (.list ds) ∧ Q (.str (PyData.shown (.list ds))) H) := by
  intro pins s σ H xs us Q I r ⟨v, ds, ex, hd, ⟨r1, r2, r3, r4, r5⟩, q⟩
  subst ex
  obtain ⟨u, eu, rx⟩ := vals1 r
  subst eu
  obtain ⟨as, rd⟩ := Dp.reads I _ _ _ hd rx
  obtain ⟨l, xs, ev, _⟩ := dp_list hd
  subst ev
  cases rx
  refine PySem.repr_of_reads' rd r1 (fun e => by rw [r2] at e; cases e) hg (by omega) (fun _ _ e => e) (fun h' u' tk hk => ?_) (PyData.shown_fits (B := 13) (by decide) (by decide) r4 (by omega))
  exact ⟨.str _, H, I.kept hk, ⟨_, rfl⟩, q⟩
theorem cr_reprN : CallR X (.builtin "repr") (fun xs H Q => xs = [.non] ∧ Q (.str "None") H) := by
  intro pins s σ H xs us Q I r ⟨ex, q⟩
  subst ex
  obtain ⟨u, eu, rx⟩ := vals1 r
  subst eu
  cases rx
  exact PySem.P.repr_of_none ⟨.str _, H, I.tok _, ⟨_, rfl⟩, q⟩
theorem x_reprL {ds : List PyData} (hg : NoG X.A) (hu : X.A.units + 64 < cLine) (hm : X.mg "repr" = none) (hr : repOk (.list ds)) (h : XE X a Rs (dR X.K (.list ds))) (hgl : Gl X "repr" := by rfl) (h1 : starEach [a] X.env = [(false, eval a X.env)] := by rfl) : XE X (.Call (.Name "repr" p) [a] [] pos) Rs (strR (PyData.shown (.list ds))) :=
  x_callB (cr_reprL hg hu) (As := [dR X.K (.list ds)]) (R := strR (PyData.shown (.list ds))) (fun Hv H vs Q s h q => by
    obtain ⟨v, ev, h⟩ := h.one
    exact ⟨v, ds, ev, dp_mono s _ _ h, hr, q _ Hv H (.refl s) rfl⟩) hm (by decide +kernel) (xa_cons h xa_nil h1) hgl (by decide) (by decide) h1 rfl
theorem x_reprI {i : Int} (hm : X.mg "repr" = none) (hi : i.natAbs.log2 < 1920) (h : XE X a Rs (intR i)) (hgl : Gl X "repr" := by rfl) (h1 : starEach [a] X.env = [(false, eval a X.env)] := by rfl) : XE X (.Call (.Name "repr" p) [a] [] pos) Rs (strR (toString i)) :=
  x_callB SkE.call_repr_int (As := [intR i]) (R := strR (toString i)) (fun Hv H vs Q s h q => by
    obtain ⟨v, ev, h⟩ := h.one
    exact ⟨i, by rw [ev, show v = .int i from h], hi, q _ Hv H (.refl s) rfl⟩) hm (by decide +kernel) (xa_cons h xa_nil h1) hgl (by decide) (by decide) h1 rfl
end
/-! the data that is shown here -/
def smI (i : Int) : Prop := -1000 < i ∧ i < 1000
theorem smI_w {i : Int} (h : smI i) : PyData.weight (.int i) ≤ 10 := by
  have hn : i.natAbs < 2 ^ 10 := by
    have := h.1
    have := h.2
    omega
  show (if i == 0 then 0 else i.natAbs.log2 + 1) ≤ 10
  split
  · omega
  · by_cases h0 : i.natAbs = 0
    · rw [h0]
      decide
    · have := (Nat.log2_lt h0).mpr hn
      omega
theorem smI_ok {i : Int} (h : smI i) : i.natAbs.log2 < 1920 ∧ (PyData.shown (.int i)).length ≤ 13 := by
  have hn : i.natAbs < 2 ^ 10 := by
    have := h.1
    have := h.2
    omega
  refine ⟨?_, PyData.shown_int_le (by omega)⟩
  by_cases h0 : i.natAbs = 0
  · rw [h0]
    decide
  · exact Nat.lt_trans ((Nat.log2_lt h0).mpr hn) (by decide)
theorem fs_rep : ∀ t : List (Int × Int), (∀ p ∈ t, smI p.1 ∧ smI p.2) → PyData.showableAll (fsD t) = true ∧ PyData.hasDictAll (fsD t) = false ∧ PyData.depthAll (fsD t) ≤ 1 ∧ PyData.leavesShortAll 13 (fsD t) = true ∧ PyData.weightAll (fsD t) ≤ 30 * t.length
  | [], _ => ⟨rfl, rfl, by decide, rfl, by decide⟩
  | x :: t, h => by
    obtain ⟨i1, i2, i3, i4, i5⟩ := fs_rep t fun p hp => h p (List.mem_cons_of_mem _ hp)
    obtain ⟨hx, hy⟩ := h x List.mem_cons_self
    obtain ⟨a1, a2⟩ := smI_ok hx
    obtain ⟨b1, b2⟩ := smI_ok hy
    refine ⟨?_, ?_, ?_, ?_, ?_⟩
    · show ((decide (x.1.natAbs.log2 < 1920) && (decide (x.2.natAbs.log2 < 1920) && true)) && PyData.showableAll (fsD t)) = true
      rw [decide_eq_true a1, decide_eq_true b1, i1]
      rfl
    · show ((false || (false || false)) || PyData.hasDictAll (fsD t)) = false
      rw [i2]
      rfl
    · show max (PyData.depth (pairD x)) (PyData.depthAll (fsD t)) ≤ 1
      have e : PyData.depth (pairD x) = 1 := rfl
      omega
    · show ((decide ((PyData.shown (.int x.1)).length ≤ 13) && (decide ((PyData.shown (.int x.2)).length ≤ 13) && true)) && PyData.leavesShortAll 13 (fsD t)) = true
      rw [decide_eq_true a2, decide_eq_true b2, i4]
      rfl
    · have wx := smI_w hx
      have wy := smI_w hy
      show PyData.weight (pairD x) + 1 + PyData.weightAll (fsD t) ≤ _
      have e2 : PyData.weight (pairD x) = PyData.weight (.int x.1) + 1 + (PyData.weight (.int x.2) + 1 + 0) := rfl
      rw [e2, List.length_cons]
      omega
theorem rep4 {t u : List (Int × Int)} {m c : Int} (h1 : ∀ p ∈ t, smI p.1 ∧ smI p.2) (h2 : ∀ p ∈ u, smI p.1 ∧ smI p.2) (h3 : smI m) (h4 : smI c) (l1 : t.length ≤ 4) (l2 : u.length ≤ 4) : repOk (.list [.tuple (fsD t), .int m, .tuple (fsD u), .int c]) := by
  obtain ⟨i1, i2, i3, i4, i5⟩ := fs_rep t h1
  obtain ⟨j1, j2, j3, j4, j5⟩ := fs_rep u h2
  obtain ⟨a1, a2⟩ := smI_ok h3
  obtain ⟨b1, b2⟩ := smI_ok h4
  refine ⟨?_, ?_, ?_, ?_, ?_⟩
  · show (PyData.showableAll (fsD t) && (decide (m.natAbs.log2 < 1920) && (PyData.showableAll (fsD u) && (decide (c.natAbs.log2 < 1920) && true)))) = true
    rw [i1, j1, decide_eq_true a1, decide_eq_true b1]
    rfl
  · show (PyData.hasDictAll (fsD t) || (false || (PyData.hasDictAll (fsD u) || (false || false)))) = false
    rw [i2, j2]
    rfl
  · simp only [PyData.depth, PyData.depthAll]
    omega
  · show (PyData.leavesShortAll 13 (fsD t) && (decide ((PyData.shown (.int m)).length ≤ 13) && (PyData.leavesShortAll 13 (fsD u) && (decide ((PyData.shown (.int c)).length ≤ 13) && true)))) = true
    rw [i4, j4, decide_eq_true a2, decide_eq_true b2]
    rfl
  · have wm := smI_w h3
    have wc := smI_w h4
    show PyData.weightAll (fsD t) + 1 + (PyData.weight (.int m) + 1 + (PyData.weightAll (fsD u) + 1 + (PyData.weight (.int c) + 1 + 0))) ≤ 1000
    omega
end Bo
set_option maxHeartbeats 4000000
namespace Bo
open PySem L2
open PyProof.Rows (envOfC)
abbrev Dct := List (Int × Int)
/-- told letters: places below n, once each, letters below b -/
structure DOk (n b : Nat) (t : Dct) : Prop where
  rng : ∀ p ∈ t, (0 ≤ p.1 ∧ p.1 < (n : Int)) ∧ 0 ≤ p.2 ∧ p.2 < (b : Int)
  nd : (t.map (·.1)).Nodup
  len : t.length ≤ 4
/-- the same in the order of the places -/
structure Srt (L t : Dct) : Prop where
  pm : L.Perm t
  st : L.Pairwise (fun x y => x.1 < y.1)
abbrev linesM (z : Cs) : List (List Int) := fitM z.1 z.2.1 z.2.2
abbrev ordM (z : Cs) : Ord := (z.1, z.2.1)
theorem fit_mem {z : Cs} (h : okCs z) : ∀ l ∈ linesM z, l.length = z.1.length ∧ ∀ x ∈ l, 0 ≤ x ∧ x < (z.2.2 : Int) := fun l hl => evM_at _ l (List.mem_filter.mp hl).1
theorem fit_len {z : Cs} (h : okCs z) : (linesM z).length ≤ 256 := by
  refine Nat.le_trans (List.length_filter_le ..) ?_
  rw [evM_len]
  have hl := pmOk_len h.1
  calc z.2.2 ^ z.1.length ≤ 4 ^ z.1.length := Nat.pow_le_pow_left h.2.2 _
    _ ≤ 4 ^ 4 := Nat.pow_le_pow_right (by decide) hl.2
theorem getI_mem {t : Dct} (nd : (t.map (·.1)).Nodup) : ∀ {p : Int × Int}, p ∈ t → getI t p.1 = some p.2 := fun {p} hp => by
  obtain ⟨i, hi, e⟩ := List.getElem_of_mem hp
  have e2 : t.getD i (0, 0) = p := by rw [List.getD_eq_getElem?_getD, List.getElem?_eq_getElem hi, e]; rfl
  have := getI_at nd hi
  rw [e2] at this
  exact this
/-- what a good state tells -/
structure TOk (z : Cs) (t L : Dct) : Prop where
  d : DOk z.1.length z.2.2 t
  s : Srt L t
  ne : keM (linesM z) t ≠ []
  ma : maT (ordM z) z.2.2 L = ((keM (linesM z) t).length : Nat)
  sp : spT (ordM z) z.2.2 L = .tuple (spnM (keM (linesM z) t) z.1.length)
abbrev pastR (us : List Dct) : List Rel := us.reverse.map fun t => dcR (kI t)
theorem pastR_cons (t : Dct) (us : List Dct) : pastR (t :: us) = pastR us ++ [dcR (kI t)] := by
  unfold pastR
  rw [List.reverse_cons, List.map_append]
  rfl
section
variable {P : Program} {w : World} {K : PySem.W.Frag} {mg : Str → Option Value} {base : Heap} {CO CB : Addr}
abbrev sTells : Stmt := top 55
abbrev nTells : List Str := ["_law_board", "_law_lines", "_law_past", "_law_told", "_law_rest", "_law_due", "_law_k"]
theorem scTells : FnScope nTells ["_law_board", "_law_lines", "_law_past"] (C8.fnScope sTells) := C8.fnScope_by (by decide +kernel)
/-- the case; the newest dict, the older ones; its facts, the older ones' -/
abbrev TS5 := Cs × Dct × List Dct × Dct × Chn
abbrev okTl (a : TS5) : Prop := okCs a.1 ∧ TOk a.1 a.2.1 a.2.2.2.1 ∧ a.2.2.2.2.length = a.2.2.1.length ∧ a.2.2.1.length ≤ 100
abbrev brdO (K : PySem.W.Frag) (CO CB : Addr) (z : Cs) (ch : Chn) : Own := ownI CB (brdF K CO (ordM z) z.2.2 ch)
abbrev spTells (K : PySem.W.Frag) (CO CB : Addr) : Sp := spG [] okTl (fun a => [.own (brdO K CO CB a.1 (a.2.2.2.1 :: a.2.2.2.2)), .is (dR K (.list (lnD (linesM a.1)))), .own (ownLs (pastR (a.2.1 :: a.2.2.1)))]) (fun a => [(0, brdO K CO CB a.1 (a.2.2.2.1 :: a.2.2.2.2)), (2, ownLs (pastR (a.2.1 :: a.2.2.1)))]) fun _ => blR true
theorem c_tells {c : Addr} (F : DfC K mg "_law_board_tells" sTells c) (M : Md K mg) (c1 : C8.Cal P w K mg base 1 "_law_keeping" (spKeep K) []) (c2 : C8.Cal P w K mg base 1 "_law_spans" (spSpn K) [])
    (p1 : Prp P w K mg base 1 CB "facts" (spGet K CO CB fun a => ptR K (fsD a.2.2.1))) (p2 : Prp P w K mg base 1 CB "many" (spGet K CO CB fun a => intR (maT a.1 a.2.1 a.2.2.1))) (p3 : Prp P w K mg base 1 CB "spans" (spGet K CO CB fun a => dR K (spT a.1 a.2.1 a.2.2.1))) (p4 : Prp P w K mg base 1 CB "changes" (spGet K CO CB fun a => intR (a.2.2.2.length : Nat))) :
    CalG P w K mg base 4 "_law_board_tells" (spTells K CO CB) :=
  cal_defG (n := 4) F (fun _ _ _ _ _ _ us hl => match us, hl with | [_, _, _], _ => rfl) scTells rfl (fun _ => rfl) (fun i h1 h2 => absurd h2 (by show ¬ i < 3 + 0; exact Nat.not_lt.mpr h1)) fun f a A outer s H E hp hg hr => by
    obtain ⟨z, t, us, L, ch⟩ := a
    obtain ⟨hz, T, hl, hu⟩ := hp
    replace hz : okCs z := hz
    replace T : TOk z t L := T
    replace hl : ch.length = us.length := hl
    replace hu : us.length ≤ 100 := hu
    have nd := scTells.nd
    have hun : (A.deeper (envOfC "_law_board_tells" (C8.fnScope sTells) s.heap.objs.size f (.ref c))).units + 1 < cLine := by have := hr.units; omega
    refine pss_imp (t := tXR [(0, brdO K CO CB z (L :: ch)), (2, ownLs (pastR us ++ [dcR (kI t)]))] [.own (brdO K CO CB z (L :: ch)), .is (dR K (.list (lnD (linesM z)))), .own (ownLs (pastR us ++ [dcR (kI t)])), .no, .no, .no, .no] (blR true)) ?_ fun D σ H ⟨_, q⟩ => by
      rw [← pastR_cons]
      exact q
    have osX : ∀ {a b : Frm} {P0 P2 : Own}, (∃ P, a[0]? = some (Ent.own P)) → (∃ P, a[2]? = some (Ent.own P)) → (∃ P, b[0]? = some (Ent.own P)) → (∃ P, b[2]? = some (Ent.own P)) → ∀ p ∈ [((0 : Nat), P0), (2, P2)], (∃ P, a[p.1]? = some (Ent.own P)) ∧ ∃ P, b[p.1]? = some (Ent.own P) := fun {a b P0 P2} h1 h2 h3 h4 p hp => by
      rcases List.mem_cons.mp hp with e | hp
      · rw [e]
        exact ⟨h1, h3⟩
      · rw [List.mem_singleton.mp hp]
        exact ⟨h2, h4⟩
    have hb4 := hz.2.2
    have hn4 := (pmOk_len hz.1).2
    obtain ⟨rest, hrest⟩ : ∃ rest, rest = keM (linesM z) t := ⟨_, rfl⟩
    have hrm : ∀ l ∈ rest, l.length = z.1.length ∧ ∀ x ∈ l, 0 ≤ x ∧ x < (z.2.2 : Int) := fun l hl => fit_mem hz l (List.mem_filter.mp (by rw [hrest] at hl; exact hl)).1
    have hrl : rest.length ≤ 256 := by
      rw [hrest]
      exact Nat.le_trans (List.length_filter_le ..) (fit_len hz)
    have hpos : rest ≠ [] := by rw [hrest]; exact T.ne
    have hma : maT (ordM z) z.2.2 L = (rest.length : Nat) := by rw [hrest]; exact T.ma
    have hsp : spT (ordM z) z.2.2 L = .tuple (spnM rest z.1.length) := by rw [hrest]; exact T.sp
    obtain ⟨ns, hns⟩ : ∃ ns, ns = L.map (·.1) := ⟨_, rfl⟩
    have hLl : L.length ≤ 4 := by rw [T.s.pm.length_eq]; exact T.d.len
    have hnsl : ns.length = L.length := by rw [hns]; exact List.length_map ..
    have hgL : ∀ p ∈ L, getI t p.1 = some p.2 := fun p hp => getI_mem T.d.nd (T.s.pm.mem_iff.mp hp)
    refine b_cons (n_set 3 (R := dcR (kI t)) (x_ownLastR 2 (Ds := pastR us) rfl (x_neg x_int)) nd) ?_ (osX ⟨_, rfl⟩ ⟨_, rfl⟩ ⟨_, rfl⟩ ⟨_, rfl⟩)
    refine b_cons (n_set 4 (R := dR K (.list (lnD rest))) (by
      rw [hrest]
      exact x_call c1 (linesM z, t) hr (by decide) ⟨fit_len hz, fun l hl p hp => by
        rw [(fit_mem hz l hl).1]
        exact (T.d.rng p hp).1, T.d.nd, T.d.len⟩ (xa_cons (x_v 1) (xa_cons (x_v 3) xa_nil))) nd) ?_ (osX ⟨_, rfl⟩ ⟨_, rfl⟩ ⟨_, rfl⟩ ⟨_, rfl⟩)
    have ech : ((pastR us ++ [dcR (kI t)]).length : Int) - 1 = (ch.length : Nat) := by
      rw [hl, List.length_append]
      unfold pastR
      rw [List.length_map, List.length_reverse]
      show ((us.length + 1 : Nat) : Int) - 1 = _
      omega
    have efs : lcD ns.length (fun _ => true) (fun i => pairD (ns.getD i 0, (getI t (ns.getD i 0)).getD 0)) = fsD L := by
      rw [lcD_all, range_getD (fun k => pairD (k, (getI t k).getD 0)) 0 ns, hns, List.map_map]
      refine List.map_congr_left fun p hp => ?_
      show pairD (p.1, (getI t p.1).getD 0) = pairD p
      rw [hgL p hp]
      rfl
    refine b_cons (n_set 5 (R := tlR K [.tuple (fsD L), .int (rest.length : Nat), .tuple (spnM rest z.1.length), .int (ch.length : Nat)]) (x_lstT (xa_cons (x_tupOf (.inl rfl) M.tuple_ (x_eqd (x_dt ?_) (congrArg PyData.list efs))) (xa_cons (x_ofI (x_eI (x_lenL M.len (x_v 4)) (by rw [List.length_map]))) (xa_cons (x_call c2 (rest, z.1.length) hr (by decide) ⟨hpos, hrl, fun l hl => (hrm l hl).1, hn4⟩ (xa_cons (x_v 4) xa_nil)) (xa_cons (x_ofI (x_eI (x_sub (x_ownLenR 2 M.len rfl) x_int) ech)) xa_nil))))) nd) ?_ (osX ⟨_, rfl⟩ ⟨_, rfl⟩ ⟨_, rfl⟩ ⟨_, rfl⟩)
    · refine x_lcH (n := ns.length) (Rn := [.no, .is (dR K (.list (lnD (linesM z)))), .no, .is (dcR (kI t)), .is (dR K (.list (lnD rest))), .no, .no]) (I := fun i => intR (ns.getD i 0)) (fun _ => true) (fun i => pairD (ns.getD i 0, (getI t (ns.getD i 0)).getD 0)) (own := [("_law_k", 6)]) (ks := [6])
        (fun i => [.no, .is (dR K (.list (lnD (linesM z)))), .no, .is (dcR (kI t)), .is (dR K (.list (lnD rest))), .no, .is (intR (ns.getD i 0))]) (fun f => (f.hide 0).hide 2) rfl nd (xi_lstI (x_dt (x_srtKeys rfl M.sorted_ (x_v 3) (by have := T.d.len; omega) (by rw [hns]; exact T.s.pm.map _) ?_)))
        (blkOk_by (own := [("_law_k", 6)]) (N := nTells) (sc := C8.fnScope sTells) (by decide +kernel)) (by omega) (nof (by exact trivial)) (fun i _ => nof (by exact trivial)) (w1 rfl) (by decide) (fun _ _ _ _ _ i hi => xg_name 6 nd) (fun _ _ _ _ _ i hi => ts_nil)
        (fun _ _ _ _ _ i hi _ => x_tup (ds := [.int (ns.getD i 0), .int ((getI t (ns.getD i 0)).getD 0)]) (xa_cons (x_ofI (x_v 6)) (xa_cons (x_ofI (x_dget (k := Sum.inl (ns.getD i 0)) (v := .int ((getI t (ns.getD i 0)).getD 0)) hun (x_v 3) (x_v 6) ?_)) xa_nil)))
      · rw [hns, List.pairwise_map]
        exact T.s.st.imp fun h => Int.le_of_lt h
      · have hm : ns.getD i 0 ∈ ns := by
          rw [List.getD_eq_getElem?_getD, List.getElem?_eq_getElem hi]
          exact List.getElem_mem hi
        rw [hns] at hm
        obtain ⟨p, hp, ep⟩ := List.mem_map.mp hm
        rw [← hns] at ep
        rw [valV_kI, ← ep, hgL p hp]
        rfl
    · have spe : spnM rest z.1.length = fsD ((List.range z.1.length).map fun k => (minL (colM rest k), maxL (colM rest k))) := by
        show _ = List.map pairD (List.map _ _)
        rw [List.map_map]
        rfl
      have rp : repOk (.list [.tuple (fsD L), .int (rest.length : Nat), .tuple (spnM rest z.1.length), .int (ch.length : Nat)]) := by
        rw [spe]
        refine rep4 (fun p hp => ?_) (fun p hp => ?_) ⟨by omega, by omega⟩ ⟨by omega, by omega⟩ hLl (by rw [List.length_map, List.length_range]; exact hn4)
        · obtain ⟨⟨g1, g2⟩, g3, g4⟩ := T.d.rng p (T.s.pm.mem_iff.mp hp)
          exact ⟨⟨by omega, by omega⟩, by omega, by omega⟩
        · obtain ⟨k, hk, ek⟩ := List.mem_map.mp hp
          have hk' := List.mem_range.mp hk
          subst ek
          have ne : colM rest k ≠ [] := fun e => hpos (List.map_eq_nil_iff.mp e)
          have g : ∀ v ∈ colM rest k, smI v := fun v hv => by
            obtain ⟨l, hl, el⟩ := List.mem_map.mp hv
            obtain ⟨g1, g2⟩ := hrm l hl
            have hm : l.getD k 0 ∈ l := by
              rw [List.getD_eq_getElem?_getD, List.getElem?_eq_getElem (by rw [g1]; exact hk')]
              exact List.getElem_mem _
            obtain ⟨g3, g4⟩ := g2 _ hm
            rw [el] at g3 g4
            exact ⟨by omega, by omega⟩
          exact ⟨g _ (minL_mem ne).1, g _ (maxL_mem ne).1⟩
      have e1 : ∀ (Y : Cx) (hY : Y = BX P w K mg base nTells "_law_board_tells" (C8.fnScope sTells) f (.ref c) A outer s H E), True := fun _ _ => trivial
      refine b_ret (x_eB (x_cmp op_eq ox_eqS (x_reprL hg hr.units M.repr_ rp (x_eqd (x_lst (ds := [.tuple (fsD L), .int (maT (ordM z) z.2.2 L), spT (ordM z) z.2.2 L, .int (ch.length : Nat)]) (xa_cons (x_pt (x_prop 0 p1 (ordM z, z.2.2, L, ch) rfl hr (by decide) trivial)) (xa_cons (x_ofI (x_prop 0 p2 (ordM z, z.2.2, L, ch) rfl hr (by decide) trivial)) (xa_cons (x_prop 0 p3 (ordM z, z.2.2, L, ch) rfl hr (by decide) trivial) (xa_cons (x_ofI (x_prop 0 p4 (ordM z, z.2.2, L, ch) rfl hr (by decide) trivial)) xa_nil))))) (by rw [hma, hsp]))) (x_reprL hg hr.units M.repr_ rp (x_dt (x_v 5)))) (decide_eq_true rfl)) fun p hp => ?_
      rcases List.mem_cons.mp hp with e | hp
      · rw [e]
        rfl
      · rw [List.mem_singleton.mp hp]
        rfl
end
end Bo
set_option maxHeartbeats 4000000
namespace Bo
open PySem L2
open PyProof.Rows (envOfC)
/-- a block that returns, or raises -/
def tXX (CI CN CU : Addr) (E : XK) (o : Option Exn) (Os : List (Nat × Own)) (Rs : Frm) (R : Rel) : TS := fun D σ H => ∃ Hv ow, Fr Hv H σ Rs ow ∧ (o = none → ∀ v Hv' H', Stp Hv H Rs ow Hv' H' → Same Hv' H' → owns Os ow Hv' H' → R.r Hv' v → D.rt v H') ∧
  ∀ x, o = some x → ∀ cls d Hv' H', Stp Hv H Rs ow Hv' H' → Same Hv' H' → owns Os ow Hv' H' → ExnAt CI CN CU x cls d Hv' → E cls d H'
section
variable {X : Cx} {st : Stmt} {rest a : List Stmt} {Rs Rs1 Rs' : Frm} {Os : List (Nat × Own)} {E : XK} {o : Option Exn} {CI CN CU : Addr} {e c : Expr} {pos : Pos} {R : Rel}
theorem xx_cons (h : XN X st Rs Rs1) (hr : PSs X rest (tXX CI CN CU E o Os Rs1 R)) (hp : ∀ p ∈ Os, (∃ P, Rs[p.1]? = some (Ent.own P)) ∧ ∃ P, Rs1[p.1]? = some (Ent.own P)) : PSs X (st :: rest) (tXX CI CN CU E o Os Rs R) :=
  pss_imp (pss_cons h hr) fun D σ H ⟨Hv, ow, f, q1, q2⟩ => ⟨Hv, ow, f, fun σ1 Hv1 H1 ow1 s1 f1 => ⟨Hv1, ow1, f1, fun hn v Hv2 H2 s2 f2 o2 r => q1 hn v Hv2 H2 (s1.stp' s2) f2 (own_eq' hp s1 o2) r, fun x hx cls d Hv2 H2 s2 f2 o2 r => q2 x hx cls d Hv2 H2 (s1.stp' s2) f2 (own_eq' hp s1 o2) r⟩⟩
theorem xx_ifT (h : XT X c Rs true) (h1 : PSs X a (tXX CI CN CU E o Os Rs R)) : PSs X (.If c a [] pos :: rest) (tXX CI CN CU E o Os Rs R) :=
  pss_imp (pss_cons (ps_if h h1 pss_nil) pss_never) fun D σ H ⟨Hv, ow, f, q1, q2⟩ => ⟨Hv, ow, f, fun Hv1 H1 s1 f1 => iteT ⟨Hv1, ow, f1, fun hn v Hv2 H2 s2 f2 o r => q1 hn v Hv2 H2 (s1.trans s2) f2 o r, fun x hx cls d Hv2 H2 s2 f2 o r => q2 x hx cls d Hv2 H2 (s1.trans s2) f2 o r⟩⟩
theorem xx_ret (h : PE X e (tXFX CI CN CU (fun _ => E) Rs o Rs' R)) (hp : ∀ p ∈ Os, Rs'[p.1]? = some (Ent.own p.2)) : PSs X [.Return (some e) pos] (tXX CI CN CU E o Os Rs R) :=
  pss_imp (pss_one (ps_ret h)) fun D σ H ⟨Hv, ow, f, q1, q2⟩ => ⟨Hv, ow, f, fun hn v Hv' H' s' f' r => q1 hn v Hv' H' s' f'.sub (fun p hi => (f'.own p.1 p.2 (hp p hi)).2) r, fun x hx cls d Hv' H' s' f' r => q2 x hx cls d Hv' H' s' f'.sub (fun p hi => (f'.own p.1 p.2 (hp p hi)).2) r⟩
theorem xx_both (h : PSs X rest (tXX CI CN CU E o Os Rs R)) : (o = none → PSs X rest (tXR Os Rs R)) ∧ ∀ x, o = some x → PSs X rest (tXE CI CN CU E x Os Rs) := by
  refine ⟨fun hn => pss_imp h fun D σ H ⟨Hv, ow, f, q⟩ => ⟨Hv, ow, f, fun _ => q, fun x hx => by rw [hn] at hx; cases hx⟩, fun x hx => pss_imp h fun D σ H ⟨Hv, ow, f, q⟩ => ⟨Hv, ow, f, (fun hn => by rw [hn] at hx; cases hx), fun y hy => ?_⟩⟩
  rw [hx] at hy
  cases hy
  exact q
end
/-- a deed's parts -/
def ddRs : Dd → List Rel
  | .drop p => [strR "drop", intR p, nonR]
  | .put p v => [strR "put", intR p, intR v]
  | .undo => [strR "undo", nonR, nonR]
theorem dd_tups {K : PySem.W.Frag} (d : Dd) {H : Hp} {v : V} (h : (dR K (ddD d)).r H v) : (tupsR K (ddRs d)).r H v := by
  cases d with
  | drop p =>
    obtain ⟨a, xs, e, hs, ha⟩ := dp_tup (show Dp K H v (.tuple [.str "drop", .int p, .none]) from h)
    cases ha with
    | cons h1 h => cases h with
      | cons h2 h => cases h with
        | cons h3 h =>
          cases h
          exact ⟨a, _, e, hs, dp_str h1, dp_int h2, dp_non h3, trivial⟩
  | put p i =>
    obtain ⟨a, xs, e, hs, ha⟩ := dp_tup (show Dp K H v (.tuple [.str "put", .int p, .int i]) from h)
    cases ha with
    | cons h1 h => cases h with
      | cons h2 h => cases h with
        | cons h3 h =>
          cases h
          exact ⟨a, _, e, hs, dp_str h1, dp_int h2, dp_int h3, trivial⟩
  | undo =>
    obtain ⟨a, xs, e, hs, ha⟩ := dp_tup (show Dp K H v (.tuple [.str "undo", .none, .none]) from h)
    cases ha with
    | cons h1 h => cases h with
      | cons h2 h => cases h with
        | cons h3 h =>
          cases h
          exact ⟨a, _, e, hs, dp_str h1, dp_non h2, dp_non h3, trivial⟩
/-- order, letters, chain; the deed; the facts behind a put; by keywords or not -/
abbrev DO := Ord × Nat × Chn × Dd × Dct × Bool
def doR (o : Ord) (b : Nat) (ch : Chn) (d : Dd) (L : Dct) : Option Exn := match d with
  | .undo => undR ch
  | .put _ _ => becR o b L
  | .drop p => match ch with
    | t :: _ => drpR o b t p
    | [] => none
def doC (o : Ord) (b : Nat) (ch : Chn) (d : Dd) (L : Dct) : Chn := match d with
  | .undo => undC ch
  | .put _ _ => becC o b ch L
  | .drop p => match ch with
    | t :: ts => drpC o b t ts p
    | [] => []
def okDo (a : DO) : Prop := match a.2.2.2.1 with
  | .undo => a.2.2.1 ≠ []
  | .put p v => okPut ((a.1, a.2.1, a.2.2.1, a.2.2.2.2.1), p, v)
  | .drop p => ∃ t ts, a.2.2.1 = t :: ts ∧ okDrop (a.1, a.2.1, t, ts, p)
section
variable {P : Program} {w : World} {K : PySem.W.Frag} {mg : Str → Option Value} {base : Heap} {CO CB CI CN CU : Addr}
abbrev sDo : Stmt := top 59
abbrev nDo : List Str := ["_law_board", "_law_deed", "_law_is_named", "_law_word", "_law_spot", "_law_each"]
theorem scDo : FnScope nDo ["_law_board", "_law_deed", "_law_is_named"] (C8.fnScope sDo) := C8.fnScope_by (by decide +kernel)
abbrev spDo (K : PySem.W.Frag) (CO CB CI CN CU : Addr) : Sp := spX CI CN CU okDo (fun a => arg1 (ownI CB (brdF K CO a.1 a.2.1 a.2.2.1)) [dR K (ddD a.2.2.2.1), blR a.2.2.2.2.2]) (fun a => doR a.1 a.2.1 a.2.2.1 a.2.2.2.1 a.2.2.2.2.1) (fun a => [(0, ownI CB (brdF K CO a.1 a.2.1 (doC a.1 a.2.1 a.2.2.1 a.2.2.2.1 a.2.2.2.2.1)))]) fun _ => nonR
theorem f_do {f : Addr} {fd : FuncData} (F : C8.Fun K "_law_board_do" "_law_board_do" sDo f fd) (c1 : MetX P w K mg base 1 CB "undo" (spUndo K CO CB CI CN CU) ["self"])
    (c2 : MetX P w K mg base 6 CB "drop" (spDrop K CO CB CI CN CU) ["self", "place"]) (c3 : MetK P w K mg base 6 CB "drop" (spDrop K CO CB CI CN CU) ["self", "place"] ["place"] (fun l => l))
    (c4 : MetX P w K mg base 6 CB "put" (spPut K CO CB CI CN CU) ["self", "place", "letter"]) (c5 : MetK P w K mg base 6 CB "put" (spPut K CO CB CI CN CU) ["self", "place", "letter"] ["letter", "place"] List.reverse) : FnOk P w K mg base (L2.CX P w) 7 f fd ["_law_board", "_law_deed", "_law_is_named"] (spDo K CO CB CI CN CU) := by
  refine fnXR (n := 3) F scDo rfl (fun _ => rfl) fun a cdv A outer s H E hp hr tk => xx_both ?_
  obtain ⟨o, b, ch, d, L, nm⟩ := a
  have nd := scDo.nd
  have s1 : XN (BXX P w K mg base nDo "_law_board_do" (C8.fnScope sDo) f cdv A outer s H E) ((C8.fnBody sDo).getD 0 (.Pass ⟨0, 0, 0, 0⟩)) [.own (ownI CB (brdF K CO o b ch)), .is (dR K (ddD d)), .is (blR nm), .no, .no, .no] ([.own (ownI CB (brdF K CO o b ch)), .is (dR K (ddD d)), .is (blR nm)] ++ (ddRs d).map .is) := by
    cases d with
    | drop p => exact n_asg (x_weak (x_v 1) fun H v r => dd_tups (.drop p) r) (xg_tup rfl (xgs_cons (xg_name 3 nd) (xgs_cons (xg_name 4 nd) (xgs_cons (xg_name 5 nd) xgs_nil)))) (so (by exact trivial))
    | put p v => exact n_asg (x_weak (x_v 1) fun H v' r => dd_tups (.put p v) r) (xg_tup rfl (xgs_cons (xg_name 3 nd) (xgs_cons (xg_name 4 nd) (xgs_cons (xg_name 5 nd) xgs_nil)))) (so (by exact trivial))
    | undo => exact n_asg (x_weak (x_v 1) fun H v r => dd_tups .undo r) (xg_tup rfl (xgs_cons (xg_name 3 nd) (xgs_cons (xg_name 4 nd) (xgs_cons (xg_name 5 nd) xgs_nil)))) (so (by exact trivial))
  cases d with
  | undo =>
    refine xx_cons s1 ?_ (os0 rfl rfl)
    exact xx_ifT (xt_is (xt_eqS (x_v 3) x_str) rfl) (xx_ret (x_methX0 0 c1 (o, b, ch) rfl rfl rfl hr (by decide) hp tk) (oz0 rfl))
  | drop p =>
    obtain ⟨t, ts, e, hq⟩ := hp
    replace e : ch = t :: ts := e
    subst e
    refine xx_cons s1 ?_ (os0 rfl rfl)
    refine xx_cons (n_ifF (xt_is (xt_eqS (x_v 3) x_str) (by decide))) ?_ (os0 rfl rfl)
    refine xx_ifT (xt_is (xt_eqS (x_v 3) x_str) rfl) (xx_ret (Rs' := [.own (ownI CB (brdF K CO o b (drpC o b t ts p))), .is (dR K (ddD (.drop p))), .is (blR nm), .is (strR "drop"), .is (intR p), .is nonR]) (x_ifX (k := nm) (xt_val (x_v 2)) (fun _ => ?_) fun _ => ?_) (oz0 rfl))
    · exact pe_imp (x_methK (Rs := [.own (ownI CB (brdF K CO o b (t :: ts))), .is (dR K (ddD (.drop p))), .is (blR nm), .is (strR "drop"), .is (intR p), .is nonR]) 0 c3 (o, b, t, ts, p) rfl rfl hr (by decide) hq tk (xkw_cons (x_v 4) xkw_nil) (fun _ _ h => h)) fun σ H Q q => q
    · exact pe_imp (x_methX (Rs := [.own (ownI CB (brdF K CO o b (t :: ts))), .is (dR K (ddD (.drop p))), .is (blR nm), .is (strR "drop"), .is (intR p), .is nonR]) 0 c2 (o, b, t, ts, p) rfl rfl hr (by decide) hq tk (xa_cons (x_v 4) xa_nil)) fun σ H Q q => q
  | put p v =>
    refine xx_cons s1 ?_ (os0 rfl rfl)
    refine xx_cons (n_ifF (xt_is (xt_eqS (x_v 3) x_str) (by decide))) ?_ (os0 rfl rfl)
    refine xx_cons (n_ifF (xt_is (xt_eqS (x_v 3) x_str) (by decide))) ?_ (os0 rfl rfl)
    cases nm with
    | true =>
      refine xx_ifT (xt_val (x_v 2)) (xx_ret (x_methK 0 c5 ((o, b, ch, L), p, v) rfl rfl hr (by decide) hp tk (xkw_cons (x_v 5) (xkw_cons (x_v 4) xkw_nil)) fun Hv vs h => ?_) (oz0 rfl))
      match vs, h with
      | [x, y], ⟨h1, h2, _⟩ => exact ⟨h2, h1, trivial⟩
    | false =>
      refine xx_cons (n_ifF (xt_val (x_v 2))) ?_ (os0 rfl rfl)
      exact xx_ret (x_methX 0 c4 ((o, b, ch, L), p, v) rfl rfl hr (by decide) hp tk (xa_cons (x_v 4) (xa_cons (x_v 5) xa_nil))) (oz0 rfl)
end
end Bo
set_option maxHeartbeats 4000000
/-! try with several clauses, the first of them with a name. -/
namespace Bo
open PySem PySem.Spec L2
open PyProof.Rows hiding St
abbrev Ends.gone (D : L2.Ends) (i : Nat) : L2.Ends := { nx := fun σ' H' => D.nx (σ'.set i none) H', rt := D.rt, bk := fun σ' H' => D.bk (σ'.set i none) H', ct := fun σ' H' => D.ct (σ'.set i none) H' }
/-- what the clauses wish of an exception: the first, whose name has slot i; then the others -/
def wAsMany (K : PySem.W.Frag) (Wout : WX) (D : L2.Ends) (c : Value) (i : Nat) (ts : Addr → Value → Option Addr → TS) (l : List (Value × (Addr → Value → Option Addr → TS))) : WX := fun cls d σ H =>
  ∃ b, PySem.W.exmOne K cls c = some b ∧ (b = true → ∀ a, H a = none → ts a cls d (Ends.gone D i) (σ.set i (some (.ref a))) H) ∧ (b = false → wMany K Wout D l cls d σ H)
section
variable {X : Cx} {x n : Str} {c : Value} {i : Nat} {body suite : List Stmt} {b₀ : Stmt} {np pos pos' : Pos} {hds : List ExceptHandler} {l : List (Value × (Addr → Value → Option Addr → TS))} {tb : WX → TS} {ts : Addr → Value → Option Addr → TS} {Wout : WX}
/-- the class of a clause is looked up while the exception stands -/
theorem names_ld {pins : List (Addr × Obj)} {σ : L2.St} {H : Hp} {s : Shared} {a : Addr} {oe : Obj} {y : Str} {d : Value} {yp : Pos} (hc : Names X y d) (S : Inv (X.suite a ((a, oe) :: (X.pn ++ pins))) [] σ H s) {Q : Value → Shared → Prop} {E : Value → Shared → Prop} (q : Q d s) :
    wpAny (model X.prog X.w) (X.A.mark (some (.ref a))) (eval (.Name y yp) X.env) Q E s := by
  obtain ⟨hg, hdbg, hm⟩ := hc
  rcases hm with hm | ⟨hm, hv, hnn⟩
  · exact ld_glob (X := X.suite a ((a, oe) :: (X.pn ++ pins))) S hg hm q hdbg
  · exact ld_blt (X := X.suite a ((a, oe) :: (X.pn ++ pins))) S hg hm hv q hnn hdbg
theorem ps_try_asMany (hs : X.stack = X.env :: X.outer) (hf : X.env.frame = some X.env.locals) (hN : X.N.Nodup) (hi : X.N[i]? = some n) (hln : X.env.kindOf n = some .local) (hc : Names X x c) (tk : Takes X Wout)
    (hb : ∀ (W : WX) (pn : List (Addr × Obj)) (xe : Value → Shared → Prop), Takes (X.tr pn xe) W → PassesOwn (model X.prog X.w) X.A X.env xe → PSs (X.tr pn xe) body (tb W))
    (hsu : ∀ (a : Addr) (oe : Obj) (cls : Value) (d : Option Addr) (pn : List (Addr × Obj)), Zc cls d oe → (∃ vs, oe.data = .fields vs) → PSs (X.suite a ((a, oe) :: pn)) (b₀ :: suite) (ts a cls d)) (hh : HdsOk X hds l) :
    PS X (.Try body (.ExceptHandler (some (.Name x np)) (some n) (b₀ :: suite) pos' :: hds) [] [] pos) (fun D σ H => tb (wAsMany X.K Wout D c i ts l) D σ H) := by
  refine ⟨fun pins s σ H D I h => ?_⟩
  have ok := I.ok
  have frm : X.A.frames = some (X.env :: X.outer) := by rw [ok.frames, hs]
  refine wpAny_Try_except (wpAny_mono ((hb (wAsMany X.K Wout D c i ts l) (X.pn ++ pins) (fun e s₁ => wpAny (model X.prog X.w) X.A (noteFrame e X.env) (fun _ s₂ => wpAny (model X.prog X.w) X.A (setFlight e none) (fun _ s₃ =>
    wpAny (model X.prog X.w) X.A (handleBy e X.env (.ExceptHandler (some (.Name x np)) (some n) (b₀ :: suite) pos' :: hds)) (SP X pins D) X.xe s₃) X.xe s₂) X.xe s₁) (fun u s' xx => ?_) PassesOwn.looking).run [] s σ H D (I.toTry _) h) (fun fl s1 hsp => ?_) (fun e s1 he => he))
  · obtain ⟨a, B, sI, pins', σ', H', cls, d, rfl, J0, nb, up, sky, na, os, ag, w⟩ := xx
    have J : Inv X pins σ' H' sI := J0.ofTry ok
    show wpAny (model X.prog X.w) X.A (noteFrame (.ref a) X.env) _ _ _
    refine Sky.land Zc.steady frm hf (by rw [← hs]; exact sky) fun h3 fl3 up3 => ?_
    have J3 : Inv X pins σ' H' { s' with heap := h3 } := J.landed nb fl3.1 (up.trans up3) os ag
    obtain ⟨oe3, vs3, he3, hz3, hd3⟩ := fl3.there
    have nfr : a ∉ frs (X.env :: X.outer) := fun hm => by
      obtain ⟨_, o', e', hnf⟩ := fl3.2.2.1.mem hm
      rw [he3] at e'
      cases e'
      exact hnf _ hd3
    have nL : a ≠ X.env.locals := fun z => nfr (List.mem_filterMap.mpr ⟨X.env, List.mem_cons_self, by rw [hf, z]⟩)
    have nF : a ∉ X.fs := fun hm => by
      obtain ⟨e, he, q⟩ := List.mem_filterMap.mp hm
      exact nfr (List.mem_filterMap.mpr ⟨e, List.mem_cons_of_mem _ he, q⟩)
    have S3 := J3.suite he3 hd3 na nL nF
    have LT : PySem.W.Looks (model X.prog X.w) h3 (typeOf (.ref a)) cls := fun A Q E s k q => wpAny_typeOf_ref (k _ _ he3) (by rw [hz3.1]; exact q)
    -- the clauses without a name
    have rest : ∀ {hds' : List ExceptHandler} {l' : List (Value × (Addr → Value → Option Addr → TS))}, HdsOk X hds' l' → wMany X.K Wout D l' cls d σ' H' →
        wpAny (model X.prog X.w) X.A (handleBy (.ref a) X.env hds') (SP X pins D) X.xe { s' with heap := h3 } := by
      intro hds' l' hk
      induction hk with
      | nil =>
        intro w'
        obtain ⟨k1, k2, k3, oe, vs, T, oT, ts', he, hz, hd, h1, hr⟩ := id fl3
        refine wpAny_handleBy_nil ?_
        unfold PySem.passOn
        refine wpAny_bind (wpAny_field he hd h1 ?_)
        rw [if_neg (show ¬ ((Value.ref T == Value.none) = true) from by simp)]
        have leave : wpAny (model X.prog X.w) X.A (setFlight (.ref a) X.env.frame) (fun _ s4 => wpAny (model X.prog X.w) X.A (throw (.ref a) : Sem Flow) (SP X pins D) X.xe s4) X.xe { s' with heap := h3 } := by
          rw [hf]
          exact HandSPX.setFlight_upZ fl3 fun h4 hh4 up4 => wpAny_throw (tk _ _ ⟨a, B, sI, pins, σ', H', cls, d, rfl, J, nb, (up.trans up3).trans up4, .inr (.inr (by rw [hs]; exact hh4)), na, os, ag, w'⟩)
        first
          | exact wpAny_bind (wpAny_pure (wpAny_bind leave))
          | exact wpAny_bind leave
      | @cons y c' ts' b' suite' yp yp' hds2 l2 hc' hsu' r ih =>
        intro ⟨b, hb1, hyes, hno⟩
        refine wpAny_handleBy_cons (codeAny_handlers_test (names_ld hc' S3 ((PySem.W.exm_one (M := model X.prog X.w) (J3.kIn) LT hb1).here ?_))) (by intro q; cases q)
        cases b with
        | true =>
          refine codeAny_handlers_suite (HandSPX.lands_againZ fl3 fun h4 fl4 up4 => ?_)
          obtain ⟨oe4, vs4, he4, hz4, hd4⟩ := fl4.there
          have J4 : Inv X pins σ' H' { s' with heap := h4 } := J.landed nb fl4.1 ((up.trans up3).trans up4) os ag
          refine wpAny_mono ((hsu' a oe4 cls d (X.pn ++ pins) hz4 ⟨_, hd4⟩).run [] _ _ H' _ (J4.suite he4 hd4 na nL nF) (hyes rfl a na)) (fun f s6 hsp => ?_) (fun _ _ z => False.elim z)
          cases f with
          | ret u => obtain ⟨v6, σ6, H6, S6, r6, q6⟩ := hsp; exact ⟨_, _, _, S6.unsuite ok, r6, q6⟩
          | next => obtain ⟨σ6, H6, S6, q6⟩ := hsp; exact ⟨_, _, S6.unsuite ok, q6⟩
          | brk => obtain ⟨σ6, H6, S6, q6⟩ := hsp; exact ⟨_, _, S6.unsuite ok, q6⟩
          | cont => obtain ⟨σ6, H6, S6, q6⟩ := hsp; exact ⟨_, _, S6.unsuite ok, q6⟩
        | false =>
          show wpAny _ X.A (handleBy (.ref a) X.env hds2) _ _ _
          exact ih (hno rfl)
    -- the first
    obtain ⟨b, hb1, hyes, hno⟩ := w
    refine wpAny_handleBy_cons (codeAny_handlers_test (names_ld hc S3 ((PySem.W.exm_one (M := model X.prog X.w) (J3.kIn) LT hb1).here ?_))) (by intro q; cases q)
    cases b with
    | true =>
      refine codeAny_handlers_suite_as (HandSPX.lands_againZ fl3 fun h4 fl4 up4 => ?_)
      obtain ⟨oe4, vs4, he4, hz4, hd4⟩ := fl4.there
      have J4 : Inv X pins σ' H' { s' with heap := h4 } := J.landed nb fl4.1 ((up.trans up3).trans up4) os ag
      refine store_ok (X := X.suite a ((a, oe4) :: (X.pn ++ pins))) (v := .ref a) (J4.suite he4 hd4 na nL nF) hN hi (show Loc X.env.scope n from .inl hln) rfl (fun s5 S5 => ?_) (.inr hln)
      refine wpAny_mono ((hsu a oe4 cls d (X.pn ++ pins) hz4 ⟨_, hd4⟩).run [] s5 _ H' _ S5 (hyes rfl a na)) (fun f s6 hsp => ?_) (fun _ _ z => False.elim z)
      have end_ : ∀ {σ6 : L2.St} {H6 : Hp} {Q : Shared → Prop}, Inv (X.suite a ((a, oe4) :: (X.pn ++ pins))) [] σ6 H6 s6 → (∀ s7, Inv X pins (σ6.set i none) H6 s7 → Q s7) →
          wpAny (model X.prog X.w) X.A (do bindName X.env n .none; unbindBehindTheSuite X.env n pos') (fun _ s7 => Q s7) X.xe s6 := fun {σ6 H6 Q} S6 hq => gone_ok (S6.unsuite ok) hN hi hln hq
      cases f with
      | ret u => obtain ⟨v6, σ6, H6, S6, r6, q6⟩ := hsp; exact end_ S6 fun s7 J7 => ⟨_, _, _, J7, r6, q6⟩
      | next => obtain ⟨σ6, H6, S6, q6⟩ := hsp; exact end_ S6 fun s7 J7 => ⟨_, _, J7, q6⟩
      | brk => obtain ⟨σ6, H6, S6, q6⟩ := hsp; exact end_ S6 fun s7 J7 => ⟨_, _, J7, q6⟩
      | cont => obtain ⟨σ6, H6, S6, q6⟩ := hsp; exact end_ S6 fun s7 J7 => ⟨_, _, J7, q6⟩
    | false =>
      show wpAny _ X.A (handleBy (.ref a) X.env hds) _ _ _
      exact rest hh (hno rfl)
  · cases fl with
    | next => obtain ⟨σ', H', J', q⟩ := hsp; exact wpAny_execs_nil ⟨σ', H', J'.ofTry ok, q⟩
    | brk => obtain ⟨σ', H', J', q⟩ := hsp; exact ⟨σ', H', J'.ofTry ok, q⟩
    | cont => obtain ⟨σ', H', J', q⟩ := hsp; exact ⟨σ', H', J'.ofTry ok, q⟩
    | ret u => obtain ⟨v, σ', H', J', r, q⟩ := hsp; exact ⟨v, σ', H', J'.ofTry ok, r, q⟩
end
end Bo
set_option maxHeartbeats 4000000
namespace Bo
open PySem L2
open PyProof.Rows (envOfC)
theorem takes_len {X : Cx} {W : WX} (tk : Takes X W) : Takes X (fun cls d σ H => σ.length = X.N.length → W cls d σ H) := fun u s' ⟨a, B, sI, pins, σ, H, cls, d, e, I, nb, up, sky, na, os, ag, w⟩ =>
  tk u s' ⟨a, B, sI, pins, σ, H, cls, d, e, I, nb, up, sky, na, os, ag, w I.len⟩
theorem pe_mono {X : Cx} {e : Expr} {t : TE} (h : PE X e t) : PE X e (fun σ H Q => ∃ Qc : VK, t σ H Qc ∧ ∀ v H', Qc v H' → Q v H') :=
  ⟨fun pins s σ H Q I ⟨Qc, h1, m⟩ => wpAny_mono (h.run pins s σ H Qc I h1) (fun _ _ ⟨x, H', I', r, q⟩ => ⟨x, H', I', r, m _ _ q⟩) fun _ _ z => z⟩
abbrev sCaught : Stmt := top 58
abbrev nCaught : List Str := ["_law_act", "_law_told", "e"]
theorem scCaught : FnScope nCaught ["_law_act"] (C8.fnScope sCaught) := C8.fnScope_by (by decide +kernel)
/-- two texts, a new tuple -/
def newTS (a b : Str) (H : Hp) (Q : VK) : Prop := ∀ p, H p = none → Q (.ref p) (upd H p (.tup [.str a, .str b]))
def caughtE (CI CN CU : Addr) (Q : VK) : XK := fun cls d H => (cls = .ref CI ∧ ∃ dd v, d = some dd ∧ H dd = some (.xd [("given", .int v)]) ∧ v.natAbs.log2 < 1920 ∧ newTS "InvalidNumber" (toString v) H Q) ∨ (cls = .ref CN ∧ newTS "NoText" "" H Q) ∨ (cls = .ref CU ∧ newTS "NothingToUndo" "" H Q)
def TTc (CI CN CU : Addr) : (XK → Hp → VK → Prop) → Hp → VK → Prop := fun tl H Q => tl (caughtE CI CN CU Q) H fun v H' => v = .non ∧ newTS "told" "None" H' Q
section
variable {X : Cx} {CI CN CU g : Addr} {cdg : Value} {q : Str}
theorem caught_gives (EC : ErrC X.K X.mg CI CN CU) (hm : X.mg "repr" = none) : LamX.GivesTo X nCaught "_law_board_caught" (C8.fnScope sCaught) g cdg (C8.fnBody sCaught) "_law_act" q (TTc CI CN CU) := by
  intro f c' s H Q tl act hc h
  have nd := scCaught.nd
  refine ⟨_, pss_cons (ps_try_asMany (X := (cxOf C8.CX0 X.prog X.w X.K X.mg X.base nCaught "_law_board_caught" (C8.fnScope sCaught) g cdg X.A X.stack s H C8.E0).nox) (c := .ref CI) (i := 2) (l := [(.ref CN, _), (.ref CU, _)])
      (tb := fun W D σ H => ∃ (Ech : XK) (Qc : VK), (∀ cls d σ' H', Ech cls d H' → σ'.length = 3 → W cls d σ' H') ∧ (∀ v H', Qc v H' → D.nx (σ.set 1 (some v)) H') ∧ σ[0]? = some (some (.ref f)) ∧ H c' = some (LamX.CodeO c' q) ∧ tl Ech H Qc)
      rfl rfl nd rfl rfl ⟨rfl, rfl, .inl EC.mgI⟩ LamX.takes0 (fun W pn xe tk _ => ?_) (fun a oe cls d pn hz hf => pss_one (ps_ret (pe_tup (pa_cons pe_str (pa_cons (pe_callB SkE.call_repr_int rfl hm (by decide +kernel) (pa_cons (pe_xf EC.xf EC.noG hz hf (pv 2)) pa_nil)) pa_nil)))))
      (.cons ⟨rfl, rfl, .inl EC.mgN⟩ (fun a oe cls d pn _ _ => pss_one (ps_ret (pe_tup (pa_cons pe_str (pa_cons pe_str pa_nil))))) (.cons ⟨rfl, rfl, .inl EC.mgU⟩ (fun a oe cls d pn _ _ => pss_one (ps_ret (pe_tup (pa_cons pe_str (pa_cons pe_str pa_nil))))) .nil)))
    (pss_one (ps_ret (pe_tup (pa_cons pe_str (pa_cons (pe_callB cr_reprN rfl hm (by decide +kernel) (pa_cons (pv 1) pa_nil)) pa_nil))))), ?_⟩
  · refine ⟨fun pins s' σ H' D I h' => ?_⟩
    obtain ⟨Ech, Qc, hW, hQ, h1, h2, h3⟩ := h'
    have hp := fun p1 p2 => pe_mono (act _ pn xe Ech p1 p2 (takes_len tk) hW)
    exact (pss_one (ps_set nd (i := 1) rfl (.inl rfl) (hp _ _) rfl (.inr rfl))).run pins s' σ H' D I ⟨Qc, ⟨h1, h2, h3⟩, hQ⟩
  · refine ⟨caughtE CI CN CU Q, fun v H' => v = .non ∧ newTS "told" "None" H' Q, fun cls d σ' H' hE hl => ?_, fun v H' ⟨ev, hq⟩ => ?_, rfl, hc, h⟩
    · have lt : 2 < σ'.length := by omega
      rcases hE with ⟨e1, dd, v, e2, e3, e4, e5⟩ | ⟨e1, e5⟩ | ⟨e1, e5⟩
      · subst e1 e2
        refine ⟨true, EC.mII, fun _ a ha => ?_, fun z => by cases z⟩
        refine ⟨.ref a, List.getElem?_set_self lt, rfl, rfl, dd, _, .int v, rfl, e3, rfl, v, rfl, e4, ?_⟩
        exact ⟨(by show 2 ≤ sizeLine; decide), fun p hp => e5 p hp⟩
      · subst e1
        refine ⟨false, EC.mNI, (fun z => by cases z), fun _ => ⟨true, EC.mNN, fun _ a ha => ?_, fun z => by cases z⟩⟩
        exact ⟨(by show 2 ≤ sizeLine; decide), fun p hp => e5 p hp⟩
      · subst e1
        refine ⟨false, EC.mUI, (fun z => by cases z), fun _ => ⟨false, EC.mUN, (fun z => by cases z), fun _ => ⟨true, EC.mUU, fun _ a ha => ?_, fun z => by cases z⟩⟩⟩
        exact ⟨(by show 2 ≤ sizeLine; decide), fun p hp => e5 p hp⟩
    · subst ev
      exact ⟨.non, List.getElem?_set_self (by show 1 < 3; decide), rfl, (by show 2 ≤ sizeLine; decide), fun p hp => hq p hp⟩
end
end Bo
set_option maxHeartbeats 4000000
/-! A lambda handed to a def: the table of code objects as a hidden thing. -/
namespace Bo
open PySem PySem.Spec L2 LamX
open PyProof.Rows hiding St
/-- the codes of the table at P are old ones, or objects that were not there -/
def NewC (H H1 : Hp) (P : Addr) : Prop := ∀ ps ps' : Array Value, H P = some (.tbl ps) → H1 P = some (.tbl ps') → ∀ (pos : Pos) (c : Addr), codeAmong pos ps'.toList = some (.ref c) → codeAmong pos ps.toList = some (.ref c) ∨ H c = none
/-- all but the object at P is kept -/
def ExtP (P : Addr) (H H1 : Hp) : Prop := ∀ b o, H b = some o → b ≠ P → H1 b = some o
theorem among_back {pos p' : Pos} {c cv : Value} (l : List Value) (h : TriplesOk l) (hc : codeAmong p' (l ++ [rawInt pos.line, rawInt pos.col, c]) = some cv) : codeAmong p' l = some cv ∨ cv = c := LamX.among_app l h hc
section
variable {X : Cx} {pins : List (Addr × Obj)} {σ : L2.St} {H : Hp} {s : Shared}
theorem lam_one {c P : Addr} {q : Str} {params : Arguments} {body : Expr} {scope : Scope} {pos : Pos} {E : Value → Shared → Prop} {Q : Value → Shared → Prop} (I : Inv X pins σ H s) (TB : TabB X.base X.mg c P) (hcode : X.env.code = .ref c) (hq : X.env.qual ++ "<lambda>" = q)
    (hT : TabS H P q) (hdef : defaultsOf params X.env = ([], [])) (hfree : ∀ y ∈ scope.names, y.2 = .free → ∃ c, X.env.cells.lookup y.1 = some c)
    (h : ∀ (f c' : Addr) (pm ctv : Value) (H1 : Hp) (s' : Shared), Inv X pins σ H1 s' → ExtP P H H1 → TabS H1 P q → NewC H H1 P →
      s'.heap.get? f = some (PySem.W.kla_obj "<lambda>" (X.env.qual ++ "<lambda>") params body scope (cloFrom X.env.cells scope.names []) pm c' ctv) → H1 f = none → f ∉ frs X.stack → H1 c' = some (CodeO c' (X.env.qual ++ "<lambda>")) → Q (.ref f) s') :
    wpAny (model X.prog X.w) X.A (eval (.Lambda params body scope pos) X.env) Q E s := by
  subst hq
  obtain ⟨ps, hP, ht, ha⟩ := id hT
  refine PySem.W.kla_eval hdef ?_
  have bP : s.heap.BuiltinsAt X.mg P := TB.bm.keeps I.bk
  have oP : s.heap.get? P = some { cls := .none, data := .fields ps } := I.hok P _ hP
  have nofr : ∀ f, s.heap.objs.size ≤ f → f ∉ frs X.stack := fun f hf z => by
    rcases List.mem_cons.mp (I.stkSub _ z) with e | e
    · have h1 := I.lt
      rw [← e] at h1
      exact Nat.lt_irrefl _ (Nat.lt_of_lt_of_le h1 hf)
    · exact I.nofs hf e
  cases hc : codeAmong pos ps.toList with
  | some cv =>
    obtain ⟨c', e, hco⟩ := ha pos cv hc
    subst e
    refine PySem.W.kla_makeFunctionHit (mg := X.mg) (c := c) (P := P) (ps := ps) (closure_ok hfree) I.ok.glob (I.mod.glob.keeps I.bk) hcode (TB.code.keeps I.bk) oP ht hc bP fun ctv h' tk hx hsz => ?_
    have I1 : Inv X pins σ H { s with heap := h'.push (PySem.W.kla_obj "<lambda>" (X.env.qual ++ "<lambda>") params body scope (cloFrom X.env.cells scope.names []) ((X.mg "__name__").getD .none) c' ctv), toks := tk } := I.kept fun b o e => Heap.get?_push_of_some _ (hx b o e)
    refine h h'.objs.size c' ((X.mg "__name__").getD .none) ctv H _ I1 (fun _ _ e _ => e) hT (fun p1 p2 e1 e2 po co hh => .inl ?_) (Heap.get?_push_size _ rfl) (I.hok.fresh hsz) (nofr _ hsz) hco
    rw [e1] at e2
    cases e2
    exact hh
  | none =>
    refine PySem.W.kla_makeFunction (mg := X.mg) (c := c) (P := P) (ps := ps) (closure_ok hfree) I.ok.glob (I.mod.glob.keeps I.bk) hcode (TB.code.keeps I.bk) oP ht hc TB.gP bP fun c' ctv h' tk hx hge hlt hrec htb => ?_
    obtain ⟨c2, oc, vs, t, e2, hoc, hd, hv⟩ := hrec
    cases e2
    have hsz : s.heap.objs.size ≤ h'.objs.size := Nat.le_trans hge (Nat.le_of_lt hlt)
    have nC : H c' = none := I.hok.fresh hge
    have I1 := inv_table (t' := tk) (more := #[rawInt pos.line, rawInt pos.col, .ref c']) (h' := h'.push (PySem.W.kla_obj "<lambda>" (X.env.qual ++ "<lambda>") params body scope (cloFrom X.env.cells scope.names []) ((X.mg "__name__").getD .none) c' ctv)) I hP
      (fun b o hb e => Heap.get?_push_of_some _ (hx b o hb e)) (Heap.get?_push_of_some _ htb) hge ⟨oc, vs, t, Heap.get?_push_of_some _ hoc, hd, hv⟩
    have hE : ExtN H (upd (upd H P (.tbl (ps ++ #[rawInt pos.line, rawInt pos.col, .ref c']))) c' (CodeO c' (X.env.qual ++ "<lambda>"))) := fun b o e n => by
      rw [upd_ne (ne_of_none e nC), upd_ne (fun z => n ps (Option.some.inj (e.symm.trans (by rw [z]; exact hP))))]
      exact e
    have eL : (ps ++ #[rawInt pos.line, rawInt pos.col, .ref c']).toList = ps.toList ++ [rawInt pos.line, rawInt pos.col, .ref c'] := by simp
    have atP : upd (upd H P (.tbl (ps ++ #[rawInt pos.line, rawInt pos.col, .ref c']))) c' (CodeO c' (X.env.qual ++ "<lambda>")) P = some (.tbl (ps ++ #[rawInt pos.line, rawInt pos.col, .ref c'])) := by rw [upd_ne (ne_of_none hP nC), upd_same]
    refine h h'.objs.size c' ((X.mg "__name__").getD .none) ctv _ _ I1 (fun b o e n => by rw [upd_ne (ne_of_none e nC), upd_ne n]; exact e) ⟨_, atP, by rw [eL]; exact PySem.TriplesOk_snoc _ _ _ _ ht, fun p' cv hcv => ?_⟩ (fun p1 p2 e1 e2 po co hh => ?_) (Heap.get?_push_size _ rfl) ?_ (nofr _ hsz) upd_same
    · rw [eL] at hcv
      rcases among_back _ ht hcv with z | z
      · obtain ⟨c0, e1, e2⟩ := ha p' cv z
        exact ⟨c0, e1, hE _ _ e2 codeO_ne⟩
      · exact ⟨c', z, upd_same⟩
    · rw [hP] at e1
      cases e1
      rw [atP] at e2
      cases e2
      rw [eL] at hh
      rcases among_back _ ht hh with z | z
      · exact .inl z
      · cases z
        exact .inr nC
    · rw [upd_ne (Nat.ne_of_gt hlt), upd_ne (Nat.ne_of_gt (Nat.lt_of_lt_of_le (Heap.lt_size oP) hsz))]
      exact I.hok.fresh hsz
end
def tLam1 (P : Addr) (q : Str) (TT : (XK → Hp → VK → Prop) → Hp → VK → Prop) (t : XK → TE) : TE := fun σ H Q => TabS H P q ∧ ∀ H1, ExtP P H H1 → TabS H1 P q → NewC H H1 P → TT (fun E H' Q' => t E σ H' Q') H1 Q
section
variable {X : Cx}
/-- x(lambda: body) -/
theorem pe_lam1 {TT : (XK → Hp → VK → Prop) → Hp → VK → Prop} {x a q : Str} {g c P : Addr} {k : Nat} {pg : Arguments} {bg : List Stmt} {sg : Scope} {dV kV doc pm cdv ct oc : Value} {an od : Option Addr} {osl : Array (Option Value)} {Ng : List Str}
    {params : Arguments} {body : Expr} {scope : Scope} {t : XK → TE} {p lpos pos : Pos} (hg : Gl X x) (hm : X.mg x = some (.ref g)) (hk : PySem.W.keepIn X.K (.ref g) = true)
    (lk : X.K.lookup g = some ⟨oc, od, .func (PySem.W.fnOf x x pg bg sg dV kV doc pm an cdv ct), osl⟩) (hcg : PySem.W.codeIn X.K cdv x = true) (hb : L2.Binds X.K (PySem.W.fnOf x x pg bg sg dV kV doc pm an cdv ct) [a] []) (Sg : FnScope Ng [a] sg) (hNg : Ng[0]? = some a) (hva : Vis sg a)
    (hG : GivesTo X Ng x sg g cdv bg a (X.env.qual ++ "<lambda>") TT) (TB : TabB X.base X.mg c P) (hcode : X.env.code = .ref c) (hq : X.env.qual ++ "<lambda>" = q) (hr : Room (k + 2) X.A) (L : LamS X.env.scope scope) (hdef : defaultsOf params X.env = ([], []))
    (hbind : ∀ (q : Str) (cl : List (Str × Addr)) (pm cv ctv : Value), bindArgs (PySem.W.kla_fn "<lambda>" q params body scope cl pm cv ctv) ⟨[], []⟩ = pure [])
    (hbody : ∀ (A : Around) (outer : List Env) (s : Shared) (H : Hp) (E : XK) (f c' : Addr), Room k (A.deeper (lamEnv X scope s.heap.objs.size f c')) → PE (lamCx X A outer s H E scope f c') body (t E))
    (hdb : (x == ("__debug__" : Str)) = false := by decide) (hd : (a == ("__debug__" : Str)) = false := by decide) (hcd : (a == ("__classdict__" : Str)) = false := by decide) :
    PE X (.Call (.Name x p) [.Lambda params body scope lpos] [] pos) (tLam1 P q TT t) := by
  refine ⟨fun pins s σ H Q I ⟨hT, h⟩ => ?_⟩
  refine wpAny_Call_Name_kw (ld_glob I hg hm (PySem.W.callWith_K (h₀ := X.base) I.ok.mod.kin hk ?_ (by rfl) (by rfl)) hdb)
  show wpAny _ _ (spliced ((false, eval (.Lambda params body scope lpos) X.env) :: backTo pos (starEach [] X.env))) _ _ s
  refine Calls.spliced_cons (lam_one I TB hcode hq hT hdef (L.has I.ok) fun f c' pm' ctv H1 s' I1 eN T1 nC hf hfn hfr hco => Calls.spliced_nil ⟨I1.kIn, ?_⟩)
  have rc : codeAny (model X.prog X.w) X.A (.call (.ref g) ⟨[.ref f], []⟩) (CR C8.CX0 X.stack X.prog X.w H1 s' Q C8.E0) s' := by
    refine run_ofS (N := Ng) (ps := [a]) (us := [.ref f]) (vs := [.ref f]) lk hcg Sg hr I1.env0 (hb s' [.ref f] I1.kIn rfl) (.cons rfl .nil) rfl fun hr' => ?_
    obtain ⟨t', ht', hq'⟩ := hG f c' s' H1 Q (fun E H' Q' => t E σ H' Q') (fun W pn xe E p1 p2 tk hW => pe_act (i := 0) I1 L hf hfn hfr (hbind _ _ _ _ _) tk hW hr' (fun A outer s H hr2 => hbody A outer s H E f c' hr2) hNg hva hd hcd) hco (h H1 eN T1 nC)
    exact ⟨t', ht'.nox, hq'⟩
  refine wpAny_call (codeAny_mono rc fun r s2 hq2 => ?_)
  cases r with
  | error e => exact (show False from hq2).elim
  | ok fl =>
    cases fl with
    | ret u => exact I1.after hq2
    | next => exact False.elim hq2
    | brk => exact False.elim hq2
    | cont => exact False.elim hq2
end
/-! ### the table as a hidden thing of the frame -/
def tblO (q : Str) : Own := ⟨fun H o => ∃ ps : Array Value, o = .tbl ps ∧ TriplesOk ps.toList ∧ ∀ (pos : Pos) (cv : Value), codeAmong pos ps.toList = some cv → ∃ c, cv = .ref c ∧ H c = some (CodeO c q), fun s ⟨ps, e, h1, h2⟩ => ⟨ps, e, h1, fun pos cv hc => by
  obtain ⟨c, e1, e2⟩ := h2 pos cv hc
  exact ⟨c, e1, s _ _ e2⟩⟩⟩
section
variable {Hv H H1 : Hp} {σ : L2.St} {Rs : Frm} {ow : Nat → Addr} {g : Nat} {T : Addr} {q : Str}
theorem fr_tab (f : Fr Hv H σ Rs ow) (hg : Rs[g]? = some (.own (tblO q))) (hT : ow g = T) : TabS H T q := by
  subst hT
  obtain ⟨_, _, u, h3, ps, e, h4, h5⟩ := f.own g _ hg
  subst e
  refine ⟨ps, h3, h4, fun pos cv hc => ?_⟩
  obtain ⟨c, e1, e2⟩ := h5 pos cv hc
  exact ⟨c, e1, f.sub _ _ e2⟩
/-- behind the making of a lambda: the table has grown, its code is seen -/
theorem fr_lam (f : Fr Hv H σ Rs ow) (hg : Rs[g]? = some (.own (tblO q))) (hT : ow g = T) (hx : ExtP T H H1) (ht : TabS H1 T q) (hn : NewC H H1 T) :
    ∃ Hv1, Fr Hv1 H1 σ Rs ow ∧ Stp Hv H Rs ow Hv1 H1 := by
  subst hT
  obtain ⟨g0, g1, u, g3, ps, e, g4, g5⟩ := f.own g _ hg
  subst e
  obtain ⟨ps', t1, t2, t3⟩ := ht
  have keep : ∀ b o, H b = some o → b ≠ ow g → H1 b = some o := hx
  have ne : ∀ {b : Addr} {o : HO}, Hv b = some o → b ≠ ow g := fun {b o} e z => by
    rw [z, g1] at e
    cases e
  have sm : Same Hv (fun b => match H b with | none => H1 b | some _ => Hv b) := fun b o e => by
    show (match H b with | none => H1 b | some _ => Hv b) = some o
    rw [f.sub _ _ e]
    exact e
  have hid : ∀ b o, Hv b = none → H b = some o → (fun b => match H b with | none => H1 b | some _ => Hv b) b = none := fun b o e1 e2 => by
    show (match H b with | none => H1 b | some _ => Hv b) = none
    rw [e2]
    exact e1
  refine ⟨fun b => match H b with | none => H1 b | some _ => Hv b, ⟨fun b o e => ?_, f.len, fun i R e => ?_, fun i P e => ?_, f.inj⟩, ⟨fun b o e n => keep b o e fun z => n ⟨g, _, hg, z.symm⟩, sm, fun b o e1 e2 _ => hid b o e1 e2, fun b o e => ?_⟩⟩
  · have e' : (match H b with | none => H1 b | some _ => Hv b) = some o := e
    cases hb : H b with
    | none =>
      rw [hb] at e'
      exact e'
    | some o2 =>
      rw [hb] at e'
      have e3 := f.sub _ _ e'
      exact keep b o e3 (ne e')
  · obtain ⟨v, h1, h2⟩ := f.get i R e
    exact ⟨v, h1, R.mono sm h2⟩
  · by_cases hi : i = g
    · subst hi
      rw [hg] at e
      cases e
      refine ⟨g0, hid _ _ g1 g3, _, t1, ps', rfl, t2, fun pos cv hc => ?_⟩
      obtain ⟨c, e1, e2⟩ := t3 pos cv hc
      subst e1
      refine ⟨c, rfl, ?_⟩
      show (match H c with | none => H1 c | some _ => Hv c) = some (CodeO c q)
      rcases hn ps ps' g3 t1 pos c hc with z | z
      · obtain ⟨c2, e3, e4⟩ := g5 pos _ z
        cases e3
        rw [f.sub _ _ e4]
        exact e4
      · rw [z]
        exact e2
    · obtain ⟨k1, k2, u2, k3, k4⟩ := f.own i P e
      have hne : ow i ≠ ow g := fun z => hi (f.inj i g P _ e hg z)
      exact ⟨k1, hid _ _ k2 k3, u2, keep _ _ k3 hne, P.mono sm k4⟩
  · by_cases hb : b = ow g
    · subst hb
      exact ⟨_, t1⟩
    · exact ⟨o, keep b o e hb⟩
end
end Bo
set_option maxHeartbeats 4000000
/-! Rules for _law_board_did: the lambda handed to _law_board_caught, steps beside a slot that no name sees. -/
namespace Bo
open PySem L2
open PyProof.Rows (envOfC)
section
variable {X : Cx} {e a b c : Expr} {es : List Expr} {Rs Rs1 Rs' : Frm} {R Ra Rb : Rel} {pos p px : Pos} {x y : Str} {k j g : Nat} {T : Addr} {o : Option Exn} {CI CN CU C : Addr} {E : XK} {st : Stmt} {rest sts : List Stmt} {pw : List (Nat × Own)} {kb : Bool}
/-- f(o, ..), o hidden, f may raise -/
structure CalX (P : Program) (w : World) (K : PySem.W.Frag) (mg : Str → Option Value) (base : Heap) (k : Nat) (x : Str) (sp : Sp) : Prop where
  ex : ∃ (f : Addr) (fd : FuncData) (ps : List Str), FnOk P w K mg base (L2.CX P w) k f fd ps sp ∧ mg x = some (.ref f) ∧ PySem.W.keepIn K (.ref f) = true ∧ Binds K fd ps []
theorem x_callX (i : Nat) {α : Type} {pre : α → Prop} {P2 : α → Own} {fs : α → Flds} {As : α → List Rel} {Rr : α → Rel} {res : α → Option Exn} (c : CalX X.prog X.w X.K X.mg X.base k x (spX CI CN CU pre (fun a => arg1 (ownI C (fs a)) (As a)) res (fun a => [(0, P2 a)]) Rr)) (a : α) (hi : Rs[i]? = some (.own (ownI C (fs a)))) (hr : Room j X.A) (hk : k ≤ j) (hp : pre a) (tk : Takes X fun cls d _ H => E cls d H)
    (ha : XA X es Rs (As a)) (hg : Gl X x := by rfl) (hN : X.N[i]? = some y := by rfl) (hv : Vis X.env.scope y := by first | exact Or.inl rfl | exact Or.inr (Or.inl rfl) | exact Or.inr (Or.inr rfl)) (hd : (y == ("__debug__" : Str)) = false := by decide) (hcd : (y == ("__classdict__" : Str)) = false := by decide) (hdb : (x == ("__debug__" : Str)) = false := by decide)
    (he : starEach (.Name y px :: es) X.env = (false, eval (.Name y px) X.env) :: starEach es X.env := by rfl) (hpl : (backTo pos (starEach es X.env)).any (·.1) = false := by rfl) :
    PE X (.Call (.Name x p) (.Name y px :: es) [] pos) (tXFX CI CN CU (fun _ => E) Rs (res a) (Rs.set i (.own (P2 a))) (Rr a)) := by
  obtain ⟨f, fd, ps, F, hm, kp, b⟩ := c.ex
  refine pe_imp (pe_call (dvs := []) F (hr.mono hk) hg hm kp b .nil (passX tk) (pa_cons (pv i hN hv hd hcd) ha he) hdb he hpl) fun σ H Q ⟨Hv, ow, f, q⟩ => ?_
  obtain ⟨h1, _⟩ := f.own i _ hi
  refine ⟨_, h1, Hv, ow, f, fun vs Hv1 H1 s1 f1 r1 => ?_⟩
  show spX CI CN CU pre (fun a => arg1 (ownI C (fs a)) (As a)) res (fun a => [(0, P2 a)]) Rr ((V.ref (ow i) :: vs) ++ []) H1 Q E
  rw [List.append_nil]
  exact meth_core hi hp s1 f1 r1 q
/-! ### steps that keep the slot g -/
abbrev PSA (g : Nat) (T : Addr) (X : Cx) (st : Stmt) (t : TS) : Prop := L2.PS X st (fun D σ H => An g T σ ∧ t D σ H)
abbrev PSsA (g : Nat) (T : Addr) (X : Cx) (st : List Stmt) (t : TS) : Prop := L2.PSs X st (fun D σ H => An g T σ ∧ t D σ H)
abbrev XFA (g : Nat) (T : Addr) (X : Cx) (e : Expr) (Rs Rs' : Frm) (R : Rel) : Prop := PE X e (fun σ H Q => An g T σ ∧ tXF Rs Rs' R σ H Q)
abbrev XTFA (g : Nat) (T : Addr) (X : Cx) (e : Expr) (Rs Rs' : Frm) (k : Bool) : Prop := PT X e (fun σ H Q => An g T σ ∧ tXTF Rs Rs' k σ H Q)
theorem An.next {Hv H Hv' H' : Hp} {σ σ' : St} {ow ow' : Nat → Addr} {P P' : Own} (h : An g T σ) (f : Fr Hv H σ Rs ow) (hg : Rs[g]? = some (.own P)) (s : StS Hv H Rs ow Hv' H' Rs' ow') (f' : Fr Hv' H' σ' Rs' ow') (hg' : Rs'[g]? = some (.own P')) : An g T σ' := by
  show σ'[g]? = some (some (.ref T))
  rw [(f'.own g P' hg').1, s.same g P P' hg hg', h.at f hg]
theorem ba_cons {P P' : Own} (hg : Rs[g]? = some (.own P)) (hg' : Rs1[g]? = some (.own P')) (h : XN X st Rs Rs1) (hr : PSsA g T X rest (tXR pw Rs1 R)) (hp : ∀ p ∈ pw, (∃ P, Rs[p.1]? = some (Ent.own P)) ∧ ∃ P, Rs1[p.1]? = some (Ent.own P)) : PSsA g T X (st :: rest) (tXR pw Rs R) :=
  pss_imp (pss_cons h hr) fun D σ H ⟨an, Hv, ow, f, q⟩ => ⟨Hv, ow, f, fun σ1 Hv1 H1 ow1 s1 f1 => ⟨an.next f hg s1 f1 hg', Hv1, ow1, f1, fun v Hv2 H2 s2 f2 o2 r => q v Hv2 H2 (s1.stp' s2) f2 (own_eq' hp s1 o2) r⟩⟩
/-- an anchored step, the rest not -/
theorem ba_last (h : PSA g T X st (tXN Rs Rs1)) (hr : PSs X rest (tXR pw Rs1 R)) (hp : ∀ p ∈ pw, (∃ P, Rs[p.1]? = some (Ent.own P)) ∧ ∃ P, Rs1[p.1]? = some (Ent.own P)) : PSsA g T X (st :: rest) (tXR pw Rs R) :=
  pss_imp (pss_cons h hr) fun D σ H ⟨an, Hv, ow, f, q⟩ => ⟨an, Hv, ow, f, fun σ1 Hv1 H1 ow1 s1 f1 => ⟨Hv1, ow1, f1, fun v Hv2 H2 s2 f2 o2 r => q v Hv2 H2 (s1.stp' s2) f2 (own_eq' hp s1 o2) r⟩⟩
theorem xtfa_cmp {op : CmpOp} {r : R2} (ho : SameOwn Rs Rs1) (hp : OpR X (compareOp op) r) (hr : OpX r Ra Rb (blR kb)) (ha : XFA g T X a Rs Rs1 Ra) (hb : XE X b Rs1 Rb) (hm : behindInMarks op b = false := by first | exact nomark _ | rfl) : XTFA g T X (.Compare a [op] [b] pos) Rs Rs1 kb :=
  pt_imp (pt_cmpR hp ha hb hm) fun σ H Q ⟨an, Hv, ow, f, q⟩ => ⟨an, Hv, ow, f, fun x Hv1 H1 s1 f1 r1 => ⟨Hv1, ow, f1, fun y Hv2 H2 s2 f2 r2 => hr Hv2 H2 x y _ f2.sub (Ra.mono s2.sv r1) r2 fun z Hv3 H3 al r3 => ⟨kb, r3, q Hv3 H3 (s1.trans ((s2.trans al.stp).same ho)) (f2.al al)⟩⟩⟩
theorem na_ifF (ho : SameOwn Rs Rs1) (h : XTFA g T X c Rs Rs1 false) : PSA g T X (.If c sts [] pos) (tXN Rs Rs1) :=
  ps_imp (ps_if h pss_never pss_nil) fun D σ H ⟨an, Hv, ow, f, q⟩ => ⟨an, Hv, ow, f, fun Hv1 H1 s1 f1 => iteF (q σ Hv1 H1 ow (sts_same ho s1) f1)⟩
end
/-! ### the call of _law_board_caught -/
def outT : Option Exn → Str × Str
  | none => ("told", "None")
  | some (.num v) => ("InvalidNumber", toString v)
  | some .noT => ("NoText", "")
  | some .noU => ("NothingToUndo", "")
abbrev outD (o : Option Exn) : PyData := .tuple [.str (outT o).1, .str (outT o).2]
section
variable {X : Cx} {Rs Rs' : Frm} {g k : Nat} {T cd : Addr} {o : Option Exn} {CI CN CU : Addr} {q : Str}
theorem new_ts {Hv H : Hp} {σ : St} {ow : Nat → Addr} {a b : Str} {Q : VK} (f : Fr Hv H σ Rs' ow) (h : ∀ v Hv' H', Stp Hv H Rs ow Hv' H' → Fr Hv' H' σ Rs' ow → (dR X.K (.tuple [.str a, .str b])).r Hv' v → Q v H') : newTS a b H Q := fun p hp => by
  have al := Al.new (o := .tup [.str a, .str b]) f.sub hp
  exact h _ _ _ al.stp (f.al al) (.tup (.inl (.inl upd_same)) (.cons (.str _) (.cons (.str _) .nil)))
theorem x_caught {params : Arguments} {body : Expr} {scope : Scope} {lpos p pos : Pos} (EC : ErrC X.K X.mg CI CN CU) (hm : X.mg "repr" = none) (F : Df X.K X.mg "_law_board_caught" sCaught) (TB : LamX.TabB X.base X.mg cd T) (hcode : X.env.code = .ref cd) (hq : X.env.qual ++ "<lambda>" = q) (hr : Room (k + 2) X.A) (L : LamX.LamS X.env.scope scope)
    (hdef : defaultsOf params X.env = ([], [])) (hbind : ∀ (q : Str) (cl : List (Str × Addr)) (pm cv ctv : Value), bindArgs (PySem.W.kla_fn "<lambda>" q params body scope cl pm cv ctv) ⟨[], []⟩ = pure [])
    (hg : Rs[g]? = some (.own (tblO q))) (hs : ∀ v, o = some (.num v) → v.natAbs.log2 < 1920)
    (hbody : ∀ (A : Around) (outer : List Env) (s : Shared) (H : Hp) (E : XK) (f c' : Addr), Room k (A.deeper (LamX.lamEnv X scope s.heap.objs.size f c')) → PE (LamX.lamCx X A outer s H E scope f c') body (tXFX CI CN CU (fun _ => E) Rs o Rs' nonR))
    (hgl : Gl X "_law_board_caught" := by rfl) : XFA g T X (.Call (.Name "_law_board_caught" p) [.Lambda params body scope lpos] [] pos) Rs Rs' (dR X.K (outD o)) := by
  obtain ⟨fg, fd, D, hd⟩ := F
  obtain ⟨oc, od, dV, kV, doc, pm, an, cdv, ct, osl, efd, lk, hcd⟩ := D.fn.ex
  subst efd
  have bnd : L2.Binds X.K (PySem.W.fnOf "_law_board_caught" "_law_board_caught" (C8.fnArgs sCaught) (C8.fnBody sCaught) (C8.fnScope sCaught) dV kV doc pm an cdv ct) ["_law_act"] [] := D.fn.binds hd fun _ _ _ _ _ _ us hl => match us, hl with | [_], _ => rfl
  refine pe_imp (pe_lam1 (t := fun E => tXFX CI CN CU (fun _ => E) Rs o Rs' nonR) hgl D.mgf D.kp lk hcd bnd scCaught rfl (.inl rfl) (caught_gives (q := X.env.qual ++ "<lambda>") EC hm) TB hcode hq hr L hdef hbind hbody) fun σ H Q ⟨an', Hv, ow, f, qq⟩ => ?_
  have hT : ow g = T := an'.at f hg
  refine ⟨fr_tab f hg hT, fun H1 hx ht hn => ?_⟩
  obtain ⟨Hv1, f1, s1⟩ := fr_lam f hg hT hx ht hn
  show tXFX CI CN CU (fun _ => caughtE CI CN CU Q) Rs o Rs' nonR σ H1 (fun v H' => v = .non ∧ newTS "told" "None" H' Q)
  refine ⟨Hv1, ow, f1, fun ho v Hv2 H2 s2 f2 r => ⟨r, ?_⟩, fun x hx' cls d Hv2 H2 s2 f2 hat => ?_⟩
  · subst ho
    exact new_ts f2 fun v Hv3 H3 s3 f3 r3 => qq v Hv3 H3 ((s1.trans s2).trans s3) f3 r3
  · subst hx'
    cases x with
    | num i =>
      obtain ⟨e1, dd, e2, e3⟩ := hat
      exact .inl ⟨e1, dd, i, e2, f2.sub _ _ e3, hs i rfl, new_ts f2 fun v Hv3 H3 s3 f3 r3 => qq v Hv3 H3 ((s1.trans s2).trans s3) f3 r3⟩
    | noT => exact .inr (.inl ⟨hat.1, new_ts f2 fun v Hv3 H3 s3 f3 r3 => qq v Hv3 H3 ((s1.trans s2).trans s3) f3 r3⟩)
    | noU => exact .inr (.inr ⟨hat.1, new_ts f2 fun v Hv3 H3 s3 f3 r3 => qq v Hv3 H3 ((s1.trans s2).trans s3) f3 r3⟩)
end
end Bo
set_option maxHeartbeats 4000000
/-! Plain facts about dicts of told letters. -/
namespace Bo
open PySem L2
theorem any_key {t : Dct} {k : Int} : (t.any fun p => decide (p.1 = k)) = true ↔ k ∈ t.map (·.1) := by
  rw [List.any_eq_true]
  constructor
  · rintro ⟨p, hp, e⟩
    exact List.mem_map.mpr ⟨p, hp, of_decide_eq_true e⟩
  · intro h
    obtain ⟨p, hp, e⟩ := List.mem_map.mp h
    exact ⟨p, hp, decide_eq_true e⟩
theorem putI_new {t : Dct} {k v : Int} (h : k ∉ t.map (·.1)) : putI t k v = t ++ [(k, v)] := by
  unfold putI
  rw [if_neg fun z => h (any_key.mp z)]
theorem putI_old {t : Dct} {k v : Int} (h : k ∈ t.map (·.1)) : putI t k v = t.map (fun p => if p.1 = k then (p.1, v) else p) := by
  unfold putI
  rw [if_pos (any_key.mpr h)]
theorem mrg_id {t : Dct} (nd : (t.map (·.1)).Nodup) : mrg t = t := by
  have g : ∀ (t acc : Dct), ((acc ++ t).map (·.1)).Nodup → t.foldl (fun acc p => putI acc p.1 p.2) acc = acc ++ t := fun t => by
    induction t with
    | nil => exact fun acc _ => (List.append_nil acc).symm
    | cons p t ih =>
      intro acc h
      have hn : p.1 ∉ acc.map (·.1) := fun hm => by
        rw [List.map_append, List.nodup_append] at h
        exact h.2.2 _ hm p.1 (by simp) rfl
      show t.foldl _ (putI acc p.1 p.2) = _
      rw [putI_new hn, ih (acc ++ [(p.1, p.2)]) (by rw [List.append_assoc]; exact h), List.append_assoc]
      rfl
  exact g t [] nd
theorem putI_perm {L t : Dct} (h : L.Perm t) {k v : Int} : (putI L k v).Perm (putI t k v) := by
  have hk : k ∈ L.map (·.1) ↔ k ∈ t.map (·.1) := (h.map _).mem_iff
  by_cases hm : k ∈ t.map (·.1)
  · rw [putI_old hm, putI_old (hk.mpr hm)]
    exact h.map _
  · rw [putI_new hm, putI_new fun z => hm (hk.mp z)]
    exact h.append_right _
theorem putI_keys {t : Dct} {k v : Int} : (putI t k v).map (·.1) = if k ∈ t.map (·.1) then t.map (·.1) else t.map (·.1) ++ [k] := by
  by_cases hm : k ∈ t.map (·.1)
  · rw [putI_old hm, if_pos hm, List.map_map]
    refine List.map_congr_left fun p _ => ?_
    show (if p.1 = k then (p.1, v) else p).1 = p.1
    split <;> rfl
  · rw [putI_new hm, if_neg hm, List.map_append]
    rfl
theorem nd_filter {a : Int} : ∀ {l : List Int}, l.Nodup → l.length ≤ (l.filter fun x => decide (x ≠ a)).length + 1
  | [], _ => Nat.zero_le _
  | x :: l, h => by
    obtain ⟨h1, h2⟩ := List.nodup_cons.mp h
    by_cases e : x = a
    · have hf : l.filter (fun x => decide (x ≠ a)) = l := List.filter_eq_self.mpr fun y hy => decide_eq_true fun z => h1 (by rw [e, ← z]; exact hy)
      rw [List.filter_cons_of_neg (by simp [e]), hf]
      exact Nat.le_refl _
    · have := nd_filter (a := a) h2
      rw [List.filter_cons_of_pos (by simp [e]), List.length_cons, List.length_cons]
      omega
theorem nd_len : ∀ (n : Nat) {l : List Int}, l.Nodup → (∀ x ∈ l, 0 ≤ x ∧ x < (n : Int)) → l.length ≤ n
  | 0, l, _, h => by
    cases l with
    | nil => exact Nat.le_refl _
    | cons x l =>
      have := h x List.mem_cons_self
      omega
  | n + 1, l, nd, h => by
    have h1 := nd_filter (a := (n : Int)) nd
    have h2 := nd_len n (nd.filter (fun x => decide (x ≠ (n : Int)))) fun x hx => by
      obtain ⟨h3, h4⟩ := List.mem_filter.mp hx
      have h5 : x ≠ (n : Int) := of_decide_eq_true h4
      have := h x h3
      omega
    omega
theorem dok_len {n b : Nat} {t : Dct} (hn : n ≤ 4) (hr : ∀ p ∈ t, (0 ≤ p.1 ∧ p.1 < (n : Int)) ∧ 0 ≤ p.2 ∧ p.2 < (b : Int)) (nd : (t.map (·.1)).Nodup) : DOk n b t := by
  refine ⟨hr, nd, ?_⟩
  have := nd_len n nd fun x hx => by
    obtain ⟨p, hp, e⟩ := List.mem_map.mp hx
    rw [← e]
    exact (hr p hp).1
  rw [List.length_map] at this
  omega
theorem dok_put {n b : Nat} {t : Dct} {k v : Int} (hn : n ≤ 4) (d : DOk n b t) (hk : 0 ≤ k ∧ k < (n : Int)) (hv : 0 ≤ v ∧ v < (b : Int)) : DOk n b (putI t k v) := by
  refine dok_len hn (fun p hp => ?_) ?_
  · by_cases hm : k ∈ t.map (·.1)
    · rw [putI_old hm] at hp
      obtain ⟨q, hq, e⟩ := List.mem_map.mp hp
      subst e
      have := d.rng q hq
      split
      · exact ⟨this.1, hv⟩
      · exact this
    · rw [putI_new hm] at hp
      rcases List.mem_append.mp hp with h | h
      · exact d.rng p h
      · rw [List.mem_singleton.mp h]
        exact ⟨hk, hv⟩
  · rw [putI_keys]
    split
    · exact d.nd
    · rename_i h
      exact List.nodup_append.mpr ⟨d.nd, by simp, fun a ha c hc e => h (by rw [List.mem_singleton.mp hc] at e; rw [← e]; exact ha)⟩
theorem dok_drop {n b : Nat} {t : Dct} {k : Int} (d : DOk n b t) : DOk n b (dropI t k) := by
  refine ⟨fun p hp => d.rng p (List.mem_filter.mp hp).1, ?_, Nat.le_trans (List.length_filter_le ..) d.len⟩
  exact d.nd.sublist (List.Sublist.map _ List.filter_sublist)
theorem getI_none {t : Dct} {k : Int} : getI t k = none ↔ k ∉ t.map (·.1) := by
  unfold getI
  rw [Option.map_eq_none_iff, List.find?_eq_none]
  constructor
  · intro h hm
    obtain ⟨p, hp, e⟩ := List.mem_map.mp hm
    exact h p hp (decide_eq_true e)
  · intro h p hp e
    exact h (List.mem_map.mpr ⟨p, hp, of_decide_eq_true e⟩)
theorem drF_nil {t : Dct} {k : Int} : drF t k = [] ↔ k ∉ t.map (·.1) := by
  show t.filter _ = [] ↔ _
  rw [List.filter_eq_nil_iff]
  constructor
  · intro h hm
    obtain ⟨p, hp, e⟩ := List.mem_map.mp hm
    exact h p hp (decide_eq_true e)
  · intro h p hp e
    exact h (List.mem_map.mpr ⟨p, hp, of_decide_eq_true e⟩)
theorem srt_drop {L t : Dct} {k : Int} (s : Srt L t) : Srt (drN L k) (dropI t k) := by
  refine ⟨?_, s.st.sublist List.filter_sublist⟩
  have e : drN L k = L.filter fun p => decide (p.1 ≠ k) := List.filter_congr fun p _ => by
    by_cases h : p.1 = k <;> simp [h]
  rw [e]
  exact s.pm.filter _
theorem srt_keys {L t : Dct} (s : Srt L t) {k : Int} : k ∈ L.map (·.1) ↔ k ∈ t.map (·.1) := (s.pm.map _).mem_iff
theorem srt_ex {t : Dct} (nd : (t.map (·.1)).Nodup) : ∃ L, Srt L t := by
  have tot : ∀ a b : Int × Int, (decide (a.1 ≤ b.1) || decide (b.1 ≤ a.1)) = true := fun a b => by
    rcases Int.le_total a.1 b.1 with h | h <;> simp [h]
  have trn : ∀ a b c : Int × Int, decide (a.1 ≤ b.1) = true → decide (b.1 ≤ c.1) = true → decide (a.1 ≤ c.1) = true := fun a b c h1 h2 => decide_eq_true (Int.le_trans (of_decide_eq_true h1) (of_decide_eq_true h2))
  refine ⟨t.mergeSort fun a b => decide (a.1 ≤ b.1), List.mergeSort_perm .., ?_⟩
  have h1 := List.pairwise_mergeSort (le := fun a b : Int × Int => decide (a.1 ≤ b.1)) trn tot t
  have h2 : ((t.mergeSort fun a b => decide (a.1 ≤ b.1)).map (·.1)).Nodup := ((List.mergeSort_perm t _).map _).nodup_iff.mpr nd
  rw [List.Nodup, List.pairwise_map] at h2
  exact (h1.and h2).imp fun {x y} ⟨a, b⟩ => by
    have a' : x.1 ≤ y.1 := of_decide_eq_true a
    omega
/-- the plain law of a case -/
structure PL (z : Cs) : Prop where
  bd : okBd (ordM z) z.2.2 = true
  law : ∀ t L, DOk z.1.length z.2.2 t → Srt L t → okT (ordM z) z.2.2 L = true ∧ maT (ordM z) z.2.2 L = ((keM (linesM z) t).length : Nat) ∧ (keM (linesM z) t ≠ [] → spT (ordM z) z.2.2 L = .tuple (spnM (keM (linesM z) t) z.1.length))
theorem PL.tok {z : Cs} (h : PL z) {t L : Dct} (d : DOk z.1.length z.2.2 t) (s : Srt L t) (ne : keM (linesM z) t ≠ []) : TOk z t L := by
  obtain ⟨_, h2, h3⟩ := h.law t L d s
  exact ⟨d, s, ne, h2, h3 ne⟩
theorem PL.start {z : Cs} (h : PL z) : TOk z [] [] := by
  have d : DOk z.1.length z.2.2 [] := ⟨(fun p hp => by cases hp), List.nodup_nil, by decide⟩
  have s : Srt [] [] := ⟨.refl _, .nil⟩
  refine h.tok d s fun e => ?_
  obtain ⟨_, h2, _⟩ := h.law [] [] d s
  obtain ⟨c1, c2⟩ := okBd_c h.bd
  rw [e] at h2
  exact c1 (by rw [← c2, h2]; rfl)
/-- fewer told letters, more lines -/
theorem ke_drop {L : List (List Int)} {t : Dct} {k : Int} (h : keM L t ≠ []) : keM L (dropI t k) ≠ [] := by
  intro z
  apply h
  refine List.filter_eq_nil_iff.mpr fun l hl hh => ?_
  refine List.filter_eq_nil_iff.mp z l hl ?_
  unfold hasM at hh ⊢
  rw [List.all_eq_true] at hh ⊢
  exact fun p hp => hh p (List.mem_filter.mp hp).1
/-- a letter told again -/
theorem put_same {t : Dct} {k v : Int} (nd : (t.map (·.1)).Nodup) (h : getI t k = some v) : putI t k v = t := by
  have hm : k ∈ t.map (·.1) := by
    by_cases hm : k ∈ t.map (·.1)
    · exact hm
    · rw [getI_none.mpr hm] at h
      cases h
  rw [putI_old hm]
  have : t.map (fun p => if p.1 = k then (p.1, v) else p) = t.map id := List.map_congr_left fun p hp => by
    by_cases e : p.1 = k
    · rw [if_pos e]
      have := getI_mem nd hp
      rw [e, h] at this
      have e2 : v = p.2 := Option.some.inj this
      rw [e2]
      rfl
    · rw [if_neg e]
      rfl
  rw [this, List.map_id]
end Bo
set_option maxHeartbeats 4000000
namespace Bo
open PySem L2
open PyProof.Rows (envOfC)
theorem so_put {Rs : Frm} {i : Nat} {P P' : Own} (h : Rs[i]? = some (.own P)) : SameOwn Rs (Rs.set i (.own P')) := fun j => by
  have lt := ent_lt h
  rw [set_get lt]
  by_cases hj : i = j
  · subst hj
    rw [if_pos rfl]
    exact ⟨fun _ => ⟨P', rfl⟩, fun _ => ⟨P, h⟩⟩
  · rw [if_neg hj]
theorem lns_ok : ∀ L : List (List Int), PyData.canLayAll0 (lnD L) = true ∧ PyData.depthAll (lnD L) ≤ 1
  | [] => ⟨rfl, by decide⟩
  | l :: L => by
    obtain ⟨h1, h2⟩ := lns_ok L
    obtain ⟨a1, a2⟩ := atoms_ok PyData.int (fun _ => ⟨rfl, rfl⟩) l
    refine ⟨?_, ?_⟩
    · show (PyData.canLayAll0 (l.map .int) && PyData.canLayAll0 (lnD L)) = true
      rw [a1, h1]
      rfl
    · show max (PyData.depthAll (l.map .int) + 1) (PyData.depthAll (lnD L)) ≤ 1
      rw [a2]
      omega
theorem shaped_lnD (L : List (List Int)) : SeqAt.shaped (.list (lnD L)) = true := by
  obtain ⟨h1, h2⟩ := lns_ok L
  show (PyData.canLayAll0 (lnD L) && decide (PyData.depthAll (lnD L) + 1 ≤ 64)) = true
  rw [h1, decide_eq_true (by omega)]
  rfl
theorem eqv_strs (a b c d : Str) : PyData.eqv (.tuple [.str a, .str b]) (.tuple [.str c, .str d]) = (a == c && (b == d && true)) := rfl
/-! what a deed comes to -/
def outM (z : Cs) (t0 : Dct) (us : List Dct) : Dd → Option Exn
  | .undo => if us = [] then some .noU else none
  | .drop p => if getI t0 p = none then some (.num p) else none
  | .put p v => if keM (linesM z) (putI t0 p v) = [] then some .noT else none
def nxU (z : Cs) (t0 : Dct) (us : List Dct) : Dd → List Dct
  | .undo => if us = [] then [t0] else us
  | .drop p => if getI t0 p = none then t0 :: us else dropI t0 p :: t0 :: us
  | .put p v => if keM (linesM z) (putI t0 p v) = [] then t0 :: us else putI t0 p v :: t0 :: us
def nxC (z : Cs) (t0 : Dct) (us : List Dct) (L0 : Dct) (ch : Chn) (L' : Dct) : Dd → Chn
  | .undo => if us = [] then [L0] else ch
  | .drop p => if getI t0 p = none then L0 :: ch else drN L0 p :: L0 :: ch
  | .put p v => if keM (linesM z) (putI t0 p v) = [] then L0 :: ch else L' :: L0 :: ch
/-- case; newest dict, older ones; its facts, the older ones'; the deed; the facts behind a put -/
abbrev TD := Cs × Dct × List Dct × Dct × Chn × Dd × Dct
structure OkDid (z : Cs) (t0 : Dct) (us : List Dct) (L0 : Dct) (ch : Chn) (d : Dd) (L' : Dct) : Prop where
  cs : okCs z
  pl : PL z
  t : TOk z t0 L0
  ln : ch.length = us.length
  mx : us.length ≤ 100
  dd : okDd z.1.length z.2.2 d
  l' : ∀ p v, d = .put p v → Srt L' (putI t0 p v)
abbrev okDid (a : TD) : Prop := OkDid a.1 a.2.1 a.2.2.1 a.2.2.2.1 a.2.2.2.2.1 a.2.2.2.2.2.1 a.2.2.2.2.2.2
theorem do_is {z : Cs} {t0 : Dct} {us : List Dct} {L0 : Dct} {ch : Chn} {d : Dd} {L' : Dct} (h : OkDid z t0 us L0 ch d L') (nm : Bool) :
    okDo (ordM z, z.2.2, L0 :: ch, d, L', nm) ∧ doR (ordM z) z.2.2 (L0 :: ch) d L' = outM z t0 us d ∧ doC (ordM z) z.2.2 (L0 :: ch) d L' = nxC z t0 us L0 ch L' d := by
  obtain ⟨cs, pl, tk, ln, mx, dd, l'⟩ := h
  have ps : okPs z.1 = true := pmOk_ps cs.1
  have ndL : (L0.map (·.1)).Nodup := (tk.s.pm.map _).nodup_iff.mpr tk.d.nd
  have hL0 : L0.length ≤ 4 := by rw [tk.s.pm.length_eq]; exact tk.d.len
  cases d with
  | undo =>
    refine ⟨(fun e => by cases e), ?_, ?_⟩
    · show undR (L0 :: ch) = if us = [] then some .noU else none
      cases us with
      | nil =>
        have : ch = [] := List.length_eq_zero_iff.mp ln
        subst this
        rfl
      | cons u us =>
        cases ch with
        | nil => cases ln
        | cons c ch => rfl
    · show undC (L0 :: ch) = if us = [] then [L0] else ch
      cases us with
      | nil =>
        have : ch = [] := List.length_eq_zero_iff.mp ln
        subst this
        rfl
      | cons u us =>
        cases ch with
        | nil => cases ln
        | cons c ch => rfl
  | drop p =>
    have hk : drF L0 p = [] ↔ getI t0 p = none := by rw [drF_nil, getI_none, srt_keys tk.s]
    have sd : Srt (drN L0 p) (dropI t0 p) := srt_drop tk.s
    obtain ⟨o1, o2, o3⟩ := pl.law _ _ (dok_drop (k := p) tk.d) sd
    have ne : keM (linesM z) (dropI t0 p) ≠ [] := ke_drop tk.ne
    have hz : maT (ordM z) z.2.2 (drN L0 p) ≠ 0 := fun e => by
      rw [o2] at e
      exact ne (List.length_eq_zero_iff.mp (Int.ofNat.inj e))
    refine ⟨⟨L0, ch, rfl, ps, fun _ => o1, by show L0.length ≤ 1000; omega⟩, ?_, ?_⟩
    · show drpR (ordM z) z.2.2 L0 p = if getI t0 p = none then some (.num p) else none
      unfold drpR
      by_cases hg : getI t0 p = none
      · rw [if_pos hg, if_pos (hk.mpr hg)]
      · rw [if_neg hg, if_neg fun e => hg (hk.mp e)]
        exact if_neg hz
    · show drpC (ordM z) z.2.2 L0 ch p = if getI t0 p = none then L0 :: ch else drN L0 p :: L0 :: ch
      unfold drpC
      by_cases hg : getI t0 p = none
      · rw [if_pos hg, if_pos (hk.mpr hg)]
      · rw [if_neg hg, if_neg fun e => hg (hk.mp e)]
        exact if_neg hz
  | put p v =>
    have sp : Srt L' (putI t0 p v) := l' p v rfl
    obtain ⟨o1, o2, o3⟩ := pl.law _ _ (dok_put (pmOk_len cs.1).2 tk.d dd.1 dd.2) sp
    have hz : maT (ordM z) z.2.2 L' = 0 ↔ keM (linesM z) (putI t0 p v) = [] := by
      rw [o2]
      constructor
      · intro e
        exact List.length_eq_zero_iff.mp (Int.ofNat.inj e)
      · intro e
        rw [e]
        rfl
    have em : mrg L0 = L0 := mrg_id ndL
    refine ⟨⟨⟨ps, o1, fun e => by cases e⟩, dd.1, dd.2, ?_, ?_, sp.st⟩, ?_, ?_⟩
    · show (mrg L0).length < 100
      rw [em]
      omega
    · show L'.Perm (putI (mrg (mrg L0)) p v)
      rw [em, em]
      exact sp.pm.trans (putI_perm tk.s.pm).symm
    · show becR (ordM z) z.2.2 L' = if keM (linesM z) (putI t0 p v) = [] then some .noT else none
      unfold becR
      by_cases hg : keM (linesM z) (putI t0 p v) = []
      · rw [if_pos hg, if_pos (hz.mpr hg)]
      · rw [if_neg hg, if_neg fun e => hg (hz.mp e)]
    · show becC (ordM z) z.2.2 (L0 :: ch) L' = if keM (linesM z) (putI t0 p v) = [] then L0 :: ch else L' :: L0 :: ch
      unfold becC
      by_cases hg : keM (linesM z) (putI t0 p v) = []
      · rw [if_pos hg, if_pos (hz.mpr hg)]
      · rw [if_neg hg, if_neg fun e => hg (hz.mp e)]
end Bo
set_option maxHeartbeats 4000000
namespace Bo
open PySem L2
open PyProof.Rows (envOfC)
abbrev qDid : Str := "_law_board_did.<locals>.<lambda>"
abbrev sDid : Stmt := top 60
abbrev nDid : List Str := ["_law_board", "_law_lines", "_law_past", "_law_deed", "$t", "_law_word", "_law_spot", "_law_each", "_law_due", "_law_later"]
theorem scDid : FnScope nDid ["_law_board", "_law_lines", "_law_past", "_law_deed"] (C8.fnScope sDid) := C8.fnScope_by (by decide +kernel)
theorem sh_told : SeqAt.shaped (outD none) = true := by decide +kernel
theorem sh_noT : SeqAt.shaped (outD (some .noT)) = true := by decide +kernel
theorem sh_noU : SeqAt.shaped (outD (some .noU)) = true := by decide +kernel
theorem sh_num {p : Int} (h : 0 ≤ p ∧ p < 4) : SeqAt.shaped (outD (some (.num p))) = true := by
  have h4 : p = 0 ∨ p = 1 ∨ p = 2 ∨ p = 3 := by omega
  rcases h4 with e | e | e | e <;> subst e <;> decide +kernel
theorem eq_told : PyData.eqv (outD none) (outD none) = true := by decide +kernel
theorem ne_told {x : Exn} : PyData.eqv (outD (some x)) (outD none) = false := by
  cases x with
  | num v =>
    rw [eqv_strs]
    show (((("InvalidNumber" : Str) == ("told" : Str))) && _) = false
    rw [show (("InvalidNumber" : Str) == ("told" : Str)) = false by decide]
    rfl
  | noT => decide +kernel
  | noU => decide +kernel
theorem gh_no {sc : Scope} {x : Str} (h : sc.names.lookup x = none) : ¬ Vis sc x := fun v => by
  rcases v with v | v | v <;> rw [h] at v <;> cases v
theorem an_start {vs : List V} {n m : Nat} {T : Addr} {σ : St} (hl : vs.length = m) (e : σ = vs.map some ++ [some (V.ref T)] ++ List.replicate n none) : An m T σ := by
  show σ[m]? = some (some (.ref T))
  subst e hl
  rw [List.append_assoc, List.getElem?_append_right (by simp)]
  simp
section
variable {P : Program} {w : World} {K : PySem.W.Frag} {mg : Str → Option Value} {base : Heap} {CO CB CI CN CU : Addr}
abbrev spDid (K : PySem.W.Frag) (CO CB T : Addr) : Sp := spG [some (.ref T)] okDid (fun a => [.own (brdO K CO CB a.1 (a.2.2.2.1 :: a.2.2.2.2.1)), .is (dR K (.list (lnD (linesM a.1)))), .own (ownLs (pastR (a.2.1 :: a.2.2.1))), .is (dR K (ddD a.2.2.2.2.2.1)), .own (tblO qDid)])
  (fun a => [(0, brdO K CO CB a.1 (nxC a.1 a.2.1 a.2.2.1 a.2.2.2.1 a.2.2.2.2.1 a.2.2.2.2.2.2 a.2.2.2.2.2.1)), (2, ownLs (pastR (nxU a.1 a.2.1 a.2.2.1 a.2.2.2.2.2.1))), (4, tblO qDid)]) fun _ => blR true
/-- the statements of the def -/
abbrev didSt (i : Nat) : Stmt := (C8.fnBody sDid).getD i (.Pass ⟨0, 0, 0, 0⟩)
/-- the frame, from the deed's parts on -/
abbrev didF (K : PySem.W.Frag) (CO CB : Addr) (z : Cs) (ch : Chn) (Ds : List Rel) (d : Dd) (a8 a9 : Ent) : Frm := [.own (brdO K CO CB z ch), .is (dR K (.list (lnD (linesM z)))), .own (ownLs Ds), .is (dR K (ddD d)), .own (tblO qDid)] ++ (ddRs d).map .is ++ [a8, a9]
theorem os3 {a b : Frm} {P0 P2 P4 : Own} (h0 : ∃ P, a[0]? = some (Ent.own P)) (h2 : ∃ P, a[2]? = some (Ent.own P)) (h4 : ∃ P, a[4]? = some (Ent.own P)) (g0 : ∃ P, b[0]? = some (Ent.own P)) (g2 : ∃ P, b[2]? = some (Ent.own P)) (g4 : ∃ P, b[4]? = some (Ent.own P)) :
    ∀ p ∈ [((0 : Nat), P0), (2, P2), (4, P4)], (∃ P, a[p.1]? = some (Ent.own P)) ∧ ∃ P, b[p.1]? = some (Ent.own P) := fun p hp => by
  rcases List.mem_cons.mp hp with e | hp
  · rw [e]
    exact ⟨h0, g0⟩
  · rcases List.mem_cons.mp hp with e | hp
    · rw [e]
      exact ⟨h2, g2⟩
    · rw [List.mem_singleton.mp hp]
      exact ⟨h4, g4⟩
theorem oz3 {b : Frm} {P0 P2 P4 : Own} (g0 : b[0]? = some (Ent.own P0)) (g2 : b[2]? = some (Ent.own P2)) (g4 : b[4]? = some (Ent.own P4)) : ∀ p ∈ [((0 : Nat), P0), (2, P2), (4, P4)], b[p.1]? = some (Ent.own p.2) := fun p hp => by
  rcases List.mem_cons.mp hp with e | hp
  · rw [e]
    exact g0
  · rcases List.mem_cons.mp hp with e | hp
    · rw [e]
      exact g2
    · rw [List.mem_singleton.mp hp]
      exact g4
theorem c_did {cd T : Addr} (F : DfC K mg "_law_board_did" sDid cd) (TB : LamX.TabB base mg cd T) (M : Md K mg) (EC : ErrC K mg CI CN CU) (Fc : Df K mg "_law_board_caught" sCaught) (cdo : CalX P w K mg base 7 "_law_board_do" (spDo K CO CB CI CN CU)) (ck : C8.Cal P w K mg base 1 "_law_keeping" (spKeep K) []) :
    CalG P w K mg base 10 "_law_board_did" (spDid K CO CB T) :=
  cal_defG (n := 5) F (fun _ _ _ _ _ _ us hl => match us, hl with | [_, _, _, _], _ => rfl) scDid rfl (fun _ => rfl) (fun i h1 h2 y hy => by
    have hi : i = 4 := Nat.le_antisymm (Nat.le_of_lt_succ h2) h1
    subst hi
    cases hy
    exact gh_no (by decide +kernel)) fun f a A outer s H E hp hg hr => by
    obtain ⟨z, t0, us, L0, ch, d, L'⟩ := a
    replace hp : OkDid z t0 us L0 ch d L' := hp
    have nd := scDid.nd
    have hun : (A.deeper (envOfC "_law_board_did" (C8.fnScope sDid) s.heap.objs.size f (.ref cd))).units + 1 < cLine := by have := hr.units; omega
    refine pss_imp (t := fun D σ H => An 4 T σ ∧ tXR [(0, brdO K CO CB z (nxC z t0 us L0 ch L' d)), (2, ownLs (pastR (nxU z t0 us d))), (4, tblO qDid)] [.own (brdO K CO CB z (L0 :: ch)), .is (dR K (.list (lnD (linesM z)))), .own (ownLs (pastR us ++ [dcR (kI t0)])), .is (dR K (ddD d)), .own (tblO qDid), .no, .no, .no, .no, .no] (blR true) D σ H) ?_ fun D σ H ⟨⟨vs, hl, e⟩, q⟩ => ⟨an_start hl e, by
      rw [← pastR_cons]
      exact q⟩
    have s0 : XN (BX P w K mg base nDid "_law_board_did" (C8.fnScope sDid) f (.ref cd) A outer s H E) (didSt 0) [.own (brdO K CO CB z (L0 :: ch)), .is (dR K (.list (lnD (linesM z)))), .own (ownLs (pastR us ++ [dcR (kI t0)])), .is (dR K (ddD d)), .own (tblO qDid), .no, .no, .no, .no, .no] (didF K CO CB z (L0 :: ch) (pastR us ++ [dcR (kI t0)]) d .no .no) := by
      cases d with
      | drop p => exact n_asg (x_weak (x_v 3) fun H v r => dd_tups (.drop p) r) (xg_tup rfl (xgs_cons (xg_name 5 nd) (xgs_cons (xg_name 6 nd) (xgs_cons (xg_name 7 nd) xgs_nil)))) (so (by exact trivial))
      | put p v => exact n_asg (x_weak (x_v 3) fun H v' r => dd_tups (.put p v) r) (xg_tup rfl (xgs_cons (xg_name 5 nd) (xgs_cons (xg_name 6 nd) (xgs_cons (xg_name 7 nd) xgs_nil)))) (so (by exact trivial))
      | undo => exact n_asg (x_weak (x_v 3) fun H v r => dd_tups .undo r) (xg_tup rfl (xgs_cons (xg_name 5 nd) (xgs_cons (xg_name 6 nd) (xgs_cons (xg_name 7 nd) xgs_nil)))) (so (by exact trivial))
    have s1 : XN (BX P w K mg base nDid "_law_board_did" (C8.fnScope sDid) f (.ref cd) A outer s H E) (didSt 1) (didF K CO CB z (L0 :: ch) (pastR us ++ [dcR (kI t0)]) d .no .no) (didF K CO CB z (L0 :: ch) (pastR us ++ [dcR (kI t0)]) d (.is (dR K (outD none))) (.own (ownDc (kI t0)))) := by
      cases d with
      | drop p => exact n_parRO 8 9 (x_eqd (x_tup (ds := [.str "told", .str "None"]) (xa_cons (x_ofS x_str) (xa_cons (x_ofS x_str) xa_nil))) rfl) (o_dictOf M.dict_ (x_ownLastR 2 rfl (x_neg x_int))) rfl nd (by decide) rfl rfl
      | put p v => exact n_parRO 8 9 (x_eqd (x_tup (ds := [.str "told", .str "None"]) (xa_cons (x_ofS x_str) (xa_cons (x_ofS x_str) xa_nil))) rfl) (o_dictOf M.dict_ (x_ownLastR 2 rfl (x_neg x_int))) rfl nd (by decide) rfl rfl
      | undo => exact n_parRO 8 9 (x_eqd (x_tup (ds := [.str "told", .str "None"]) (xa_cons (x_ofS x_str) (xa_cons (x_ofS x_str) xa_nil))) rfl) (o_dictOf M.dict_ (x_ownLastR 2 rfl (x_neg x_int))) rfl nd (by decide) rfl rfl
    obtain ⟨o, ho⟩ : ∃ o, o = outM z t0 us d := ⟨_, rfl⟩
    have hsm : ∀ v, o = some (.num v) → v.natAbs.log2 < 1920 := fun v hv => by
      rw [ho] at hv
      have hn4 := (pmOk_len hp.cs.1).2
      cases d with
      | undo =>
        have hv' : (if us = [] then some Exn.noU else none) = some (.num v) := hv
        split at hv' <;> cases hv'
      | put p i =>
        have hv' : (if keM (linesM z) (putI t0 p i) = [] then some Exn.noT else none) = some (.num v) := hv
        split at hv' <;> cases hv'
      | drop p =>
        have hv' : (if getI t0 p = none then some (Exn.num p) else none) = some (.num v) := hv
        split at hv'
        · have e : p = v := by
            cases hv'
            rfl
          have hd : 0 ≤ p ∧ p < (z.1.length : Int) := hp.dd
          exact (smI_ok ⟨by omega, by omega⟩).1
        · cases hv'
    have hsh : SeqAt.shaped (outD o) = true := by
      rw [ho]
      have hn4 := (pmOk_len hp.cs.1).2
      cases d with
      | undo =>
        show SeqAt.shaped (outD (if us = [] then some Exn.noU else none)) = true
        split
        · exact sh_noU
        · exact sh_told
      | put p i =>
        show SeqAt.shaped (outD (if keM (linesM z) (putI t0 p i) = [] then some Exn.noT else none)) = true
        split
        · exact sh_noT
        · exact sh_told
      | drop p =>
        show SeqAt.shaped (outD (if getI t0 p = none then some (Exn.num p) else none)) = true
        split
        · have hd : 0 ≤ p ∧ p < (z.1.length : Int) := hp.dd
          exact sh_num ⟨hd.1, by omega⟩
        · exact sh_told
    have s3 : ∀ a9 : Ent, PSA 4 T (BX P w K mg base nDid "_law_board_did" (C8.fnScope sDid) f (.ref cd) A outer s H E) (didSt 3) (tXN (didF K CO CB z (L0 :: ch) (pastR us ++ [dcR (kI t0)]) d (.is (dR K (outD o))) a9) (didF K CO CB z (nxC z t0 us L0 ch L' d) (pastR us ++ [dcR (kI t0)]) d (.is (dR K (outD o))) a9)) := fun a9 => by
      obtain ⟨ok, e1, e2⟩ := do_is hp (decide (2 < ((pastR us ++ [dcR (kI t0)]).length : Int)))
      have hso : SameOwn (didF K CO CB z (L0 :: ch) (pastR us ++ [dcR (kI t0)]) d (.is (dR K (outD o))) a9) (didF K CO CB z (nxC z t0 us L0 ch L' d) (pastR us ++ [dcR (kI t0)]) d (.is (dR K (outD o))) a9) := so_put (i := 0) rfl
      have e8 : (didF K CO CB z (nxC z t0 us L0 ch L' d) (pastR us ++ [dcR (kI t0)]) d (.is (dR K (outD o))) a9)[8]? = some (.is (dR K (outD o))) := by cases d <;> rfl
      refine na_ifF hso (xtfa_cmp (kb := false) hso (op_neD hr.units) ?_ (x_caught (k := 7) (o := o) EC M.repr_ Fc TB rfl rfl hr (show LamX.LamS (C8.fnScope sDid) _ from LamX.lamS_by (by decide +kernel)) rfl (fun _ _ _ _ _ => rfl) rfl hsm ?_) (x_v 8 e8))
      · have q := ox_neD (K := K) (d := outD o) (e := outD o) hsh hsh
        rw [show PyData.eqv (outD o) (outD o) = true by rw [eqv_strs]; simp] at q
        exact q
      · intro A' outer' s' H' E' f' c' hr'
        refine pe_imp (x_callX (X := LamX.lamCx (BX P w K mg base nDid "_law_board_did" (C8.fnScope sDid) f (.ref cd) A outer s H E) A' outer' s' H' E' _ f' c') (Rs := didF K CO CB z (L0 :: ch) (pastR us ++ [dcR (kI t0)]) d (.is (dR K (outD o))) a9) (E := E') 0 cdo (ordM z, z.2.2, L0 :: ch, d, L', decide (2 < ((pastR us ++ [dcR (kI t0)]).length : Int))) rfl hr' (by decide) ok (takes_of rfl rfl rfl rfl) (xa_cons (x_v 3) (xa_cons (x_cmp op_gt ox_I0 (x_ownLenR 2 M.len rfl) x_int) xa_nil))) fun σ H Q q => ?_
        show tXFX CI CN CU (fun _ => E') (didF K CO CB z (L0 :: ch) (pastR us ++ [dcR (kI t0)]) d (.is (dR K (outD o))) a9) (doR (ordM z) z.2.2 (L0 :: ch) d L') (didF K CO CB z (doC (ordM z) z.2.2 (L0 :: ch) d L') (pastR us ++ [dcR (kI t0)]) d (.is (dR K (outD o))) a9) nonR σ H Q
        rw [e1, e2, ← ho]
        exact q
    have xdue : ∀ {Y : Cx} {Rs : Frm} {p1 p2 p3 : Pos} {kk j1 j2}, Y.K = K → XE Y (.Tuple [.Constant (.str "told") j1 p1, .Constant (.str "None") j2 p2] kk p3) Rs (dR K (outD none)) := fun {Y Rs p1 p2 p3 kk j1 j2} hK => by
      subst hK
      exact x_eqd (x_tup (ds := [.str "told", .str "None"]) (xa_cons (x_ofS x_str) (xa_cons (x_ofS x_str) xa_nil))) rfl
    have hun2 := hr.units
    refine ba_cons (P := tblO qDid) (P' := tblO qDid) rfl (by cases d <;> rfl) s0 ?_ (by cases d <;> exact os3 ⟨_, rfl⟩ ⟨_, rfl⟩ ⟨_, rfl⟩ ⟨_, rfl⟩ ⟨_, rfl⟩ ⟨_, rfl⟩)
    refine ba_cons (P := tblO qDid) (P' := tblO qDid) (by cases d <;> rfl) (by cases d <;> rfl) s1 ?_ (by cases d <;> exact os3 ⟨_, rfl⟩ ⟨_, rfl⟩ ⟨_, rfl⟩ ⟨_, rfl⟩ ⟨_, rfl⟩ ⟨_, rfl⟩)
    cases d with
    | undo =>
      have s2 : XN (BX P w K mg base nDid "_law_board_did" (C8.fnScope sDid) f (.ref cd) A outer s H E) (didSt 2) (didF K CO CB z (L0 :: ch) (pastR us ++ [dcR (kI t0)]) .undo (.is (dR K (outD none))) (.own (ownDc (kI t0)))) (didF K CO CB z (L0 :: ch) (pastR us ++ [dcR (kI t0)]) .undo (.is (dR K (outD o))) (.own (ownDc (kI t0)))) := by
        refine n_if (k := true) (xt_is (xt_eqS (x_v 5) x_str) rfl) (fun _ => ns_one (n_set 8 (R := dR K (outD o)) (x_if (k := decide (((pastR us ++ [dcR (kI t0)]).length : Int) = 1)) (xt_eqI (x_ownLenR 2 M.len rfl) x_int) (fun hk => ?_) fun hk => ?_) nd)) fun z => by cases z
        · have hl : us = [] := by
            have := of_decide_eq_true hk
            rw [List.length_append] at this
            unfold pastR at this
            rw [List.length_map, List.length_reverse] at this
            exact List.length_eq_zero_iff.mp (by
              have h1 : (([dcR (kI t0)] : List Rel).length) = 1 := rfl
              omega)
          have e : o = some .noU := ho.trans (if_pos hl)
          rw [e]
          exact x_eqd (x_tup (ds := [.str "NothingToUndo", .str ""]) (xa_cons (x_ofS x_str) (xa_cons (x_ofS x_str) xa_nil))) rfl
        · have hl : us ≠ [] := fun e => by
            have := of_decide_eq_false hk
            subst e
            exact this rfl
          have e : o = none := ho.trans (if_neg hl)
          rw [e]
          exact x_v 8
      refine ba_cons (P := tblO qDid) (P' := tblO qDid) rfl rfl s2 ?_ (os3 ⟨_, rfl⟩ ⟨_, rfl⟩ ⟨_, rfl⟩ ⟨_, rfl⟩ ⟨_, rfl⟩ ⟨_, rfl⟩)
      refine ba_last (s3 _) ?_ (os3 ⟨_, rfl⟩ ⟨_, rfl⟩ ⟨_, rfl⟩ ⟨_, rfl⟩ ⟨_, rfl⟩ ⟨_, rfl⟩)
      by_cases hl : us = []
      · have e : o = some .noU := ho.trans (if_pos hl)
        have eU : nxU z t0 us .undo = [t0] := if_pos hl
        subst hl
        rw [e, eU]
        refine b_cons (n_ifF (xt_is (xt_cmp (op_eqD hun2) (ox_eqD sh_noU sh_told) (x_v 8) (xdue rfl)) ne_told)) ?_ (os3 ⟨_, rfl⟩ ⟨_, rfl⟩ ⟨_, rfl⟩ ⟨_, rfl⟩ ⟨_, rfl⟩ ⟨_, rfl⟩)
        exact b_ret x_bl (oz3 rfl rfl rfl)
      · have e : o = none := ho.trans (if_neg hl)
        have eU : nxU z t0 us .undo = us := if_neg hl
        rw [e, eU]
        refine b_cons (n_if (k := true) (xt_is (xt_cmp (op_eqD hun2) (ox_eqD sh_told sh_told) (x_v 8) (xdue rfl)) eq_told) (fun _ => ns_one (n_if (k := true) (xt_is (xt_eqS (x_v 5) x_str) rfl) (fun _ => ns_one (n_popR 2 rfl)) fun z => by cases z)) fun z => by cases z) ?_ (os3 ⟨_, rfl⟩ ⟨_, rfl⟩ ⟨_, rfl⟩ ⟨_, rfl⟩ ⟨_, rfl⟩ ⟨_, rfl⟩)
        exact b_ret x_bl (oz3 rfl rfl rfl)
    | drop p =>
      have hd : 0 ≤ p ∧ p < (z.1.length : Int) := hp.dd
      have hn4 := (pmOk_len hp.cs.1).2
      have ppR : ∀ u : Dct, pastR (u :: t0 :: us) = (pastR us ++ [dcR (kI t0)]) ++ [dcR (kI u)] := fun u => by rw [pastR_cons, pastR_cons]
      have lpR : (pastR us ++ [dcR (kI t0)]).length < 100000 := by
        rw [← pastR_cons]
        unfold pastR
        rw [List.length_map, List.length_reverse, List.length_cons]
        have := hp.mx
        omega
      have s2 : XN (BX P w K mg base nDid "_law_board_did" (C8.fnScope sDid) f (.ref cd) A outer s H E) (didSt 2) (didF K CO CB z (L0 :: ch) (pastR us ++ [dcR (kI t0)]) (.drop p) (.is (dR K (outD none))) (.own (ownDc (kI t0)))) (didF K CO CB z (L0 :: ch) (pastR us ++ [dcR (kI t0)]) (.drop p) (.is (dR K (outD o))) (.own (ownDc (kI (dropI t0 p))))) := by
        refine n_if (k := false) (xt_is (xt_eqS (x_v 5) x_str) (by decide)) (fun z => by cases z) fun _ => ns_one (n_if (k := true) (xt_is (xt_eqS (x_v 5) x_str) rfl) (fun _ => ns_one (n_eq (n_setF (Rs1 := didF K CO CB z (L0 :: ch) (pastR us ++ [dcR (kI t0)]) (.drop p) (.is (dR K (outD none))) (.own (ownDc (kI (dropI t0 p))))) (R := dR K (outD o)) 8 (so_put (i := 9) rfl) (x_ifF (k := (getI t0 p).isNone) (so_put (i := 9) rfl) (xt_isNF (x_popF 9 rfl (x_v 6) ⟨rfl, rfl, rfl, rfl⟩) fun H v r => ?_) (fun hk => ?_) fun hk => ?_) nd) rfl)) fun z => by cases z)
        · rw [show v = _ from r]
          cases getI t0 p <;> rfl
        · have hg : getI t0 p = none := Option.isNone_iff_eq_none.mp hk
          have e : o = some (.num p) := ho.trans (if_pos hg)
          rw [e]
          exact x_eqd (x_tup (ds := [.str "InvalidNumber", .str (toString p)]) (xa_cons (x_ofS x_str) (xa_cons (x_ofS (x_reprI M.repr_ (smI_ok ⟨by omega, by omega⟩).1 (x_v 6))) xa_nil))) rfl
        · have hg : getI t0 p ≠ none := fun z => by
            rw [z] at hk
            cases hk
          have e : o = none := ho.trans (if_neg hg)
          rw [e]
          exact x_v 8
      refine ba_cons (P := tblO qDid) (P' := tblO qDid) rfl rfl s2 ?_ (os3 ⟨_, rfl⟩ ⟨_, rfl⟩ ⟨_, rfl⟩ ⟨_, rfl⟩ ⟨_, rfl⟩ ⟨_, rfl⟩)
      refine ba_last (s3 _) ?_ (os3 ⟨_, rfl⟩ ⟨_, rfl⟩ ⟨_, rfl⟩ ⟨_, rfl⟩ ⟨_, rfl⟩ ⟨_, rfl⟩)
      refine revealG 9 (R0 := dcR (kI (dropI t0 p))) seen_dc rfl ?_ (fun q hq => ?_)
      · show L2.PSs _ _ (tXR _ (didF K CO CB z (nxC z t0 us L0 ch L' (.drop p)) (pastR us ++ [dcR (kI t0)]) (.drop p) (.is (dR K (outD o))) (.is (dcR (kI (dropI t0 p))))) _)
        by_cases hg : getI t0 p = none
        · have e : o = some (.num p) := ho.trans (if_pos hg)
          have eU : nxU z t0 us (.drop p) = t0 :: us := if_pos hg
          rw [e, eU, pastR_cons]
          refine b_cons (n_ifF (xt_is (xt_cmp (op_eqD hun2) (ox_eqD (sh_num ⟨hd.1, by omega⟩) sh_told) (x_v 8) (xdue rfl)) ne_told)) ?_ (os3 ⟨_, rfl⟩ ⟨_, rfl⟩ ⟨_, rfl⟩ ⟨_, rfl⟩ ⟨_, rfl⟩ ⟨_, rfl⟩)
          exact b_ret x_bl (oz3 rfl rfl rfl)
        · have e : o = none := ho.trans (if_neg hg)
          have eU : nxU z t0 us (.drop p) = dropI t0 p :: t0 :: us := if_neg hg
          rw [e, eU, ppR]
          refine b_cons (n_if (k := true) (xt_is (xt_cmp (op_eqD hun2) (ox_eqD sh_told sh_told) (x_v 8) (xdue rfl)) eq_told) (fun _ => ns_one (n_if (k := false) (xt_is (xt_eqS (x_v 5) x_str) (by decide)) (fun z => by cases z) fun _ => ns_one (n_appendR 2 rfl (x_v 9) lpR))) fun z => by cases z) ?_ (os3 ⟨_, rfl⟩ ⟨_, rfl⟩ ⟨_, rfl⟩ ⟨_, rfl⟩ ⟨_, rfl⟩ ⟨_, rfl⟩)
          exact b_ret x_bl (oz3 rfl rfl rfl)
      · rcases List.mem_cons.mp hq with e | hq
        · rw [e]
          show (0 : Nat) ≠ 9
          decide
        · rcases List.mem_cons.mp hq with e | hq
          · rw [e]
            show (2 : Nat) ≠ 9
            decide
          · rw [List.mem_singleton.mp hq]
            show (4 : Nat) ≠ 9
            decide
    | put p v =>
      have hd : 0 ≤ p ∧ p < (z.1.length : Int) := hp.dd.1
      have hn4 := (pmOk_len hp.cs.1).2
      have ppR : ∀ u : Dct, pastR (u :: t0 :: us) = (pastR us ++ [dcR (kI t0)]) ++ [dcR (kI u)] := fun u => by rw [pastR_cons, pastR_cons]
      have lpR : (pastR us ++ [dcR (kI t0)]).length < 100000 := by
        rw [← pastR_cons]
        unfold pastR
        rw [List.length_map, List.length_reverse, List.length_cons]
        have := hp.mx
        omega
      have dk := dok_put (k := p) (v := v) hn4 hp.t.d hd hp.dd.2
      have s2 : XN (BX P w K mg base nDid "_law_board_did" (C8.fnScope sDid) f (.ref cd) A outer s H E) (didSt 2) (didF K CO CB z (L0 :: ch) (pastR us ++ [dcR (kI t0)]) (.put p v) (.is (dR K (outD none))) (.own (ownDc (kI t0)))) (didF K CO CB z (L0 :: ch) (pastR us ++ [dcR (kI t0)]) (.put p v) (.is (dR K (outD o))) (.is (dcR (kI (putI t0 p v))))) := by
        refine n_if (k := false) (xt_is (xt_eqS (x_v 5) x_str) (by decide)) (fun z => by cases z) fun _ => ns_one (n_if (k := false) (xt_is (xt_eqS (x_v 5) x_str) (by decide)) (fun z => by cases z) fun _ => nc (n_dputO 9 (t := t0) (k := p) (v := v) hun rfl (x_v 7) (x_v 6) (by have := hp.t.d.len; omega)) (ns_reveal 9 (R0 := dcR (kI (putI t0 p v))) seen_dc rfl (ns_one (n_set 8 (R := dR K (outD o)) (x_if (k := (keM (linesM z) (putI t0 p v)).isEmpty) (xt_is (xt_cmp (op_eqD hun2) (ox_eqD (shaped_lnD (keM (linesM z) (putI t0 p v))) (shaped_lnD [])) (x_call ck (linesM z, putI t0 p v) hr (by decide) ⟨fit_len hp.cs, fun l hl q hq => by
            rw [(fit_mem hp.cs l hl).1]
            exact (dk.rng q hq).1, dk.nd, dk.len⟩ (xa_cons (x_v 1) (xa_cons (x_v 9) xa_nil))) (x_lst (ds := []) xa_nil)) (by rw [show PyData.eqv _ (.list (lnD [])) = _ from eqv_nil _, List.isEmpty_map])) (fun hk => ?_) fun hk => ?_) nd)) (fun P z => by cases z)) (own1 (by exact trivial)))
        · have hg : keM (linesM z) (putI t0 p v) = [] := List.isEmpty_iff.mp hk
          have e : o = some .noT := ho.trans (if_pos hg)
          rw [e]
          exact x_eqd (x_tup (ds := [.str "NoText", .str ""]) (xa_cons (x_ofS x_str) (xa_cons (x_ofS x_str) xa_nil))) rfl
        · have hg : keM (linesM z) (putI t0 p v) ≠ [] := fun z => by
            rw [z] at hk
            cases hk
          have e : o = none := ho.trans (if_neg hg)
          rw [e]
          exact x_v 8
      refine ba_cons (P := tblO qDid) (P' := tblO qDid) rfl rfl s2 ?_ (os3 ⟨_, rfl⟩ ⟨_, rfl⟩ ⟨_, rfl⟩ ⟨_, rfl⟩ ⟨_, rfl⟩ ⟨_, rfl⟩)
      refine ba_last (s3 _) ?_ (os3 ⟨_, rfl⟩ ⟨_, rfl⟩ ⟨_, rfl⟩ ⟨_, rfl⟩ ⟨_, rfl⟩ ⟨_, rfl⟩)
      by_cases hg : keM (linesM z) (putI t0 p v) = []
      · have e : o = some .noT := ho.trans (if_pos hg)
        have eU : nxU z t0 us (.put p v) = t0 :: us := if_pos hg
        rw [e, eU, pastR_cons]
        refine b_cons (n_ifF (xt_is (xt_cmp (op_eqD hun2) (ox_eqD sh_noT sh_told) (x_v 8) (xdue rfl)) ne_told)) ?_ (os3 ⟨_, rfl⟩ ⟨_, rfl⟩ ⟨_, rfl⟩ ⟨_, rfl⟩ ⟨_, rfl⟩ ⟨_, rfl⟩)
        exact b_ret x_bl (oz3 rfl rfl rfl)
      · have e : o = none := ho.trans (if_neg hg)
        have eU : nxU z t0 us (.put p v) = putI t0 p v :: t0 :: us := if_neg hg
        rw [e, eU, ppR]
        refine b_cons (n_if (k := true) (xt_is (xt_cmp (op_eqD hun2) (ox_eqD sh_told sh_told) (x_v 8) (xdue rfl)) eq_told) (fun _ => ns_one (n_if (k := false) (xt_is (xt_eqS (x_v 5) x_str) (by decide)) (fun z => by cases z) fun _ => ns_one (n_appendR 2 rfl (x_v 9) lpR))) fun z => by cases z) ?_ (os3 ⟨_, rfl⟩ ⟨_, rfl⟩ ⟨_, rfl⟩ ⟨_, rfl⟩ ⟨_, rfl⟩ ⟨_, rfl⟩)
        exact b_ret x_bl (oz3 rfl rfl rfl)
end
end Bo
set_option maxHeartbeats 4000000
/-! Blocks and loops that keep the slot that no name sees; the states of a board and its past. -/
namespace Bo
open PySem L2
open PyProof.Rows (envOfC)
section
variable {X : Cx} {e a b c : Expr} {Rs Rs1 Rs' Rs'' : Frm} {R : Rel} {pos : Pos} {g : Nat} {T : Addr} {st : Stmt} {rest sts body : List Stmt} {pw : List (Nat × Own)} {k : Bool} {Z Y : Type} {p : Z → Prop} {py : Y → Prop} {F : Z → Frm} {G : Y → Frm} {P P' : Own}
theorem pa_cons' (hg : Rs[g]? = some (.own P)) (hg' : Rs1[g]? = some (.own P')) (h : XN X st Rs Rs1) (hr : PSsA g T X rest (tXQ Rs1 p F)) (hp : ∀ (i : Nat) (P : Own), Rs[i]? = some (Ent.own P) → ∃ P1, Rs1[i]? = some (Ent.own P1)) : PSsA g T X (st :: rest) (tXQ Rs p F) :=
  pss_imp (pss_cons h hr) fun D σ H ⟨an, Hv, ow, f, q⟩ => ⟨Hv, ow, f, fun σ1 Hv1 H1 ow1 s1 f1 => ⟨an.next f hg s1 f1 hg', Hv1, ow1, f1, fun z hz σ2 Hv2 H2 ow2 s2 f2 => q z hz σ2 Hv2 H2 ow2 (s1.trans s2 fun j P P2 e e2 => hp j P e) f2⟩⟩
theorem pa_consP (hg : Rs[g]? = some (.own P)) (hg' : ∀ y, py y → ∃ P', (G y)[g]? = some (.own P')) (h : XQ X st Rs py G) (hr : ∀ y, py y → PSsA g T X rest (tXQ (G y) p F)) (hp : ∀ y, py y → ∀ (i : Nat) (P : Own), Rs[i]? = some (Ent.own P) → ∃ P1, (G y)[i]? = some (Ent.own P1)) : PSsA g T X (st :: rest) (tXQ Rs p F) :=
  pss_imp (pss_cons h (pss_any hr)) fun D σ H ⟨an, Hv, ow, f, q⟩ => ⟨Hv, ow, f, fun y hy σ1 Hv1 H1 ow1 s1 f1 => ⟨y, hy, by
    obtain ⟨P', h'⟩ := hg' y hy
    exact an.next f hg s1 f1 h', Hv1, ow1, f1, fun z hz σ2 Hv2 H2 ow2 s2 f2 => q z hz σ2 Hv2 H2 ow2 (s1.trans s2 fun j P P2 e e2 => hp y hy j P e) f2⟩⟩
theorem pa_cov (c : Cov Rs py G) (h : ∀ y, py y → PSsA g T X rest (tXQ (G y) p F)) : PSsA g T X rest (tXQ Rs p F) := pss_imp (pss_any h) fun D σ H ⟨an, Hv, ow, f, q⟩ => by
  obtain ⟨z, hz, fz, ho, back, hj⟩ := c f
  exact ⟨z, hz, an, Hv, ow, fz, fun y hy σ' Hv' H' ow' s f' => q y hy σ' Hv' H' ow' (sts_word ho hj s) f'⟩
theorem ba_cov (c : Cov Rs py G) (h : ∀ y, py y → PSsA g T X rest (tXR pw (G y) R)) : PSsA g T X rest (tXR pw Rs R) := pss_imp (pss_any h) fun D σ H ⟨an, Hv, ow, f, q⟩ => by
  obtain ⟨z, hz, fz, ho, back, _⟩ := c f
  exact ⟨z, hz, an, Hv, ow, fz, fun v Hv' H' s f' o r => q v Hv' H' (s.word fun {b} => (ho b).symm) f' o r⟩
/-- an anchored step at the end of a block -/
theorem pa_one (z : Z) (hz : p z) (h : PSA g T X st (tXN Rs (F z))) : PSsA g T X [st] (tXQ Rs p F) := pss_imp (pss_one h) fun D σ H ⟨an, Hv, ow, f, q⟩ => ⟨an, Hv, ow, f, fun σ' Hv' H' ow' s f' => q z hz σ' Hv' H' ow' s f'⟩
theorem psa_forget (j : Nat) (h : PSA g T X st (tXN Rs Rs1)) : PSA g T X st (tXN Rs (Rs1.set j .no)) := ps_imp h fun D σ H ⟨an, Hv, ow, f, q⟩ => ⟨an, Hv, ow, f, fun σ' Hv' H' ow' s f' => q σ' Hv' H' ow' (s.forget j) (f'.forget j)⟩
theorem psa_eq (h : PSA g T X st (tXN Rs Rs1)) (e : Rs1 = Rs') : PSA g T X st (tXN Rs Rs') := e ▸ h
/-- a statement that ends in one of a family, then the rest -/
theorem ba_consP (hg : Rs[g]? = some (.own P)) (hg' : ∀ z, p z → ∃ P', (F z)[g]? = some (.own P')) (h : PSA g T X st (tXQ Rs p F)) (hr : ∀ z, p z → PSsA g T X rest (tXR pw (F z) R)) (hp : ∀ z, p z → ∀ q ∈ pw, (∃ P, Rs[q.1]? = some (Ent.own P)) ∧ ∃ P, (F z)[q.1]? = some (Ent.own P)) : PSsA g T X (st :: rest) (tXR pw Rs R) :=
  pss_imp (pss_cons h (pss_any hr)) fun D σ H ⟨an, Hv, ow, f, q⟩ => ⟨an, Hv, ow, f, fun z hz σ1 Hv1 H1 ow1 s1 f1 => ⟨z, hz, by
    obtain ⟨P', h'⟩ := hg' z hz
    exact an.next f hg s1 f1 h', Hv1, ow1, f1, fun v Hv2 H2 s2 f2 o2 r => q v Hv2 H2 (s1.stp' s2) f2 (own_eq' (hp z hz) s1 o2) r⟩⟩
theorem p_ifT (h : XT X c Rs true) (h1 : XQs X sts Rs p F) : XQ X (.If c sts [] pos) Rs p F :=
  ps_imp (ps_if h h1 pss_nil) fun D σ H ⟨Hv, ow, f, q⟩ => ⟨Hv, ow, f, fun Hv1 H1 s1 f1 => iteT ⟨Hv1, ow, f1, fun z hz σ2 Hv2 H2 ow2 s2 f2 => q z hz σ2 Hv2 H2 ow2 ((StS.of s1).trans s2 fun j P P2 e _ => ⟨P, e⟩) f2⟩⟩
/-- or: the first changes hidden things and is False -/
theorem xwfa_or {more : List Expr} (ho : SameOwn Rs Rs') (h : XTFA g T X a Rs Rs' false) (h2 : XWF X (.BoolOp .Or (b :: more) pos) Rs' Rs'' k) : PW X (.BoolOp .Or (a :: b :: more) pos) (fun σ H Q => An g T σ ∧ tXTF Rs Rs'' k σ H Q) :=
  pw_imp (pw_or h h2) fun σ H Q ⟨an, Hv, ow, f, q⟩ => ⟨an, Hv, ow, f, fun Hv1 H1 s1 f1 => ⟨Hv1, ow, f1, fun Hv2 H2 s2 f2 => q Hv2 H2 (s1.trans (s2.same ho)) f2⟩⟩
theorem xtfa_not (h : XFA g T X a Rs Rs' (blR k)) (he : ∀ whole, isTrue a X.env whole = (do let v ← whole; standAt a.pos; holding [v] (truthy v)) := by intro _; rfl) : XTFA g T X (.UnaryOp .Not a pos) Rs Rs' (!k) :=
  pt_imp (pt_not (pt_val h he)) fun σ H Q ⟨an, Hv, ow, f, q⟩ => ⟨an, Hv, ow, f, fun v Hv' H' s f' r => ⟨k, r, q Hv' H' s f'⟩⟩
/-- for, each turn from one of a family to one of the next -/
theorem p_forA {tg iter : Expr} {n : Nat} {I : Nat → Rel} {inv : Nat → Z → Prop} (F Gi : Nat → Z → Frm) {ks : List Nat} (z0 : Z) (hi : XI X tg iter Rs n I) (h0 : F 0 z0 = Rs) (hz0 : inv 0 z0) (hc : X.calm = true) (hp : PassesOwn (model X.prog X.w) X.A X.env X.xe) (hgo : ∀ i z, i ≤ n → ∃ P, (F i z)[g]? = some (.own P)) (ho : ∀ i z, i ≤ n → SameOwn Rs (F i z)) (hog : ∀ i z, i < n → SameOwn Rs (Gi i z))
    (hg : ∀ i z, i < n → inv i z → XG X tg (I i) (F i z) (Gi i z) ks) (hb : ∀ i z, i < n → inv i z → PSsA g T X body (tXQ (Gi i z) (inv (i + 1)) (F (i + 1)))) (hs : ∀ x, foldedSetIterable iter X.env x = pure x := by intro _; rfl) : PSA g T X (.For tg iter body [] pos) (tXQ Rs (inv n) (F n)) := by
  have gg : PG X tg (fun v σ H Q => ∃ i z, (i < n ∧ inv i z) ∧ tXG (I i) (F i z) (Gi i z) ks v σ H Q) := ⟨fun pins s σ H v u Q J r ⟨i, z, hi, q⟩ => (hg i z hi.1 hi.2).run pins s σ H v u Q J r q⟩
  have bb : L2.PSs X body (fun D σ H => ∃ i z, (i < n ∧ inv i z) ∧ An g T σ ∧ tXQ (Gi i z) (inv (i + 1)) (F (i + 1)) D σ H) := ⟨fun pins s σ H D J ⟨i, z, hi, q⟩ => (hb i z hi.1 hi.2).run pins s σ H D J q⟩
  refine ps_imp (ps_for hp hc hi gg bb hs) fun D σ H ⟨an, Hv, ow, f, q⟩ => ⟨Hv, ow, f, fun J G Hv1 H1 s1 f1 w g1 => ?_⟩
  refine ⟨fun i m σ2 H2 => m = n - i ∧ i ≤ n ∧ An g T σ2 ∧ ∃ z, inv i z ∧ ∃ Hv2 ow2, Fr Hv2 H2 σ2 (F i z) ow2 ∧ StS Hv H Rs ow Hv2 H2 (F i z) ow2 ∧ G Hv2, ⟨n, by omega, Nat.zero_le _, an, z0, hz0, Hv1, ow, by rw [h0]; exact f1, by rw [h0]; exact .of s1, g1⟩, ?_⟩
  rintro i m σ2 H2 ⟨rfl, hin, an2, z, hz, Hv2, ow2, f2, s2, g2⟩
  by_cases hlt : i < n
  · refine .inr ⟨w.go i Hv2 H2 hlt f2.sub g2, _, fun σ' H' h => h, fun x H3 y => ?_⟩
    obtain ⟨Hv3, a3, r3⟩ := w.yld i Hv2 H2 x H3 hlt f2.sub g2 y
    have f3 := f2.al a3
    have sA : StS Hv2 H2 (F i z) ow2 Hv3 H3 (Gi i z) ow2 := ⟨a3.stp, fun _ _ _ _ _ => rfl, fun j P e => .inl (((ho i z hin) j).mp (((hog i z hlt) j).mpr ⟨P, e⟩))⟩
    refine ⟨i, z, ⟨hlt, hz⟩, Hv3, ow2, f3, r3, fun σ4 f4 _ => ⟨i, z, ⟨hlt, hz⟩, ?_, Hv3, ow2, f4, fun z' hz' σ5 Hv5 H5 ow5 s5 f5 => ?_⟩⟩
    · obtain ⟨P1, e1⟩ := hgo i z hin
      obtain ⟨P2, e2⟩ := ((hog i z hlt) g).mp (((ho i z hin) g).mpr ⟨P1, e1⟩)
      exact an2.next f2 e1 sA f4 e2
    · have sB := sA.trans s5 fun j P P2 e e2 => ((hog i z hlt) j).mp (((ho i z hin) j).mpr ⟨P, e⟩)
      have sC := s2.trans sB fun j P P2 e e2 => ((ho i z hin) j).mp ⟨P, e⟩
      obtain ⟨P1, e1⟩ := hgo i z hin
      obtain ⟨P2, e2⟩ := hgo (i + 1) z' hlt
      exact ⟨n - (i + 1), by omega, rfl, hlt, an2.next f2 e1 sB f5 e2, z', hz', Hv5, ow5, f5, sC, w.mono (a3.sv.trans s5.sv) g2⟩
  · have e : i = n := by omega
    subst e
    exact .inl ⟨w.stop Hv2 H2 f2.sub g2, q z hz σ2 Hv2 H2 ow2 s2 f2⟩
end
/-! ### the states -/
inductive Hs (z : Cs) : List Dct → Chn → Prop
  | one : TOk z [] [] → Hs z [[]] [[]]
  | cons {t L : Dct} {us : List Dct} {ch : Chn} : TOk z t L → Hs z us ch → Hs z (t :: us) (L :: ch)
theorem Hs.top {z : Cs} {U : List Dct} {C : Chn} (h : Hs z U C) : ∃ t us L ch, U = t :: us ∧ C = L :: ch ∧ TOk z t L ∧ ch.length = us.length ∧ (us ≠ [] → Hs z us ch) ∧ (us = [] → t = [] ∧ L = []) := by
  induction h with
  | one h => exact ⟨[], [], [], [], rfl, rfl, h, rfl, fun e => (e rfl).elim, fun _ => ⟨rfl, rfl⟩⟩
  | @cons t L us ch h1 h2 ih =>
    obtain ⟨t', us', L', ch', e1, e2, _, e3, _⟩ := ih
    refine ⟨t, us, L, ch, rfl, rfl, h1, ?_, fun _ => h2, fun e => ?_⟩
    · rw [e1, e2, List.length_cons, List.length_cons, e3]
    · rw [e1] at e
      cases e
theorem Hs.next {z : Cs} {t0 : Dct} {us : List Dct} {L0 : Dct} {ch : Chn} {d : Dd} {L' : Dct} (h : OkDid z t0 us L0 ch d L') (hs : Hs z (t0 :: us) (L0 :: ch)) : Hs z (nxU z t0 us d) (nxC z t0 us L0 ch L' d) := by
  obtain ⟨t, us', L, ch', e1, e2, tk, ln, h1, h2⟩ := hs.top
  cases e1
  cases e2
  cases d with
  | undo =>
    show Hs z (if us = [] then [t0] else us) (if us = [] then [L0] else ch)
    by_cases e : us = []
    · rw [if_pos e, if_pos e]
      obtain ⟨e3, e4⟩ := h2 e
      subst e3 e4
      exact .one tk
    · rw [if_neg e, if_neg e]
      exact h1 e
  | drop p =>
    show Hs z (if getI t0 p = none then t0 :: us else dropI t0 p :: t0 :: us) (if getI t0 p = none then L0 :: ch else drN L0 p :: L0 :: ch)
    by_cases e : getI t0 p = none
    · rw [if_pos e, if_pos e]
      exact hs
    · rw [if_neg e, if_neg e]
      exact .cons (h.pl.tok (dok_drop tk.d) (srt_drop tk.s) (ke_drop tk.ne)) hs
  | put p v =>
    show Hs z (if keM (linesM z) (putI t0 p v) = [] then t0 :: us else putI t0 p v :: t0 :: us) (if keM (linesM z) (putI t0 p v) = [] then L0 :: ch else L' :: L0 :: ch)
    by_cases e : keM (linesM z) (putI t0 p v) = []
    · rw [if_pos e, if_pos e]
      exact hs
    · rw [if_neg e, if_neg e]
      exact .cons (h.pl.tok (dok_put (pmOk_len h.cs.1).2 tk.d h.dd.1 h.dd.2) (h.l' p v rfl) e) hs
theorem nxU_len {z : Cs} {t0 : Dct} {us : List Dct} {d : Dd} : (nxU z t0 us d).length ≤ us.length + 2 := by
  cases d with
  | undo =>
    show (if us = [] then [t0] else us).length ≤ _
    split
    · rw [List.length_singleton]
      omega
    · omega
  | drop p =>
    show (if getI t0 p = none then t0 :: us else dropI t0 p :: t0 :: us).length ≤ _
    split <;> simp
  | put p v =>
    show (if keM (linesM z) (putI t0 p v) = [] then t0 :: us else putI t0 p v :: t0 :: us).length ≤ _
    split <;> simp
end Bo
set_option maxHeartbeats 4000000
namespace Bo
open PySem L2
open PyProof.Rows (envOfC)
section
variable {X : Cx} {e tg : Expr} {Rs : Frm} {pos : Pos} {Z : Type} {p : Z → Prop} {Rz : Z → Rel} {F : Z → Frm} {ks : List Nat} {g : Nat} {T : Addr} {st : Stmt} {rest : List Stmt} {pw : List (Nat × Own)} {R : Rel}
/-- a, b, .. = a value of a family -/
theorem p_asgZ (h : XE X e Rs (exR p Rz)) (hg : ∀ z, p z → XG X tg (Rz z) Rs (F z) ks) (ho : ∀ z, SameOwn Rs (F z)) (hs : swapsWithSole [tg] e pos.line X.env = pure false := by rfl) (hw : swappedStores [tg] e X.env = pure none := by rfl) (h1 : (assignEach [tg] X.env).map (·.2) = [assign tg X.env] := by rfl) : XQ X (.Assign [tg] e pos) Rs p F := by
  have gg : PG X tg (fun v σ H Q => ∃ z, p z ∧ tXG (Rz z) Rs (F z) ks v σ H Q) := ⟨fun pins s σ H v u Q J r ⟨z, hz, q⟩ => (hg z hz).run pins s σ H v u Q J r q⟩
  exact ps_imp (ps_asg h gg hs hw h1) fun D σ H ⟨Hv, ow, f, q⟩ => ⟨Hv, ow, f, fun v Hv' H' s f' ⟨z, hz, r⟩ => ⟨z, hz, Hv', ow, f', r, fun σ' f2 _ => q z hz σ' Hv' H' ow (sts_same (ho z) s) f2⟩⟩
theorem psa_of (h : XQ X st Rs p F) : PSA g T X st (tXQ Rs p F) := ps_imp h fun D σ H ⟨_, q⟩ => q
theorem pssa_of {t : TS} (h : L2.PSs X rest t) : PSsA g T X rest t := pss_imp h fun D σ H ⟨_, q⟩ => q
end
abbrev sRight : Stmt := top 61
abbrev nRight : List Str := ["_law_jug_here", "$t", "_law_spots_here", "_law_sort", "_law_below", "_law_lines", "_law_board", "_law_past", "_law_turn", "_law_deed", "_law_way_now", "_law_spot"]
theorem scRight : FnScope nRight ["_law_jug_here"] (C8.fnScope sRight) := C8.fnScope_by (by decide +kernel)
abbrev rgtSt (i : Nat) : Stmt := (C8.fnBody sRight).getD i (.Pass ⟨0, 0, 0, 0⟩)
theorem os2 {a b : Frm} {P0 P1 : Own} (h0 : ∃ P, a[0]? = some (Ent.own P)) (h1 : ∃ P, a[1]? = some (Ent.own P)) (g0 : ∃ P, b[0]? = some (Ent.own P)) (g1 : ∃ P, b[1]? = some (Ent.own P)) : ∀ p ∈ [((0 : Nat), P0), (1, P1)], (∃ P, a[p.1]? = some (Ent.own P)) ∧ ∃ P, b[p.1]? = some (Ent.own P) := fun p hp => by
  rcases List.mem_cons.mp hp with e | hp
  · rw [e]
    exact ⟨h0, g0⟩
  · rw [List.mem_singleton.mp hp]
    exact ⟨h1, g1⟩
theorem oz2 {b : Frm} {P0 P1 : Own} (g0 : b[0]? = some (Ent.own P0)) (g1 : b[1]? = some (Ent.own P1)) : ∀ p ∈ [((0 : Nat), P0), (1, P1)], b[p.1]? = some (Ent.own p.2) := fun p hp => by
  rcases List.mem_cons.mp hp with e | hp
  · rw [e]
    exact g0
  · rw [List.mem_singleton.mp hp]
    exact g1
/-- the frame: the case, the state, what stands in the last four slots -/
abbrev rgF (K : PySem.W.Frag) (CO CB : Addr) (z : Cs) (U : List Dct) (C : Chn) (a8 a9 a10 a11 : Ent) : Frm := [.own (jugO K), .own (tblO qDid), .is (ptR K (z.1.map .int)), .is (strR z.2.1.s), .is (intR (z.2.2 : Int)), .is (dR K (.list (lnD (linesM z)))), .own (brdO K CO CB z C), .own (ownLs (pastR U)), a8, a9, a10, a11]
abbrev rgF0 (K : PySem.W.Frag) (z : Cs) : Frm := [.own (jugO K), .own (tblO qDid), .is (ptR K (z.1.map .int)), .is (strR z.2.1.s), .is (intR (z.2.2 : Int)), .is (dR K (.list (lnD (linesM z)))), .no, .no, .no, .no, .no, .no]
section
variable {P : Program} {w : World} {K : PySem.W.Frag} {mg : Str → Option Value} {base : Heap} {CO CB CI CN CU : Addr}
abbrev spRight (K : PySem.W.Frag) (T : Addr) : Sp := spG [some (.ref T)] (fun _ : Unit => True) (fun _ => [.own (jugO K), .own (tblO qDid)]) (fun _ => [(0, jugO K), (1, tblO qDid)]) fun _ => blR true
theorem hn_js {As : Frm} {js : List Nat} {j : Nat} (hl : js.length = As.length) (h : j ∉ js) : ∀ (k : Nat) (P : Own), As[k]? = some (.own P) → js.getD k 0 ≠ j := fun k P e z => by
  have lt : k < js.length := by
    rw [hl]
    exact (List.getElem?_eq_some_iff.mp e).1
  rw [List.getD_eq_getElem?_getD, List.getElem?_eq_getElem lt] at z
  exact h (by rw [← z]; exact List.getElem_mem lt)
abbrev XRt (P : Program) (w : World) (K : PySem.W.Frag) (mg : Str → Option Value) (base : Heap) (f cr : Addr) (A : Around) (outer : List Env) (s : Shared) (H : Hp) (E : XK) : Cx := BX P w K mg base nRight "_law_right" (C8.fnScope sRight) f (.ref cr) A outer s H E
/-- a turn's test: the deed done, the board told -/
theorem turn_ok {f cr T : Addr} {A : Around} {outer : List Env} {s : Shared} {H : Hp} {E : XK} {z : Cs} {t0 : Dct} {us : List Dct} {L0 : Dct} {ch : Chn} {d : Dd} {L' : Dct} {a8 a9 a10 a11 : Ent} {eD : Expr} {p1 p2 p3 p4 p5 p6 p7 p8 p9 p10 p11 p12 p13 p14 : Pos} {sts : List Stmt}
    (cdid : CalG P w K mg base 10 "_law_board_did" (spDid K CO CB T)) (ctl : CalG P w K mg base 4 "_law_board_tells" (spTells K CO CB)) (hok : OkDid z t0 us L0 ch d L') (hmx : us.length ≤ 50) (hnx : Hs z (nxU z t0 us d) (nxC z t0 us L0 ch L' d)) (hg : NoG (XRt P w K mg base f cr A outer s H E).A) (hr : Room 10 (XRt P w K mg base f cr A outer s H E).A)
    (hD : XE (XRt P w K mg base f cr A outer s H E) eD (rgF K CO CB z (t0 :: us) (L0 :: ch) a8 a9 a10 a11) (dR K (ddD d))) (h1 : starEach [eD] (XRt P w K mg base f cr A outer s H E).env = [(false, eval eD (XRt P w K mg base f cr A outer s H E).env)])
    (hpl : (backTo p5 (starEach [.Name "_law_lines" p3, .Name "_law_past" p4, eD] (XRt P w K mg base f cr A outer s H E).env)).any (·.1) = false) :
    PSA 1 T (XRt P w K mg base f cr A outer s H E) (.If (.BoolOp .Or [.UnaryOp .Not (.Call (.Name "_law_board_did" p1) [.Name "_law_board" p2, .Name "_law_lines" p3, .Name "_law_past" p4, eD] [] p5) p6, .UnaryOp .Not (.Call (.Name "_law_board_tells" p7) [.Name "_law_board" p8, .Name "_law_lines" p9, .Name "_law_past" p10] [] p11) p12] p13) sts [] p14)
      (tXN (rgF K CO CB z (t0 :: us) (L0 :: ch) a8 a9 a10 a11) (rgF K CO CB z (nxU z t0 us d) (nxC z t0 us L0 ch L' d) a8 a9 a10 a11)) := by
  have hso : SameOwn (rgF K CO CB z (t0 :: us) (L0 :: ch) a8 a9 a10 a11) (rgF K CO CB z (nxU z t0 us d) (nxC z t0 us L0 ch L' d) a8 a9 a10 a11) := fun j => by
    have q1 := so_put (Rs := rgF K CO CB z (t0 :: us) (L0 :: ch) a8 a9 a10 a11) (i := 6) (P' := brdO K CO CB z (nxC z t0 us L0 ch L' d)) rfl j
    have q2 := so_put (Rs := (rgF K CO CB z (t0 :: us) (L0 :: ch) a8 a9 a10 a11).set 6 (.own (brdO K CO CB z (nxC z t0 us L0 ch L' d)))) (i := 7) (P' := ownLs (pastR (nxU z t0 us d))) rfl j
    exact q1.trans q2
  have hun := nxU_len (z := z) (t0 := t0) (us := us) (d := d)
  have did := x_callT (X := XRt P w K mg base f cr A outer s H E) (Rs := rgF K CO CB z (t0 :: us) (L0 :: ch) a8 a9 a10 a11) (e := .Name "_law_board" p2) (es := [.Name "_law_lines" p3, .Name "_law_past" p4, eD]) (p := p1) (pos := p5) (Pt := tblO qDid) (js := [6, 0, 7, 0, 1]) 1 cdid (z, t0, us, L0, ch, d, L') hg hr (by decide) hok rfl
    (xaf_own 6 rfl (xaf_is (x_v 5) (xaf_own 7 rfl (xaf_is hD (xaf_ghost 1 rfl) h1) (hn_js rfl (by decide)))) (hn_js rfl (by decide))) (fun k P e => ?_) (fun q hq => ?_) rfl (by decide) rfl hpl rfl
  · obtain ⟨t1, us1, L1, ch1, e1, e2, tk1, ln1, _⟩ := hnx.top
    have tel : XF (XRt P w K mg base f cr A outer s H E) (.Call (.Name "_law_board_tells" p7) [.Name "_law_board" p8, .Name "_law_lines" p9, .Name "_law_past" p10] [] p11) (rgF K CO CB z (nxU z t0 us d) (nxC z t0 us L0 ch L' d) a8 a9 a10 a11) (rgF K CO CB z (nxU z t0 us d) (nxC z t0 us L0 ch L' d) a8 a9 a10 a11) (blR true) := by
      rw [e1] at hun ⊢
      rw [e2]
      rw [List.length_cons] at hun
      exact x_callG (js := [6, 0, 7]) ctl (z, t1, us1, L1, ch1) hg hr (by decide) ⟨hok.cs, tk1, ln1, by show us1.length ≤ 100; omega⟩ (xaf_own 6 rfl (xaf_is (x_v 5) (xaf_own 7 rfl xaf_nil (hn_js rfl (by decide)))) (hn_js rfl (by decide)))
        (fun k P e => match k, e with
          | 0, _ => ⟨_, List.mem_cons_self⟩
          | 1, e => by cases e
          | 2, _ => ⟨_, List.mem_cons_of_mem _ List.mem_cons_self⟩
          | k + 3, e => by simp at e) (fun q hq => by
          rcases List.mem_cons.mp hq with e | hq
          · rw [e]
            exact ⟨_, rfl⟩
          · rw [List.mem_singleton.mp hq]
            exact ⟨_, rfl⟩)
    exact na_ifF hso (PW.pt (xwfa_or hso (xtfa_not did) (xwf_or1 (xtf_not (xtf_val tel)))))
  · match k, e with
    | 0, _ => exact ⟨_, List.mem_cons_self⟩
    | 1, e => cases e
    | 2, _ => exact ⟨_, List.mem_cons_of_mem _ List.mem_cons_self⟩
    | 3, e => cases e
    | 4, _ => exact ⟨_, List.mem_cons_of_mem _ (List.mem_cons_of_mem _ List.mem_cons_self)⟩
    | k + 5, e => simp at e
  · rcases List.mem_cons.mp hq with e | hq
    · rw [e]
      exact ⟨_, rfl⟩
    · rcases List.mem_cons.mp hq with e | hq
      · rw [e]
        exact ⟨_, rfl⟩
      · rw [List.mem_singleton.mp hq]
        exact ⟨_, rfl⟩
end
end Bo
set_option maxHeartbeats 4000000
namespace Bo
open PySem L2
open PyProof.Rows (envOfC)
section
variable {P : Program} {w : World} {K : PySem.W.Frag} {mg : Str → Option Value} {base : Heap} {CO CB CI CN CU : Addr}
theorem ex_l' (t0 : Dct) (d : Dd) (n b : Nat) (hn : n ≤ 4) (hd : okDd n b d) (ht : DOk n b t0) : ∃ L' : Dct, ∀ p v, d = .put p v → Srt L' (putI t0 p v) := by
  cases d with
  | put p v =>
    obtain ⟨L', h⟩ := srt_ex (dok_put hn ht hd.1 hd.2).nd
    exact ⟨L', fun p' v' e => by cases e; exact h⟩
  | drop p => exact ⟨[], fun p' v' e => by cases e⟩
  | undo => exact ⟨[], fun p' v' e => by cases e⟩
abbrev St2 := List Dct × Chn
abbrev inv1 (z : Cs) (i : Nat) (u : St2) : Prop := Hs z u.1 u.2 ∧ u.1.length ≤ i + 1
abbrev inv2 (z : Cs) (n i : Nat) (u : St2) : Prop := Hs z u.1 u.2 ∧ u.1.length = max 1 (n - i)
theorem c_right {cr T : Addr} (F : DfC K mg "_law_right" sRight cr) (M : Md K mg) (hPL : ∀ z, okCs z → PL z) (c1 : C8.Cal P w K mg base 4 "_law_board_case" (spCase K) []) (mo : C8.Mak P w K mg base 4 "Order" CO (spOrdInit K CO) []) (mb : C8.Mak P w K mg base 5 "Board" CB (spBrdInit K CO CB) []) (c2 : C8.Cal P w K mg base 3 "_law_board_deed" (spDeed K) []) (c3 : C8.Cal P w K mg base 1 "_law_swig" (spSwig K) []) (c4 : C8.Cal P w K mg base 2 "_law_one" (spOne K) [])
    (cdid : CalG P w K mg base 10 "_law_board_did" (spDid K CO CB T)) (ctl : CalG P w K mg base 4 "_law_board_tells" (spTells K CO CB)) : CalG P w K mg base 11 "_law_right" (spRight K T) :=
  cal_defG (n := 10) F (fun _ _ _ _ _ _ us hl => match us, hl with | [_], _ => rfl) scRight rfl (fun _ => rfl) (fun i h1 h2 y hy => by
    have hi : i = 1 := Nat.le_antisymm (Nat.le_of_lt_succ h2) h1
    subst hi
    cases hy
    exact gh_no (by decide +kernel)) fun f a A outer s H E hp hg hr => by
    have nd := scRight.nd
    have hun : (A.deeper (envOfC "_law_right" (C8.fnScope sRight) s.heap.objs.size f (.ref cr))).units + 2 < cLine := by have := hr.units; omega
    have hu0 : (A.deeper (envOfC "_law_right" (C8.fnScope sRight) s.heap.objs.size f (.ref cr))).units < cLine := by omega
    have hu1' : (A.deeper (envOfC "_law_right" (C8.fnScope sRight) s.heap.objs.size f (.ref cr))).units + 1 < cLine := by omega
    refine pss_imp (t := fun D σ H => An 1 T σ ∧ tXR [(0, jugO K), (1, tblO qDid)] [.own (jugO K), .own (tblO qDid), .no, .no, .no, .no, .no, .no, .no, .no, .no, .no] (blR true) D σ H) ?_ fun D σ H ⟨⟨vs, hl, e⟩, q⟩ => ⟨an_start hl e, q⟩
    -- the case
    refine ba_consP (P := tblO qDid) (p := okCs) (F := rgF0 K) rfl (fun z _ => ⟨tblO qDid, rfl⟩) (psa_of (p_asgZ (Rz := csR K) (x_call1S (α := Unit) (R' := exR okCs (csR K)) 0 c1 () rfl hr (by decide) trivial xa_nil) (fun z hz => xg_tup rfl (xgs_cons (xg_name 2 nd) (xgs_cons (xg_name 3 nd) (xgs_cons (xg_name 4 nd) (xgs_cons (xg_name 5 nd) xgs_nil))))) fun z => so (by exact trivial))) (fun z hz => ?_) fun z _ => os2 ⟨_, rfl⟩ ⟨_, rfl⟩ ⟨_, rfl⟩ ⟨_, rfl⟩
    have pl := hPL z hz
    have hps := pmOk_ps hz.1
    -- the board, its past
    refine ba_cons (P := tblO qDid) (P' := tblO qDid) (Rs1 := rgF K CO CB z [[]] [[]] .no .no .no .no) rfl rfl (n_parOO 6 7 (o_make (k := 5) (j := 10) (α := Ord × Nat) (P2 := fun a => ownI CB (brdF K CO a.1 a.2 [[]])) mb (ordM z, z.2.2) hr (by decide) pl.bd (xa_cons (x_seen (P := ownI CO (ordF K (ordM z))) (o_make (k := 4) (j := 10) (α := Ord) (P2 := fun o => ownI CO (ordF K o)) mo (ordM z) hr (by decide) hps (xa_cons (x_pt (x_v 2)) (xa_cons (x_v 3) xa_nil))) seen_i) (xa_cons (x_v 4) xa_nil))) (o_lstR (xa_cons x_dict0 xa_nil)) rfl nd (by decide) rfl rfl) ?_ (os2 ⟨_, rfl⟩ ⟨_, rfl⟩ ⟨_, rfl⟩ ⟨_, rfl⟩)
    -- fourteen turns
    refine ba_consP (P := tblO qDid) (p := inv1 z 14) (F := fun u => rgF K CO CB z u.1 u.2 .no .no .no .no) rfl (fun u _ => ⟨tblO qDid, rfl⟩) (p_forA (n := 14) (ks := [8]) (I := fun i => intR (i : Nat)) (inv := inv1 z) (fun _ u => rgF K CO CB z u.1 u.2 .no .no .no .no) (fun i u => rgF K CO CB z u.1 u.2 (.is (intR (i : Nat))) .no .no .no) ([[]], [[]]) (xi_rg1 (x_eI x_int rfl) M.range_ (by decide)) rfl ⟨.one pl.start, by decide⟩ rfl PassesOwn.never
      (fun i u _ => ⟨tblO qDid, rfl⟩) (fun i u _ => so (by exact trivial)) (fun i u _ => so (by exact trivial)) (fun i u _ _ => xg_name 8 nd) fun i u hi hu => ?_) (fun u hu => ?_) fun u _ => os2 ⟨_, rfl⟩ ⟨_, rfl⟩ ⟨_, rfl⟩ ⟨_, rfl⟩
    · obtain ⟨U, C⟩ := u
      obtain ⟨hu1, hu2⟩ := hu
      obtain ⟨t0, us, L0, ch, e1, e2, tk, ln, _⟩ := hu1.top
      replace e1 : U = t0 :: us := e1
      replace e2 : C = L0 :: ch := e2
      subst e1 e2
      replace hu2 : (t0 :: us).length ≤ i + 1 := hu2
      rw [List.length_cons] at hu2
      have hn4 := (pmOk_len hz.1).2
      have hb1 : 1 ≤ z.2.2 := by have := hz.2.1; omega
      refine pa_cons' (P := tblO qDid) (P' := tblO qDid) rfl rfl (n_set 9 (R := ddR K z.1.length z.2.2) (x_call1S (R' := ddR K z.1.length z.2.2) 0 c2 (z.1, z.2.2) rfl hr (by decide) ⟨hz.1, hb1, hz.2.2⟩ (xa_cons (x_v 2) (xa_cons (x_v 4) xa_nil))) nd) ?_ (own1 (by exact trivial))
      refine pa_cons' (P := tblO qDid) (P' := tblO qDid) rfl rfl (n_set 10 (R := rngR 4) (x_call1S (α := Nat) (R' := rngR 4) 0 c3 (4 : Nat) rfl hr (by decide) ⟨by decide, by decide⟩ (xa_cons x_int xa_nil)) nd) ?_ (own1 (by exact trivial))
      show PSsA 1 T _ _ (tXQ (rgF K CO CB z (t0 :: us) (L0 :: ch) (.is (intR (i : Nat))) (.is (ddR K z.1.length z.2.2)) (.is (rngR 4)) .no) _ _)
      refine pa_cov (cov_is (i := 10) rfl) fun w' hw => ?_
      refine pa_cov (cov_is (i := 9) rfl) fun d hd => ?_
      obtain ⟨d1, hd1⟩ : ∃ d1, d1 = if w' = 0 then Dd.undo else d := ⟨_, rfl⟩
      have hk1 : okDd z.1.length z.2.2 d1 := by
        rw [hd1]
        split
        · trivial
        · exact hd
      refine pa_cons' (P := tblO qDid) (P' := tblO qDid) (Rs1 := rgF K CO CB z (t0 :: us) (L0 :: ch) (.is (intR (i : Nat))) (.is (dR K (ddD d1))) (.is (intR w')) .no) rfl rfl (n_if (k := decide (w' = 0)) (xt_eqI (x_v 10) x_int) (fun hk => ?_) fun hk => ?_) ?_ (own1 (by exact trivial))
      · have e : d1 = .undo := hd1.trans (if_pos (of_decide_eq_true hk))
        rw [e]
        exact ns_one (n_set 9 (R := dR K (ddD .undo)) (x_eqd (x_tup (ds := [.str "undo", .none, .none]) (xa_cons (x_ofS x_str) (xa_cons (x_ofN x_non) (xa_cons (x_ofN x_non) xa_nil)))) rfl) nd)
      · have e : d1 = d := hd1.trans (if_neg (of_decide_eq_false hk))
        rw [e]
        exact n_nil
      refine pa_consP (P := tblO qDid) (py := okDd z.1.length z.2.2) (G := fun d2 => rgF K CO CB z (t0 :: us) (L0 :: ch) (.is (intR (i : Nat))) (.is (dR K (ddD d2))) (.is (intR w')) .no) rfl (fun y _ => ⟨tblO qDid, rfl⟩) ?_ (fun d2 hd2 => ?_) fun y _ => own1 (by exact trivial)
      · have hlast : ∀ {px p1 p2 p3 : Pos} {j} {a11 : Ent}, XE (XRt P w K mg base f cr A outer s H E) (.Subscript (.Name "_law_past" px) (.UnaryOp .USub (.Constant (.int 1) j p1) p3) p2) (rgF K CO CB z (t0 :: us) (L0 :: ch) (.is (intR (i : Nat))) (.is (dR K (ddD d1))) (.is (intR w')) a11) (dcR (kI t0)) := fun {px p1 p2 p3 j a11} => x_ownLastR 7 (Ds := pastR us) (by rw [← pastR_cons]; rfl) (x_neg x_int)
        by_cases hk : (decide (w' = 1) && !t0.isEmpty) = true
        · obtain ⟨ns, hns⟩ : ∃ ns, ns = L0.map (·.1) := ⟨_, rfl⟩
          have hLl : L0.length ≤ 4 := by rw [tk.s.pm.length_eq]; exact tk.d.len
          have hL1 : 1 ≤ L0.length := by
            rw [tk.s.pm.length_eq]
            have h2 := (Bool.and_eq_true_iff.mp hk).2
            cases t0 with
            | nil => cases h2
            | cons x t => simp
          have hnl : (ns.map PyData.int).length = L0.length := by rw [hns, List.length_map, List.length_map]
          refine p_ifT (xt_is (xw_pt (xw_and (xt_eqI (x_v 10) x_int) fun _ => xw_and1 (xt_neDk hu0 hlast x_dict0))) hk) ?_
          refine p_cons (n_set 11 (R := oneR K (ns.map .int)) (x_call1S (R' := oneR K (ns.map .int)) 0 c4 (.list (ns.map .int), ns.map .int) rfl hr (by decide) ⟨.inl rfl, by rw [hnl]; exact hL1, by rw [hnl]; exact hLl⟩ (xa_cons (x_dt (x_srtKeys rfl M.sorted_ hlast (by have := tk.d.len; omega) (by rw [hns]; exact tk.s.pm.map _) (by rw [hns, List.pairwise_map]; exact tk.s.st.imp fun h => Int.le_of_lt h))) xa_nil)) nd) (p_cov (cov_is (i := 11) rfl) fun dd hdd => ?_) (own1 (by exact trivial))
          obtain ⟨k, hk', rfl⟩ := List.mem_map.mp hdd
          rw [hns] at hk'
          obtain ⟨q, hq, eq⟩ := List.mem_map.mp hk'
          have hq' := tk.s.pm.mem_iff.mp hq
          have hgk : getI t0 k = some q.2 := by rw [← eq]; exact getI_mem tk.d.nd hq'
          obtain ⟨r1, r2⟩ := tk.d.rng q hq'
          refine ps_of (.put k q.2) ⟨by rw [← eq]; exact r1, r2⟩ (ns_eq (ns_forget 11 (ns_one (n_set 9 (R := dR K (ddD (.put k q.2))) (x_eqd (x_tup (ds := [.str "put", .int k, .int q.2]) (xa_cons (x_ofS x_str) (xa_cons (x_v 11) (xa_cons (x_ofI (x_dget (k := Sum.inl k) (v := .int q.2) hu1' hlast (x_toI (x_v 11)) (by rw [valV_kI, hgk]; rfl))) xa_nil)))) rfl) nd))) rfl)
        · exact p_of d1 hk1 (n_ifF (xt_is (xw_pt (xw_and (xt_eqI (x_v 10) x_int) fun _ => xw_and1 (xt_neDk hu0 hlast x_dict0))) (Bool.eq_false_iff.mpr hk)))
      · obtain ⟨L', hL'⟩ := ex_l' t0 d2 _ _ hn4 hd2 tk.d
        have hok : OkDid z t0 us L0 ch d2 L' := ⟨hz, pl, tk, ln, by omega, hd2, hL'⟩
        have hnx := hu1.next hok
        have hlen := nxU_len (z := z) (t0 := t0) (us := us) (d := d2)
        exact pa_one (nxU z t0 us d2, nxC z t0 us L0 ch L' d2) ⟨hnx, by show (nxU z t0 us d2).length ≤ i + 1 + 1; omega⟩ (psa_eq (psa_forget 8 (psa_forget 9 (psa_forget 10 (turn_ok cdid ctl hok (by omega) hnx hg hr (x_v 9) rfl rfl)))) rfl)
    · obtain ⟨U, C⟩ := u
      obtain ⟨hu1, hu2⟩ := hu
      replace hu2 : U.length ≤ 14 + 1 := hu2
      have hU1 : 1 ≤ U.length := by
        obtain ⟨t0, us, L0, ch, e1, _⟩ := hu1.top
        replace e1 : U = t0 :: us := e1
        rw [e1, List.length_cons]
        omega
      have hpl : ((pastR U).length : Int) = (U.length : Nat) := by
        unfold pastR
        rw [List.length_map, List.length_reverse]
      refine ba_consP (P := tblO qDid) (p := inv2 z U.length U.length) (F := fun u => rgF K CO CB z u.1 u.2 .no .no .no .no) rfl (fun u _ => ⟨tblO qDid, rfl⟩) (p_forA (n := U.length) (ks := [8]) (I := fun i => intR (i : Nat)) (inv := inv2 z U.length) (fun _ u => rgF K CO CB z u.1 u.2 .no .no .no .no) (fun i u => rgF K CO CB z u.1 u.2 (.is (intR (i : Nat))) .no .no .no) (U, C) (xi_rg1 (x_eI (x_ownLenR 7 M.len rfl) hpl) M.range_ (by omega)) rfl ⟨hu1, by show U.length = max 1 (U.length - 0); omega⟩ rfl PassesOwn.never
        (fun i u _ => ⟨tblO qDid, rfl⟩) (fun i u _ => so (by exact trivial)) (fun i u _ => so (by exact trivial)) (fun i u _ _ => xg_name 8 nd) fun i u hi hu => ?_) (fun u hu => ?_) fun u _ => os2 ⟨_, rfl⟩ ⟨_, rfl⟩ ⟨_, rfl⟩ ⟨_, rfl⟩
      · obtain ⟨V, D⟩ := u
        obtain ⟨hv1, hv2⟩ := hu
        replace hv2 : V.length = max 1 (U.length - i) := hv2
        obtain ⟨t0, us, L0, ch, e1, e2, tk, ln, _⟩ := hv1.top
        replace e1 : V = t0 :: us := e1
        replace e2 : D = L0 :: ch := e2
        subst e1 e2
        rw [List.length_cons] at hv2
        have hok : OkDid z t0 us L0 ch .undo [] := ⟨hz, pl, tk, ln, by omega, trivial, fun p v e => by cases e⟩
        have hnx := hv1.next hok
        have hlen : (nxU z t0 us .undo).length = max 1 (U.length - (i + 1)) := by
          show (if us = [] then [t0] else us).length = _
          by_cases e : us = []
          · rw [if_pos e]
            rw [e] at hv2
            have h0 : ([] : List Dct).length = 0 := rfl
            rw [List.length_singleton]
            omega
          · rw [if_neg e]
            have : 1 ≤ us.length := by
              cases us with
              | nil => exact (e rfl).elim
              | cons x us => simp
            omega
        exact pa_one (nxU z t0 us .undo, nxC z t0 us L0 ch [] .undo) ⟨hnx, hlen⟩ (psa_eq (psa_forget 8 (turn_ok cdid ctl hok (by omega) hnx hg hr (x_eqd (x_tup (ds := [.str "undo", .none, .none]) (xa_cons (x_ofS x_str) (xa_cons (x_ofN x_non) (xa_cons (x_ofN x_non) xa_nil)))) rfl) rfl rfl)) rfl)
      · obtain ⟨V, D⟩ := u
        obtain ⟨hv1, hv2⟩ := hu
        replace hv2 : V.length = max 1 (U.length - U.length) := hv2
        obtain ⟨t0, us, L0, ch, e1, e2, tk, ln, _, h0⟩ := hv1.top
        replace e1 : V = t0 :: us := e1
        replace e2 : D = L0 :: ch := e2
        subst e1 e2
        rw [List.length_cons] at hv2
        have hus : us = [] := List.length_eq_zero_iff.mp (by omega)
        obtain ⟨et, eL⟩ := h0 hus
        subst hus et eL
        exact pssa_of (b_ret (x_eqPast 7 hun rfl) (oz2 rfl rfl))
end
end Bo
set_option maxHeartbeats 4000000
namespace Bo
open PySem L2
open PyProof.Rows (envOfC)
section
variable {X : Cx} {elt tg iter : Expr} {scope : Scope} {own : List (Str × Nat)} {Rs : Frm} {pos : Pos} {n g : Nat} {T : Addr} {I : Nat → Rel} {P0 : Own}
/-- a comprehension whose items change hidden things of the frame, and keep what is told of them -/
theorem lca_o (f : Nat → PyData) (Gi : Nat → Frm) {ks : List Nat} (hg : Rs[g]? = some (.own P0)) (hn : n ≤ 100000) (hog : ∀ i, i < n → ∀ (j : Nat) (P : Own), Rs[j]? = some (.own P) ↔ (Gi i)[j]? = some (.own P)) (hw : ∀ k ∈ own.map (·.2), Rs[k]? = some Ent.no) (hk : ∀ k ∈ ks, k ∈ own.map (·.2)) :
    ∀ σ H Q, (An g T σ ∧ tXO Rs (ownL X.K ((List.range n).map f)) σ H Q) → tLc (tXI Rs n I) (fun v σ H Q => ∃ i, i < n ∧ tXG (I i) Rs (Gi i) ks v σ H Q) (fun σ H Q => ∃ i, i < n ∧ tXT (Gi i) true σ H Q) (fun σ H Q => ∃ i, i < n ∧ An g T σ ∧ tX (Gi i) (dR X.K (f i)) σ H Q) (own.map (·.2)) σ H Q := by
  intro σ H Q ⟨an, Hv, ow, f0, q⟩
  have hT := an.at f0 hg
  refine ⟨Hv, ow, f0, fun J G Hv1 H1 s1 f1 w g1 D nD => ?_⟩
  have vD : Hv1 D = none := f1.sub.free nD
  have oD : ∀ j P, Rs[j]? = some (.own P) → ow j ≠ D := fun j P e z => f1.free nD j P e z
  have hupd : ∀ {Hv2 H2 : Hp} {u : HO}, Fr Hv2 H2 σ Rs ow → Hv2 D = none → Fr Hv2 (upd H2 D u) σ Rs ow := fun {Hv2 H2 u} f2 v2 => ⟨fun b o e => by
    rw [upd_ne (ne_of_none e v2)]
    exact f2.sub b o e, f2.len, f2.get, fun i P e => by
    obtain ⟨g1, g2, u', g3, g4⟩ := f2.own i P e
    exact ⟨g1, g2, u', by rw [upd_ne (oD i P e)]; exact g3, g4⟩, f2.inj⟩
  have sdrop : ∀ {Hv2 H2 : Hp} {u : HO}, Stp Hv1 H1 Rs ow Hv2 H2 → Stp Hv1 H1 Rs ow Hv2 (upd H2 D u) := fun {Hv2 H2 u} s2 => ⟨fun b o e n => by
    rw [upd_ne (ne_of_none e nD)]
    exact s2.kp b o e n, s2.sv, s2.hid, fun b o e => by
    rw [upd_ne (ne_of_none e nD)]
    exact s2.th b o e⟩
  refine ⟨fun i m H2 => m = n - i ∧ i ≤ n ∧ ∃ Hv2 xs, Fr Hv2 H2 σ Rs ow ∧ Stp Hv1 H1 Rs ow Hv2 H2 ∧ G Hv2 ∧ H2 D = some (.lst xs) ∧ Hv2 D = none ∧ DpAll X.K Hv2 xs ((List.range i).map f) ∧ xs.length = i,
    ⟨n, by omega, Nat.zero_le _, Hv1, [], hupd f1 vD, sdrop .refl, g1, upd_same, vD, .nil, rfl⟩, ?_⟩
  rintro i m H2 ⟨rfl, hin, Hv2, xs, f2, s2, g2, hD, vD2, dx, hl⟩
  by_cases hlt : i < n
  · refine .inr ⟨w.go i Hv2 H2 hlt f2.sub g2, _, fun H' h => h, fun x H3 y => ?_⟩
    obtain ⟨Hv3, a3, r3⟩ := w.yld i Hv2 H2 x H3 hlt f2.sub g2 y
    have f3 : Fr Hv3 H3 σ Rs ow := f2.al a3
    refine ⟨i, hlt, Hv3, ow, f3.wipe hw, r3, fun σ4 f4 ag => ⟨wipe_agree ag hk, i, hlt, Hv3, ow, f4, fun Hv5 H5 s5 f5 => iteT ⟨i, hlt, ?_, Hv5, ow, f5, fun v Hv6 H6 s6 f6 r6 => ?_⟩⟩⟩
    · show σ4[g]? = some (some (.ref T))
      rw [(f5.own g P0 ((hog i hlt g P0).mp hg)).1, hT]
    · have e1 : ∀ {b : Addr}, Owned (Gi i) ow b → Owned Rs ow b := fun {b} ⟨j, P, e, z⟩ => ⟨j, P, (hog i hlt j P).mpr e, z⟩
      have s56 := s5.trans s6
      have s36 : Stp Hv3 H3 Rs ow Hv6 H6 := ⟨fun b o e n => s56.kp b o e fun z => n (e1 z), s56.sv, fun b o e1' e2 n => s56.hid b o e1' e2 fun z => n (e1 z), s56.th⟩
      have s26 : Stp Hv2 H2 Rs ow Hv6 H6 := (a3.stp (Rs := Rs) (ow := ow)).trans s36
      have nDo : ¬ Owned Rs ow D := fun ⟨j, P, e, z⟩ => oD j P e z
      have hD6 : H6 D = some (.lst xs) := s26.kp _ _ hD nDo
      have vD6 : Hv6 D = none := s26.hid _ _ vD2 hD nDo
      have fσ : Fr Hv6 H6 σ Rs ow := ⟨f6.sub, f2.len, fun j R e => by
        obtain ⟨v', h1, h2⟩ := f2.get j R e
        exact ⟨v', h1, R.mono s26.sv h2⟩, fun j P e => ⟨(f2.own j P e).1, (f6.own j P ((hog i hlt j P).mp e)).2⟩, f2.inj⟩
      refine ⟨xs, hD6, by rw [hl]; exact Nat.lt_of_lt_of_le (by omega : i < 100001) (by decide), n - (i + 1), by omega, rfl, hlt, Hv6, xs ++ [v], hupd fσ vD6, sdrop (s2.trans s26), w.mono s26.sv g2, upd_same, vD6, ?_, by rw [List.length_append, hl]; rfl⟩
      rw [List.range_succ, List.map_append]
      exact dpAll_snoc (dpAll_mono s26.sv _ _ dx) r6
  · have e : i = n := by omega
    subst e
    refine .inl ⟨w.stop Hv2 H2 f2.sub g2, q D (.lst xs) Hv2 H2 (s1.trans s2) f2 ?_ vD2 hD ⟨xs, rfl, dx⟩⟩
    cases hq : H D with
    | none => rfl
    | some o =>
      obtain ⟨o', e'⟩ := s1.th D o hq
      rw [e'] at nD
      cases nD
theorem x_lcA (f : Nat → PyData) (Gi : Nat → Frm) {ks : List Nat} (hg : Rs[g]? = some (.own P0)) (hc : X.calm = true) (hN : X.N.Nodup) (hi : XI X tg iter Rs n I) (ok : BlkOk X.N X.env.scope scope own) (hn : n ≤ 100000) (hog : ∀ i, i < n → ∀ (j : Nat) (P : Own), Rs[j]? = some (.own P) ↔ (Gi i)[j]? = some (.own P))
    (hw : ∀ k ∈ own.map (·.2), Rs[k]? = some Ent.no) (hk : ∀ k ∈ ks, k ∈ own.map (·.2)) (hgt : Blk X scope fun Y => ∀ i, i < n → XG Y tg (I i) Rs (Gi i) ks)
    (he : Blk X scope fun Y => ∀ i, i < n → PE Y elt (fun σ H Q => An g T σ ∧ tX (Gi i) (dR X.K (f i)) σ H Q)) (hs : ∀ x, foldedSetIterable iter X.env x = pure x := by intro _; rfl) : PE X (.ListComp elt [⟨tg, iter, [], 0⟩] scope pos) (fun σ H Q => An g T σ ∧ tX Rs (dR X.K (.list ((List.range n).map f))) σ H Q) :=
  pe_imp (pe_lc (g := fun v σ H Q => ∃ i, i < n ∧ tXG (I i) Rs (Gi i) ks v σ H Q) (tt := fun σ H Q => ∃ i, i < n ∧ tXT (Gi i) true σ H Q) (te := fun σ H Q => ∃ i, i < n ∧ An g T σ ∧ tX (Gi i) (dR X.K (f i)) σ H Q) hc hN hi ok
    (fun s H C cl fp => ⟨fun pins s2 σ H2 v u Q J r ⟨i, hi, q⟩ => (hgt s H C cl fp i hi).run pins s2 σ H2 v u Q J r q⟩) (fun s H C cl fp => ⟨fun pins s2 σ H2 Q J ⟨i, hi, q⟩ => ts_nil.run pins s2 σ H2 Q J q⟩)
    (fun s H C cl fp => ⟨fun pins s2 σ H2 Q J ⟨i, hi, q⟩ => (he s H C cl fp i hi).run pins s2 σ H2 Q J q⟩) hs) fun σ H Q ⟨an, q⟩ => lca_o f Gi hg hn hog hw hk σ H Q ⟨an, xo_rev seen_d q⟩
end
/-! ### law -/
section
variable {X : Cx} {e : Expr} {Rs : Frm} {p pos : Pos} {g j k : Nat} {T : Addr}
/-- _law_right(a new hidden thing) -/
theorem x_rightN (c : CalG X.prog X.w X.K X.mg X.base k "_law_right" (spRight X.K T)) (hG : NoG X.A) (hr : Room j X.A) (hk : k ≤ j) (hg : Rs[g]? = some (.own (tblO qDid))) (ha : XO X e Rs (jugO X.K)) (hgl : Gl X "_law_right" := by rfl) (hs : starEach [e] X.env = [(false, eval e X.env)] := by rfl) :
    PE X (.Call (.Name "_law_right" p) [e] [] pos) (fun σ H Q => An g T σ ∧ tX Rs (dR X.K (.bool true)) σ H Q) :=
  pe_imp (pe_callG c hG hr hk hgl (pa_cons ha pa_nil hs) (by decide) hs (by rfl)) fun σ H Q ⟨an, Hv, ow, f, q⟩ => by
    have hT := an.at f hg
    refine ⟨Hv, ow, f, fun p0 u Hv1 H1 s1 f1 n0 v0 h0 hu => ?_⟩
    obtain ⟨_, t2, ut, t3, t4⟩ := f1.own g _ hg
    obtain ⟨_, _, u0, q3, _⟩ := f.own g _ hg
    have ne : p0 ≠ ow g := fun z => by
      rw [z, q3] at n0
      cases n0
    have fA : Fr Hv1 H1 ([some (.ref p0)] ++ [some (.ref T)]) [.own (jugO X.K), .own (tblO qDid)] (fun i => if i = 0 then p0 else ow g) := by
      refine ⟨f1.sub, rfl, fun i R e => ?_, fun i P e => ?_, fun i i2 P P' e1 e2 z => ?_⟩
      · match i, e with
        | 0, e => cases e
        | 1, e => cases e
        | i + 2, e => simp at e
      · match i, e with
        | 0, e =>
          cases e
          exact ⟨rfl, v0, u, h0, hu⟩
        | 1, e =>
          cases e
          exact ⟨by show some (some (V.ref T)) = some (some (V.ref (ow g))); rw [hT], t2, ut, t3, t4⟩
        | i + 2, e => simp at e
      · match i, i2, e1, e2, z with
        | 0, 0, _, _, _ => rfl
        | 0, 1, _, _, z => exact (ne z).elim
        | 1, 0, _, _, z => exact (ne z.symm).elim
        | 1, 1, _, _, _ => rfl
        | i + 2, _, e1, _, _ => simp at e1
        | _, i2 + 2, _, e2, _ => simp at e2
    have no : ∀ {b : Addr}, b ≠ p0 → ¬ Owned Rs ow b → ¬ Owned [.own (jugO X.K), .own (tblO qDid)] (fun i => if i = 0 then p0 else ow g) b := fun {b} hb n ⟨i, P, e, z⟩ => by
      match i, e, z with
      | 0, _, z => exact hb z.symm
      | 1, _, z => exact n ⟨g, _, hg, z⟩
      | i + 2, e, _ => simp at e
    refine ⟨(), Hv1, _, trivial, fA, fun z Hv2 H2 s2 sub o r => ?_⟩
    have sx : Stp Hv H Rs ow Hv2 H2 := ⟨fun b o' e n => s2.kp b o' (s1.kp b o' e n) (no (ne_of_none e n0) n), s1.sv.trans s2.sv, fun b o' e1 e2 n => s2.hid b o' (s1.hid b o' e1 e2 n) (s1.kp b o' e2 n) (no (ne_of_none e2 n0) n), fun b o' e => by
      obtain ⟨o1, e1⟩ := s1.th b o' e
      exact s2.th b o1 e1⟩
    have rt : z = .bl true := r
    subst rt
    refine q _ Hv2 H2 sx ⟨sub, f.len, fun i R e => ?_, fun i P e => ?_, f.inj⟩ (.bl true)
    · obtain ⟨v', h1, h2⟩ := f.get i R e
      exact ⟨v', h1, R.mono sx.sv h2⟩
    · by_cases hi : i = g
      · subst hi
        rw [hg] at e
        cases e
        obtain ⟨o1, u2, o2, o3⟩ := o (1, tblO qDid) (by simp)
        exact ⟨(f.own i _ hg).1, o1, u2, o2, o3⟩
      · obtain ⟨k1, k2, u3, k3, k4⟩ := f1.own i P e
        have h1 : ow i ≠ p0 := fun z => f.free n0 i P e z
        have h2 : ¬ Owned [.own (jugO X.K), .own (tblO qDid)] (fun i => if i = 0 then p0 else ow g) (ow i) := fun ⟨i2, P2, e2, z⟩ => by
          match i2, e2, z with
          | 0, _, z => exact h1 z.symm
          | 1, _, z => exact hi (f.inj i g P _ e hg z.symm)
          | i2 + 2, e2, _ => simp at e2
        exact ⟨k1, s2.hid _ _ k2 k3 h2, u3, s2.kp _ _ k3 h2, P.mono s2.sv k4⟩
end
section
variable {P : Program} {w : World} {K : PySem.W.Frag} {mg : Str → Option Value} {base : Heap}
abbrev sLaw : Stmt := top 62
abbrev nLaw : List Str := ["_law_cells", "$t", "_law_turn"]
theorem scLaw : FnScope nLaw ["_law_cells"] (C8.fnScope sLaw) := C8.fnScope_by (by decide +kernel)
abbrev spLaw (K : PySem.W.Frag) (T : Addr) : Sp := spG [some (.ref T)] (fun cs : List Int => cs.length ≤ 63) (fun cs => [.is (dR K (lstI cs)), .own (tblO qDid)]) (fun _ => [(1, tblO qDid)]) fun _ => blR true
theorem c_law {cl T : Addr} (F : DfC K mg "law" sLaw cl) (M : Md K mg) (c1 : C8.Cal P w K mg base 1 "_law_jug" (spJug K) []) (c2 : CalG P w K mg base 11 "_law_right" (spRight K T)) : CalG P w K mg base 12 "law" (spLaw K T) :=
  cal_defG (n := 1) F (fun _ _ _ _ _ _ us hl => match us, hl with | [_], _ => rfl) scLaw rfl (fun _ => rfl) (fun i h1 h2 y hy => by
    have hi : i = 1 := Nat.le_antisymm (Nat.le_of_lt_succ h2) h1
    subst hi
    cases hy
    exact gh_no (by decide +kernel)) fun f cs A outer s H E hp hg hr => by
    replace hp : cs.length ≤ 63 := hp
    have nd := scLaw.nd
    obtain ⟨n, hn⟩ : ∃ n, n = max 2 (min cs.length 3) := ⟨_, rfl⟩
    have hlm : (cs.map PyData.int).length = cs.length := List.length_map ..
    refine pss_imp (pss_one (ps_ret (pe_callB (cr_all rfl) rfl M.all_ (by decide +kernel) (pa_cons (x_lcA (T := T) (P0 := tblO qDid) (g := 1) (n := n) (Rs := [.is (dR K (lstI cs)), .own (tblO qDid), .no]) (I := fun i => intR (i : Nat)) (own := [("_law_turn", 2)]) (ks := [2]) (fun _ => .bool true) (fun i => [.is (dR K (lstI cs)), .own (tblO qDid), .is (intR (i : Nat))]) rfl rfl nd
      (xi_rg1 (x_eI (x_max2 rfl M.max_ x_int (x_min2 rfl M.min_ (x_lenL M.len (x_v 0)) x_int)) (by rw [hlm]; omega)) M.range_ (by omega)) (blkOk_by (own := [("_law_turn", 2)]) (N := nLaw) (sc := C8.fnScope sLaw) (by decide +kernel)) (by omega) (fun i hi j P => ?_) (w1 rfl) (by decide) (fun _ _ _ _ _ i hi => xg_name 2 nd)
      (fun _ _ _ _ _ i hi => ?_)) pa_nil) (by decide) (by decide) rfl rfl))) fun D σ H ⟨⟨vs, hl, e⟩, Hv, ow, f, q⟩ => ⟨an_start hl e, Hv, ow, f, fun v Hv' H' s' f' r => ?_⟩
    · match j with
      | 0 => exact ⟨(fun e => by cases e), fun e => by cases e⟩
      | 1 => exact Iff.rfl
      | 2 => exact ⟨(fun e => by cases e), fun e => by cases e⟩
      | j + 3 => exact ⟨(fun e => by simp at e), fun e => by simp at e⟩
    · refine x_rightN (Rs := [.is (dR K (lstI cs)), .own (tblO qDid), .is (intR (i : Nat))]) (g := 1) c2 hg hr (by decide) rfl ?_
      exact o_call (k := 1) (j := 11) (α := List Int × Nat) (pre := fun a => a.1.length ≤ 63 ∧ a.2 < 3) (As := fun a => [dR K (lstI a.1), intR (a.2 : Int)]) (Pn := fun _ => jugO K) c1 (cs, i) hr (by decide) ⟨hp, by omega⟩ (xa_cons (x_v 0) (xa_cons (x_v 2) xa_nil))
    · obtain ⟨b, xs, ev, hs, ha⟩ := dp_list r
      subst ev
      have hb : (List.range n).map (fun _ => PyData.bool true) = (List.replicate n true).map PyData.bool := by
        rw [List.map_replicate]
        exact List.ext_getElem (by simp) fun i h1 h2 => by simp
      rw [hb] at ha
      have ex := dpAll_bls ha
      subst ex
      refine ⟨b, List.replicate n true, rfl, same_l f'.sub hs, q _ Hv' H' s' f'.sub (fun p hp => ?_) ?_⟩
      · rw [List.mem_singleton.mp hp]
        exact (f'.own 1 _ rfl).2
      · show V.bl ((List.replicate n true).all id) = V.bl true
        congr 1
        exact List.all_eq_true.mpr fun x hx => by rw [(List.mem_replicate.mp hx).2]; rfl
end
end Bo
set_option maxHeartbeats 4000000
/-! The end of the law over CalG: one table of code objects, told to law as a hidden thing. -/
namespace Bo
open PySem PySem.Spec L2
open PyProof.Rows hiding St
/-- what the call of law finds -/
structure Lnd (K : PySem.W.Frag) (mg mb : Str → Option Value) (g : Heap) (cd T a : Addr) (us : List Value) : Prop where
  kin : K.In g
  glo : g.Ns mainGlobals mg
  blt : g.Ns builtinsNs mb
  btb : ∀ x : Str, x ≠ "__name__" → mb x = bootBuiltins x
  nol : g.NoLimit
  tab : g.get? T = some { cls := .none, data := .fields #[] }
  ktb : K.lookup T = none
  chd : PySem.W.CodeHd g cd T
  bmn : ∃ (m : Addr) (u : Obj), mg "__builtins__" = some (.ref m) ∧ m ≠ builtinsNs ∧ g.get? m = some u ∧ u.cls = .type "module" ∧ u.dict = some builtinsNs ∧ u.data = .plain
  scr : g.get? a = some { cls := .type "list", data := .seq us.toArray }
/-- nothing is told of but the script and the table -/
structure Tld (K : PySem.W.Frag) (H : Hp) (T a : Addr) : Prop where
  tb : H T = some (.tbl #[])
  el : ∀ b, b ≠ a → b ≠ T → H b = none
  kn : H a ≠ none → K.lookup a = none
  fz : H a = none ∨ ∃ o xs, H a = some (.frz o (.lst xs))
section
variable {K : PySem.W.Frag} {mg mb : Str → Option Value} {g : Heap} {cd T a : Addr} {us : List Value} {H : Hp}
theorem Lnd.neT (z : Lnd K mg mb g cd T a us) {b : Addr} {o : Obj} (e : g.get? b = some o) (d : o.data ≠ .fields #[]) : b ≠ T := fun q => by
  subst q
  cases z.tab.symm.trans e
  exact d rfl
theorem Lnd.neA (z : Lnd K mg mb g cd T a us) {b : Addr} {o : Obj} (e : g.get? b = some o) (d : ∀ xs n, o.data ≠ .seq xs n) : b ≠ a := fun q => by
  subst q
  cases z.scr.symm.trans e
  exact d _ _ rfl
theorem Lnd.aT (z : Lnd K mg mb g cd T a us) : a ≠ T := z.neT z.scr fun e => by cases e
theorem Lnd.at_ (z : Lnd K mg mb g cd T a us) (t : Tld K H T a) {b : Addr} {o : Obj} (e : g.get? b = some o) (d1 : ∀ xs n, o.data ≠ .seq xs n) (d2 : o.data ≠ .fields #[]) : (hidT g H).get? b = some o :=
  hidT_get e (t.el b (z.neA e d1) (z.neT e d2))
theorem Lnd.nsK (z : Lnd K mg mb g cd T a us) (t : Tld K H T a) {b : Addr} {m : Str → Option Value} (h : g.Ns b m) : (hidT g H).Ns b m := by
  obtain ⟨o, es, ep, e, hd, r⟩ := h
  exact ⟨o, es, ep, z.at_ t e (fun _ _ q => by cases hd.symm.trans q) (fun q => by cases hd.symm.trans q), hd, r⟩
theorem Lnd.inK (z : Lnd K mg mb g cd T a us) (t : Tld K H T a) : K.In (hidT g H) := fun b o e => by
  refine hidT_get (z.kin b o e) ?_
  by_cases hT : b = T
  · subst hT
    cases z.ktb.symm.trans e
  · by_cases ha : b = a
    · subst ha
      cases hq : H b with
      | none => rfl
      | some u => cases (t.kn (by rw [hq]; simp)).symm.trans e
    · exact t.el b ha hT
theorem Lnd.tabB (z : Lnd K mg mb g cd T a us) (t : Tld K H T a) : LamX.TabB (hidT g H) mg cd T := by
  refine ⟨?_, ?_, fun q => ?_⟩
  · obtain ⟨o, vs, f1, f2, f3, f4, f5, f6, f7, e, r1, r2, r3, r⟩ := z.chd
    refine ⟨o, vs, f1, f2, f3, f4, f5, f6, f7, z.at_ t e (fun _ _ q => ?_) (fun q => ?_), r1, r2, r3, r⟩
    · cases r2.symm.trans q
    · cases r2.symm.trans q
      simp at r3
  · obtain ⟨m, u, b1, b2, b3, b4, b5, b6⟩ := z.bmn
    have nG : m ≠ mainGlobals := fun q => by
      obtain ⟨o, es, ep, e, hd, _⟩ := z.glo
      rw [q, e] at b3
      cases b3
      cases hd.symm.trans b6
    exact ⟨m, u, b1, b2, nG, z.neT b3 (fun q => by cases b6.symm.trans q), z.at_ t b3 (fun _ _ q => by cases b6.symm.trans q) (fun q => by cases b6.symm.trans q), b4, b5, b6⟩
  · obtain ⟨o, es, ep, e, hd, _⟩ := z.glo
    exact z.neT e (fun w => by cases hd.symm.trans w) q
section
variable {P : Program} {w : World} {k : Nat} {fa : Addr} {x : Str} {sp : Sp} {s : Shared} {ns : List Int}
theorem end_one (z : Lnd K mg mb s.heap cd T a us) (t : Tld K H T a) (hok : HOk P w H s.heap) (hg : s.gens = #[]) (hr : Room k callerA) (hfa : mg x = some (.ref fa))
    (F : ∀ base : Heap, K.In base → base.Ns mainGlobals mg → LamX.TabB base mg cd T → CalG P w K mg base k x sp) (hsp : sp [.ref a] H (fun v _ => v = .bl true) fun _ _ _ => False) :
    codeAny (model P w) callerA (.call (.ref fa) ⟨[.ref a], []⟩) (fun r s' => r = .ok (.ret (.bool true)) ∧ OldK s.heap s'.heap ∧ s'.os = s.os ∧ AllBare s'.gens) s := by
  have M0 : L2.Mod K mg (hidT s.heap H) := ⟨z.inK t, z.nsK t z.glo, ⟨mb, z.nsK t z.blt, z.btb⟩, by
    obtain ⟨mc, h1, h2⟩ := z.nol
    exact ⟨mc, z.nsK t h1, h2⟩⟩
  have E1 : Env0 P w K mg (hidT s.heap H) callerA [] s H := { frames := rfl, mod := M0, bs := fun b o e => of_hidT e, bsz := Nat.le_of_eq (hidT_size _ _), funs := trivial, frf := fun b hb => (List.not_mem_nil hb).elim, hok := hok, bare := .of_eq hg }
  obtain ⟨f, fd, ps, FG, hm, _, bd⟩ := (F _ (z.inK t) (z.nsK t z.glo) (z.tabB t)).ex
  cases hm.symm.trans hfa
  have R1 := FG.run callerA [] s H ⟨[.ref a], []⟩ [.ref a] [.ref a] _ _ rfl hr E1 (bd s [.ref a] z.kin (FG.len _ _ _ _ hsp)) (.cons rfl .nil) hsp
  refine codeAny_mono R1 fun r s' h => ?_
  cases r with
  | error e => exact False.elim h
  | ok fl =>
    cases fl with
    | ret u =>
      obtain ⟨v, H', ho, bare, un, hok', ru, q⟩ := h
      obtain rfl : v = .bl true := q
      obtain rfl : u = Value.bool true := ru
      obtain ⟨more, hm⟩ := un.tbls T #[] t.tb
      have old : ∀ b o, b ≠ T → s.heap.get? b = some o → s'.heap.get? b = some o := fun b o nb e => by
        have no : H b = none → s'.heap.get? b = some o := fun q => un.keep b o e q (fun y => (List.not_mem_nil y).elim) (by simp)
        by_cases ha : b = a
        · subst ha
          rcases t.fz with q | ⟨ob, xs, q⟩
          · exact no q
          · have h1 := (hok b _ q).1
            have h2 := (hok' b _ (un.frzs b ob _ q)).1
            cases h1.symm.trans e
            exact h2
        · exact no (t.el b ha nb)
      refine ⟨rfl, ⟨fun b o e => ?_, fun b o e => ?_⟩, ho, bare⟩
      · by_cases hb : b = T
        · subst hb
          cases z.tab.symm.trans e
          refine .inr (.inl ⟨(z.chd.tab z.tab).isCodeTable, rfl, #[], more, rfl, ?_⟩)
          have := hok' b _ hm
          exact this
        · exact .inl (old b o hb e)
      · by_cases hb : b = T
        · subst hb
          exact ⟨_, hok' b _ hm⟩
        · exact ⟨o, old b o hb e⟩
    | next => exact False.elim h
    | brk => exact False.elim h
    | cont => exact False.elim h
theorem dp_of_ints : ∀ {ns : List Int}, DpAll K H (ns.map V.int) (ns.map PyData.int)
  | [] => .nil
  | _ :: _ => .cons (.int _) dp_of_ints
def less (H : Hp) (T : Addr) : Hp := fun b => if b = T then none else H b
theorem less_at {b : Addr} (h : b ≠ T) : less H T b = H b := if_neg h
theorem sp_law (ns : List Int) (hl : ns.length ≤ 63) (t : Tld K H T a) (hs : SqL K H a (ns.map V.int)) (hne : a ≠ T) : spLaw K T [.ref a] H (fun v _ => v = .bl true) fun _ _ _ => False := by
  have sv : Same (less H T) H := fun b o e => by
    by_cases hb : b = T
    · cases (if_pos hb).symm.trans e
    · exact (less_at hb).symm.trans e
  refine ⟨ns, less H T, fun _ => T, hl, ⟨sv, rfl, fun i R e => ?_, fun i P e => ?_, fun i j P P' e1 e2 _ => ?_⟩, fun v Hv' H' _ _ _ r => r⟩
  · match i, e with
    | 0, e =>
      cases e
      refine ⟨.ref a, rfl, .lst ?_ dp_of_ints⟩
      rcases hs with (q | ⟨o, q⟩) | q
      · exact .inl (.inl ((less_at hne).trans q))
      · exact .inl (.inr ⟨o, (less_at hne).trans q⟩)
      · exact .inr q
    | 1, e => cases e
    | i + 2, e => simp at e
  · match i, e with
    | 0, e => cases e
    | 1, e =>
      cases e
      refine ⟨rfl, if_pos rfl, _, t.tb, #[], rfl, trivial, fun pos cv hc => ?_⟩
      cases hc
    | i + 2, e => simp at e
  · match i, j, e1, e2 with
    | 1, 1, _, _ => rfl
    | 0, _, e1, _ => cases e1
    | _, 0, _, e2 => cases e2
    | i + 2, _, e1, _ => simp at e1
    | _, j + 2, _, e2 => simp at e2
theorem end_law {ns : List Int} (z : Lnd K mg mb s.heap cd T a us) (hi : IntsAre us ns) (hl : ns.length ≤ 63) (hg : s.gens = #[]) (hr : Room k callerA) (hfa : mg x = some (.ref fa))
    (F : ∀ base : Heap, K.In base → base.Ns mainGlobals mg → LamX.TabB base mg cd T → CalG P w K mg base k x (spLaw K T)) :
    codeAny (model P w) callerA (.call (.ref fa) ⟨[.ref a], []⟩) (fun r s' => r = .ok (.ret (.bool true)) ∧ OldK s.heap s'.heap ∧ s'.os = s.os ∧ AllBare s'.gens) s := by
  have rv := vals_ints hi
  have hn : ns.length ≤ sizeLine := Nat.le_trans hl (by decide)
  have szU : us.toArray.size ≤ sizeLine := by rw [List.size_toArray, hi.length]; exact hn
  cases hk : K.lookup a with
  | some o =>
    cases z.scr.symm.trans (z.kin a o hk)
    have t : Tld K (fun b => if b = T then some (.tbl #[]) else none) T a := ⟨if_pos rfl, fun b _ h => if_neg h, fun h => (h (if_neg z.aT)).elim, .inl (if_neg z.aT)⟩
    refine end_one z t (fun b u e => ?_) hg hr hfa F (sp_law ns hl t (.inr ⟨_, us.toArray, _, hk, rfl, rfl, rfl, szU, by simpa using rv⟩) z.aT)
    by_cases hb : b = T
    · subst hb
      cases (if_pos rfl).symm.trans e
      exact z.tab
    · cases (if_neg hb).symm.trans e
  | none =>
    have t : Tld K (fun b => if b = T then some (.tbl #[]) else if b = a then some (.frz { cls := .type "list", data := .seq us.toArray } (.lst (ns.map V.int))) else none) T a :=
      ⟨if_pos rfl, fun b h1 h2 => (if_neg h2).trans (if_neg h1), fun _ => hk, .inr ⟨_, _, (if_neg z.aT).trans (if_pos rfl)⟩⟩
    refine end_one z t (fun b u e => ?_) hg hr hfa F (sp_law ns hl t (.inl (.inr ⟨_, (if_neg z.aT).trans (if_pos rfl)⟩)) z.aT)
    by_cases hb : b = T
    · subst hb
      cases (if_pos rfl).symm.trans e
      exact z.tab
    · have e' := (if_neg hb).symm.trans e
      by_cases ha : b = a
      · subst ha
        cases (if_pos rfl).symm.trans e'
        exact ⟨z.scr, by rw [List.length_map]; exact hn, us, _, rv, z.scr⟩
      · cases (if_neg ha).symm.trans e'
end
end
/-- what the head tells of law -/
def LawG (P : Program) (w : World) (mg : Str → Option Value) (k : Nat) (g : Heap) : Prop :=
  ∃ (K : PySem.W.Frag) (cd T : Addr), K.In g ∧ g.get? T = some { cls := .none, data := .fields #[] } ∧ K.lookup T = none ∧ PySem.W.CodeHd g cd T ∧
    ∀ base : Heap, K.In base → base.Ns mainGlobals mg → LamX.TabB base mg cd T → CalG P w K mg base k "law" (spLaw K T)
theorem walk_G {l : PySem.W.OpenLaw} {k : Nat} {q : Program} {loose : List Str} {XP : (Str → Option Value) → Heap → Prop} {YP : World → Heap → Prop} {d : DefRec} (hn : l.most = some 63) (hdf : d.params.defaults = []) (hr : Room k callerA) (hx : d.name = "law")
    (F : ∀ (w : World) (mg : Str → Option Value) (g : Heap), YP w g → g.Ns mainGlobals mg → LawG l.prog w mg k g) : PySem.W.WalkO q loose XP YP l.row.toRowW d [] fun f vs => PySem.call f vs := by
  refine Att.attach_callB hn hdf fun w s0 s1 mg mb fa o pm cd doc a vs ns G Y ho hd hcd hmg hobj hints hlen hbits hg => ?_
  obtain ⟨K, c, T, KX, hT, nT, C, hF⟩ := F w mg _ Y G.T.g
  rw [hx] at hmg
  exact end_law ⟨KX, G.T.g, G.T.b, G.T.builtins, G.T.nolimit, hT, nT, C, G.T.bmain, hobj⟩ hints hlen hg hr hmg hF
end Bo
set_option maxHeartbeats 0
/-! The finite checks behind the plain law. -/
namespace Bo
open PySem L2
/-- weakly rising rows of numbers from 0 to m -/
def upB (y : List Int) : Bool := (List.range (y.length - 1)).all fun i => decide (y.getD i 0 ≤ y.getD (i + 1) 0)
def seqsF (m n : Nat) : List (List Int) := (evM (m + 1) n).filter upB
def agr : List (Option Int) → List Int → Bool
  | [], [] => true
  | none :: x, _ :: y => agr x y
  | some v :: x, w :: y => decide (v = w) && agr x y
  | _, _ => false
def rowsF (vs : List (Option Int)) : Nat → List (List (Option Int))
  | 0 => [[]]
  | n + 1 => vs.flatMap fun v => (rowsF vs n).map (v :: ·)
def valsF (m : Nat) : List (Option Int) := none :: ((List.range (7 - m)).map fun i : Nat => some ((i : Int) - (3 - (m : Int))))
/-- a row of told numbers: what the program makes of it, and the rows that agree with it -/
def chkR (S : List (List Int)) (n m : Nat) (x : List (Option Int)) : Bool :=
  match enO x m with
  | none => S.isEmpty
  | some p => okMa x p.1 p.2 && decide ((maS x p.1 p.2 (x.length + 1)).1 = (S.length : Nat)) && !S.isEmpty && (List.range n).all fun i => decide (p.1.getD i 0 = minL (colM S i)) && decide (p.2.getD i 0 = maxL (colM S i))
def chkRs (n m : Nat) : Bool := (rowsF (valsF m) n).all fun x => chkR ((seqsF m n).filter (agr x)) n m x
theorem ckR10 : chkRs 1 0 = true := by decide +kernel
theorem ckR11 : chkRs 1 1 = true := by decide +kernel
theorem ckR12 : chkRs 1 2 = true := by decide +kernel
theorem ckR13 : chkRs 1 3 = true := by decide +kernel
theorem ckR20 : chkRs 2 0 = true := by decide +kernel
theorem ckR21 : chkRs 2 1 = true := by decide +kernel
theorem ckR22 : chkRs 2 2 = true := by decide +kernel
theorem ckR23 : chkRs 2 3 = true := by decide +kernel
theorem ckR30 : chkRs 3 0 = true := by decide +kernel
theorem ckR31 : chkRs 3 1 = true := by decide +kernel
theorem ckR32 : chkRs 3 2 = true := by decide +kernel
theorem ckR33 : chkRs 3 3 = true := by decide +kernel
theorem ckR40 : chkRs 4 0 = true := by decide +kernel
theorem ckR41 : chkRs 4 1 = true := by decide +kernel
theorem ckR42 : chkRs 4 2 = true := by decide +kernel
theorem ckR43 : chkRs 4 3 = true := by decide +kernel
theorem ckR {n m : Nat} (hn : 1 ≤ n ∧ n ≤ 4) (hm : m ≤ 3) : chkRs n m = true := by
  have h1 : n = 1 ∨ n = 2 ∨ n = 3 ∨ n = 4 := by omega
  have h2 : m = 0 ∨ m = 1 ∨ m = 2 ∨ m = 3 := by omega
  rcases h1 with e | e | e | e <;> rcases h2 with e2 | e2 | e2 | e2 <;> subst e e2
  · exact ckR10
  · exact ckR11
  · exact ckR12
  · exact ckR13
  · exact ckR20
  · exact ckR21
  · exact ckR22
  · exact ckR23
  · exact ckR30
  · exact ckR31
  · exact ckR32
  · exact ckR33
  · exact ckR40
  · exact ckR41
  · exact ckR42
  · exact ckR43
/-- how many rows -/
def chkC (n m : Nat) : Bool := decide (chN (n + m) n = ((seqsF m n).length : Nat)) && !(seqsF m n).isEmpty
theorem ckC : ((List.range 5).all fun n => n == 0 || (List.range 4).all (chkC n)) = true := by decide +kernel
/-! orders -/
def insAll (x : Int) : List Int → List (List Int)
  | [] => [[x]]
  | y :: r => (x :: y :: r) :: (insAll x r).map (y :: ·)
def permsF : List Int → List (List Int)
  | [] => [[]]
  | x :: r => (permsF r).flatMap (insAll x)
def chkP (n : Nat) : Bool := (evM n n).all fun l => !okPs l || (permsF (rgI n)).any fun q => decide (q = l)
theorem ckP : (List.range 5).all chkP = true := by decide +kernel
def incB (ps st : List Int) (l : List Int) : Bool := (List.range (ps.length - 1)).all fun i => decide (l.getD (ps.getD i 0).toNat 0 + (if (i : Int) ∈ st then 1 else 0) ≤ l.getD (ps.getD (i + 1) 0).toNat 0)
def chkB1 (n : Nat) (k : Kd) (l : List Int) : Bool :=
  match spM l k with
  | none => (permsF (rgI n)).all fun ps => !incB ps (riL ps k) l
  | some q => (permsF (rgI n)).all fun ps => decide (ps = q) == incB ps (riL ps k) l
def chkB (n : Nat) (k : Kd) : Bool := (evM 4 n).all (chkB1 n k)
theorem ckB1 : (chkB 1 .fst && chkB 1 .lst && chkB 1 .rng) = true := by decide +kernel
theorem ckB2 : (chkB 2 .fst && chkB 2 .lst && chkB 2 .rng) = true := by decide +kernel
theorem ckB3 : (chkB 3 .fst && chkB 3 .lst && chkB 3 .rng) = true := by decide +kernel
theorem ckB4a : chkB 4 .fst = true := by decide +kernel
theorem ckB4b : chkB 4 .lst = true := by decide +kernel
theorem ckB4c : chkB 4 .rng = true := by decide +kernel
theorem ckB {n : Nat} (hn : 1 ≤ n ∧ n ≤ 4) (k : Kd) : chkB n k = true := by
  have h1 : n = 1 ∨ n = 2 ∨ n = 3 ∨ n = 4 := by omega
  have a1 := ckB1
  have a2 := ckB2
  have a3 := ckB3
  simp only [Bool.and_eq_true] at a1 a2 a3
  rcases h1 with e | e | e | e <;> subst e <;> cases k
  · exact a1.1.1
  · exact a1.1.2
  · exact a1.2
  · exact a2.1.1
  · exact a2.1.2
  · exact a2.2
  · exact a3.1.1
  · exact a3.1.2
  · exact a3.2
  · exact ckB4a
  · exact ckB4b
  · exact ckB4c
def chkS1 (n : Nat) (ps : List Int) (k : Kd) : Bool := decide ((riL ps k).length = (stM ps k).length ∧ rbN (riL ps k) (n - 1) = ((riL ps k).length : Nat))
def chkS (n : Nat) (ps : List Int) : Bool := chkS1 n ps .fst && chkS1 n ps .lst && chkS1 n ps .rng && (List.range n).all fun i => decide ((rk ps).getD (ps.getD i 0).toNat 0 = (i : Int) ∧ ps.getD ((rk ps).getD i 0).toNat 0 = (i : Int))
theorem ckS : ((List.range 5).all fun n => (permsF (rgI n)).all (chkS n)) = true := by decide +kernel
end Bo
set_option maxHeartbeats 4000000
/-! The plain law, from the finite checks. -/
namespace Bo
open PySem L2
theorem evM_mem {b : Nat} : ∀ {n : Nat} {l : List Int}, l ∈ evM b n ↔ l.length = n ∧ ∀ x ∈ l, 0 ≤ x ∧ x < (b : Int)
  | 0, l => by
    constructor
    · exact evM_at 0 l
    · intro ⟨h, _⟩
      rw [List.length_eq_zero_iff.mp h]
      exact List.mem_singleton.mpr rfl
  | n + 1, l => by
    constructor
    · exact evM_at (n + 1) l
    · intro ⟨h, hx⟩
      have ne : l ≠ [] := fun e => by rw [e] at h; cases h
      have e := List.dropLast_concat_getLast ne
      have hl : l.dropLast.length = n := by rw [List.length_dropLast, h]; rfl
      have hd : l.dropLast ∈ evM b n := evM_mem.mpr ⟨hl, fun x hm => hx x (List.dropLast_subset l hm)⟩
      obtain ⟨h1, h2⟩ := hx _ (List.getLast_mem ne)
      refine List.mem_flatMap.mpr ⟨l.dropLast, hd, List.mem_map.mpr ⟨(l.getLast ne).toNat, List.mem_range.mpr (by omega), ?_⟩⟩
      rw [Int.toNat_of_nonneg h1]
      exact e
theorem evM_nodup {b : Nat} : ∀ n, (evM b n).Nodup
  | 0 => by
    show [[]].Nodup
    simp
  | n + 1 => by
    show ((evM b n).flatMap (stepM b)).Nodup
    rw [List.Nodup, List.pairwise_flatMap]
    refine ⟨fun l _ => ?_, (evM_nodup n).imp fun {l l'} hne x hx y hy e => ?_⟩
    · unfold stepM
      rw [List.pairwise_map]
      refine List.nodup_range.imp fun {i j} hij e => hij ?_
      have := List.append_cancel_left e
      injection this with h _
      exact Int.ofNat.inj h
    · obtain ⟨i, _, e1⟩ := List.mem_map.mp hx
      obtain ⟨j, _, e2⟩ := List.mem_map.mp hy
      rw [← e1, ← e2] at e
      exact hne (List.append_inj_left' e rfl)
theorem range_map_getD {n i : Nat} {f : Nat → Int} (h : i < n) : ((List.range n).map f).getD i 0 = f i := by
  rw [List.getD_eq_getElem?_getD, List.getElem?_map, List.getElem?_range h]
  rfl
theorem ext_getD {l l' : List Int} (h : l.length = l'.length) (g : ∀ i, i < l.length → l.getD i 0 = l'.getD i 0) : l = l' := by
  refine List.ext_getElem h fun i h1 h2 => ?_
  have := g i h1
  rw [List.getD_eq_getElem?_getD, List.getD_eq_getElem?_getD, List.getElem?_eq_getElem h1, List.getElem?_eq_getElem h2] at this
  exact this
theorem getD_in {l : List Int} {i : Nat} (h : i < l.length) : l.getD i 0 ∈ l := by
  rw [List.getD_eq_getElem?_getD, List.getElem?_eq_getElem h]
  exact List.getElem_mem h
theorem mem_getD {l : List Int} {x : Int} (h : x ∈ l) : ∃ i, i < l.length ∧ l.getD i 0 = x := by
  obtain ⟨i, hi, e⟩ := List.getElem_of_mem h
  exact ⟨i, hi, by rw [List.getD_eq_getElem?_getD, List.getElem?_eq_getElem hi, e]; rfl⟩
theorem chain_le {n : Nat} {f : Nat → Int} (h : ∀ i, i + 1 < n → f i ≤ f (i + 1)) : ∀ (d i : Nat), i + d < n → f i ≤ f (i + d)
  | 0, i, _ => Int.le_refl _
  | d + 1, i, hd => Int.le_trans (chain_le h d i (by omega)) (h (i + d) (by omega))
theorem rowsF_mem {vs : List (Option Int)} : ∀ {n : Nat} {x : List (Option Int)}, x.length = n → (∀ e ∈ x, e ∈ vs) → x ∈ rowsF vs n
  | 0, x, h, _ => by
    rw [List.length_eq_zero_iff.mp h]
    exact List.mem_singleton.mpr rfl
  | n + 1, x, h, hm => by
    cases x with
    | nil => cases h
    | cons e x => exact List.mem_flatMap.mpr ⟨e, hm e List.mem_cons_self, List.mem_map.mpr ⟨x, rowsF_mem (Nat.succ.inj h) fun e' he => hm e' (List.mem_cons_of_mem _ he), rfl⟩⟩
theorem agr_iff : ∀ {x : List (Option Int)} {y : List Int}, x.length = y.length → (agr x y = true ↔ ∀ i, i < x.length → x.getD i none = none ∨ x.getD i none = some (y.getD i 0))
  | [], [], _ => ⟨fun _ i h => absurd h (Nat.not_lt_zero _), fun _ => rfl⟩
  | [], _ :: _, h => by cases h
  | _ :: _, [], h => by cases h
  | o :: x, w :: y, h => by
    have ih := agr_iff (x := x) (y := y) (Nat.succ.inj h)
    have tl : (∀ i, i < (o :: x).length → (o :: x).getD i none = none ∨ (o :: x).getD i none = some ((w :: y).getD i 0)) ↔ (o = none ∨ o = some w) ∧ ∀ i, i < x.length → x.getD i none = none ∨ x.getD i none = some (y.getD i 0) := by
      constructor
      · intro g
        refine ⟨by simpa using g 0 (by simp), fun i hi => ?_⟩
        have := g (i + 1) (by simpa using hi)
        simpa using this
      · rintro ⟨g1, g2⟩ i hi
        cases i with
        | zero => simpa using g1
        | succ i =>
          have := g2 i (by simpa using hi)
          simpa using this
    rw [tl, ← ih]
    cases o with
    | none =>
      show agr x y = true ↔ _
      simp
    | some v =>
      show (decide (v = w) && agr x y) = true ↔ _
      simp
theorem minL_perm {l l' : List Int} (h : l.Perm l') (ne : l ≠ []) : minL l = minL l' := by
  have ne' : l' ≠ [] := fun e => by
    rw [e] at h
    exact ne h.eq_nil
  obtain ⟨a1, a2⟩ := minL_mem ne
  obtain ⟨b1, b2⟩ := minL_mem ne'
  exact Int.le_antisymm (a2 _ (h.mem_iff.mpr b1)) (b2 _ (h.mem_iff.mp a1))
theorem maxL_perm {l l' : List Int} (h : l.Perm l') (ne : l ≠ []) : maxL l = maxL l' := by
  have ne' : l' ≠ [] := fun e => by
    rw [e] at h
    exact ne h.eq_nil
  obtain ⟨a1, a2⟩ := maxL_mem ne
  obtain ⟨b1, b2⟩ := maxL_mem ne'
  exact Int.le_antisymm (b2 _ (h.mem_iff.mp a1)) (a2 _ (h.mem_iff.mpr b1))
theorem minL_add {l : List Int} {c : Int} (ne : l ≠ []) : minL (l.map (· + c)) = minL l + c := by
  have ne' : l.map (· + c) ≠ [] := fun e => ne (List.map_eq_nil_iff.mp e)
  obtain ⟨a1, a2⟩ := minL_mem ne
  obtain ⟨b1, b2⟩ := minL_mem ne'
  obtain ⟨v, hv, e⟩ := List.mem_map.mp b1
  have h1 := b2 _ (List.mem_map.mpr ⟨_, a1, rfl⟩)
  have h2 := a2 v hv
  have e' : v + c = minL (l.map (· + c)) := e
  omega
theorem maxL_add {l : List Int} {c : Int} (ne : l ≠ []) : maxL (l.map (· + c)) = maxL l + c := by
  have ne' : l.map (· + c) ≠ [] := fun e => ne (List.map_eq_nil_iff.mp e)
  obtain ⟨a1, a2⟩ := maxL_mem ne
  obtain ⟨b1, b2⟩ := maxL_mem ne'
  obtain ⟨v, hv, e⟩ := List.mem_map.mp b1
  have h1 := b2 _ (List.mem_map.mpr ⟨_, a1, rfl⟩)
  have h2 := a2 v hv
  have e' : v + c = maxL (l.map (· + c)) := e
  omega
end Bo
set_option maxHeartbeats 4000000
namespace Bo
open PySem L2
/-! an order, its ranks, its rises -/
abbrev piN (ps : List Int) (i : Nat) : Nat := (ps.getD i 0).toNat
abbrev riN (ps : List Int) (j : Nat) : Nat := ((rk ps).getD j 0).toNat
structure Pk (ps : List Int) (k : Kd) : Prop where
  len : 1 ≤ ps.length ∧ ps.length ≤ 4
  pi_lt : ∀ i, i < ps.length → piN ps i < ps.length
  ri_lt : ∀ j, j < ps.length → riN ps j < ps.length
  rp : ∀ i, i < ps.length → riN ps (piN ps i) = i
  pr : ∀ j, j < ps.length → piN ps (riN ps j) = j
  pin : ∀ i, i < ps.length → ps.getD i 0 = (piN ps i : Int)
  sl : (riL ps k).length = (stM ps k).length
  rb : rbN (riL ps k) (ps.length - 1) = ((riL ps k).length : Nat)
  fit : ∀ l, l ∈ evM 4 ps.length → (spM l k = some ps ↔ incB ps (riL ps k) l = true)
theorem pm_in {ps : List Int} (h : pmOk ps) : ps ∈ permsF (rgI ps.length) := by
  have hl := pmOk_len h
  have h1 := List.all_eq_true.mp ckP ps.length (List.mem_range.mpr (by omega))
  have hm : ps ∈ evM ps.length ps.length := evM_mem.mpr ⟨rfl, fun x hx => (pmOk_mem h).mp hx⟩
  have h2 := List.all_eq_true.mp h1 ps hm
  rw [pmOk_ps h] at h2
  simp only [Bool.not_true, Bool.false_or] at h2
  obtain ⟨q, hq, e⟩ := List.any_eq_true.mp h2
  have e' := of_decide_eq_true e
  first
    | exact (show q = ps from e') ▸ hq
    | exact (show ps = q from e').symm ▸ hq
theorem pk_of {ps : List Int} (h : pmOk ps) (k : Kd) : Pk ps k := by
  have hl := pmOk_len h
  have hin := pm_in h
  have hS := List.all_eq_true.mp (List.all_eq_true.mp ckS ps.length (List.mem_range.mpr (by omega))) ps hin
  unfold chkS at hS
  simp only [Bool.and_eq_true] at hS
  obtain ⟨⟨⟨s1, s2⟩, s3⟩, s4⟩ := hS
  have hs : chkS1 ps.length ps k = true := by
    cases k
    · exact s1
    · exact s2
    · exact s3
  obtain ⟨sl, rb⟩ := of_decide_eq_true hs
  have hk : ∀ i, i < ps.length → (rk ps).getD (ps.getD i 0).toNat 0 = (i : Int) ∧ ps.getD ((rk ps).getD i 0).toNat 0 = (i : Int) := fun i hi => of_decide_eq_true (List.all_eq_true.mp s4 i (List.mem_range.mpr hi))
  have hp : ∀ i, i < ps.length → 0 ≤ ps.getD i 0 ∧ ps.getD i 0 < ps.length := fun i hi => (pmOk_mem h).mp (getD_in hi)
  refine ⟨hl, fun i hi => ?_, fun j hj => (rk_rng hl.1 hj).2, fun i hi => ?_, fun j hj => ?_, fun i hi => ?_, sl, rb, fun l hm => ?_⟩
  · have := hp i hi
    show (ps.getD i 0).toNat < ps.length
    omega
  · show ((rk ps).getD (ps.getD i 0).toNat 0).toNat = i
    rw [(hk i hi).1]
    rfl
  · show (ps.getD ((rk ps).getD j 0).toNat 0).toNat = j
    rw [(hk j hj).2]
    rfl
  · exact (Int.toNat_of_nonneg (hp i hi).1).symm
  · have hB := List.all_eq_true.mp (ckB hl k) l hm
    unfold chkB1 at hB
    cases hq : spM l k with
    | none =>
      rw [hq] at hB
      have z := List.all_eq_true.mp hB ps hin
      constructor
      · intro e
        cases e
      · intro e
        rw [e] at z
        cases z
    | some q =>
      rw [hq] at hB
      have z := List.all_eq_true.mp hB ps hin
      have z' : decide (ps = q) = incB ps (riL ps k) l := eq_of_beq z
      rw [← z']
      constructor
      · intro e
        exact decide_eq_true (Option.some.inj e).symm
      · intro e
        rw [of_decide_eq_true e]
section
variable {ps : List Int} {k : Kd}
abbrev rbf (ps : List Int) (k : Kd) (i : Nat) : Int := rbN (riL ps k) i
def phi (ps : List Int) (k : Kd) (l : List Int) : List Int := (List.range ps.length).map fun i => l.getD (piN ps i) 0 - rbf ps k i
def psi (ps : List Int) (k : Kd) (y : List Int) : List Int := (List.range ps.length).map fun j => y.getD (riN ps j) 0 + rbf ps k (riN ps j)
theorem phi_len {l : List Int} : (phi ps k l).length = ps.length := by unfold phi; simp
theorem psi_len {y : List Int} : (psi ps k y).length = ps.length := by unfold psi; simp
theorem phi_at {l : List Int} {i : Nat} (h : i < ps.length) : (phi ps k l).getD i 0 = l.getD (piN ps i) 0 - rbf ps k i := range_map_getD h
theorem psi_at {y : List Int} {j : Nat} (h : j < ps.length) : (psi ps k y).getD j 0 = y.getD (riN ps j) 0 + rbf ps k (riN ps j) := range_map_getD h
theorem phi_psi (p : Pk ps k) {y : List Int} (h : y.length = ps.length) : phi ps k (psi ps k y) = y := by
  refine ext_getD (phi_len.trans h.symm) fun i hi => ?_
  rw [phi_len] at hi
  rw [phi_at hi, psi_at (p.pi_lt i hi), p.rp i hi]
  omega
theorem psi_phi (p : Pk ps k) {l : List Int} (h : l.length = ps.length) : psi ps k (phi ps k l) = l := by
  refine ext_getD (psi_len.trans h.symm) fun j hj => ?_
  rw [psi_len] at hj
  rw [psi_at hj, phi_at (p.ri_lt j hj), p.pr j hj]
  omega
theorem rb_succ (i : Nat) : rbf ps k (i + 1) = rbf ps k i + if (i : Int) ∈ riL ps k then 1 else 0 := rfl
theorem rb_mono {i j : Nat} (h : i ≤ j) : rbf ps k i ≤ rbf ps k j := by
  obtain ⟨d, rfl⟩ : ∃ d, j = i + d := ⟨j - i, by omega⟩
  exact chain_le (n := i + d + 1) (f := rbf ps k) (fun a _ => by rw [rb_succ]; split <;> omega) d i (by omega)
theorem rb_nn (i : Nat) : 0 ≤ rbf ps k i := rb_mono (ps := ps) (k := k) (Nat.zero_le i)
theorem incB_iff {l : List Int} : incB ps (riL ps k) l = true ↔ ∀ i, i + 1 < ps.length → l.getD (piN ps i) 0 + (if (i : Int) ∈ riL ps k then 1 else 0) ≤ l.getD (piN ps (i + 1)) 0 := by
  unfold incB
  rw [List.all_eq_true]
  constructor
  · intro h i hi
    exact of_decide_eq_true (h i (List.mem_range.mpr (by omega)))
  · intro h i hi
    have := List.mem_range.mp hi
    exact decide_eq_true (h i (by omega))
theorem upB_iff {y : List Int} : upB y = true ↔ ∀ i, i + 1 < y.length → y.getD i 0 ≤ y.getD (i + 1) 0 := by
  unfold upB
  rw [List.all_eq_true]
  constructor
  · intro h i hi
    exact of_decide_eq_true (h i (List.mem_range.mpr (by omega)))
  · intro h i hi
    have := List.mem_range.mp hi
    exact decide_eq_true (h i (by omega))
theorem seqs_mem {m n : Nat} {y : List Int} : y ∈ seqsF m n ↔ (y.length = n ∧ ∀ x ∈ y, 0 ≤ x ∧ x ≤ (m : Int)) ∧ upB y = true := by
  unfold seqsF
  rw [List.mem_filter, evM_mem]
  constructor
  · rintro ⟨⟨h1, h2⟩, h3⟩
    exact ⟨⟨h1, fun x hx => by have := h2 x hx; omega⟩, h3⟩
  · rintro ⟨⟨h1, h2⟩, h3⟩
    exact ⟨⟨h1, fun x hx => by have := h2 x hx; omega⟩, h3⟩
/-- the lines of an order are the rising rows -/
theorem fit_iff (p : Pk ps k) {b : Nat} (hb : b ≤ 4) {l : List Int} : l ∈ fitM ps k b ↔ (l.length = ps.length ∧ ∀ x ∈ l, 0 ≤ x ∧ x < (b : Int)) ∧ incB ps (riL ps k) l = true := by
  unfold fitM
  rw [List.mem_filter, evM_mem]
  constructor
  · rintro ⟨⟨h1, h2⟩, h3⟩
    exact ⟨⟨h1, h2⟩, (p.fit l (evM_mem.mpr ⟨h1, fun x hx => by have := h2 x hx; omega⟩)).mp (of_decide_eq_true h3)⟩
  · rintro ⟨⟨h1, h2⟩, h3⟩
    exact ⟨⟨h1, h2⟩, decide_eq_true ((p.fit l (evM_mem.mpr ⟨h1, fun x hx => by have := h2 x hx; omega⟩)).mpr h3)⟩
theorem phi_in (p : Pk ps k) {b m : Nat} (hb : b ≤ 4) (hm : m + (riL ps k).length + 1 = b) {l : List Int} (h : l ∈ fitM ps k b) : phi ps k l ∈ seqsF m ps.length := by
  obtain ⟨⟨h1, h2⟩, h3⟩ := (fit_iff p hb).mp h
  have inc := incB_iff.mp h3
  have up : ∀ i, i + 1 < ps.length → (phi ps k l).getD i 0 ≤ (phi ps k l).getD (i + 1) 0 := fun i hi => by
    rw [phi_at (by omega), phi_at hi, rb_succ]
    have := inc i hi
    omega
  have hl := p.len
  refine seqs_mem.mpr ⟨⟨phi_len, fun x hx => ?_⟩, upB_iff.mpr fun i hi => up i (by rw [phi_len] at hi; exact hi)⟩
  obtain ⟨i, hi, e⟩ := mem_getD hx
  rw [phi_len] at hi
  have g0 := chain_le (n := ps.length) (f := fun i => (phi ps k l).getD i 0) up i 0 (by omega)
  have g1 := chain_le (n := ps.length) (f := fun i => (phi ps k l).getD i 0) up (ps.length - 1 - i) i (by omega)
  have e0 : (phi ps k l).getD 0 0 = l.getD (piN ps 0) 0 - rbf ps k 0 := phi_at (by omega)
  have e1 : (phi ps k l).getD (ps.length - 1) 0 = l.getD (piN ps (ps.length - 1)) 0 - rbf ps k (ps.length - 1) := phi_at (by omega)
  have b0 := h2 _ (getD_in (l := l) (i := piN ps 0) (by rw [h1]; exact p.pi_lt 0 (by omega)))
  have b1 := h2 _ (getD_in (l := l) (i := piN ps (ps.length - 1)) (by rw [h1]; exact p.pi_lt _ (by omega)))
  have r0 : rbf ps k 0 = 0 := rfl
  have r1 : rbf ps k (ps.length - 1) = ((riL ps k).length : Nat) := p.rb
  have i0 : 0 + i = i := Nat.zero_add i
  have i1 : i + (ps.length - 1 - i) = ps.length - 1 := by omega
  have g0' : (phi ps k l).getD 0 0 ≤ (phi ps k l).getD (0 + i) 0 := g0
  have g1' : (phi ps k l).getD i 0 ≤ (phi ps k l).getD (i + (ps.length - 1 - i)) 0 := g1
  rw [i0] at g0'
  rw [i1] at g1'
  rw [e] at g0' g1'
  omega
theorem psi_in (p : Pk ps k) {b m : Nat} (hb : b ≤ 4) (hm : m + (riL ps k).length + 1 = b) {y : List Int} (h : y ∈ seqsF m ps.length) : psi ps k y ∈ fitM ps k b := by
  obtain ⟨⟨h1, h2⟩, h3⟩ := seqs_mem.mp h
  have up := upB_iff.mp h3
  have hl := p.len
  refine (fit_iff p hb).mpr ⟨⟨psi_len, fun x hx => ?_⟩, incB_iff.mpr fun i hi => ?_⟩
  · obtain ⟨j, hj, e⟩ := mem_getD hx
    rw [psi_len] at hj
    rw [psi_at hj] at e
    have g := h2 _ (getD_in (l := y) (i := riN ps j) (by rw [h1]; exact p.ri_lt j hj))
    have r0 := rb_nn (ps := ps) (k := k) (riN ps j)
    have r1 := rb_mono (ps := ps) (k := k) (i := riN ps j) (j := ps.length - 1) (by have := p.ri_lt j hj; omega)
    have r2 : rbf ps k (ps.length - 1) = ((riL ps k).length : Nat) := p.rb
    omega
  · rw [psi_at (p.pi_lt i (by omega)), psi_at (p.pi_lt (i + 1) hi), p.rp i (by omega), p.rp (i + 1) hi, rb_succ]
    have := up i (by rw [h1]; exact hi)
    omega
/-! told letters -/
theorem getI_iff {t : Dct} (nd : (t.map (·.1)).Nodup) {j v : Int} : getI t j = some v ↔ (j, v) ∈ t := by
  constructor
  · intro h
    unfold getI at h
    obtain ⟨q, hq, e⟩ := Option.map_eq_some_iff.mp h
    have h1 := List.mem_of_find?_eq_some hq
    have h2 := List.find?_some hq
    have e1 : q.1 = j := of_decide_eq_true h2
    have e2 : q = (j, v) := Prod.ext e1 e
    rw [← e2]
    exact h1
  · intro h
    exact getI_mem nd h
theorem getI_perm {L t : Dct} (nd : (t.map (·.1)).Nodup) (h : L.Perm t) (j : Int) : getI L j = getI t j := by
  have ndL : (L.map (·.1)).Nodup := (h.map _).nodup_iff.mpr nd
  refine Option.ext fun v => ?_
  rw [getI_iff nd, getI_iff ndL]
  exact h.mem_iff
theorem nuL_at {o : Ord} {t : Dct} {i : Nat} (h : i < o.1.length) : (nuL o t).getD i none = (getI t (o.1.getD i 0)).map fun v => v - rbN (riL o.1 o.2) i := by
  unfold nuL
  rw [List.getD_eq_getElem?_getD, List.getElem?_map, List.getElem?_range h]
  rfl
theorem has_agr (p : Pk ps k) {b : Nat} {t : Dct} (d : DOk ps.length b t) {l : List Int} (h : l.length = ps.length) : hasM t l = true ↔ agr (nuL (ps, k) t) (phi ps k l) = true := by
  have hx : (nuL (ps, k) t).length = (phi ps k l).length := by rw [phi_len]; exact nuL_len
  rw [agr_iff hx]
  unfold hasM
  rw [List.all_eq_true]
  constructor
  · intro g i hi
    have hi' : i < ps.length := by rw [nuL_len] at hi; exact hi
    rw [nuL_at hi', phi_at hi']
    show (getI t (ps.getD i 0)).map _ = none ∨ _
    cases hg : getI t (ps.getD i 0) with
    | none => exact .inl rfl
    | some v =>
      have hm := (getI_iff d.nd).mp hg
      have e : l.getD (ps.getD i 0).toNat 0 = v := of_decide_eq_true (g _ hm)
      refine .inr ?_
      show some (v - _) = some _
      rw [← e]
  · intro g q hq
    obtain ⟨⟨q1, q2⟩, _⟩ := d.rng q hq
    obtain ⟨j, hj⟩ : ∃ j : Nat, q.1 = (j : Int) := ⟨q.1.toNat, (Int.toNat_of_nonneg q1).symm⟩
    have hjl : j < ps.length := by omega
    have hi := p.ri_lt j hjl
    have := g (riN ps j) (by rw [nuL_len]; exact hi)
    rw [nuL_at hi, phi_at hi] at this
    have e1 : (ps.getD (riN ps j) 0) = q.1 := by rw [p.pin _ hi, p.pr j hjl, hj]
    have e2 : getI t q.1 = some q.2 := getI_mem d.nd hq
    have this' : (getI t (ps.getD (riN ps j) 0)).map (fun v => v - rbN (riL ps k) (riN ps j)) = none ∨ (getI t (ps.getD (riN ps j) 0)).map (fun v => v - rbN (riL ps k) (riN ps j)) = some (l.getD (piN ps (riN ps j)) 0 - rbf ps k (riN ps j)) := this
    rw [e1, e2, p.pr j hjl] at this'
    rcases this' with z | z
    · cases z
    · have z' := Option.some.inj z
      refine decide_eq_true ?_
      rw [hj]
      show l.getD j 0 = q.2
      have z2 : q.2 - rbN (riL ps k) (riN ps j) = l.getD j 0 - rbf ps k (riN ps j) := z'
      have z3 : rbf ps k (riN ps j) = rbN (riL ps k) (riN ps j) := rfl
      omega
end
end Bo
set_option maxHeartbeats 4000000
namespace Bo
open PySem L2
section
variable {ps : List Int} {k : Kd}
theorem keM_perm (p : Pk ps k) {b m : Nat} (hb : b ≤ 4) (hm : m + (riL ps k).length + 1 = b) {t : Dct} (d : DOk ps.length b t) : ((keM (fitM ps k b) t).map (phi ps k)).Perm ((seqsF m ps.length).filter (agr (nuL (ps, k) t))) := by
  have hlen : ∀ l, l ∈ fitM ps k b → l.length = ps.length := fun l h => (evM_mem.mp (List.mem_filter.mp h).1).1
  have n1 : ((keM (fitM ps k b) t).map (phi ps k)).Nodup := by
    have h0 : (keM (fitM ps k b) t).Nodup := ((evM_nodup ps.length).sublist List.filter_sublist).sublist List.filter_sublist
    rw [List.Nodup, List.pairwise_map]
    refine List.Pairwise.imp_of_mem (fun {x y} hx hy hne e => hne ?_) h0
    have hx' := hlen x (List.mem_filter.mp hx).1
    have hy' := hlen y (List.mem_filter.mp hy).1
    rw [← psi_phi p hx', ← psi_phi p hy', e]
  have n2 : ((seqsF m ps.length).filter (agr (nuL (ps, k) t))).Nodup := ((evM_nodup ps.length).sublist List.filter_sublist).sublist List.filter_sublist
  refine (List.perm_ext_iff_of_nodup n1 n2).mpr fun y => ?_
  rw [List.mem_map, List.mem_filter]
  constructor
  · rintro ⟨l, hl, e⟩
    obtain ⟨h1, h2⟩ := List.mem_filter.mp hl
    rw [← e]
    exact ⟨phi_in p hb hm h1, (has_agr p d (hlen l h1)).mp h2⟩
  · rintro ⟨h1, h2⟩
    have hy : y.length = ps.length := (seqs_mem.mp h1).1.1
    refine ⟨psi ps k y, List.mem_filter.mpr ⟨psi_in p hb hm h1, ?_⟩, phi_psi p hy⟩
    rw [has_agr p d psi_len, phi_psi p hy]
    exact h2
theorem nuL_rows (p : Pk ps k) {b m : Nat} (hb : b ≤ 4) (hm : m + (riL ps k).length + 1 = b) {t : Dct} (d : DOk ps.length b t) : nuL (ps, k) t ∈ rowsF (valsF m) ps.length := by
  refine rowsF_mem nuL_len fun e he => ?_
  obtain ⟨i, hi, e1⟩ := List.getElem_of_mem he
  have hi' : i < ps.length := by rw [nuL_len] at hi; exact hi
  have e2 : (nuL (ps, k) t).getD i none = e := by rw [List.getD_eq_getElem?_getD, List.getElem?_eq_getElem hi, e1]; rfl
  rw [← e2, nuL_at hi']
  show (getI t (ps.getD i 0)).map _ ∈ _
  cases hg : getI t (ps.getD i 0) with
  | none => exact List.mem_cons_self
  | some v =>
    have hq := d.rng _ ((getI_iff d.nd).mp hg)
    have r0 : 0 ≤ rbN (riL ps k) i := rb_nn (ps := ps) (k := k) i
    have r1 : rbN (riL ps k) i ≤ rbN (riL ps k) (ps.length - 1) := rb_mono (ps := ps) (k := k) (by omega)
    have r2 := p.rb
    refine List.mem_cons_of_mem _ (List.mem_map.mpr ⟨(v - rbN (riL ps k) i + (3 - (m : Int))).toNat, List.mem_range.mpr (by omega), ?_⟩)
    show some _ = some _
    congr 1
    show (((v - rbN (riL ps k) i + (3 - (m : Int))).toNat : Nat) : Int) - (3 - (m : Int)) = v - rbN (riL (ps, k).1 (ps, k).2) i
    rw [Int.toNat_of_nonneg (by omega)]
    show v - rbN (riL ps k) i + (3 - (m : Int)) - (3 - (m : Int)) = v - rbN (riL ps k) i
    omega
theorem col_len {L : List (List Int)} {j : Nat} : (colM L j).length = L.length := List.length_map _
theorem col_phi (p : Pk ps k) {L : List (List Int)} {j : Nat} (hj : j < ps.length) : colM L j = (colM (L.map (phi ps k)) (riN ps j)).map (· + rbf ps k (riN ps j)) := by
  unfold colM
  rw [List.map_map, List.map_map]
  refine List.map_congr_left fun l _ => ?_
  show l.getD j 0 = (phi ps k l).getD (riN ps j) 0 + rbf ps k (riN ps j)
  rw [phi_at (p.ri_lt j hj), p.pr j hj]
  omega
theorem nuL_congr {o : Ord} {t L : Dct} (h : ∀ j, getI L j = getI t j) : nuL o L = nuL o t := by
  refine List.ext_getElem (nuL_len.trans nuL_len.symm) fun i h1 h2 => ?_
  have hi : i < o.1.length := by rw [nuL_len] at h1; exact h1
  have a := nuL_at (o := o) (t := L) hi
  have b := nuL_at (o := o) (t := t) hi
  rw [h] at a
  have := a.trans b.symm
  rw [List.getD_eq_getElem?_getD, List.getD_eq_getElem?_getD, List.getElem?_eq_getElem h1, List.getElem?_eq_getElem h2] at this
  exact this
/-- the law of an order, its letters and what was told -/
theorem law_of (p : Pk ps k) {b m : Nat} (hb : b ≤ 4) (hm : m + (riL ps k).length + 1 = b) {t L : Dct} (d : DOk ps.length b t) (s : Srt L t) :
    okT (ps, k) b L = true ∧ maT (ps, k) b L = ((keM (fitM ps k b) t).length : Nat) ∧ (keM (fitM ps k b) t ≠ [] → spT (ps, k) b L = .tuple (spnM (keM (fitM ps k b) t) ps.length)) := by
  have ndL : (L.map (·.1)).Nodup := (s.pm.map _).nodup_iff.mpr d.nd
  have eX : nuL (ps, k) (mrg L) = nuL (ps, k) t := by
    rw [mrg_id ndL]
    exact nuL_congr fun j => getI_perm d.nd s.pm j
  have hm3 : m ≤ 3 := by omega
  have eM : (b : Int) - (riL (ps, k).1 (ps, k).2).length - 1 = (m : Int) := by
    show (b : Int) - (riL ps k).length - 1 = (m : Int)
    omega
  have hP := keM_perm p hb hm d
  have hC := List.all_eq_true.mp (ckR p.len hm3) _ (nuL_rows p hb hm d)
  have eE : enT (ps, k) b L = enO (nuL (ps, k) t) (m : Int) := by
    unfold enT
    rw [eX, eM]
  generalize hS : (seqsF m ps.length).filter (agr (nuL (ps, k) t)) = S at hP hC
  generalize hK : keM (fitM ps k b) t = Ke at hP ⊢
  have hl : Ke.length = S.length := by rw [← hP.length_eq, List.length_map]
  unfold chkR at hC
  unfold okT maT spT
  rw [eE, eX]
  cases hx : enO (nuL (ps, k) t) (m : Int) with
  | none =>
    rw [hx] at hC
    have z : S = [] := List.isEmpty_iff.mp hC
    have z' : Ke = [] := List.length_eq_zero_iff.mp (by rw [hl, z]; rfl)
    refine ⟨rfl, ?_, fun ne => absurd z' ne⟩
    rw [z']
    rfl
  | some q =>
    rw [hx] at hC
    simp only [Bool.and_eq_true] at hC
    obtain ⟨⟨⟨c1, c2⟩, c3⟩, c4⟩ := hC
    refine ⟨c1, ?_, fun ne => ?_⟩
    · show (maS (nuL (ps, k) t) q.1 q.2 ((nuL (ps, k) t).length + 1)).1 = _
      rw [of_decide_eq_true c2, hl]
    · show PyData.tuple (paD (rk ps) (spRow (ps, k) q)) = .tuple (spnM Ke ps.length)
      congr 1
      unfold paD spnM
      rw [rk_len]
      refine List.map_congr_left fun j hjm => ?_
      have hj := List.mem_range.mp hjm
      have hi := p.ri_lt j hj
      have w := List.all_eq_true.mp c4 (riN ps j) (List.mem_range.mpr hi)
      rw [Bool.and_eq_true] at w
      have w1 : q.1.getD (riN ps j) 0 = minL (colM S (riN ps j)) := of_decide_eq_true w.1
      have w2 : q.2.getD (riN ps j) 0 = maxL (colM S (riN ps j)) := of_decide_eq_true w.2
      have hp : (colM (Ke.map (phi ps k)) (riN ps j)).Perm (colM S (riN ps j)) := hP.map _
      have ne2 : colM (Ke.map (phi ps k)) (riN ps j) ≠ [] := fun e => by
        have := congrArg List.length e
        rw [col_len, List.length_map] at this
        exact ne (List.length_eq_zero_iff.mp this)
      show nthD (spRow (ps, k) q) (riN ps j) = spPair (minL (colM Ke j)) (maxL (colM Ke j))
      rw [col_phi p hj, minL_add ne2, maxL_add ne2, minL_perm hp ne2, maxL_perm hp ne2, ← w1, ← w2]
      refine nthD_of ?_
      unfold spRow
      rw [List.getElem?_map, List.getElem?_range hi]
      rfl
theorem agr_none : ∀ {x : List (Option Int)} {y : List Int}, x.length = y.length → (∀ e ∈ x, e = none) → agr x y = true
  | [], [], _, _ => rfl
  | [], _ :: _, h, _ => by cases h
  | _ :: _, [], h, _ => by cases h
  | o :: x, w :: y, h, g => by
    have e := g o List.mem_cons_self
    subst e
    show agr x y = true
    exact agr_none (Nat.succ.inj h) fun e he => g e (List.mem_cons_of_mem _ he)
end
theorem hPL : ∀ z, okCs z → PL z := fun ⟨ps, k, b⟩ ⟨h1, h2, h3⟩ => by
  replace h1 : pmOk ps := h1
  replace h2 : 1 + (stM ps k).length ≤ b := h2
  replace h3 : b ≤ 4 := h3
  have p := pk_of h1 k
  have sl := p.sl
  obtain ⟨m, hm⟩ : ∃ m, m + (riL ps k).length + 1 = b := ⟨b - 1 - (riL ps k).length, by omega⟩
  refine ⟨?_, fun t L d s => law_of p h3 hm d s⟩
  show okBd (ps, k) b = true
  have hm3 : m ≤ 3 := by omega
  have hl := p.len
  have c0 := List.all_eq_true.mp ckC ps.length (List.mem_range.mpr (by omega))
  rw [Bool.or_eq_true] at c0
  have c1 : (List.range 4).all (chkC ps.length) = true := by
    rcases c0 with z | z
    · have : ps.length = 0 := eq_of_beq z
      omega
    · exact z
  have c2 := List.all_eq_true.mp c1 m (List.mem_range.mpr (by omega))
  unfold chkC at c2
  rw [Bool.and_eq_true] at c2
  have c3 := of_decide_eq_true c2.1
  have c4 : seqsF m ps.length ≠ [] := fun e => by
    have := c2.2
    rw [e] at this
    cases this
  have eC : ctN (ps, k) b = ((seqsF m ps.length).length : Nat) := by
    rw [← c3]
    unfold ctN
    show chN (ps.length + (b - (riL ps k).length) - 1) ps.length = _
    congr 1
    omega
  have d0 : DOk ps.length b [] := ⟨fun _ h => (List.not_mem_nil h).elim, List.nodup_nil, Nat.zero_le _⟩
  have s0 : Srt [] [] := ⟨.nil, .nil⟩
  have eM : maT (ps, k) b [] = ((seqsF m ps.length).length : Nat) := by
    rw [(law_of p h3 hm d0 s0).2.1]
    have hP := keM_perm p h3 hm d0
    rw [← List.length_map (phi ps k), hP.length_eq]
    congr 2
    refine List.filter_eq_self.mpr fun y hy => agr_none ?_ fun e he => ?_
    · rw [nuL_len]
      exact (seqs_mem.mp hy).1.1.symm
    · unfold nuL at he
      obtain ⟨i, _, e1⟩ := List.mem_map.mp he
      rw [← e1]
      rfl
  unfold okBd okB
  rw [Bool.and_eq_true, Bool.and_eq_true]
  refine ⟨⟨pmOk_ps h1, decide_eq_true ⟨by show (riL ps k).length + 1 ≤ b; omega, h3⟩⟩, decide_eq_true ⟨?_, ?_⟩⟩
  · rw [eC]
    intro e
    exact c4 (List.length_eq_zero_iff.mp (by omega))
  · rw [eC, eM]
end Bo
set_option maxHeartbeats 4000000
/-! What the top leaves: the facts that the walk asks, read by a Hook. -/
namespace Bo.Hd
open PySem PySem.Spec L2 Bo
open He (ga ma fAd)
open PyProof.Rows hiding St
/-! ### getters of properties -/
structure Gt where
  c : Str
  f : Str
  q : Str
  st : Stmt
def gtp (K : PySem.W.Frag) (d : Gt) : Addr := match PySem.W.findIn K (.ref (ga K d.c)) d.f with
  | some (some (.ref p)) => p
  | _ => 0
def gtg (K : PySem.W.Frag) (d : Gt) : Addr := match PySem.W.recIn K (gtp K d) "property" with
  | some (.ref g :: _) => g
  | _ => 0
def funW (K : PySem.W.Frag) (a : Addr) : He.FnW := match K.lookup a with
  | some ⟨_, _, .func u, _⟩ => some (u.name, u.qualname, u.params, u.body, u.scope, u.globals, u.closure, u.builtins)
  | _ => none
def codB (K : PySem.W.Frag) (a : Addr) (q : Str) : Bool := match K.lookup a with
  | some ⟨_, _, .func u, _⟩ => (PySem.W.codeIn K u.code q && He.dflB K u.defaults [])
  | _ => false
def gtB (K : PySem.W.Frag) (d : Gt) : Bool :=
  He.eqO (PySem.W.findIn K (.ref (ga K d.c)) d.f) (some (some (.ref (gtp K d)))) && (He.eqO (PySem.W.specialIn K (.ref (gtp K d)) "__get__") (some (some (.builtin "property.__get__"))) && (decide (PySem.W.takesIn K (.ref (gtp K d)) = some true) &&
    ((match PySem.W.recIn K (gtp K d) "property" with | some (.ref g :: _) => decide (g = gtg K d) | _ => false) && codB K (gtg K d) d.q)))
def Gt.val (d : Gt) : He.FnW := some (d.f, d.q, C8.fnArgs d.st, .stmts (C8.fnBody d.st), C8.fnScope d.st, mainGlobals, [], builtinsNs)
theorem fun_of {K : PySem.W.Frag} {a : Addr} {x q : Str} {st : Stmt} (e : funW K a = some (x, q, C8.fnArgs st, .stmts (C8.fnBody st), C8.fnScope st, mainGlobals, [], builtinsNs)) (c : codB K a q = true) : ∃ fd, C8.Fun K x q st a fd ∧ fd.defaults = .none := by
  unfold codB at c
  unfold funW at e
  cases h : K.lookup a with
  | none =>
    rw [h] at c
    cases c
  | some o =>
    obtain ⟨oc, od, dt, osl⟩ := o
    rw [h] at c e
    cases dt with
    | func fd =>
      obtain ⟨a1, a2, a3, a4, a5, a6, a7, a8, a9, a10, a11, a12, a13, a14, a15⟩ := fd
      have e2 : (some (a1, a2, a3, a4, a5, a6, a7, a15) : He.FnW) = some (x, q, C8.fnArgs st, .stmts (C8.fnBody st), C8.fnScope st, mainGlobals, [], builtinsNs) := e
      simp only [Option.some.injEq, Prod.mk.injEq] at e2
      obtain ⟨r1, r2, r3, r4, r5, r6, r7, r8⟩ := e2
      subst r1 r2 r3 r4 r5 r6 r7 r8
      have c2 : (PySem.W.codeIn K a13 a2 && He.dflB K a8 []) = true := c
      obtain ⟨c3, c4⟩ := He.ba c2
      refine ⟨_, ⟨oc, od, a8, a9, a10, a11, a12, a13, a14, osl, rfl, h, c3⟩, ?_⟩
      rcases He.dflB_ok c4 with ⟨_, z⟩ | ⟨z, _⟩
      · exact z
      · exact (z rfl).elim
    | _ => cases c
theorem gt_of {K : PySem.W.Frag} {d : Gt} (e : funW K (gtg K d) = d.val) (c : gtB K d = true) : ∃ p g fd, PropOf K (ga K d.c) d.f p g ∧ C8.Fun K d.f d.q d.st g fd ∧ fd.defaults = .none := by
  obtain ⟨c1, c⟩ := He.ba c
  obtain ⟨c2, c⟩ := He.ba c
  obtain ⟨c3, c⟩ := He.ba c
  obtain ⟨c4, c5⟩ := He.ba c
  obtain ⟨fd, F, df⟩ := fun_of e c5
  refine ⟨_, _, fd, ⟨He.eqO_ok c1, He.eqO_ok c2, of_decide_eq_true c3, ?_⟩, F, df⟩
  split at c4
  · rename_i g r h
    rw [of_decide_eq_true c4] at h
    exact ⟨r, h⟩
  · cases c4
/-! ### classes -/
def insB (K : PySem.W.Frag) (C : Addr) : Bool := He.eqO (PySem.W.findIn K (.ref C) "__class__") (some (some (.builtin "object.__class__"))) && (He.eqO (PySem.W.specialIn K (.builtin "object.__class__") "__get__") (some (some (.builtin "getset_descriptor.__get__"))) &&
  (decide (PySem.W.takesIn K (.builtin "object.__class__") = some true) && (decide (PySem.W.mroIn K C (.type "object") = some true) && decide (PySem.W.kitOne K (.ref C) (.ref C) = some true))))
theorem insB_ok {K : PySem.W.Frag} {C : Addr} (c : Cls K C) (h : insB K C = true) : C8.InsC K C := by
  obtain ⟨h1, h⟩ := He.ba h
  obtain ⟨h2, h⟩ := He.ba h
  obtain ⟨h3, h⟩ := He.ba h
  obtain ⟨h4, h5⟩ := He.ba h
  exact ⟨c, He.eqO_ok h1, He.eqO_ok h2, of_decide_eq_true h3, of_decide_eq_true h4, of_decide_eq_true h5⟩
def clVB (K : PySem.W.Frag) (C : Addr) : Bool := match K.lookup C with
  | some ⟨.type t, _, .cls u, sl⟩ => decide (t = "type") && (match u.mro, sl.toList with
    | .ref D :: bm, [_, _, _, _, some (.builtin n), _] => decide (D = C) && (decide (n = "ValueError.__new__") && (!u.hasDel && (u.hasDict && PySem.HandSPX.refsVE bm)))
    | _, _ => false)
  | _ => false
theorem clVB_ok {K : PySem.W.Frag} {C : Addr} (h : clVB K C = true) : ∃ nm q N bs bm sn sub ab col dd k0 k1 k2 k3 k5, K.lookup C = some (excClassObj nm q C N bs bm true sn sub ab col dd k0 k1 k2 k3 k5 "ValueError.__new__") ∧ PySem.HandSPX.refsVE bm = true := by
  unfold clVB at h
  split at h
  · rename_i t dd u sl e
    obtain ⟨h1, h2⟩ := He.ba h
    split at h2
    · rename_i D bm k0 k1 k2 k3 n k5 em es
      obtain ⟨h3, h4⟩ := He.ba h2
      obtain ⟨h5, h6⟩ := He.ba h4
      obtain ⟨h7, h8⟩ := He.ba h6
      obtain ⟨h9, h10⟩ := He.ba h8
      obtain ⟨nm, bs, mro, N, q, hd, sn, sub, ab, col, del⟩ := u
      have et := of_decide_eq_true h1
      have eD := of_decide_eq_true h3
      have en := of_decide_eq_true h5
      have ed : del = false := by
        cases del
        · rfl
        · cases h7
      have eh : hd = true := h9
      dsimp only at em
      subst et eD en ed eh em
      obtain ⟨l⟩ := sl
      have el : l = [k0, k1, k2, k3, some (.builtin "ValueError.__new__"), k5] := es
      subst el
      exact ⟨nm, q, N, bs, bm, sn, sub, ab, col, dd, k0, k1, k2, k3, k5, e, h10⟩
    · cases h2
  · cases h
def oexB (K : PySem.W.Frag) (C : Addr) : Bool := clVB K C && (He.eqO (PySem.W.findIn K (.ref C) "__setattr__") (some (some (.builtin "object.__setattr__"))) && (decide (PySem.W.subIn K (.ref C) (.type "BaseException") = some true) && (decide (PySem.W.typeIn K (.ref C) = some (.type "type")) && PySem.W.keepIn K (.ref C))))
theorem oexB_ok {K : PySem.W.Frag} {C : Addr} (h : oexB K C = true) : OexC K C := by
  obtain ⟨h1, h⟩ := He.ba h
  obtain ⟨h2, h⟩ := He.ba h
  obtain ⟨h3, h⟩ := He.ba h
  obtain ⟨h4, h5⟩ := He.ba h
  exact ⟨clVB_ok h1, He.eqO_ok h2, of_decide_eq_true h3, of_decide_eq_true h4, h5⟩
/-- an own error without __init__, over ArithmeticError -/
def ariB (K : PySem.W.Frag) (C : Addr) : Bool := PySem.W.excIn K C [.type "ArithmeticError", .type "Exception", .type "BaseException", .type "object"] "ArithmeticError.__new__" && (PySem.W.keepIn K (.ref C) && (decide (PySem.W.subIn K (.ref C) (.type "BaseException") = some true) && decide (PySem.W.typeIn K (.ref C) = some (.type "type"))))
theorem ariB_ok {K : PySem.W.Frag} {C : Addr} (h : ariB K C = true) : PySem.W.excIn K C [.type "ArithmeticError", .type "Exception", .type "BaseException", .type "object"] "ArithmeticError.__new__" = true ∧ PySem.W.keepIn K (.ref C) = true ∧ PySem.W.subIn K (.ref C) (.type "BaseException") = some true ∧ PySem.W.typeIn K (.ref C) = some (.type "type") := by
  obtain ⟨h1, h⟩ := He.ba h
  obtain ⟨h2, h⟩ := He.ba h
  obtain ⟨h3, h4⟩ := He.ba h
  exact ⟨h1, h2, of_decide_eq_true h3, of_decide_eq_true h4⟩
/-! ### this program's -/
def ds : List (Str × Nat) := [("is_integer", 13), ("is_between", 14), ("check_place", 15), ("check_letters", 16), ("check_kind", 19), ("check_places", 20), ("ranks_of", 21), ("next_rank", 22), ("rises_of", 23), ("check_order", 25), ("put_along", 26), ("rises_before", 27), ("choose", 29), ("rows_over", 30), ("width", 31), ("count_texts", 32), ("numbers_told", 34), ("ends_told", 35), ("many_told", 36), ("spans_told", 37)]
def ds2 : List (Str × Nat) := [("_law_jug", 41), ("_law_swig", 42), ("_law_one", 43), ("_law_shuffled", 44), ("_law_sorts", 45), ("_law_ends", 46), ("_law_spots", 47), ("_law_after", 48), ("_law_steep", 49), ("_law_drawn_spots", 50), ("_law_every_line", 51), ("_law_fitting", 52), ("_law_keeping", 53), ("_law_spans", 54), ("_law_board_tells", 55), ("_law_board_case", 56), ("_law_board_deed", 57), ("_law_board_caught", 58), ("_law_board_do", 59), ("_law_board_did", 60), ("_law_right", 61), ("law", 62)]
def dfs : List (Str × Nat) := ds ++ ds2
def dfn (p : Str × Nat) : He.DefD := ⟨(p.1, none), p.1, p.1, C8.fnArgs (top p.2), C8.fnBody (top p.2), C8.fnScope (top p.2), [], []⟩
def dme (C m q : Str) (i j : Nat) : He.DefD := ⟨(C, some m), m, q, C8.fnArgs (clsItem i j), C8.fnBody (clsItem i j), C8.fnScope (clsItem i j), [], []⟩
def mes : List He.DefD := [dme "Order" "__init__" "Order.__init__" 24 0, dme "Board" "__init__" "Board.__init__" 39 0, dme "Board" "become" "Board.become" 39 6, dme "Board" "put" "Board.put" 39 7, dme "Board" "drop" "Board.drop" 39 8, dme "Board" "undo" "Board.undo" 39 9, dme "InvalidNumber" "__init__" "InvalidNumber.__init__" 4 0]
def fns : List He.DefD := mes ++ dfs.map dfn
def fas : List He.Fa := [.glo "Order", .glo "Board", .glo "InvalidNumber", .glo "NoText", .glo "NothingToUndo", .glo "KINDS", .cls "Order", .cls "Board", .mkr "Order", .mkr "Board",
  .meth "Board" "become", .meth "Board" "put", .meth "Board" "drop", .meth "Board" "undo", .noat "Order" "row", .noat "Order" "style", .noat "Order" "standing", .noat "Order" "steep", .noat "Board" "base", .noat "Board" "below", .noat "Board" "held", .noat "InvalidNumber" "given",
  .int "MOST_LETTER" (10 ^ 18), .int "MOST_PLACES" 60, .exm "InvalidNumber" "InvalidNumber" true, .exm "NoText" "InvalidNumber" false, .exm "NoText" "NoText" true, .exm "NothingToUndo" "InvalidNumber" false, .exm "NothingToUndo" "NoText" false, .exm "NothingToUndo" "NothingToUndo" true]
def frs : List Str := ["len", "isinstance", "int", "bool", "str", "tuple", "list", "dict", "range", "enumerate", "zip", "min", "max", "all", "abs", "sorted", "repr", "divmod"]
def fall : List He.Fa := fas ++ (dfs.map fun p => He.Fa.glo p.1) ++ frs.map He.Fa.free
def gts : List Gt := [⟨"Board", "facts", "Board.facts", clsItem 39 2⟩, ⟨"Board", "many", "Board.many", clsItem 39 3⟩, ⟨"Board", "spans", "Board.spans", clsItem 39 4⟩, ⟨"Board", "changes", "Board.changes", clsItem 39 5⟩]
def tfs : List He.Defn := [("_law_board_did", none)]
def more (K : PySem.W.Frag) : Bool := He.tupB K "KINDS" [.str "first", .str "last", .str "ring"] && (insB K (ga K "Order") && (insB K (ga K "Board") && (oexB K (ga K "InvalidNumber") && (xfB K (ga K "InvalidNumber") &&
  (He.eqO (PySem.W.findIn K (.ref (ga K "InvalidNumber")) "__init__") (some (some (.ref (ma K (ga K "InvalidNumber") "__init__")))) && (decide (PySem.W.typeIn K (.ref (ma K (ga K "InvalidNumber") "__init__")) = some (.type "function")) &&
  (ariB K (ga K "NoText") && (ariB K (ga K "NothingToUndo") && gts.all (gtB K)))))))))
abbrev AlY : Type := He.AlX × List He.FnW
def part (g : Addr → Option Obj) : PySem.W.Frag := He.frT g (He.asD g 6)
def obsY (g : Addr → Option Obj) : AlY := (He.obsX 6 fall fns [] tfs more g, gts.map fun d => funW (part g) (gtg (part g) d))
def valY (w : World) : AlY := (He.valX fns [] w, gts.map Gt.val)
structure Says (w : World) (g : Heap) (K : PySem.W.Frag) : Prop where
  x : He.SaysX fall fns [] tfs more w g K
  p : (gts.map fun d => funW K (gtg K d)) = gts.map Gt.val
def hk : PySem.W.Hook where
  α := AlY
  obs := fun s => obsY s.heap.get?
  val := valY
  says := fun w g => ∃ K : PySem.W.Frag, K.In g ∧ Says w g K
  of := fun w s e => ⟨part s.heap.get?, He.frT_in, He.saysX_of (congrArg (fun z : AlY => z.1) e), congrArg (fun z : AlY => z.2) e⟩
  keeps := fun w g g' ⟨K, hK, ⟨c, p⟩⟩ k => ⟨K, PySem.W.Frag.In.keeps hK k, ⟨c.t, c.more, c.hd, c.out, fun t ht => k _ _ (c.empty t ht)⟩, p⟩
def ob (s : PySem.W.SharedT) : AlY := obsY (HandSHeadRun.getT s)
theorem ob_eq (s : PySem.W.SharedT) : ob s = hk.obs s.abs := by
  have e : HandSHeadRun.getT s = s.abs.heap.get? := funext (HandSHeadRun.getT_eq s)
  show obsY (HandSHeadRun.getT s) = obsY s.abs.heap.get?
  rw [e]
end Bo.Hd
set_option maxHeartbeats 4000000
/-! From the head's facts to the promise of law. -/
namespace Bo.Hd
open PySem PySem.Spec L2 Bo
open He (ga ma fAd)
open PyProof.Rows hiding St
section
variable {P : Program} {w : World} {K : PySem.W.Frag} {mg : Str → Option Value} {g base : Heap}
theorem Says.fa_ (c : Says w g K) (i : Nat) {f : He.Fa} (h : fas[i]? = some f := by rfl) : f.ok K = true := He.SaysD.facts c.x.t.d (List.mem_append_left _ (List.mem_append_left _ (List.mem_of_getElem? h)))
theorem Says.fr_ (c : Says w g K) (X : K.In g) (G : g.Ns mainGlobals mg) (i : Nat) {x : Str} (h : frs[i]? = some x := by rfl) : mg x = none := He.free_ok X G (He.SaysD.facts c.x.t.d (List.mem_append_right _ (List.mem_map.mpr ⟨x, List.mem_of_getElem? h, rfl⟩)))
theorem Says.glo_ (c : Says w g K) (X : K.In g) (G : g.Ns mainGlobals mg) {i : Nat} {p : Str × Nat} (h : dfs[i]? = some p) : mg p.1 = some (.ref (ga K p.1)) := He.glo_ok X G (He.SaysD.facts c.x.t.d (List.mem_append_left _ (List.mem_append_right _ (List.mem_map.mpr ⟨p, List.mem_of_getElem? h, rfl⟩))))
theorem fun_d {x q : Str} {st : Stmt} {f : Addr} {fd : FuncData} (F : FunD K x q (C8.fnArgs st) (C8.fnBody st) (C8.fnScope st) [] [] f fd) : C8.Fun K x q st f fd ∧ fd.defaults = .none := by
  obtain ⟨oc, od, dV, kV, doc, pm, an, cdv, ct, osl, e, lk, hc, dv, _⟩ := F.ex
  refine ⟨⟨oc, od, dV, kV, doc, pm, an, cdv, ct, osl, e, lk, hc⟩, ?_⟩
  subst e
  rcases dv with ⟨_, z⟩ | ⟨z, _⟩
  · exact z
  · exact (z rfl).elim
theorem Says.def_ (c : Says w g K) {i : Nat} {p : Str × Nat} (h : dfs[i]? = some p) : ∃ fd, FunD K p.1 p.1 (C8.fnArgs (top p.2)) (C8.fnBody (top p.2)) (C8.fnScope (top p.2)) [] [] (ga K p.1) fd :=
  He.SaysD.defs (d := dfn p) c.x.t.d (List.mem_append_right _ (List.mem_map.mpr ⟨p, List.mem_of_getElem? h, rfl⟩))
theorem Says.df (c : Says w g K) (X : K.In g) (G : g.Ns mainGlobals mg) (i : Nat) (x : Str) (j : Nat) (h : dfs[i]? = some (x, j) := by rfl) : Df K mg x (top j) := by
  obtain ⟨fd, F⟩ := c.def_ h
  obtain ⟨F1, df⟩ := fun_d F
  exact ⟨_, fd, ⟨F1, c.glo_ X G h, F.kp⟩, df⟩
theorem Says.dfc (c : Says w g K) (X : K.In g) (G : g.Ns mainGlobals mg) (i : Nat) (x : Str) (j : Nat) (h : dfs[i]? = some (x, j) := by rfl) : DfC K mg x (top j) (He.codeOf K (x, none)) := by
  obtain ⟨fd, F⟩ := c.def_ h
  obtain ⟨F1, df⟩ := fun_d F
  obtain ⟨oc, od, dV, kV, doc, pm, an, cdv, ct, osl, e, lk, hc⟩ := F1.ex
  obtain ⟨a, ea⟩ := He.codeIn_ref hc
  subst ea e
  have e2 : He.codeOf K (x, none) = a := He.codeOf_eq lk rfl
  have e3 : dV = .none := df
  subst e2 e3
  exact ⟨_, oc, od, kV, doc, pm, an, ct, osl, lk, hc, c.glo_ X G h, F.kp⟩
theorem Says.me (c : Says w g K) (i : Nat) (C m q : Str) (j k : Nat) (h : mes[i]? = some (dme C m q j k) := by rfl) : ∃ fd, C8.Fun K m q (clsItem j k) (ma K (ga K C) m) fd ∧ fd.defaults = .none := by
  obtain ⟨fd, F⟩ := He.SaysD.defs (d := dme C m q j k) c.x.t.d (List.mem_append_left _ (List.mem_of_getElem? h))
  exact ⟨fd, fun_d F⟩
theorem Says.pr (c : Says w g K) (hb : gts.all (gtB K) = true) (i : Nat) (d : Gt) (h : gts[i]? = some d := by rfl) : ∃ p u fd, PropOf K (ga K d.c) d.f p u ∧ C8.Fun K d.f d.q d.st u fd ∧ fd.defaults = .none := by
  have e : (gts.map fun d => funW K (gtg K d))[i]? = (gts.map Gt.val)[i]? := by rw [c.p]
  rw [List.getElem?_map, List.getElem?_map, h] at e
  exact gt_of (Option.some.inj e) (List.all_eq_true.mp hb d (List.mem_of_getElem? h))
theorem law_facts (X : K.In g) (G : g.Ns mainGlobals mg) (c : Says w g K) : LawG P w mg 12 g := by
  obtain ⟨m1, m⟩ := He.ba c.x.more
  obtain ⟨m2, m⟩ := He.ba m
  obtain ⟨m3, m⟩ := He.ba m
  obtain ⟨m4, m⟩ := He.ba m
  obtain ⟨m5, m⟩ := He.ba m
  obtain ⟨m6, m⟩ := He.ba m
  obtain ⟨m7, m⟩ := He.ba m
  obtain ⟨m8, m⟩ := He.ba m
  obtain ⟨m9, m10⟩ := He.ba m
  have cO := He.cls_ok (c.fa_ 6 (f := .cls "Order"))
  have cB := He.cls_ok (c.fa_ 7 (f := .cls "Board"))
  have M : Md K mg := {
    len := c.fr_ X G 0, isi := c.fr_ X G 1, int_ := c.fr_ X G 2, bool_ := c.fr_ X G 3, str_ := c.fr_ X G 4, tuple_ := c.fr_ X G 5, list_ := c.fr_ X G 6, dict_ := c.fr_ X G 7, range_ := c.fr_ X G 8, enum := c.fr_ X G 9, zip_ := c.fr_ X G 10, min_ := c.fr_ X G 11, max_ := c.fr_ X G 12, all_ := c.fr_ X G 13,
    abs_ := c.fr_ X G 14, sorted_ := c.fr_ X G 15, repr_ := c.fr_ X G 16, divmod_ := c.fr_ X G 17,
    mostL := He.int_ok X G (c.fa_ 22 (f := .int "MOST_LETTER" (10 ^ 18))), mostP := He.int_ok X G (c.fa_ 23 (f := .int "MOST_PLACES" 60)),
    kinds := ⟨_, He.glo_ok X G (c.fa_ 5 (f := .glo "KINDS")), fun H => He.tupB_ok m1 H⟩ }
  have O : OrdC K mg (ga K "Order") := ⟨insB_ok cO m2, He.glo_ok X G (c.fa_ 0 (f := .glo "Order")), He.noat_ok (c.fa_ 14 (f := .noat "Order" "row")), He.noat_ok (c.fa_ 15 (f := .noat "Order" "style")), He.noat_ok (c.fa_ 16 (f := .noat "Order" "standing")), He.noat_ok (c.fa_ 17 (f := .noat "Order" "steep"))⟩
  have B : BrdC K mg (ga K "Board") := ⟨insB_ok cB m3, He.glo_ok X G (c.fa_ 1 (f := .glo "Board")), He.noat_ok (c.fa_ 18 (f := .noat "Board" "base")), He.noat_ok (c.fa_ 19 (f := .noat "Board" "below")), He.noat_ok (c.fa_ 20 (f := .noat "Board" "held"))⟩
  have mkO : Mk K (ga K "Order") (ma K (ga K "Order") "__init__") := He.mkr_ok (c.fa_ 8 (f := .mkr "Order"))
  have mkB : Mk K (ga K "Board") (ma K (ga K "Board") "__init__") := He.mkr_ok (c.fa_ 9 (f := .mkr "Board"))
  have mBec := He.meth_ok (c.fa_ 10 (f := .meth "Board" "become"))
  have mPut := He.meth_ok (c.fa_ 11 (f := .meth "Board" "put"))
  have mDrp := He.meth_ok (c.fa_ 12 (f := .meth "Board" "drop"))
  have mUnd := He.meth_ok (c.fa_ 13 (f := .meth "Board" "undo"))
  obtain ⟨f0, F0, d0⟩ := c.me 0 "Order" "__init__" "Order.__init__" 24 0
  obtain ⟨f1, F1, d1⟩ := c.me 1 "Board" "__init__" "Board.__init__" 39 0
  obtain ⟨f2, F2, d2⟩ := c.me 2 "Board" "become" "Board.become" 39 6
  obtain ⟨f3, F3, d3⟩ := c.me 3 "Board" "put" "Board.put" 39 7
  obtain ⟨f4, F4, d4⟩ := c.me 4 "Board" "drop" "Board.drop" 39 8
  obtain ⟨f5, F5, d5⟩ := c.me 5 "Board" "undo" "Board.undo" 39 9
  obtain ⟨f6, F6, d6⟩ := c.me 6 "InvalidNumber" "__init__" "InvalidNumber.__init__" 4 0
  obtain ⟨a1, a2, a3, a4⟩ := ariB_ok m8
  obtain ⟨b1, b2, b3, b4⟩ := ariB_ok m9
  have EC : ErrC K mg (ga K "InvalidNumber") (ga K "NoText") (ga K "NothingToUndo") := {
    oex := oexB_ok m4, init := ⟨_, f6, He.eqO_ok m6, of_decide_eq_true m7, d6, F6⟩, mgI := He.glo_ok X G (c.fa_ 2 (f := .glo "InvalidNumber")), noG := He.noat_ok (c.fa_ 21 (f := .noat "InvalidNumber" "given")), xf := xfB_ok m5,
    exN := a1, mgN := He.glo_ok X G (c.fa_ 3 (f := .glo "NoText")), kN := a2, bN := a3, tN := a4, exU := b1, mgU := He.glo_ok X G (c.fa_ 4 (f := .glo "NothingToUndo")), kU := b2, bU := b3, tU := b4,
    mII := He.exm_ok (c.fa_ 24 (f := .exm "InvalidNumber" "InvalidNumber" true)), mNI := He.exm_ok (c.fa_ 25 (f := .exm "NoText" "InvalidNumber" false)), mNN := He.exm_ok (c.fa_ 26 (f := .exm "NoText" "NoText" true)),
    mUI := He.exm_ok (c.fa_ 27 (f := .exm "NothingToUndo" "InvalidNumber" false)), mUN := He.exm_ok (c.fa_ 28 (f := .exm "NothingToUndo" "NoText" false)), mUU := He.exm_ok (c.fa_ 29 (f := .exm "NothingToUndo" "NothingToUndo" true)) }
  obtain ⟨p0, u0, g0, P0, U0, e0⟩ := c.pr m10 0 ⟨"Board", "facts", "Board.facts", clsItem 39 2⟩
  obtain ⟨p1, u1, g1, P1, U1, e1⟩ := c.pr m10 1 ⟨"Board", "many", "Board.many", clsItem 39 3⟩
  obtain ⟨p2, u2, g2, P2, U2, e2⟩ := c.pr m10 2 ⟨"Board", "spans", "Board.spans", clsItem 39 4⟩
  obtain ⟨p3, u3, g3, P3, U3, e3⟩ := c.pr m10 3 ⟨"Board", "changes", "Board.changes", clsItem 39 5⟩
  obtain ⟨fdo, FD⟩ := c.def_ (i := 38) (p := ("_law_board_do", 59)) rfl
  obtain ⟨FDo, ddo⟩ := fun_d FD
  refine ⟨K, (He.cT K ("_law_board_did", none)).1, (He.cT K ("_law_board_did", none)).2, X, c.x.empty _ (List.mem_singleton.mpr rfl), c.x.out _ (List.mem_singleton.mpr rfl), PySem.W.codeHd_of_K X (c.x.hd _ (List.mem_singleton.mpr rfl)), fun base KB NB TB => ?_⟩
  have q_int := c_is_integer (P := P) (w := w) (base := base) (c.df X G 0 "is_integer" 13) M.toBt
  have q_btw := c_is_between (c.df X G 1 "is_between" 14) q_int
  have q_plc := c_check_place (c.df X G 2 "check_place" 15) q_btw
  have q_let := c_check_letters (c.df X G 3 "check_letters" 16) M q_btw
  have q_knd := c_check_kind (P := P) (w := w) (base := base) (c.df X G 4 "check_kind" 19) M
  have q_pls := c_check_places (c.df X G 5 "check_places" 20) M q_btw
  have q_rks := c_ranks_of (P := P) (w := w) (base := base) (c.df X G 6 "ranks_of" 21) M
  have q_nxt := c_next_rank (P := P) (w := w) (base := base) (c.df X G 7 "next_rank" 22) M
  have q_ris := c_rises_of (c.df X G 8 "rises_of" 23) M q_rks q_nxt
  have q_ord := c_ord_init O mkO F0 d0 q_pls q_knd q_rks q_ris
  have q_cho := c_check_order (P := P) (w := w) (base := base) (c.df X G 9 "check_order" 25) M O
  have q_pal := c_put_along (P := P) (w := w) (base := base) (c.df X G 10 "put_along" 26) M O
  have q_rbf := c_rises_before (P := P) (w := w) (base := base) (c.df X G 11 "rises_before" 27) M O
  have q_chs := c_choose (P := P) (w := w) (base := base) (c.df X G 12 "choose" 29) M
  have q_row := c_rows_over (c.df X G 13 "rows_over" 30) q_chs
  have q_wid := c_width (P := P) (w := w) (base := base) (c.df X G 14 "width" 31) M O
  have q_cnt := c_count_texts (c.df X G 15 "count_texts" 32) M O q_cho q_let q_row q_wid
  have q_num := c_numbers_told (c.df X G 16 "numbers_told" 34) M O q_rbf
  have q_end := c_ends_told (c.df X G 17 "ends_told" 35) M O q_num q_wid
  have q_mny := c_many_told (c.df X G 18 "many_told" 36) M O q_num q_end q_chs
  have q_spn := c_spans_told (c.df X G 19 "spans_told" 37) M O q_end q_rbf q_pal
  have q_brd := c_brd_init B mkB F1 d1 q_cnt q_spn
  have q_bec := c_become B EC mBec F2 d2 q_mny q_spn
  have q_put := c_put B O M EC mPut F3 d3 q_plc q_btw q_bec
  have k_put := k_put B O M EC mPut F3 d3 q_plc q_btw q_bec
  have q_drp := c_drop B M EC mDrp F4 d4 q_bec
  have k_drp := k_drop B M EC mDrp F4 d4 q_bec
  have q_und := c_undo (CO := ga K "Order") (P := P) (w := w) (base := base) B EC mUnd F5 d5
  have r_fac := c_facts (CO := ga K "Order") (P := P) (w := w) (base := base) B P0 U0 e0
  have r_mny := c_manyP (CO := ga K "Order") (P := P) (w := w) (base := base) B P1 U1 e1
  have r_spn := c_spansP (CO := ga K "Order") (P := P) (w := w) (base := base) B P2 U2 e2
  have r_chg := c_changes (CO := ga K "Order") (P := P) (w := w) (base := base) B P3 U3 e3
  have l_jug := c_jug (P := P) (w := w) (base := base) (c.df X G 20 "_law_jug" 41) M
  have l_swg := c_swig (P := P) (w := w) (base := base) (c.df X G 21 "_law_swig" 42) M
  have l_one := c_one (c.df X G 22 "_law_one" 43) M l_swg
  have l_shf := c_shuf (c.df X G 23 "_law_shuffled" 44) M l_swg
  have l_srt := c_sorts (P := P) (w := w) (base := base) (c.df X G 24 "_law_sorts" 45)
  have l_end := c_lends (P := P) (w := w) (base := base) (c.df X G 25 "_law_ends" 46) M
  have l_spt := c_lspots (c.df X G 26 "_law_spots" 47) M l_end
  have l_aft := c_after (P := P) (w := w) (base := base) (c.df X G 27 "_law_after" 48) M
  have l_stp := c_steep (c.df X G 28 "_law_steep" 49) M l_aft
  have l_drw := c_drawn (c.df X G 29 "_law_drawn_spots" 50) M l_swg l_shf
  have l_evr := c_every (P := P) (w := w) (base := base) (c.df X G 30 "_law_every_line" 51) M
  have l_fit := c_fit (c.df X G 31 "_law_fitting" 52) M l_evr l_spt
  have l_kep := c_keep (P := P) (w := w) (base := base) (c.df X G 32 "_law_keeping" 53) M
  have l_spn := c_spn (P := P) (w := w) (base := base) (c.df X G 33 "_law_spans" 54) M
  have l_tls := c_tells (c.dfc X G 34 "_law_board_tells" 55) M l_kep l_spn r_fac r_mny r_spn r_chg
  have l_cas := c_case (c.df X G 35 "_law_board_case" 56) M l_swg l_drw l_one l_srt l_stp l_fit
  have l_dee := c_deed (c.df X G 36 "_law_board_deed" 57) M l_swg l_one
  have l_do : CalX P w K mg base 7 "_law_board_do" (spDo K (ga K "Order") (ga K "Board") (ga K "InvalidNumber") (ga K "NoText") (ga K "NothingToUndo")) := ⟨_, fdo, _, f_do FDo q_und q_drp k_drp q_put k_put, c.glo_ X G (i := 38) (p := ("_law_board_do", 59)) rfl, FD.kp, FDo.binds ddo fun _ _ _ _ _ _ us hl => match us, hl with | [_, _, _], _ => rfl⟩
  have l_did := c_did (c.dfc X G 39 "_law_board_did" 60) TB M EC (c.df X G 37 "_law_board_caught" 58) l_do l_kep
  have l_rgt := c_right (c.dfc X G 40 "_law_right" 61) M hPL l_cas q_ord q_brd l_dee l_swg l_one l_did l_tls
  exact c_law (c.dfc X G 41 "law" 62) M l_jug l_rgt
end
end Bo.Hd
set_option maxHeartbeats 0
/-! The run of the top. -/
namespace Bo.Hd
open PySem PySem.W PySem.Calls PyProof.Rows
abbrev RR : OpenRow := OpenLaw.row PySem.Challenge.rw_endorders_k54_whole_boards_taken_back
def na1 : List PySem.Str := ["_wall", "__name__", "WrongValue", "InvalidKind", "InvalidNumber", "NotAnOrder", "InvalidPlaces", "NoAnswer", "NoText", "NothingToUndo", "MOST_PLACES", "MOST_LETTER", "is_integer", "is_between", "check_place", "check_letters", "KINDS", "check_kind", "check_places", "ranks_of", "next_rank", "rises_of", "Order", "check_order", "put_along", "rises_before", "choose", "rows_over", "width"]
def na2 : List PySem.Str := ["count_texts", "numbers_told", "ends_told", "many_told", "spans_told", "Board", "_law_jug", "_law_swig", "_law_one", "_law_shuffled", "_law_sorts", "_law_ends", "_law_spots", "_law_after", "_law_steep", "_law_drawn_spots", "_law_every_line", "_law_fitting", "_law_keeping", "_law_spans", "_law_board_tells", "_law_board_case", "_law_board_deed", "_law_board_caught", "_law_board_do", "_law_board_did", "_law_right"]
def names : List PySem.Str := na1 ++ na2
theorem run (w : World) : HandSHeadRun.RunEq RR (view RR.prog [62]) hk ob 6000 names w := by
  intro os
  kernel_rfl
end Bo.Hd
set_option maxHeartbeats 0
open PySem PySem.W PySem.Calls PyProof.Rows
theorem PySem.Challenge.cw_endorders_k54_whole_boards_taken_back_holds : PySem.Challenge.rw_endorders_k54_whole_boards_taken_back.Holds := by
  w_on; o_law
  refine HandSHeadRun.head_any (r := Bo.Hd.RR) (q := view Bo.Hd.RR.prog [62]) (H := Bo.Hd.hk) (ob := Bo.Hd.ob) (M := 6000) (loose := Bo.Hd.names) (d := HandSHeadRun.topDef Bo.Hd.RR.prog 62) (kwd := []) Bo.Hd.ob_eq
    (by kernel_rfl) (fun s => by kernel_rfl) Bo.Hd.run (by kernel_rfl) (by kernel_rfl) (by kernel_rfl) (by rfl) (by first | assumption | decide +kernel) (by decide +kernel) ⟨rfl, rfl, rfl, rfl, rfl, by decide +kernel⟩ ?hw ?hc
  case hw => w_witness2
  case hc =>
    refine Bo.walk_G (l := PySem.Challenge.rw_endorders_k54_whole_boards_taken_back) (k := 12) rfl (by kernel_rfl) ⟨rfl, by decide, by decide⟩ (by kernel_rfl) fun w mg g Y G => ?_
    obtain ⟨K, X, c⟩ := Y
    exact Bo.Hd.law_facts X G c

import PyProof.Rows.All
import Wide.All
import OpenK.AllK
import Wide.FinOn
import HandS.ForMost
import HandS.Codes
import HandS.TupAny
import KE.GoesEnum
import HandS.Walk
import HandS.Defaults
import HandS.DictComp
import HandS.TupLen
import HandS.Strs
import HandS.SetFor
import HandS.SetBool
import HandS.Lambda
import HandS.Nested
import KE.DataMinMax
import KE.SortData
import HandS.TupSets
import HandS.Conv
import KE.KDictKeyed
import HandS.IsInst
import HandS.Style
import HandS.Small
import KE.KDictDisplayH
import HandS.Deep
import KE.KStateDown
import HandS.Head0
import HandS.Head1
import HandS.Head2
import HandS.HeadHook1
import HandS.HeadHook2
import HandS.HeadHook3
import HandS.HeadHook4
import HandS.HeadWalk
import HandS.EndTab
import HandS.NestedK
import PySem.Challenge.RW_hiddenforks_k29_whole_short_and_long
set_option Elab.async false
set_option maxRecDepth 100000
namespace K29
open PySem L2
def top (i : Nat) : Stmt := PySem.Challenge.pw_hiddenforks_k29_whole_short_and_long.main.body.getD i (.Pass ⟨0, 0, 0, 0⟩)
abbrev s_as_tuples : Stmt := top 2
abbrev s_events_of : Stmt := top 12
abbrev s_looks : Stmt := top 13
abbrev s_adds : Stmt := top 14
abbrev s_B_init : Stmt := inClass (top 18) 0
abbrev s_B_many : Stmt := inClass (top 18) 1
abbrev s_B_is_alike : Stmt := inClass (top 18) 2
abbrev s_B_is_below : Stmt := inClass (top 18) 3
abbrev s_B_bind : Stmt := inClass (top 18) 6
abbrev s_B_lower : Stmt := inClass (top 18) 7
abbrev s_B_go_through : Stmt := inClass (top 18) 8
abbrev s_B_looked : Stmt := inClass (top 18) 9
abbrev s_B_compared : Stmt := inClass (top 18) 10
abbrev s_B_is_late : Stmt := inClass (top 18) 11
abbrev s_B_close : Stmt := inClass (top 18) 12
abbrev s_B_rules : Stmt := inClass (top 18) 13
abbrev s_check_look : Stmt := top 19
abbrev s_check_looks : Stmt := top 20
abbrev s_choices : Stmt := top 22
abbrev s_has_all : Stmt := top 23
abbrev s_least_enough : Stmt := top 24
abbrev s_hits : Stmt := top 25
abbrev s_least_hit : Stmt := top 26
abbrev s_is_with : Stmt := top 28
abbrev s_meetings_of : Stmt := top 29
abbrev s_C_init : Stmt := inClass (top 30) 0
abbrev s_C_timetable : Stmt := inClass (top 30) 1
abbrev s_C_meetings : Stmt := inClass (top 30) 2
abbrev s_C_lookers : Stmt := inClass (top 30) 3
abbrev s_C_others : Stmt := inClass (top 30) 4
abbrev s_C_bonds : Stmt := inClass (top 30) 5
abbrev s_C_hides : Stmt := inClass (top 30) 6
abbrev s_C_nets : Stmt := inClass (top 30) 7
abbrev s_C_circles : Stmt := inClass (top 30) 8
abbrev s_chances_of : Stmt := top 31
abbrev s_nets : Stmt := top 32
abbrev s_circles : Stmt := top 33
abbrev s_least_lost : Stmt := top 34
abbrev s_least_with : Stmt := top 35
abbrev s_frontier : Stmt := top 36
abbrev s_fragile : Stmt := top 37
abbrev s_law_box : Stmt := top 39
abbrev s_law_take : Stmt := top 40
abbrev s_law_of : Stmt := top 41
abbrev s_law_event : Stmt := top 42
abbrev s_law_table : Stmt := top 43
abbrev s_law_spots : Stmt := top 44
abbrev s_law_had : Stmt := top 45
abbrev s_law_bound : Stmt := top 46
abbrev s_law_two : Stmt := top 47
abbrev s_law_inside : Stmt := top 48
abbrev s_law_right : Stmt := top 49
abbrev s_law : Stmt := top 50
end K29
set_option Elab.async false
set_option linter.all false
set_option maxRecDepth 100000
set_option maxHeartbeats 4000000
/-! one step at a time: what is wanted behind a piece of the text, at a state -/
namespace K29
open PySem L2
/-! ### wishes -/
def We (X : Cx) (e : Expr) (σ : L2.St) (H : Hp) (Q : VK) : Prop := ∀ (pins : List (Addr × Obj)) (s : Shared), Inv X pins σ H s → wpAny (model X.prog X.w) X.A (eval e X.env) (EP X pins σ Q) X.xe s
def Wt (X : Cx) (e : Expr) (σ : L2.St) (H : Hp) (Q : Bool → Hp → Prop) : Prop := ∀ (pins : List (Addr × Obj)) (s : Shared), Inv X pins σ H s → wpAny (model X.prog X.w) X.A (isTrue e X.env (eval e X.env)) (TP X pins σ Q) X.xe s
def Wa (X : Cx) (es : List Expr) (σ : L2.St) (H : Hp) (Q : List V → Hp → Prop) : Prop := ∀ (pos : Pos) (pins : List (Addr × Obj)) (s : Shared), Inv X pins σ H s → wpAny (model X.prog X.w) X.A (spliced (backTo pos (starEach es X.env))) (AP X pins σ Q) X.xe s
def W1 (X : Cx) (st : Stmt) (D : Ends) (σ : L2.St) (H : Hp) : Prop := ∀ (pins : List (Addr × Obj)) (s : Shared), Inv X pins σ H s → wpAny (model X.prog X.w) X.A (exec st X.env) (SP X pins D) X.xe s
def Wb (X : Cx) (sts : List Stmt) (D : Ends) (σ : L2.St) (H : Hp) : Prop := ∀ (pins : List (Addr × Obj)) (s : Shared), Inv X pins σ H s → wpAny (model X.prog X.w) X.A (execs sts X.env) (SP X pins D) X.xe s
def Wg (X : Cx) (tg : Expr) (v : V) (σ : L2.St) (H : Hp) (Q : L2.St → Hp → Prop) : Prop := ∀ (pins : List (Addr × Obj)) (s : Shared) (u : Value), Inv X pins σ H s → RelV v u → wpAny (model X.prog X.w) X.A (assign tg X.env u) (fun _ s' => ∃ σ' H', Inv X pins σ' H' s' ∧ Q σ' H') X.xe s
def Wgs (X : Cx) (ts : List Expr) (vs : List V) (σ : L2.St) (H : Hp) (Q : L2.St → Hp → Prop) : Prop := ∀ (pins : List (Addr × Obj)) (s : Shared) (us : List Value), Inv X pins σ H s → Vals vs us → wpAny (model X.prog X.w) X.A (assignInOrder ((assignEach ts X.env).map (·.2)) us) (fun _ s' => ∃ σ' H', Inv X pins σ' H' s' ∧ Q σ' H') X.xe s
def Wi (X : Cx) (tg it : Expr) (σ : L2.St) (H : Hp) (R : It → Hp → Prop) : Prop := ∀ (pins : List (Addr × Obj)) (s : Shared), Inv X pins σ H s → wpAny (model X.prog X.w) X.A (eval it X.env) (fun v s1 => wpAny (model X.prog X.w) X.A (pyIter v) (PIE X pins σ tg R) X.xe s1) X.xe s
section
variable {X : Cx} {e : Expr} {es : List Expr} {st : Stmt} {sts : List Stmt} {σ : L2.St} {H : Hp} {tg it : Expr}
theorem we_pe : PE X e (We X e) := ⟨fun pins s _ _ _ I h => h pins s I⟩
theorem we_of {t : TE} {Q : VK} (h : PE X e t) (q : t σ H Q) : We X e σ H Q := fun pins s I => h.run pins s σ H Q I q
theorem wt_pt : PT X e (Wt X e) := ⟨fun pins s _ _ _ I h => h pins s I⟩
theorem wt_of {t : TT} {Q : Bool → Hp → Prop} (h : PT X e t) (q : t σ H Q) : Wt X e σ H Q := fun pins s I => h.run pins s σ H Q I q
theorem wa_pa : PA X es (Wa X es) := ⟨fun pos pins s _ _ _ I h => h pos pins s I⟩
theorem wa_of {t : TA} {Q : List V → Hp → Prop} (h : PA X es t) (q : t σ H Q) : Wa X es σ H Q := fun pos pins s I => h.run pos pins s σ H Q I q
theorem w1_ps : PS X st (W1 X st) := ⟨fun pins s _ _ _ I h => h pins s I⟩
theorem w1_of {t : TS} {D : Ends} (h : PS X st t) (q : t D σ H) : W1 X st D σ H := fun pins s I => h.run pins s σ H D I q
theorem wb_pss : PSs X sts (Wb X sts) := ⟨fun pins s _ _ _ I h => h pins s I⟩
theorem wb_of {t : TS} {D : Ends} (h : PSs X sts t) (q : t D σ H) : Wb X sts D σ H := fun pins s I => h.run pins s σ H D I q
theorem wg_pg : PG X tg (Wg X tg) := ⟨fun pins s _ _ _ u _ I r h => h pins s u I r⟩
theorem wg_of {t : TG} {v : V} {Q : L2.St → Hp → Prop} (h : PG X tg t) (q : t v σ H Q) : Wg X tg v σ H Q := fun pins s u I r => h.run pins s σ H v u Q I r q
theorem wgs_pgs : PGs X es (Wgs X es) := ⟨fun pins s _ _ _ us _ I r h => h pins s us I r⟩
theorem wgs_of {t : TGs} {vs : List V} {Q : L2.St → Hp → Prop} (h : PGs X es t) (q : t vs σ H Q) : Wgs X es vs σ H Q := fun pins s us I r => h.run pins s σ H vs us Q I r q
theorem wi_pi : PI X tg it (Wi X tg it) := ⟨fun pins s _ _ _ I h => h pins s I⟩
theorem wi_of {t : TI} {R : It → Hp → Prop} (h : PI X tg it t) (q : t σ H R) : Wi X tg it σ H R := fun pins s I => h.run pins s σ H R I q
theorem We.mono {Q Q' : VK} (h : We X e σ H Q) (k : ∀ v H', Q v H' → Q' v H') : We X e σ H Q' := fun pins s I => thn (h pins s I) fun _ _ ⟨v, H', I', r, q⟩ => ⟨v, H', I', r, k v H' q⟩
theorem Wt.mono {Q Q' : Bool → Hp → Prop} (h : Wt X e σ H Q) (k : ∀ v H', Q v H' → Q' v H') : Wt X e σ H Q' := fun pins s I => thn (h pins s I) fun _ _ ⟨H', I', q⟩ => ⟨H', I', k _ H' q⟩
theorem Wa.mono {Q Q' : List V → Hp → Prop} (h : Wa X es σ H Q) (k : ∀ v H', Q v H' → Q' v H') : Wa X es σ H Q' := fun pos pins s I => thn (h pos pins s I) fun _ _ ⟨v, H', I', r, q⟩ => ⟨v, H', I', r, k v H' q⟩
end
end K29
set_option Elab.async false
set_option linter.all false
set_option maxRecDepth 100000
set_option maxHeartbeats 4000000
/-! data that stands still: the part F of the heap that is not written any more -/
namespace K29
open PySem L2
mutual
inductive Dq (K : PySem.W.Frag) (F : Hp) : V → PyData → Prop
  | non : Dq K F .non .none
  | bl (b : Bool) : Dq K F (.bl b) (.bool b)
  | int (i : Int) : Dq K F (.int i) (.int i)
  | str (x : Str) : Dq K F (.str x) (.str x)
  | lst {a : Addr} {xs : List V} {ds : List PyData} : F a = some (.lst xs) → DqAll K F xs ds → Dq K F (.ref a) (.list ds)
  | tup {a : Addr} {xs : List V} {ds : List PyData} : (F a = some (.tup xs) ∨ (xs = [] ∧ SqT K F a [])) → DqAll K F xs ds → Dq K F (.ref a) (.tuple ds)
inductive DqAll (K : PySem.W.Frag) (F : Hp) : List V → List PyData → Prop
  | nil : DqAll K F [] []
  | cons {v : V} {vs : List V} {d : PyData} {ds : List PyData} : Dq K F v d → DqAll K F vs ds → DqAll K F (v :: vs) (d :: ds)
end
theorem same_t {K : PySem.W.Frag} {H H' : Hp} {a : Addr} {xs : List V} (e : Same H H') (h : SqT K H a xs) : SqT K H' a xs := by
  rcases h with (h | ⟨o, h⟩) | h
  · exact .inl (.inl (e _ _ h))
  · exact .inl (.inr ⟨o, e _ _ h⟩)
  · exact .inr h
section
variable {K : PySem.W.Frag} {F F' H H' : Hp} {v : V} {vs : List V} {d : PyData} {ds : List PyData}
mutual
theorem Dq.mono (s : Same F F') : ∀ {v : V} {d : PyData}, Dq K F v d → Dq K F' v d
  | _, _, .non => .non
  | _, _, .bl b => .bl b
  | _, _, .int i => .int i
  | _, _, .str x => .str x
  | _, _, .lst h a => .lst (s _ _ h) (DqAll.mono s a)
  | _, _, .tup h a => .tup (h.imp (s _ _) fun z => ⟨z.1, same_t s z.2⟩) (DqAll.mono s a)
theorem DqAll.mono (s : Same F F') : ∀ {vs : List V} {ds : List PyData}, DqAll K F vs ds → DqAll K F' vs ds
  | _, _, .nil => .nil
  | _, _, .cons h a => .cons (Dq.mono s h) (DqAll.mono s a)
end
theorem Dq.int_inv {i : Int} (h : Dq K F v (.int i)) : v = .int i := by cases h; rfl
theorem Dq.str_inv {x : Str} (h : Dq K F v (.str x)) : v = .str x := by cases h; rfl
theorem Dq.bl_inv {b : Bool} (h : Dq K F v (.bool b)) : v = .bl b := by cases h; rfl
theorem Dq.non_inv (h : Dq K F v .none) : v = .non := by cases h; rfl
theorem Dq.lst_inv (h : Dq K F v (.list ds)) : ∃ a xs, v = .ref a ∧ F a = some (.lst xs) ∧ DqAll K F xs ds := by
  cases h with
  | lst h a => exact ⟨_, _, rfl, h, a⟩
theorem Dq.tup_inv (h : Dq K F v (.tuple ds)) : ∃ a xs, v = .ref a ∧ SqT K F a xs ∧ DqAll K F xs ds := by
  cases h with
  | tup h a =>
    refine ⟨_, _, rfl, ?_, a⟩
    rcases h with h | ⟨rfl, h⟩
    · exact SqT.of h
    · exact h
/-- a tuple that is not empty is tracked -/
theorem Dq.tup_inv1 (h : Dq K F v (.tuple (d :: ds))) : ∃ a xs, v = .ref a ∧ F a = some (.tup xs) ∧ DqAll K F xs (d :: ds) := by
  cases h with
  | tup h a =>
    rcases h with h | ⟨rfl, h⟩
    · exact ⟨_, _, rfl, h, a⟩
    · cases a
theorem DqAll.nil_inv (h : DqAll K F vs []) : vs = [] := by cases h; rfl
theorem DqAll.cons_inv (h : DqAll K F vs (d :: ds)) : ∃ v r, vs = v :: r ∧ Dq K F v d ∧ DqAll K F r ds := by
  cases h with
  | cons h a => exact ⟨_, _, rfl, h, a⟩
theorem DqAll.length : ∀ {vs : List V} {ds : List PyData}, DqAll K F vs ds → vs.length = ds.length
  | _, _, .nil => rfl
  | _, _, .cons _ a => congrArg Nat.succ (DqAll.length a)
theorem DqAll.get : ∀ {vs : List V} {ds : List PyData} {i : Nat} {d : PyData}, DqAll K F vs ds → ds[i]? = some d → ∃ v, vs[i]? = some v ∧ Dq K F v d
  | _, _, _, _, .nil, e => by simp at e
  | _, _, 0, _, .cons h _, e => by
    simp at e
    subst e
    exact ⟨_, rfl, h⟩
  | _, _, i + 1, _, .cons _ a, e => by
    obtain ⟨v, h1, h2⟩ := DqAll.get (i := i) a (by simpa using e)
    exact ⟨v, by simpa using h1, h2⟩
theorem DqAll.get' : ∀ {vs : List V} {ds : List PyData} {i : Nat} {v : V}, DqAll K F vs ds → vs[i]? = some v → ∃ d, ds[i]? = some d ∧ Dq K F v d
  | _, _, _, _, .nil, e => by simp at e
  | _, _, 0, _, .cons h _, e => by
    simp at e
    subst e
    exact ⟨_, rfl, h⟩
  | _, _, i + 1, _, .cons _ a, e => by
    obtain ⟨v, h1, h2⟩ := DqAll.get' (i := i) a (by simpa using e)
    exact ⟨v, by simpa using h1, h2⟩
theorem DqAll.append : ∀ {vs ws : List V} {ds es : List PyData}, DqAll K F vs ds → DqAll K F ws es → DqAll K F (vs ++ ws) (ds ++ es)
  | _, _, _, _, .nil, b => b
  | _, _, _, _, .cons h a, b => .cons h (DqAll.append a b)
theorem DqAll.take : ∀ {vs : List V} {ds : List PyData} (n : Nat), DqAll K F vs ds → DqAll K F (vs.take n) (ds.take n)
  | _, _, 0, _ => .nil
  | _, _, _ + 1, .nil => .nil
  | _, _, n + 1, .cons h a => .cons h (DqAll.take n a)
theorem DqAll.drop : ∀ {vs : List V} {ds : List PyData} (n : Nat), DqAll K F vs ds → DqAll K F (vs.drop n) (ds.drop n)
  | _, _, 0, a => a
  | _, _, _ + 1, .nil => .nil
  | _, _, n + 1, .cons _ a => DqAll.drop n a
theorem DqAll.ints : ∀ {vs : List V} {ns : List Int}, DqAll K F vs (ns.map .int) → vs = ns.map V.int
  | _, [], h => h.nil_inv
  | _, n :: ns, h => by
    obtain ⟨v, r, rfl, h1, h2⟩ := h.cons_inv
    rw [h1.int_inv, DqAll.ints h2] <;> rfl
theorem DqAll.bools : ∀ {vs : List V} {ns : List Bool}, DqAll K F vs (ns.map .bool) → vs = ns.map V.bl
  | _, [], h => h.nil_inv
  | _, n :: ns, h => by
    obtain ⟨v, r, rfl, h1, h2⟩ := h.cons_inv
    rw [h1.bl_inv, DqAll.bools h2] <;> rfl
theorem DqAll.of_ints : ∀ ns : List Int, DqAll K F (ns.map V.int) (ns.map .int)
  | [] => .nil
  | n :: ns => .cons (.int n) (DqAll.of_ints ns)
theorem DqAll.of_bools : ∀ ns : List Bool, DqAll K F (ns.map V.bl) (ns.map .bool)
  | [] => .nil
  | n :: ns => .cons (.bl n) (DqAll.of_bools ns)
/-- a tuple of ints -/
theorem Dq.tupI {ns : List Int} (h : Dq K F v (.tuple (ns.map .int))) : ∃ a, v = .ref a ∧ SqT K F a (ns.map V.int) := by
  obtain ⟨a, xs, e, h1, h2⟩ := h.tup_inv
  rw [h2.ints] at h1
  exact ⟨a, e, h1⟩
theorem Dq.lstI {ns : List Int} (h : Dq K F v (.list (ns.map .int))) : ∃ a, v = .ref a ∧ F a = some (.lst (ns.map V.int)) := by
  obtain ⟨a, xs, e, h1, h2⟩ := h.lst_inv
  rw [h2.ints] at h1
  exact ⟨a, e, h1⟩
/-! to the library's own word -/
mutual
theorem Dq.dp : ∀ {v : V} {d : PyData}, Dq K F v d → Dp K F v d
  | _, _, .non => .non
  | _, _, .bl b => .bl b
  | _, _, .int i => .int i
  | _, _, .str x => .str x
  | _, _, .lst h a => .lst (SqL.of h) (DqAll.dp a)
  | _, _, .tup h a => .tup (h.elim SqT.of fun z => by rw [z.1]; exact z.2) (DqAll.dp a)
theorem DqAll.dp : ∀ {vs : List V} {ds : List PyData}, DqAll K F vs ds → DpAll K F vs ds
  | _, _, .nil => .nil
  | _, _, .cons h a => .cons (Dq.dp h) (DqAll.dp a)
end
end
/-! ### growth -/
/-- what was none in F and stands in H is none in F' -/
def Fr (F F' H : Hp) : Prop := ∀ a, F a = none → H a ≠ none → F' a = none
/-- from (F, H) to (F', H'): all is kept, what is new in F' is new in H' -/
structure Gr (F H F' H' : Hp) : Prop where
  ff : Same F F'
  fh : Same F' H'
  hh : Same H H'
  fr : Fr F F' H
section
variable {F H F1 H1 F2 H2 : Hp} {p : Addr} {o : HO}
theorem Gr.refl (s : Same F H) : Gr F H F H := ⟨Same.refl _, s, Same.refl _, fun _ e _ => e⟩
theorem Gr.trans (a : Gr F H F1 H1) (b : Gr F1 H1 F2 H2) : Gr F H F2 H2 := ⟨a.ff.trans b.ff, b.fh, a.hh.trans b.hh, fun x e n => b.fr x (a.fr x e n) fun z => by
  cases q : H x with
  | none => exact n q
  | some u =>
    rw [a.hh x u q] at z
    cases z⟩
theorem same_new (h : H p = none) : Same H (upd H p o) := fun b u e => by
  rw [upd_ne (ne_of_none e h)]
  exact e
theorem same_mut (s : Same F H) (h : F p = none) : Same F (upd H p o) := fun b u e => by
  rw [upd_ne (ne_of_none e h)]
  exact s b u e
theorem same_upd2 (s : Same F H) : Same (upd F p o) (upd H p o) := fun b u e => by
  by_cases q : b = p
  · rw [q, upd_same] at e ⊢
    exact e
  · rw [upd_ne q] at e ⊢
    exact s b u e
/-- a new thing that is not written any more -/
theorem Gr.new (s : Same F H) (h : H p = none) : Gr F H (upd F p o) (upd H p o) := ⟨same_new (s.free h), same_upd2 s, same_new h, fun a e n => by
  rw [upd_ne (fun q => n (by rw [q]; exact h))]
  exact e⟩
/-- a new thing that may be written -/
theorem Gr.newM (s : Same F H) (h : H p = none) : Gr F H F (upd H p o) := ⟨Same.refl _, same_mut s (s.free h), same_new h, fun _ e _ => e⟩
/-- it is written -/
theorem Gr.mut (g : Gr F H F1 H1) (h : H p = none) (hf : F1 p = none) : Gr F H F1 (upd H1 p o) := ⟨g.ff, same_mut g.fh hf, same_mut g.hh h, g.fr⟩
/-- from now on it is not -/
theorem Gr.freeze (g : Gr F H F1 H1) (h : H p = none) (hf : F1 p = none) (ho : H1 p = some o) : Gr F H (upd F1 p o) H1 := ⟨g.ff.trans (same_new hf), fun b u e => by
  by_cases q : b = p
  · rw [q, upd_same] at e
    rw [q, ho]
    exact e
  · rw [upd_ne q] at e
    exact g.fh b u e, g.hh, fun a e n => by
  rw [upd_ne (fun q => n (by rw [q]; exact h))]
  exact g.fr a e n⟩
theorem Gr.noF (g : Gr F H F1 H1) (h : F p = none) (ho : H p = some o) : F1 p = none := g.fr p h (by rw [ho]; exact fun z => by cases z)
theorem Gr.noH (g : Gr F H F1 H1) (h : H1 p = none) : H p = none := g.hh.free h
/-- two parts that stand in one heap -/
def un (A B : Hp) : Hp := fun a => match A a with
  | some o => some o
  | none => B a
theorem un_l {A B : Hp} : Same A (un A B) := fun a o e => by
  unfold un
  rw [e]
theorem un_r {A B C : Hp} (ha : Same A C) (hb : Same B C) : Same B (un A B) := fun a o e => by
  unfold un
  cases q : A a with
  | none => exact e
  | some u =>
    have e1 := ha a u q
    rw [hb a o e] at e1
    exact e1.symm
theorem un_to {A B C : Hp} (ha : Same A C) (hb : Same B C) : Same (un A B) C := fun a o e => by
  unfold un at e
  cases q : A a with
  | none =>
    rw [q] at e
    exact hb a o e
  | some u =>
    rw [q] at e
    exact ha a o (q.trans e)
/-- what was found from a smaller part holds from a greater one -/
theorem Gr.lift (g : Gr F H F1 H1) (s : Same F F2) (h : Same F2 H) : Gr F2 H (un F1 F2) H1 ∧ Same F1 (un F1 F2) := by
  have s2 : Same F2 H1 := h.trans g.hh
  refine ⟨⟨un_r g.fh s2, un_to g.fh s2, g.hh, fun a e n => ?_⟩, un_l⟩
  have e1 : F1 a = none := g.fr a (s.free e) n
  unfold un
  rw [e1]
  exact e
end
/-! ### values -/
def Wv (X : Cx) (e : Expr) (σ : L2.St) (F : Hp) (d : PyData) : Prop := ∀ H, Same F H → ∀ Q : VK, (∀ v F' H', Gr F H F' H' → Dq X.K F' v d → Q v H') → We X e σ H Q
def Wvs (X : Cx) (es : List Expr) (σ : L2.St) (F : Hp) (ds : List PyData) : Prop := ∀ H, Same F H → ∀ Q : List V → Hp → Prop, (∀ vs F' H', Gr F H F' H' → DqAll X.K F' vs ds → Q vs H') → Wa X es σ H Q
def Wq (X : Cx) (e : Expr) (σ : L2.St) (F : Hp) (b : Bool) : Prop := ∀ H, Same F H → ∀ Q : Bool → Hp → Prop, (∀ H', Same H H' → Q b H') → Wt X e σ H Q
section
variable {X : Cx} {e : Expr} {es : List Expr} {σ : L2.St} {F F2 : Hp} {d : PyData} {ds : List PyData} {b : Bool}
theorem Wv.mono (s : Same F F2) (h : Wv X e σ F d) : Wv X e σ F2 d := fun H sh Q q => h H (s.trans sh) Q fun v F' H' g hd => by
  obtain ⟨g2, s2⟩ := g.lift s sh
  exact q v _ H' g2 (hd.mono s2)
theorem Wvs.mono (s : Same F F2) (h : Wvs X es σ F ds) : Wvs X es σ F2 ds := fun H sh Q q => h H (s.trans sh) Q fun v F' H' g hd => by
  obtain ⟨g2, s2⟩ := g.lift s sh
  exact q v _ H' g2 (hd.mono s2)
theorem Wq.mono (s : Same F F2) (h : Wq X e σ F b) : Wq X e σ F2 b := fun H sh Q q => h H (s.trans sh) Q q
theorem Wv.to {d' : PyData} (h : Wv X e σ F d) (e' : d = d') : Wv X e σ F d' := e' ▸ h
theorem Wq.to {b' : Bool} (h : Wq X e σ F b) (e' : b = b') : Wq X e σ F b' := e' ▸ h
theorem Wv.go {H : Hp} {Q : VK} (h : Wv X e σ F d) (s : Same F H) (q : ∀ v F' H', Gr F H F' H' → Dq X.K F' v d → Q v H') : We X e σ H Q := h H s Q q
theorem Wq.go {H : Hp} {Q : Bool → Hp → Prop} (h : Wq X e σ F b) (s : Same F H) (q : ∀ H', Same H H' → Q b H') : Wt X e σ H Q := h H s Q q
/-- a scalar: nothing new -/
theorem wv_scal {v : V} (hd : ∀ G, Dq X.K G v d) (h : ∀ H, Same F H → ∀ Q : VK, (∀ H', Same H H' → Q v H') → We X e σ H Q) : Wv X e σ F d := fun H sh Q q => h H sh Q fun H' s => q v F H' ⟨Same.refl _, sh.trans s, s, fun _ e _ => e⟩ (hd F)
/-- its value, where it is a scalar -/
theorem Wv.int {i : Int} (h : Wv X e σ F (.int i)) {H : Hp} (s : Same F H) {Q : VK} (q : ∀ H', Same H H' → Q (.int i) H') : We X e σ H Q := h H s Q fun v F' H' g hd => by
  rw [hd.int_inv]
  exact q H' g.hh
theorem Wv.bl (h : Wv X e σ F (.bool b)) {H : Hp} (s : Same F H) {Q : VK} (q : ∀ H', Same H H' → Q (.bl b) H') : We X e σ H Q := h H s Q fun v F' H' g hd => by
  rw [hd.bl_inv]
  exact q H' g.hh
theorem Wv.str {x : Str} (h : Wv X e σ F (.str x)) {H : Hp} (s : Same F H) {Q : VK} (q : ∀ H', Same H H' → Q (.str x) H') : We X e σ H Q := h H s Q fun v F' H' g hd => by
  rw [hd.str_inv]
  exact q H' g.hh
end
end K29
set_option Elab.async false
set_option linter.all false
set_option maxRecDepth 100000
set_option maxHeartbeats 4000000
/-! expressions -/
namespace K29
open PySem L2
section
variable {X : Cx} {a b c e : Expr} {es : List Expr} {σ : L2.St} {F H : Hp} {d da db dc : PyData} {ds : List PyData} {x : Str} {pos p : Pos}
/-! ### names and constants -/
theorem we_var (i : Nat) {v : V} {Q : VK} (hs : σ[i]? = some (some v)) (q : Q v H) (hN : X.N[i]? = some x := by rfl) (hv : Vis X.env.scope x := by first | exact Or.inl rfl | exact Or.inr (Or.inl rfl) | exact Or.inr (Or.inr rfl))
    (hd : (x == ("__debug__" : Str)) = false := by decide) (hcd : (x == ("__classdict__" : Str)) = false := by decide) : We X (.Name x pos) σ H Q := we_of (pe_var hN hv hd hcd) ⟨v, hs, q⟩
theorem wv_var (i : Nat) {v : V} (hs : σ[i]? = some (some v)) (h : Dq X.K F v d) (hN : X.N[i]? = some x := by rfl) (hv : Vis X.env.scope x := by first | exact Or.inl rfl | exact Or.inr (Or.inl rfl) | exact Or.inr (Or.inr rfl))
    (hd : (x == ("__debug__" : Str)) = false := by decide) (hcd : (x == ("__classdict__" : Str)) = false := by decide) : Wv X (.Name x pos) σ F d := fun H s Q q => we_of (pe_var hN hv hd hcd) ⟨v, hs, q v F H (Gr.refl s) h⟩
theorem wv_int {i : Int} {j : Nat} : Wv X (.Constant (.int i) j pos) σ F (.int i) := wv_scal (fun _ => .int i) fun H s Q q => we_of pe_int (q H (Same.refl H))
theorem wv_str {z : Str} {j : Nat} : Wv X (.Constant (.str z) j pos) σ F (.str z) := wv_scal (fun _ => .str z) fun H s Q q => we_of pe_str (q H (Same.refl H))
theorem wv_bl {k : Bool} {j : Nat} : Wv X (.Constant (.bool k) j pos) σ F (.bool k) := wv_scal (fun _ => .bl k) fun H s Q q => we_of pe_bl (q H (Same.refl H))
theorem wv_non {j : Nat} : Wv X (.Constant .none j pos) σ F .none := wv_scal (fun _ => .non) fun H s Q q => we_of pe_non (q H (Same.refl H))
theorem wv_gstr {z : Str} (hm : ∃ t, X.mg x = some (.str z t)) (hg : Gl X x := by rfl) (hd : (x == ("__debug__" : Str)) = false := by decide) : Wv X (.Name x pos) σ F (.str z) := wv_scal (fun _ => .str z) fun H s Q q => by
  obtain ⟨t, e⟩ := hm
  exact we_of (pe_glob (v := V.str z) hg e ⟨t, rfl⟩ hd) (q H (Same.refl H))
/-! ### lists of expressions, displays -/
theorem wvs_nil : Wvs X [] σ F [] := fun H s Q q => wa_of pa_nil (q [] F H (Gr.refl s) .nil)
theorem wa_cons {Q : List V → Hp → Prop} (h : We X e σ H fun v H1 => Wa X es σ H1 fun vs H2 => Q (v :: vs) H2) (hs : starEach (e :: es) X.env = (false, eval e X.env) :: starEach es X.env := by rfl) : Wa X (e :: es) σ H Q := wa_of (pa_cons we_pe wa_pa hs) h
theorem wa_nil {Q : List V → Hp → Prop} (q : Q [] H) : Wa X [] σ H Q := wa_of pa_nil q
theorem wvs_cons (h : Wv X e σ F d) (hr : Wvs X es σ F ds) (hs : starEach (e :: es) X.env = (false, eval e X.env) :: starEach es X.env := by rfl) : Wvs X (e :: es) σ F (d :: ds) := fun H s Q q => wa_cons (h H s _ fun v F1 H1 g1 hd => (hr.mono g1.ff) H1 g1.fh _ fun vs F2 H2 g2 hds => q _ F2 H2 (g1.trans g2) (.cons (hd.mono g2.ff) hds)) hs
theorem we_tup {Q : VK} {k : Nat} (h : Wa X es σ H fun vs H1 => vs.length ≤ 1000 ∧ ∀ p, H1 p = none → Q (.ref p) (upd H1 p (.tup vs))) : We X (.Tuple es k pos) σ H Q := we_of (pe_tup wa_pa) (h.mono fun vs H1 z => ⟨Nat.le_of_lt (small1000 z.1), z.2⟩)
theorem we_lst {Q : VK} (h : Wa X es σ H fun vs H1 => vs.length ≤ 1000 ∧ ∀ p, H1 p = none → Q (.ref p) (upd H1 p (.lst vs))) : We X (.List es pos) σ H Q := we_of (pe_lst wa_pa) (h.mono fun vs H1 z => ⟨Nat.le_of_lt (small1000 z.1), z.2⟩)
theorem wv_tup {k : Nat} (h : Wvs X es σ F ds) (hl : Nat.ble ds.length 1000 = true := by rfl) : Wv X (.Tuple es k pos) σ F (.tuple ds) := fun H s Q q => we_tup (h H s _ fun vs F1 H1 g hd => ⟨by rw [hd.length]; exact Nat.le_of_ble_eq_true hl, fun p hp =>
  q _ _ _ (g.trans (Gr.new g.fh hp)) (.tup (.inl upd_same) (hd.mono (same_new (g.fh.free hp))))⟩)
theorem wv_lst (h : Wvs X es σ F ds) (hl : Nat.ble ds.length 1000 = true := by rfl) : Wv X (.List es pos) σ F (.list ds) := fun H s Q q => we_lst (h H s _ fun vs F1 H1 g hd => ⟨by rw [hd.length]; exact Nat.le_of_ble_eq_true hl, fun p hp =>
  q _ _ _ (g.trans (Gr.new g.fh hp)) (.lst upd_same (hd.mono (same_new (g.fh.free hp))))⟩)
/-! ### operators -/
theorem we_op {op : Operator} {r : R2} {Q : VK} (ho : OpR X (binaryOp op) r) (h : We X a σ H fun v H1 => We X b σ H1 fun w H2 => r v w H2 Q) : We X (.BinOp a op b pos) σ H Q := we_of (pe_op ho we_pe we_pe) h
theorem we_cmp {op : CmpOp} {r : R2} {Q : VK} (ho : OpR X (compareOp op) r) (h : We X a σ H fun v H1 => We X b σ H1 fun w H2 => r v w H2 Q) (hm : behindInMarks op b = false := by first | exact nomark _ | rfl) : We X (.Compare a [op] [b] pos) σ H Q := we_of (pe_cmpR ho we_pe we_pe hm) h
theorem wt_cmp {op : CmpOp} {r : R2} {Q : Bool → Hp → Prop} (ho : OpR X (compareOp op) r) (h : We X a σ H fun v H1 => We X b σ H1 fun w H2 => r v w H2 fun z H3 => ∃ k, z = .bl k ∧ Q k H3) (hm : behindInMarks op b = false := by first | exact nomark _ | rfl) : Wt X (.Compare a [op] [b] pos) σ H Q := wt_of (pt_cmpR ho we_pe we_pe hm) h
theorem we_ix {r : R2} {Q : VK} (ho : IxR X r) (h : We X a σ H fun v H1 => We X b σ H1 fun w H2 => r v w H2 Q) (hs : PlainIx b := by exact fun _ _ => rfl) : We X (.Subscript a b pos) σ H Q := we_of (pe_ix ho we_pe we_pe hs) h
/-- what r makes of da, db is d -/
def RD (X : Cx) (r : R2) (F : Hp) (da db d : PyData) : Prop := ∀ F1 H1 v w, Same F F1 → Same F1 H1 → Dq X.K F1 v da → Dq X.K F1 w db → ∀ Q : VK, (∀ z F' H', Gr F1 H1 F' H' → Dq X.K F' z d → Q z H') → r v w H1 Q
theorem RD.run {r : R2} (k : RD X r F da db d) (ha : Wv X a σ F da) (hb : Wv X b σ F db) {H : Hp} (s : Same F H) {Q : VK} (q : ∀ z F' H', Gr F H F' H' → Dq X.K F' z d → Q z H') : We X a σ H fun v H1 => We X b σ H1 fun w H2 => r v w H2 Q :=
  ha H s _ fun v F1 H1 g1 h1 => (hb.mono g1.ff) H1 g1.fh _ fun w F2 H2 g2 h2 => k F2 H2 v w (g1.ff.trans g2.ff) g2.fh (h1.mono g2.ff) h2 Q fun z F3 H3 g3 h3 => q z F3 H3 ((g1.trans g2).trans g3) h3
theorem wv_op {op : Operator} {r : R2} (ho : OpR X (binaryOp op) r) (k : RD X r F da db d) (ha : Wv X a σ F da) (hb : Wv X b σ F db) : Wv X (.BinOp a op b pos) σ F d := fun H s Q q => we_op ho (k.run ha hb s q)
theorem wv_cmp {op : CmpOp} {r : R2} (ho : OpR X (compareOp op) r) (k : RD X r F da db d) (ha : Wv X a σ F da) (hb : Wv X b σ F db) (hm : behindInMarks op b = false := by first | exact nomark _ | rfl) : Wv X (.Compare a [op] [b] pos) σ F d := fun H s Q q => we_cmp ho (k.run ha hb s q) hm
theorem wq_cmp {op : CmpOp} {r : R2} {t : Bool} (ho : OpR X (compareOp op) r) (k : RD X r F da db (.bool t)) (ha : Wv X a σ F da) (hb : Wv X b σ F db) (hm : behindInMarks op b = false := by first | exact nomark _ | rfl) : Wq X (.Compare a [op] [b] pos) σ F t := fun H s Q q => wt_cmp ho (k.run ha hb s fun z F' H' g hd => ⟨t, hd.bl_inv, q H' g.hh⟩) hm
theorem wv_ix {r : R2} (ho : IxR X r) (k : RD X r F da db d) (ha : Wv X a σ F da) (hb : Wv X b σ F db) (hs : PlainIx b := by exact fun _ _ => rfl) : Wv X (.Subscript a b pos) σ F d := fun H s Q q => we_ix ho (k.run ha hb s q) hs
theorem rd_I0 {g : Int → Int → V} {i j : Int} (hg : ∀ G, Dq X.K G (g i j) d) : RD X (rI0 g) F (.int i) (.int j) d := fun F1 H1 v w _ s h1 h2 Q q => ⟨i, j, h1.int_inv, h2.int_inv, q _ F1 H1 (Gr.refl s) (hg F1)⟩
theorem rd_I {C : Int → Int → Prop} {g : Int → Int → V} {i j : Int} (hc : C i j) (hg : ∀ G, Dq X.K G (g i j) d) : RD X (rI C g) F (.int i) (.int j) d := fun F1 H1 v w _ s h1 h2 Q q => ⟨i, j, h1.int_inv, h2.int_inv, hc, q _ F1 H1 (Gr.refl s) (hg F1)⟩
variable {i j : Int}
theorem wv_add (ha : Wv X a σ F (.int i)) (hb : Wv X b σ F (.int j)) : Wv X (.BinOp a .Add b pos) σ F (.int (i + j)) := wv_op op_add (rd_I0 fun _ => .int _) ha hb
theorem wv_sub (ha : Wv X a σ F (.int i)) (hb : Wv X b σ F (.int j)) : Wv X (.BinOp a .Sub b pos) σ F (.int (i - j)) := wv_op op_sub (rd_I0 fun _ => .int _) ha hb
theorem wv_mul (ha : Wv X a σ F (.int i)) (hb : Wv X b σ F (.int j)) (h : CMul i j) : Wv X (.BinOp a .Mult b pos) σ F (.int (i * j)) := wv_op op_mul (rd_I h fun _ => .int _) ha hb
theorem wv_mod (ha : Wv X a σ F (.int i)) (hb : Wv X b σ F (.int j)) (h : 0 < j) : Wv X (.BinOp a .Mod b pos) σ F (.int (i % j)) := wv_op op_mod (rd_I h fun _ => .int _) ha hb
theorem wv_div (ha : Wv X a σ F (.int i)) (hb : Wv X b σ F (.int j)) (h : CDiv i j) : Wv X (.BinOp a .FloorDiv b pos) σ F (.int (i / j)) := wv_op op_fdiv (rd_I h fun _ => .int _) ha hb
theorem wv_pow (ha : Wv X a σ F (.int i)) (hb : Wv X b σ F (.int j)) (h : CPow i j) : Wv X (.BinOp a .Pow b pos) σ F (.int (i ^ j.toNat)) := wv_op op_pow (rd_I h fun _ => .int _) ha hb
theorem wq_lt (ha : Wv X a σ F (.int i)) (hb : Wv X b σ F (.int j)) : Wq X (.Compare a [.Lt] [b] pos) σ F (decide (i < j)) := wq_cmp op_lt (rd_I0 fun _ => .bl _) ha hb
theorem wq_gt (ha : Wv X a σ F (.int i)) (hb : Wv X b σ F (.int j)) : Wq X (.Compare a [.Gt] [b] pos) σ F (decide (j < i)) := wq_cmp op_gt (rd_I0 fun _ => .bl _) ha hb
theorem wq_ge (ha : Wv X a σ F (.int i)) (hb : Wv X b σ F (.int j)) : Wq X (.Compare a [.GtE] [b] pos) σ F (decide (j ≤ i)) := wq_cmp op_ge (rd_I0 fun _ => .bl _) ha hb
theorem wq_le (ha : Wv X a σ F (.int i)) (hb : Wv X b σ F (.int j)) : Wq X (.Compare a [.LtE] [b] pos) σ F (decide (i ≤ j)) := wq_cmp op_le (rd_I0 fun _ => .bl _) ha hb
theorem wv_ge (ha : Wv X a σ F (.int i)) (hb : Wv X b σ F (.int j)) : Wv X (.Compare a [.GtE] [b] pos) σ F (.bool (decide (j ≤ i))) := wv_cmp op_ge (rd_I0 fun _ => .bl _) ha hb
theorem rd_eqI : RD X rEq F (.int i) (.int j) (.bool (decide (i = j))) := fun F1 H1 v w _ s h1 h2 Q q => by
  rw [h1.int_inv, h2.int_inv]
  exact ⟨rfl, by rw [show decide (V.int i = V.int j) = decide (i = j) from decide_eq_decide.mpr ⟨V.int.inj, congrArg V.int⟩]; exact q _ F1 H1 (Gr.refl s) (.bl _)⟩
theorem rd_neI : RD X rNe F (.int i) (.int j) (.bool (!decide (i = j))) := fun F1 H1 v w _ s h1 h2 Q q => by
  rw [h1.int_inv, h2.int_inv]
  exact ⟨rfl, by rw [show decide (V.int i = V.int j) = decide (i = j) from decide_eq_decide.mpr ⟨V.int.inj, congrArg V.int⟩]; exact q _ F1 H1 (Gr.refl s) (.bl _)⟩
variable {y z : Str}
theorem rd_eqS : RD X rEq F (.str y) (.str z) (.bool (decide (y = z))) := fun F1 H1 v w _ s h1 h2 Q q => by
  rw [h1.str_inv, h2.str_inv]
  exact ⟨rfl, by rw [show decide (V.str y = V.str z) = decide (y = z) from decide_eq_decide.mpr ⟨V.str.inj, congrArg V.str⟩]; exact q _ F1 H1 (Gr.refl s) (.bl _)⟩
theorem rd_neS : RD X rNe F (.str y) (.str z) (.bool (!decide (y = z))) := fun F1 H1 v w _ s h1 h2 Q q => by
  rw [h1.str_inv, h2.str_inv]
  exact ⟨rfl, by rw [show decide (V.str y = V.str z) = decide (y = z) from decide_eq_decide.mpr ⟨V.str.inj, congrArg V.str⟩]; exact q _ F1 H1 (Gr.refl s) (.bl _)⟩
theorem wq_eqI (ha : Wv X a σ F (.int i)) (hb : Wv X b σ F (.int j)) : Wq X (.Compare a [.Eq] [b] pos) σ F (decide (i = j)) := wq_cmp op_eq rd_eqI ha hb
theorem wv_eqI (ha : Wv X a σ F (.int i)) (hb : Wv X b σ F (.int j)) : Wv X (.Compare a [.Eq] [b] pos) σ F (.bool (decide (i = j))) := wv_cmp op_eq rd_eqI ha hb
theorem wq_neI (ha : Wv X a σ F (.int i)) (hb : Wv X b σ F (.int j)) : Wq X (.Compare a [.NotEq] [b] pos) σ F (!decide (i = j)) := wq_cmp op_ne rd_neI ha hb
theorem wq_eqS (ha : Wv X a σ F (.str y)) (hb : Wv X b σ F (.str z)) : Wq X (.Compare a [.Eq] [b] pos) σ F (decide (y = z)) := wq_cmp op_eq rd_eqS ha hb
theorem wv_eqS (ha : Wv X a σ F (.str y)) (hb : Wv X b σ F (.str z)) : Wv X (.Compare a [.Eq] [b] pos) σ F (.bool (decide (y = z))) := wv_cmp op_eq rd_eqS ha hb
theorem wq_neS (ha : Wv X a σ F (.str y)) (hb : Wv X b σ F (.str z)) : Wq X (.Compare a [.NotEq] [b] pos) σ F (!decide (y = z)) := wq_cmp op_ne rd_neS ha hb
theorem wv_neS (ha : Wv X a σ F (.str y)) (hb : Wv X b σ F (.str z)) : Wv X (.Compare a [.NotEq] [b] pos) σ F (.bool (!decide (y = z))) := wv_cmp op_ne rd_neS ha hb
/-! ### subscripts -/
theorem DqAll.atI {K : PySem.W.Frag} {vs : List V} (h : DqAll K F vs ds) (e : L2.atI ds i = some d) : ∃ v, L2.atI vs i = some v ∧ Dq K F v d := by
  unfold L2.atI at e ⊢
  rw [h.length]
  cases q : ixN ds.length i with
  | none =>
    rw [q] at e
    cases e
  | some j =>
    rw [q] at e
    exact h.get e
theorem wv_ixL (ha : Wv X a σ F (.list ds)) (hb : Wv X b σ F (.int i)) (h : L2.atI ds i = some d) (hs : PlainIx b := by exact fun _ _ => rfl) : Wv X (.Subscript a b pos) σ F d := wv_ix ix_list (fun F1 H1 v w _ s h1 h2 Q q => by
  obtain ⟨l, xs, rfl, e1, e2⟩ := h1.lst_inv
  obtain ⟨u, f1, f2⟩ := e2.atI h
  exact ⟨l, xs, i, u, rfl, h2.int_inv, SqL.of (s _ _ e1), f1, q u F1 H1 (Gr.refl s) f2⟩) ha hb hs
theorem wv_ixT (ha : Wv X a σ F (.tuple ds)) (hb : Wv X b σ F (.int i)) (h : L2.atI ds i = some d) (hs : PlainIx b := by exact fun _ _ => rfl) : Wv X (.Subscript a b pos) σ F d := wv_ix ix_tup (fun F1 H1 v w _ s h1 h2 Q q => by
  obtain ⟨l, xs, rfl, e1, e2⟩ := h1.tup_inv
  obtain ⟨u, f1, f2⟩ := e2.atI h
  exact ⟨l, xs, i, u, rfl, h2.int_inv, same_t s e1, f1, q u F1 H1 (Gr.refl s) f2⟩) ha hb hs
/-! ### and, or, not, if -/
theorem wt_val {Q : Bool → Hp → Prop} (h : We X e σ H fun v H1 => ∃ k, v = .bl k ∧ Q k H1) (he : ∀ whole, isTrue e X.env whole = (do let v ← whole; standAt e.pos; holding [v] (truthy v)) := by intro _; rfl) : Wt X e σ H Q := wt_of (pt_val we_pe he) h
theorem wq_val {t : Bool} (h : Wv X e σ F (.bool t)) (he : ∀ whole, isTrue e X.env whole = (do let v ← whole; standAt e.pos; holding [v] (truthy v)) := by intro _; rfl) : Wq X e σ F t := fun H s Q q => wt_val (h.bl s fun H' s' => ⟨t, rfl, q H' s'⟩) he
theorem wt_not {Q : Bool → Hp → Prop} (h : Wt X a σ H fun k H1 => Q (!k) H1) : Wt X (.UnaryOp .Not a pos) σ H Q := wt_of (pt_not wt_pt) h
theorem wq_not {t : Bool} (h : Wq X a σ F t) : Wq X (.UnaryOp .Not a pos) σ F (!t) := fun H s Q q => wt_not (h H s _ fun H' s' => q H' s')
theorem wt_and2 {Q : Bool → Hp → Prop} (h : Wt X a σ H fun k H1 => if k = true then Wt X b σ H1 Q else Q false H1) : Wt X (.BoolOp .And [a, b] pos) σ H Q := wt_of (PW.pt (pw_and wt_pt (pw_and1 wt_pt))) h
theorem wt_or2 {Q : Bool → Hp → Prop} (h : Wt X a σ H fun k H1 => if k = true then Q true H1 else Wt X b σ H1 Q) : Wt X (.BoolOp .Or [a, b] pos) σ H Q := wt_of (PW.pt (pw_or wt_pt (pw_or1 wt_pt))) h
theorem wq_and2 {t u : Bool} (ha : Wq X a σ F t) (hb : t = true → Wq X b σ F u) : Wq X (.BoolOp .And [a, b] pos) σ F (t && u) := fun H s Q q => wt_and2 (ha H s _ fun H1 s1 => by
  cases t with
  | true => exact iteT (hb rfl H1 (s.trans s1) _ fun H2 s2 => q H2 (s1.trans s2))
  | false => exact iteF (q H1 s1))
theorem wq_or2 {t u : Bool} (ha : Wq X a σ F t) (hb : t = false → Wq X b σ F u) : Wq X (.BoolOp .Or [a, b] pos) σ F (t || u) := fun H s Q q => wt_or2 (ha H s _ fun H1 s1 => by
  cases t with
  | true => exact iteT (q H1 s1)
  | false => exact iteF (hb rfl H1 (s.trans s1) _ fun H2 s2 => q H2 (s1.trans s2)))
theorem we_and2 {Q : VK} (h : We X a σ H fun v H1 => ∃ k, v = .bl k ∧ if k = true then We X b σ H1 Q else Q (.bl false) H1) : We X (.BoolOp .And [a, b] pos) σ H Q := we_of (pe_and we_pe (pe_one we_pe)) h
theorem we_or2 {Q : VK} (h : We X a σ H fun v H1 => ∃ k, v = .bl k ∧ if k = true then Q (.bl true) H1 else We X b σ H1 Q) : We X (.BoolOp .Or [a, b] pos) σ H Q := we_of (pe_or we_pe (pe_one we_pe)) h
theorem wv_and2 {t u : Bool} (ha : Wv X a σ F (.bool t)) (hb : t = true → Wv X b σ F (.bool u)) : Wv X (.BoolOp .And [a, b] pos) σ F (.bool (t && u)) := wv_scal (fun _ => .bl _) fun H s Q q => we_and2 (ha.bl s fun H1 s1 => ⟨t, rfl, by
  cases t with
  | true => exact iteT ((hb rfl).bl (s.trans s1) fun H2 s2 => q H2 (s1.trans s2))
  | false => exact iteF (q H1 s1)⟩)
theorem wv_or2 {t u : Bool} (ha : Wv X a σ F (.bool t)) (hb : t = false → Wv X b σ F (.bool u)) : Wv X (.BoolOp .Or [a, b] pos) σ F (.bool (t || u)) := wv_scal (fun _ => .bl _) fun H s Q q => we_or2 (ha.bl s fun H1 s1 => ⟨t, rfl, by
  cases t with
  | true => exact iteT (q H1 s1)
  | false => exact iteF ((hb rfl).bl (s.trans s1) fun H2 s2 => q H2 (s1.trans s2))⟩)
theorem we_not {Q : VK} (h : We X a σ H fun v H1 => ∃ k, v = .bl k ∧ Q (.bl (!k)) H1) : We X (.UnaryOp .Not a pos) σ H Q := we_of (pe_not we_pe) h
theorem wv_not {t : Bool} (h : Wv X a σ F (.bool t)) : Wv X (.UnaryOp .Not a pos) σ F (.bool (!t)) := wv_scal (fun _ => .bl _) fun H s Q q => we_not (h.bl s fun H' s' => ⟨t, rfl, q H' s'⟩)
theorem we_if {Q : VK} (h : Wt X c σ H fun k H1 => if k = true then We X a σ H1 Q else We X b σ H1 Q) : We X (.IfExp c a b pos) σ H Q := we_of (pe_ifExp wt_pt we_pe we_pe) h
theorem wv_if {t : Bool} (hc : Wq X c σ F t) (ha : t = true → Wv X a σ F d) (hb : t = false → Wv X b σ F d) : Wv X (.IfExp c a b pos) σ F d := fun H s Q q => we_if (hc H s _ fun H1 s1 => by
  have key : ∀ {e : Expr}, Wv X e σ F d → We X e σ H1 Q := fun {e} h => h H1 (s.trans s1) Q fun v F' H' g hd => q v F' H' ⟨g.ff, g.fh, s1.trans g.hh, fun x e n => g.fr x e fun z => n (s1.free z)⟩ hd
  cases t with
  | true => exact iteT (key (ha rfl))
  | false => exact iteF (key (hb rfl)))
/-! ### calls of built-ins -/
theorem we_callB {id : String} {r : List V → Hp → VK → Prop} {Q : VK} (hc : CallR X (.builtin id) r) (hm : X.mg x = none) (h : Wa X (e :: es) σ H fun vs H1 => r vs H1 Q) (hg : Gl X x := by rfl) (hv : bootBuiltins x = some (.builtin id) := by decide +kernel) (hn : x ≠ "__name__" := by decide) (hdb : (x == ("__debug__" : Str)) = false := by decide)
    (he : starEach (e :: es) X.env = (false, eval e X.env) :: starEach es X.env := by rfl) (hpl : (backTo pos (starEach es X.env)).any (·.1) = false := by rfl) : We X (.Call (.Name x p) (e :: es) [] pos) σ H Q := we_of (pe_callB hc hg hm hv wa_pa hn hdb he hpl) h
theorem we_callTy {T : String} {r : List V → Hp → VK → Prop} {Q : VK} (hc : CallR X (.type T) r) (hm : X.mg x = none) (h : Wa X (e :: es) σ H fun vs H1 => r vs H1 Q) (hg : Gl X x := by rfl) (hv : bootBuiltins x = some (.type T) := by decide +kernel) (hn : x ≠ "__name__" := by decide) (hdb : (x == ("__debug__" : Str)) = false := by decide)
    (he : starEach (e :: es) X.env = (false, eval e X.env) :: starEach es X.env := by rfl) (hpl : (backTo pos (starEach es X.env)).any (·.1) = false := by rfl) : We X (.Call (.Name x p) (e :: es) [] pos) σ H Q := we_of (pe_callTy hc hg hm hv wa_pa hn hdb he hpl) h
/-- what r makes of the one argument da is d -/
def CD (X : Cx) (r : List V → Hp → VK → Prop) (F : Hp) (da d : PyData) : Prop := ∀ F1 H1 v, Same F F1 → Same F1 H1 → Dq X.K F1 v da → ∀ Q : VK, (∀ z F' H', Gr F1 H1 F' H' → Dq X.K F' z d → Q z H') → r [v] H1 Q
theorem CD.run {r : List V → Hp → VK → Prop} (k : CD X r F da d) (ha : Wv X a σ F da) (he : starEach [a] X.env = (false, eval a X.env) :: starEach [] X.env) {H : Hp} (s : Same F H) {Q : VK} (q : ∀ z F' H', Gr F H F' H' → Dq X.K F' z d → Q z H') : Wa X [a] σ H fun vs H1 => r vs H1 Q :=
  wa_cons (ha H s _ fun v F1 H1 g1 h1 => wa_nil (k F1 H1 v g1.ff g1.fh h1 Q fun z F3 H3 g3 h3 => q z F3 H3 (g1.trans g3) h3)) he
theorem wv_callB {id : String} {r : List V → Hp → VK → Prop} (hc : CallR X (.builtin id) r) (k : CD X r F da d) (ha : Wv X a σ F da) (hm : X.mg x = none) (hg : Gl X x := by rfl) (hv : bootBuiltins x = some (.builtin id) := by decide +kernel) (hn : x ≠ "__name__" := by decide) (hdb : (x == ("__debug__" : Str)) = false := by decide)
    (he : starEach [a] X.env = (false, eval a X.env) :: starEach [] X.env := by rfl) (hpl : (backTo pos (starEach [] X.env)).any (·.1) = false := by rfl) : Wv X (.Call (.Name x p) [a] [] pos) σ F d := fun H s Q q => we_callB hc hm (k.run ha he s q) hg hv hn hdb he hpl
theorem wv_callTy {T : String} {r : List V → Hp → VK → Prop} (hc : CallR X (.type T) r) (k : CD X r F da d) (ha : Wv X a σ F da) (hm : X.mg x = none) (hg : Gl X x := by rfl) (hv : bootBuiltins x = some (.type T) := by decide +kernel) (hn : x ≠ "__name__" := by decide) (hdb : (x == ("__debug__" : Str)) = false := by decide)
    (he : starEach [a] X.env = (false, eval a X.env) :: starEach [] X.env := by rfl) (hpl : (backTo pos (starEach [] X.env)).any (·.1) = false := by rfl) : Wv X (.Call (.Name x p) [a] [] pos) σ F d := fun H s Q q => we_callTy hc hm (k.run ha he s q) hg hv hn hdb he hpl
theorem cd_lenL : CD X (fun xs H Q => ∃ p ys, xs = [.ref p] ∧ (SqL X.K H p ys ∨ SqT X.K H p ys) ∧ Q (.int ys.length) H) F (.list ds) (.int ds.length) := fun F1 H1 v _ s h Q q => by
  obtain ⟨l, xs, rfl, e1, e2⟩ := h.lst_inv
  exact ⟨l, xs, rfl, .inl (SqL.of (s _ _ e1)), by rw [e2.length]; exact q _ F1 H1 (Gr.refl s) (.int _)⟩
theorem cd_lenT : CD X (fun xs H Q => ∃ p ys, xs = [.ref p] ∧ (SqL X.K H p ys ∨ SqT X.K H p ys) ∧ Q (.int ys.length) H) F (.tuple ds) (.int ds.length) := fun F1 H1 v _ s h Q q => by
  obtain ⟨l, xs, rfl, e1, e2⟩ := h.tup_inv
  exact ⟨l, xs, rfl, .inr (same_t s e1), by rw [e2.length]; exact q _ F1 H1 (Gr.refl s) (.int _)⟩
theorem cd_tupleL : CD X (fun xs H Q => ∃ p ys, xs = [.ref p] ∧ ((SqL X.K H p ys ∧ ∀ l, H l = none → Q (.ref l) (upd H l (.tup ys))) ∨ (SqT X.K H p ys ∧ Q (.ref p) H))) F (.list ds) (.tuple ds) := fun F1 H1 v _ s h Q q => by
  obtain ⟨l, xs, rfl, e1, e2⟩ := h.lst_inv
  exact ⟨l, xs, rfl, .inl ⟨SqL.of (s _ _ e1), fun p hp => q _ _ _ (Gr.new s hp) (.tup (.inl upd_same) (e2.mono (same_new (s.free hp))))⟩⟩
theorem cd_tupleT : CD X (fun xs H Q => ∃ p ys, xs = [.ref p] ∧ ((SqL X.K H p ys ∧ ∀ l, H l = none → Q (.ref l) (upd H l (.tup ys))) ∨ (SqT X.K H p ys ∧ Q (.ref p) H))) F (.tuple ds) (.tuple ds) := fun F1 H1 v _ s h Q q => by
  obtain ⟨l, xs, e, e1, e2⟩ := h.tup_inv
  rw [e] at h ⊢
  exact ⟨l, xs, rfl, .inr ⟨same_t s e1, q _ F1 H1 (Gr.refl s) h⟩⟩
theorem cd_listT : CD X (fun xs H Q => ∃ p ys, xs = [.ref p] ∧ (SqL X.K H p ys ∨ SqT X.K H p ys) ∧ ∀ l, H l = none → Q (.ref l) (upd H l (.lst ys))) F (.tuple ds) (.list ds) := fun F1 H1 v _ s h Q q => by
  obtain ⟨l, xs, rfl, e1, e2⟩ := h.tup_inv
  exact ⟨l, xs, rfl, .inr (same_t s e1), fun p hp => q _ _ _ (Gr.new s hp) (.lst upd_same (e2.mono (same_new (s.free hp))))⟩
theorem cd_intI : CD X (fun xs H Q => (∃ i, xs = [.int i] ∧ Q (.int i) H) ∨ ∃ k, xs = [.bl k] ∧ Q (.int (if k then 1 else 0)) H) F (.int i) (.int i) := fun F1 H1 v _ s h Q q => .inl ⟨i, by rw [h.int_inv], q _ F1 H1 (Gr.refl s) (.int _)⟩
theorem cd_intB {t : Bool} : CD X (fun xs H Q => (∃ i, xs = [.int i] ∧ Q (.int i) H) ∨ ∃ k, xs = [.bl k] ∧ Q (.int (if k then 1 else 0)) H) F (.bool t) (.int (if t then 1 else 0)) := fun F1 H1 v _ s h Q q => .inr ⟨t, by rw [h.bl_inv], q _ F1 H1 (Gr.refl s) (.int _)⟩
theorem cd_any {bs : List Bool} : CD X (rAny X.K) F (.list (bs.map .bool)) (.bool (bs.any id)) := fun F1 H1 v _ s h Q q => by
  obtain ⟨l, xs, rfl, e1, e2⟩ := h.lst_inv
  rw [e2.bools] at e1
  exact ⟨l, bs, rfl, SqL.of (s _ _ e1), q _ F1 H1 (Gr.refl s) (.bl _)⟩
theorem cd_all {bs : List Bool} : CD X (rAll X.K) F (.list (bs.map .bool)) (.bool (bs.all id)) := fun F1 H1 v _ s h Q q => by
  obtain ⟨l, xs, rfl, e1, e2⟩ := h.lst_inv
  rw [e2.bools] at e1
  exact ⟨l, bs, rfl, SqL.of (s _ _ e1), q _ F1 H1 (Gr.refl s) (.bl _)⟩
theorem cd_abs : CD X (fun xs H Q => ∃ i, xs = [.int i] ∧ Q (.int (if i < 0 then -i else i)) H) F (.int i) (.int (if i < 0 then -i else i)) := fun F1 H1 v _ s h Q q => ⟨i, by rw [h.int_inv], q _ F1 H1 (Gr.refl s) (.int _)⟩
end
end K29
set_option Elab.async false
set_option linter.all false
set_option maxRecDepth 100000
set_option maxHeartbeats 4000000
/-! enumerate(tuple) -/
namespace K29
open PySem PySem.Spec PyProof.Rows L2
set_option maxHeartbeats 1000000 in
theorem meets_enum1 {v : Value} {ob : Obj} {G : Heap → Prop} (B : Begins v ob G) :
    Meets (Builtin.«enumerate.__new__» ⟨[.type "enumerate", v], []⟩) (fun _ R s => G s.heap ∧
      R (.ok (.ret (.ref (s.heap.push ob).objs.size))) { s with heap := (s.heap.push ob).push { cls := .type "enumerate", data := .fields #[.none, .bool false, .ref s.heap.objs.size, rawInt 0, .none, .none] } }) :=
  .of_wp fun pr w A R s z => by
    obtain ⟨hp, gs, dr, tk, os⟩ := s
    obtain ⟨hG, hR⟩ := z
    have hsub := sub_enumerate
    have it1 : ∀ {A' : Around} {E : Value → Shared → Prop} {Q : Value → Shared → Prop}, Q (.ref hp.objs.size) ⟨hp.push ob, gs, dr, tk, os⟩ → wpAny (model pr w) A' (pyIter v) Q E ⟨hp, gs, dr, tk, os⟩ := fun q => B.iter pr w _ _ ⟨hp, gs, dr, tk, os⟩ _ hG q
    wp_walk using it1
    refine wpAny_stack_any fun st => wpAny_pure ?_
    split
    · rename_i cc _ _ _ _ _
      cases (cc == Value.type "enumerate") <;> (wp_walk using it1; exact ⟨_, rfl, hR⟩)
    · wp_walk using it1
      exact ⟨_, rfl, hR⟩
theorem call_enum1 {prog : Program} {w : World} {A : Around} {E : Value → Shared → Prop} {s : Shared} {v : Value} {ob : Obj} {G : Heap → Prop} {Q : Value → Shared → Prop} (B : Begins v ob G) (hG : G s.heap)
    (k : ∀ h', IsEnum h' (s.heap.objs.size + 1) s.heap.objs.size 0 .none → h'.get? s.heap.objs.size = some ob → (∀ b o, s.heap.get? b = some o → h'.get? b = some o) → Q (.ref (s.heap.objs.size + 1)) { s with heap := h' }) :
    wpAny (model prog w) A (call (.type "enumerate") [v]) Q E s := by
  refine callType_new F.called_enumerate (by decide) (F.typeCall_enumerate_1 _) (F.newCall_enumerate_1 _) (fun obj => F.args_object_init_2 obj _) F.entry_enumerate_new (meets_enum1 B) ⟨hG, ?_⟩
  have z1 : (s.heap.push ob).objs.size = s.heap.objs.size + 1 := Heap.size_push ..
  rw [z1]
  have e1 := Heap.get?_push_size (s.heap.push ob) (o := { cls := .type "enumerate", data := .fields #[.none, .bool false, .ref s.heap.objs.size, rawInt 0, .none, .none] }) rfl
  rw [z1] at e1
  exact ⟨⟨_, e1, rfl⟩, k _ e1 (Heap.get?_push_of_some _ (Heap.get?_push_size _ B.free)) fun b o q => Heap.get?_push_of_some _ (Heap.get?_push_of_some _ q)⟩
/-- the tuple at a, each item in a new pair with its number -/
def Iet (K : PySem.W.Frag) (a : Addr) : It :=
  ⟨fun i H => ∃ xs x, SqT K H a xs ∧ xs[i]? = some x, fun i H v H' => ∃ T x, v = .ref T ∧ H T = none ∧ H' = upd H T (.tup [.int (i : Nat), x]) ∧ ∀ xs, SqT K H a xs → xs[i]? = some x, fun i H => ∃ xs, SqT K H a xs ∧ xs.length ≤ i⟩
theorem turn_enumT {P : Program} {w : World} {K : PySem.W.Frag} {elts : List Expr} {kk : Nat} {tpos : Pos} (a e it : Addr) (hai : a ≠ it) (hei : e ≠ it) (hea : e ≠ a) :
    Turn P w K (.Tuple elts kk tpos) (Iet K a) [e, it] e (fun i h => (∃ old, IsEnum h e it ((i : Nat) : Int) old) ∧ h.IsTupleIter it a i) where
  mem := by simp
  obj := fun i h st b hb => by
    obtain ⟨⟨old, he⟩, o, ho, _, hd⟩ := st
    rcases (by simpa using hb : b = e ∨ b = it) with rfl | rfl
    · exact ⟨_, he, fun v q => nomatch q⟩
    · exact ⟨o, ho, fun v q => by rw [hd] at q; cases q⟩
  keep := fun i h h' st k => ⟨st.1.imp fun old he => k e (by simp) _ he, st.2.at fun o q => k it (by simp) o q⟩
  item := by
    intro X hP hw hK hc i pins s σ H E I hf st hg
    subst hP hw hK
    obtain ⟨⟨old, he⟩, hit⟩ := st
    obtain ⟨xs, x, hq, hx⟩ := hg
    obtain ⟨its, rv, tp, _⟩ := I.tuple hq
    obtain ⟨u, hu, ru⟩ := rv.get hx
    have le : e < s.heap.objs.size := Heap.lt_size he
    have li : it < s.heap.objs.size := by
      obtain ⟨_, q, _⟩ := hit
      exact Heap.lt_size q
    have hd1 : X.A.in1.handled = none := I.ok.hd hc
    refine wpAny_pyNext_enum_itemD (Draws.tuple (prog := X.prog) (w := X.w) (A := X.A.in1) hd1 it a hai its.toArray) he ⟨hit, tp⟩ (by simpa using (List.getElem?_eq_some_iff.mp hu).1) hei (by simp [hei, hea]) fun y h' tk hy ho hst hT hsz hk => ?_
    have ey : y = u := by
      have q : its.toArray[i]? = some y := hy
      rw [List.getElem?_toArray, hu] at q
      exact (Option.some.inj q).symm
    subst ey
    refine ⟨_, rfl, wpAny_letOwnedTupleGo_enum (s := { s with heap := h', toks := tk + 1 }) ho fun h2 he2 sb => ?_⟩
    have hT2 : h2.get? s.heap.objs.size = some { cls := .type "tuple", data := .seq #[.int i tk, y] } := (sb.2 _ (Nat.ne_of_gt le)).trans hT
    have new : ObjOk X.prog X.w (upd H s.heap.objs.size (.tup [.int (i : Nat), x])) h2 s.heap.objs.size (.tup [.int (i : Nat), x]) := ⟨by show 2 ≤ sizeLine; decide, [.int i tk, y], .cons ⟨_, rfl⟩ (.cons ru .nil), ⟨_, hT2, rfl, _, rfl⟩⟩
    have J : Inv X pins σ (upd H s.heap.objs.size (.tup [.int (i : Nat), x])) { s with heap := h2, toks := tk + 1 } := I.turnedNew (ch := [e, it]) (fun b ob hb q => (sb.2 b (fun z => hb (by simp [z]))).trans (hk b ob (fun z => hb (by simp [z])) (fun z => hb (by simp [z])) q)) hf (Nat.le_refl _) new
    refine ⟨.ref s.heap.objs.size, _, J, rfl, ⟨_, x, rfl, I.hok.fresh (Nat.le_refl _), rfl, fun ys hy => by rw [I.tuple_inj hy hq]; exact hx⟩, ⟨⟨y, ?_⟩, hst.1.at fun o q => (sb.2 it (Ne.symm hei)).trans q⟩, fun b hb => ?_⟩
    · rw [show ((i + 1 : Nat) : Int) = (i : Int) + 1 by omega]
      exact he2
    · have lb : b < s.heap.objs.size := by
        rcases (by simpa using hb : b = e ∨ b = it) with rfl | rfl
        · exact le
        · exact li
      rw [upd_ne (Nat.ne_of_lt lb)]
      exact (hf b hb).1
  done := by
    intro X hP hw hK hc i pins s σ H E I hf st hg
    subst hP hw hK
    obtain ⟨⟨old, he⟩, hit⟩ := st
    obtain ⟨xs, hq, hx⟩ := hg
    obtain ⟨its, rv, tp, _⟩ := I.tuple hq
    obtain ⟨f0, f1, f2, f3, f4, f5⟩ := hf it (by simp)
    have hl := rv.length
    have hd1 : X.A.in1.handled = none := I.ok.hd hc
    have none_ : its.toArray[i]? = none := by simp; omega
    have D : Draws X.prog X.w X.A.in1 it [it, a] i (fun _ _ => True) (fun j h => j = i ∧ h.IsTupleIter it a j ∧ h.IsTuple a its.toArray) :=
      { live := fun _ _ q => let ⟨o, ho, _⟩ := q.2.1; ⟨o, ho⟩
        frame := fun _ _ _ q kp => ⟨q.1, q.2.1.at fun o z => kp it (by simp) o z, q.2.2.at fun o z => kp a (by simp) o z⟩
        item := fun j s' Q' E' hj q _ => absurd hj (by rw [q.1]; exact Nat.lt_irrefl _)
        done := fun s' Q' E' q hE => wpAny_nextOf_tuple_end hd1 q.2.1 q.2.2 none_ hE }
    exact wpAny_pyNext_enum_endD D he ⟨rfl, hit, tp⟩ fun h' eb => ⟨rfl, I.turned (t' := s.toks) (fun b o hb q => eb b o hb q) f0 f1 f3 f4 f5⟩
  self := fun A i s Q E st h => by
    obtain ⟨⟨_, he⟩, _⟩ := st
    exact wpAny_pyIter_enum he h
def iEnT (K : PySem.W.Frag) (ta : TA) : TI := fun σ H R => ta σ H fun vs H1 => ∃ a xs, vs = [.ref a] ∧ SqT K H1 a xs ∧ R (Iet K a) H1
theorem pi_enT {X : Cx} {e : Expr} {ta : TA} {p pos tpos : Pos} {elts : List Expr} {kk : Nat} (hm : X.mg "enumerate" = none) (ha : PA X [e] ta) (hg : Gl X "enumerate" := by rfl) (hs : starEach [e] X.env = [(false, eval e X.env)] := by rfl) :
    PI X (.Tuple elts kk tpos) (.Call (.Name "enumerate" p) [e] [] pos) (iEnT X.K ta) := by
  refine ⟨fun pins s σ H R I h => ?_⟩
  refine Call_ (ld_blt I hg hm boot_enumerate (PyProof.Rows.callWith_type1 (thn (ha.run pos pins s σ H _ I h) fun us s1 ⟨vs, H1, I1, r1, a, xs, ex, hq, q⟩ => ?_) hs rfl))
  rw [ex] at r1
  obtain ⟨u, eu, ru⟩ := vals1 r1
  cases ru
  rw [eu]
  obtain ⟨its, rv, tp, _⟩ := I1.tuple hq
  have la : a < s1.heap.objs.size := tp.lt
  refine call_enum1 (begins_tuple a its.toArray) tp fun h' he ho kp => wpAny_pyIter_enum he ?_
  refine ⟨s1.heap.objs.size + 1, [s1.heap.objs.size + 1, s1.heap.objs.size], _, _, H1, rfl, I1.kept (t' := s1.toks) kp, turn_enumT a (s1.heap.objs.size + 1) s1.heap.objs.size (Nat.ne_of_lt la) (Nat.succ_ne_self _) (Nat.ne_of_gt (Nat.lt_succ_of_lt la)), ⟨⟨.none, he⟩, _, ho, rfl, rfl⟩, fun b hb => ?_, q⟩
  have lb : s1.heap.objs.size ≤ b := by
    rcases (by simpa using hb : b = s1.heap.objs.size + 1 ∨ b = s1.heap.objs.size) with rfl | rfl
    · exact Nat.le_succ _
    · exact Nat.le_refl _
  exact I1.fpOk lb (I1.hok.fresh lb)
theorem walk_enT {K : PySem.W.Frag} {a : Addr} {xs : List V} : Walk (Iet K a) xs.length (fun H => SqT K H a xs) (YPair (fun i => some (.int (i : Nat))) (fun i => xs[i]?)) where
  goes := fun i H hi h => ⟨xs, xs[i], h, List.getElem?_eq_getElem hi⟩
  stops := fun H h => ⟨xs, h, Nat.le_refl _⟩
  yields := fun i H v H' hi h ⟨T, x, ev, hT, eH, hx⟩ => ⟨T, _, x, ev, hT, eH, rfl, hx xs h⟩
end K29
set_option Elab.async false
set_option linter.all false
set_option maxRecDepth 100000
set_option maxHeartbeats 4000000
/-! what is walked; loops; comprehensions; statements -/
namespace K29
open PySem L2
/-! ### what is walked -/
/-- at each turn a thing of ds -/
def Src (K : PySem.W.Frag) (J : It) (F : Hp) (ds : List PyData) : Prop := Walk J ds.length (fun H => Same F H) (fun i H x H' => ∀ F2, Same F F2 → Same F2 H → ∃ d F', ds[i]? = some d ∧ Gr F2 H F' H' ∧ Dq K F' x d)
def Wsrc (X : Cx) (tg it : Expr) (σ : L2.St) (F : Hp) (ds : List PyData) : Prop := ∀ H, Same F H → ∀ R : It → Hp → Prop, (∀ J F' H', Gr F H F' H' → Src X.K J F' ds → R J H') → Wi X tg it σ H R
def enumD (ds : List PyData) : List PyData := ds.mapIdx fun i d => .tuple [.int (i : Nat), d]
theorem enumD_len (ds : List PyData) : (enumD ds).length = ds.length := by unfold enumD; rw [List.length_mapIdx]
theorem enumD_at {ds : List PyData} {i : Nat} {d : PyData} (h : ds[i]? = some d) : (enumD ds)[i]? = some (.tuple [.int (i : Nat), d]) := by
  unfold enumD
  rw [List.getElem?_mapIdx, h]
  rfl
def rangeD (lo : Int) (n : Nat) : List PyData := (List.range n).map fun i => .int (lo + (i : Nat))
section
variable {K : PySem.W.Frag} {F : Hp} {a : Addr} {vs : List V} {ds : List PyData}
theorem src_list (h : F a = some (.lst vs)) (hd : DqAll K F vs ds) : Src K (Itl K a) F ds := by
  unfold Src
  rw [← hd.length]
  refine walk_list.mono (fun H s => SqL.of (s _ _ h)) fun i H x H' hi s y F2 s1 s2 => ?_
  obtain ⟨rfl, e⟩ := y
  obtain ⟨d, e1, e2⟩ := hd.get' e
  exact ⟨d, F2, e1, Gr.refl s2, e2.mono s1⟩
theorem src_tup (h : SqT K F a vs) (hd : DqAll K F vs ds) : Src K (Itt K a) F ds := by
  unfold Src
  rw [← hd.length]
  refine walk_tup.mono (fun H s => same_t s h) fun i H x H' hi s y F2 s1 s2 => ?_
  obtain ⟨rfl, e⟩ := y
  obtain ⟨d, e1, e2⟩ := hd.get' e
  exact ⟨d, F2, e1, Gr.refl s2, e2.mono s1⟩
theorem src_range {lo : Int} {n : Nat} : Src K (Itr lo n) F (rangeD lo n) := by
  unfold Src
  rw [show (rangeD lo n).length = n by unfold rangeD; simp]
  refine walk_range.mono (fun H s => trivial) fun i H x H' hi s y F2 s1 s2 => ?_
  obtain ⟨rfl, rfl⟩ := y
  exact ⟨_, F2, by unfold rangeD; rw [List.getElem?_map, List.getElem?_range hi]; rfl, Gr.refl s2, .int _⟩
theorem pair_new {H F2 : Hp} {T : Addr} {i : Nat} {x : V} {d : PyData} (s : Same F2 H) (hT : H T = none) (hd : Dq K F2 x d) : ∃ F', Gr F2 H F' (upd H T (.tup [.int (i : Nat), x])) ∧ Dq K F' (.ref T) (.tuple [.int (i : Nat), d]) :=
  ⟨_, Gr.new s hT, .tup (.inl upd_same) (.cons (.int _) (.cons (hd.mono (same_new (s.free hT))) .nil))⟩
theorem src_enumL (h : F a = some (.lst vs)) (hd : DqAll K F vs ds) : Src K (Ite K a) F (enumD ds) := by
  unfold Src
  rw [enumD_len, ← hd.length]
  refine walk_enum.mono (fun H s => SqL.of (s _ _ h)) fun i H x H' hi s y F2 s1 s2 => ?_
  obtain ⟨T, x1, y1, rfl, hT, rfl, e0, e⟩ := y
  cases e0
  obtain ⟨d, e1, e2⟩ := hd.get' e
  obtain ⟨F', g, h2⟩ := pair_new (i := i) s2 hT (e2.mono s1)
  exact ⟨_, F', enumD_at e1, g, h2⟩
theorem src_enumT (h : SqT K F a vs) (hd : DqAll K F vs ds) : Src K (Iet K a) F (enumD ds) := by
  unfold Src
  rw [enumD_len, ← hd.length]
  refine walk_enT.mono (fun H s => same_t s h) fun i H x H' hi s y F2 s1 s2 => ?_
  obtain ⟨T, x1, y1, rfl, hT, rfl, e0, e⟩ := y
  cases e0
  obtain ⟨d, e1, e2⟩ := hd.get' e
  obtain ⟨F', g, h2⟩ := pair_new (i := i) s2 hT (e2.mono s1)
  exact ⟨_, F', enumD_at e1, g, h2⟩
end
section
variable {X : Cx} {tg it a b e : Expr} {σ : L2.St} {F H : Hp} {ds : List PyData} {pos p tpos : Pos}
theorem wsrc_list (h : Wv X it σ F (.list ds)) : Wsrc X tg it σ F ds := fun H s R k => wi_of (pi_list we_pe) (h H s _ fun v F1 H1 g hd => by
  obtain ⟨l, xs, rfl, e1, e2⟩ := hd.lst_inv
  exact ⟨l, rfl, ⟨xs, SqL.of (g.fh _ _ e1)⟩, k _ F1 H1 g (src_list e1 e2)⟩)
theorem wsrc_tup (h : Wv X it σ F (.tuple ds)) : Wsrc X tg it σ F ds := fun H s R k => wi_of (pi_tup we_pe) (h H s _ fun v F1 H1 g hd => by
  obtain ⟨l, xs, rfl, e1, e2⟩ := hd.tup_inv
  exact ⟨l, rfl, ⟨xs, same_t g.fh e1⟩, k _ F1 H1 g (src_tup e1 e2)⟩)
theorem wsrc_range1 {n : Int} (hm : X.mg "range" = none) (h : Wv X a σ F (.int n)) (h1 : 0 ≤ n ∧ n ≤ 100000) (hg : Gl X "range" := by rfl) (hs : starEach [a] X.env = [(false, eval a X.env)] := by rfl) : Wsrc X tg (.Call (.Name "range" p) [a] [] pos) σ F (rangeD 0 n.toNat) := fun H s R k =>
  wi_of (pi_range1 hg hm wa_pa hs) (wa_cons (h.int s fun H1 s1 => wa_nil ⟨n, rfl, by omega, by omega, k _ F H1 ⟨Same.refl _, s.trans s1, s1, fun _ e _ => e⟩ src_range⟩) hs)
theorem wsrc_range2 {m n : Int} (hm : X.mg "range" = none) (ha : Wv X a σ F (.int m)) (hb : Wv X b σ F (.int n)) (h1 : 0 ≤ m ∧ m ≤ 100000 ∧ 0 ≤ n ∧ n ≤ 100000) (hg : Gl X "range" := by rfl) (hs : starEach [a, b] X.env = [(false, eval a X.env), (false, eval b X.env)] := by rfl)
    (hs2 : starEach [b] X.env = [(false, eval b X.env)] := by rfl) : Wsrc X tg (.Call (.Name "range" p) [a, b] [] pos) σ F (rangeD m (n - m).toNat) := fun H s R k =>
  wi_of (pi_range2 hg hm wa_pa hs hs2) (wa_cons (ha.int s fun H1 s1 => wa_cons (hb.int (s.trans s1) fun H2 s2 => wa_nil ⟨m, n, rfl, by omega, k _ F H2 ⟨Same.refl _, s.trans (s1.trans s2), s1.trans s2, fun _ e _ => e⟩ src_range⟩) hs2) (by rw [hs, hs2]))
theorem wsrc_enumL {elts : List Expr} {kk : Nat} (hm : X.mg "enumerate" = none) (h : Wv X e σ F (.list ds)) (hg : Gl X "enumerate" := by rfl) (hs : starEach [e] X.env = [(false, eval e X.env)] := by rfl) : Wsrc X (.Tuple elts kk tpos) (.Call (.Name "enumerate" p) [e] [] pos) σ F (enumD ds) := fun H s R k =>
  wi_of (pi_enum hg hm wa_pa hs) (wa_cons (h H s _ fun v F1 H1 g hd => wa_nil (by
    obtain ⟨l, xs, rfl, e1, e2⟩ := hd.lst_inv
    exact ⟨l, xs, rfl, SqL.of (g.fh _ _ e1), k _ F1 H1 g (src_enumL e1 e2)⟩)) hs)
theorem wsrc_enumT {elts : List Expr} {kk : Nat} (hm : X.mg "enumerate" = none) (h : Wv X e σ F (.tuple ds)) (hg : Gl X "enumerate" := by rfl) (hs : starEach [e] X.env = [(false, eval e X.env)] := by rfl) : Wsrc X (.Tuple elts kk tpos) (.Call (.Name "enumerate" p) [e] [] pos) σ F (enumD ds) := fun H s R k =>
  wi_of (pi_enT hm wa_pa hg hs) (wa_cons (h H s _ fun v F1 H1 g hd => wa_nil (by
    obtain ⟨l, xs, rfl, e1, e2⟩ := hd.tup_inv
    exact ⟨l, xs, rfl, same_t g.fh e1, k _ F1 H1 g (src_enumT e1 e2)⟩)) hs)
theorem Wsrc.mono {F2 : Hp} (s : Same F F2) (h : Wsrc X tg it σ F ds) : Wsrc X tg it σ F2 ds := fun H sh R k => h H (s.trans sh) R fun J F' H' g hs => by
  obtain ⟨g2, s2⟩ := g.lift s sh
  refine k J _ H' g2 (hs.mono (fun H s' => s2.trans s') fun i H x H' hi s' y F3 s3 => y F3 (s2.trans s3))
end
/-! ### comprehensions -/
section
variable {X : Cx} {elt tg it c : Expr} {ifs : List Expr} {scope : Scope} {vs : List Nat} {own : List (Str × Nat)} {σ σ2 : L2.St} {F F1 H : Hp} {pos : Pos}
abbrev Bk (X : Cx) (scope : Scope) (s0 : Shared) (H0 : Hp) (C : Addr) (cl : List (Str × Addr)) (fp : List Addr) : Cx := X.blk s0 H0 scope (compEnvC scope cl C X.env) fp
def gAll (X : Cx) (scope : Scope) (tg : Expr) : TG := fun v σ H Q => ∀ (s0 : Shared) (H0 : Hp) (C : Addr) (cl : List (Str × Addr)) (fp : List Addr), Wg (Bk X scope s0 H0 C cl fp) tg v σ H Q
def eAll (X : Cx) (scope : Scope) (e : Expr) : TE := fun σ H Q => ∀ (s0 : Shared) (H0 : Hp) (C : Addr) (cl : List (Str × Addr)) (fp : List Addr), We (Bk X scope s0 H0 C cl fp) e σ H Q
def tAll (X : Cx) (scope : Scope) (ifs : List Expr) : TT := fun σ H Q => ∀ (s0 : Shared) (H0 : Hp) (C : Addr) (cl : List (Str × Addr)) (fp : List Addr), ∀ (pins : List (Addr × Obj)) (s : Shared), Inv (Bk X scope s0 H0 C cl fp) pins σ H s →
  wpAny (model X.prog X.w) X.A (forIn ifs true fun c r => if r = true then do let ok ← isTrue c (compEnvC scope cl C X.env) (eval c (compEnvC scope cl C X.env)); pure (ForInStep.yield ok) else pure (ForInStep.yield r)) (TP (Bk X scope s0 H0 C cl fp) pins σ Q) (fun _ _ => False) s
def LcW (X : Cx) (elt tg it : Expr) (ifs : List Expr) (scope : Scope) (vs : List Nat) (σ : L2.St) (H : Hp) (Q : VK) : Prop := tLc (Wi X tg it) (gAll X scope tg) (tAll X scope ifs) (eAll X scope elt) vs σ H Q
theorem we_lc {Q : VK} (hN : X.N.Nodup) (ok : BlkOk X.N X.env.scope scope own) (h : LcW X elt tg it ifs scope (own.map (·.2)) σ H Q) (hc : X.calm = true := by rfl) (hs : ∀ x, foldedSetIterable it X.env x = pure x := by intro _; rfl) : We X (.ListComp elt [⟨tg, it, ifs, 0⟩] scope pos) σ H Q :=
  we_of (pe_lc (g := gAll X scope tg) (tt := tAll X scope ifs) (te := eAll X scope elt) hc hN wi_pi ok (fun s0 H0 C cl fp => ⟨fun pins s σ H v u Q I r z => z s0 H0 C cl fp pins s u I r⟩) (fun s0 H0 C cl fp => ⟨fun pins s σ H Q I z => z s0 H0 C cl fp pins s I⟩) (fun s0 H0 C cl fp => ⟨fun pins s σ H Q I z => z s0 H0 C cl fp pins s I⟩) hs) h
theorem w1_setLc {D : Ends} {i : Nat} {y : Str} {py spos : Pos} (hN : X.N.Nodup) (ok : BlkOk X.N X.env.scope scope own) (h : LcW X elt tg it ifs scope (own.map (·.2)) σ H fun v H' => D.nx (σ.set i (some v)) H') (hy : X.N[i]? = some y := by rfl) (hyl : X.env.scope.names.lookup y = some .local := by rfl) (hk : X.env.scope.kind = .function := by rfl)
    (hl : (py.line == spos.line) = true := by rfl) (hp2 : (py.line == pos.line) = true := by rfl) (ha : (scope.names.any fun (n, k) => n == y && (k == .local || k == .cell)) = false := by decide +kernel) (hc : X.calm = true := by rfl) (hs : ∀ x, foldedSetIterable it X.env x = pure x := by intro _; rfl) :
    W1 X (.Assign [.Name y py] (.ListComp elt [⟨tg, it, ifs, 0⟩] scope pos) spos) D σ H :=
  w1_of (ps_setLc (i := i) (g := gAll X scope tg) (tt := tAll X scope ifs) (te := eAll X scope elt) hc hN hy hyl (sw_true hk hyl hp2 ha) wi_pi ok (fun s0 H0 C cl fp => ⟨fun pins s σ H v u Q I r z => z s0 H0 C cl fp pins s u I r⟩) (fun s0 H0 C cl fp => ⟨fun pins s σ H Q I z => z s0 H0 C cl fp pins s I⟩) (fun s0 H0 C cl fp => ⟨fun pins s σ H Q I z => z s0 H0 C cl fp pins s I⟩) hs) h
/-- what the tests say -/
def TsOk (X : Cx) (scope : Scope) (ifs : List Expr) (σ : L2.St) (F : Hp) (b : Bool) : Prop := ∀ H, Same F H → ∀ Q : Bool → Hp → Prop, (∀ H', Same H H' → Q b H') → tAll X scope ifs σ H Q
theorem ts_nil : TsOk X scope [] σ F true := fun H s Q q s0 H0 C cl fp pins st I => (pts_nil (X := Bk X scope s0 H0 C cl fp)).run pins st σ H Q I (q H (Same.refl H))
theorem ts_one {b : Bool} (h : ∀ (s0 : Shared) (H0 : Hp) (C : Addr) (cl : List (Str × Addr)) (fp : List Addr), Wq (Bk X scope s0 H0 C cl fp) c σ F b) : TsOk X scope [c] σ F b := fun H s Q q s0 H0 C cl fp pins st I => (pts_one (X := Bk X scope s0 H0 C cl fp) wt_pt).run pins st σ H Q I (h s0 H0 C cl fp H s Q q)
/-- the list that is made -/
theorem lcv {α : Type} {xs : List α} {enc : α → PyData} (A : α → Hp → L2.St → Prop) (p : α → Bool) (f : α → PyData) (hsrc : Wsrc X tg it σ F (xs.map enc)) (hz : xs.length ≤ 100000)
    (htg : ∀ x ∈ xs, ∀ v F1 H1, Same F F1 → Same F1 H1 → Dq X.K F1 v (enc x) → ∃ σ2, wipe σ2 vs = wipe σ vs ∧ A x F1 σ2 ∧ ∀ Qs : L2.St → Hp → Prop, Qs σ2 H1 → gAll X scope tg v (wipe σ vs) H1 Qs)
    (ht : ∀ x ∈ xs, ∀ F1 σ2, Same F F1 → A x F1 σ2 → TsOk X scope ifs σ2 F1 (p x))
    (he : ∀ x ∈ xs, p x = true → ∀ F1 σ2, Same F F1 → A x F1 σ2 → ∀ (s0 : Shared) (H0 : Hp) (C : Addr) (cl : List (Str × Addr)) (fp : List Addr), Wv (Bk X scope s0 H0 C cl fp) elt σ2 F1 (f x))
    (H : Hp) (s : Same F H) (Q : VK) (q : ∀ v F' H', Gr F H F' H' → Dq X.K F' v (.list ((xs.filter p).map f)) → Q v H') : LcW X elt tg it ifs scope vs σ H Q := by
  refine hsrc H s _ fun J F0 H0 g0 hJ D hD => ?_
  have len : (xs.map enc).length = xs.length := List.length_map ..
  refine lc_it hJ (fun i H' => ∃ Fi acc, Gr F0 H0 Fi H' ∧ Fi D = none ∧ H' D = some (.lst acc) ∧ acc.length ≤ i ∧ DqAll X.K Fi acc (((xs.take i).filter p).map f)) ⟨F0, [], Gr.newM g0.fh hD, g0.fh.free hD, upd_same, Nat.le_refl _, .nil⟩
    (fun i H' _ ⟨Fi, acc, g, _⟩ => g.ff.trans g.fh) ?_ ?_
  · rintro i v H1 H2 hi ⟨Fi, acc, gi, fD, hDi, hl, ha⟩ hy
    rw [len] at hi
    obtain ⟨d, F2, ed, g2, dv⟩ := hy Fi gi.ff gi.fh
    have ex : xs[i]? = some xs[i] := List.getElem?_eq_getElem hi
    rw [List.getElem?_map, ex] at ed
    cases ed
    have mem : xs[i] ∈ xs := List.getElem_mem hi
    have sF : Same F F2 := g0.ff.trans (gi.ff.trans g2.ff)
    have fD2 : F2 D = none := g2.noF fD hDi
    obtain ⟨σ2, w2, A2, hg⟩ := htg _ mem v F2 H2 sF g2.fh dv
    refine hg _ ⟨w2, ht _ mem F2 σ2 sF A2 H2 g2.fh _ fun H3 s3 => ?_⟩
    have tk : xs.take (i + 1) = xs.take i ++ [xs[i]] := by rw [List.take_add_one, ex]; rfl
    have g3 : Gr F0 H0 F2 H3 := ⟨gi.ff.trans g2.ff, g2.fh.trans s3, (gi.hh.trans g2.hh).trans s3, (gi.trans g2).fr⟩
    have hD3 : H3 D = some (.lst acc) := s3 _ _ (g2.hh _ _ hDi)
    cases pe : p xs[i] with
    | true =>
      refine iteT fun s0 H0' C cl fp => he _ mem pe F2 σ2 sF A2 s0 H0' C cl fp H3 g3.fh _ fun y F4 H4 g4 dy => ?_
      refine ⟨acc, g4.hh _ _ hD3, Nat.lt_of_le_of_lt hl (Nat.lt_of_lt_of_le (Nat.lt_of_lt_of_le hi hz) (by decide)), F4, acc ++ [y], (g3.trans g4).mut hD (g4.noF fD2 hD3), g4.noF fD2 hD3, upd_same, by rw [List.length_append]; exact Nat.succ_le_succ hl, ?_⟩
      rw [tk, List.filter_append, List.map_append, List.filter_cons, if_pos pe]
      exact (ha.mono (g2.ff.trans g4.ff)).append (.cons dy .nil)
    | false =>
      refine iteF ⟨F2, acc, g3, fD2, hD3, Nat.le_succ_of_le hl, ?_⟩
      rw [tk, List.filter_append, List.map_append, List.filter_cons, if_neg (by rw [pe]; exact Bool.false_ne_true)]
      rw [List.filter_nil, List.map_nil, List.append_nil]
      exact ha.mono g2.ff
  · rintro H1 ⟨Fi, acc, gi, fD, hDi, hl, ha⟩
    rw [len, List.take_length] at ha
    exact q _ _ _ (g0.trans (gi.freeze hD fD hDi)) (.lst upd_same (ha.mono (same_new fD)))
/-- the target a name -/
theorem lcv_n {α : Type} {xs : List α} {enc : α → PyData} (j : Nat) (p : α → Bool) (f : α → PyData) (hsrc : Wsrc X tg it σ F (xs.map enc)) (hz : xs.length ≤ 100000)
    (hg : ∀ (s0 : Shared) (H0 : Hp) (C : Addr) (cl : List (Str × Addr)) (fp : List Addr), PG (Bk X scope s0 H0 C cl fp) tg (gName j)) (hw : ∀ v : V, wipe ((wipe σ vs).set j (some v)) vs = wipe σ vs)
    (ht : ∀ x ∈ xs, ∀ F1 v, Same F F1 → Dq X.K F1 v (enc x) → TsOk X scope ifs ((wipe σ vs).set j (some v)) F1 (p x))
    (he : ∀ x ∈ xs, p x = true → ∀ F1 v, Same F F1 → Dq X.K F1 v (enc x) → ∀ (s0 : Shared) (H0 : Hp) (C : Addr) (cl : List (Str × Addr)) (fp : List Addr), Wv (Bk X scope s0 H0 C cl fp) elt ((wipe σ vs).set j (some v)) F1 (f x))
    (H : Hp) (s : Same F H) (Q : VK) (q : ∀ v F' H', Gr F H F' H' → Dq X.K F' v (.list ((xs.filter p).map f)) → Q v H') : LcW X elt tg it ifs scope vs σ H Q :=
  lcv (fun x F1 σ2 => ∃ v, σ2 = (wipe σ vs).set j (some v) ∧ Dq X.K F1 v (enc x)) p f hsrc hz (fun x _ v F1 H1 _ _ hd => ⟨_, hw v, ⟨v, rfl, hd⟩, fun Qs z s0 H0 C cl fp => wg_of (hg s0 H0 C cl fp) z⟩)
    (fun x hx F1 σ2 sF ⟨v, e, hd⟩ => by rw [e]; exact ht x hx F1 v sF hd) (fun x hx px F1 σ2 sF ⟨v, e, hd⟩ => by rw [e]; exact he x hx px F1 v sF hd) H s Q q
/-- the target a pair of names -/
theorem lcv_p {α : Type} {xs : List α} {e1 e2 : α → PyData} (j l : Nat) (p : α → Bool) (f : α → PyData) (hsrc : Wsrc X tg it σ F (xs.map fun x => .tuple [e1 x, e2 x])) (hz : xs.length ≤ 100000)
    (hg : ∀ (s0 : Shared) (H0 : Hp) (C : Addr) (cl : List (Str × Addr)) (fp : List Addr), PG (Bk X scope s0 H0 C cl fp) tg (gTup X.K 2 (gCons (gName j) (gCons (gName l) gNil)))) (hw : ∀ v w : V, wipe (((wipe σ vs).set j (some v)).set l (some w)) vs = wipe σ vs)
    (ht : ∀ x ∈ xs, ∀ F1 v w, Same F F1 → Dq X.K F1 v (e1 x) → Dq X.K F1 w (e2 x) → TsOk X scope ifs (((wipe σ vs).set j (some v)).set l (some w)) F1 (p x))
    (he : ∀ x ∈ xs, p x = true → ∀ F1 v w, Same F F1 → Dq X.K F1 v (e1 x) → Dq X.K F1 w (e2 x) → ∀ (s0 : Shared) (H0 : Hp) (C : Addr) (cl : List (Str × Addr)) (fp : List Addr), Wv (Bk X scope s0 H0 C cl fp) elt (((wipe σ vs).set j (some v)).set l (some w)) F1 (f x))
    (H : Hp) (s : Same F H) (Q : VK) (q : ∀ v F' H', Gr F H F' H' → Dq X.K F' v (.list ((xs.filter p).map f)) → Q v H') : LcW X elt tg it ifs scope vs σ H Q :=
  lcv (enc := fun x => .tuple [e1 x, e2 x]) (fun x F1 σ2 => ∃ v w, σ2 = ((wipe σ vs).set j (some v)).set l (some w) ∧ Dq X.K F1 v (e1 x) ∧ Dq X.K F1 w (e2 x)) p f hsrc hz (fun x _ u F1 H1 _ sH hd => by
      obtain ⟨a, us, rfl, h1, h2⟩ := hd.tup_inv
      obtain ⟨v, r, rfl, d1, h3⟩ := h2.cons_inv
      obtain ⟨w, r, rfl, d2, h4⟩ := h3.cons_inv
      rw [h4.nil_inv] at h1
      exact ⟨_, hw v w, ⟨v, w, rfl, d1, d2⟩, fun Qs z s0 H0 C cl fp => wg_of (hg s0 H0 C cl fp) ⟨a, [v, w], rfl, same_t sH h1, rfl, v, [w], rfl, w, [], rfl, rfl, z⟩⟩)
    (fun x hx F1 σ2 sF ⟨v, w, e, d1, d2⟩ => by rw [e]; exact ht x hx F1 v w sF d1 d2) (fun x hx px F1 σ2 sF ⟨v, w, e, d1, d2⟩ => by rw [e]; exact he x hx px F1 v w sF d1 d2) H s Q q
theorem filt_all {α : Type} (xs : List α) : xs.filter (fun _ => true) = xs := List.filter_eq_self.mpr fun _ _ => rfl
/-- no tests -/
theorem lcv_n0 {α : Type} {xs : List α} {enc : α → PyData} (j : Nat) (f : α → PyData) (hsrc : Wsrc X tg it σ F (xs.map enc)) (hz : xs.length ≤ 100000)
    (hg : ∀ (s0 : Shared) (H0 : Hp) (C : Addr) (cl : List (Str × Addr)) (fp : List Addr), PG (Bk X scope s0 H0 C cl fp) tg (gName j)) (hw : ∀ v : V, wipe ((wipe σ vs).set j (some v)) vs = wipe σ vs)
    (he : ∀ x ∈ xs, ∀ F1 v, Same F F1 → Dq X.K F1 v (enc x) → ∀ (s0 : Shared) (H0 : Hp) (C : Addr) (cl : List (Str × Addr)) (fp : List Addr), Wv (Bk X scope s0 H0 C cl fp) elt ((wipe σ vs).set j (some v)) F1 (f x))
    (H : Hp) (s : Same F H) (Q : VK) (q : ∀ v F' H', Gr F H F' H' → Dq X.K F' v (.list (xs.map f)) → Q v H') : LcW X elt tg it [] scope vs σ H Q :=
  lcv_n j (fun _ => true) f hsrc hz hg hw (fun _ _ _ _ _ _ => ts_nil) (fun x hx _ F1 v sF hd => he x hx F1 v sF hd) H s Q (by rw [filt_all]; exact q)
theorem lcv_p0 {α : Type} {xs : List α} {e1 e2 : α → PyData} (j l : Nat) (f : α → PyData) (hsrc : Wsrc X tg it σ F (xs.map fun x => .tuple [e1 x, e2 x])) (hz : xs.length ≤ 100000)
    (hg : ∀ (s0 : Shared) (H0 : Hp) (C : Addr) (cl : List (Str × Addr)) (fp : List Addr), PG (Bk X scope s0 H0 C cl fp) tg (gTup X.K 2 (gCons (gName j) (gCons (gName l) gNil)))) (hw : ∀ v w : V, wipe (((wipe σ vs).set j (some v)).set l (some w)) vs = wipe σ vs)
    (he : ∀ x ∈ xs, ∀ F1 v w, Same F F1 → Dq X.K F1 v (e1 x) → Dq X.K F1 w (e2 x) → ∀ (s0 : Shared) (H0 : Hp) (C : Addr) (cl : List (Str × Addr)) (fp : List Addr), Wv (Bk X scope s0 H0 C cl fp) elt (((wipe σ vs).set j (some v)).set l (some w)) F1 (f x))
    (H : Hp) (s : Same F H) (Q : VK) (q : ∀ v F' H', Gr F H F' H' → Dq X.K F' v (.list (xs.map f)) → Q v H') : LcW X elt tg it [] scope vs σ H Q :=
  lcv_p j l (fun _ => true) f hsrc hz hg hw (fun _ _ _ _ _ _ _ _ => ts_nil) (fun x hx _ F1 v w sF h1 h2 => he x hx F1 v w sF h1 h2) H s Q (by rw [filt_all]; exact q)
/-- as a value -/
theorem wv_lc {d : PyData} (hN : X.N.Nodup) (ok : BlkOk X.N X.env.scope scope own) (h : ∀ H, Same F H → ∀ Q : VK, (∀ v F' H', Gr F H F' H' → Dq X.K F' v d → Q v H') → LcW X elt tg it ifs scope (own.map (·.2)) σ H Q) (hc : X.calm = true := by rfl) (hs : ∀ x, foldedSetIterable it X.env x = pure x := by intro _; rfl) : Wv X (.ListComp elt [⟨tg, it, ifs, 0⟩] scope pos) σ F d :=
  fun H s Q q => we_lc hN ok (h H s Q q) hc hs
end
/-! ### statements -/
section
variable {X : Cx} {a b c e : Expr} {st : Stmt} {sts sts2 : List Stmt} {σ : L2.St} {F H : Hp} {d : PyData} {D : Ends} {pos py : Pos} {x : Str}
theorem wb_nil (q : D.nx σ H) : Wb X [] D σ H := wb_of pss_nil q
theorem wb_cons (h : W1 X st { D with nx := Wb X sts D } σ H) : Wb X (st :: sts) D σ H := wb_of (pss_cons w1_ps wb_pss) h
theorem wb_one (h : W1 X st D σ H) : Wb X [st] D σ H := wb_of (pss_one w1_ps) h
theorem w1_set (i : Nat) (nd : X.N.Nodup) (h : We X e σ H fun v H1 => D.nx (σ.set i (some v)) H1) (hi : X.N[i]? = some x := by rfl) (hx : Loc X.env.scope x := by first | exact Or.inl rfl | exact Or.inr rfl) (hs : swapsWith e (some (.Name x py)) pos.line X.env = pure false := by rfl) (hf : X.fn x = true ∨ X.env.scope.names.lookup x = some .local := by first | exact .inl rfl | exact .inr rfl) :
    W1 X (.Assign [.Name x py] e pos) D σ H := w1_of (ps_set (i := i) nd hi hx we_pe hs hf) h
theorem w1_setv (i : Nat) (nd : X.N.Nodup) (h : Wv X e σ F d) (s : Same F H) (k : ∀ v F' H', Gr F H F' H' → Dq X.K F' v d → D.nx (σ.set i (some v)) H') (hi : X.N[i]? = some x := by rfl) (hx : Loc X.env.scope x := by first | exact Or.inl rfl | exact Or.inr rfl) (hs : swapsWith e (some (.Name x py)) pos.line X.env = pure false := by rfl) (hf : X.fn x = true ∨ X.env.scope.names.lookup x = some .local := by first | exact .inl rfl | exact .inr rfl) :
    W1 X (.Assign [.Name x py] e pos) D σ H := w1_set i nd (h H s _ k) hi hx hs hf
theorem w1_ret (h : We X e σ H D.rt) : W1 X (.Return (some e) pos) D σ H := w1_of (ps_ret we_pe) h
theorem w1_retN (h : D.rt .non H) : W1 X (.Return none pos) D σ H := w1_of ps_retN h
theorem w1_expr (h : We X e σ H fun _ H1 => D.nx σ H1) (hs : swapsWith e none pos.line X.env = pure false := by rfl) : W1 X (.Expr e pos) D σ H := w1_of (ps_expr we_pe hs) h
theorem w1_if (h : Wt X c σ H fun k H1 => if k = true then Wb X sts D σ H1 else Wb X sts2 D σ H1) : W1 X (.If c sts sts2 pos) D σ H := w1_of (ps_if wt_pt wb_pss wb_pss) h
theorem w1_ifq {t : Bool} (h : Wq X c σ F t) (s : Same F H) (h1 : t = true → ∀ H', Same H H' → Wb X sts D σ H') (h2 : t = false → ∀ H', Same H H' → Wb X sts2 D σ H') : W1 X (.If c sts sts2 pos) D σ H := w1_if (h H s _ fun H' s' => by
  cases t with
  | true => exact iteT (h1 rfl H' s')
  | false => exact iteF (h2 rfl H' s'))
theorem w1_aug (i : Nat) {op : Operator} {ti : TIp} {u : V} (nd : X.N.Nodup) (ho : PIp X op ti) (hu : σ[i]? = some (some u)) (h : We X e σ H fun y H1 => ti u y H1 fun z H2 => D.nx (σ.set i (some z)) H2) (hi : X.N[i]? = some x := by rfl) (hx : Loc X.env.scope x := by first | exact Or.inl rfl | exact Or.inr rfl) (hf : X.fn x = true ∨ X.env.scope.names.lookup x = some .local := by first | exact .inl rfl | exact .inr rfl) :
    W1 X (.AugAssign (.Name x py) op e pos) D σ H := w1_of (ps_aug (i := i) nd hi hx we_pe ho hf) ⟨u, hu, h⟩
theorem w1_asg {tg : Expr} (h : We X e σ H fun v H1 => Wg X tg v σ H1 D.nx) (hs : swapsWithSole [tg] e pos.line X.env = pure false := by rfl) (hw : swappedStores [tg] e X.env = pure none := by rfl) (h1 : (assignEach [tg] X.env).map (·.2) = [assign tg X.env] := by rfl) : W1 X (.Assign [tg] e pos) D σ H := w1_of (ps_asg we_pe wg_pg hs hw h1) h
theorem w1_for {tg it : Expr} {body : List Stmt} (h : tFor (Wi X tg it) (Wg X tg) (Wb X body) D σ H) (hx : X.xe = fun _ _ => False := by rfl) (hc : X.calm = true := by rfl) (hs : ∀ x, foldedSetIterable it X.env x = pure x := by intro _; rfl) : W1 X (.For tg it body [] pos) D σ H :=
  w1_of (ps_for (by rw [hx]; exact PassesOwn.never) hc wi_pi wg_pg wb_pss hs) h
theorem w1_forD {tg it : Expr} {body : List Stmt} {ds : List PyData} (Pv : Hp → Nat → L2.St → Hp → Prop) (hsrc : Wsrc X tg it σ F ds) (s : Same F H) (h0 : ∀ F1 H1, Gr F H F1 H1 → Pv F1 0 σ H1) (hG : ∀ F1 i σ' H', Pv F1 i σ' H' → Same F1 H')
    (hs : ∀ F1 i d v σ' H1 H2, ds[i]? = some d → Pv F1 i σ' H1 → (∀ F2, Same F1 F2 → Same F2 H1 → ∃ F3, Gr F2 H1 F3 H2 ∧ Dq X.K F3 v d) → Wg X tg v σ' H2 fun σ2 H3 => Wb X body { D with nx := Pv F1 (i + 1), ct := Pv F1 (i + 1), bk := D.nx } σ2 H3)
    (hd : ∀ F1 σ' H', Pv F1 ds.length σ' H' → D.nx σ' H') (hx : X.xe = fun _ _ => False := by rfl) (hc : X.calm = true := by rfl) (hf : ∀ x, foldedSetIterable it X.env x = pure x := by intro _; rfl) : W1 X (.For tg it body [] pos) D σ H :=
  w1_for (hsrc H s _ fun J F1 H1 g hJ => for_it hJ (Pv F1) (h0 F1 H1 g) (fun i σ' H' _ p => hG F1 i σ' H' p) (fun i v σ' H' H2 hi p y => by
    have ed : ds[i]? = some ds[i] := List.getElem?_eq_getElem hi
    exact hs F1 i _ v σ' H' H2 ed p fun F2 s1 s2 => by
      obtain ⟨d', F3, e', g', dv⟩ := y F2 s1 s2
      rw [ed] at e'
      cases e'
      exact ⟨F3, g', dv⟩) (hd F1)) hx hc hf
theorem w1_while {body : List Stmt} (h : tWhile (Wt X c) (Wb X body) D σ H) (hx : X.xe = fun _ _ => False := by rfl) : W1 X (.While c body [] pos) D σ H := w1_of (ps_while (by rw [hx]; exact PassesOwn.never) wt_pt wb_pss) h
theorem wg_name (i : Nat) {v : V} {Q : L2.St → Hp → Prop} (nd : X.N.Nodup) (q : Q (σ.set i (some v)) H) (hi : X.N[i]? = some x := by rfl) (hx : Loc X.env.scope x := by first | exact Or.inl rfl | exact Or.inr rfl) (hf : X.fn x = true ∨ X.env.scope.names.lookup x = some .local := by first | exact .inl rfl | exact .inr rfl) : Wg X (.Name x py) v σ H Q := wg_of (pg_name (i := i) nd hi hx hf) q
/-- a pair, taken apart -/
theorem wg_pair {t1 t2 : Expr} {k : Nat} {u : V} {d1 d2 : PyData} {Q : L2.St → Hp → Prop} (hd : Dq X.K F u (.tuple [d1, d2])) (s : Same F H) (h : ∀ v w, Dq X.K F v d1 → Dq X.K F w d2 → Wgs X [t1, t2] [v, w] σ H Q) (hc : X.calm = true := by rfl) (hn : (assignEach [t1, t2] X.env).length = 2 := by rfl) (hst : (assignEach [t1, t2] X.env).findIdx? (·.1) = none := by rfl) : Wg X (.Tuple [t1, t2] k pos) u σ H Q := by
  obtain ⟨a, us, rfl, h1, h2⟩ := hd.tup_inv
  obtain ⟨v, r, rfl, d1, h3⟩ := h2.cons_inv
  obtain ⟨w, r, rfl, d2, h4⟩ := h3.cons_inv
  rw [h4.nil_inv] at h1
  exact wg_of (pg_tup hc wgs_pgs hn hst) ⟨a, [v, w], rfl, same_t s h1, rfl, h v w d1 d2⟩
theorem wgs_cons {t : Expr} {ts : List Expr} {v : V} {vs : List V} {Q : L2.St → Hp → Prop} (h : Wg X t v σ H fun σ1 H1 => Wgs X ts vs σ1 H1 Q) (hs : (assignEach (t :: ts) X.env).map (·.2) = assign t X.env :: (assignEach ts X.env).map (·.2) := by rfl) : Wgs X (t :: ts) (v :: vs) σ H Q := wgs_of (pgs_cons wg_pg wgs_pgs hs) ⟨v, vs, rfl, h⟩
theorem wgs_nil {Q : L2.St → Hp → Prop} (q : Q σ H) : Wgs X [] [] σ H Q := wgs_of pgs_nil ⟨rfl, q⟩
end
end K29
set_option Elab.async false
set_option linter.all false
set_option maxRecDepth 100000
set_option maxHeartbeats 4000000
/-! calls and promises -/
namespace K29
open PySem PySem.Spec PyProof.Rows L2
section
variable {X : Cx} {k j : Nat} {C : Addr} {x m : Str} {sp : Sp} {dvs : List V} {p pos apos : Pos} {e o : Expr} {es : List Expr} {σ : L2.St} {F H : Hp} {d : PyData} {ds : List PyData}
theorem we_call {Q : VK} (c : C8.Cal X.prog X.w X.K X.mg X.base k x sp dvs) (hr : Room j X.A) (h : Wa X (e :: es) σ H fun vs H1 => sp (vs ++ dvs) H1 Q C8.E0) (hk : k ≤ j := by decide) (hg : Gl X x := by rfl) (hdb : (x == ("__debug__" : Str)) = false := by decide)
    (he : starEach (e :: es) X.env = (false, eval e X.env) :: starEach es X.env := by rfl) (hpl : (backTo pos (starEach es X.env)).any (·.1) = false := by rfl) : We X (.Call (.Name x p) (e :: es) [] pos) σ H Q := we_of (C8.pe_c c hr hk hg wa_pa hdb he hpl) h
theorem we_meth {Q : VK} {pl : Sem Bool} (c : C8.Met X.prog X.w X.K X.mg X.base k C m sp dvs) (hr : Room j X.A) (h : We X o σ H fun v H1 => ∃ a dx fs, v = .ref a ∧ H1 a = some (.ins C dx fs) ∧ fs.lookup m = none ∧ Wa X (e :: es) σ H1 fun vs H2 => sp (v :: (vs ++ dvs)) H2 Q C8.E0) (hk : k ≤ j := by decide)
    (hst : starEach (e :: es) X.env = (false, eval e X.env) :: starEach es X.env := by rfl) (hpl : (backTo pos (starEach es X.env)).any (·.1) = false := by rfl)
    (ht : eval (.Call (.Attribute o m apos) (e :: es) [] pos) X.env = (do
      let ov ← eval o X.env
      standAt apos.atName
      let (f, first) ← holding [ov] (getMethod ov m pl)
      callWith pos f first (backTo pos (starEach (e :: es) X.env)) (backToKw pos (keywordEach [] X.env))) := by rfl) : We X (.Call (.Attribute o m apos) (e :: es) [] pos) σ H Q := we_of (C8.pe_mt (pl := pl) c hr hk we_pe wa_pa hst hpl ht) h
theorem we_meth0 {Q : VK} {pl : Sem Bool} (c : C8.Met X.prog X.w X.K X.mg X.base k C m sp dvs) (hr : Room j X.A) (h : We X o σ H fun v H1 => ∃ a dx fs, v = .ref a ∧ H1 a = some (.ins C dx fs) ∧ fs.lookup m = none ∧ sp (v :: dvs) H1 Q C8.E0) (hk : k ≤ j := by decide)
    (ht : eval (.Call (.Attribute o m apos) [] [] pos) X.env = (do
      let ov ← eval o X.env
      standAt apos.atName
      let (f, first) ← holding [ov] (getMethod ov m pl)
      callWith pos f first (backTo pos (starEach [] X.env)) (backToKw pos (keywordEach [] X.env))) := by rfl) : We X (.Call (.Attribute o m apos) [] [] pos) σ H Q := we_of (C8.pe_mt0 (pl := pl) c hr hk we_pe ht) h
theorem we_make {Q : VK} (c : C8.Mak X.prog X.w X.K X.mg X.base k x C sp dvs) (hr : Room j X.A) (h : Wa X (e :: es) σ H fun vs H1 => ∀ y dx, H1 y = none → H1 dx = none → dx ≠ y → sp (.ref y :: (vs ++ dvs)) (upd (upd H1 dx (.own y)) y (.ins C dx [])) (fun v H2 => v = .non ∧ Q (.ref y) H2) C8.E0) (hk : k + 1 ≤ j := by decide) (hg : Gl X x := by rfl) (hdb : (x == ("__debug__" : Str)) = false := by decide)
    (he : starEach (e :: es) X.env = (false, eval e X.env) :: starEach es X.env := by rfl) (hpl : (backTo pos (starEach es X.env)).any (·.1) = false := by rfl) : We X (.Call (.Name x p) (e :: es) [] pos) σ H Q := we_of (C8.pe_mk c hr hk hg wa_pa hdb he hpl) h
theorem we_fld {Q : VK} {f : Str} (h : We X e σ H fun v H1 => ∃ a C dx fs u, v = .ref a ∧ H1 a = some (.ins C dx fs) ∧ Cls X.K C ∧ NoAttr X.K C f ∧ fs.lookup f = some u ∧ Q u H1) (hb : attributeBase e f X.env (eval e X.env) = eval e X.env := by rfl) : We X (.Attribute e f pos) σ H Q := we_of (pe_fld we_pe hb) h
end
/-! ### promises over data -/
def PuT {α : Type} (K : PySem.W.Frag) (args : α → List PyData) (pre : α → Prop) (res : α → PyData) : Sp := fun vs H Q _ => ∃ (F : Hp) (a : α), Same F H ∧ DqAll K F vs (args a) ∧ pre a ∧ ∀ v F' H', Gr F H F' H' → Dq K F' v (res a) → Q v H'
section
variable {X : Cx} {k j : Nat} {x : Str} {p pos : Pos} {e : Expr} {es : List Expr} {σ : L2.St} {F : Hp} {d : PyData} {α : Type} {args : α → List PyData} {pre : α → Prop} {res : α → PyData}
theorem wv_call (a : α) (c : C8.Cal X.prog X.w X.K X.mg X.base k x (PuT X.K args pre res) []) (hr : Room j X.A) (h : Wvs X (e :: es) σ F (args a)) (hp : pre a) (hk : k ≤ j := by decide) (hd : res a = d := by rfl) (hg : Gl X x := by rfl) (hdb : (x == ("__debug__" : Str)) = false := by decide)
    (he : starEach (e :: es) X.env = (false, eval e X.env) :: starEach es X.env := by rfl) (hpl : (backTo pos (starEach es X.env)).any (·.1) = false := by rfl) : Wv X (.Call (.Name x p) (e :: es) [] pos) σ F d := fun H s Q q =>
  we_call c hr (h H s _ fun vs F1 H1 g hd' => by
    rw [List.append_nil]
    exact ⟨F1, a, g.fh, hd', hp, fun v F2 H2 g2 d2 => q v F2 H2 (g.trans g2) (hd ▸ d2)⟩) hk hg hdb he hpl
end
/-- the context of a def's body -/
abbrev CxD (P : Program) (w : World) (K : PySem.W.Frag) (mg : Str → Option Value) (base : Heap) (N : List Str) (qual : Str) (sc : Scope) (f : Addr) (cd : Value) (A : Around) (outer : List Env) (s : Shared) (H : Hp) (E : XK) : Cx := (cxOf C8.CX0 P w K mg base N qual sc f cd A outer s H E).nox
abbrev DEnd (Q : VK) : Ends := { nx := fun _ H' => Q .non H', rt := Q }
section
variable {P : Program} {w : World} {K : PySem.W.Frag} {mg : Str → Option Value} {base : Heap} {x : Str} {st : Stmt} {f : Addr} {fd : FuncData} {N ps : List Str} {ds : List Value} {dvs : List V} {k : Nat} {sp : Sp}
theorem calW (F : C8.Def K mg x st f fd) (b : Binds K fd ps ds) (d : Vals dvs ds) (S : FnScope N ps (C8.fnScope st)) (len : ∀ vs H Q E, sp vs H Q E → vs.length = ps.length)
    (h : ∀ (cdv : Value) (A : Around) (outer : List Env) (s : Shared) (H : Hp) (vs : List V) (Q : VK) (E : XK), Room k (A.deeper (envOfC x (C8.fnScope st) s.heap.objs.size f cdv)) → sp vs H Q E → Wb (CxD P w K mg base N x (C8.fnScope st) f cdv A outer s H E) (C8.fnBody st) (DEnd Q) (start N vs) H) : C8.Cal P w K mg base (k + 1) x sp dvs :=
  C8.cal0 F b d S len fun cdv A outer s H vs Q E hr z => ⟨_, wb_pss, h cdv A outer s H vs Q E hr z⟩
/-- a def over data, every parameter given -/
theorem calP {α : Type} {args : α → List PyData} {pre : α → Prop} {res : α → PyData} (F : C8.Def K mg x st f fd) (b : Binds K fd ps []) (S : FnScope N ps (C8.fnScope st)) (hl : ∀ a, (args a).length = ps.length)
    (h : ∀ (cdv : Value) (A : Around) (outer : List Env) (s : Shared) (H : Hp) (vs : List V) (Q : VK) (E : XK) (G : Hp) (a : α), Room k (A.deeper (envOfC x (C8.fnScope st) s.heap.objs.size f cdv)) → Same G H → DqAll K G vs (args a) → pre a → (∀ v F' H', Gr G H F' H' → Dq K F' v (res a) → Q v H') →
      Wb (CxD P w K mg base N x (C8.fnScope st) f cdv A outer s H E) (C8.fnBody st) (DEnd Q) (start N vs) H) : C8.Cal P w K mg base (k + 1) x (PuT K args pre res) [] :=
  calW F b .nil S (fun vs H Q E ⟨G, a, _, hd, _⟩ => hd.length.trans (hl a)) fun cdv A outer s H vs Q E hr ⟨G, a, s0, hd, hp, q⟩ => h cdv A outer s H vs Q E G a hr s0 hd hp q
end
/-! ### the written names -/
structure Txt (K : PySem.W.Frag) (mg : Str → Option Value) : Prop where
  isinstance : mg "isinstance" = none
  list : mg "list" = none
  tuple : mg "tuple" = none
  enumerate : mg "enumerate" = none
  range : mg "range" = none
  len : mg "len" = none
  int : mg "int" = none
  sorted : mg "sorted" = none
  set : mg "set" = none
  any : mg "any" = none
  all : mg "all" = none
  min : mg "min" = none
  abs : mg "abs" = none
  dict : mg "dict" = none
  LOOK : ∃ t, mg "LOOK" = some (.str "look" t)
  ADD : ∃ t, mg "ADD" = some (.str "add" t)
  MEET : ∃ t, mg "MEET" = some (.str "meet" t)
  TELL : ∃ t, mg "TELL" = some (.str "tell" t)
  LONG : ∃ t, mg "LONG" = some (.str "long" t)
  ALIKE : ∃ t, mg "ALIKE" = some (.str "alike" t)
  BEGINS : ∃ t, mg "BEGINS" = some (.str "begins" t)
  PAIRED : ∃ a, mg "PAIRED" = some (.ref a) ∧ ∀ H, SqT K H a [.str "meet", .str "tell"]
/-! ### timetables -/
inductive Ev where
  | look (p : Int) | add (p : Int) | meet (p q : Int) | tell (p q : Int)
  deriving DecidableEq
def Ev.word : Ev → Str
  | .look _ => "look"
  | .add _ => "add"
  | .meet _ _ => "meet"
  | .tell _ _ => "tell"
def Ev.ps : Ev → List Int
  | .look p => [p]
  | .add p => [p]
  | .meet p q => [p, q]
  | .tell p q => [p, q]
def evD (e : Ev) : PyData := .tuple (.str e.word :: e.ps.map .int)
def Ev.p (e : Ev) : Int := e.ps.headD 0
structure Tab where
  n : Int
  evs : List Ev
def tabD (T : Tab) : PyData := .tuple [.int T.n, .tuple (T.evs.map evD)]
/-- pairs of ints -/
def prD (p : Int × Int) : PyData := .tuple [.int p.1, .int p.2]
/-- things with their places -/
def idxd {α : Type} (l : List α) : List (Int × α) := l.mapIdx fun i e => (((i : Nat) : Int), e)
theorem idxd_len {α : Type} (l : List α) : (idxd l).length = l.length := by unfold idxd; rw [List.length_mapIdx]
theorem enumD_map {α : Type} (f : α → PyData) (l : List α) : enumD (l.map f) = (idxd l).map fun x => .tuple [.int x.1, f x.2] := by
  unfold enumD idxd
  apply List.ext_getElem?
  intro i
  rw [List.getElem?_mapIdx, List.getElem?_map, List.getElem?_map, List.getElem?_mapIdx]
  cases l[i]? <;> rfl
/-- the places of the events with a word, each with its first person -/
def evsOf (T : Tab) (z : Str) : List (Int × Int) := ((idxd T.evs).filter fun q => decide (q.2.word = z)).map fun q => (q.1, q.2.p)
end K29
set_option Elab.async false
set_option linter.all false
set_option maxRecDepth 100000
set_option maxHeartbeats 4000000
/-! more expressions: in, chains, slices, tuple +, methods of lists -/
namespace K29
open PySem PySem.Spec PyProof.Rows L2
/-! ### in -/
def SeqI (d : PyData) (ns : List Int) : Prop := d = .list (ns.map .int) ∨ d = .tuple (ns.map .int)
theorem eqV_int (i j : Int) : eqV (.int i) (.int j) = decide (i = j) := by
  unfold eqV
  first | rfl | (rw [Bool.eq_iff_iff]; simp)
theorem inV_ints (i : Int) : ∀ ns : List Int, inV (.int i) (ns.map V.int) = decide (i ∈ ns)
  | [] => rfl
  | n :: ns => by
    have ih := inV_ints i ns
    unfold inV at ih ⊢
    rw [List.map_cons, List.any_cons, ih, eqV_int]
    rw [Bool.eq_iff_iff]
    simp only [Bool.or_eq_true, decide_eq_true_eq, List.mem_cons]
    exact ⟨fun h => h.imp Eq.symm id, fun h => h.imp Eq.symm id⟩
theorem flat_ints (ns : List Int) : (ns.map V.int).all flatV = true := by
  rw [List.all_map, List.all_eq_true]
  exact fun _ _ => rfl
section
variable {X : Cx} {a b c e o : Expr} {es : List Expr} {σ : L2.St} {F H : Hp} {d da db : PyData} {ds : List PyData} {x : Str} {pos p apos cpos : Pos} {i j k : Int} {ns ms : List Int}
theorem rd_in (neg : Bool) (h : SeqI db ns) : RD X (rIn X.K neg) F (.int i) db (.bool (if neg then !decide (i ∈ ns) else decide (i ∈ ns))) := fun F1 H1 v w _ s h1 h2 Q q => by
  rw [h1.int_inv]
  have fin : ∀ l, (SqL X.K H1 l (ns.map V.int) ∨ SqT X.K H1 l (ns.map V.int)) → rIn X.K neg (.int i) (.ref l) H1 Q := fun l hl => ⟨l, ns.map V.int, rfl, hl, rfl, flat_ints ns, by rw [inV_ints]; exact q _ F1 H1 (Gr.refl s) (.bl _)⟩
  rcases h with rfl | rfl
  · obtain ⟨l, rfl, e1⟩ := h2.lstI
    exact fin l (.inl (SqL.of (s _ _ e1)))
  · obtain ⟨l, rfl, e1⟩ := h2.tupI
    exact fin l (.inr (same_t s e1))
theorem wv_in (h : SeqI db ns) (ha : Wv X a σ F (.int i)) (hb : Wv X b σ F db) (hm : behindInMarks .In b = false := by rfl) : Wv X (.Compare a [.In] [b] pos) σ F (.bool (decide (i ∈ ns))) := wv_cmp op_in_seq (rd_in false h) ha hb hm
theorem wq_in (h : SeqI db ns) (ha : Wv X a σ F (.int i)) (hb : Wv X b σ F db) (hm : behindInMarks .In b = false := by rfl) : Wq X (.Compare a [.In] [b] pos) σ F (decide (i ∈ ns)) := wq_cmp op_in_seq (rd_in false h) ha hb hm
theorem wq_notIn (h : SeqI db ns) (ha : Wv X a σ F (.int i)) (hb : Wv X b σ F db) (hm : behindInMarks .NotIn b = false := by rfl) : Wq X (.Compare a [.NotIn] [b] pos) σ F (!decide (i ∈ ns)) := wq_cmp op_notIn_seq (rd_in true h) ha hb hm
/-- a text in PAIRED -/
theorem wv_paired {z : Str} (T : ∃ a, X.mg x = some (.ref a) ∧ ∀ H, SqT X.K H a [.str "meet", .str "tell"]) (ha : Wv X a σ F (.str z)) (hg : Gl X x := by rfl) (hd : (x == ("__debug__" : Str)) = false := by decide) (hm : behindInMarks .In (.Name x p) = false := by rfl) : Wv X (.Compare a [.In] [.Name x p] pos) σ F (.bool (decide (z = "meet" ∨ z = "tell"))) := wv_scal (fun _ => .bl _) fun H s Q q => by
  obtain ⟨t, e, hT⟩ := T
  refine we_cmp op_in_seq (ha.str s fun H1 s1 => we_of (pe_glob (v := .ref t) hg e rfl hd) ⟨t, _, rfl, .inr (hT H1), rfl, rfl, ?_⟩) hm
  have e2 : inV (.str z) [V.str "meet", V.str "tell"] = decide (z = "meet" ∨ z = "tell") := by
    rw [Bool.eq_iff_iff]
    simp only [inV, List.any_cons, List.any_nil, Bool.or_false, Bool.or_eq_true, decide_eq_true_eq, eqV, beq_iff_eq]
    exact ⟨fun h => h.imp Eq.symm Eq.symm, fun h => h.imp Eq.symm Eq.symm⟩
  show Q (.bl (if false = true then _ else _)) H1
  rw [if_neg Bool.false_ne_true, e2]
  exact q H1 s1
theorem wq_cmpP {z : Str} (T : ∃ a, X.mg x = some (.ref a) ∧ ∀ H, SqT X.K H a [.str "meet", .str "tell"]) (ha : Wv X a σ F (.str z)) (hg : Gl X x := by rfl) (hd : (x == ("__debug__" : Str)) = false := by decide) (hm : behindInMarks .In (.Name x p) = false := by rfl) : Wq X (.Compare a [.In] [.Name x p] pos) σ F (decide (z = "meet" ∨ z = "tell")) := fun H s Q q => by
  obtain ⟨t, e, hT⟩ := T
  refine wt_cmp op_in_seq (ha.str s fun H1 s1 => we_of (pe_glob (v := .ref t) hg e rfl hd) ⟨t, _, rfl, .inr (hT H1), rfl, rfl, _, rfl, ?_⟩) hm
  have e2 : inV (.str z) [V.str "meet", V.str "tell"] = decide (z = "meet" ∨ z = "tell") := by
    rw [Bool.eq_iff_iff]
    simp only [inV, List.any_cons, List.any_nil, Bool.or_false, Bool.or_eq_true, decide_eq_true_eq, eqV, beq_iff_eq]
    exact ⟨fun h => h.imp Eq.symm Eq.symm, fun h => h.imp Eq.symm Eq.symm⟩
  show Q (if false = true then _ else _) H1
  rw [if_neg Bool.false_ne_true, e2]
  exact q H1 s1
/-! ### chains -/
theorem we_chain {op op' : CmpOp} {r r' : R2} {Q : VK} (ho : OpR X (compareOp op) r) (ho' : OpR X (compareOp op') r') (h : tChain r r' (We X a) (We X b) (We X c) σ H Q) (hm : lastMarks [op, op'] [b, c] = false := by with_unfolding_all rfl) : We X (.Compare a [op, op'] [b, c] pos) σ H Q := we_of (pe_chain ho ho' we_pe we_pe we_pe hm) h
theorem wt_chain {op op' : CmpOp} {r r' : R2} {Q : Bool → Hp → Prop} (ho : OpR X (compareOp op) r) (ho' : OpR X (compareOp op') r') (h : tTest (tChain r r' (We X a) (We X b) (We X c)) σ H Q) (hm : lastMarks [op, op'] [b, c] = false := by with_unfolding_all rfl) : Wt X (.Compare a [op, op'] [b, c] pos) σ H Q := wt_of (pt_chain ho ho' we_pe we_pe we_pe hm) h
theorem chain_ints {g g' : Int → Int → Bool} (ha : Wv X a σ F (.int i)) (hb : Wv X b σ F (.int j)) (hc : Wv X c σ F (.int k)) (s : Same F H) {Q : VK} (q : ∀ H', Same H H' → Q (.bl (g i j && g' j k)) H') : tChain (rI0 fun i j => .bl (g i j)) (rI0 fun i j => .bl (g' i j)) (We X a) (We X b) (We X c) σ H Q :=
  ha.int s fun H1 s1 => hb.int (s.trans s1) fun H2 s2 => ⟨i, j, rfl, rfl, g i j, rfl, by
    cases e : g i j with
    | true =>
      refine iteT (hc.int (s.trans (s1.trans s2)) fun H3 s3 => ⟨j, k, rfl, rfl, ?_⟩)
      have z := q H3 (s1.trans (s2.trans s3))
      rw [e, Bool.true_and] at z
      exact z
    | false =>
      refine iteF ?_
      have z := q H2 (s1.trans s2)
      rw [e, Bool.false_and] at z
      exact z⟩
theorem wq_leLt (ha : Wv X a σ F (.int i)) (hb : Wv X b σ F (.int j)) (hc : Wv X c σ F (.int k)) (hm : lastMarks [.LtE, .Lt] [b, c] = false := by with_unfolding_all rfl) : Wq X (.Compare a [.LtE, .Lt] [b, c] pos) σ F (decide (i ≤ j) && decide (j < k)) := fun H s Q q =>
  wt_chain op_le op_lt (chain_ints (g := fun i j => decide (i ≤ j)) (g' := fun i j => decide (i < j)) ha hb hc s fun H' s' => ⟨_, rfl, q H' s'⟩) hm
theorem wv_ltLt (ha : Wv X a σ F (.int i)) (hb : Wv X b σ F (.int j)) (hc : Wv X c σ F (.int k)) (hm : lastMarks [.Lt, .Lt] [b, c] = false := by with_unfolding_all rfl) : Wv X (.Compare a [.Lt, .Lt] [b, c] pos) σ F (.bool (decide (i < j) && decide (j < k))) := wv_scal (fun _ => .bl _) fun H s Q q =>
  we_chain op_lt op_lt (chain_ints (g := fun i j => decide (i < j)) (g' := fun i j => decide (i < j)) ha hb hc s q) hm
theorem wq_ltLt (ha : Wv X a σ F (.int i)) (hb : Wv X b σ F (.int j)) (hc : Wv X c σ F (.int k)) (hm : lastMarks [.Lt, .Lt] [b, c] = false := by with_unfolding_all rfl) : Wq X (.Compare a [.Lt, .Lt] [b, c] pos) σ F (decide (i < j) && decide (j < k)) := fun H s Q q =>
  wt_chain op_lt op_lt (chain_ints (g := fun i j => decide (i < j)) (g' := fun i j => decide (i < j)) ha hb hc s fun H' s' => ⟨_, rfl, q H' s'⟩) hm
/-! ### slices -/
def cut {α : Type} (xs : List α) (lo hi : Option Int) : List α := (xs.drop (HT.sIx xs.length 0 lo)).take (HT.sIx xs.length xs.length hi - HT.sIx xs.length 0 lo)
theorem cut_len {α : Type} (xs : List α) (lo hi : Option Int) : (cut xs lo hi).length ≤ xs.length := by
  unfold cut
  rw [List.length_take, List.length_drop]
  omega
theorem cut_from {α : Type} (xs : List α) (n : Nat) : cut xs (some (n : Int)) none = xs.drop n := by
  unfold cut
  rw [HT.sIx_nat, HT.sIx_none]
  rcases Nat.le_total n xs.length with h | h
  · rw [Nat.min_eq_left h]
    exact List.take_of_length_le (by rw [List.length_drop]; exact Nat.le_refl _)
  · rw [Nat.min_eq_right h, List.drop_eq_nil_of_le (Nat.le_refl _), List.drop_eq_nil_of_le h]
    simp
theorem cut_to {α : Type} (xs : List α) (n : Nat) : cut xs none (some (n : Int)) = xs.take n := by
  unfold cut
  rw [HT.sIx_nat, HT.sIx_none, List.drop_zero, Nat.sub_zero]
  rcases Nat.le_total n xs.length with h | h
  · rw [Nat.min_eq_left h]
  · rw [Nat.min_eq_right h, List.take_of_length_le (Nat.le_refl _), List.take_of_length_le h]
theorem DqAll.cut {K : PySem.W.Frag} {vs : List V} (h : DqAll K F vs ds) (lo hi : Option Int) : DqAll K F (cutV vs lo hi) (K29.cut ds lo hi) := by
  unfold cutV K29.cut
  rw [h.length]
  exact (h.drop _).take _
/-- the bounds of a slice -/
def Wo (X : Cx) (e : Option Expr) (σ : L2.St) (F : Hp) (v : Option Int) : Prop := match e, v with
  | none, none => True
  | some e, some i => Wv X e σ F (.int i)
  | _, _ => False
theorem wo_none : Wo X none σ F none := True.intro
theorem wo_some {e : Expr} {i : Int} (h : Wv X e σ F (.int i)) : Wo X (some e) σ F (some i) := h
theorem we_slice {lo hi : Option Expr} {p2 : Pos} {r : V → Option Int → Option Int → Hp → VK → Prop} {Q : VK} {u w : Option Int} (hr : SlR X r) (hl : Wo X lo σ F u) (hh : Wo X hi σ F w) (h : We X e σ H fun v H1 => Same F H1 ∧ ∀ H2, Same H1 H2 → r v u w H2 Q) : We X (.Subscript e (.Slice lo hi none p2) pos) σ H Q := by
  have key : ∀ {o : Option Expr} {z : Option Int}, Wo X o σ F z → ∃ t, PO X o t ∧ ∀ H1 (Q : Option Int → Hp → Prop), Same F H1 → (∀ H2, Same H1 H2 → Q z H2) → t σ H1 Q := fun {o z} h => by
    cases o with
    | none =>
      cases z with
      | none => exact ⟨_, po_none, fun H1 Q s q => q H1 (Same.refl _)⟩
      | some i => exact h.elim
    | some e' =>
      cases z with
      | none => exact h.elim
      | some i => exact ⟨_, po_some we_pe, fun H1 Q s q => Wv.int h s fun H2 s2 => ⟨i, rfl, q H2 s2⟩⟩
  obtain ⟨t1, p1, k1⟩ := key hl
  obtain ⟨t2, p2', k2⟩ := key hh
  exact we_of (pe_slice hr we_pe p1 p2') (h.mono fun v H1 ⟨s1, q⟩ => k1 H1 _ s1 fun H2 s2 => k2 H2 _ (s1.trans s2) fun H3 s3 => q H3 (s2.trans s3))
theorem wv_slL {lo hi : Option Expr} {p2 : Pos} {u w : Option Int} (he : Wv X e σ F (.list ds)) (hl : Wo X lo σ F u) (hh : Wo X hi σ F w) : Wv X (.Subscript e (.Slice lo hi none p2) pos) σ F (.list (cut ds u w)) := fun H s Q q =>
  we_slice sl_list hl hh (he H s _ fun v F1 H1 g hd => ⟨s.trans g.hh, fun H2 s2 => by
    obtain ⟨l, xs, rfl, e1, e2⟩ := hd.lst_inv
    have g2 : Gr F H F1 H2 := ⟨g.ff, g.fh.trans s2, g.hh.trans s2, g.fr⟩
    exact ⟨l, xs, rfl, SqL.of (g2.fh _ _ e1), fun p hp => q _ _ _ (g2.trans (Gr.new g2.fh hp)) (.lst upd_same ((e2.cut u w).mono (same_new (g2.fh.free hp))))⟩⟩)
theorem wv_slT {lo hi : Option Expr} {p2 : Pos} {u w : Option Int} (he : Wv X e σ F (.tuple ds)) (hl : Wo X lo σ F u) (hh : Wo X hi σ F w) : Wv X (.Subscript e (.Slice lo hi none p2) pos) σ F (.tuple (cut ds u w)) := fun H s Q q =>
  we_slice sl_tupA hl hh (he H s _ fun v F1 H1 g hd => ⟨s.trans g.hh, fun H2 s2 => by
    obtain ⟨l, xs, ev, e1, e2⟩ := id hd.tup_inv
    have g2 : Gr F H F1 H2 := ⟨g.ff, g.fh.trans s2, g.hh.trans s2, g.fr⟩
    refine ⟨l, xs, ev, same_t g2.fh e1, fun z => ?_, fun _ p hp => q _ _ _ (g2.trans (Gr.new g2.fh hp)) (.tup (.inl upd_same) ((e2.cut u w).mono (same_new (g2.fh.free hp))))⟩
    have ec : K29.cut ds u w = ds := by
      unfold K29.cut
      rw [← e2.length, z.1, z.2, List.drop_zero, Nat.sub_zero, e2.length]
      exact List.take_length
    rw [← ev]
    refine q _ F1 H2 g2 ?_
    rw [ec]
    exact hd⟩)
/-! ### tuple + tuple, list + list -/
theorem wv_catT {es : List PyData} (ha : Wv X a σ F (.tuple ds)) (hb : Wv X b σ F (.tuple es)) (hz : ds.length + es.length ≤ 1000) : Wv X (.BinOp a .Add b pos) σ F (.tuple (ds ++ es)) := wv_op op_catA (fun F1 H1 v w _ s h1 h2 Q q => by
  obtain ⟨l, xs, e1, f1, g1⟩ := id h1.tup_inv
  obtain ⟨m, ys, e2, f2, g2⟩ := id h2.tup_inv
  refine ⟨l, m, xs, ys, e1, e2, same_t s f1, same_t s f2, by rw [g1.length, g2.length]; exact Nat.le_of_lt (small1000 hz), fun z => ?_, fun _ z => ?_, fun _ _ p hp => q _ _ _ (Gr.new s hp) (.tup (.inl upd_same) ((g1.append g2).mono (same_new (s.free hp))))⟩
  · rw [z] at g1
    rw [← e2]
    refine q w F1 H1 (Gr.refl s) ?_
    rw [List.length_eq_zero_iff.mp g1.length.symm]
    exact h2
  · rw [z] at g2
    rw [← e1]
    refine q v F1 H1 (Gr.refl s) ?_
    rw [List.length_eq_zero_iff.mp g2.length.symm, List.append_nil]
    exact h1) ha hb
theorem wv_catL {es : List PyData} (ha : Wv X a σ F (.list ds)) (hb : Wv X b σ F (.list es)) (hz : ds.length + es.length ≤ 1000) : Wv X (.BinOp a .Add b pos) σ F (.list (ds ++ es)) := wv_op op_cat (fun F1 H1 v w _ s h1 h2 Q q => by
  obtain ⟨l, xs, rfl, f1, g1⟩ := h1.lst_inv
  obtain ⟨m, ys, rfl, f2, g2⟩ := h2.lst_inv
  exact ⟨l, m, xs, ys, rfl, rfl, s _ _ f1, s _ _ f2, by rw [g1.length, g2.length]; exact Nat.le_of_lt (small1000 hz), fun p hp => q _ _ _ (Gr.new s hp) (.lst upd_same ((g1.append g2).mono (same_new (s.free hp))))⟩) ha hb
/-! ### append, extend -/
theorem we_bm {T name : Str} {id : String} {r : V → List V → Hp → VK → Prop} {Q : VK} (hq : PE X (.Call (.Attribute o name apos) (e :: es) [] cpos) (tBM X.K "list" r (We X o) (Wa X (e :: es)))) (h : We X o σ H fun v H1 => tyV X.K "list" v H1 ∧ Wa X (e :: es) σ H1 fun vs H2 => r v vs H2 Q) : We X (.Call (.Attribute o name apos) (e :: es) [] cpos) σ H Q := we_of hq h
theorem tyL {K : PySem.W.Frag} {l : Addr} {xs : List V} (h : H l = some (.lst xs)) : tyV K "list" (.ref l) H := .inl ⟨rfl, _, SqL.of h⟩
/-- l.append(e): l may be written -/
theorem w1_append {D : Ends} {acc : List V} {l : Addr} (ho : ∀ H', Same H H' → ∀ Q : VK, (∀ H'', Same H' H'' → Q (.ref l) H'') → We X o σ H' Q) (hl : H l = some (.lst acc)) (hf : F l = none) (he : Wv X e σ F d) (s : Same F H) (hz : acc.length ≤ 1000) (k : ∀ v F' H', Gr F H F' H' → Dq X.K F' v d → F' l = none → H' l = some (.lst acc) → D.nx σ (upd H' l (.lst (acc ++ [v]))))
    (hbase : attributeBase o "append" X.env (eval o X.env) = eval o X.env := by rfl)
    (hfew : ((backTo cpos (starEach (e :: []) X.env)).all (fun x => !x.1) && (backToKw cpos (keywordEach [] X.env)).all (fun x => x.1.isSome) && decide ((e :: []).length + ([] : List Keyword).length + (if ([] : List Keyword).isEmpty then 0 else 1) < 30)) = true := by rfl)
    (hline : (apos.endLine == cpos.line) = true := by rfl) (hs : starEach (e :: []) X.env = (false, eval e X.env) :: starEach [] X.env := by rfl) (hplain : (backTo cpos (starEach [] X.env)).any (·.1) = false := by rfl) (hsw : swapsWith (.Call (.Attribute o "append" apos) [e] [] cpos) none pos.line X.env = pure false := by rfl) :
    W1 X (.Expr (.Call (.Attribute o "append" apos) [e] [] cpos) pos) D σ H :=
  w1_expr (we_of (pe_bm PySem.F.plainAttrs_list PySem.F.slot_list_append PySem.F.type_list_append mt_append we_pe wa_pa hbase hfew hline hs hplain) (ho H (Same.refl _) _ fun H0 s0 => ⟨tyL (s0 _ _ hl), wa_cons (he H0 (s.trans s0) _ fun v F1 H1 g hd => wa_nil
    ⟨l, acc, v, rfl, rfl, g.hh _ _ (s0 _ _ hl), Nat.lt_of_le_of_lt hz (by decide), k v F1 H1 ⟨g.ff, g.fh, s0.trans g.hh, fun a e n => g.fr a e fun z => n (s0.free z)⟩ hd (g.noF hf (s0 _ _ hl)) (g.hh _ _ (s0 _ _ hl))⟩) hs⟩)) hsw
/-- l.extend(e) -/
theorem w1_extend {D : Ends} {acc : List V} {l : Addr} (ho : ∀ H', Same H H' → ∀ Q : VK, (∀ H'', Same H' H'' → Q (.ref l) H'') → We X o σ H' Q) (hl : H l = some (.lst acc)) (hf : F l = none) (he : Wv X e σ F (.list ds)) (s : Same F H) (hz : acc.length + ds.length ≤ 100000) (k : ∀ vs F' H', Gr F H F' H' → DqAll X.K F' vs ds → F' l = none → H' l = some (.lst acc) → D.nx σ (upd H' l (.lst (acc ++ vs))))
    (hbase : attributeBase o "extend" X.env (eval o X.env) = eval o X.env := by rfl)
    (hfew : ((backTo cpos (starEach (e :: []) X.env)).all (fun x => !x.1) && (backToKw cpos (keywordEach [] X.env)).all (fun x => x.1.isSome) && decide ((e :: []).length + ([] : List Keyword).length + (if ([] : List Keyword).isEmpty then 0 else 1) < 30)) = true := by rfl)
    (hline : (apos.endLine == cpos.line) = true := by rfl) (hs : starEach (e :: []) X.env = (false, eval e X.env) :: starEach [] X.env := by rfl) (hplain : (backTo cpos (starEach [] X.env)).any (·.1) = false := by rfl) (hsw : swapsWith (.Call (.Attribute o "extend" apos) [e] [] cpos) none pos.line X.env = pure false := by rfl) :
    W1 X (.Expr (.Call (.Attribute o "extend" apos) [e] [] cpos) pos) D σ H :=
  w1_expr (we_of (pe_bm PySem.F.plainAttrs_list PySem.F.slot_list_extend PySem.F.type_list_extend mt_extend we_pe wa_pa hbase hfew hline hs hplain) (ho H (Same.refl _) _ fun H0 s0 => ⟨tyL (s0 _ _ hl), wa_cons (he H0 (s.trans s0) _ fun v F1 H1 g hd => wa_nil (by
    obtain ⟨m, ys, rfl, e1, e2⟩ := hd.lst_inv
    exact ⟨l, m, acc, ys, rfl, rfl, g.hh _ _ (s0 _ _ hl), g.fh _ _ e1, by rw [e2.length]; exact Nat.le_trans hz (by decide), k ys F1 H1 ⟨g.ff, g.fh, s0.trans g.hh, fun a e n => g.fr a e fun z => n (s0.free z)⟩ e2 (g.noF hf (s0 _ _ hl)) (g.hh _ _ (s0 _ _ hl))⟩)) hs⟩)) hsw
/-- the receiver is a name -/
theorem ho_var (i : Nat) {l : Addr} (hs : σ[i]? = some (some (.ref l))) (hN : X.N[i]? = some x := by rfl) (hv : Vis X.env.scope x := by first | exact Or.inl rfl | exact Or.inr (Or.inl rfl) | exact Or.inr (Or.inr rfl)) (hd : (x == ("__debug__" : Str)) = false := by decide) (hcd : (x == ("__classdict__" : Str)) = false := by decide) :
    ∀ H', Same H H' → ∀ Q : VK, (∀ H'', Same H' H'' → Q (.ref l) H'') → We X (.Name x pos) σ H' Q := fun H' _ Q q => we_of (pe_var hN hv hd hcd) ⟨_, hs, q H' (Same.refl _)⟩
end
end K29
set_option Elab.async false
set_option linter.all false
set_option maxRecDepth 100000
set_option maxHeartbeats 4000000
/-! what is written: dicts, attributes; growth that leaves some addresses out -/
namespace K29
open PySem PySem.Spec PyProof.Rows L2
/-- from (F, H) to (F', H'): what M names may be written -/
structure Gm (M : Addr → Prop) (F H F' H' : Hp) : Prop where
  ff : Same F F'
  fh : Same F' H'
  hh : ∀ a o, ¬ M a → H a = some o → H' a = some o
  fr : Fr F F' H
  th : ∀ a, H' a = none → H a = none
section
variable {M M' : Addr → Prop} {F H F1 H1 F2 H2 : Hp} {p : Addr} {o : HO}
theorem Gr.gm (g : Gr F H F1 H1) : Gm M F H F1 H1 := ⟨g.ff, g.fh, fun a o _ e => g.hh a o e, g.fr, fun a e => g.hh.free e⟩
theorem Gm.refl (s : Same F H) : Gm M F H F H := (Gr.refl s).gm
theorem Gm.trans (a : Gm M F H F1 H1) (b : Gm M F1 H1 F2 H2) : Gm M F H F2 H2 := ⟨a.ff.trans b.ff, b.fh, fun x o n e => b.hh x o n (a.hh x o n e), fun x e n => b.fr x (a.fr x e n) fun z => n (a.th x z), fun x e => a.th x (b.th x e)⟩
theorem Gm.imp (a : Gm M F H F1 H1) (h : ∀ x, M x → M' x) : Gm M' F H F1 H1 := ⟨a.ff, a.fh, fun x o n e => a.hh x o (fun z => n (h x z)) e, a.fr, a.th⟩
theorem Gm.gr (a : Gm M F H F1 H1) (h : ∀ x, ¬ M x) : Gr F H F1 H1 := ⟨a.ff, a.fh, fun x o e => a.hh x o (h x) e, a.fr⟩
/-- what M names is new: it is as if nothing were written -/
theorem Gm.fresh (a : Gm M F H F1 H1) (h : ∀ x, M x → H x = none) : Gr F H F1 H1 := ⟨a.ff, a.fh, fun x o e => a.hh x o (fun m => by rw [h x m] at e; cases e) e, a.fr⟩
theorem Gm.mut (g : Gm M F H F1 H1) (h : M p ∨ H p = none) (hf : F1 p = none) : Gm M F H F1 (upd H1 p o) := by
  refine ⟨g.ff, same_mut g.fh hf, fun a u n e => ?_, g.fr, fun a e => ?_⟩
  · rw [upd_ne]
    · exact g.hh a u n e
    · rintro rfl
      rcases h with h | h
      · exact n h
      · rw [h] at e
        cases e
  · by_cases q : a = p
    · rw [q, upd_same] at e
      cases e
    · rw [upd_ne q] at e
      exact g.th a e
theorem Gm.freeze (g : Gm M F H F1 H1) (h : H p = none) (hf : F1 p = none) (ho : H1 p = some o) : Gm M F H (upd F1 p o) H1 := ⟨g.ff.trans (same_new hf), fun b u e => by
  by_cases q : b = p
  · rw [q, upd_same] at e
    rw [q, ho]
    exact e
  · rw [upd_ne q] at e
    exact g.fh b u e, g.hh, fun a e n => by
  rw [upd_ne (fun q => n (by rw [q]; exact h))]
  exact g.fr a e n, g.th⟩
theorem Gm.noF (g : Gm M F H F1 H1) (h : F p = none) (ho : H p = some o) : F1 p = none := g.fr p h (by rw [ho]; exact fun z => by cases z)
theorem Gm.lift (g : Gm M F H F1 H1) (s : Same F F2) (h : Same F2 H) (hm : ∀ x, M x → F2 x = none) : Gm M F2 H (un F1 F2) H1 ∧ Same F1 (un F1 F2) := by
  have s2 : Same F2 H1 := fun a o e => g.hh a o (fun m => by rw [hm a m] at e; cases e) (h a o e)
  refine ⟨⟨un_r g.fh s2, un_to g.fh s2, g.hh, fun a e n => ?_, g.th⟩, un_l⟩
  have e1 : F1 a = none := g.fr a (s.free e) n
  unfold un
  rw [e1]
  exact e
/-- frozen, at once written and frozen -/
theorem Same.upd_mut (s : Same F H) (h : F p = none) : Same F (upd H p o) := same_mut s h
end
section
variable {X : Cx} {a b c e o i : Expr} {σ : L2.St} {F H : Hp} {d : PyData} {x f : Str} {pos pos' : Pos} {j : Nat} {Q : VK} {D : Ends}
/-! ### dicts -/
theorem room1 (hr : Room j X.A) : X.A.units + 1 < cLine := by have := hr.un; omega
theorem we_dget (hr : Room j X.A) (h : We X o σ H fun v H1 => We X i σ H1 fun y H2 => ∃ a u, v = .ref a ∧ DGet H2 a y (some u) ∧ Q u H2) (hs : NoSl i := by exact fun _ _ => rfl) : We X (.Subscript o i pos) σ H Q := we_of (pe_dget (room1 hr) we_pe we_pe hs) h
theorem we_din (hr : Room j X.A) (h : We X i σ H fun y H1 => We X o σ H1 fun v H2 => ∃ a u, v = .ref a ∧ DGet H2 a y u ∧ Q (.bl u.isSome) H2) (hm : behindInMarks .In o = false := by rfl) : We X (.Compare i [.In] [o] pos) σ H Q := we_of (pe_cmp (pc_din (room1 hr) we_pe we_pe) hm) h
theorem wt_din {Q : Bool → Hp → Prop} (hr : Room j X.A) (h : We X i σ H fun y H1 => We X o σ H1 fun v H2 => ∃ a u, v = .ref a ∧ DGet H2 a y u ∧ Q u.isSome H2) (hm : behindInMarks .In o = false := by rfl) : Wt X (.Compare i [.In] [o] pos) σ H Q :=
  wt_of (pt_cmp (pc_din (room1 hr) we_pe we_pe) hm) (h.mono fun y H1 k => k.mono fun v H2 ⟨a, u, e, g, q⟩ => ⟨a, u, e, g, _, rfl, q⟩)
theorem wt_dnotin {Q : Bool → Hp → Prop} (hr : Room j X.A) (h : We X i σ H fun y H1 => We X o σ H1 fun v H2 => ∃ a u, v = .ref a ∧ DGet H2 a y u ∧ Q (!u.isSome) H2) (hm : behindInMarks .NotIn o = false := by rfl) : Wt X (.Compare i [.NotIn] [o] pos) σ H Q :=
  wt_of (pt_cmp (pc_dnotin (room1 hr) we_pe we_pe) hm) (h.mono fun y H1 k => k.mono fun v H2 ⟨a, u, e, g, q⟩ => ⟨a, u, e, g, _, rfl, q⟩)
theorem w1_dput (hr : Room j X.A) (h : We X e σ H fun v H1 => We X o σ H1 fun u H2 => We X i σ H2 fun y H3 => ∃ a H4, u = .ref a ∧ DPut H3 a y v H4 ∧ D.nx σ H4) (hs : swapsWith e (some (.Subscript o i pos')) pos.line X.env = pure false := by rfl) : W1 X (.Assign [.Subscript o i pos'] e pos) D σ H := w1_of (ps_dput (room1 hr) we_pe we_pe we_pe hs) h
theorem we_newT (h : ∀ p, H p = none → Q (.ref p) (upd H p (.dT []))) : We X (.Dict [] [] pos) σ H Q := we_of pe_dnewT h
theorem we_newK (h : ∀ p, H p = none → Q (.ref p) (upd H p (.dK []))) : We X (.Dict [] [] pos) σ H Q := we_of pe_dnewK h
/-! ### attributes -/
theorem w1_fld (h : We X e σ H fun y H1 => We X o σ H1 fun u H2 => ∃ a C dx fs, u = .ref a ∧ H2 a = some (.ins C dx fs) ∧ Cls X.K C ∧ NoAttr X.K C f ∧ fs.length < 1000 ∧ D.nx σ (upd H2 a (.ins C dx (putF f y fs)))) (hs : swapsWith e (some (.Attribute o f pos')) pos.line X.env = pure false := by rfl) : W1 X (.Assign [.Attribute o f pos'] e pos) D σ H := w1_of (ps_fld we_pe we_pe hs) h
theorem wg_fld {v : V} {Q : L2.St → Hp → Prop} (h : We X o σ H fun u H2 => ∃ a C dx fs, u = .ref a ∧ H2 a = some (.ins C dx fs) ∧ Cls X.K C ∧ NoAttr X.K C f ∧ fs.length < 1000 ∧ Q σ (upd H2 a (.ins C dx (putF f v fs)))) : Wg X (.Attribute o f pos) v σ H Q := fun pins s u I r => by
  rw [assign_Attribute]
  refine wpAny_bind (wpAny_holding (thn (h pins s I) fun ov s1 ⟨w, H1, I1, rw', a, C, dx, fs, ew, ea, c, n, l, q⟩ => ?_))
  subst ew
  obtain rfl : ov = Value.ref a := rw'
  exact wpAny_bind (wpAny_standAt (wpAny_bind (wpAny_holding (setattr_ok I1 ea c n l r fun s2 I2 => wpAny_release' ⟨σ, _, I2, q⟩))))
end
/-! ### comprehensions of two fors, dict comprehensions -/
section
variable {X : Cx} {elt kx vx tg it tg1 it1 : Expr} {ifs ifs1 : List Expr} {scope : Scope} {vs vs1 : List Nat} {own : List (Str × Nat)} {σ : L2.St} {F H : Hp} {pos : Pos}
def iAll (X : Cx) (scope : Scope) (tg it : Expr) : TI := fun σ H R => ∀ (s0 : Shared) (H0 : Hp) (C : Addr) (cl : List (Str × Addr)) (fp : List Addr), Wi (Bk X scope s0 H0 C cl fp) tg it σ H R
def Lc2W (X : Cx) (elt tg it : Expr) (ifs : List Expr) (tg1 it1 : Expr) (ifs1 : List Expr) (scope : Scope) (vs vs1 : List Nat) (σ : L2.St) (H : Hp) (Q : VK) : Prop := tLc2 (Wi X tg it) (gAll X scope tg) (tAll X scope ifs) (iAll X scope tg1 it1) (gAll X scope tg1) (tAll X scope ifs1) (eAll X scope elt) vs vs1 σ H Q
theorem we_lc2 {Q : VK} (hN : X.N.Nodup) (ok : BlkOk X.N X.env.scope scope own) (h : Lc2W X elt tg it ifs tg1 it1 ifs1 scope (own.map (·.2)) vs1 σ H Q) (hv : ∀ i ∈ vs1, i ∈ own.map (·.2) := by decide) (hc : X.calm = true := by rfl) (hs : ∀ x, foldedSetIterable it X.env x = pure x := by intro _; rfl) (hs1 : ∀ env x, foldedSetIterable it1 env x = pure x := by intro _ _; rfl) : We X (.ListComp elt [⟨tg, it, ifs, 0⟩, ⟨tg1, it1, ifs1, 0⟩] scope pos) σ H Q :=
  we_of (pe_lc2 (g := gAll X scope tg) (tt := tAll X scope ifs) (wi1 := iAll X scope tg1 it1) (g1 := gAll X scope tg1) (tt1 := tAll X scope ifs1) (te := eAll X scope elt) hc hN wi_pi ok hv
    (fun s0 H0 C cl fp => ⟨fun pins s σ H v u Q I r z => z s0 H0 C cl fp pins s u I r⟩) (fun s0 H0 C cl fp => ⟨fun pins s σ H Q I z => z s0 H0 C cl fp pins s I⟩)
    (fun s0 H0 C cl fp => ⟨fun pins s σ H R I z => z s0 H0 C cl fp pins s I⟩)
    (fun s0 H0 C cl fp => ⟨fun pins s σ H v u Q I r z => z s0 H0 C cl fp pins s u I r⟩) (fun s0 H0 C cl fp => ⟨fun pins s σ H Q I z => z s0 H0 C cl fp pins s I⟩)
    (fun s0 H0 C cl fp => ⟨fun pins s σ H Q I z => z s0 H0 C cl fp pins s I⟩) hs hs1) h
theorem w1_setLc2 {D : Ends} {i : Nat} {y : Str} {py spos : Pos} (hN : X.N.Nodup) (ok : BlkOk X.N X.env.scope scope own) (h : Lc2W X elt tg it ifs tg1 it1 ifs1 scope (own.map (·.2)) vs1 σ H fun v H' => D.nx (σ.set i (some v)) H') (hv : ∀ i ∈ vs1, i ∈ own.map (·.2) := by decide) (hy : X.N[i]? = some y := by rfl) (hyl : X.env.scope.names.lookup y = some .local := by rfl) (hk : X.env.scope.kind = .function := by rfl)
    (hp2 : (py.line == pos.line) = true := by rfl) (ha : (scope.names.any fun (n, k) => n == y && (k == .local || k == .cell)) = false := by decide +kernel) (hc : X.calm = true := by rfl) (hs : ∀ x, foldedSetIterable it X.env x = pure x := by intro _; rfl) (hs1 : ∀ env x, foldedSetIterable it1 env x = pure x := by intro _ _; rfl) :
    W1 X (.Assign [.Name y py] (.ListComp elt [⟨tg, it, ifs, 0⟩, ⟨tg1, it1, ifs1, 0⟩] scope pos) spos) D σ H :=
  w1_of (ps_setLc2 (i := i) (g := gAll X scope tg) (tt := tAll X scope ifs) (wi1 := iAll X scope tg1 it1) (g1 := gAll X scope tg1) (tt1 := tAll X scope ifs1) (te := eAll X scope elt) hc hN hy hyl (sw_true hk hyl hp2 ha) wi_pi ok hv
    (fun s0 H0 C cl fp => ⟨fun pins s σ H v u Q I r z => z s0 H0 C cl fp pins s u I r⟩) (fun s0 H0 C cl fp => ⟨fun pins s σ H Q I z => z s0 H0 C cl fp pins s I⟩)
    (fun s0 H0 C cl fp => ⟨fun pins s σ H R I z => z s0 H0 C cl fp pins s I⟩)
    (fun s0 H0 C cl fp => ⟨fun pins s σ H v u Q I r z => z s0 H0 C cl fp pins s u I r⟩) (fun s0 H0 C cl fp => ⟨fun pins s σ H Q I z => z s0 H0 C cl fp pins s I⟩)
    (fun s0 H0 C cl fp => ⟨fun pins s σ H Q I z => z s0 H0 C cl fp pins s I⟩) hs hs1) h
/-- two fors; Iv i: behind i turns of the outer one; Jv i j: within turn i, behind j turns of the inner one -/
theorem lc2_it {ds : List PyData} (hsrc : Wsrc X tg it σ F ds) (s : Same F H) {Q : VK} (Iv : Hp → Addr → Nat → Hp → Prop)
    (h0 : ∀ F1 H1 D, Gr F H F1 H1 → H1 D = none → Iv F1 D 0 (upd H1 D (.lst []))) (hG : ∀ F1 D i H', Iv F1 D i H' → Same F1 H')
    (hs : ∀ F1 D i d v H1 H2, ds[i]? = some d → Iv F1 D i H1 → (∀ F2, Same F1 F2 → Same F2 H1 → ∃ F3, Gr F2 H1 F3 H2 ∧ Dq X.K F3 v d) → gAll X scope tg v (wipe σ vs) H2 fun σ2 H3 => wipe σ2 vs = wipe σ vs ∧ tAll X scope ifs σ2 H3 fun b H4 =>
      if b = true then iAll X scope tg1 it1 σ2 H4 fun J1 H5 => ∃ W1 : Nat → Nat → Hp → Prop, (∃ m, W1 0 m H5) ∧ ∀ j k H, W1 j k H →
        (J1.stop j H ∧ Iv F1 D (i + 1) H) ∨ (J1.go j H ∧ ∃ Nx1 : Hp → Prop, (∀ H', Nx1 H' → ∃ k', k' < k ∧ W1 (j + 1) k' H') ∧ ∀ x H', J1.yld j H x H' → gAll X scope tg1 x (wipe σ2 vs1) H' fun σ3 H5 => wipe σ3 vs1 = wipe σ2 vs1 ∧ tAll X scope ifs1 σ3 H5 fun b H6 =>
          if b = true then eAll X scope elt σ3 H6 fun y H7 => ∃ acc, H7 D = some (.lst acc) ∧ acc.length < sizeLine ∧ Nx1 (upd H7 D (.lst (acc ++ [y]))) else Nx1 H6)
      else Iv F1 D (i + 1) H4)
    (hd : ∀ F1 D H', Iv F1 D ds.length H' → Q (.ref D) H') : Lc2W X elt tg it ifs tg1 it1 ifs1 scope vs vs1 σ H Q :=
  hsrc H s _ fun J F1 H1 g hJ D hD => ⟨fun i m H => m = ds.length - i ∧ i ≤ ds.length ∧ Iv F1 D i H, ⟨ds.length, by simp, Nat.zero_le _, h0 F1 H1 D g hD⟩, by
    rintro i m H2 ⟨rfl, hi, p⟩
    have q := hG F1 D i H2 p
    by_cases hlt : i < ds.length
    · refine .inr ⟨hJ.goes i H2 hlt q, Iv F1 D (i + 1), fun H' p' => ⟨ds.length - (i + 1), by omega, rfl, hlt, p'⟩, fun x H' y => ?_⟩
      have ed : ds[i]? = some ds[i] := List.getElem?_eq_getElem hlt
      refine hs F1 D i _ x H2 H' ed p fun F2 s1 s2 => ?_
      obtain ⟨d', F3, e', g', dv⟩ := hJ.yields i H2 x H' hlt q y F2 s1 s2
      rw [ed] at e'
      cases e'
      exact ⟨F3, g', dv⟩
    · obtain rfl : i = ds.length := by omega
      exact .inl ⟨hJ.stops H2 q, hd F1 D H2 p⟩⟩
/-- the inner one -/
theorem lc2_in {Xb : Cx} {σ2 : L2.St} {ds : List PyData} {J1 : It} {F1 H5 : Hp} {D : Addr} {Nd : Hp → Prop} (hJ : Src X.K J1 F1 ds) (Jv : Nat → Hp → Prop) (h0 : Jv 0 H5) (hG : ∀ j H', Jv j H' → Same F1 H')
    (hs : ∀ j d v H1 H2, ds[j]? = some d → Jv j H1 → (∀ F2, Same F1 F2 → Same F2 H1 → ∃ F3, Gr F2 H1 F3 H2 ∧ Dq X.K F3 v d) → gAll X scope tg1 v (wipe σ2 vs1) H2 fun σ3 H5 => wipe σ3 vs1 = wipe σ2 vs1 ∧ tAll X scope ifs1 σ3 H5 fun b H6 =>
        if b = true then eAll X scope elt σ3 H6 fun y H7 => ∃ acc, H7 D = some (.lst acc) ∧ acc.length < sizeLine ∧ Jv (j + 1) (upd H7 D (.lst (acc ++ [y]))) else Jv (j + 1) H6)
    (hd : ∀ H', Jv ds.length H' → Nd H') : ∃ W1 : Nat → Nat → Hp → Prop, (∃ m, W1 0 m H5) ∧ ∀ j k H, W1 j k H →
        (J1.stop j H ∧ Nd H) ∨ (J1.go j H ∧ ∃ Nx1 : Hp → Prop, (∀ H', Nx1 H' → ∃ k', k' < k ∧ W1 (j + 1) k' H') ∧ ∀ x H', J1.yld j H x H' → gAll X scope tg1 x (wipe σ2 vs1) H' fun σ3 H5 => wipe σ3 vs1 = wipe σ2 vs1 ∧ tAll X scope ifs1 σ3 H5 fun b H6 =>
          if b = true then eAll X scope elt σ3 H6 fun y H7 => ∃ acc, H7 D = some (.lst acc) ∧ acc.length < sizeLine ∧ Nx1 (upd H7 D (.lst (acc ++ [y]))) else Nx1 H6) :=
  ⟨fun i m H => m = ds.length - i ∧ i ≤ ds.length ∧ Jv i H, ⟨ds.length, by simp, Nat.zero_le _, h0⟩, by
    rintro i m H2 ⟨rfl, hi, p⟩
    have q := hG i H2 p
    by_cases hlt : i < ds.length
    · refine .inr ⟨hJ.goes i H2 hlt q, Jv (i + 1), fun H' p' => ⟨ds.length - (i + 1), by omega, rfl, hlt, p'⟩, fun x H' y => ?_⟩
      have ed : ds[i]? = some ds[i] := List.getElem?_eq_getElem hlt
      refine hs i _ x H2 H' ed p fun F2 s1 s2 => ?_
      obtain ⟨d', F3, e', g', dv⟩ := hJ.yields i H2 x H' hlt q y F2 s1 s2
      rw [ed] at e'
      cases e'
      exact ⟨F3, g', dv⟩
    · obtain rfl : i = ds.length := by omega
      exact .inl ⟨hJ.stops H2 q, hd H2 p⟩⟩
/-- a dict comprehension whose keys are ints or texts -/
def DcW (X : Cx) (kx vx tg it : Expr) (ifs : List Expr) (scope : Scope) (vs : List Nat) (σ : L2.St) (H : Hp) (Q : VK) : Prop := tDc (Wi X tg it) (gAll X scope tg) (tAll X scope ifs) (eAll X scope kx) (eAll X scope vx) vs σ H Q
theorem we_dc {Q : VK} (hN : X.N.Nodup) (ok : BlkOk X.N X.env.scope scope own) (h : DcW X kx vx tg it ifs scope (own.map (·.2)) σ H Q) (hc : X.calm = true := by rfl) (hs : ∀ x, foldedSetIterable it X.env x = pure x := by intro _; rfl) : We X (.DictComp kx vx [⟨tg, it, ifs, 0⟩] scope pos) σ H Q :=
  we_of (pe_dc (g := gAll X scope tg) (tt := tAll X scope ifs) (tk := eAll X scope kx) (tv := eAll X scope vx) hc hN wi_pi ok (fun s0 H0 C cl fp => ⟨fun pins s σ H v u Q I r z => z s0 H0 C cl fp pins s u I r⟩) (fun s0 H0 C cl fp => ⟨fun pins s σ H Q I z => z s0 H0 C cl fp pins s I⟩) (fun s0 H0 C cl fp => ⟨fun pins s σ H Q I z => z s0 H0 C cl fp pins s I⟩) (fun s0 H0 C cl fp => ⟨fun pins s σ H Q I z => z s0 H0 C cl fp pins s I⟩) hs) h
theorem dc_it {ds : List PyData} (hsrc : Wsrc X tg it σ F ds) (s : Same F H) {Q : VK} (Iv : Hp → Addr → Nat → Hp → Prop)
    (h0 : ∀ F1 H1 D, Gr F H F1 H1 → H1 D = none → Iv F1 D 0 (upd H1 D (.dK []))) (hG : ∀ F1 D i H', Iv F1 D i H' → Same F1 H')
    (hs : ∀ F1 D i d v H1 H2, ds[i]? = some d → Iv F1 D i H1 → (∀ F2, Same F1 F2 → Same F2 H1 → ∃ F3, Gr F2 H1 F3 H2 ∧ Dq X.K F3 v d) → gAll X scope tg v (wipe σ vs) H2 fun σ2 H3 => wipe σ2 vs = wipe σ vs ∧ tAll X scope ifs σ2 H3 fun b H4 =>
      if b = true then eAll X scope kx σ2 H4 fun y H5 => eAll X scope vx σ2 H5 fun z H6 => ∃ kvs k, y = kV k ∧ H6 D = some (.dK kvs) ∧ kvs.length < sizeLine ∧ Iv F1 D (i + 1) (upd H6 D (.dK (putK kvs k z))) else Iv F1 D (i + 1) H4)
    (hd : ∀ F1 D H', Iv F1 D ds.length H' → Q (.ref D) H') : DcW X kx vx tg it ifs scope vs σ H Q :=
  hsrc H s _ fun J F1 H1 g hJ D hD => ⟨fun i m H => m = ds.length - i ∧ i ≤ ds.length ∧ Iv F1 D i H, ⟨ds.length, by simp, Nat.zero_le _, h0 F1 H1 D g hD⟩, by
    rintro i m H2 ⟨rfl, hi, p⟩
    have q := hG F1 D i H2 p
    by_cases hlt : i < ds.length
    · refine .inr ⟨hJ.goes i H2 hlt q, Iv F1 D (i + 1), fun H' p' => ⟨ds.length - (i + 1), by omega, rfl, hlt, p'⟩, fun x H' y => ?_⟩
      have ed : ds[i]? = some ds[i] := List.getElem?_eq_getElem hlt
      refine hs F1 D i _ x H2 H' ed p fun F2 s1 s2 => ?_
      obtain ⟨d', F3, e', g', dv⟩ := hJ.yields i H2 x H' hlt q y F2 s1 s2
      rw [ed] at e'
      cases e'
      exact ⟨F3, g', dv⟩
    · obtain rfl : i = ds.length := by omega
      exact .inl ⟨hJ.stops H2 q, hd F1 D H2 p⟩⟩
end
/-! ### methods -/
section
variable {P : Program} {w : World} {K : PySem.W.Frag} {mg : Str → Option Value} {base : Heap} {m qual x : Str} {C : Addr} {st : Stmt} {f : Addr} {fd : FuncData} {N ps : List Str} {ds : List Value} {dvs : List V} {k : Nat} {sp : Sp}
theorem metW (c : Cls K C) (me : Meth K C m f) (F : C8.Fun K m qual st f fd) (b : Binds K fd ps ds) (d : Vals dvs ds) (S : FnScope N ps (C8.fnScope st)) (len : ∀ vs H Q E, sp vs H Q E → vs.length = ps.length)
    (h : ∀ (cdv : Value) (A : Around) (outer : List Env) (s : Shared) (H : Hp) (vs : List V) (Q : VK) (E : XK), Room k (A.deeper (envOfC qual (C8.fnScope st) s.heap.objs.size f cdv)) → sp vs H Q E → Wb (CxD P w K mg base N qual (C8.fnScope st) f cdv A outer s H E) (C8.fnBody st) (DEnd Q) (start N vs) H) : C8.Met P w K mg base (k + 1) C m sp dvs :=
  ⟨f, fd, ps, ds, c, me, C8.fn0 F S len fun cdv A outer s H vs Q E hr z => ⟨_, wb_pss, h cdv A outer s H vs Q E hr z⟩, b, d⟩
theorem makW (M : Mk K C f) (hm : mg x = some (.ref C)) (F : C8.Fun K "__init__" qual st f fd) (b : Binds K fd ps ds) (d : Vals dvs ds) (S : FnScope N ps (C8.fnScope st)) (len : ∀ vs H Q E, sp vs H Q E → vs.length = ps.length)
    (h : ∀ (cdv : Value) (A : Around) (outer : List Env) (s : Shared) (H : Hp) (vs : List V) (Q : VK) (E : XK), Room k (A.deeper (envOfC qual (C8.fnScope st) s.heap.objs.size f cdv)) → sp vs H Q E → Wb (CxD P w K mg base N qual (C8.fnScope st) f cdv A outer s H E) (C8.fnBody st) (DEnd Q) (start N vs) H) : C8.Mak P w K mg base (k + 1) x C sp dvs :=
  C8.mak0 M hm F b d S len fun cdv A outer s H vs Q E hr z => ⟨_, wb_pss, h cdv A outer s H vs Q E hr z⟩
end
end K29
set_option Elab.async false
set_option linter.all false
set_option maxRecDepth 100000
set_option maxHeartbeats 4000000
/-! set(list of ints), sorted(set(..)) -/
namespace K29
open PySem PySem.Spec PyProof.Rows L2
/-- a new set -/
abbrev eset (w : World) : Obj := { cls := .type "set", dict := none, data := .set #[] 0 (.fresh 0 0 (!w.params.followText "set-order")) }
section
variable {P : Program} {w : World} {A : Around} {E : Value → Shared → Prop} {s : Shared}
set_option maxRecDepth 100000 in
set_option maxHeartbeats 3200000 in
theorem call_set_lstI {l : Addr} {items : Array Value} (ns : List Int) {Q : Value → Shared → Prop} (hh : A.handled = none) (hl : s.heap.IsList l items) (hit : IntsAre items.toList ns) (hb : ns.length + 1 < scanBound)
    (h : ∀ (h' : Heap) (tk c : Nat), SetR w h' s.heap.objs.size (fun j => decide (j ∈ ns)) c → c ≤ ns.length → (∀ b o, s.heap.get? b = some o → h'.get? b = some o) → Q (.ref s.heap.objs.size) { s with heap := h', toks := tk }) :
    wpAny (model P w) A (call (.type "set") [.ref l]) Q E s := by
  have hisz : items.size = ns.length := by
    have q := IntsAre.length hit
    rw [Array.length_toList] at q
    exact q
  obtain ⟨c, tl, hmro⟩ := F.called_set.mro
  have hmade := F.called_set.made
  have hsub := F.called_set.sub
  refine wpAny_call (codeAny_of_tree ?_)
  show wpAny _ _ (callAny (.type "set") _) _ _ _
  refine wpAny_pure ⟨Code.quiet_builtin _ (by decide +kernel), codeAny_builtin F.entry_type_call ?_⟩
  rw [Around.under_plain (weight_type_call_type "set" [.ref l] []) rfl]
  have h1 := F.called_set.notType
  have h2 := F.called_set.canCreate
  have hct := F.typeCall_set_1 (.ref l)
  repeat (any_goals (first | assumption | wp_step))

  refine codeAny_mono (code_set_led1 (.ref l) (E := E) (Q₁ := fun obj s₁ => obj = .ref s.heap.objs.size ∧ s₁ = { s with heap := s.heap.push (eset w) }) ⟨rfl, rfl⟩) fun r s₁ hr => ?_
  cases r with
  | error e => exact hr
  | ok fl =>
    cases fl with
    | ret obj =>
      obtain ⟨rfl, rfl⟩ := hr
      have hS : (s.heap.push (eset w)).get? s.heap.objs.size = some (eset w) := Heap.get?_push_size _ rfl
      have hT : Shared.TypeIs { s with heap := s.heap.push (eset w) } (.ref s.heap.objs.size) "set" := ⟨_, hS, rfl⟩
      have hli := F.called_set.init.lookup
      have hbi := F.called_set.init.bind (.ref s.heap.objs.size)
      repeat (any_goals (first | assumption | wp_step))

      refine codeAny_mono (codeAny_call_builtin (R := wants (fun r s₂ => r = .none ∧ ∃ h' tk c, s₂ = { s with heap := h', toks := tk } ∧ SetR w h' s.heap.objs.size (fun j => decide (j ∈ ns)) c ∧ c ≤ ns.length ∧
          (∀ b o, s.heap.get? b = some o → h'.get? b = some o)) E) F.called_set.init.plain F.entry_set_init (check_set_init_1 hT ?_)) fun r₂ s₂ hr₂ => ?_
      · obtain ⟨ol, hol, hcl, nl, hdl⟩ := hl
        obtain ⟨ocls, odict, odata, oslots⟩ := ol
        simp only at hcl hdl
        subst hcl; subst hdl
        have hol' : (s.heap.push (eset w)).get? l = some { cls := .type "list", dict := odict, data := .seq items nl, slots := oslots } := Heap.get?_push_of_some _ hol
        have hsls := F.sub_list_set
        have hslf := F.sub_list_frozenset
        have hne : (Value.type "list" == Value.type "dict") = false := by decide
        have hl1 : (s.heap.push (eset w)).IsList l items := ⟨_, hol', rfl, nl, rfl⟩
        unfold Builtin.«set.__init__» noKeywords Builtin.Frozenset.updateFrom
        generalize hPI : pyIter = PI
        wp_walk
        subst hPI

        refine wpAny_pyIter_list hl1 ?_
        refine wpAny_bind (wpAny_runValue ?_)
        have hlS : l < s.heap.objs.size := Heap.lt_size hol
        have hh3 : A.in1.in1.in1.handled = none := by simp [hh]
        have hz1 : (s.heap.push (eset w)).objs.size = s.heap.objs.size + 1 := Heap.size_push ..
        have hneI : l ≠ (s.heap.push (eset w)).objs.size := by
          rw [Heap.size_push]; exact Nat.ne_of_lt (Nat.lt_succ_of_lt hlS)
        have hSf : s.heap.objs.size ∉ [(s.heap.push (eset w)).objs.size, l] := by
          rw [Heap.size_push]; simp only [List.mem_cons, List.mem_singleton, List.not_mem_nil, or_false, not_or]
          exact ⟨Nat.ne_of_lt (Nat.lt_succ_self _), Nat.ne_of_gt hlS⟩
        have hval : ∀ (i : Nat) (v : Value), items[i]? = some v → ∃ k t, ns[i]? = some k ∧ v = .int k t := fun i v hv => by
          have hi : i < ns.length := by rw [← hisz]; exact (Array.getElem?_eq_some_iff.mp hv).1
          obtain ⟨t, e⟩ := PyProof.Rows.IntsAre.int_at hit i v (by rw [Array.getElem?_toList]; exact hv)
          refine ⟨ns[i], t, List.getElem?_eq_getElem hi, ?_⟩
          rw [e, List.getD_eq_getElem?_getD, List.getElem?_eq_getElem hi] <;> rfl
        refine set_update_ints ((Walks.list hh3 _ l hneI items).toS) s.heap.objs.size
          hSf ns hisz hb hval (items.size - 0) 0 _ (by omega) (Nat.zero_le _)
          ⟨⟨_, Heap.get?_push_size _ rfl, rfl, rfl⟩, (hl1.push _)⟩ ?hS0 ?hR
        case hS0 =>
          have hget : ((s.heap.push (eset w)).push { cls := .type "list_iterator", data := .fields #[.ref l, .int 0 0] }).get? s.heap.objs.size
              = some (eset w) := Heap.get?_push_of_some _ hS
          exact ⟨0, Nat.le_refl 0, setR_new_at hget⟩
        case hR =>
          intro s' c' hm hc' hS'
          obtain ⟨h', g2, d', tk', os'⟩ := s'
          have eg : g2 = s.gens := hm.gens
          have ed : d' = s.drawn := hm.drawn
          have eo : os' = s.os := hm.os
          subst eg; subst ed; subst eo
          show wpAny _ _ _ _ _ _
          refine wpAny_pure ?_
          show wpAny _ _ (ret Value.none) _ _ _
          rw [hisz] at hc'
          refine wpAny_pure ⟨rfl, h', tk', c', rfl, hS', hc', fun b o e => ?_⟩
          have hb0 : b < s.heap.objs.size := Heap.lt_size e
          have hb1 : b ≠ s.heap.objs.size := Nat.ne_of_lt hb0
          have hb2 : b ≠ (s.heap.push (eset w)).objs.size := by
            rw [Heap.size_push]; exact Nat.ne_of_lt (Nat.lt_succ_of_lt hb0)
          exact hm.heap b o (by simp only [List.mem_cons, List.mem_singleton, List.not_mem_nil, or_false, not_or]; exact ⟨hb1, hb2⟩) (Heap.get?_push_of_some _ (Heap.get?_push_of_some _ e))

      · cases r₂ with
        | error e => exact hr₂
        | ok fl₂ =>
          cases fl₂ with
          | ret r =>
            obtain ⟨rfl, h', tk, c', rfl, hS', hc', hk'⟩ := hr₂
            repeat (any_goals (first | assumption | wp_step))
            exact h _ _ _ hS' hc' hk'
          | _ => exact hr₂.elim
    | _ => exact hr.elim

end
section
variable {X : Cx} {σ : L2.St} {F H : Hp} {a : Expr} {p p2 pos pos2 : Pos} {ns : List Int}
/-- the set of the ints of a list -/
def rSetLI (K : PySem.W.Frag) (w : World) : List V → Hp → VK → Prop := fun xs H Q => ∃ (l : Addr) (ns : List Int), xs = [V.ref l] ∧ SqL K H l (ns.map V.int) ∧ ns.length ≤ 1000 ∧ ∀ (q : Addr) (c : Nat), H q = none → c ≤ ns.length → Q (.ref q) (upd H q (SetO w q (fun j => decide (j ∈ ns)) c))
theorem cr_setL (hc : X.calm = true) : CallR X (.type "set") (rSetLI X.K X.w) := by
  intro pins s σ H xs us Q I r h
  obtain ⟨l, ns, rfl, hl, h1, q⟩ := h
  rw [Vals.ref1 r]
  obtain ⟨its, rv, pl, _⟩ := I.list hl
  refine call_set_lstI ns (I.ok.hd hc) pl.isList (by simpa using rv.ints) (by unfold scanBound; omega) fun h' tk c R hcl hk => ?_
  have hf : H s.heap.objs.size = none := I.hok.fresh (Nat.le_refl _)
  exact ⟨.ref _, _, I.laid (t' := tk) hk (Nat.le_refl _) (setO_new R), rfl, q _ c hf hcl⟩
/-- ascending, without repeats, with the members of ns -/
def IsSrt (ns ms : List Int) : Prop := ms.Pairwise (· < ·) ∧ ∀ k, k ∈ ms ↔ k ∈ ns
theorem we_sortedSet {Q : VK} (m1 : X.mg "sorted" = none) (m2 : X.mg "set" = none) (h : Wv X a σ F (.list (ns.map .int))) (s : Same F H) (hz : ns.length < 64) (q : ∀ ms v F' H', IsSrt ns ms → Gr F H F' H' → Dq X.K F' v (.list (ms.map .int)) → Q v H') (hc : X.calm = true := by rfl)
    (g1 : Gl X "sorted" := by rfl) (g2 : Gl X "set" := by rfl) (e1 : starEach [a] X.env = (false, eval a X.env) :: starEach [] X.env := by rfl) (e2 : starEach [.Call (.Name "set" p2) [a] [] pos2] X.env = (false, eval (.Call (.Name "set" p2) [a] [] pos2) X.env) :: starEach [] X.env := by rfl)
    (hpl : (backTo pos (starEach [] X.env)).any (·.1) = false := by rfl) (hpl2 : (backTo pos2 (starEach [] X.env)).any (·.1) = false := by rfl) : We X (.Call (.Name "sorted" p) [.Call (.Name "set" p2) [a] [] pos2] [] pos) σ H Q := by
  refine we_callB (cr_sortedSet hc) m1 (wa_cons (we_callTy (cr_setL hc) m2 (wa_cons (h H s _ fun v F1 H1 g1 d1 => ?_) e1) g2 (by decide +kernel) (by decide) (by decide) e1 hpl2) e2) g1 (by decide +kernel) (by decide) (by decide) e2 hpl
  obtain ⟨l, rfl, el⟩ := d1.lstI
  refine wa_nil ⟨l, ns, rfl, SqL.of (g1.fh _ _ el), by omega, fun x c hx hcl => wa_nil ⟨x, _, c, rfl, upd_same, by omega, fun ms y hp hm hl hy => ?_⟩⟩
  have g2 : Gr F H F1 (upd H1 x (SetO X.w x (fun j => decide (j ∈ ns)) c)) := g1.trans (Gr.newM g1.fh hx)
  exact q ms _ _ _ ⟨hp, fun k => (hm k).trans decide_eq_true_iff⟩ (g2.trans (Gr.new g2.fh hy)) (.lst upd_same (DqAll.of_ints ms))
end
end K29
set_option Elab.async false
set_option linter.all false
set_option maxRecDepth 100000
set_option maxHeartbeats 4000000
/-! {x for p in ps for x in p}: a set of ints, two fors, no tests -/
namespace K29
open PySem PySem.Spec PyProof.Rows L2
/-- the comprehension -/
abbrev sc2E (elt t0 i0 t1 i1 : Expr) (scope : Scope) (pos : Pos) : Expr := .SetComp elt [⟨t0, i0, [], 0⟩, ⟨t1, i1, [], 0⟩] scope pos
section
variable {prog : Program} {w : World} {A : Around} {R : Result → Shared → Prop} {s : Shared} {elt t0 i0 t1 i1 : Expr} {scope : Scope} {pos : Pos} {it acc : Value} {env : Env}
theorem sc2_turn0 : compTurn (sc2E elt t0 i0 t1 i1 scope pos) 0 it acc env = (do
      standAt i0.pos
      match ← pyNext it with
      | none => pure (.done .next)
      | some v =>
        letOwnedTupleGo t0 it v
        assign t0 env v
        let x ← eval i1 env
        standAt i1.pos
        let x ← foldedSetIterable i1 env x
        let _ ← runOwn (.compStart (sc2E elt t0 i0 t1 i1 scope pos) 1 (← holding [x] (pyIter x)) acc env) env
        again (.compLoop (sc2E elt t0 i0 t1 i1 scope pos) 0 it acc env)) := by rfl
theorem sc2_turn1 : compTurn (sc2E elt t0 i0 t1 i1 scope pos) 1 it acc env = (do
      standAt i1.pos
      match ← pyNext it with
      | none => pure (.done .next)
      | some v =>
        letOwnedTupleGo t1 it v
        assign t1 env v
        (do let v ← eval elt env; standAt elt.pos; let _ ← call (.builtin "set.add") [acc, v])
        again (.compLoop (sc2E elt t0 i0 t1 i1 scope pos) 1 it acc env)) := by rfl
theorem sc2_out (hs : ∀ x, foldedSetIterable i1 env x = pure x) (I : Nat → Shared → Prop)
    (turn : ∀ n s, I n s → wpAny (model prog w) A (pyNext it) (fun r s₁ => match r with
      | none => R (.ok .next) s₁
      | some v => wpAny (model prog w) A (letOwnedTupleGo t0 it v) (fun _ s₂ => wpAny (model prog w) A (assign t0 env v) (fun _ s₃ =>
          wpAny (model prog w) A (eval i1 env) (fun x s₄ => wpAny (model prog w) A (pyIter x) (fun it1 s₅ =>
              codeAny (model prog w) A (.compStart (sc2E elt t0 i0 t1 i1 scope pos) 1 it1 acc env) (fun r s' => match r with
                | .ok _ => ∃ m, m < n ∧ I m s'
                | .error _ => False) s₅) (notedBy (model prog w) A env fun e s' => R (.error e) s') s₄) (notedBy (model prog w) A env fun e s' => R (.error e) s') s₃) (notedBy (model prog w) A env fun e s' => R (.error e) s') s₂) (notedBy (model prog w) A env fun e s' => R (.error e) s') s₁) (notedBy (model prog w) A env fun e s' => R (.error e) s') s)
    (n : Nat) (h : I n s) : codeAny (model prog w) A (.compLoop (sc2E elt t0 i0 t1 i1 scope pos) 0 it acc env) R s := by
  refine codeAny_loop rfl I (fun n s hI => ?_) n h
  show wpAny _ A ((compTurn (sc2E elt t0 i0 t1 i1 scope pos) 0 it acc env).onRaise (fun x => do noteFrame x env; theTreesLotGoes x)) _ _ s
  refine wpAny_noted ?_
  rw [sc2_turn0]
  refine wpAny_bind (wpAny_standAt (wpAny_bind (wpAny_mono (turn n s hI) (fun r s₁ h₁ => ?_) fun _ _ h' => h')))
  cases r with
  | none => exact wpAny_pure h₁
  | some v =>
    refine wpAny_bind (wpAny_mono h₁ (fun _ s₂ h₂ => wpAny_bind (wpAny_mono h₂ (fun _ s₃ h₃ => wpAny_bind (wpAny_mono h₃ (fun x s₄ h₄ => ?_) fun _ _ h' => h')) fun _ _ h' => h')) fun _ _ h' => h')
    refine wpAny_bind (wpAny_standAt (wpAny_bind (wpAny_of_eq (hs x) (wpAny_bind (wpAny_holding (wpAny_mono h₄ (fun it1 s₅ h₅ => wpAny_bind (wpAny_runOwn ?_)) fun _ _ h' => h'))))))
    rw [Around.mark_none]
    refine codeAny_mono h₅ fun r s' hr => ?_
    cases r with
    | ok f =>
      first
        | exact wpAny_pure ⟨rfl, hr⟩
        | exact wpAny_bind (wpAny_pure (wpAny_pure ⟨rfl, hr⟩))
    | error e => exact hr.elim
theorem sc2_in (I : Nat → Shared → Prop)
    (turn : ∀ n s, I n s → wpAny (model prog w) A (pyNext it) (fun r s₁ => match r with
      | none => R (.ok .next) s₁
      | some v => wpAny (model prog w) A (letOwnedTupleGo t1 it v) (fun _ s₂ => wpAny (model prog w) A (assign t1 env v) (fun _ s₃ =>
            wpAny (model prog w) A (eval elt env) (fun x s₄ =>
              wpAny (model prog w) A (call (.builtin "set.add") [acc, x]) (fun _ s₅ => ∃ m, m < n ∧ I m s₅) (notedBy (model prog w) A env fun e s' => R (.error e) s') s₄) (notedBy (model prog w) A env fun e s' => R (.error e) s') s₃) (notedBy (model prog w) A env fun e s' => R (.error e) s') s₂) (notedBy (model prog w) A env fun e s' => R (.error e) s') s₁) (notedBy (model prog w) A env fun e s' => R (.error e) s') s)
    (n : Nat) (h : I n s) : codeAny (model prog w) A (.compLoop (sc2E elt t0 i0 t1 i1 scope pos) 1 it acc env) R s := by
  refine codeAny_loop rfl I (fun n s hI => ?_) n h
  show wpAny _ A ((compTurn (sc2E elt t0 i0 t1 i1 scope pos) 1 it acc env).onRaise (fun x => do noteFrame x env; theTreesLotGoes x)) _ _ s
  refine wpAny_noted ?_
  rw [sc2_turn1]
  refine wpAny_bind (wpAny_standAt (wpAny_bind (wpAny_mono (turn n s hI) (fun r s₁ h₁ => ?_) fun _ _ h' => h')))
  cases r with
  | none => exact wpAny_pure h₁
  | some v =>
    refine wpAny_bind (wpAny_mono h₁ (fun _ s₂ h₂ => wpAny_bind (wpAny_mono h₂ (fun _ s₃ h₃ => ?_) fun _ _ h' => h')) fun _ _ h' => h')
    exact wpAny_bind (wpAny_bind (wpAny_mono h₃ (fun x s₄ h₄ => wpAny_bind (wpAny_standAt (wpAny_bind (wpAny_mono h₄ (fun _ s₅ h₅ => wpAny_pure (wpAny_pure ⟨rfl, h₅⟩)) fun _ _ h' => h')))) fun _ _ h' => h'))
theorem sc2_start1 (h0 : codeAny (model prog w) A (.compLoop (sc2E elt t0 i0 t1 i1 scope pos) 1 it acc env) R s)
    (h : wpAny (model prog w) A (pyIter it) (fun it' s' => codeAny (model prog w) A (.compLoop (sc2E elt t0 i0 t1 i1 scope pos) 1 it' acc env) R s') (notedBy (model prog w) A env fun x s' => R (.error x) s') s) :
    codeAny (model prog w) A (.compStart (sc2E elt t0 i0 t1 i1 scope pos) 1 it acc env) R s := by
  refine codeAny_of_tree ?_
  show wpAny _ _ ((compStart (sc2E elt t0 i0 t1 i1 scope pos) 1 it acc env).onRaise (fun x => do noteFrame x env; standAt theWindowsPlace)) _ _ s
  refine wpAny_notedAt ?_
  unfold compStart
  show wpAny _ _ (ask >>= _) _ _ s
  refine wpAny_bind (wpAny_askSetting (wpAny_ite ?_))
  split
  · first
      | exact wpAny_bind (wpAny_pure (wpAny_pure (And.intro rfl h0)))
      | exact wpAny_pure (And.intro rfl h0)
  · first
      | exact wpAny_bind (wpAny_rule (wpAny_bind (wpAny_standAt (wpAny_bind (wpAny_mono h (fun it' s' h' => wpAny_pure (And.intro rfl h')) fun _ _ x => x)))))
      | (refine wpAny_bind (wpAny_rule ?_); show wpAny _ _ (standAt i1.pos >>= _) _ _ s; exact wpAny_bind (wpAny_standAt (wpAny_bind (wpAny_mono h (fun it' s' h' => wpAny_pure (And.intro rfl h')) fun _ _ x => x))))
end
end K29
set_option Elab.async false
set_option linter.all false
set_option maxRecDepth 100000
set_option maxHeartbeats 4000000
/-! {x for p in ps for x in p}, within a def's context -/
namespace K29
open PySem PySem.Spec PyProof.Rows L2
/-- its reading: D is the new set -/
def tSc2 (w : World) (wi : TI) (g : TG) (wi1 : TI) (g1 : TG) (te : TE) (vs vs1 : List Nat) : TE := fun σ H Q => wi σ H fun J H1 => ∀ D, H1 D = none → ∃ W : Nat → Nat → Hp → Prop, (∃ m, W 0 m (upd H1 D (SetO w D (fun _ => false) 0))) ∧ ∀ i m H, W i m H →
  (J.stop i H ∧ Q (.ref D) H) ∨ (J.go i H ∧ ∃ Nx : Hp → Prop, (∀ H', Nx H' → ∃ m', m' < m ∧ W (i + 1) m' H') ∧ ∀ x H', J.yld i H x H' → g x (wipe σ vs) H' fun σ2 H2 => wipe σ2 vs = wipe σ vs ∧
    wi1 σ2 H2 fun J1 H4 => ∃ W1 : Nat → Nat → Hp → Prop, (∃ m, W1 0 m H4) ∧ ∀ j k H, W1 j k H →
      (J1.stop j H ∧ Nx H) ∨ (J1.go j H ∧ ∃ Nx1 : Hp → Prop, (∀ H', Nx1 H' → ∃ k', k' < k ∧ W1 (j + 1) k' H') ∧ ∀ x H', J1.yld j H x H' → g1 x (wipe σ2 vs1) H' fun σ3 H5 => wipe σ3 vs1 = wipe σ2 vs1 ∧
        te σ3 H5 fun y H7 => ∃ (c : Int) (S : Int → Bool) (n : Nat), y = .int c ∧ H7 D = some (SetO w D S n) ∧ n + 1 < scanBound ∧ Nx1 (upd H7 D (SetO w D (fun j => S j || decide (j = c)) (if S c = true then n else n + 1)))))
section
variable {X : Cx}
theorem addI_ok {pins : List (Addr × Obj)} {σ : L2.St} {H : Hp} {s : Shared} {E : Value → Shared → Prop} {D : Addr} {S : Int → Bool} {n : Nat} {y : Int} {v : Value} {Q : Value → Shared → Prop} (I : Inv X pins σ H s) (hD : H D = some (SetO X.w D S n)) (room : n + 1 < scanBound) (r : RelV (.int y) v)
    (h : ∀ s', Inv X pins σ (upd H D (SetO X.w D (fun j => S j || decide (j = y)) (if S y = true then n else n + 1))) s' → Q .none s') : wpAny (model X.prog X.w) X.A (call (.builtin "set.add") [.ref D, v]) Q E s := by
  obtain ⟨tk, rfl⟩ := r
  refine setR_add (setO_get I hD) room fun h' sb new => h _ (I.write (e := D) (t' := s.toks + 1) (by rw [hD]; trivial) (.inl rfl) (fun b u hb hu => (sb.2 b hb).trans hu) ?_ (setO_new new))
  obtain ⟨o, _, _, _, ho, _⟩ := new
  exact ⟨o, ho⟩
theorem sc2_pe {elt tg it0 tg1 it1 : Expr} {scope : Scope} {own : List (Str × Nat)} {vs1 : List Nat} {pos : Pos} {wi wi1 : TI} {g g1 : TG} {te : TE} (hc : X.calm = true) (hN : X.N.Nodup) (hi : PI X tg it0 wi) (ok : BlkOk X.N X.env.scope scope own) (hv : ∀ i ∈ vs1, i ∈ own.map (·.2))
    (hg : ∀ (s : Shared) (H : Hp) (C : Addr) (cl : List (Str × Addr)) (fp : List Addr), PG (X.blk s H scope (compEnvC scope cl C X.env) fp) tg g)
    (hi1 : ∀ (s : Shared) (H : Hp) (C : Addr) (cl : List (Str × Addr)) (fp : List Addr), PI (X.blk s H scope (compEnvC scope cl C X.env) fp) tg1 it1 wi1)
    (hg1 : ∀ (s : Shared) (H : Hp) (C : Addr) (cl : List (Str × Addr)) (fp : List Addr), PG (X.blk s H scope (compEnvC scope cl C X.env) fp) tg1 g1)
    (he : ∀ (s : Shared) (H : Hp) (C : Addr) (cl : List (Str × Addr)) (fp : List Addr), PE (X.blk s H scope (compEnvC scope cl C X.env) fp) elt te)
    (hs : ∀ x, foldedSetIterable it0 X.env x = pure x) (hs1 : ∀ env x, foldedSetIterable it1 env x = pure x) : PE X (sc2E elt tg it0 tg1 it1 scope pos) (tSc2 X.w wi g wi1 g1 te (own.map (·.2)) vs1) := by
  refine ⟨fun pins s σ H Q I h => ?_⟩
  rw [PpSet.eval_SetComp]
  have hfree : ∀ y ∈ scope.names, y.2 = .free → ∃ c, X.env.cells.lookup y.1 = some c := fun y hy e => (ok.free y hy e).elim (fun k => I.ok.has _ (.inl k)) fun k => I.ok.has _ (.inr k)
  refine wpAny_comprehension_free (use := none) rfl hs (closure_ok hfree) ok.kind (fun y hy e => by rw [ok.uniq y hy, e]) (thn (hi.run pins s σ H _ I h) fun xv s1 hx => thn hx fun itv s2 h2 => ?_)
  obtain ⟨it, fp, tn, J, H2, rfl, I2, T, st2, f2, q⟩ := h2
  refine PpSet.newSet_ok (newEnv_comp ?_)
  obtain ⟨W, ⟨m0, w0⟩, turn⟩ := q s2.heap.objs.size (I2.hok.fresh (Nat.le_refl _))
  have I3 : Inv X pins σ (upd H2 s2.heap.objs.size (SetO X.w s2.heap.objs.size (fun _ => false) 0)) { s2 with heap := s2.heap.push (eset X.w) } := I2.laid (t' := s2.toks) (fun b o e => Heap.get?_push_of_some _ e) (Nat.le_refl _) (setO_new (setR_fresh X.w))
  have f3 : ∀ b ∈ fp, FpOk X pins (upd H2 s2.heap.objs.size (SetO X.w s2.heap.objs.size (fun _ => false) 0)) b ∧ b < ({ s2 with heap := s2.heap.push (eset X.w) } : Shared).heap.objs.size := fun b hb => by
    obtain ⟨o, e, _⟩ := T.obj _ _ st2 b hb
    have hlt := Heap.lt_size e
    exact ⟨⟨by rw [upd_ne (Nat.ne_of_lt hlt)]; exact (f2 b hb).1, (f2 b hb).2⟩, by show b < (s2.heap.push (eset X.w)).objs.size; rw [Heap.size_push]; exact Nat.lt_succ_of_lt hlt⟩
  have st3 : tn 0 ({ s2 with heap := s2.heap.push (eset X.w) } : Shared).heap := T.keep _ _ _ st2 fun b _ o e => Heap.get?_push_of_some _ e
  generalize s2.heap.objs.size = D at turn w0 I3 f3 ⊢
  change codeAny _ _ (.compStart (sc2E elt tg it0 tg1 it1 scope pos) 0 (.ref it) (.ref D) (compEnvC scope (cellsFrom (({ s2 with heap := s2.heap.push (eset X.w) } : Shared).heap.objs.size + 1) scope.names (cloFrom X.env.cells scope.names [])) ({ s2 with heap := s2.heap.push (eset X.w) } : Shared).heap.objs.size X.env)) (compPost (model X.prog X.w) X.A X.xe _ _ (.ref D) ({ s2 with heap := s2.heap.push (eset X.w) } : Shared).heap.objs.size) { ({ s2 with heap := s2.heap.push (eset X.w) } : Shared) with heap := pushCells (({ s2 with heap := s2.heap.push (eset X.w) } : Shared).heap.push { cls := .type "dict", data := .dict #[] }) scope.names }
  generalize ({ s2 with heap := s2.heap.push (eset X.w) } : Shared) = s3 at I3 f3 st3 ⊢
  generalize upd H2 D (SetO X.w D (fun _ => false) 0) = H3 at w0 I3 f3
  have I4 := block_start I3 ok hN f3
  have nfp : ∀ b ∈ fp, H3 b = none := fun b hb => (f3 b hb).1.1
  have pg := hg s3 H3 s3.heap.objs.size (cellsFrom (s3.heap.objs.size + 1) scope.names (cloFrom X.env.cells scope.names [])) fp
  have pi1 := hi1 s3 H3 s3.heap.objs.size (cellsFrom (s3.heap.objs.size + 1) scope.names (cloFrom X.env.cells scope.names [])) fp
  have pg1 := hg1 s3 H3 s3.heap.objs.size (cellsFrom (s3.heap.objs.size + 1) scope.names (cloFrom X.env.cells scope.names [])) fp
  have pe := he s3 H3 s3.heap.objs.size (cellsFrom (s3.heap.objs.size + 1) scope.names (cloFrom X.env.cells scope.names [])) fp
  have st4 : tn 0 (pushCells (s3.heap.push { cls := .type "dict", data := .dict #[] }) scope.names) := T.keep _ _ _ st3 fun b _ o e => pushCells_keeps _ _ _ _ (Heap.get?_push_of_some _ e)
  generalize hce : compEnvC scope (cellsFrom (s3.heap.objs.size + 1) scope.names (cloFrom X.env.cells scope.names [])) s3.heap.objs.size X.env = ce at I4 pg pi1 pg1 pe ⊢
  have cL : ce.locals = s3.heap.objs.size := by subst hce; rfl
  generalize hs4 : ({ s3 with heap := pushCells (s3.heap.push { cls := .type "dict", data := .dict #[] }) scope.names } : Shared) = s4 at I4 ⊢
  have st4 : tn 0 s4.heap := by rw [← hs4]; exact st4
  -- the state between two turns of the outer loop
  let Bt : Nat → Shared → Prop := fun m s' => ∃ i H', Inv (X.blk s3 H3 scope ce fp) [] (wipe σ (own.map (·.2))) H' s' ∧ tn i s'.heap ∧ (∀ b ∈ fp, H' b = none) ∧ W i m H'
  have loop : codeAny (model X.prog X.w) X.A (.compLoop (sc2E elt tg it0 tg1 it1 scope pos) 0 (.ref it) (.ref D) ce) (compPost (model X.prog X.w) X.A X.xe none (EP X pins σ Q) (.ref D) s3.heap.objs.size) s4 := by
    refine sc2_out (hs1 ce) Bt ?_ m0 ⟨0, H3, I4, st4, nfp, w0⟩
    rintro n s5 ⟨i, H5, I5, st5, n5, w5⟩
    have stat : ∀ {σ' : L2.St} {H' : Hp} {s' : Shared}, Inv (X.blk s3 H3 scope ce fp) [] σ' H' s' → (∀ b ∈ fp, H' b = none) → ∀ b ∈ fp, FpOk (X.blk s3 H3 scope ce fp) [] H' b := fun {σ' H' s'} I' hn b hb =>
      ⟨hn b hb, (I'.ok.exf b hb).1, I'.ok.exfs b hb, .inl hb, fun x c e => (I'.ok.exf b hb).2 x c e, fun p hp => absurd (show p ∈ ([] : List (Addr × Obj)) ++ [] from hp) (by simp)⟩
    rcases turn i n H5 w5 with ⟨stop, qq⟩ | ⟨go, Nx, hNx, step⟩
    · refine thnF (T.done (X.blk s3 H3 scope ce fp) rfl rfl rfl hc i [] s5 _ H5 (fun _ _ => False) I5 (stat I5 n5) st5 stop) fun r s6 ⟨hr, I6⟩ => ?_
      subst hr
      have I7 : Inv X pins σ H5 s6 := I3.call' (ch := fp) I6.os I6.base I6.hok I6.bare fun b hb => ⟨(f3 b hb).1.2.2.2.1, (f3 b hb).1.2.1, (f3 b hb).1.2.2.2.2.1, (f3 b hb).1.2.2.2.2.2⟩
      have nC : H5 s3.heap.objs.size = none := by
        have z : H5 ce.locals = none := I6.free
        rw [cL] at z
        exact z
      obtain ⟨m, hn, _⟩ := I6.loc
      have hn : s6.heap.Ns ce.locals m := hn
      rw [cL] at hn
      obtain ⟨f0, f1, k2, k3, k4, k5⟩ := I3.fpOk (Nat.le_refl _) nC
      exact ⟨m, hn, fun h'' sb => ⟨.ref D, H5, I7.turned (t' := s6.toks) (fun b o hb e => (sb.2 b hb).trans e) nC f1 k3 k4 k5, rfl, qq⟩⟩
    · refine thnF (T.item (X.blk s3 H3 scope ce fp) rfl rfl rfl hc i [] s5 _ H5 (fun _ _ => False) I5 (stat I5 n5) st5 go) fun r s6 ⟨u, hr, h6⟩ => ?_
      subst hr
      refine thnF h6 fun _ s7 ⟨x, H7, I7, r7, y7, st7, n7⟩ => ?_
      refine thnF (pg.run _ s7 _ H7 x u _ (I7.pinned (stat I7 n7) (T.obj _ _ st7)) r7 (step x H7 y7)) fun _ s8 ⟨σ8, H8, I8, hw8, q8⟩ => ?_
      refine thnF (pi1.run _ s8 σ8 H8 _ I8 q8) fun xv s10 hx => thnF hx fun itv s11 h11 => ?_
      obtain ⟨jt, fq, tq, J1, H11, rfl, I11, T1, st11, f11, W1, ⟨m1, w1⟩, turn1⟩ := h11
      -- what was pinned at the turn's start stands
      have back : ∀ {σ9 : L2.St} {s' : Shared} {H' : Hp}, Inv (X.blk s3 H3 scope ce fp) ([] ++ pinsAt fp s7.heap) σ9 H' s' → (wipe σ (own.map (·.2))).length = σ9.length → (∀ (j : Nat) v, (wipe σ (own.map (·.2)))[j]? = some (some v) → σ9[j]? = some (some v)) → Nx H' → ∃ m, m < n ∧ Bt m s' := fun {σ9 s' H'} I' hl hk nx => by
        obtain ⟨m', hm, w'⟩ := hNx H' nx
        have pin' : ∀ b ∈ fp, ∀ o, s7.heap.get? b = some o → s'.heap.get? b = some o ∧ H' b = none := fun b hb o e =>
          let z := I'.pin (b, o) (List.mem_append_right _ (List.mem_append_right _ (mem_pinsAt hb e)))
          ⟨z.1, z.2.1⟩
        exact ⟨m', hm, i + 1, H', (I'.unpinned (pins := [])).weak hl hk, T.keep _ _ _ st7 fun b hb o e => (pin' b hb o e).1, fun b hb => (T.obj _ _ st7 b hb).elim fun o z => (pin' b hb o z.1).2, w'⟩
      have k9 : ∀ (j : Nat) v, (wipe σ (own.map (·.2)))[j]? = some (some v) → (wipe σ8 vs1)[j]? = some (some v) := fun j v e => by
        rw [← hw8] at e
        obtain ⟨e1, e2⟩ := wipe_some e
        rw [wipe_out fun z => e2 (hv j z)]
        exact e1
      have l9 : (wipe σ (own.map (·.2))).length = (wipe σ8 vs1).length := by rw [← hw8, wipe_length, wipe_length]
      have stat1 : ∀ {H' : Hp}, (∀ b ∈ fq, H' b = none) → ∀ b ∈ fq, FpOk (X.blk s3 H3 scope ce fp) ([] ++ pinsAt fp s7.heap) H' b := fun hn b hb => ⟨hn b hb, (f11 b hb).2⟩
      have loop1 : codeAny (model X.prog X.w) X.A (.compLoop (sc2E elt tg it0 tg1 it1 scope pos) 1 (.ref jt) (.ref D) ce) (fun r s' => match r with
          | .ok _ => ∃ m, m < n ∧ Bt m s'
          | .error _ => False) s11 := by
        refine sc2_in (fun k s' => ∃ j H', Inv (X.blk s3 H3 scope ce fp) ([] ++ pinsAt fp s7.heap) (wipe σ8 vs1) H' s' ∧ tq j s'.heap ∧ (∀ b ∈ fq, H' b = none) ∧ W1 j k H') ?_ m1 ⟨0, H11, I11.weak (wipe_length _ _) (fun j v e => (wipe_some e).1), st11, fun b hb => (f11 b hb).1, w1⟩
        rintro k s12 ⟨j, H12, I12, st12, n12, w12⟩
        rcases turn1 j k H12 w12 with ⟨stop1, nx1⟩ | ⟨go1, Nx1, hNx1, step1⟩
        · refine thnF (T1.done (X.blk s3 H3 scope ce fp) rfl rfl rfl hc j _ s12 (wipe σ8 vs1) H12 (fun _ _ => False) I12 (stat1 n12) st12 stop1) fun r s13 ⟨hr, I13⟩ => ?_
          subst hr
          exact back I13 l9 k9 nx1
        · refine thnF (T1.item (X.blk s3 H3 scope ce fp) rfl rfl rfl hc j _ s12 (wipe σ8 vs1) H12 (fun _ _ => False) I12 (stat1 n12) st12 go1) fun r s13 ⟨u1, hr, h13⟩ => ?_
          subst hr
          refine thnF h13 fun _ s14 ⟨x1, H14, I14, r14, y14, st14, n14⟩ => ?_
          refine thnF (pg1.run _ s14 (wipe σ8 vs1) H14 x1 u1 _ (I14.pinned (stat1 n14) (T1.obj _ _ st14)) r14 (step1 x1 H14 y14)) fun _ s15 ⟨σ15, H15, I15, hw15, q15⟩ => ?_
          refine thnF (pe.run _ s15 σ15 H15 _ I15 q15) fun z s17 ⟨yv, H17, I17, r17, c, S, nn, ey, hD17, hz17, nx⟩ => ?_
          subst ey
          refine addI_ok (X := X.blk s3 H3 scope ce fp) I17 hD17 hz17 r17 fun s18 I18 => ?_
          obtain ⟨m', hm, w'⟩ := hNx1 _ nx
          have pin' : ∀ b ∈ fq, ∀ o, s14.heap.get? b = some o → s18.heap.get? b = some o ∧ upd H17 D (SetO X.w D (fun j => S j || decide (j = c)) (if S c = true then nn else nn + 1)) b = none := fun b hb o e =>
            let z := I18.pin (b, o) (List.mem_append_right _ (List.mem_append_right _ (mem_pinsAt hb e)))
            ⟨z.1, z.2.1⟩
          exact ⟨m', hm, j + 1, _, I18.unpinned.weak (by rw [← hw15, wipe_length]) (fun j v e => by rw [← hw15] at e; exact (wipe_some e).1), T1.keep _ _ _ st14 fun b hb o e => (pin' b hb o e).1, fun b hb => (T1.obj _ _ st14 b hb).elim fun o z => (pin' b hb o z.1).2, w'⟩
      exact sc2_start1 loop1 (T1.self X.A 0 _ _ _ st11 loop1)
  exact PpSet.codeAny_compStart_set loop (T.self X.A 0 _ _ _ st4 loop)
end
end K29
set_option Elab.async false
set_option linter.all false
set_option maxRecDepth 100000
set_option maxHeartbeats 4000000
/-! a lambda of one parameter that its own comprehension reads: the parameter is a cell, the other names are captured -/
namespace K29
open PySem PySem.Spec PyProof.Rows L2 LamX
structure LamP (sc scope : Scope) (x : Str) : Prop where
  kind : scope.kind = .function
  co : scope.isCoroutine = false
  gen : scope.isGenerator = false
  uniq : ∀ y ∈ scope.names, scope.names.lookup y.1 = some y.2
  par : scope.names.lookup x = some .cell
  own : ∀ y ∈ scope.names, y.2 ≠ .local ∧ (y.2 = .cell → y.1 = x)
  free : ∀ y ∈ scope.names, y.2 = .free → sc.names.lookup y.1 = some .cell ∨ sc.names.lookup y.1 = some .free
def lamPB (sc scope : Scope) (x : Str) : Bool :=
  decide (scope.kind = .function) && !scope.isCoroutine && !scope.isGenerator && scope.names.all (fun y => decide (scope.names.lookup y.1 = some y.2)) && decide (scope.names.lookup x = some .cell) && scope.names.all (fun y => !decide (y.2 = .local) && (!decide (y.2 = .cell) || decide (y.1 = x))) && scope.names.all (fun y => !decide (y.2 = .free) || decide (sc.names.lookup y.1 = some .cell) || decide (sc.names.lookup y.1 = some .free))
theorem lamP_by {sc scope : Scope} {x : Str} (h : lamPB sc scope x = true) : LamP sc scope x := by
  unfold lamPB at h
  simp only [Bool.and_eq_true, Bool.or_eq_true, Bool.not_eq_true', decide_eq_true_eq, decide_eq_false_iff_not, List.all_eq_true] at h
  obtain ⟨⟨⟨⟨⟨⟨h1, h2⟩, h3⟩, h4⟩, h5⟩, h6⟩, h7⟩ := h
  refine ⟨h1, h2, h3, h4, h5, fun y hy => ⟨(h6 y hy).1, fun e => (h6 y hy).2.resolve_left fun z => z e⟩, fun y hy e => ?_⟩
  rcases h7 y hy with (z | z) | z
  · exact absurd e z
  · exact .inl z
  · exact .inr z
theorem LamP.has {X : Cx} {scope : Scope} {x : Str} (L : LamP X.env.scope scope x) (ok : X.Ok) : ∀ y ∈ scope.names, y.2 = .free → ∃ c, X.env.cells.lookup y.1 = some c := fun y hy e => (L.free y hy e).elim (fun k => ok.has _ (.inl k)) fun k => ok.has _ (.inr k)
/-- the environment of its body, laid at L -/
abbrev lamE (X : Cx) (scope : Scope) (L f c' : Addr) : Env := PySem.W.envX (X.env.qual ++ "<lambda>") scope L f (.ref c') (cellsFrom (L + 1) scope.names (cloFrom X.env.cells scope.names []))
/-- the context of its body, entered at s from the frames outer -/
def lamC (X : Cx) (A : Around) (outer : List Env) (s : Shared) (H : Hp) (scope : Scope) (f c' : Addr) : Cx where
  prog := X.prog
  w := X.w
  K := X.K
  mg := X.mg
  base := X.base
  A := A.deeper (lamE X scope s.heap.objs.size f c')
  N := X.N
  s_0 := s
  H_0 := H
  env := lamE X scope s.heap.objs.size f c'
  outer := outer
  stack := lamE X scope s.heap.objs.size f c' :: outer
  ex := []
  fn := fun y => scope.names.lookup y == some .cell
  calm := true
  pn := []
  xe := fun _ _ => False
section
variable {X : Cx} {pins : List (Addr × Obj)} {σ : L2.St} {H HZ : Hp} {s s1 : Shared} {A : Around} {outer : List Env} {scope : Scope} {x : Str} {f c' : Addr} {k : Nat}
theorem lamC_start {tk : Nat} (I : Inv X pins σ H s) (L : LamP X.env.scope scope x) (hNx : ∀ i : Nat, X.N[i]? = some x → ∀ v : V, σ[i]? ≠ some (some v)) (e0 : Env0 X.prog X.w X.K X.mg X.base A outer s1 HZ) (hd : A.handled = none) (un : Un (frs X.stack) [] H HZ s.heap s1.heap) :
    Inv (lamC X A outer s1 HZ scope f c') [] σ HZ { s1 with heap := pushCells (s1.heap.push { cls := .type "frame", data := .dict #[] }) scope.names, toks := tk } := by
  have hfree := L.has I.ok
  have kp : ∀ b o, s1.heap.get? b = some o → (pushCells (s1.heap.push { cls := .type "frame", data := .dict #[] }) scope.names).get? b = some o := fun b o e => pushCells_keeps _ _ _ _ (Heap.get?_push_of_some _ e)
  have sz : (s1.heap.push ({ cls := .type "frame", data := .dict #[] } : Obj)).objs.size = s1.heap.objs.size + 1 := Heap.size_push ..
  have cellK : ∀ {c : Addr} {v : Option Value}, H c = none → s.heap.IsCell c v → s1.heap.IsCell c v := fun {c v} n ⟨o, ho, hd⟩ => by
    obtain ⟨sl, q⟩ := un.any ho n (by simp)
    exact ⟨_, q, hd⟩
  have cellP : ∀ {c : Addr} {v : Option Value}, s1.heap.IsCell c v → (pushCells (s1.heap.push { cls := .type "frame", data := .dict #[] }) scope.names).IsCell c v := fun {c v} ⟨o, ho, hd⟩ => ⟨o, kp _ _ ho, hd⟩
  have cm : ∀ {y c}, (y, c) ∈ cloFrom X.env.cells scope.names [] → X.env.cells.lookup y = some c ∧ (∃ v, s1.heap.IsCell c v) ∧ HZ c = none ∧ (y, NameKind.free) ∈ scope.names := fun {y c} hm => by
    rcases cloFrom_mem hm with hm | ⟨h1, rfl⟩
    · cases hm
    · obtain ⟨c, hc⟩ := hfree _ h1 rfl
      rw [show X.env.cells.lookup y = some c from hc]
      have nH := I.freeC _ _ hc
      obtain ⟨w, z⟩ := I.cell _ _ hc
      have z1 := cellK nH z
      obtain ⟨o, ho, _⟩ := z
      exact ⟨rfl, ⟨w, z1⟩, un.free c o ho nH (by simp), h1⟩
  have mem : ∀ {y c}, (lamE X scope s1.heap.objs.size f c').cells.lookup y = some c → (X.env.cells.lookup y = some c ∧ (∃ v, s1.heap.IsCell c v) ∧ HZ c = none ∧ (y, NameKind.free) ∈ scope.names) ∨ ((y, NameKind.cell) ∈ scope.names ∧ s1.heap.objs.size + 1 ≤ c ∧ CellAt (pushCells (s1.heap.push { cls := .type "frame", data := .dict #[] }) scope.names) c none) := fun {y c} e => by
    have e : (cellsFrom (s1.heap.objs.size + 1) scope.names (cloFrom X.env.cells scope.names [])).lookup y = some c := e
    rw [← sz] at e
    rcases cells_mem (PySem.mem_of_lookup e) with hm | ⟨h1, h2, h3⟩
    · exact .inl (cm hm)
    · rw [sz] at h2
      exact .inr ⟨h1, h2, h3⟩
  have look : ∀ {y}, scope.names.lookup y = some .free → ∃ c, (lamE X scope s1.heap.objs.size f c').cells.lookup y = some c ∧ X.env.cells.lookup y = some c := fun {y} hl => by
    have hy : (y, NameKind.free) ∈ scope.names := PySem.mem_of_lookup hl
    obtain ⟨c1, e1⟩ := mem_lookup (cells_acc (names := scope.names) (n := s1.heap.objs.size + 1) (cloFrom_has (cells := X.env.cells) (acc := []) hy))
    refine ⟨c1, e1, ?_⟩
    rcases mem (y := y) (c := c1) e1 with h | ⟨h1, _, _⟩
    · exact h.1
    · have := L.uniq _ h1
      rw [hl] at this
      cases this
  have noA : ∀ b : Addr, b ∉ (lamC X A outer s1 HZ scope f c').ex := fun b z => absurd (show b ∈ ([] : List Addr) from z) (by simp)
  refine ⟨⟨e0.mod, L.kind, rfl, rfl, Nat.le_refl _, fun y z c e1 e2 => ?_, fun y hy => ?_, fun y c z e => ?_, fun _ => hd, Around.frames_deeper e0.frames, .inr ⟨rfl, rfl⟩, fun b z => absurd z (noA b), e0.bs, e0.bsz, fun b _ _ => noA b,
      fun b z => absurd z (noA b), e0.funs, e0.frf⟩,
    rfl, e0.bare, Un.kept kp, ⟨fun _ => none, (Heap.Ns.new s1.heap (.type "frame")).keeps (pushCells_keeps _ _), fun i y v e1 e2 e3 => ?_⟩, fun y c e => ?_, e0.hok.fresh (Nat.le_refl _), fun y c e => ?_, fun q hq => absurd (show q ∈ ([] : List (Addr × Obj)) ++ [] from hq) (by simp), e0.hok.kept kp, I.len⟩
  · have e1 : (cellsFrom (s1.heap.objs.size + 1) scope.names (cloFrom X.env.cells scope.names [])).lookup y = some c := e1
    have e2 : (cellsFrom (s1.heap.objs.size + 1) scope.names (cloFrom X.env.cells scope.names [])).lookup z = some c := e2
    rw [← sz] at e1 e2
    refine cells_inj (fun p hp => ?_) (fun y z c a b => I.ok.inj y z c (cm a).1 (cm b).1) (PySem.mem_of_lookup e1) (PySem.mem_of_lookup e2)
    obtain ⟨_, ⟨v, o, ho, _⟩, _⟩ := cm (y := p.1) (c := p.2) hp
    rw [sz]
    exact Nat.lt_succ_of_lt (Heap.lt_size ho)
  · have hy : scope.names.lookup y = some .cell ∨ scope.names.lookup y = some .free := hy
    rcases hy with hy | hy
    · obtain ⟨c, hm⟩ := cells_has (n := s1.heap.objs.size + 1) (acc := cloFrom X.env.cells scope.names []) (PySem.mem_of_lookup hy)
      exact mem_lookup hm
    · obtain ⟨c, h1, _⟩ := look hy
      exact ⟨c, h1⟩
  · have z : (scope.names.lookup y == some NameKind.cell) = true := z
    have z : scope.names.lookup y = some .cell := by simpa using z
    rcases mem e with ⟨_, _, _, h1⟩ | ⟨_, h2, _⟩
    · have := L.uniq _ h1
      rw [z] at this
      cases this
    · show s1.heap.objs.size ≤ c
      omega
  · have e1 : X.N[i]? = some y := e1
    have e3 : Vis scope y := e3
    rcases e3 with k | k | k
    · exact absurd rfl (L.own _ (PySem.mem_of_lookup k)).1
    · have this : y = x := (L.own _ (PySem.mem_of_lookup k)).2 rfl
      rw [this] at e1
      exact absurd e2 (hNx i e1 v)
    · obtain ⟨m, hn, hl⟩ := I.loc
      have hvis : Vis X.env.scope y := (L.free _ (PySem.mem_of_lookup k) rfl).elim (fun k => .inr (.inl k)) (fun k => .inr (.inr k))
      obtain ⟨w', r, q⟩ := hl i y v e1 e2 hvis
      obtain ⟨c2, h2, h3⟩ := look k
      refine ⟨w', r, .inr ⟨.inr k, c2, h2, ?_⟩⟩
      rcases q with ⟨k', _⟩ | ⟨_, c3, e', z⟩
      · have k' : X.env.scope.names.lookup y = some .local := k'
        rcases L.free _ (PySem.mem_of_lookup k) rfl with k2 | k2 <;> rw [show X.env.scope.names.lookup y = _ from k2] at k' <;> cases k'
      · rw [h3] at e'
        cases e'
        exact cellP (cellK (I.freeC y _ h3) z)
  · rcases mem e with ⟨_, ⟨v, z⟩, _⟩ | ⟨_, _, h3⟩
    · exact ⟨v, cellP z⟩
    · exact ⟨none, h3⟩
  · rcases mem e with ⟨_, _, h, _⟩ | ⟨_, h2, _⟩
    · exact h
    · exact e0.hok.fresh (by omega)
end
/-! ### it is called -/
theorem newFn_one {M : Model} {A : Around} {E : Value → Shared → Prop} {s : Shared} {scope : Scope} {globals : Addr} {closure : List (Str × Addr)} {x : Str} {u : Value} {qual : Str} {func : Option Addr} {code : Value} {builtins : Addr} {Q : Env → Shared → Prop}
    (h : wpAny M A (storeName (newEnv scope s.heap.objs.size globals (cellsFrom (s.heap.objs.size + 1) scope.names closure) qual func code none builtins) x u)
      (fun _ s' => Q (newEnv scope s.heap.objs.size globals (cellsFrom (s.heap.objs.size + 1) scope.names closure) qual func code none builtins) s') E { s with heap := pushCells (s.heap.push { cls := .type "frame", data := .dict #[] }) scope.names }) :
    wpAny M A (newFunctionEnv scope globals closure [(x, u)] qual func code none builtins) Q E s := by
  simp only [newFunctionEnv, Option.isSome_none, Bool.false_eq_true, if_false]
  refine wpAny_bind (wpAny_alloc ?_)
  refine wpAny_bind (wpAny_layCells _ (fun name kind cells => by cases hkc : kind == NameKind.cell <;> simp [hkc]) scope.names closure _ _ ?_)
  rw [show ({ s with heap := s.heap.push { cls := .type "frame", data := .dict #[] } } : Shared).heap.objs.size = s.heap.objs.size + 1 from Heap.size_push ..]
  rw [List.forIn_cons]
  refine wpAny_bind (wpAny_bind (wpAny_bind (wpAny_mono h (fun _ s' hq => ?_) fun _ _ e => e)))
  refine wpAny_pure ?_
  show wpAny _ _ (forIn [] _ _) _ _ _
  rw [List.forIn_nil]
  exact wpAny_pure (wpAny_pure hq)
end K29
set_option Elab.async false
set_option linter.all false
set_option maxRecDepth 100000
set_option maxHeartbeats 4000000
/-! the lambda called within the def that got it; the def called with it -/
namespace K29
open PySem PySem.Spec PyProof.Rows L2 LamX
theorem nodup_at {α : Type} : ∀ {l : List α} {i j : Nat} {x : α}, l.Nodup → l[i]? = some x → l[j]? = some x → i = j
  | [], _, _, _, _, h, _ => by simp at h
  | _ :: _, 0, 0, _, _, _, _ => rfl
  | y :: l, 0, j + 1, x, nd, h, k => by
    simp at h k
    subst h
    exact absurd (List.mem_of_getElem? k) (List.nodup_cons.mp nd).1
  | y :: l, i + 1, 0, x, nd, h, k => by
    simp at h k
    subst k
    exact absurd (List.mem_of_getElem? h) (List.nodup_cons.mp nd).1
  | y :: l, i + 1, j + 1, x, nd, h, k => by
    exact congrArg Nat.succ (nodup_at (l := l) (i := i) (j := j) (List.nodup_cons.mp nd).2 (by simpa using h) (by simpa using k))
/-- the lambda is made: its code object is new, or found in the def's table; only the table is written -/
theorem lam_new {X : Cx} {pins : List (Addr × Obj)} {σ : L2.St} {H : Hp} {s : Shared} {c P : Addr} {params : Arguments} {body : Expr} {scope : Scope} {pos : Pos} {E : Value → Shared → Prop} {Q : Value → Shared → Prop} (I : Inv X pins σ H s) (TB : TabB X.base X.mg c P) (hcode : X.env.code = .ref c)
    (hT : TabS H P (X.env.qual ++ "<lambda>")) (hdef : defaultsOf params X.env = ([], [])) (hfree : ∀ y ∈ scope.names, y.2 = .free → ∃ c, X.env.cells.lookup y.1 = some c)
    (h : ∀ (f c' : Addr) (pm ctv : Value) (H1 : Hp) (s' : Shared), Inv X pins σ H1 s' → (∀ b o, b ≠ P → H b = some o → H1 b = some o) → (∀ b, H1 b = none → H b = none) → TabS H1 P (X.env.qual ++ "<lambda>") →
      s'.heap.get? f = some (PySem.W.kla_obj "<lambda>" (X.env.qual ++ "<lambda>") params body scope (cloFrom X.env.cells scope.names []) pm c' ctv) → H1 f = none → f ∉ frs X.stack → H1 c' = some (CodeO c' (X.env.qual ++ "<lambda>")) → Q (.ref f) s') :
    wpAny (model X.prog X.w) X.A (eval (.Lambda params body scope pos) X.env) Q E s := by
  obtain ⟨ps, hP, ht, ha⟩ := hT
  refine PySem.W.kla_eval hdef ?_
  have bP : s.heap.BuiltinsAt X.mg P := TB.bm.keeps I.bk
  have hP' : s.heap.get? P = some { cls := .none, data := .fields ps } := I.hok P _ hP
  have nofr : ∀ f, s.heap.objs.size ≤ f → f ∉ frs X.stack := fun f hf z => by
    rcases List.mem_cons.mp (I.stkSub _ z) with e | e
    · have h1 := I.lt
      rw [← e] at h1
      exact Nat.lt_irrefl _ (Nat.lt_of_lt_of_le h1 hf)
    · exact I.nofs hf e
  cases hc : codeAmong pos ps.toList with
  | some cv =>
    obtain ⟨c', rfl, hco⟩ := ha pos cv hc
    refine PySem.W.kla_makeFunctionHit (mg := X.mg) (c := c) (P := P) (ps := ps) (closure_ok hfree) I.ok.glob (I.mod.glob.keeps I.bk) hcode (TB.code.keeps I.bk) hP' ht hc bP fun ctv h' tk hx hsz => ?_
    exact h h'.objs.size c' ((X.mg "__name__").getD .none) ctv H _ (I.kept (t' := tk) fun b o e => Heap.get?_push_of_some _ (hx b o e)) (fun _ _ _ e => e) (fun _ e => e) ⟨ps, hP, ht, ha⟩ (Heap.get?_push_size _ rfl) (I.hok.fresh hsz) (nofr _ hsz) hco
  | none =>
    refine PySem.W.kla_makeFunction (mg := X.mg) (c := c) (P := P) (ps := ps) (closure_ok hfree) I.ok.glob (I.mod.glob.keeps I.bk) hcode (TB.code.keeps I.bk) hP' ht hc TB.gP bP fun c' ctv h' tk hx hge hlt hrec htb => ?_
    obtain ⟨c2, oc, vs, t, e2, hoc, hd, hv⟩ := hrec
    cases e2
    have hsz : s.heap.objs.size ≤ h'.objs.size := Nat.le_trans hge (Nat.le_of_lt hlt)
    have nC : H c' = none := I.hok.fresh hge
    have nPc : P ≠ c' := fun z => by rw [← z, hP] at nC; cases nC
    have I1 := inv_table (t' := tk) (more := #[rawInt pos.line, rawInt pos.col, .ref c']) (h' := h'.push (PySem.W.kla_obj "<lambda>" (X.env.qual ++ "<lambda>") params body scope (cloFrom X.env.cells scope.names []) ((X.mg "__name__").getD .none) c' ctv)) I hP
      (fun b o hb e => Heap.get?_push_of_some _ (hx b o hb e)) (Heap.get?_push_of_some _ htb) hge ⟨oc, vs, t, Heap.get?_push_of_some _ hoc, hd, hv⟩
    have keep : ∀ b o, b ≠ P → H b = some o → upd (upd H P (.tbl (ps ++ #[rawInt pos.line, rawInt pos.col, .ref c']))) c' (CodeO c' (X.env.qual ++ "<lambda>")) b = some o := fun b o n e => by
      rw [upd_ne (ne_of_none e nC), upd_ne n]
      exact e
    have eL : (ps ++ #[rawInt pos.line, rawInt pos.col, .ref c']).toList = ps.toList ++ [rawInt pos.line, rawInt pos.col, .ref c'] := by simp
    have fresh : ∀ b, b ≠ P → b ≠ c' → H b = none → upd (upd H P (.tbl (ps ++ #[rawInt pos.line, rawInt pos.col, .ref c']))) c' (CodeO c' (X.env.qual ++ "<lambda>")) b = none := fun b n1 n2 e => by
      rw [upd_ne n2, upd_ne n1]
      exact e
    refine h h'.objs.size c' ((X.mg "__name__").getD .none) ctv _ _ I1 keep (fun b e => ?_) ⟨_, by rw [upd_ne nPc, upd_same], by rw [eL]; exact PySem.TriplesOk_snoc _ _ _ _ ht, fun p' cv hcv => ?_⟩ (Heap.get?_push_size _ rfl)
      (fresh _ (Nat.ne_of_gt (Nat.lt_of_lt_of_le (Heap.lt_size hP') hsz)) (Nat.ne_of_gt hlt) (I.hok.fresh hsz)) (nofr _ hsz) upd_same
    · by_cases z : b = c'
      · rw [z, upd_same] at e
        cases e
      · rw [upd_ne z] at e
        by_cases y : b = P
        · rw [y, upd_same] at e
          cases e
        · rw [upd_ne y] at e
          exact e
    · rw [eL] at hcv
      rcases among_app _ ht hcv with z | z
      · obtain ⟨c0, e1, e2⟩ := ha p' cv z
        exact ⟨c0, e1, keep _ _ (fun y => by rw [y, hP] at e2; exact codeO_ne _ (Option.some.inj e2).symm) e2⟩
      · exact ⟨c', z, upd_same⟩
/-- f's call, in the context Z: what tb says of the one value -/
def Act (Z : Cx) (f c' : Addr) (q : Str) (tb : V → Hp → VK → Prop) : Prop := ∀ (i : Nat) (a : Str) (p1 p2 : Pos) (e : Expr) (σZ : L2.St) (HZ : Hp) (Q : VK), Z.N[i]? = some a → Vis Z.env.scope a → (a == ("__debug__" : Str)) = false → (a == ("__classdict__" : Str)) = false →
  starEach [e] Z.env = (false, eval e Z.env) :: starEach [] Z.env → (backTo p2 (starEach [] Z.env)).any (·.1) = false → σZ[i]? = some (some (.ref f)) → Wa Z [e] σZ HZ (fun vs H' => ∃ v, vs = [v] ∧ H' c' = some (CodeO c' q) ∧ tb v H' Q) → We Z (.Call (.Name a p1) [e] [] p2) σZ HZ Q
theorem lam_act {X : Cx} {pins : List (Addr × Obj)} {σ : L2.St} {H : Hp} {s : Shared} {Ng : List Str} {qg : Str} {sg : Scope} {g f c' : Addr} {cdg pm ctv : Value} {params : Arguments} {body : Expr} {scope : Scope} {k k0 : Nat} {x : Str} {Eg : XK} {tb : V → Hp → VK → Prop}
    (I : Inv X pins σ H s) (L : LamP X.env.scope scope x) (hNx : ∀ i : Nat, X.N[i]? = some x → ∀ v : V, σ[i]? ≠ some (some v)) (nd : X.N.Nodup) (hN0 : X.N[k0]? = some x)
    (hf : s.heap.get? f = some (PySem.W.kla_obj "<lambda>" (X.env.qual ++ "<lambda>") params body scope (cloFrom X.env.cells scope.names []) pm c' ctv)) (hfn : H f = none) (hfr : f ∉ frs X.stack)
    (hbind : ∀ u : Value, bindArgs (PySem.W.kla_fn "<lambda>" (X.env.qual ++ "<lambda>") params body scope (cloFrom X.env.cells scope.names []) pm (.ref c') ctv) ⟨[u], []⟩ = pure [(x, u)])
    (hr : Room (k + 1) (X.A.deeper (envOfC qg sg s.heap.objs.size g cdg)))
    (hbody : ∀ (A : Around) (outer : List Env) (s1 : Shared) (HZ : Hp) (v : V) (Q : VK), Room k (A.deeper (lamE X scope s1.heap.objs.size f c')) → tb v HZ Q → We (lamC X A outer s1 HZ scope f c') body (σ.set k0 (some v)) HZ Q) :
    Act (CxD X.prog X.w X.K X.mg X.base Ng qg sg g cdg X.A X.stack s H Eg) f c' (X.env.qual ++ "<lambda>") tb := by
  intro i a p1 p2 e σZ HZ Q hNa hv hd hcd hst hpl hs h pinsZ sZ IZ
  refine wpAny_Call_Name_kw (thn ((pe_var (pos := p1) (i := i) hNa hv hd hcd).run pinsZ sZ σZ HZ (fun v H1 => v = .ref f ∧ H1 = HZ) IZ ⟨.ref f, hs, rfl, rfl⟩) fun u s1 ⟨v, H1, I1, r1, q1⟩ => ?_)
  obtain ⟨ev, eH⟩ := q1
  subst ev
  rw [eH] at I1
  obtain rfl : u = Value.ref f := r1
  have at_ : ∀ {σ' : L2.St} {H' : Hp} {s' : Shared}, Inv (CxD X.prog X.w X.K X.mg X.base Ng qg sg g cdg X.A X.stack s H Eg) pinsZ σ' H' s' → s'.heap.get? f = some (PySem.W.kla_obj "<lambda>" (X.env.qual ++ "<lambda>") params body scope (cloFrom X.env.cells scope.names []) pm c' ctv) := fun {σ' H' s'} I' => I'.base.keep f _ hf hfn hfr (fun z => nomatch (show f ∈ ([] : List Addr) from z))
  refine PySem.W.callWith_F (first := []) ⟨_, _, _, _, at_ I1⟩ (thn (h p2 pinsZ s1 I1) fun us s2 ⟨vs, H2, I2, r2, v, ev, hc, ht⟩ => ⟨⟨_, _, _, _, at_ I2⟩, ?_⟩) hst hpl
  subst ev
  obtain ⟨u, eu, ru⟩ := vals1 r2
  subst eu
  have un : Un (frs X.stack) [] H H2 s.heap s2.heap := I2.base
  obtain ⟨⟨oc, ws, t, hoc, hdc, hvc⟩, _, _⟩ := I2.hok c' _ hc
  have rc : codeAny (model X.prog X.w) (X.A.deeper (envOfC qg sg s.heap.objs.size g cdg)) (.call (.ref f) ⟨[u], []⟩) (CR C8.CX0 (envOfC qg sg s.heap.objs.size g cdg :: X.stack) X.prog X.w H2 s2 Q C8.E0) s2 := by
    refine PySem.W.kla_callFunE hr.depth (at_ I2) rfl L.co L.gen rfl ⟨c', oc, ws, t, rfl, hoc, hdc, hvc⟩ ?_
    rw [hbind]
    refine wpAny_pure (newFn_one ?_)
    have J : Inv (lamC X (X.A.deeper (envOfC qg sg s.heap.objs.size g cdg)) (envOfC qg sg s.heap.objs.size g cdg :: X.stack) s2 H2 scope f c') [] σ H2 { s2 with heap := pushCells (s2.heap.push { cls := .type "frame", data := .dict #[] }) scope.names, toks := s2.toks } := lamC_start I L hNx I2.env0 hr.hd un
    refine store_ok (X := lamC X (X.A.deeper (envOfC qg sg s.heap.objs.size g cdg)) (envOfC qg sg s.heap.objs.size g cdg :: X.stack) s2 H2 scope f c') J nd hN0 (.inr L.par) ru (fun s3 J3 => ⟨J3.nolimit, ?_⟩) (.inl (by show (scope.names.lookup x == some NameKind.cell) = true; rw [L.par]; rfl))
    show codeAny _ _ (.expr body (lamE X scope s2.heap.objs.size f c')) _ _
    refine PySem.W.kla_codeExpr (wpAny_mono (hbody _ _ s2 H2 v Q (hr.deeper _) ht [] s3 J3) (fun z s' hq => ?_) fun e s' hq => False.elim hq)
    obtain ⟨w', H', J', rv, q⟩ := hq
    exact ⟨w', H', J'.os, J'.bare, J'.base, J'.hok, rv, q⟩
  refine wpAny_call (codeAny_mono rc fun r s' hq => ?_)
  cases r with
  | error e => exact (show False from hq).elim
  | ok fl =>
    cases fl with
    | ret u => exact I2.after hq
    | next => exact False.elim hq
    | brk => exact False.elim hq
    | cont => exact False.elim hq
/-- x(a, lambda p: body) -/
theorem we_lam2 {X : Cx} {x y : Str} {a : Expr} {g c P : Addr} {k k0 : Nat} {st : Stmt} {fd : FuncData} {Ng : List Str} {a1 a2 : Str} {params : Arguments} {body : Expr} {scope : Scope} {p lpos pos : Pos} {σ : L2.St} {H : Hp} {Q : VK} {tb : V → Hp → VK → Prop} {GT : V → Addr → Addr → Hp → Prop}
    (D : C8.Def X.K X.mg x st g fd) (hb : Binds X.K fd [a1, a2] []) (Sg : FnScope Ng [a1, a2] (C8.fnScope st)) (hg : Gl X x)
    (TB : TabB X.base X.mg c P) (hcode : X.env.code = .ref c) (hr : Room (k + 2) X.A) (L : LamP X.env.scope scope y) (hNy : X.N[k0]? = some y) (hσ : σ[k0]? = some none) (nd : X.N.Nodup) (hdef : defaultsOf params X.env = ([], []))
    (hbind : ∀ (q : Str) (cl : List (Str × Addr)) (pm cv ctv u : Value), bindArgs (PySem.W.kla_fn "<lambda>" q params body scope cl pm cv ctv) ⟨[u], []⟩ = pure [(y, u)])
    (hbody : ∀ (A : Around) (outer : List Env) (s : Shared) (H : Hp) (f c' : Addr) (v : V) (Q : VK), Room k (A.deeper (lamE X scope s.heap.objs.size f c')) → tb v H Q → We (lamC X A outer s H scope f c') body (σ.set k0 (some v)) H Q)
    (h : We X a σ H fun va H1 => TabS H1 P (X.env.qual ++ "<lambda>") ∧ ∀ (f c' : Addr) (H2 : Hp), (∀ b o, b ≠ P → H1 b = some o → H2 b = some o) → (∀ b, H2 b = none → H1 b = none) → TabS H2 P (X.env.qual ++ "<lambda>") → H2 f = none → H2 c' = some (CodeO c' (X.env.qual ++ "<lambda>")) → GT va f c' H2)
    (hG : ∀ (va : V) (f c' : Addr) (H2 : Hp) (cdv : Value) (s : Shared), GT va f c' H2 → Room (k + 1) (X.A.deeper (envOfC x (C8.fnScope st) s.heap.objs.size g cdv)) → Act (CxD X.prog X.w X.K X.mg X.base Ng x (C8.fnScope st) g cdv X.A X.stack s H2 C8.E0) f c' (X.env.qual ++ "<lambda>") tb →
      Wb (CxD X.prog X.w X.K X.mg X.base Ng x (C8.fnScope st) g cdv X.A X.stack s H2 C8.E0) (C8.fnBody st) (DEnd Q) (L2.start Ng [va, .ref f]) H2)
    (hdb : (x == ("__debug__" : Str)) = false := by decide) (e1 : starEach [a, .Lambda params body scope lpos] X.env = (false, eval a X.env) :: starEach [.Lambda params body scope lpos] X.env := by rfl) (e2 : starEach [.Lambda params body scope lpos] X.env = (false, eval (.Lambda params body scope lpos) X.env) :: starEach [] X.env := by rfl) (e3 : (backTo pos (starEach [.Lambda params body scope lpos] X.env)).any (·.1) = false := by rfl) :
    We X (.Call (.Name x p) [a, .Lambda params body scope lpos] [] pos) σ H Q := by
  intro pins s I
  obtain ⟨oc, od, dV, kV, doc, pm0, an, cdv, ct, osl, rfl, lk, hcd⟩ := D.fn.ex
  refine wpAny_Call_Name_kw (ld_glob I hg D.mgf ?_ hdb)
  refine PySem.W.callWith_K (h₀ := X.base) I.ok.mod.kin D.kp ?_ e1 e3
  rw [e1, e2]
  show wpAny _ _ (spliced ((false, eval a X.env) :: (false, eval (.Lambda params body scope lpos) X.env) :: backTo pos (starEach [] X.env))) _ _ s
  refine Calls.spliced_cons (thn (h pins s I) fun ua s0 ⟨va, H0, I0, ra, T0, hGT⟩ => ?_)
  refine Calls.spliced_cons (lam_new I0 TB hcode T0 hdef (L.has I0.ok) fun f c' pm' ctv H1 s' I1 eN eM T1 hf hfn hfr hco => ?_)
  refine Calls.spliced_nil ⟨I1.kIn, ?_⟩
  have gt := hGT f c' H1 eN eM T1 hfn hco
  have rc : codeAny (model X.prog X.w) X.A (.call (.ref g) ⟨[ua, .ref f], []⟩) (CR C8.CX0 X.stack X.prog X.w H1 s' Q C8.E0) s' := by
    refine run_ofS (N := Ng) (ps := [a1, a2]) (us := [ua, .ref f]) (vs := [va, .ref f]) lk hcd Sg hr I1.env0 (hb s' [ua, .ref f] I1.kIn rfl) (.cons ra (.cons rfl .nil)) rfl fun hr' => ?_
    have act := lam_act (qg := x) (sg := C8.fnScope st) (Ng := Ng) (g := g) (cdg := cdv) (Eg := C8.E0) (tb := tb) I1 L (fun i e v z => by
      have e3 : i = k0 := nodup_at nd e hNy
      rw [e3, hσ] at z
      cases z) nd hNy hf hfn hfr (fun u => hbind _ _ _ _ _ u) hr' fun A outer s H v Q r z => hbody A outer s H f c' v Q r z
    have w := hG va f c' H1 cdv s' gt hr' act
    exact ⟨_, (wb_pss (X := CxD X.prog X.w X.K X.mg X.base Ng x (C8.fnScope st) g cdv X.A X.stack s' H1 C8.E0)).nox, w⟩
  refine wpAny_call (codeAny_mono rc fun r s2 hq => ?_)
  cases r with
  | error e => exact (show False from hq).elim
  | ok fl =>
    cases fl with
    | ret u => exact I1.after hq
    | next => exact False.elim hq
    | brk => exact False.elim hq
    | cont => exact False.elim hq
end K29
set_option Elab.async false
set_option linter.all false
set_option maxRecDepth 100000
set_option maxHeartbeats 4000000
/-! min of a list of (number, tuple, tuple) -/
namespace K29
open PySem PySem.Spec PyProof.Rows L2
/-- a find: how many are lost, the liars, the lost -/
abbrev Tr : Type := Int × List Int × List Int
def trD (e : Tr) : PyData := .tuple [.int e.1, .tuple (e.2.1.map .int), .tuple (e.2.2.map .int)]
theorem alike_ii : ∀ xs ys : List Int, PySem.W.alikeAll (xs.map .int) (ys.map .int) = true := PySem.W.alike_ints
theorem trD_alike (a b : Tr) : PySem.W.alike (trD a) (trD b) = true := by
  unfold trD
  simp only [PySem.W.alike, PySem.W.alikeAll, alike_ii, Bool.and_true]
theorem trD_lt (a b : Tr) : PySem.W.dataLt (trD a) (trD b) = true → a.1 ≤ b.1 := fun h => by
  unfold trD at h
  rw [PySem.W.dataLt_tuple, PySem.W.dataLt_cons (by simp only [PySem.W.alike])] at h
  by_cases e : a.1 = b.1
  · omega
  · have : PyData.eqv (.int a.1) (.int b.1) = false := by
      simp only [PyData.eqv]
      simpa using e
    rw [this, if_neg Bool.false_ne_true, PySem.W.dataLt_int] at h
    have := of_decide_eq_true h
    omega
theorem trD_nlt (a b : Tr) : PySem.W.dataLt (trD a) (trD b) = false → b.1 ≤ a.1 := fun h => by
  unfold trD at h
  rw [PySem.W.dataLt_tuple, PySem.W.dataLt_cons (by simp only [PySem.W.alike])] at h
  by_cases e : a.1 = b.1
  · omega
  · have : PyData.eqv (.int a.1) (.int b.1) = false := by
      simp only [PyData.eqv]
      simpa using e
    rw [this, if_neg Bool.false_ne_true, PySem.W.dataLt_int] at h
    have := of_decide_eq_false h
    omega
/-- the least is one of them, none has less lost -/
theorem minD_tr : ∀ (es : List Tr) (e : Tr), ∃ m : Tr, PySem.W.minD (trD e) (es.map trD) = trD m ∧ m ∈ e :: es ∧ ∀ x ∈ e :: es, m.1 ≤ x.1
  | [], e => ⟨e, rfl, List.mem_cons_self .., fun x hx => by rw [List.mem_singleton.mp hx]; exact Int.le_refl _⟩
  | y :: es, e => by
    cases h : PySem.W.dataLt (trD y) (trD e) with
    | true =>
      obtain ⟨m, h1, h2, h3⟩ := minD_tr es y
      refine ⟨m, ?_, List.mem_cons_of_mem _ h2, fun x hx => ?_⟩
      · rw [← h1]
        show List.foldl _ (if PySem.W.dataLt (trD y) (trD e) = true then _ else _) _ = _
        rw [h]
        rfl
      · rcases List.mem_cons.mp hx with rfl | hx
        · exact Int.le_trans (h3 y (List.mem_cons_self ..)) (trD_lt _ _ h)
        · exact h3 x hx
    | false =>
      obtain ⟨m, h1, h2, h3⟩ := minD_tr es e
      refine ⟨m, ?_, ?_, fun x hx => ?_⟩
      · rw [← h1]
        show List.foldl _ (if PySem.W.dataLt (trD y) (trD e) = true then _ else _) _ = _
        rw [h]
        rfl
      · rcases List.mem_cons.mp h2 with rfl | h2
        · exact List.mem_cons_self ..
        · exact List.mem_cons_of_mem _ (List.mem_cons_of_mem _ h2)
      · rcases List.mem_cons.mp hx with rfl | hx
        · exact h3 _ (List.mem_cons_self ..)
        · rcases List.mem_cons.mp hx with rfl | hx
          · exact Int.le_trans (h3 e (List.mem_cons_self ..)) (trD_nlt _ _ h)
          · exact h3 x (List.mem_cons_of_mem _ hx)
theorem trD_depth : ∀ es : List Tr, PyData.depthAll (es.map trD) ≤ 2
  | [] => Nat.zero_le _
  | e :: es => by
    have ih := trD_depth es
    rw [List.map_cons]
    unfold PyData.depthAll
    have : (trD e).depth ≤ 2 := by
      unfold trD
      simp only [PyData.depth, PyData.depthAll, PySem.W.depth_ints]
      decide
    omega
theorem trD_inj {a b : Tr} (h : trD a = trD b) : a = b := by
  obtain ⟨a1, a2, a3⟩ := a
  obtain ⟨b1, b2, b3⟩ := b
  have mp : ∀ {xs ys : List Int}, xs.map PyData.int = ys.map PyData.int → xs = ys := fun {xs ys} h => (List.map_inj_right (fun x y e => PyData.int.inj e)).mp h
  unfold trD at h
  simp only [PyData.tuple.injEq, List.cons.injEq, PyData.int.injEq, and_true] at h
  rw [h.1, mp h.2.1, mp h.2.2]
def rMinT (K : PySem.W.Frag) : List V → Hp → VK → Prop := fun vs H Q => ∃ (a : Addr) (es : List Tr) (xs : List V), vs = [.ref a] ∧ SqL K H a xs ∧ DpAll K H xs (es.map trD) ∧ es ≠ [] ∧ ∀ (k : Nat) (e : Tr) (x : V), es[k]? = some e → xs[k]? = some x → (∀ y ∈ es, e.1 ≤ y.1) → Q x H
theorem cr_minT {X : Cx} {j : Nat} (hc : X.calm = true) (hr : Room j X.A) : CallR X (.builtin "min") (rMinT X.K) := by
  intro pins s σ H vs us Q I r h
  obtain ⟨a, es, xs, rfl, hl, hd, hne, q⟩ := h
  rw [Vals.ref1 r]
  obtain ⟨its, rv, pl, _⟩ := I.list hl
  obtain ⟨as, hr'⟩ := Dp.readsAll I _ _ _ hd rv
  cases es with
  | nil => exact absurd rfl hne
  | cons e es =>
    have hu := hr.un
    refine PySem.W.min_list_data (x := trD e) (xs := es.map trD) (as := as) (I.ok.hd hc) pl.isList (by simpa using hr') ⟨?_, ?_⟩ ?_ fun i v h' tk bs hi hv hk => ?_
    · intro x hx y hy
      obtain ⟨x', _, rfl⟩ := List.mem_map.mp (show x ∈ (e :: es).map trD from hx)
      obtain ⟨y', _, rfl⟩ := List.mem_map.mp (show y ∈ (e :: es).map trD from hy)
      exact trD_alike _ _
    · intro x hx
      obtain ⟨x', _, rfl⟩ := List.mem_map.mp (show x ∈ (e :: es).map trD from hx)
      unfold trD
      simp
    · have := trD_depth (e :: es)
      rw [List.map_cons] at this
      omega
    have hi' : its[i]? = some v := by simpa using hi
    obtain ⟨d, as2, hda⟩ : ∃ (d : Tr) (as2 : List Addr), (e :: es)[i]? = some d ∧ Reads s.heap v (trD d) as2 := by
      obtain ⟨bs2, r2, h2, _, _⟩ := PySem.W.readsAll_at hr' i v hi'
      have hlt : i < (e :: es).length := by rw [List.length_map] at h2; exact h2
      refine ⟨(e :: es)[i], bs2, List.getElem?_eq_getElem hlt, ?_⟩
      rw [List.getD_eq_getElem?_getD, List.getElem?_map, List.getElem?_eq_getElem hlt] at r2
      exact r2
    obtain ⟨m, m1, m2, m3⟩ := minD_tr es e
    rw [m1] at hv
    have e1 : trD d = trD m := PySem.W.alike_unique _ _ v _ _ (trD_alike d m) (PySem.W.reads_keeps hk hda.2) hv
    have e2 := trD_inj e1
    subst e2
    obtain ⟨x, hx⟩ : ∃ x, xs[i]? = some x := ⟨xs[i]'(by rw [rv.length]; exact (List.getElem?_eq_some_iff.mp hi').1), List.getElem?_eq_getElem _⟩
    obtain ⟨v2, hv2, rx⟩ := rv.get hx
    rw [hi'] at hv2
    cases hv2
    exact ⟨x, H, I.kept hk, rx, q i d x hda.1 hx fun y hy => m3 y hy⟩
end K29
set_option Elab.async false
set_option linter.all false
set_option maxRecDepth 100000
set_option maxHeartbeats 4000000
/-! dicts whose keys are tuples: updated, sorted -/
namespace K29
open PySem PySem.Spec PyProof.Rows L2
def mergeT (kvs more : List (List Key × V)) : List (List Key × V) := more.foldl (fun acc kv => putK acc kv.1 kv.2) kvs
theorem kt_merge {H : Hp} : ∀ {more : List (List Key × V)} {ys : List (List Key × Addr × Value)} {kvs : List (List Key × V)} {xs : List (List Key × Addr × Value)}, KT H more ys → KT H kvs xs → KT H (mergeT kvs more) (storedAllH xs ys) := by
  intro more ys kvs xs r
  unfold KT at r
  induction r generalizing kvs xs with
  | nil => intro q; exact q
  | @cons p q ps qs h t ih =>
    intro r0
    have e : KT H (putK kvs p.1 p.2) (storedH xs q.1 q.2.1 q.2.2) := by
      have := KT.put r0 p.1 h.2.1 h.2.2
      rw [← h.1]; exact this
    exact ih e
theorem mergeT_len : ∀ (more kvs : List (List Key × V)), (mergeT kvs more).length ≤ kvs.length + more.length
  | [], kvs => by show kvs.length ≤ kvs.length + 0; omega
  | p :: r, kvs => by
    have h1 := mergeT_len r (putK kvs p.1 p.2)
    have h2 := length_putK kvs p.1 p.2
    show (mergeT (putK kvs p.1 p.2) r).length ≤ _
    rw [List.length_cons]; omega
theorem mergeT_val (k : List Key) : ∀ (more kvs : List (List Key × V)), (valV (mergeT kvs more) k).isSome = ((valV kvs k).isSome || (valV more k).isSome)
  | [], kvs => by show (valV kvs k).isSome = ((valV kvs k).isSome || false); rw [Bool.or_false]
  | p :: r, kvs => by
    show (valV (mergeT (putK kvs p.1 p.2) r) k).isSome = _
    rw [mergeT_val k r, valV_put]
    by_cases q : p.1 = k
    · rw [valV_pos q, if_pos q.symm]
      cases (valV kvs k).isSome <;> rfl
    · rw [valV_neg q, if_neg (fun z => q z.symm)]
section
variable {X : Cx} {pins : List (Addr × Obj)} {σ : L2.St} {H : Hp} {s : Shared} {E : Value → Shared → Prop}
theorem dt_dictSet {D b : Addr} {kvs : List (List Key × V)} {k : List Key} {v : V} {u r : Value} {Q : Unit → Shared → Prop} (hu : X.A.units < cLine) (I : Inv X pins σ H s) (hD : H D = some (.dT kvs)) (hb : H b = some (.tup (k.map kV))) (hz : kvs.length < sizeLine)
    (ry : RelV (.ref b) u) (rv : RelV v r) (h : ∀ s', Inv X pins σ (upd H D (.dT (putK kvs k v))) s' → Q () s') : wpAny (model X.prog X.w) X.A (dictSet D u r) Q E s := by
  cases (show u = Value.ref b from ry)
  obtain ⟨z, hd, xs, rel, dd⟩ := dt_of I.hok hD
  have hzx : xs.length ≤ sizeLine := by rw [← Paired.length rel]; exact z
  have hl : (putK kvs k v).length ≤ sizeLine := by have := length_putK kvs k v; omega
  refine wpAny_dictSet_heap (hsz := hzx) (knd := tupleKind (mixKind X.prog X.w)) hu (key_of I.hok hb) dd fun h' dd' hs => h _ ?_
  obtain ⟨q, es, ep, hq, h2, h3, h4, _, h5⟩ := dd'
  refine d_write I (by rw [hD]; exact True.intro) hs ⟨q, hq⟩ ⟨hl, hd, _, (rel.put k hb rv).keeps fun c ys ec => ?_, q, es, ep, hq, h2, h3, h4, h5⟩
  rw [upd_ne (ne_of ec hD (fun z => nomatch z))]
  exact ec
def kHash (w : World) (ks : List Key) : Int := tupleKeyHash (mixKind default w) ks
/-- d.update(e), both with keys that are tuples -/
theorem mt_updateT (hu : X.A.units + 1 < cLine) : MtM X "dict.update" (fun x xs H Q => ∃ d o kvs more, x = .ref d ∧ xs = [.ref o] ∧ H d = some (.dT kvs) ∧ H o = some (.dT more) ∧ d ≠ o ∧ (kvs ≠ [] ∨ (more.map fun p => tupleKeyHash (mixKind X.prog X.w) p.1).Nodup) ∧ kvs.length + more.length ≤ sizeLine ∧ Q .non (upd H d (.dT (mergeT kvs more)))) := by
  intro pins s σ H x vs v us Q I rx rv h
  obtain ⟨d, o, kvs, more, rfl, rfl, hd, ho, hne, hap, hz, q⟩ := h
  cases rx
  obtain ⟨u, rfl, ru⟩ := rv.one
  cases ru
  obtain ⟨z, lo, xs, rel, dd⟩ := dt_of I.hok hd
  obtain ⟨z2, lo2, ys, rel2, dd2⟩ := dt_of I.hok ho
  have l1 : kvs.length = xs.length := Paired.length rel
  have l2 : more.length = ys.length := Paired.length rel2
  have hk : ∀ {l : List (List Key × V)} {m : List (List Key × Addr × Value)}, KT H l m → (m.map fun x => tupleKeyHash (mixKind X.prog X.w) x.1) = l.map fun p => tupleKeyHash (mixKind X.prog X.w) p.1 := by
    intro l m r
    induction r with
    | nil => rfl
    | cons h t ih => rw [List.map_cons, List.map_cons, ih, h.1]
  refine call_update_dictH (knd := tupleKind (mixKind X.prog X.w)) (show X.A.in1.units < cLine by first | exact hu | (show X.A.units + 1 < cLine; exact hu)) hne lo2 dd dd2 ?_ (by rw [← l1, ← l2]; exact hz) fun h' dd' _ hs => ?_
  · rcases hap with a | a
    · left
      intro e
      rw [e] at l1
      exact a (List.length_eq_zero_iff.mp l1)
    · right
      refine ⟨fun x hx => ?_, ?_⟩
      · obtain ⟨_, _, _, _, _, _, _, his, _⟩ := dd2
        exact tupleKind_stays.tuple (his x hx)
      · show (ys.map fun x => tupleKeyHash (mixKind X.prog X.w) x.1).Nodup
        rw [hk rel2]
        exact a
  · obtain ⟨ob, es, ep, hq, h2, h3, h4, _, h5⟩ := dd'
    have hl : (mergeT kvs more).length ≤ sizeLine := Nat.le_trans (mergeT_len _ _) hz
    have new : ObjOk X.prog X.w (upd H d (.dT (mergeT kvs more))) h' d (.dT (mergeT kvs more)) := by
      refine ⟨hl, lo, _, (kt_merge rel2 rel).keeps fun c ys ec => ?_, ob, es, ep, hq, h2, h3, h4, h5⟩
      rw [upd_ne (ne_of ec hd (fun z => nomatch z))]
      exact ec
    exact ⟨.non, _, d_write (t' := s.toks) I (by rw [hd]; exact True.intro) hs ⟨ob, hq⟩ new, rfl, q⟩
end
theorem perm_refs {bs : List Addr} {vs : List Value} (p : vs.Perm (bs.map Value.ref)) : ∃ ys : List Addr, vs = ys.map Value.ref ∧ ys.Perm bs := by
  have g : ∀ l : List Addr, (l.map Value.ref).filterMap (fun v => match v with | .ref a => some a | _ => none) = l := by
    intro l
    induction l with
    | nil => rfl
    | cons a r ih => rw [List.map_cons, List.filterMap_cons]; exact congrArg (a :: ·) ih
  have all : ∀ vs : List Value, (∀ v ∈ vs, ∃ a, v = Value.ref a) → ∃ ys : List Addr, vs = ys.map Value.ref := by
    intro vs
    induction vs with
    | nil => intro _; exact ⟨[], rfl⟩
    | cons v r ih =>
      intro h
      obtain ⟨a, rfl⟩ := h v (List.mem_cons_self ..)
      obtain ⟨ys, rfl⟩ := ih fun x hx => h x (List.mem_cons_of_mem _ hx)
      exact ⟨a :: ys, rfl⟩
  obtain ⟨ys, rfl⟩ := all vs fun v hv => by
    obtain ⟨a, _, e⟩ := List.mem_map.mp (p.mem_iff.mp hv)
    exact ⟨a, e.symm⟩
  have q := p.filterMap (fun v => match v with | .ref a => some a | _ => none)
  rw [g, g] at q
  exact ⟨ys, rfl, q⟩
theorem isKeys_len {H : Hp} {kvs : List (List Key × V)} {bs : List Addr} (r : IsKeys H kvs bs) : kvs.length = bs.length := Paired.length r
theorem isKeys_at {H : Hp} {kvs : List (List Key × V)} {bs : List Addr} (r : IsKeys H kvs bs) : ∀ b ∈ bs, ∃ p ∈ kvs, H b = some (.tup (p.1.map kV)) := by
  unfold IsKeys at r
  induction r with
  | nil => intro b hb; exact nomatch hb
  | @cons p b ps bs h t ih =>
    intro x hx
    rcases List.mem_cons.mp hx with rfl | hx
    · exact ⟨p, List.mem_cons_self .., h⟩
    · obtain ⟨q, hq, e⟩ := ih x hx
      exact ⟨q, List.mem_cons_of_mem _ hq, e⟩
/-- sorted(d) of a dict whose keys are pairs of ints in [0, B) -/
theorem call_sorted_dT {X : Cx} (hc : X.calm = true) (B : Int) : CallR X (.builtin "sorted") (fun xs H Q => ∃ d kvs, xs = [V.ref d] ∧ H d = some (.dT kvs) ∧ kvs.length < 64 ∧ (∀ p ∈ kvs, ∃ a b : Int, p.1 = [.inl a, .inl b] ∧ 0 ≤ a ∧ a < B ∧ 0 ≤ b ∧ b < B) ∧
    ∀ p bs ys, H p = none → IsKeys H kvs bs → List.Perm ys bs → Q (.ref p) (upd H p (.lst (ys.map V.ref)))) := by
  intro pins s σ H xs us Q I r h
  obtain ⟨d, kvs, rfl, hd, h64, hB, q⟩ := h
  obtain ⟨u, rfl, rx⟩ := r.one
  cases rx
  obtain ⟨z, hs, ks, pr, o, es, ep, ho, hx, hdt, he, hn⟩ := (show ObjOk X.prog X.w H s.heap d (.dT kvs) from I.hok d _ hd)
  have l1 : es.size = ks.length := size_of_entries he
  have l2 : kvs.length = ks.length := Paired.length pr
  refine Calls.call_function_entry PyProof.Rows.kind_sorted PyProof.Rows.plain_sorted PyProof.Rows.entry_sorted (PyProof.Rows.args_sorted1 _) ?_
  unfold Builtin.«sorted»
  refine wpAny_bind (m := checkCount "sorted" 1 1 _) (wpAny_pure ?_)
  refine wpAny_bind (PySem.W.kdu_collect (A := X.A.in1) (kdl_raw hs hx hdt) (I.ok.hd hc) ho (by omega) fun h' tk acc' hk it => ?_)
  have ea : acc'.toList = ks.map fun x => Value.ref x.2.1 := by
    have hl : acc'.toList.length = ks.length := by rw [Array.length_toList, it.1]; exact l1
    apply List.ext_getElem?
    intro j
    rw [List.getElem?_map]
    cases hj : acc'.toList[j]? with
    | none =>
      have h1 := List.getElem?_eq_none_iff.mp hj
      rw [List.getElem?_eq_none (by omega)]
      all_goals rfl
    | some v =>
      obtain ⟨en, hen, hv⟩ := it.2 j v (by rw [← Array.getElem?_toList]; exact hj)
      have qe := entry_at he j
      rw [hen] at qe
      cases hb : ks[j]? with
      | none =>
        rw [hb] at qe
        exact nomatch (show some en = none from qe)
      | some b =>
        rw [hb] at qe
        have e2 : en = entryOfKey (tupleKind (mixKind X.prog X.w)) b := Option.some.inj qe
        rw [hv, e2]
        all_goals rfl
  have eb : acc'.toList = (ks.map fun x => x.2.1).map Value.ref := by rw [ea, List.map_map]; all_goals rfl
  have ik := isKeys_of pr
  generalize (ks.map fun x => x.2.1) = bs at eb ik
  have hbl : bs.length = kvs.length := (isKeys_len ik).symm
  have I1 : Inv X pins σ H { s with heap := h', toks := tk } := I.kept hk
  have hal : acc'.toList.length = kvs.length := by rw [eb, List.length_map]; exact hbl
  have tk' : TS.TupsOk h' 2 B acc'.toList := fun v hv => by
    rw [eb] at hv
    obtain ⟨b, hb, rfl⟩ := List.mem_map.mp hv
    obtain ⟨p, hp, ep'⟩ := isKeys_at ik b hb
    obtain ⟨a1, a2, e1, b1, b2, b3, b4⟩ := hB p hp
    rw [e1] at ep'
    obtain ⟨_, its, rr, tt⟩ := (show ObjOk X.prog X.w H h' b (.tup ([Sum.inl a1, Sum.inl a2].map kV)) from I1.hok b _ ep')
    refine ⟨[a1, a2], ⟨b, _, rfl, tt, ?_⟩, rfl, fun m hm => ?_⟩
    · cases rr with
      | cons z1 rr =>
      cases rr with
      | cons z2 rr =>
      cases rr
      obtain ⟨t1, rfl⟩ := (show ∃ t, _ = Value.int a1 t from z1)
      obtain ⟨t2, rfl⟩ := (show ∃ t, _ = Value.int a2 t from z2)
      exact .cons a1 t1 (.cons a2 t2 .nil)
    · rcases List.mem_cons.mp hm with rfl | hm
      · exact ⟨b1, b2⟩
      · rw [List.mem_singleton.mp hm]
        exact ⟨b3, b4⟩
  refine wpAny_bind (wpAny_newList ?_ (by rw [hal, sizeLine_eq]; omega))
  have hoL : (h'.push (seqObj "list" acc'.toList.toArray 0)).get? h'.objs.size = some (seqObj "list" acc'.toList.toArray 0) := Heap.get?_push_size _ rfl
  have tk2 : TS.TupsOk (h'.push (seqObj "list" acc'.toList.toArray 0)) 2 B acc'.toList := tk'.keeps fun b o e _ => Heap.get?_push_of_some _ e
  show wpAny _ _ _ _ _ { s with heap := h'.push (seqObj "list" acc'.toList.toArray 0), toks := tk }
  refine wpAny_bind (wpAny_holding (TS.call_sort_tups (s := { s with heap := h'.push (seqObj "list" acc'.toList.toArray 0), toks := tk }) (d := 2) (B := B) hoL (by rw [hal]; exact h64) (by decide) tk2 fun out g1 g2 => ?_))
  obtain ⟨e', he'⟩ := PyProof.Rows.sortedHeap_at (vs := acc'.toList) (out := out) hoL
  rw [eb] at g1
  obtain ⟨ys, ey, py⟩ := perm_refs g1
  have hyl : ys.length = kvs.length := py.length_eq.trans hbl
  have hlen : (ys.map V.ref).length ≤ sizeLine := by rw [List.length_map, hyl]; exact z
  refine wpAny_pure ⟨_, rfl, .ref h'.objs.size, upd H h'.objs.size (.lst (ys.map V.ref)), I1.laid (t' := tk) (fun b u e => ?_) (Nat.le_refl _)
    (show ObjOk X.prog X.w _ _ _ (.lst (ys.map V.ref)) from ⟨hlen, out.toList, e', by rw [ey]; exact vals_refs _, by rw [Array.toArray_toList]; exact he'⟩), rfl, q _ bs ys (I1.hok.fresh (Nat.le_refl _)) ik py⟩
  have hb : b < h'.objs.size := Heap.lt_size e
  rw [PyProof.Rows.sortedHeap_old (Nat.ne_of_lt hb) (by rw [size_push']; exact Nat.lt_succ_of_lt hb)]
  exact Heap.get?_push_of_some _ e
end K29
set_option Elab.async false
set_option linter.all false
set_option maxRecDepth 100000
set_option maxHeartbeats 4000000
/-! dict comprehensions whose keys are tuples; d.update(e), sorted(d) as rules -/
namespace K29
open PySem PySem.Spec PyProof.Rows L2
section
variable {X : Cx}
/-- {k: v for target in iter if ..}, the keys tuples (after HandS.DictComp's tDc, dcT_core, pe_dc) -/
def tDcT (wi : TI) (g : TG) (tt : TT) (tk tv : TE) (vs : List Nat) : TE := fun σ H Q => wi σ H fun J H1 => ∀ D, H1 D = none → ∃ W : Nat → Nat → Hp → Prop, (∃ m, W 0 m (upd H1 D (.dT []))) ∧ ∀ i m H, W i m H →
  (J.stop i H ∧ Q (.ref D) H) ∨ (J.go i H ∧ ∃ Nx : Hp → Prop, (∀ H', Nx H' → ∃ m', m' < m ∧ W (i + 1) m' H') ∧ ∀ x H', J.yld i H x H' → g x (wipe σ vs) H' fun σ2 H2 => wipe σ2 vs = wipe σ vs ∧ tt σ2 H2 fun b H3 =>
    if b = true then tk σ2 H3 fun y H4 => tv σ2 H4 fun z H5 => ∃ kvs k b, y = .ref b ∧ H5 b = some (.tup (k.map kV)) ∧ H5 D = some (.dT kvs) ∧ kvs.length < sizeLine ∧ Nx (upd H5 D (.dT (putK kvs k z))) else Nx H3)
theorem dcT_core {pins : List (Addr × Obj)} {s : Shared} {σ : L2.St} {H : Hp} {Q : VK} {kx vx tg iter : Expr} {ifs : List Expr} {scope : Scope} {own : List (Str × Nat)} {pos pos' : Pos} {wi : TI} {g : TG} {tt : TT} {tk tv : TE} {use : Option (Value → Sem Unit)} {Qf : Value → Shared → Prop}
    (hu : X.A.units < cLine) (hc : X.calm = true) (hN : X.N.Nodup) (I : Inv X pins σ H s) (hi : PI X tg iter wi) (ok : BlkOk X.N X.env.scope scope own)
    (hg : ∀ (s : Shared) (H : Hp) (C : Addr) (cl : List (Str × Addr)) (fp : List Addr), PG (X.blk s H scope (compEnvC scope cl C X.env) fp) tg g) (ht : ∀ (s : Shared) (H : Hp) (C : Addr) (cl : List (Str × Addr)) (fp : List Addr), PTs (X.blk s H scope (compEnvC scope cl C X.env) fp) ifs tt)
    (hk : ∀ (s : Shared) (H : Hp) (C : Addr) (cl : List (Str × Addr)) (fp : List Addr), PE (X.blk s H scope (compEnvC scope cl C X.env) fp) kx tk)
    (he : ∀ (s : Shared) (H : Hp) (C : Addr) (cl : List (Str × Addr)) (fp : List Addr), PE (X.blk s H scope (compEnvC scope cl C X.env) fp) vx tv) (hs : ∀ x, foldedSetIterable iter X.env x = pure x)
    (h : tDcT wi g tt tk tv (own.map (·.2)) σ H Q)
    (hRR : ∀ D C s' m H', Inv X pins σ H' s' → Q (.ref D) H' → s'.heap.Ns C m → FpOk X pins H' C → compPost (model X.prog X.w) X.A X.xe use Qf (.ref D) C (.ok .next) s') :
    wpAny (model X.prog X.w) X.A (comprehension (.DictComp kx vx [⟨tg, iter, ifs, 0⟩] scope pos) scope X.env pos' newDict false (eval iter X.env) use) Qf X.xe s := by
  have hfree : ∀ y ∈ scope.names, y.2 = .free → ∃ c, X.env.cells.lookup y.1 = some c := fun y hy e => by
    rcases ok.free y hy e with k | k
    · exact I.ok.has _ (.inl k)
    · exact I.ok.has _ (.inr k)
  refine wpAny_comprehension_free (use := use) rfl hs (closure_ok hfree) ok.kind (fun y hy e => by rw [ok.uniq y hy, e])
    (thn (hi.run pins s σ H _ I h) fun xv s1 hx => thn hx fun itv s2 h2 => ?_)
  obtain ⟨it, fp, tn, J, H2, e, I2, T, st2, f2, q⟩ := h2
  subst e
  refine wpAny_newObj_type (newEnv_comp ?_)
  generalize hD : s2.heap.objs.size = D
  have hDn : H2 D = none := I2.hok.fresh (Nat.le_of_eq hD)
  obtain ⟨W, ⟨m0, w0⟩, turn⟩ := q D hDn
  -- the new list
  generalize hs3 : ({ s2 with heap := s2.heap.push { cls := .type "dict", data := .dict #[] } } : Shared) = s3
  have I3 : Inv X pins σ (upd H2 D (.dT [])) s3 := by
    rw [← hs3]
    refine I2.laid (t' := s2.toks) (fun b o e => Heap.get?_push_of_some _ e) (Nat.le_of_eq hD) ?_
    rw [← hD]
    exact dt_empty s2.heap I2.big
  have h3 : s3.heap = s2.heap.push { cls := .type "dict", data := .dict #[] } := by rw [← hs3]
  have sz : ∀ b ∈ fp, b < s2.heap.objs.size := fun b hb => by
    obtain ⟨o, e, _⟩ := T.obj _ _ st2 b hb
    exact Heap.lt_size e
  have f3 : ∀ b ∈ fp, FpOk X pins (upd H2 D (.dT [])) b ∧ b < s3.heap.objs.size := fun b hb => by
    have hlt := sz b hb
    refine ⟨⟨?_, (f2 b hb).2⟩, by rw [h3, Heap.size_push]; exact Nat.lt_succ_of_lt hlt⟩
    rw [upd_ne (by rw [← hD]; exact Nat.ne_of_lt hlt)]
    exact (f2 b hb).1
  have st3 : tn 0 s3.heap := T.keep _ _ _ st2 fun b _ o e => by rw [h3]; exact Heap.get?_push_of_some _ e
  have I4 := block_start I3 ok hN f3
  have pg := hg s3 (upd H2 D (.dT [])) s3.heap.objs.size (cellsFrom (s3.heap.objs.size + 1) scope.names (cloFrom X.env.cells scope.names [])) fp
  have pt := ht s3 (upd H2 D (.dT [])) s3.heap.objs.size (cellsFrom (s3.heap.objs.size + 1) scope.names (cloFrom X.env.cells scope.names [])) fp
  have pk := hk s3 (upd H2 D (.dT [])) s3.heap.objs.size (cellsFrom (s3.heap.objs.size + 1) scope.names (cloFrom X.env.cells scope.names [])) fp
  have pe := he s3 (upd H2 D (.dT [])) s3.heap.objs.size (cellsFrom (s3.heap.objs.size + 1) scope.names (cloFrom X.env.cells scope.names [])) fp
  show codeAny _ _ (.compStart (.DictComp kx vx [⟨tg, iter, ifs, 0⟩] scope pos) 0 (.ref it) (.ref D) (compEnvC scope (cellsFrom (s3.heap.objs.size + 1) scope.names (cloFrom X.env.cells scope.names [])) s3.heap.objs.size X.env)) (compPost (model X.prog X.w) X.A X.xe use Qf (.ref D) s3.heap.objs.size) { s3 with heap := pushCells (s3.heap.push { cls := .type "dict", data := .dict #[] }) scope.names }
  have nfp : ∀ b ∈ fp, (upd H2 D (.dT [])) b = none := fun b hb => (f3 b hb).1.1
  generalize hce : compEnvC scope (cellsFrom (s3.heap.objs.size + 1) scope.names (cloFrom X.env.cells scope.names [])) s3.heap.objs.size X.env = ce at I4 pg pt pk pe ⊢
  have cL : ce.locals = s3.heap.objs.size := by subst hce; rfl
  generalize hH3 : upd H2 D (.dT []) = H3 at I3 I4 pg pt pk pe w0 nfp f3
  generalize hs4 : ({ s3 with heap := pushCells (s3.heap.push { cls := .type "dict", data := .dict #[] }) scope.names } : Shared) = s4 at I4 ⊢
  have st4 : tn 0 s4.heap := T.keep _ _ _ st3 fun b _ o e => by rw [← hs4]; exact pushCells_keeps _ _ _ _ (Heap.get?_push_of_some _ e)
  have stat : ∀ {σ' : L2.St} {H' : Hp} {s' : Shared}, Inv (X.blk s3 H3 scope ce fp) [] σ' H' s' → (∀ b ∈ fp, H' b = none) → ∀ b ∈ fp, FpOk (X.blk s3 H3 scope ce fp) [] H' b := fun {σ' H' s'} I' hn b hb =>
    ⟨hn b hb, (I'.ok.exf b hb).1, I'.ok.exfs b hb, .inl hb, fun x c e => (I'.ok.exf b hb).2 x c e, fun p hp => absurd (show p ∈ ([] : List (Addr × Obj)) ++ [] from hp) (by simp)⟩
  have loop : codeAny (model X.prog X.w) X.A (.compLoop (.DictComp kx vx [⟨tg, iter, ifs, 0⟩] scope pos) 0 (.ref it) (.ref D) ce) (compPost (model X.prog X.w) X.A X.xe use Qf (.ref D) s3.heap.objs.size) s4 := by
    refine compLoop_anyD (fun n s' => ∃ i H', Inv (X.blk s3 H3 scope ce fp) [] (wipe σ (own.map (·.2))) H' s' ∧ tn i s'.heap ∧ (∀ b ∈ fp, H' b = none) ∧ W i n H') ?_ m0 ⟨0, H3, I4, st4, nfp, w0⟩
    rintro n s5 ⟨i, H5, I5, st5, n5, w5⟩
    rcases turn i n H5 w5 with ⟨stop, qq⟩ | ⟨go, Nx, hNx, step⟩
    · have td := T.done (X.blk s3 H3 scope ce fp) rfl rfl rfl hc i [] s5 _ H5 (fun _ _ => False) I5 (stat I5 n5) st5 stop
      refine thnF td fun r s6 ⟨hr, I6⟩ => ?_
      subst hr
      -- back in the def's context
      have I7 : Inv X pins σ H5 s6 := I3.call' (ch := fp) I6.os I6.base I6.hok I6.bare fun b hb => ⟨(f3 b hb).1.2.2.2.1, (f3 b hb).1.2.1, (f3 b hb).1.2.2.2.2.1, (f3 b hb).1.2.2.2.2.2⟩
      have nC : H5 s3.heap.objs.size = none := by
        have z : H5 ce.locals = none := I6.free
        rw [cL] at z
        exact z
      obtain ⟨m, hn, _⟩ := I6.loc
      have hn : s6.heap.Ns ce.locals m := hn
      rw [cL] at hn
      exact hRR D s3.heap.objs.size s6 m H5 I7 qq hn (I3.fpOk (Nat.le_refl _) nC)
    · have ti := T.item (X.blk s3 H3 scope ce fp) rfl rfl rfl hc i [] s5 _ H5 (fun _ _ => False) I5 (stat I5 n5) st5 go
      refine thnF ti fun r s6 ⟨u, hr, h6⟩ => ?_
      subst hr
      refine thnF h6 fun _ s7 ⟨x, H7, I7, r7, y7, st7, n7⟩ => ?_
      have I7' := I7.pinned (stat I7 n7) (T.obj _ _ st7)
      refine thnF (pg.run _ s7 _ H7 x u _ I7' r7 (step x H7 y7)) fun _ s8 ⟨σ8, H8, I8, hw8, q8⟩ => ?_
      refine thnF (pt.run _ s8 σ8 H8 _ I8 q8) fun b s9 ⟨H9, I9, q9⟩ => ?_
      -- the turn's end
      have fin : ∀ {s' : Shared} {H' : Hp}, Inv (X.blk s3 H3 scope ce fp) ([] ++ pinsAt fp s7.heap) σ8 H' s' → Nx H' → ∃ m, m < n ∧ ∃ i H', Inv (X.blk s3 H3 scope ce fp) [] (wipe σ (own.map (·.2))) H' s' ∧ tn i s'.heap ∧ (∀ b ∈ fp, H' b = none) ∧ W i m H' := fun {s' H'} I' nx => by
        obtain ⟨m', hm, w'⟩ := hNx H' nx
        have pin' : ∀ b ∈ fp, ∀ o, s7.heap.get? b = some o → s'.heap.get? b = some o ∧ H' b = none := fun b hb o e =>
          let z := I'.pin (b, o) (List.mem_append_right _ (List.mem_append_right _ (mem_pinsAt hb e)))
          ⟨z.1, z.2.1⟩
        have hl : (wipe σ (own.map (·.2))).length = σ8.length := by rw [← hw8, wipe_length]
        refine ⟨m', hm, i + 1, H', (I'.unpinned (pins := [])).weak hl (fun j v e => ?_), T.keep _ _ _ st7 fun b hb o e => (pin' b hb o e).1, fun b hb => ?_, w'⟩
        · rw [← hw8] at e
          exact (wipe_some e).1
        · obtain ⟨o, e, _⟩ := T.obj _ _ st7 b hb
          exact (pin' b hb o e).2
      cases b with
      | false =>
        simp only [Bool.false_eq_true, if_false] at q9 ⊢
        exact fin I9 q9
      | true =>
        simp only [if_true] at q9 ⊢
        refine thnF (pk.run _ s9 σ8 H9 _ I9 q9) fun z s10 ⟨yk, H10, I10, r10, q10⟩ => ?_
        refine thnF (pe.run _ s10 σ8 H10 _ I10 q10) fun z2 s11 ⟨yv, H11, I11, r11, kvs, k, b, ek, hb11, hD11, hz11, nx⟩ => ?_
        subst ek
        exact dt_dictSet (X := X.blk s3 H3 scope ce fp) (show X.A.units < cLine from hu) I11 hD11 hb11 hz11 r10 r11 fun s12 I12 => fin I12 nx
  exact codeAny_compStart_dict loop (T.self X.A 0 _ _ _ st4 loop)
/-- as a value -/
theorem pe_dcT {kx vx tg iter : Expr} {ifs : List Expr} {scope : Scope} {own : List (Str × Nat)} {pos : Pos} {wi : TI} {g : TG} {tt : TT} {tk tv : TE} (hu : X.A.units < cLine) (hc : X.calm = true) (hN : X.N.Nodup) (hi : PI X tg iter wi) (ok : BlkOk X.N X.env.scope scope own)
    (hg : ∀ (s : Shared) (H : Hp) (C : Addr) (cl : List (Str × Addr)) (fp : List Addr), PG (X.blk s H scope (compEnvC scope cl C X.env) fp) tg g) (ht : ∀ (s : Shared) (H : Hp) (C : Addr) (cl : List (Str × Addr)) (fp : List Addr), PTs (X.blk s H scope (compEnvC scope cl C X.env) fp) ifs tt)
    (hk : ∀ (s : Shared) (H : Hp) (C : Addr) (cl : List (Str × Addr)) (fp : List Addr), PE (X.blk s H scope (compEnvC scope cl C X.env) fp) kx tk)
    (he : ∀ (s : Shared) (H : Hp) (C : Addr) (cl : List (Str × Addr)) (fp : List Addr), PE (X.blk s H scope (compEnvC scope cl C X.env) fp) vx tv) (hs : ∀ x, foldedSetIterable iter X.env x = pure x := by intro _; rfl) :
    PE X (.DictComp kx vx [⟨tg, iter, ifs, 0⟩] scope pos) (tDcT wi g tt tk tv (own.map (·.2))) := by
  refine ⟨fun pins s σ H Q I h => ?_⟩
  rw [arm_eval_DictComp]
  refine dcT_core hu hc hN I hi ok hg ht hk he hs h fun D C s' m H' I' q hn f => ⟨m, hn, fun h'' sb => ?_⟩
  obtain ⟨f0, f1, f2, f3, f4, f5⟩ := f
  exact ⟨.ref D, H', I'.turned (t' := s'.toks) (fun b o hb e => (sb.2 b hb).trans e) f0 f1 f3 f4 f5, rfl, q⟩
end
section
variable {X : Cx} {kx vx tg it e o : Expr} {ifs : List Expr} {scope : Scope} {vs : List Nat} {own : List (Str × Nat)} {σ : L2.St} {F H : Hp} {pos apos cpos : Pos} {j : Nat} {d : PyData}
def DcTW (X : Cx) (kx vx tg it : Expr) (ifs : List Expr) (scope : Scope) (vs : List Nat) (σ : L2.St) (H : Hp) (Q : VK) : Prop := tDcT (Wi X tg it) (gAll X scope tg) (tAll X scope ifs) (eAll X scope kx) (eAll X scope vx) vs σ H Q
theorem we_dcT {Q : VK} (hr : Room j X.A) (hN : X.N.Nodup) (ok : BlkOk X.N X.env.scope scope own) (h : DcTW X kx vx tg it ifs scope (own.map (·.2)) σ H Q) (hc : X.calm = true := by rfl) (hs : ∀ x, foldedSetIterable it X.env x = pure x := by intro _; rfl) : We X (.DictComp kx vx [⟨tg, it, ifs, 0⟩] scope pos) σ H Q :=
  we_of (pe_dcT (g := gAll X scope tg) (tt := tAll X scope ifs) (tk := eAll X scope kx) (tv := eAll X scope vx) (Nat.lt_of_succ_lt (room1 hr)) hc hN wi_pi ok (fun s0 H0 C cl fp => ⟨fun pins s σ H v u Q I r z => z s0 H0 C cl fp pins s u I r⟩) (fun s0 H0 C cl fp => ⟨fun pins s σ H Q I z => z s0 H0 C cl fp pins s I⟩) (fun s0 H0 C cl fp => ⟨fun pins s σ H Q I z => z s0 H0 C cl fp pins s I⟩) (fun s0 H0 C cl fp => ⟨fun pins s σ H Q I z => z s0 H0 C cl fp pins s I⟩) hs) h
theorem dcT_it {ds : List PyData} (hsrc : Wsrc X tg it σ F ds) (s : Same F H) {Q : VK} (Iv : Hp → Addr → Nat → Hp → Prop)
    (h0 : ∀ F1 H1 D, Gr F H F1 H1 → H1 D = none → Iv F1 D 0 (upd H1 D (.dT []))) (hG : ∀ F1 D i H', Iv F1 D i H' → Same F1 H')
    (hs : ∀ F1 D i d v H1 H2, ds[i]? = some d → Iv F1 D i H1 → (∀ F2, Same F1 F2 → Same F2 H1 → ∃ F3, Gr F2 H1 F3 H2 ∧ Dq X.K F3 v d) → gAll X scope tg v (wipe σ vs) H2 fun σ2 H3 => wipe σ2 vs = wipe σ vs ∧ tAll X scope ifs σ2 H3 fun b H4 =>
      if b = true then eAll X scope kx σ2 H4 fun y H5 => eAll X scope vx σ2 H5 fun z H6 => ∃ kvs k b, y = .ref b ∧ H6 b = some (.tup (k.map kV)) ∧ H6 D = some (.dT kvs) ∧ kvs.length < sizeLine ∧ Iv F1 D (i + 1) (upd H6 D (.dT (putK kvs k z))) else Iv F1 D (i + 1) H4)
    (hd : ∀ F1 D H', Iv F1 D ds.length H' → Q (.ref D) H') : DcTW X kx vx tg it ifs scope vs σ H Q :=
  hsrc H s _ fun J F1 H1 g hJ D hD => ⟨fun i m H => m = ds.length - i ∧ i ≤ ds.length ∧ Iv F1 D i H, ⟨ds.length, by simp, Nat.zero_le _, h0 F1 H1 D g hD⟩, by
    rintro i m H2 ⟨rfl, hi, p⟩
    have q := hG F1 D i H2 p
    by_cases hlt : i < ds.length
    · refine .inr ⟨hJ.goes i H2 hlt q, Iv F1 D (i + 1), fun H' p' => ⟨ds.length - (i + 1), by omega, rfl, hlt, p'⟩, fun x H' y => ?_⟩
      have ed : ds[i]? = some ds[i] := List.getElem?_eq_getElem hlt
      refine hs F1 D i _ x H2 H' ed p fun F2 s1 s2 => ?_
      obtain ⟨d', F3, e', g', dv⟩ := hJ.yields i H2 x H' hlt q y F2 s1 s2
      rw [ed] at e'
      cases e'
      exact ⟨F3, g', dv⟩
    · obtain rfl : i = ds.length := by omega
      exact .inl ⟨hJ.stops H2 q, hd F1 D H2 p⟩⟩
/-- o.update(e), dicts with keys that are tuples -/
theorem w1_update {D : Ends} (hr : Room j X.A) (h : We X o σ H fun v H1 => ∃ d kvs, v = .ref d ∧ H1 d = some (.dT kvs) ∧ We X e σ H1 fun u H2 => ∃ o' kvs2 more, u = .ref o' ∧ H2 d = some (.dT kvs2) ∧ H2 o' = some (.dT more) ∧ d ≠ o' ∧ (kvs2 ≠ [] ∨ (more.map fun p => tupleKeyHash (mixKind X.prog X.w) p.1).Nodup) ∧ kvs2.length + more.length ≤ sizeLine ∧ D.nx σ (upd H2 d (.dT (mergeT kvs2 more))))
    (hbase : attributeBase o "update" X.env (eval o X.env) = eval o X.env := by rfl)
    (hfew : ((backTo cpos (starEach (e :: []) X.env)).all (fun x => !x.1) && (backToKw cpos (keywordEach [] X.env)).all (fun x => x.1.isSome) && decide ((e :: []).length + ([] : List Keyword).length + (if ([] : List Keyword).isEmpty then 0 else 1) < 30)) = true := by rfl)
    (hline : (apos.endLine == cpos.line) = true := by rfl) (hs : starEach (e :: []) X.env = (false, eval e X.env) :: starEach [] X.env := by rfl) (hplain : (backTo cpos (starEach [] X.env)).any (·.1) = false := by rfl) (hsw : swapsWith (.Call (.Attribute o "update" apos) [e] [] cpos) none pos.line X.env = pure false := by rfl) :
    W1 X (.Expr (.Call (.Attribute o "update" apos) [e] [] cpos) pos) D σ H :=
  w1_expr (we_of (pe_bm PySem.F.plainAttrs_dict PySem.F.slot_dict_update PySem.F.type_dict_update (mt_updateT (room1 hr)) we_pe wa_pa hbase hfew hline hs hplain) (h.mono fun v H1 ⟨d, kvs, ev, ed, k⟩ => ⟨by
    subst ev
    exact .inr (.inr (.inl ⟨rfl, .inr ⟨kvs, ed⟩⟩)), wa_cons (k.mono fun u H2 ⟨o', kvs2, more, eu, e1, e2, ne, ap, sz, n⟩ => wa_nil ⟨d, o', kvs2, more, ev, by rw [eu], e1, e2, ne, ap, sz, n⟩) hs⟩)) hsw
end
end K29
set_option Elab.async false
set_option linter.all false
set_option maxRecDepth 100000
set_option maxHeartbeats 4000000
/-! dicts whose keys are pairs of small numbers -/
namespace K29
open PySem PySem.Spec PyProof.Rows L2
def k2 (p : Int × Int) : List L2.Key := [.inl p.1, .inl p.2]
theorem k2_inj {p q : Int × Int} (h : k2 p = k2 q) : p = q := by
  obtain ⟨a, b⟩ := p
  obtain ⟨c, d⟩ := q
  injection h with h1 h2
  injection h2 with h2 _
  injection h1 with h1
  injection h2 with h2
  have h1 : a = c := h1
  have h2 : b = d := h2
  rw [h1, h2]
theorem kV_k2 (p : Int × Int) : (k2 p).map kV = [V.int p.1, V.int p.2] := rfl
/-- pairs of numbers from 0 to 4 -/
def sml (p : Int × Int) : Prop := 0 ≤ p.1 ∧ p.1 < 5 ∧ 0 ≤ p.2 ∧ p.2 < 5
def allP : List (Int × Int) := (List.range 5).flatMap fun i : Nat => (List.range 5).map fun j : Nat => (Int.ofNat i, Int.ofNat j)
theorem allP_mem {p : Int × Int} (h : sml p) : p ∈ allP := by
  obtain ⟨a, b⟩ := p
  obtain ⟨h1, h2, h3, h4⟩ := h
  obtain ⟨i, rfl⟩ := Int.eq_ofNat_of_zero_le h1
  obtain ⟨j, rfl⟩ := Int.eq_ofNat_of_zero_le h3
  refine List.mem_flatMap.mpr ⟨i, List.mem_range.mpr (by have : (i : Int) < 5 := h2; omega), List.mem_map.mpr ⟨j, List.mem_range.mpr (by have : (j : Int) < 5 := h4; omega), rfl⟩⟩
theorem dup_len {α : Type} [DecidableEq α] : ∀ (l m : List α), l.Nodup → (∀ x ∈ l, x ∈ m) → l.length ≤ m.length
  | [], _, _, _ => Nat.zero_le _
  | x :: l, m, hn, hs => by
    obtain ⟨h1, h2⟩ := List.nodup_cons.mp hn
    have hx : x ∈ m := hs x List.mem_cons_self
    have ih := dup_len l (m.erase x) h2 fun y hy => by
      have hne : y ≠ x := fun e => h1 (e ▸ hy)
      exact (List.mem_erase_of_ne hne).2 (hs y (List.mem_cons_of_mem _ hy))
    have e := List.length_erase_of_mem hx
    have hp : 0 < m.length := List.length_pos_of_mem hx
    rw [List.length_cons]
    omega
def hh (a b : Int) : Int := reduceHash (Builtin.Tuple.tupleHashOf [hashInt a, hashInt b])
theorem hh_inj : ∀ i j k l : Fin 5, hh (i.1 : Int) (j.1 : Int) = hh (k.1 : Int) (l.1 : Int) → i = k ∧ j = l := by decide +kernel
theorem hash_k2 (P : Program) (w : World) (p : Int × Int) : tupleKeyHash (mixKind P w) (k2 p) = hh p.1 p.2 := rfl
theorem hash_inj {P : Program} {w : World} {p q : Int × Int} (hp : sml p) (hq : sml q) (h : tupleKeyHash (mixKind P w) (k2 p) = tupleKeyHash (mixKind P w) (k2 q)) : p = q := by
  rw [hash_k2, hash_k2] at h
  obtain ⟨a, b⟩ := p
  obtain ⟨c, d⟩ := q
  obtain ⟨h1, h2, h3, h4⟩ := hp
  obtain ⟨g1, g2, g3, g4⟩ := hq
  obtain ⟨i, rfl⟩ := Int.eq_ofNat_of_zero_le h1
  obtain ⟨j, rfl⟩ := Int.eq_ofNat_of_zero_le h3
  obtain ⟨k, rfl⟩ := Int.eq_ofNat_of_zero_le g1
  obtain ⟨l, rfl⟩ := Int.eq_ofNat_of_zero_le g3
  have i5 : i < 5 := by have : (i : Int) < 5 := h2; omega
  have j5 : j < 5 := by have : (j : Int) < 5 := h4; omega
  have k5 : k < 5 := by have : (k : Int) < 5 := g2; omega
  have l5 : l < 5 := by have : (l : Int) < 5 := g4; omega
  obtain ⟨e1, e2⟩ := hh_inj ⟨i, i5⟩ ⟨j, j5⟩ ⟨k, k5⟩ ⟨l, l5⟩ h
  cases e1
  cases e2
  rfl
/-- a dict whose keys are pairs of numbers from 0 to 4, each once -/
structure Ks (kvs : List (List L2.Key × V)) : Prop where
  nd : (kvs.map fun p => p.1).Nodup
  sm : ∀ k ∈ kvs.map (fun p => p.1), ∃ p, sml p ∧ k = k2 p
def Ks.has (kvs : List (List L2.Key × V)) (p : Int × Int) : Bool := (valV kvs (k2 p)).isSome
theorem Ks.nil : Ks [] := ⟨List.nodup_nil, fun k h => nomatch h⟩
theorem keys_putK {kvs : List (List L2.Key × V)} {k : List L2.Key} {v : V} : (putK kvs k v).map (fun p => p.1) = if (valV kvs k).isSome = true then kvs.map (fun p => p.1) else kvs.map (fun p => p.1) ++ [k] := by
  unfold putK
  rw [valV_any]
  by_cases q : (valV kvs k).isSome = true
  · rw [if_pos q, if_pos q, List.map_map]
    refine List.map_congr_left fun p _ => ?_
    by_cases e : p.1 = k
    · simp [e]
    · simp [e]
  · rw [if_neg q, if_neg q, List.map_append]
    rfl
theorem mem_keys {kvs : List (List L2.Key × V)} {k : List L2.Key} : k ∈ kvs.map (fun p => p.1) ↔ (valV kvs k).isSome = true := by
  rw [← valV_any, List.any_eq_true]
  constructor
  · intro h
    obtain ⟨p, hp, e⟩ := List.mem_map.mp h
    exact ⟨p, hp, decide_eq_true e⟩
  · rintro ⟨p, hp, e⟩
    exact List.mem_map.mpr ⟨p, hp, of_decide_eq_true e⟩
theorem Ks.put {kvs : List (List L2.Key × V)} {p : Int × Int} {v : V} (h : Ks kvs) (hp : sml p) : Ks (putK kvs (k2 p) v) := by
  refine ⟨?_, fun k hk => ?_⟩
  · rw [keys_putK]
    by_cases q : (valV kvs (k2 p)).isSome = true
    · rw [if_pos q]
      exact h.nd
    · rw [if_neg q, List.nodup_append]
      refine ⟨h.nd, (List.nodup_cons.mpr ⟨fun z => (nomatch z), List.nodup_nil⟩), fun a ha b hb e => ?_⟩
      rw [List.mem_singleton.mp hb] at e
      rw [e] at ha
      exact q (mem_keys.mp ha)
  · rw [keys_putK] at hk
    by_cases q : (valV kvs (k2 p)).isSome = true
    · rw [if_pos q] at hk
      exact h.sm k hk
    · rw [if_neg q] at hk
      rcases List.mem_append.mp hk with hk | hk
      · exact h.sm k hk
      · exact ⟨p, hp, List.mem_singleton.mp hk⟩
theorem Ks.has_put {kvs : List (List L2.Key × V)} {p q : Int × Int} {v : V} : Ks.has (putK kvs (k2 p) v) q = (Ks.has kvs q || decide (q = p)) := by
  unfold Ks.has
  rw [valV_put]
  by_cases e : q = p
  · rw [if_pos (by rw [e]), decide_eq_true e, Bool.or_true]
    rfl
  · rw [if_neg (fun z => e (k2_inj z)), decide_eq_false e, Bool.or_false]
theorem Ks.merge : ∀ {more kvs : List (List L2.Key × V)}, Ks kvs → (∀ k ∈ more.map (fun p => p.1), ∃ p, sml p ∧ k = k2 p) → Ks (mergeT kvs more)
  | [], _, h, _ => h
  | m :: r, kvs, h, hm => by
    obtain ⟨p, hp, e⟩ := hm m.1 (List.mem_cons_self ..)
    show Ks (mergeT (putK kvs m.1 m.2) r)
    rw [e]
    exact (h.put hp).merge fun k hk => hm k (List.mem_cons_of_mem (a := k) _ hk)
theorem Ks.has_merge {kvs more : List (List L2.Key × V)} {q : Int × Int} : Ks.has (mergeT kvs more) q = (Ks.has kvs q || Ks.has more q) := mergeT_val _ _ _
theorem Ks.few {kvs : List (List L2.Key × V)} (h : Ks kvs) : kvs.length ≤ 25 := by
  have z := dup_len (kvs.map fun p => p.1) (allP.map k2) h.nd fun k hk => by
    obtain ⟨p, hp, e⟩ := h.sm k hk
    rw [e]
    exact List.mem_map.mpr ⟨p, allP_mem hp, rfl⟩
  rw [List.length_map, List.length_map] at z
  exact Nat.le_trans z (Nat.le_of_ble_eq_true (by decide))
theorem Ks.hash {P : Program} {w : World} {kvs : List (List L2.Key × V)} (h : Ks kvs) : (kvs.map fun p => tupleKeyHash (mixKind P w) p.1).Nodup := by
  have e : (kvs.map fun p => tupleKeyHash (mixKind P w) p.1) = (kvs.map fun p => p.1).map (tupleKeyHash (mixKind P w)) := by rw [List.map_map]; rfl
  rw [e]
  refine List.pairwise_map.mpr (List.Pairwise.imp_of_mem (fun {a b} ha hb n z => ?_) h.nd)
  obtain ⟨p, hp, rfl⟩ := h.sm a ha
  obtain ⟨q, hq, rfl⟩ := h.sm b hb
  exact n (by rw [hash_inj hp hq z])
end K29
set_option Elab.async false
set_option linter.all false
set_option maxRecDepth 100000
set_option maxHeartbeats 4000000
/-! dict(a list of pairs) with keys that are tuples; l[i] = v; list(d) -/
namespace K29
open PySem PySem.Spec PyProof.Rows L2
section
variable {X : Cx} {pins : List (Addr × Obj)} {σ : L2.St} {H : Hp} {s : Shared}
theorem pairsT_of (I : Inv X pins σ H s) : ∀ {ps : List Addr} {kvs : List (List L2.Key × V)}, Paired (fun p kv => ∃ b, H b = some (.tup (kv.1.map kV)) ∧ SqT X.K H p [.ref b, kv.2]) ps kvs →
    ∃ xs : List (List L2.Key × Addr × Value), KT H kvs xs ∧ xs.length = ps.length ∧ ∀ (j : Nat) (q : List L2.Key × Addr × Value), xs[j]? = some q → ∃ b : Addr, ps[j]? = some b ∧ IsTup s.heap b #[.ref q.2.1, q.2.2]
  | _, _, .nil => ⟨[], .nil, rfl, fun j q e => by simp at e⟩
  | _, _, .cons (a := p) (b := kv) h t => by
    obtain ⟨xs, r, hl, hp⟩ := pairsT_of I t
    obtain ⟨b, eb, h⟩ := h
    obtain ⟨its, rv, ht, _⟩ := I.tuple h
    obtain ⟨u, y, ei, ru, ry⟩ := vals2 rv
    subst ei
    cases (show u = Value.ref b from ru)
    refine ⟨(kv.1, b, y) :: xs, .cons ⟨rfl, eb, ry⟩ r, by rw [List.length_cons, List.length_cons, hl], fun j q e => ?_⟩
    cases j with
    | zero =>
      have e' : (kv.1, b, y) = q := Option.some.inj e
      subst e'
      exact ⟨p, rfl, ht⟩
    | succ j =>
      obtain ⟨b', e1, e2⟩ := hp j q (by simpa using e)
      exact ⟨b', by simpa using e1, e2⟩
/-- dict(xs) of a list of pairs (key, value), the keys tuples -/
theorem call_dictT (hcalm : X.calm = true) (hu : X.A.units + 2 < cLine) : CallR X (.type "dict") (fun xs H Q => ∃ (a : Addr) (ps : List Addr) (kvs : List (List L2.Key × V)), xs = [.ref a] ∧ SqL X.K H a (ps.map V.ref) ∧ Paired (fun p kv => ∃ b, H b = some (.tup (kv.1.map kV)) ∧ SqT X.K H p [.ref b, kv.2]) ps kvs ∧
    ∀ d, H d = none → Q (.ref d) (upd H d (.dT (mergeT [] kvs)))) := by
  intro pins s σ H xs us Q I r q
  obtain ⟨a, ps, kvs, ex, hq, hp, q⟩ := q
  subst ex
  obtain ⟨u, eu, rx⟩ := vals1 r
  subst eu
  cases rx
  obtain ⟨its, rv, pl, hz⟩ := I.list hq
  have ei := refs_at rv
  subst ei
  rw [List.length_map] at hz
  obtain ⟨ts, rel, hl, hpr⟩ := pairsT_of I hp
  obtain ⟨o, n, ho, hc, hd, hdat⟩ := pl
  have pi : PairItems s.heap (ps.map Value.ref).toArray (fun j => ps.getD j 0) (ts.map fun x => (Value.ref x.2.1, x.2.2)) := by
    refine ⟨by rw [List.size_toArray, List.length_map, List.length_map, hl], fun j k v e => ?_⟩
    rw [List.getElem?_map] at e
    cases hj : ts[j]? with
    | none =>
      rw [hj] at e
      cases e
    | some x =>
      rw [hj] at e
      cases e
      obtain ⟨b, e1, e2⟩ := hpr j x hj
      have e3 : ps.getD j 0 = b := by rw [List.getD_eq_getElem?_getD, e1]; rfl
      refine ⟨?_, ?_⟩
      · show (ps.map Value.ref).toArray[j]? = some (Value.ref (ps.getD j 0))
        rw [List.getElem?_toArray, List.getElem?_map, e1, e3]
        rfl
      · show PairAt s.heap (ps.getD j 0) _ _
        rw [e3]
        obtain ⟨ob, b1, b2, b3, b4⟩ := e2
        exact .inl ⟨ob, b1, b2, b3, b4⟩
  have okp : PlainSeq "list" s.heap a (ps.map Value.ref).toArray := ⟨o, n, ho, hc, hd, hdat⟩
  refine call_dict_pairsH (knd := tupleKind (mixKind X.prog X.w)) (ps := ts) (PairArg.list a (ps.map Value.ref).toArray (fun j => ps.getD j 0) (ts.map fun x => (Value.ref x.2.1, x.2.2))) (I.ok.hd hcalm) (show X.A.in1.in1.units < cLine from hu) ⟨okp, pi⟩ ⟨by rw [List.length_map], fun i key v e => ?_⟩ (fun h' hk x hx => ?_) (by rw [List.length_map, hl]; exact hz) fun h' tk hd' hk => ?_
  · have e : (ts.map fun x => (Value.ref x.2.1, x.2.2))[i]? = some (key, v) := e
    rw [List.getElem?_map] at e
    cases hj : ts[i]? with
    | none =>
      rw [hj] at e
      cases e
    | some x =>
      rw [hj] at e
      cases e
      exact ⟨x.1, x.2.1, rfl, rfl⟩
  · have all : ∀ {l : List (List L2.Key × V)} {m : List (List L2.Key × Addr × Value)}, KT H l m → ∀ x ∈ m, H x.2.1 = some (.tup (x.1.map kV)) := by
      intro l m q
      induction q with
      | nil => intro x hx; exact nomatch hx
      | @cons p q ps qs hq t ih =>
        intro x hx
        rcases List.mem_cons.mp hx with e | hx
        · subst e
          rw [← hq.1]
          exact hq.2.1
        · exact ih x hx
    have k0 := key_of (P := X.prog) (w := X.w) I.hok (all rel x hx)
    exact tupleKind_stays.stays (fun b ob vs m e _ => hk b ob (Nat.ne_of_lt (Heap.lt_size e)) (fun z => nomatch z) e) k0
  · obtain ⟨ob, es, ep, h1, h2, h3, h4, _, h5⟩ := hd'
    have hm : (s.heap.objs.size == sysModules) = false := beq_eq_false_iff_ne.mpr (Nat.ne_of_gt I.big)
    have hlen : (mergeT [] kvs).length ≤ sizeLine := by
      refine Nat.le_trans (mergeT_len kvs []) ?_
      rw [List.length_nil, Nat.zero_add, Paired.length rel, hl]
      exact hz
    have hn := I.hok.fresh (Nat.le_refl s.heap.objs.size)
    refine ⟨.ref s.heap.objs.size, upd H s.heap.objs.size (.dT (mergeT [] kvs)), I.laid (t' := tk) (fun b ob e => hk b ob (fun z => nomatch z) e) (Nat.le_refl _) (show ObjOk X.prog X.w _ _ _ (.dT (mergeT [] kvs)) from ⟨hlen, hm, _, (kt_merge rel .nil).keeps fun c ys ec => ?_, ob, es, ep, h1, h2, h3, h4, h5⟩), rfl, q _ hn⟩
    rw [upd_ne (ne_of_none ec hn)]
    exact ec
end
section
variable {X : Cx} {e o i tg : Expr} {σ : L2.St} {F H : Hp} {pos pos' : Pos} {D : Ends}
/-- o[i] = .. of a list -/
theorem wg_lput {v : V} {Q : L2.St → Hp → Prop} (h : We X o σ H fun x H1 => We X i σ H1 fun y H2 => rSetL x y v H2 fun H3 => Q σ H3)
    (ha : ∀ v, assign (.Subscript o i pos) X.env v = (do
      let ov ← holding [v] (eval o X.env)
      let iv ← holding [v, ov] (eval i X.env)
      standAt pos
      holding [v, ov, iv] (setItem ov iv v)
      release [v, ov, iv] []) := by intro _; rfl) : Wg X (.Subscript o i pos) v σ H Q := wg_of (pg_sub we_pe we_pe set_list ha) h
/-- o[i] = e of a list -/
theorem w1_lput (h : We X e σ H fun v H0 => We X o σ H0 fun x H1 => We X i σ H1 fun y H2 => rSetL x y v H2 fun H3 => D.nx σ H3)
    (ha : ∀ v, assign (.Subscript o i pos') X.env v = (do
      let ov ← holding [v] (eval o X.env)
      let iv ← holding [v, ov] (eval i X.env)
      standAt pos'
      holding [v, ov, iv] (setItem ov iv v)
      release [v, ov, iv] []) := by intro _; rfl) (hs : swapsWithSole [.Subscript o i pos'] e pos.line X.env = pure false := by rfl) (hw : swappedStores [.Subscript o i pos'] e X.env = pure none := by rfl) (h1 : (assignEach [.Subscript o i pos'] X.env).map (·.2) = [assign (.Subscript o i pos') X.env] := by rfl) : W1 X (.Assign [.Subscript o i pos'] e pos) D σ H :=
  w1_asg (h.mono fun v H0 k => wg_lput k ha) hs hw h1
end
end K29
set_option Elab.async false
set_option linter.all false
set_option maxRecDepth 100000
set_option maxHeartbeats 4000000
namespace K29
open PySem PySem.Spec PyProof.Rows L2
section
variable {P : Program} {w : World} {K : PySem.W.Frag} {mg : Str → Option Value} {base : Heap} {f : Addr} {fd : FuncData}
abbrev n_events_of : List Str := ["timetable", "word", "place", "event"]
theorem sc_events_of : FnScope n_events_of ["timetable", "word"] (C8.fnScope s_events_of) := C8.fnScope_by (by decide +kernel)
abbrev spEventsOf (K : PySem.W.Frag) : Sp := PuT K (fun a : Tab × Str => [tabD a.1, .str a.2]) (fun a => a.1.evs.length ≤ 100) (fun a => .list ((evsOf a.1 a.2).map prD))
theorem ev_at0 (e : Ev) : L2.atI (.str e.word :: e.ps.map PyData.int) 0 = some (.str e.word) := atI_nat (j := 0) rfl
theorem ev_at1 (e : Ev) : L2.atI (.str e.word :: e.ps.map PyData.int) 1 = some (.int e.p) := atI_nat (j := 1) (by cases e <;> rfl)
theorem c_events_of (T : Txt K mg) (F : C8.Def K mg "events_of" s_events_of f fd) (b : Binds K fd ["timetable", "word"] []) : C8.Cal P w K mg base 1 "events_of" (spEventsOf K) [] := by
  refine calP F b sc_events_of (fun _ => rfl) fun cdv A outer s H vs Q E G a hr s0 hd hp q => ?_
  obtain ⟨⟨n, evs⟩, z⟩ := a
  obtain ⟨vt, r, rfl, dt, hd⟩ := hd.cons_inv
  obtain ⟨vw, r, rfl, dw, hd⟩ := hd.cons_inv
  rw [hd.nil_inv]
  refine wb_one (w1_ret (we_lc sc_events_of.nd (blkOk_by (own := [("place", 2), ("event", 3)]) (N := n_events_of) (sc := C8.fnScope s_events_of) (by decide +kernel)) ?_))
  refine lcv_p (xs := idxd evs) (e1 := fun x => .int x.1) (e2 := fun x => evD x.2) 2 3 (fun x => decide (x.2.word = z)) (fun x => prD (x.1, x.2.p)) ?_ ?_ ?_ ?_ ?_ ?_ _ s0 _ ?_
  · rw [← enumD_map]
    exact wsrc_enumT T.enumerate (wv_ixT (wv_var 0 rfl dt) wv_int (atI_nat (j := 1) rfl))
  · rw [idxd_len]
    exact Nat.le_trans hp (by decide)
  · exact fun _ _ _ _ _ => pg_tup rfl (pgs_cons (pg_name (i := 2) sc_events_of.nd rfl (Or.inl rfl)) (pgs_cons (pg_name (i := 3) sc_events_of.nd rfl (Or.inl rfl)) pgs_nil))
  · exact fun _ _ => rfl
  · exact fun x _ F1 v u sF h1 h2 => ts_one fun _ _ _ _ _ => wq_eqS (wv_ixT (wv_var 3 rfl h2) wv_int (ev_at0 x.2)) (wv_var 1 rfl (dw.mono sF))
  · exact fun x _ _ F1 v u sF h1 h2 _ _ _ _ _ => wv_tup (wvs_cons (wv_var 2 rfl h1) (wvs_cons (wv_ixT (wv_var 3 rfl h2) wv_int (ev_at1 x.2)) wvs_nil))
  · intro v F' H' g h
    refine q v F' H' g ?_
    unfold evsOf
    rw [List.map_map]
    exact h
end
end K29
set_option Elab.async false
set_option linter.all false
set_option maxRecDepth 100000
set_option maxHeartbeats 4000000
namespace K29
open PySem PySem.Spec PyProof.Rows L2
section
variable {P : Program} {w : World} {K : PySem.W.Frag} {mg : Str → Option Value} {base : Heap} {f : Addr} {fd : FuncData}
/-! ### looks, adds -/
abbrev n_looks : List Str := ["timetable"]
theorem sc_looks : FnScope n_looks ["timetable"] (C8.fnScope s_looks) := C8.fnScope_by (by decide +kernel)
theorem sc_adds : FnScope n_looks ["timetable"] (C8.fnScope s_adds) := C8.fnScope_by (by decide +kernel)
def looksOf (T : Tab) : List (Int × Int) := evsOf T "look"
def addsOf (T : Tab) : List (Int × Int) := evsOf T "add"
abbrev spLooks (K : PySem.W.Frag) : Sp := PuT K (fun T : Tab => [tabD T]) (fun T => T.evs.length ≤ 100) (fun T => .list ((looksOf T).map prD))
abbrev spAdds (K : PySem.W.Frag) : Sp := PuT K (fun T : Tab => [tabD T]) (fun T => T.evs.length ≤ 100) (fun T => .list ((addsOf T).map prD))
theorem c_looks (T : Txt K mg) (ce : C8.Cal P w K mg base 1 "events_of" (spEventsOf K) []) (F : C8.Def K mg "looks" s_looks f fd) (b : Binds K fd ["timetable"] []) : C8.Cal P w K mg base 2 "looks" (spLooks K) [] := by
  refine calP F b sc_looks (fun _ => rfl) fun cdv A outer s H vs Q E G a hr s0 hd hp q => ?_
  obtain ⟨vt, r, rfl, dt, hd⟩ := hd.cons_inv
  rw [hd.nil_inv]
  exact wb_one (w1_ret (Wv.go (wv_call (a, ("look" : Str)) ce hr (wvs_cons (wv_var 0 rfl dt) (wvs_cons (wv_gstr T.LOOK) wvs_nil)) hp) s0 q))
theorem c_adds (T : Txt K mg) (ce : C8.Cal P w K mg base 1 "events_of" (spEventsOf K) []) (F : C8.Def K mg "adds" s_adds f fd) (b : Binds K fd ["timetable"] []) : C8.Cal P w K mg base 2 "adds" (spAdds K) [] := by
  refine calP F b sc_adds (fun _ => rfl) fun cdv A outer s H vs Q E G a hr s0 hd hp q => ?_
  obtain ⟨vt, r, rfl, dt, hd⟩ := hd.cons_inv
  rw [hd.nil_inv]
  exact wb_one (w1_ret (Wv.go (wv_call (a, ("add" : Str)) ce hr (wvs_cons (wv_var 0 rfl dt) (wvs_cons (wv_gstr T.ADD) wvs_nil)) hp) s0 q))
/-! ### as_tuples -/
abbrev n_as_tuples : List Str := ["thing", "part"]
theorem sc_as_tuples : FnScope n_as_tuples ["thing"] (C8.fnScope s_as_tuples) := C8.fnScope_by (by decide +kernel)
/-- ints and texts, in tuples of tuples, so deep; no tuple is empty -/
def tdep : Nat → PyData → Prop
  | 0, d => (∃ i, d = .int i) ∨ ∃ z, d = .str z
  | n + 1, d => ((∃ i, d = .int i) ∨ ∃ z, d = .str z) ∨ ∃ d1 ds, d = .tuple (d1 :: ds) ∧ ds.length ≤ 1000 ∧ ∀ x ∈ d1 :: ds, tdep n x
abbrev spAs (n : Nat) (K : PySem.W.Frag) : Sp := PuT K (fun d : PyData => [d]) (fun d => tdep n d) (fun d => d)
theorem wv_isi {X : Cx} (i : Nat) {x : Str} {σ : L2.St} {F : Hp} {b : Bool} {v : V} {k : Nat} {p p1 p2 p3 p4 pos : Pos} {t : Value} (m1 : X.mg "isinstance" = none) (m2 : X.mg "list" = none) (m3 : X.mg "tuple" = none)
    (hs : σ[i]? = some (some v)) (ht : ∀ H, Same F H → TyX X.K H v t) (hb : PySem.W.kitAny X.K t [.type "list", .type "tuple"] = some b)
    (hN : X.N[i]? = some x := by rfl) (hv : Vis X.env.scope x := by first | exact Or.inl rfl | exact Or.inr (Or.inl rfl) | exact Or.inr (Or.inr rfl)) (hd : (x == ("__debug__" : Str)) = false := by decide) (hcd : (x == ("__classdict__" : Str)) = false := by decide)
    (g1 : Gl X "isinstance" := by rfl) (g2 : Gl X "list" := by rfl) (g3 : Gl X "tuple" := by rfl) (e1 : starEach [.Name x p, .Tuple [.Name "list" p1, .Name "tuple" p2] k p3] X.env = (false, eval (.Name x p) X.env) :: starEach [.Tuple [.Name "list" p1, .Name "tuple" p2] k p3] X.env := by rfl)
    (e2 : starEach [.Tuple [.Name "list" p1, .Name "tuple" p2] k p3] X.env = (false, eval (.Tuple [.Name "list" p1, .Name "tuple" p2] k p3) X.env) :: starEach [] X.env := by rfl)
    (e3 : starEach [.Name "list" p1, .Name "tuple" p2] X.env = (false, eval (.Name "list" p1) X.env) :: starEach [.Name "tuple" p2] X.env := by rfl) (e4 : starEach [.Name "tuple" p2] X.env = (false, eval (.Name "tuple" p2) X.env) :: starEach [] X.env := by rfl)
    (hpl : (backTo pos (starEach [.Tuple [.Name "list" p1, .Name "tuple" p2] k p3] X.env)).any (·.1) = false := by rfl) : Wv X (.Call (.Name "isinstance" p4) [.Name x p, .Tuple [.Name "list" p1, .Name "tuple" p2] k p3] [] pos) σ F (.bool b) := wv_scal (fun _ => .bl b) fun H s Q q =>
  we_callB (call_isiT (X := X)) m1 (wa_cons (we_of (pe_var hN hv hd hcd) ⟨v, hs, wa_cons (we_tup (wa_cons (we_of (pe_bltn (v := .ty "list") g2 m2 (by decide +kernel) rfl) (wa_cons (we_of (pe_bltn (v := .ty "tuple") g3 m3 (by decide +kernel) rfl) (wa_nil ⟨by show 2 ≤ 1000; decide, fun a ha =>
    wa_nil ⟨v, a, [.ty "list", .ty "tuple"], t, [.type "list", .type "tuple"], b, rfl, upd_same, .cons (.ty _) (.cons (.ty _) .nil), ht _ (s.trans (same_new ha)), hb, q _ (same_new ha)⟩⟩)) e4)) e3)) e2⟩) e1) g1 (by decide +kernel) (by decide) (by decide) e1 hpl
theorem kit_int {K : PySem.W.Frag} : PySem.W.kitAny K (.type "int") [.type "list", .type "tuple"] = some false := kitAny_cons (kit_ty (r := false) (by decide +kernel)) (fun _ => kitAny_cons (kit_ty (r := false) (by decide +kernel)) (fun _ => kitAny_nil) (fun z => by cases z)) (fun z => by cases z)
theorem kit_str {K : PySem.W.Frag} : PySem.W.kitAny K (.type "str") [.type "list", .type "tuple"] = some false := kitAny_cons (kit_ty (r := false) (by decide +kernel)) (fun _ => kitAny_cons (kit_ty (r := false) (by decide +kernel)) (fun _ => kitAny_nil) (fun z => by cases z)) (fun z => by cases z)
theorem kit_tup {K : PySem.W.Frag} : PySem.W.kitAny K (.type "tuple") [.type "list", .type "tuple"] = some true := kitAny_cons (kit_ty (r := false) (by decide +kernel)) (fun _ => kitAny_cons (kit_ty (r := true) (by decide +kernel)) (fun z => by cases z) (fun _ => rfl)) (fun z => by cases z)
theorem c_as_tuples (T : Txt K mg) (F : C8.Def K mg "as_tuples" s_as_tuples f fd) (b : Binds K fd ["thing"] []) : ∀ n, C8.Cal P w K mg base (n + 1) "as_tuples" (spAs n K) []
  | 0 => by
    refine calP F b sc_as_tuples (fun _ => rfl) fun cdv A outer s H vs Q E G a hr s0 hd hp q => ?_
    obtain ⟨v, r, rfl, dt, hd⟩ := hd.cons_inv
    rw [hd.nil_inv]
    refine wb_one (w1_ret ?_)
    rcases hp with ⟨i, rfl⟩ | ⟨z, rfl⟩
    · refine Wv.go (wv_if (wq_val (wv_isi 0 T.isinstance T.list T.tuple rfl (fun H _ => by rw [dt.int_inv]; exact .base (.int i)) kit_int)) (fun z => by cases z) (fun _ => wv_var 0 rfl dt)) s0 q
    · refine Wv.go (wv_if (wq_val (wv_isi 0 T.isinstance T.list T.tuple rfl (fun H _ => by rw [dt.str_inv]; exact .base (.str z)) kit_str)) (fun z => by cases z) (fun _ => wv_var 0 rfl dt)) s0 q
  | n + 1 => by
    have ih := c_as_tuples T F b n
    refine calP F b sc_as_tuples (fun _ => rfl) fun cdv A outer s H vs Q E G a hr s0 hd hp q => ?_
    obtain ⟨v, r, rfl, dt, hd⟩ := hd.cons_inv
    rw [hd.nil_inv]
    refine wb_one (w1_ret ?_)
    rcases hp with (⟨i, rfl⟩ | ⟨z, rfl⟩) | ⟨d1, ds, rfl, hl, hp⟩
    · refine Wv.go (wv_if (wq_val (wv_isi 0 T.isinstance T.list T.tuple rfl (fun H _ => by rw [dt.int_inv]; exact .base (.int i)) kit_int)) (fun z => by cases z) (fun _ => wv_var 0 rfl dt)) s0 q
    · refine Wv.go (wv_if (wq_val (wv_isi 0 T.isinstance T.list T.tuple rfl (fun H _ => by rw [dt.str_inv]; exact .base (.str z)) kit_str)) (fun z => by cases z) (fun _ => wv_var 0 rfl dt)) s0 q
    · refine Wv.go (wv_if (t := true) (wq_val (wv_isi 0 T.isinstance T.list T.tuple rfl (fun H sH => ?_) kit_tup)) (fun _ => wv_callTy call_tuple_of cd_tupleL ?_ T.tuple) (fun z => by cases z)) s0 q
      · obtain ⟨a, us, rfl, h1, _⟩ := dt.tup_inv1
        exact .base (.tup (sH _ _ h1))
      · refine wv_lc sc_as_tuples.nd (blkOk_by (own := [("part", 1)]) (N := n_as_tuples) (sc := C8.fnScope s_as_tuples) (by decide +kernel)) (lcv_n0 (xs := d1 :: ds) (enc := fun x => x) 1 (fun x => x) ?_ ?_ ?_ ?_ ?_) |>.to ?_
        · rw [List.map_id']
          exact wsrc_tup (wv_var 0 rfl dt)
        · rw [List.length_cons]
          omega
        · exact fun _ _ _ _ _ => pg_name (i := 1) sc_as_tuples.nd rfl (Or.inl rfl)
        · exact fun _ => rfl
        · exact fun x hx F1 u sF h1 _ _ _ _ _ => wv_call x ih hr (wvs_cons (wv_var 1 rfl h1) wvs_nil) (hp x hx) (Nat.le_refl _)
        · rw [List.map_id']
end
end K29
set_option Elab.async false
set_option linter.all false
set_option maxRecDepth 100000
set_option maxHeartbeats 4000000
namespace K29
open PySem PySem.Spec PyProof.Rows L2
section
variable {P : Program} {w : World} {K : PySem.W.Frag} {mg : Str → Option Value} {base : Heap} {f : Addr} {fd : FuncData}
/-! ### check_look, check_looks -/
abbrev n_check_look : List Str := ["timetable", "number"]
theorem sc_check_look : FnScope n_check_look ["timetable", "number"] (C8.fnScope s_check_look) := C8.fnScope_by (by decide +kernel)
def okLook (T : Tab) (i : Int) : Prop := 0 ≤ i ∧ i < (looksOf T).length
abbrev spCheckLook (K : PySem.W.Frag) : Sp := PuT K (fun a : Tab × Int => [tabD a.1, .int a.2]) (fun a => a.1.evs.length ≤ 100 ∧ okLook a.1 a.2) (fun _ => .none)
theorem c_check_look (T : Txt K mg) (cl : C8.Cal P w K mg base 2 "looks" (spLooks K) []) (F : C8.Def K mg "check_look" s_check_look f fd) (b : Binds K fd ["timetable", "number"] []) : C8.Cal P w K mg base 3 "check_look" (spCheckLook K) [] := by
  refine calP F b sc_check_look (fun _ => rfl) fun cdv A outer s H vs Q E G a hr s0 hd hp q => ?_
  obtain ⟨T1, i⟩ := a
  obtain ⟨vt, r, rfl, dt, hd⟩ := hd.cons_inv
  obtain ⟨vi, r, rfl, di, hd⟩ := hd.cons_inv
  rw [hd.nil_inv]
  obtain ⟨hz, h0, h1⟩ := hp
  refine wb_one (w1_ifq (t := !(decide ((0 : Int) ≤ i) && decide (i < ((looksOf T1).map prD).length))) (wq_not (wq_leLt wv_int (wv_var 1 rfl di) (wv_callB call_len_seq cd_lenL (wv_call T1 cl hr (wvs_cons (wv_var 0 rfl dt) wvs_nil) hz) T.len))) s0 (fun z => ?_) (fun _ H' s' => wb_nil (q _ G H' ⟨Same.refl _, s0.trans s', s', fun _ e _ => e⟩ .non)))
  rw [decide_eq_true (show (0 : Int) ≤ i from h0), decide_eq_true (show i < ((looksOf T1).map prD).length by rw [List.length_map]; exact h1)] at z
  cases z
abbrev n_check_looks : List Str := ["timetable", "numbers", "number"]
theorem sc_check_looks : FnScope n_check_looks ["timetable", "numbers"] (C8.fnScope s_check_looks) := C8.fnScope_by (by decide +kernel)
abbrev spCheckLooks (K : PySem.W.Frag) : Sp := PuT K (fun a : Tab × List Int => [tabD a.1, .tuple (a.2.map .int)]) (fun a => a.1.evs.length ≤ 100 ∧ ∀ i ∈ a.2, okLook a.1 i) (fun _ => .none)
theorem c_check_looks (cl : C8.Cal P w K mg base 3 "check_look" (spCheckLook K) []) (F : C8.Def K mg "check_looks" s_check_looks f fd) (b : Binds K fd ["timetable", "numbers"] []) : C8.Cal P w K mg base 4 "check_looks" (spCheckLooks K) [] := by
  refine calP F b sc_check_looks (fun _ => rfl) fun cdv A outer s H vs Q E G a hr s0 hd hp q => ?_
  obtain ⟨T1, ns⟩ := a
  obtain ⟨vt, r, rfl, dt, hd⟩ := hd.cons_inv
  obtain ⟨vn, r, rfl, dn, hd⟩ := hd.cons_inv
  rw [hd.nil_inv]
  obtain ⟨hz, hp⟩ := hp
  refine wb_one (w1_forD (ds := ns.map .int) (fun F1 _ σ' H' => Same G F1 ∧ Same F1 H' ∧ Same H H' ∧ ∃ u, σ' = [some vt, some vn, u]) (wsrc_tup (wv_var 1 rfl dn)) s0 (fun F1 H1 g => ⟨g.ff, g.fh, g.hh, none, rfl⟩) (fun F1 i σ' H' p => p.2.1) ?_ ?_)
  · rintro F1 i d v σ' H1 H2 ed ⟨p1, p2, p3, u, rfl⟩ hy
    obtain ⟨F3, g, dv⟩ := hy F1 (Same.refl _) p2
    rw [List.getElem?_map] at ed
    cases e : ns[i]? with
    | none =>
      rw [e] at ed
      cases ed
    | some n =>
      rw [e] at ed
      cases ed
      refine wg_name 2 sc_check_looks.nd (wb_one (w1_expr ((wv_call (T1, n) cl hr (wvs_cons (wv_var 0 rfl (dt.mono (p1.trans g.ff))) (wvs_cons (wv_var 2 rfl dv) wvs_nil)) ⟨hz, hp n (List.mem_of_getElem? e)⟩ : Wv _ _ _ _ .none).go g.fh fun _ F4 H4 g4 _ => ⟨p1, (g.ff.trans g4.ff).trans g4.fh, (p3.trans g.hh).trans g4.hh, _, rfl⟩)))
  · rintro F1 σ' H' ⟨p1, p2, p3, u, rfl⟩
    exact q _ G H' ⟨Same.refl _, p1.trans p2, p3, fun _ e _ => e⟩ .non
/-! ### has_all, hits -/
abbrev n_has_all : List Str := ["some", "part", "thing"]
theorem sc_has_all : FnScope n_has_all ["some", "part"] (C8.fnScope s_has_all) := C8.fnScope_by (by decide +kernel)
def tI (ns : List Int) : PyData := .tuple (ns.map .int)
def hasAll (xs ys : List Int) : Bool := ys.all fun y => decide (y ∈ xs)
abbrev spHasAll (K : PySem.W.Frag) : Sp := PuT K (fun a : List Int × List Int => [tI a.1, tI a.2]) (fun a => a.2.length ≤ 100) (fun a => .bool (hasAll a.1 a.2))
theorem c_has_all (T : Txt K mg) (F : C8.Def K mg "has_all" s_has_all f fd) (b : Binds K fd ["some", "part"] []) : C8.Cal P w K mg base 1 "has_all" (spHasAll K) [] := by
  refine calP F b sc_has_all (fun _ => rfl) fun cdv A outer s H vs Q E G a hr s0 hd hp q => ?_
  obtain ⟨xs, ys⟩ := a
  obtain ⟨vx, r, rfl, dx, hd⟩ := hd.cons_inv
  obtain ⟨vy, r, rfl, dy, hd⟩ := hd.cons_inv
  rw [hd.nil_inv]
  refine wb_one (w1_ret (Wv.go (d := .bool ((ys.map fun y => decide (y ∈ xs)).all id)) (wv_callB (cr_all rfl) cd_all (wv_lc sc_has_all.nd (blkOk_by (own := [("thing", 2)]) (N := n_has_all) (sc := C8.fnScope s_has_all) (by decide +kernel)) ?_ |>.to (by rw [List.map_map])) T.all) s0 ?_))
  · exact lcv_n0 (xs := ys) (enc := .int) 2 (fun y => .bool (decide (y ∈ xs))) (wsrc_tup (wv_var 1 rfl dy)) (Nat.le_trans hp (by decide)) (fun _ _ _ _ _ => pg_name (i := 2) sc_has_all.nd rfl (Or.inl rfl)) (fun _ => rfl) fun y _ F1 v sF h1 _ _ _ _ _ => wv_in (.inr rfl) (wv_var 2 rfl h1) (wv_var 0 rfl (dx.mono sF))
  · rw [List.all_map]
    exact q
abbrev n_hits : List Str := ["some", "sets", "part", "thing"]
theorem sc_hits : FnScope n_hits ["some", "sets"] (C8.fnScope s_hits) := C8.fnScope_by (by decide +kernel)
def hitsM (xs : List Int) (sets : List (List Int)) : Bool := sets.all fun p => p.any fun y => decide (y ∈ xs)
abbrev spHits (K : PySem.W.Frag) : Sp := PuT K (fun a : List Int × List (List Int) => [tI a.1, .list (a.2.map tI)]) (fun a => a.2.length ≤ 1000 ∧ ∀ p ∈ a.2, p.length ≤ 100) (fun a => .bool (hitsM a.1 a.2))
theorem c_hits (T : Txt K mg) (F : C8.Def K mg "hits" s_hits f fd) (b : Binds K fd ["some", "sets"] []) : C8.Cal P w K mg base 1 "hits" (spHits K) [] := by
  refine calP F b sc_hits (fun _ => rfl) fun cdv A outer s H vs Q E G a hr s0 hd hp q => ?_
  obtain ⟨xs, ys⟩ := a
  obtain ⟨vx, r, rfl, dx, hd⟩ := hd.cons_inv
  obtain ⟨vy, r, rfl, dy, hd⟩ := hd.cons_inv
  rw [hd.nil_inv]
  refine wb_one (w1_ret (Wv.go (d := .bool ((ys.map fun p => p.any fun y => decide (y ∈ xs)).all id)) (wv_callB (cr_all rfl) cd_all (wv_lc sc_hits.nd (blkOk_by (own := [("part", 2)]) (N := n_hits) (sc := C8.fnScope s_hits) (by decide +kernel)) ?_ |>.to (by rw [List.map_map])) T.all) s0 ?_))
  · refine lcv_n0 (xs := ys) (enc := tI) 2 (fun p => .bool (p.any fun y => decide (y ∈ xs))) (wsrc_list (wv_var 1 rfl dy)) (Nat.le_trans hp.1 (by decide)) (fun _ _ _ _ _ => pg_name (i := 2) sc_hits.nd rfl (Or.inl rfl)) (fun _ => rfl) fun p pm F1 v sF h1 s1 H1 C1 cl1 fp1 => ?_
    refine Wv.to (wv_callB (d := .bool ((p.map fun y => decide (y ∈ xs)).any id)) (cr_any rfl) cd_any (wv_lc sc_hits.nd (blkOk_by (own := [("thing", 3)]) (N := n_hits) (sc := relS _ (C8.fnScope s_hits)) (by decide +kernel)) ?_ |>.to (by rw [List.map_map])) T.any) (by rw [List.any_map]; rfl)
    exact lcv_n0 (xs := p) (enc := .int) 3 (fun y => .bool (decide (y ∈ xs))) (wsrc_tup (wv_var 2 rfl h1)) (Nat.le_trans (hp.2 p pm) (by decide)) (fun _ _ _ _ _ => pg_name (i := 3) sc_hits.nd rfl (Or.inl rfl)) (fun _ => rfl) fun y _ F2 u sF2 h2 _ _ _ _ _ => wv_in (.inr rfl) (wv_var 3 rfl h2) (wv_var 0 rfl (dx.mono (sF.trans sF2)))
  · rw [List.all_map]
    exact q
end
end K29
set_option Elab.async false
set_option linter.all false
set_option maxRecDepth 100000
set_option maxHeartbeats 4000000
namespace K29
open PySem PySem.Spec PyProof.Rows L2
/-! ### choices -/
/-- all choices of so many, in their order -/
def chs : List Int → Nat → List (List Int)
  | _, 0 => [[]]
  | [], _ + 1 => []
  | x :: r, k + 1 => (chs r k).map (x :: ·) ++ chs r (k + 1)
theorem chs_len : ∀ (xs : List Int) (k : Nat), (chs xs k).length ≤ 2 ^ xs.length
  | xs, 0 => by
    unfold chs
    exact Nat.one_le_two_pow
  | [], k + 1 => Nat.zero_le _
  | x :: r, k + 1 => by
    have h1 := chs_len r k
    have h2 := chs_len r (k + 1)
    unfold chs
    rw [List.length_append, List.length_map, List.length_cons, Nat.pow_succ]
    omega
theorem chs_sub : ∀ (xs : List Int) (k : Nat) (c : List Int), c ∈ chs xs k → c.Sublist xs ∧ c.length = k
  | xs, 0, c, h => by
    unfold chs at h
    rw [List.mem_singleton.mp h]
    exact ⟨List.nil_sublist _, rfl⟩
  | [], k + 1, c, h => by
    unfold chs at h
    cases h
  | x :: r, k + 1, c, h => by
    unfold chs at h
    rcases List.mem_append.mp h with h | h
    · obtain ⟨c', h1, rfl⟩ := List.mem_map.mp h
      obtain ⟨h2, h3⟩ := chs_sub r k c' h1
      exact ⟨h2.cons_cons x, by rw [List.length_cons, h3]⟩
    · obtain ⟨h2, h3⟩ := chs_sub r (k + 1) c h
      exact ⟨h2.cons x, h3⟩
theorem chs_all : ∀ (xs c : List Int), c.Sublist xs → c ∈ chs xs c.length
  | xs, [], _ => by
    unfold chs
    exact List.mem_singleton.mpr rfl
  | [], y :: c, h => by cases h
  | x :: r, y :: c, h => by
    unfold chs
    rw [List.length_cons]
    cases h with
    | cons _ h => exact List.mem_append_right _ (by have := chs_all r (y :: c) h; rw [List.length_cons] at this; exact this)
    | cons_cons _ h => exact List.mem_append_left _ (List.mem_map.mpr ⟨c, chs_all r c h, rfl⟩)
section
variable {P : Program} {w : World} {K : PySem.W.Frag} {mg : Str → Option Value} {base : Heap} {f : Addr} {fd : FuncData}
abbrev n_choices : List Str := ["some", "size", "found", "place", "thing", "rest"]
theorem sc_choices : FnScope n_choices ["some", "size"] (C8.fnScope s_choices) := C8.fnScope_by (by decide +kernel)
abbrev spChoices (n : Nat) (K : PySem.W.Frag) : Sp := PuT K (fun a : List Int × Nat => [.list (a.1.map .int), .int (a.2 : Nat)]) (fun a => a.1.length ≤ 8 ∧ a.2 ≤ n) (fun a => .list ((chs a.1 a.2).map tI))
theorem choices_body {n : Nat} (T : Txt K mg) (F : C8.Def K mg "choices" s_choices f fd) (b : Binds K fd ["some", "size"] []) (ih : ∀ m, m < n → C8.Cal P w K mg base (m + 1) "choices" (spChoices m K) []) : C8.Cal P w K mg base (n + 1) "choices" (spChoices n K) [] := by
  refine calP F b sc_choices (fun _ => rfl) fun cdv A outer s H vs Q E G a hr s0 hd hp q => ?_
  obtain ⟨xs, k⟩ := a
  obtain ⟨vx, r, rfl, dx, hd⟩ := hd.cons_inv
  obtain ⟨vk, r, rfl, dk, hd⟩ := hd.cons_inv
  rw [hd.nil_inv]
  obtain ⟨hz, hk⟩ := hp
  replace hz : xs.length ≤ 8 := hz
  replace hk : k ≤ n := hk
  refine wb_cons (w1_ifq (wq_eqI (wv_var 1 rfl dk) wv_int) s0 (fun z H1 s1 => ?_) (fun z H1 s1 => ?_))
  · have k0 : k = 0 := by have := of_decide_eq_true z; omega
    subst k0
    refine wb_one (w1_ret (Wv.go (wv_lst (wvs_cons (wv_tup wvs_nil) wvs_nil)) (s0.trans s1) fun v F' H' g h => q v F' H' ⟨g.ff, g.fh, s1.trans g.hh, fun a e m => g.fr a e fun z => m (s1.free z)⟩ ?_))
    unfold chs
    exact h
  · obtain ⟨m, rfl⟩ : ∃ m, k = m + 1 := ⟨k - 1, by have := of_decide_eq_false z; omega⟩
    refine wb_nil (wb_cons (w1_set 2 sc_choices.nd (we_lst (wa_nil ⟨Nat.zero_le _, fun l hl => ?_⟩))))
    have g0 : Gr G H G (upd H1 l (.lst [])) := ⟨Same.refl _, same_mut (s0.trans s1) ((s0.trans s1).free hl), s1.trans (same_new hl), fun _ e _ => e⟩
    have lH : H l = none := s1.free hl
    refine wb_cons (w1_forD (ds := enumD (xs.map .int)) (fun F1 i σ' H' => ∃ Fi acc done u w, Same F1 Fi ∧ Gr G H Fi H' ∧ Fi l = none ∧ H' l = some (.lst acc) ∧ DqAll K Fi acc (done.map tI) ∧ chs xs (m + 1) = done ++ chs (xs.drop i) (m + 1) ∧ done.length ≤ 256 ∧ σ' = [some vx, some vk, some (.ref l), u, w, none])
      (wsrc_enumL T.enumerate (wv_var 0 rfl dx)) g0.fh (fun F1 H2 g => ⟨F1, [], [], none, none, Same.refl _, g0.trans g, g.noF (s0.free lH) upd_same, g.hh _ _ upd_same, .nil, rfl, Nat.zero_le _, rfl⟩) (fun F1 i σ' H' ⟨Fi, acc, done, u, w, p1, p2, _⟩ => p1.trans p2.fh) ?_ ?_)
    · rintro F1 i d v σ' H2 H3 ed ⟨Fi, acc, done, u, w, p1, p2, p3, p4, p5, p6, p7, rfl⟩ hy
      obtain ⟨F3, g3, dv⟩ := hy Fi p1 p2.fh
      have hi : i < xs.length := by
        have := (List.getElem?_eq_some_iff.mp ed).1
        rw [enumD_len, List.length_map] at this
        exact this
      have ex : xs[i]? = some xs[i] := List.getElem?_eq_getElem hi
      rw [enumD_at (d := .int xs[i]) (by rw [List.getElem?_map, ex]; rfl)] at ed
      cases ed
      have ed2 : chs (xs.drop i) (m + 1) = (chs (xs.drop (i + 1)) m).map (xs[i] :: ·) ++ chs (xs.drop (i + 1)) (m + 1) := by
        rw [List.drop_eq_getElem_cons hi]
        rfl
      have hle : done.length + (chs (xs.drop (i + 1)) m).length ≤ 256 := by
        have h1 := chs_len xs (m + 1)
        rw [p6, ed2] at h1
        simp only [List.length_append, List.length_map] at h1
        have h2 : 2 ^ xs.length ≤ 2 ^ 8 := Nat.pow_le_pow_right (by decide) hz
        omega
      have g4 := p2.trans g3
      refine wg_pair dv g3.fh fun v1 v2 h1 h2 => wgs_cons (wg_name 3 sc_choices.nd (wgs_cons (wg_name 4 sc_choices.nd (wgs_nil ?_))))
      have dx' : Dq K F3 vx (.list (xs.map .int)) := dx.mono g4.ff
      refine wb_one (w1_extend (ho_var 2 rfl) (g3.hh _ _ p4) (g3.noF p3 p4) (ds := (chs (xs.drop (i + 1)) m).map fun c => tI (xs[i] :: c)) (wv_lc sc_choices.nd (blkOk_by (own := [("rest", 5)]) (N := n_choices) (sc := C8.fnScope s_choices) (by decide +kernel)) ?_) g3.fh ?_ ?_)
      · refine lcv_n0 (xs := chs (xs.drop (i + 1)) m) (enc := tI) 5 (fun c => tI (xs[i] :: c)) (wsrc_list (wv_call (xs.drop (i + 1), m) (ih m (by omega)) hr (wvs_cons ((wv_slL (wv_var 0 rfl dx') (wo_some (wv_add (wv_var 3 rfl h1) wv_int)) wo_none).to ?_) (wvs_cons ((wv_sub (wv_var 1 rfl (dk.mono g4.ff)) wv_int).to ?_) wvs_nil)) ⟨?_, Nat.le_refl _⟩ (by omega))) ?_ (fun _ _ _ _ _ => pg_name (i := 5) sc_choices.nd rfl (Or.inl rfl)) (fun _ => rfl) fun c hc F5 v5 s5 h5 _ _ _ _ _ => ?_
        · rw [show ((i : Nat) + 1 : Int) = ((i + 1 : Nat) : Int) by omega, cut_from, List.map_drop]
        · exact congrArg PyData.int (by omega)
        · rw [List.length_drop]
          omega
        · omega
        · refine Wv.to (wv_catT (ds := [.int xs[i]]) (es := c.map .int) (wv_tup (wvs_cons (wv_var 4 rfl (h2.mono s5)) wvs_nil)) (wv_var 5 rfl h5) ?_) rfl
          have := (chs_sub _ _ _ hc).1.length_le
          rw [List.length_drop] at this
          rw [List.length_map, List.length_singleton]
          omega
      · rw [p5.length, List.length_map, List.length_map]
        omega
      · intro us F5 H5 g5 hu f5 e5
        refine ⟨F5, acc ++ us, done ++ (chs (xs.drop (i + 1)) m).map (xs[i] :: ·), some v1, some v2, p1.trans (g3.ff.trans g5.ff), (g4.trans g5).mut lH f5, f5, upd_same, ?_, ?_, ?_, rfl⟩
        · rw [List.map_append, List.map_map]
          exact (p5.mono (g3.ff.trans g5.ff)).append hu
        · rw [p6, ed2, List.append_assoc]
        · rw [List.length_append, List.length_map]
          omega
    · rintro F1 σ' H2 ⟨Fi, acc, done, u, w, p1, p2, p3, p4, p5, p6, p7, rfl⟩
      refine wb_one (w1_ret (we_var 2 rfl (q _ _ _ (p2.freeze lH p3 p4) (.lst upd_same ?_))))
      rw [enumD_len, List.length_map, List.drop_length] at p6
      rw [p6]
      rw [show chs [] (m + 1) = [] from rfl, List.append_nil]
      exact p5.mono (same_new p3)
theorem c_choices (T : Txt K mg) (F : C8.Def K mg "choices" s_choices f fd) (b : Binds K fd ["some", "size"] []) (n : Nat) : C8.Cal P w K mg base (n + 1) "choices" (spChoices n K) [] := by
  induction n using Nat.strongRecOn with
  | _ n ih => exact choices_body T F b ih
end
end K29
set_option Elab.async false
set_option linter.all false
set_option maxRecDepth 100000
set_option maxHeartbeats 4000000
namespace K29
open PySem PySem.Spec PyProof.Rows L2
/-! ### is_with, meetings_of -/
def Ev.paired (e : Ev) : Bool := decide (e.word = "meet" ∨ e.word = "tell")
def isWith (e : Ev) (ns : List Int) : Bool := (decide (e.word = "look") || e.paired) && (e.ps.any fun p => decide (p ∈ ns))
theorem idxd_mem {α : Type} {l : List α} {q : Int × α} (h : q ∈ idxd l) : ∃ k : Nat, q.1 = (k : Int) ∧ l[k]? = some q.2 := by
  unfold idxd at h
  obtain ⟨k, hk, e⟩ := List.mem_iff_getElem.mp h
  rw [List.getElem_mapIdx] at e
  rw [List.length_mapIdx] at hk
  exact ⟨k, by rw [← e], by rw [← e, List.getElem?_eq_getElem hk]⟩
theorem mem_idxd {α : Type} {l : List α} {k : Nat} {x : α} (h : l[k]? = some x) : ((k : Int), x) ∈ idxd l := by
  obtain ⟨hk, e⟩ := List.getElem?_eq_some_iff.mp h
  refine List.mem_iff_getElem.mpr ⟨k, by rw [idxd_len]; exact hk, ?_⟩
  unfold idxd
  rw [List.getElem_mapIdx, e]
def evAt (T : Tab) (i : Int) : Ev := T.evs.getD i.toNat (.add 0)
theorem evAt_of {T : Tab} {k : Nat} {e : Ev} (h : T.evs[k]? = some e) : evAt T (k : Int) = e := by
  unfold evAt
  rw [Int.toNat_natCast, List.getD_eq_getElem?_getD, h]
  rfl
/-- the places of meets and tells -/
def placesOf (T : Tab) : List Int := ((idxd T.evs).filter fun q => q.2.paired).map fun q => q.1
def meetsOf (T : Tab) (ls : List Int) : List Int := (placesOf T).filter fun i => !isWith (evAt T i) ls
theorem placesOf_at {T : Tab} {i : Int} (h : i ∈ placesOf T) : ∃ k : Nat, i = (k : Int) ∧ T.evs[k]? = some (evAt T i) ∧ (evAt T i).paired = true := by
  unfold placesOf at h
  obtain ⟨q, hq, rfl⟩ := List.mem_map.mp h
  obtain ⟨h1, h2⟩ := List.mem_filter.mp hq
  obtain ⟨k, e1, e2⟩ := idxd_mem h1
  refine ⟨k, e1, ?_, ?_⟩
  · rw [e1, evAt_of e2]
    exact e2
  · rw [e1, evAt_of e2]
    exact h2
section
variable {P : Program} {w : World} {K : PySem.W.Frag} {mg : Str → Option Value} {base : Heap} {f : Addr} {fd : FuncData}
abbrev n_is_with : List Str := ["event", "people", "person"]
theorem sc_is_with : FnScope n_is_with ["event", "people"] (C8.fnScope s_is_with) := C8.fnScope_by (by decide +kernel)
structure IwA where
  e : Ev
  d : PyData
  ns : List Int
abbrev spIsWith (K : PySem.W.Frag) : Sp := PuT K (fun a : IwA => [evD a.e, a.d]) (fun a => SeqI a.d a.ns) (fun a => .bool (isWith a.e a.ns))
theorem ev_ps_len (e : Ev) : e.ps.length ≤ 2 := by cases e <;> exact Nat.le_of_ble_eq_true rfl
theorem c_is_with (T : Txt K mg) (F : C8.Def K mg "is_with" s_is_with f fd) (b : Binds K fd ["event", "people"] []) : C8.Cal P w K mg base 1 "is_with" (spIsWith K) [] := by
  refine calP F b sc_is_with (fun _ => rfl) fun cdv A outer s H vs Q E G a hr s0 hd hp q => ?_
  obtain ⟨e, d, ns⟩ := a
  obtain ⟨ve, r, rfl, de, hd⟩ := hd.cons_inv
  obtain ⟨vp, r, rfl, dp, hd⟩ := hd.cons_inv
  rw [hd.nil_inv]
  refine wb_one (w1_ret (Wv.go (wv_and2 (wv_or2 (wv_eqS (wv_ixT (wv_var 0 rfl de) wv_int (ev_at0 e)) (wv_gstr T.LOOK)) fun _ => wv_paired T.PAIRED (wv_ixT (wv_var 0 rfl de) wv_int (ev_at0 e)))
    fun _ => Wv.to (wv_callB (d := .bool ((e.ps.map fun p => decide (p ∈ ns)).any id)) (cr_any rfl) cd_any (wv_lc sc_is_with.nd (blkOk_by (own := [("person", 2)]) (N := n_is_with) (sc := C8.fnScope s_is_with) (by decide +kernel)) ?_ |>.to (by rw [List.map_map])) T.any) (by rw [List.any_map]; rfl)) s0 q))
  refine lcv_n0 (xs := e.ps) (enc := .int) 2 (fun p => .bool (decide (p ∈ ns))) (wsrc_tup (Wv.to (wv_slT (wv_var 0 rfl de) (wo_some wv_int) wo_none) ?_)) (Nat.le_trans (ev_ps_len e) (by decide)) (fun _ _ _ _ _ => pg_name (i := 2) sc_is_with.nd rfl (Or.inl rfl)) (fun _ => rfl) fun p _ F1 v sF h1 _ _ _ _ _ => wv_in hp (wv_var 2 rfl h1) (wv_var 1 rfl (dp.mono sF))
  rw [show (some (1 : Int)) = some ((1 : Nat) : Int) from rfl, cut_from]
  rfl
abbrev n_meetings_of : List Str := ["timetable", "liars", "places", "place", "event"]
theorem sc_meetings_of : FnScope n_meetings_of ["timetable", "liars"] (C8.fnScope s_meetings_of) := C8.fnScope_by (by decide +kernel)
structure TlA where
  T : Tab
  d : PyData
  ns : List Int
abbrev spMeetingsOf (K : PySem.W.Frag) : Sp := PuT K (fun a : TlA => [tabD a.T, a.d]) (fun a => a.T.evs.length ≤ 100 ∧ SeqI a.d a.ns) (fun a => .list ((meetsOf a.T a.ns).map .int))
theorem c_meetings_of (T : Txt K mg) (ci : C8.Cal P w K mg base 1 "is_with" (spIsWith K) []) (F : C8.Def K mg "meetings_of" s_meetings_of f fd) (b : Binds K fd ["timetable", "liars"] []) : C8.Cal P w K mg base 2 "meetings_of" (spMeetingsOf K) [] := by
  refine calP F b sc_meetings_of (fun _ => rfl) fun cdv A outer s H vs Q E G a hr s0 hd hp q => ?_
  obtain ⟨T1, d, ns⟩ := a
  obtain ⟨vt, r, rfl, dt, hd⟩ := hd.cons_inv
  obtain ⟨vl, r, rfl, dl, hd⟩ := hd.cons_inv
  rw [hd.nil_inv]
  obtain ⟨hz, hp⟩ := hp
  refine wb_cons (w1_setLc (i := 2) sc_meetings_of.nd (blkOk_by (own := [("place", 3), ("event", 4)]) (N := n_meetings_of) (sc := C8.fnScope s_meetings_of) (by decide +kernel)) (lcv_p (xs := idxd T1.evs) (e1 := fun x => .int x.1) (e2 := fun x => evD x.2) 3 4 (fun x => x.2.paired) (fun x => .int x.1) ?_ ?_ ?_ ?_ ?_ ?_ _ s0 _ ?_))
  · rw [← enumD_map]
    exact wsrc_enumT T.enumerate (wv_ixT (wv_var 0 rfl dt) wv_int (atI_nat (j := 1) rfl))
  · rw [idxd_len]
    exact Nat.le_trans hz (by decide)
  · exact fun _ _ _ _ _ => pg_tup rfl (pgs_cons (pg_name (i := 3) sc_meetings_of.nd rfl (Or.inl rfl)) (pgs_cons (pg_name (i := 4) sc_meetings_of.nd rfl (Or.inl rfl)) pgs_nil))
  · exact fun _ _ => rfl
  · exact fun x _ F1 v u sF h1 h2 => ts_one fun _ _ _ _ _ => wq_cmpP T.PAIRED (wv_ixT (wv_var 4 rfl h2) wv_int (ev_at0 x.2))
  · exact fun x _ _ F1 v u sF h1 h2 _ _ _ _ _ => wv_var 3 rfl h1
  intro v F1 H1 g1 h1
  have h1 : Dq K F1 v (.list ((placesOf T1).map .int)) := by
    unfold placesOf
    rw [List.map_map]
    exact h1
  refine wb_one (w1_ret (we_lc sc_meetings_of.nd (blkOk_by (own := [("place", 3)]) (N := n_meetings_of) (sc := C8.fnScope s_meetings_of) (by decide +kernel)) (lcv_n (xs := placesOf T1) (enc := .int) 3 (fun i => !isWith (evAt T1 i) ns) .int (wsrc_list (wv_var 2 rfl h1)) ?_ (fun _ _ _ _ _ => pg_name (i := 3) sc_meetings_of.nd rfl (Or.inl rfl)) (fun _ => rfl) ?_ (fun i _ _ F2 u sF hu _ _ _ _ _ => wv_var 3 rfl hu) _ g1.fh _ fun v2 F2 H2 g2 h2 => q v2 F2 H2 (g1.trans g2) h2)))
  · have := List.length_filter_le (fun q => q.2.paired) (idxd T1.evs)
    rw [idxd_len] at this
    unfold placesOf
    rw [List.length_map]
    exact Nat.le_trans this (Nat.le_trans hz (by decide))
  · intro i hi F2 u sF hu
    obtain ⟨k, e1, e2, _⟩ := placesOf_at hi
    refine ts_one fun _ _ _ _ _ => wq_not (wq_val (wv_call (⟨evAt T1 i, d, ns⟩ : IwA) ci hr (wvs_cons (wv_ixT (ds := T1.evs.map evD) (wv_ixT (wv_var 0 rfl (dt.mono (g1.ff.trans sF))) wv_int (atI_nat (j := 1) rfl)) (wv_var 3 rfl hu) ?_) (wvs_cons (wv_var 1 rfl (dl.mono (g1.ff.trans sF))) wvs_nil)) hp))
    rw [e1]
    refine atI_nat ?_
    rw [List.getElem?_map, ← e1, e2]
    rfl
end
end K29
set_option Elab.async false
set_option linter.all false
set_option maxRecDepth 100000
set_option maxHeartbeats 4000000
namespace K29
open PySem PySem.Spec PyProof.Rows L2
/-! ### pairs as keys -/
def ky (p : Int × Int) : List L2.Key := [.inl p.1, .inl p.2]
def prs (A : List (Int × Int)) : List (List L2.Key × V) := A.map fun p => (ky p, .bl true)
theorem ky_inj {p q : Int × Int} (h : ky p = ky q) : p = q := by
  obtain ⟨a, b⟩ := p
  obtain ⟨c, d⟩ := q
  unfold ky at h
  simp only [List.cons.injEq, Sum.inl.injEq, and_true] at h
  rw [h.1, h.2]
theorem valV_prs (A : List (Int × Int)) (p : Int × Int) : valV (prs A) (ky p) = if p ∈ A then some (.bl true) else none := by
  induction A with
  | nil => rfl
  | cons q A ih =>
    show valV ((ky q, V.bl true) :: prs A) (ky p) = _
    by_cases e : q = p
    · rw [e, valV_pos rfl, if_pos (List.mem_cons_self ..)]
    · rw [valV_neg (fun z => e (ky_inj z)), ih]
      by_cases m : p ∈ A
      · rw [if_pos m, if_pos (List.mem_cons_of_mem _ m)]
      · rw [if_neg m, if_neg (fun z => (List.mem_cons.mp z).elim (fun z => e z.symm) m)]
theorem isSome_prs (A : List (Int × Int)) (p : Int × Int) : (valV (prs A) (ky p)).isSome = decide (p ∈ A) := by
  rw [valV_prs]
  by_cases m : p ∈ A
  · rw [if_pos m, decide_eq_true m]
    rfl
  · rw [if_neg m, decide_eq_false m]
    rfl
theorem putK_prs (A : List (Int × Int)) (p : Int × Int) (h : p ∉ A) : putK (prs A) (ky p) (.bl true) = prs (A ++ [p]) := by
  unfold putK
  rw [valV_any, isSome_prs, decide_eq_false h, if_neg Bool.false_ne_true]
  unfold prs
  rw [List.map_append]
  rfl
/-! ### a Bonds object -/
structure Bd where
  C : Addr
  b : Addr
  dx : Addr
  pa : Addr
  pb : Addr
  ph : Addr
  pf : Addr
  T : Tab
  kind : Str
  gone : List Int
  ve : V
  vg : V
  vl : V
  va : V
def bfs (d : Bd) : List (Str × V) := [("own_people", .int d.T.n), ("own_events", d.ve), ("own_kind", .str d.kind), ("own_gone", d.vg), ("own_looks", d.vl), ("own_adds", d.va), ("own_alike", .ref d.pa), ("own_below", .ref d.pb), ("own_has", .ref d.ph), ("own_facts", .ref d.pf)]
/-- what the class says -/
structure Bcls (K : PySem.W.Frag) (C : Addr) : Prop where
  c : Cls K C
  people : NoAttr K C "own_people"
  events : NoAttr K C "own_events"
  kind : NoAttr K C "own_kind"
  gone : NoAttr K C "own_gone"
  looks : NoAttr K C "own_looks"
  adds : NoAttr K C "own_adds"
  alike : NoAttr K C "own_alike"
  below : NoAttr K C "own_below"
  has : NoAttr K C "own_has"
  facts : NoAttr K C "own_facts"
structure Sta (K : PySem.W.Frag) (F : Hp) (d : Bd) : Prop where
  cls : Bcls K d.C
  ins : F d.b = some (.ins d.C d.dx (bfs d))
  ev : Dq K F d.ve (.tuple (d.T.evs.map evD))
  gn : Dq K F d.vg (.list (d.gone.map .int))
  lk : Dq K F d.vl (.list ((looksOf d.T).map prD))
  ad : Dq K F d.va (.list ((addsOf d.T).map prD))
  few : d.T.evs.length ≤ 100
  fewL : (looksOf d.T).length ≤ 8
  pos : 0 ≤ d.T.n ∧ d.T.n ≤ 100
  rng : ∀ e ∈ d.T.evs, ∀ p ∈ e.ps, 0 ≤ p ∧ p < d.T.n
/-- they may be written -/
structure Mu (F : Hp) (d : Bd) : Prop where
  a : F d.pa = none
  b : F d.pb = none
  h : F d.ph = none
  f : F d.pf = none
  ab : d.pa ≠ d.pb
/-- what each has -/
def HasOk (K : PySem.W.Frag) (F : Hp) (kvs : List (L2.Key × V)) (n : Int) (hs : Int → List Int) : Prop := (kvs.length : Int) ≤ n ∧ ∀ p : Int, 0 ≤ p → p < n → ∃ v, valV kvs (.inl p) = some v ∧ Dq K F v (.list ((hs p).map .int))
structure Dyn (K : PySem.W.Frag) (F H : Hp) (d : Bd) (A B : List (Int × Int)) (hs : Int → List Int) : Prop where
  s : Same F H
  a : H d.pa = some (.dT (prs A))
  b : H d.pb = some (.dT (prs B))
  h : ∃ kvs, H d.ph = some (.dK kvs) ∧ HasOk K F kvs d.T.n hs
  f : ∃ l, H d.pf = some (.lst l) ∧ l.length ≤ A.length + B.length
/-- what a call may write -/
def Bd.M (d : Bd) : Addr → Prop := fun a => a = d.pa ∨ a = d.pb ∨ a = d.ph ∨ a = d.pf
section
variable {K : PySem.W.Frag} {F H F1 H1 : Hp} {d : Bd} {A B : List (Int × Int)} {hs : Int → List Int}
theorem Sta.mono (h : Sta K F d) (s : Same F F1) : Sta K F1 d := ⟨h.cls, s _ _ h.ins, h.ev.mono s, h.gn.mono s, h.lk.mono s, h.ad.mono s, h.few, h.fewL, h.pos, h.rng⟩
theorem HasOk.mono {kvs : List (L2.Key × V)} {n : Int} (h : HasOk K F kvs n hs) (s : Same F F1) : HasOk K F1 kvs n hs := ⟨h.1, fun p h0 h1 => by
  obtain ⟨v, e, dv⟩ := h.2 p h0 h1
  exact ⟨v, e, dv.mono s⟩⟩
/-- nothing of it is written -/
theorem Dyn.gr (h : Dyn K F H d A B hs) (g : Gr F H F1 H1) : Dyn K F1 H1 d A B hs := by
  obtain ⟨kvs, e1, e2⟩ := h.h
  obtain ⟨l, e3, e4⟩ := h.f
  exact ⟨g.fh, g.hh _ _ h.a, g.hh _ _ h.b, ⟨kvs, g.hh _ _ e1, e2.mono g.ff⟩, ⟨l, g.hh _ _ e3, e4⟩⟩
theorem Dyn.sm (h : Dyn K F H d A B hs) (s : Same H H1) : Dyn K F H1 d A B hs := h.gr ⟨Same.refl _, h.s.trans s, s, fun _ e _ => e⟩
theorem Mu.gm {M : Addr → Prop} (m : Mu F d) (h : Dyn K F H d A B hs) (g : Gm M F H F1 H1) : Mu F1 d := by
  obtain ⟨kvs, e1, e2⟩ := h.h
  obtain ⟨l, e3, e4⟩ := h.f
  exact ⟨g.noF m.a h.a, g.noF m.b h.b, g.noF m.h e1, g.noF m.f e3, m.ab⟩
end
def okPairs (n : Int) (A : List (Int × Int)) : Prop := A.Nodup ∧ ∀ p ∈ A, (0 ≤ p.1 ∧ p.1 < n) ∧ 0 ≤ p.2 ∧ p.2 < n
section
variable {P : Program} {w : World} {K : PySem.W.Frag} {mg : Str → Option Value} {base : Heap} {f : Addr} {fd : FuncData} {C : Addr}
/-! ### many, is_alike, is_below -/
abbrev n_B_many : List Str := ["self"]
theorem sc_B_many : FnScope n_B_many ["self"] (C8.fnScope s_B_many) := C8.fnScope_by (by decide +kernel)
def nL (d : Bd) : Int := ((looksOf d.T).length : Nat)
def spMany (C : Addr) (K : PySem.W.Frag) : Sp := fun vs H Q _ => ∃ (F : Hp) (d : Bd), vs = [.ref d.b] ∧ C = d.C ∧ Same F H ∧ Sta K F d ∧ ∀ H', Same H H' → Q (.int (nL d)) H'
theorem wv_self {X : Cx} {F : Hp} {d : Bd} {σ : L2.St} {f : Str} {u : V} {dd : PyData} {p pos : Pos} (st : Sta X.K F d) (hs : σ[0]? = some (some (.ref d.b))) (na : NoAttr X.K d.C f) (hl : (bfs d).lookup f = some u) (hd : Dq X.K F u dd) (hN : X.N[0]? = some ("self" : Str) := by rfl) (hv : Vis X.env.scope "self" := by first | exact Or.inl rfl | exact Or.inr (Or.inl rfl) | exact Or.inr (Or.inr rfl))
    (hb : attributeBase (.Name "self" p) f X.env (eval (.Name "self" p) X.env) = eval (.Name "self" p) X.env := by rfl) : Wv X (.Attribute (.Name "self" p) f pos) σ F dd := fun H s Q q => we_fld (we_var 0 hs ⟨_, _, _, _, _, rfl, s _ _ st.ins, st.cls.c, na, hl, q _ F H (Gr.refl s) hd⟩ hN hv) hb
/-- an attribute that is written -/
theorem we_self {X : Cx} {F H : Hp} {d : Bd} {σ : L2.St} {f : Str} {u : V} {Q : VK} {p pos : Pos} (st : Sta X.K F d) (hs : σ[0]? = some (some (.ref d.b))) (na : NoAttr X.K d.C f) (s : Same F H) (q : Q u H) (hl : (bfs d).lookup f = some u := by rfl) (hN : X.N[0]? = some ("self" : Str) := by rfl) (hv : Vis X.env.scope "self" := by first | exact Or.inl rfl | exact Or.inr (Or.inl rfl) | exact Or.inr (Or.inr rfl))
    (hb : attributeBase (.Name "self" p) f X.env (eval (.Name "self" p) X.env) = eval (.Name "self" p) X.env := by rfl) : We X (.Attribute (.Name "self" p) f pos) σ H Q := we_fld (we_var 0 hs ⟨_, _, _, _, _, rfl, s _ _ st.ins, st.cls.c, na, hl, q⟩ hN hv) hb
theorem c_B_many (T : Txt K mg) (BC : Bcls K C) (me : Meth K C "many" f) (F : C8.Fun K "many" "Bonds.many" s_B_many f fd) (b : Binds K fd ["self"] []) : C8.Met P w K mg base 1 C "many" (spMany C K) [] := by
  refine metW BC.c me F b .nil sc_B_many (fun vs H Q E ⟨G, d, e, _⟩ => by rw [e]; rfl) fun cdv A outer s H vs Q E hr ⟨G, d, e, ec, s0, st, q⟩ => ?_
  subst e
  refine wb_one (w1_ret (Wv.int (i := nL d) (Wv.to (wv_callB call_len_seq cd_lenL (wv_self st rfl st.cls.looks rfl st.lk) T.len) ?_) s0 q))
  unfold nL
  rw [List.length_map]
abbrev n_B_is_alike : List Str := ["self", "one", "other"]
theorem sc_B_is_alike : FnScope n_B_is_alike ["self", "one", "other"] (C8.fnScope s_B_is_alike) := C8.fnScope_by (by decide +kernel)
theorem sc_B_is_below : FnScope n_B_is_alike ["self", "one", "other"] (C8.fnScope s_B_is_below) := C8.fnScope_by (by decide +kernel)
/-- a look at the pairs -/
def spAlike (C : Addr) (K : PySem.W.Frag) : Sp := fun vs H Q _ => ∃ (F : Hp) (d : Bd) (A : List (Int × Int)) (i j : Int), vs = [.ref d.b, .int i, .int j] ∧ C = d.C ∧ Same F H ∧ Sta K F d ∧ H d.pa = some (.dT (prs A)) ∧ ∀ H', Same H H' → Q (.bl (decide (i = j) || decide ((i, j) ∈ A))) H'
def spBelow (C : Addr) (K : PySem.W.Frag) : Sp := fun vs H Q _ => ∃ (F : Hp) (d : Bd) (A : List (Int × Int)) (i j : Int), vs = [.ref d.b, .int i, .int j] ∧ C = d.C ∧ Same F H ∧ Sta K F d ∧ H d.pb = some (.dT (prs A)) ∧ ∀ H', Same H H' → Q (.bl (decide ((i, j) ∈ A))) H'
/-- (one, other) as a key -/
theorem we_key {X : Cx} {a b : Expr} {σ : L2.St} {H : Hp} {Q : VK} {i j : Int} {k : Nat} {pos : Pos} (ha : ∀ H', Same H H' → ∀ Q : VK, (∀ H'', Same H' H'' → Q (.int i) H'') → We X a σ H' Q) (hb : ∀ H', Same H H' → ∀ Q : VK, (∀ H'', Same H' H'' → Q (.int j) H'') → We X b σ H' Q)
    (q : ∀ p H', Same H H' → H' p = some (.tup ((ky (i, j)).map kV)) → Q (.ref p) H') (e1 : starEach [a, b] X.env = (false, eval a X.env) :: starEach [b] X.env := by rfl) (e2 : starEach [b] X.env = (false, eval b X.env) :: starEach [] X.env := by rfl) : We X (.Tuple [a, b] k pos) σ H Q :=
  we_tup (wa_cons (ha H (Same.refl _) _ fun H1 s1 => wa_cons (hb H1 s1 _ fun H2 s2 => wa_nil ⟨by show 2 ≤ 1000; decide, fun p hp => q p _ ((s1.trans s2).trans (same_new hp)) upd_same⟩) e2) e1)
/-- a name that holds an int -/
theorem iv_var {X : Cx} {x : Str} {σ : L2.St} {H : Hp} {i : Int} {p : Pos} (n : Nat) (hs : σ[n]? = some (some (.int i))) (hN : X.N[n]? = some x := by rfl) (hv : Vis X.env.scope x := by first | exact Or.inl rfl | exact Or.inr (Or.inl rfl) | exact Or.inr (Or.inr rfl)) (hd : (x == ("__debug__" : Str)) = false := by decide) (hcd : (x == ("__classdict__" : Str)) = false := by decide) :
    ∀ H', Same H H' → ∀ Q : VK, (∀ H'', Same H' H'' → Q (.int i) H'') → We X (.Name x p) σ H' Q := fun H' _ Q q => we_var n hs (q H' (Same.refl _)) hN hv hd hcd
theorem c_B_is_below (BC : Bcls K C) (me : Meth K C "is_below" f) (F : C8.Fun K "is_below" "Bonds.is_below" s_B_is_below f fd) (b : Binds K fd ["self", "one", "other"] []) : C8.Met P w K mg base 1 C "is_below" (spBelow C K) [] := by
  refine metW BC.c me F b .nil sc_B_is_below (fun vs H Q E ⟨G, d, A, i, j, e, _⟩ => by rw [e]; rfl) fun cdv A0 outer s H vs Q E hr ⟨G, d, A, i, j, e, ec, s0, st, ha, q⟩ => ?_
  subst e
  refine wb_one (w1_ret (we_din hr (we_key (iv_var 1 rfl) (iv_var 2 rfl) fun p H1 s1 hp => we_self st rfl st.cls.below (s0.trans s1) ⟨_, _, rfl, DGet.t (s1 _ _ ha) hp, ?_⟩)))
  rw [isSome_prs]
  exact q H1 s1
theorem c_B_is_alike (BC : Bcls K C) (me : Meth K C "is_alike" f) (F : C8.Fun K "is_alike" "Bonds.is_alike" s_B_is_alike f fd) (b : Binds K fd ["self", "one", "other"] []) : C8.Met P w K mg base 1 C "is_alike" (spAlike C K) [] := by
  refine metW BC.c me F b .nil sc_B_is_alike (fun vs H Q E ⟨G, d, A, i, j, e, _⟩ => by rw [e]; rfl) fun cdv A0 outer s H vs Q E hr ⟨G, d, A, i, j, e, ec, s0, st, ha, q⟩ => ?_
  subst e
  refine wb_one (w1_ret (we_or2 (Wv.bl (wv_eqI (wv_var 1 rfl (.int i)) (wv_var 2 rfl (.int j))) s0 fun H1 s1 => ⟨_, rfl, ?_⟩)))
  cases e : decide (i = j) with
  | true =>
    refine iteT ?_
    have z := q H1 s1
    rw [e, Bool.true_or] at z
    exact z
  | false =>
    refine iteF (we_din hr (we_key (iv_var 1 rfl) (iv_var 2 rfl) fun p H2 s2 hp => we_self st rfl st.cls.alike (s0.trans (s1.trans s2)) ⟨_, _, rfl, DGet.t (s2 _ _ (s1 _ _ ha)) hp, ?_⟩))
    have z := q H2 (s1.trans s2)
    rw [e, Bool.false_or] at z
    rw [isSome_prs]
    exact z
end
end K29
set_option Elab.async false
set_option linter.all false
set_option maxRecDepth 100000
set_option maxHeartbeats 4000000
namespace K29
open PySem PySem.Spec PyProof.Rows L2
section
variable {K : PySem.W.Frag} {F H F1 H1 : Hp} {d : Bd} {A A' B B' : List (Int × Int)} {hs hs' : Int → List Int}
theorem Dyn.ne_ha (h : Dyn K F H d A B hs) : d.ph ≠ d.pa := fun e => by
  obtain ⟨kvs, e1, _⟩ := h.h
  have e2 := h.a
  rw [← e, e1] at e2
  cases e2
theorem Dyn.ne_hb (h : Dyn K F H d A B hs) : d.ph ≠ d.pb := fun e => by
  obtain ⟨kvs, e1, _⟩ := h.h
  have e2 := h.b
  rw [← e, e1] at e2
  cases e2
theorem Dyn.ne_fa (h : Dyn K F H d A B hs) : d.pf ≠ d.pa := fun e => by
  obtain ⟨l, e1, _⟩ := h.f
  have e2 := h.a
  rw [← e, e1] at e2
  cases e2
theorem Dyn.ne_fb (h : Dyn K F H d A B hs) : d.pf ≠ d.pb := fun e => by
  obtain ⟨l, e1, _⟩ := h.f
  have e2 := h.b
  rw [← e, e1] at e2
  cases e2
theorem Dyn.ne_fh (h : Dyn K F H d A B hs) : d.pf ≠ d.ph := fun e => by
  obtain ⟨l, e1, _⟩ := h.f
  obtain ⟨kvs, e2, _⟩ := h.h
  rw [← e, e1] at e2
  cases e2
theorem Dyn.putA (h : Dyn K F H d A B hs) (m : Mu F d) (hl : A.length ≤ A'.length) : Dyn K F (upd H d.pa (.dT (prs A'))) d A' B hs := by
  obtain ⟨kvs, e1, e2⟩ := h.h
  obtain ⟨l, e3, e4⟩ := h.f
  exact ⟨same_mut h.s m.a, upd_same, by rw [upd_ne (Ne.symm m.ab)]; exact h.b, ⟨kvs, by rw [upd_ne h.ne_ha]; exact e1, e2⟩, ⟨l, by rw [upd_ne h.ne_fa]; exact e3, by omega⟩⟩
theorem Dyn.putB (h : Dyn K F H d A B hs) (m : Mu F d) (hl : B.length ≤ B'.length) : Dyn K F (upd H d.pb (.dT (prs B'))) d A B' hs := by
  obtain ⟨kvs, e1, e2⟩ := h.h
  obtain ⟨l, e3, e4⟩ := h.f
  exact ⟨same_mut h.s m.b, by rw [upd_ne m.ab]; exact h.a, upd_same, ⟨kvs, by rw [upd_ne h.ne_hb]; exact e1, e2⟩, ⟨l, by rw [upd_ne h.ne_fb]; exact e3, by omega⟩⟩
theorem Dyn.putF (h : Dyn K F H d A B hs) (m : Mu F d) {l : List V} (hl : l.length ≤ A.length + B.length) : Dyn K F (upd H d.pf (.lst l)) d A B hs := by
  obtain ⟨kvs, e1, e2⟩ := h.h
  exact ⟨same_mut h.s m.f, by rw [upd_ne (Ne.symm h.ne_fa)]; exact h.a, by rw [upd_ne (Ne.symm h.ne_fb)]; exact h.b, ⟨kvs, by rw [upd_ne (Ne.symm h.ne_fh)]; exact e1, e2⟩, ⟨l, upd_same, hl⟩⟩
theorem Dyn.putH (h : Dyn K F H d A B hs) (m : Mu F d) {kvs : List (L2.Key × V)} (hk : HasOk K F kvs d.T.n hs') : Dyn K F (upd H d.ph (.dK kvs)) d A B hs' := by
  obtain ⟨l, e3, e4⟩ := h.f
  exact ⟨same_mut h.s m.h, by rw [upd_ne (Ne.symm h.ne_ha)]; exact h.a, by rw [upd_ne (Ne.symm h.ne_hb)]; exact h.b, ⟨kvs, upd_same, hk⟩, ⟨l, by rw [upd_ne h.ne_fh]; exact e3, e4⟩⟩
end
/-- e is the int i, whatever is new -/
def Iv (X : Cx) (e : Expr) (σ : L2.St) (H : Hp) (i : Int) : Prop := ∀ H', Same H H' → ∀ Q : VK, (∀ H'', Same H' H'' → Q (.int i) H'') → We X e σ H' Q
theorem Wv.iv {X : Cx} {e : Expr} {σ : L2.St} {F H : Hp} {i : Int} (h : Wv X e σ F (.int i)) (s : Same F H) : Iv X e σ H i := fun H' s' Q q => h.int (s.trans s') q
section
variable {X : Cx} {F H : Hp} {d : Bd} {σ : L2.St} {m : Str} {Q : VK} {p apos pos : Pos} {a b e : Expr} {es : List Expr} {k j : Nat} {sp : Sp} {dvs : List V} {i l : Int} {A : List (Int × Int)}
/-- self.m(..) -/
theorem we_sm {pl : Sem Bool} (c : C8.Met X.prog X.w X.K X.mg X.base k d.C m sp dvs) (hr : Room j X.A) (st : Sta X.K F d) (hs : σ[0]? = some (some (.ref d.b))) (s : Same F H) (h : Wa X (e :: es) σ H fun vs H1 => sp (.ref d.b :: (vs ++ dvs)) H1 Q C8.E0) (hk : k ≤ j := by decide) (hl : (bfs d).lookup m = none := by rfl) (hN : X.N[0]? = some ("self" : Str) := by rfl) (hv : Vis X.env.scope "self" := by first | exact Or.inl rfl | exact Or.inr (Or.inl rfl) | exact Or.inr (Or.inr rfl))
    (hst : starEach (e :: es) X.env = (false, eval e X.env) :: starEach es X.env := by rfl) (hpl : (backTo pos (starEach es X.env)).any (·.1) = false := by rfl)
    (ht : eval (.Call (.Attribute (.Name "self" p) m apos) (e :: es) [] pos) X.env = (do
      let ov ← eval (.Name "self" p) X.env
      standAt apos.atName
      let (f, first) ← holding [ov] (getMethod ov m pl)
      callWith pos f first (backTo pos (starEach (e :: es) X.env)) (backToKw pos (keywordEach [] X.env))) := by rfl) : We X (.Call (.Attribute (.Name "self" p) m apos) (e :: es) [] pos) σ H Q :=
  we_meth (pl := pl) c hr (we_var 0 hs ⟨_, _, _, rfl, s _ _ st.ins, hl, h⟩ hN hv) hk hst hpl ht
theorem we_sm0 {pl : Sem Bool} (c : C8.Met X.prog X.w X.K X.mg X.base k d.C m sp dvs) (hr : Room j X.A) (st : Sta X.K F d) (hs : σ[0]? = some (some (.ref d.b))) (s : Same F H) (h : sp (.ref d.b :: dvs) H Q C8.E0) (hk : k ≤ j := by decide) (hl : (bfs d).lookup m = none := by rfl) (hN : X.N[0]? = some ("self" : Str) := by rfl) (hv : Vis X.env.scope "self" := by first | exact Or.inl rfl | exact Or.inr (Or.inl rfl) | exact Or.inr (Or.inr rfl))
    (ht : eval (.Call (.Attribute (.Name "self" p) m apos) [] [] pos) X.env = (do
      let ov ← eval (.Name "self" p) X.env
      standAt apos.atName
      let (f, first) ← holding [ov] (getMethod ov m pl)
      callWith pos f first (backTo pos (starEach [] X.env)) (backToKw pos (keywordEach [] X.env))) := by rfl) : We X (.Call (.Attribute (.Name "self" p) m apos) [] [] pos) σ H Q :=
  we_meth0 (pl := pl) c hr (we_var 0 hs ⟨_, _, _, rfl, s _ _ st.ins, hl, h⟩ hN hv) hk ht
theorem wa2 {Qa : List V → Hp → Prop} (ha : Iv X a σ H i) (hb : Iv X b σ H l) (q : ∀ H', Same H H' → Qa [.int i, .int l] H') (e1 : starEach [a, b] X.env = (false, eval a X.env) :: starEach [b] X.env := by rfl) (e2 : starEach [b] X.env = (false, eval b X.env) :: starEach [] X.env := by rfl) : Wa X [a, b] σ H Qa :=
  wa_cons (ha H (Same.refl _) _ fun H1 s1 => wa_cons (hb H1 s1 _ fun H2 s2 => wa_nil (q H2 (s1.trans s2))) e2) e1
theorem wt_bl {Q : Bool → Hp → Prop} (h : We X e σ H fun v H1 => ∃ k, v = .bl k ∧ Q k H1) (he : ∀ whole, isTrue e X.env whole = (do let v ← whole; standAt e.pos; holding [v] (truthy v)) := by intro _; rfl) : Wt X e σ H Q := wt_val h he
end
section
variable {P : Program} {w : World} {K : PySem.W.Frag} {mg : Str → Option Value} {base : Heap} {f : Addr} {fd : FuncData} {C : Addr}
/-! ### bind, lower -/
def hasS (A : List (Int × Int)) (i j : Int) : Bool := decide (i = j) || decide ((i, j) ∈ A)
def addS (A : List (Int × Int)) (i j : Int) : List (Int × Int) := if hasS A i j = true then A else A ++ [(i, j), (j, i)]
def add1 (A : List (Int × Int)) (i j : Int) : List (Int × Int) := if hasS A i j = true then A else A ++ [(i, j)]
def Sym (A : List (Int × Int)) : Prop := ∀ i j, (i, j) ∈ A → (j, i) ∈ A
abbrev n_B_bind : List Str := ["self", "one", "other", "source"]
theorem sc_B_bind : FnScope n_B_bind ["self", "one", "other", "source"] (C8.fnScope s_B_bind) := C8.fnScope_by (by decide +kernel)
theorem sc_B_lower : FnScope n_B_bind ["self", "one", "other", "source"] (C8.fnScope s_B_lower) := C8.fnScope_by (by decide +kernel)
def Few (K : PySem.W.Frag) (F : Hp) (v : V) : Prop := ∃ ds : List PyData, ds.length ≤ 10 ∧ (Dq K F v (.list ds) ∨ Dq K F v (.tuple ds))
def spBind (C : Addr) (K : PySem.W.Frag) : Sp := fun vs H Q _ => ∃ (F : Hp) (d : Bd) (A B : List (Int × Int)) (hs : Int → List Int) (i j : Int) (u : V), vs = [.ref d.b, .int i, .int j, u] ∧ C = d.C ∧ Sta K F d ∧ Mu F d ∧ Dyn K F H d A B hs ∧ Few K F u ∧ Sym A ∧ A.length ≤ 100 ∧ B.length ≤ 100 ∧
  ∀ F' H', Gm d.M F H F' H' → Dyn K F' H' d (addS A i j) B hs → Q (.bl (!hasS A i j)) H'
def spLower (C : Addr) (K : PySem.W.Frag) : Sp := fun vs H Q _ => ∃ (F : Hp) (d : Bd) (A B : List (Int × Int)) (hs : Int → List Int) (i j : Int) (u : V), vs = [.ref d.b, .int i, .int j, u] ∧ C = d.C ∧ Sta K F d ∧ Mu F d ∧ Dyn K F H d A B hs ∧ Few K F u ∧ A.length ≤ 100 ∧ B.length ≤ 100 ∧
  ∀ F' H', Gm d.M F H F' H' → Dyn K F' H' d A (add1 B i j) hs → Q (.bl (!hasS B i j)) H'
theorem wv_few {X : Cx} {x : Str} {σ : L2.St} {F : Hp} {u : V} {p q pos : Pos} (T : Txt X.K X.mg) (n : Nat) (h : Few X.K F u) (hs : σ[n]? = some (some u)) (hN : X.N[n]? = some x := by rfl) (hv : Vis X.env.scope x := by first | exact Or.inl rfl | exact Or.inr (Or.inl rfl) | exact Or.inr (Or.inr rfl)) (hd : (x == ("__debug__" : Str)) = false := by decide) (hcd : (x == ("__classdict__" : Str)) = false := by decide)
    (hg : Gl X "tuple" := by rfl) (he : starEach [.Name x q] X.env = (false, eval (.Name x q) X.env) :: starEach [] X.env := by rfl) (hpl : (backTo pos (starEach [] X.env)).any (·.1) = false := by rfl) : ∃ d, Wv X (.Call (.Name "tuple" p) [.Name x q] [] pos) σ F d := by
  obtain ⟨ds, _, h | h⟩ := h
  · exact ⟨_, wv_callTy call_tuple_of cd_tupleL (wv_var n hs h hN hv hd hcd) T.tuple hg (by decide +kernel) (by decide) (by decide) he hpl⟩
  · exact ⟨_, wv_callTy call_tuple_of cd_tupleT (wv_var n hs h hN hv hd hcd) T.tuple hg (by decide +kernel) (by decide) (by decide) he hpl⟩
theorem c_B_bind {dvs : List V} {ds : List Value} (T : Txt K mg) (BC : Bcls K C) (ca : C8.Met P w K mg base 1 C "is_alike" (spAlike C K) []) (me : Meth K C "bind" f) (F : C8.Fun K "bind" "Bonds.bind" s_B_bind f fd) (b : Binds K fd ["self", "one", "other", "source"] ds) (dv : Vals dvs ds) : C8.Met P w K mg base 2 C "bind" (spBind C K) dvs := by
  refine metW BC.c me F b dv sc_B_bind (fun vs H Q E ⟨G, d, A, B, hs, i, j, u, e, _⟩ => by rw [e]; rfl) fun cdv A0 outer s H vs Q E hr ⟨G, d, A, B, hs, i, j, u, e, ec, st, mu, dy, fe, sy, la, lb, q⟩ => ?_
  subst e
  subst ec
  refine wb_cons (w1_if (wt_bl (we_sm ca hr st rfl dy.s (wa2 (iv_var 1 rfl) (iv_var 2 rfl) fun H1 s1 => ⟨G, d, A, i, j, rfl, rfl, dy.s.trans s1, st, s1 _ _ dy.a, fun H2 s2 => ⟨_, rfl, ?_⟩⟩))))
  have dy2 := dy.sm (s1.trans s2)
  have g2 : Gm d.M G H G H2 := (⟨Same.refl _, dy2.s, s1.trans s2, fun _ e _ => e⟩ : Gr G H G H2).gm
  show if hasS A i j = true then _ else _
  cases e : hasS A i j with
  | true =>
    refine iteT (wb_one (w1_ret ((wv_bl (F := G)).bl dy2.s fun H3 s3 => ?_)))
    have z := q G H3 ((⟨Same.refl _, dy2.s.trans s3, (s1.trans s2).trans s3, fun _ e _ => e⟩ : Gr G H G H3).gm) (by unfold addS; rw [if_pos e]; exact dy2.sm s3)
    rw [e] at z
    exact z
  | false =>
    refine iteF (wb_nil ?_)
    have ne : i ≠ j := fun z => by
      unfold hasS at e
      rw [decide_eq_true z, Bool.true_or] at e
      cases e
    have n1 : (i, j) ∉ A := fun z => by
      unfold hasS at e
      rw [decide_eq_true z, Bool.or_true] at e
      cases e
    have n2 : (j, i) ∉ A ++ [(i, j)] := fun z => by
      rcases List.mem_append.mp z with z | z
      · exact n1 (sy _ _ z)
      · have := List.mem_singleton.mp z
        exact ne (Prod.mk.inj this).2
    have szl : ∀ l : List (Int × Int), l.length ≤ 200 → (prs l).length < sizeLine := fun l h => by
      unfold prs
      rw [List.length_map]
      exact small1000 (Nat.le_trans h (by decide))
    refine wb_cons (w1_dput hr ((wv_bl (F := G)).bl dy2.s fun H3 s3 => we_self st rfl st.cls.alike (dy2.s.trans s3) (we_key (iv_var 1 rfl) (iv_var 2 rfl) fun p H4 s4 hp => ⟨_, _, rfl, DPut.t ((dy2.sm (s3.trans s4)).a) hp (szl _ (by omega)), ?_⟩)))
    rw [putK_prs _ _ n1]
    obtain ⟨fa, ef, lf⟩ := dy2.f
    have ef5 : upd H4 d.pa (.dT (prs (A ++ [(i, j)]))) d.pf = some (.lst fa) := by rw [upd_ne dy2.ne_fa]; exact s4 _ _ (s3 _ _ ef)
    have dy4 := (dy2.sm (s3.trans s4)).putA (A' := A ++ [(i, j)]) mu (by rw [List.length_append]; omega)
    have g4 : Gm d.M G H G (upd H4 d.pa (.dT (prs (A ++ [(i, j)])))) := (g2.trans (⟨Same.refl _, (dy2.sm (s3.trans s4)).s, s3.trans s4, fun _ e _ => e⟩ : Gr G H2 G H4).gm).mut (.inl (.inl rfl)) mu.a
    generalize upd H4 d.pa (.dT (prs (A ++ [(i, j)]))) = H5 at dy4 g4 ef5
    refine wb_cons (w1_dput hr ((wv_bl (F := G)).bl dy4.s fun H6 s6 => we_self st rfl st.cls.alike (dy4.s.trans s6) (we_key (iv_var 2 rfl) (iv_var 1 rfl) fun p H7 s7 hp => ⟨_, _, rfl, DPut.t ((dy4.sm (s6.trans s7)).a) hp (szl _ (by rw [List.length_append]; show _ + 1 ≤ _; omega)), ?_⟩)))
    rw [putK_prs _ _ n2, List.append_assoc]
    have dy7 := (dy4.sm (s6.trans s7)).putA (A' := A ++ [(i, j), (j, i)]) mu (by simp)
    have g7 : Gm d.M G H G (upd H7 d.pa (.dT (prs (A ++ [(i, j), (j, i)])))) := (g4.trans (⟨Same.refl _, (dy4.sm (s6.trans s7)).s, s6.trans s7, fun _ e _ => e⟩ : Gr G H5 G H7).gm).mut (.inl (.inl rfl)) mu.a
    have ef8 : upd H7 d.pa (.dT (prs (A ++ [(i, j), (j, i)]))) d.pf = some (.lst fa) := by rw [upd_ne dy2.ne_fa]; exact s7 _ _ (s6 _ _ ef5)
    show Wb _ _ _ _ (upd H7 d.pa (.dT (prs (A ++ [(i, j), (j, i)]))))
    generalize upd H7 d.pa (.dT (prs (A ++ [(i, j), (j, i)]))) = H8 at dy7 g7 ef8
    obtain ⟨du, hu⟩ := wv_few (X := CxD P w K mg base n_B_bind "Bonds.bind" (C8.fnScope s_B_bind) f cdv A0 outer s H E) (σ := L2.start n_B_bind [.ref d.b, .int i, .int j, u]) T 3 fe rfl
    refine wb_cons (w1_append (fun H' s' Q' q' => we_self st rfl st.cls.facts (dy7.s.trans s') (q' H' (Same.refl _))) ef8 mu.f (wv_tup (wvs_cons (wv_tup (wvs_cons (wv_gstr T.ALIKE) (wvs_cons (wv_var 1 rfl (.int i)) (wvs_cons (wv_var 2 rfl (.int j)) wvs_nil)))) (wvs_cons hu wvs_nil))) dy7.s (by omega) fun v F9 H9 g9 d9 f9 e9 => ?_)
    have dy9 := (dy7.gr g9).putF (l := fa ++ [v]) (mu.gm dy7 g9.gm (M := d.M)) (by simp only [List.length_append, List.length_cons, List.length_nil]; omega)
    have g10 : Gm d.M G H F9 (upd H9 d.pf (.lst (fa ++ [v]))) := (g7.trans g9.gm).mut (.inl (.inr (.inr (.inr rfl)))) f9
    refine wb_one (w1_ret ((wv_bl (F := F9)).bl dy9.s fun H11 s11 => ?_))
    have z := q F9 H11 (g10.trans (⟨Same.refl _, dy9.s.trans s11, s11, fun _ e _ => e⟩ : Gr F9 _ F9 H11).gm) (by unfold addS; rw [if_neg (by rw [e]; exact Bool.false_ne_true)]; exact dy9.sm s11)
    rw [e] at z
    exact z
theorem c_B_lower {dvs : List V} {ds : List Value} (T : Txt K mg) (BC : Bcls K C) (cb : C8.Met P w K mg base 1 C "is_below" (spBelow C K) []) (me : Meth K C "lower" f) (F : C8.Fun K "lower" "Bonds.lower" s_B_lower f fd) (b : Binds K fd ["self", "one", "other", "source"] ds) (dv : Vals dvs ds) : C8.Met P w K mg base 2 C "lower" (spLower C K) dvs := by
  refine metW BC.c me F b dv sc_B_lower (fun vs H Q E ⟨G, d, A, B, hs, i, j, u, e, _⟩ => by rw [e]; rfl) fun cdv A0 outer s H vs Q E hr ⟨G, d, A, B, hs, i, j, u, e, ec, st, mu, dy, fe, la, lb, q⟩ => ?_
  subst e
  subst ec
  have key : ∀ H2, Same H H2 → hasS B i j = true → Q (.bl false) H2 := fun H2 s2 e => by
    have z := q G H2 ((⟨Same.refl _, dy.s.trans s2, s2, fun _ e _ => e⟩ : Gr G H G H2).gm) (by unfold add1; rw [if_pos e]; exact dy.sm s2)
    rw [e] at z
    exact z
  refine wb_cons (w1_if (wt_or2 ((wq_eqI (wv_var 1 rfl (.int i)) (wv_var 2 rfl (.int j))).go dy.s fun H0 s0 => ?_)))
  cases e0 : decide (i = j) with
  | true => exact iteT (iteT (wb_one (w1_ret ((wv_bl (F := G)).bl (dy.s.trans s0) fun H3 s3 => key H3 (s0.trans s3) (by unfold hasS; rw [e0]; rfl)))))
  | false =>
  refine iteF (wt_bl (we_sm cb hr st rfl (dy.s.trans s0) (wa2 (iv_var 1 rfl) (iv_var 2 rfl) fun H1 s1 => ⟨G, d, B, i, j, rfl, rfl, dy.s.trans (s0.trans s1), st, s1 _ _ (s0 _ _ dy.b), fun H2 s2 => ⟨_, rfl, ?_⟩⟩)))
  have ss : Same H H2 := s0.trans (s1.trans s2)
  have dy2 := dy.sm ss
  have g2 : Gm d.M G H G H2 := (⟨Same.refl _, dy2.s, ss, fun _ e _ => e⟩ : Gr G H G H2).gm
  cases e1 : decide ((i, j) ∈ B) with
  | true => exact iteT (wb_one (w1_ret ((wv_bl (F := G)).bl dy2.s fun H3 s3 => key H3 (ss.trans s3) (by unfold hasS; rw [e1, Bool.or_true]))))
  | false =>
    refine iteF (wb_nil ?_)
    have e : hasS B i j = false := by
      unfold hasS
      rw [e0, e1]
      rfl
    have n1 : (i, j) ∉ B := of_decide_eq_false e1
    have szl : ∀ l : List (Int × Int), l.length ≤ 200 → (prs l).length < sizeLine := fun l h => by
      unfold prs
      rw [List.length_map]
      exact small1000 (Nat.le_trans h (by decide))
    refine wb_cons (w1_dput hr ((wv_bl (F := G)).bl dy2.s fun H3 s3 => we_self st rfl st.cls.below (dy2.s.trans s3) (we_key (iv_var 1 rfl) (iv_var 2 rfl) fun p H4 s4 hp => ⟨_, _, rfl, DPut.t ((dy2.sm (s3.trans s4)).b) hp (szl _ (by omega)), ?_⟩)))
    rw [putK_prs _ _ n1]
    obtain ⟨fa, ef, lf⟩ := dy2.f
    have ef5 : upd H4 d.pb (.dT (prs (B ++ [(i, j)]))) d.pf = some (.lst fa) := by rw [upd_ne dy2.ne_fb]; exact s4 _ _ (s3 _ _ ef)
    have dy4 := (dy2.sm (s3.trans s4)).putB (B' := B ++ [(i, j)]) mu (by rw [List.length_append]; omega)
    have g4 : Gm d.M G H G (upd H4 d.pb (.dT (prs (B ++ [(i, j)])))) := (g2.trans (⟨Same.refl _, (dy2.sm (s3.trans s4)).s, s3.trans s4, fun _ e _ => e⟩ : Gr G H2 G H4).gm).mut (.inl (.inr (.inl rfl))) mu.b
    generalize upd H4 d.pb (.dT (prs (B ++ [(i, j)]))) = H5 at dy4 g4 ef5
    obtain ⟨du, hu⟩ := wv_few (X := CxD P w K mg base n_B_bind "Bonds.lower" (C8.fnScope s_B_lower) f cdv A0 outer s H E) (σ := L2.start n_B_bind [.ref d.b, .int i, .int j, u]) T 3 fe rfl
    refine wb_cons (w1_append (fun H' s' Q' q' => we_self st rfl st.cls.facts (dy4.s.trans s') (q' H' (Same.refl _))) ef5 mu.f (wv_tup (wvs_cons (wv_tup (wvs_cons (wv_gstr T.BEGINS) (wvs_cons (wv_var 1 rfl (.int i)) (wvs_cons (wv_var 2 rfl (.int j)) wvs_nil)))) (wvs_cons hu wvs_nil))) dy4.s (by omega) fun v F9 H9 g9 d9 f9 e9 => ?_)
    have dy9 := (dy4.gr g9).putF (l := fa ++ [v]) (mu.gm dy4 g9.gm (M := d.M)) (by simp only [List.length_append, List.length_cons, List.length_nil]; omega)
    have g10 : Gm d.M G H F9 (upd H9 d.pf (.lst (fa ++ [v]))) := (g4.trans g9.gm).mut (.inl (.inr (.inr (.inr rfl)))) f9
    refine wb_one (w1_ret ((wv_bl (F := F9)).bl dy9.s fun H11 s11 => ?_))
    have z := q F9 H11 (g10.trans (⟨Same.refl _, dy9.s.trans s11, s11, fun _ e _ => e⟩ : Gr F9 _ F9 H11).gm) (by unfold add1; rw [if_neg (by rw [e]; exact Bool.false_ne_true)]; exact dy9.sm s11)
    rw [e] at z
    exact z
end
end K29
set_option Elab.async false
set_option linter.all false
set_option maxRecDepth 100000
set_option maxHeartbeats 4000000
namespace K29
open PySem PySem.Spec PyProof.Rows L2
section
variable {X : Cx} {σ : L2.St} {H : Hp} {D : Ends} {a b : Expr} {x y : Str} {pos px py pt pt2 : Pos} {kt k2 : Nat}
/-- a, b = x, y -/
theorem w1_par (i j : Nat) (nd : X.N.Nodup) (h : Wa X [a, b] σ H fun vs H1 => ∃ v w, vs = [v, w] ∧ D.nx ((σ.set i (some v)).set j (some w)) H1) (hi : X.N[i]? = some x := by rfl) (hj : X.N[j]? = some y := by rfl) (hij : i ≠ j := by decide) (hx : X.env.scope.names.lookup x = some .local := by rfl) (hy : X.env.scope.names.lookup y = some .local := by rfl) (hc : X.calm = true := by rfl)
    (hw : swappedStores [.Tuple [.Name x px, .Name y py] kt pt] (.Tuple [a, b] k2 pt2) X.env = pure (some [x, y]) := by rfl) (hs : swapsWithSole [.Tuple [.Name x px, .Name y py] kt pt] (.Tuple [a, b] k2 pt2) pos.line X.env = pure false := by rfl) : W1 X (.Assign [.Tuple [.Name x px, .Name y py] kt pt] (.Tuple [a, b] k2 pt2) pos) D σ H := w1_of (ps_par hc nd hi hj hij hx hy wa_pa hw hs) h
end
/-! ### is_late -/
def lookAt (T : Tab) (i : Int) : Int × Int := (looksOf T).getD i.toNat (0, 0)
def lateM (T : Tab) (i j : Int) : Bool := (addsOf T).any fun q => (decide ((lookAt T i).1 < q.1) && decide (q.1 < (lookAt T j).1)) && decide (q.2 = (lookAt T j).2)
theorem lookAt_at {T : Tab} {i : Int} (h0 : 0 ≤ i) (h1 : i < (looksOf T).length) : L2.atI ((looksOf T).map prD) i = some (prD (lookAt T i)) := by
  obtain ⟨k, rfl⟩ := Int.eq_ofNat_of_zero_le h0
  refine atI_nat ?_
  have hk : k < (looksOf T).length := by omega
  unfold lookAt
  show (List.map prD (looksOf T))[k]? = some (prD ((looksOf T).getD k (0, 0)))
  rw [List.getElem?_map, List.getElem?_eq_getElem hk, List.getD_eq_getElem?_getD, List.getElem?_eq_getElem hk]
  rfl
section
variable {P : Program} {w : World} {K : PySem.W.Frag} {mg : Str → Option Value} {base : Heap} {f : Addr} {fd : FuncData} {C : Addr}
abbrev n_B_is_late : List Str := ["self", "one", "other", "begin", "end", "person", "place", "adder"]
theorem sc_B_is_late : FnScope n_B_is_late ["self", "one", "other"] (C8.fnScope s_B_is_late) := C8.fnScope_by (by decide +kernel)
def spLate (C : Addr) (K : PySem.W.Frag) : Sp := fun vs H Q _ => ∃ (F : Hp) (d : Bd) (i j : Int), vs = [.ref d.b, .int i, .int j] ∧ C = d.C ∧ Same F H ∧ Sta K F d ∧ (0 ≤ i ∧ i < nL d) ∧ (0 ≤ j ∧ j < nL d) ∧ ∀ F' H', Gr F H F' H' → Q (.bl (lateM d.T i j)) H'
theorem evsOf_len (T : Tab) (z : Str) : (evsOf T z).length ≤ T.evs.length := by
  unfold evsOf
  rw [List.length_map]
  have := List.length_filter_le (fun q => decide (q.2.word = z)) (idxd T.evs)
  rw [idxd_len] at this
  exact this
theorem c_B_is_late (T : Txt K mg) (BC : Bcls K C) (me : Meth K C "is_late" f) (F : C8.Fun K "is_late" "Bonds.is_late" s_B_is_late f fd) (b : Binds K fd ["self", "one", "other"] []) : C8.Met P w K mg base 1 C "is_late" (spLate C K) [] := by
  refine metW BC.c me F b .nil sc_B_is_late (fun vs H Q E ⟨G, d, i, j, e, _⟩ => by rw [e]; rfl) fun cdv A0 outer s H vs Q E hr ⟨G, d, i, j, e, ec, s0, st, hi, hj, q⟩ => ?_
  subst e
  subst ec
  refine wb_cons (w1_asg (Wv.go (wv_tup (wvs_cons (wv_ixT (d := .int (lookAt d.T i).1) (wv_ixL (wv_self st rfl st.cls.looks rfl st.lk) (wv_var 1 rfl (.int i)) (lookAt_at hi.1 hi.2)) wv_int (atI_nat (j := 0) rfl)) (wvs_cons (wv_ixL (wv_self st rfl st.cls.looks rfl st.lk) (wv_var 2 rfl (.int j)) (lookAt_at hj.1 hj.2)) wvs_nil))) s0 fun v F1 H1 g1 d1 => ?_))
  refine wg_pair d1 g1.fh fun v1 v2 h1 h2 => wgs_cons (wg_name 3 sc_B_is_late.nd (wgs_cons (wg_pair h2 g1.fh fun v3 v4 h3 h4 => wgs_cons (wg_name 4 sc_B_is_late.nd (wgs_cons (wg_name 5 sc_B_is_late.nd (wgs_nil (wgs_nil ?_))))))))
  rw [h1.int_inv, h3.int_inv, h4.int_inv]
  refine wb_one (w1_ret (Wv.go (d := .bool (lateM d.T i j)) (Wv.to (wv_callB (d := .bool (((addsOf d.T).map fun q => (decide ((lookAt d.T i).1 < q.1) && decide (q.1 < (lookAt d.T j).1)) && decide (q.2 = (lookAt d.T j).2)).any id)) (cr_any rfl) cd_any (wv_lc sc_B_is_late.nd (blkOk_by (own := [("place", 6), ("adder", 7)]) (N := n_B_is_late) (sc := C8.fnScope s_B_is_late) (by decide +kernel)) ?_ |>.to (by rw [List.map_map])) T.any) (by rw [List.any_map]; rfl)) g1.fh fun v F2 H2 g2 d2 => ?_))
  · refine lcv_p0 (xs := addsOf d.T) (e1 := fun x => .int x.1) (e2 := fun x => .int x.2) 6 7 (fun q => .bool ((decide ((lookAt d.T i).1 < q.1) && decide (q.1 < (lookAt d.T j).1)) && decide (q.2 = (lookAt d.T j).2))) (wsrc_list (wv_self (st.mono g1.ff) rfl st.cls.adds rfl (st.ad.mono g1.ff))) ?_ ?_ (fun _ _ => rfl) ?_
    · exact Nat.le_trans (evsOf_len _ _) (Nat.le_trans st.few (by decide))
    · exact fun _ _ _ _ _ => pg_tup rfl (pgs_cons (pg_name (i := 6) sc_B_is_late.nd rfl (Or.inl rfl)) (pgs_cons (pg_name (i := 7) sc_B_is_late.nd rfl (Or.inl rfl)) pgs_nil))
    · exact fun x _ F3 v u sF h1 h2 _ _ _ _ _ => wv_and2 (wv_ltLt (wv_var 3 rfl (.int _)) (wv_var 6 rfl h1) (wv_var 4 rfl (.int _))) fun _ => wv_eqI (wv_var 7 rfl h2) (wv_var 5 rfl (.int _))
  · rw [d2.bl_inv]
    exact q F2 H2 (g1.trans g2)
end
end K29
set_option Elab.async false
set_option linter.all false
set_option maxRecDepth 100000
set_option maxHeartbeats 4000000
namespace K29
open PySem PySem.Spec PyProof.Rows L2
/-! ### lists of few -/
theorem nat_few : ∀ (n : Nat) (l : List Nat), l.Nodup → (∀ x ∈ l, x < n) → l.length ≤ n
  | 0, [], _, _ => Nat.le_refl _
  | 0, x :: _, _, h => absurd (h x (List.mem_cons_self ..)) (Nat.not_lt_zero _)
  | n + 1, l, nd, h => by
    have e := nat_few n (l.erase n) (nd.erase n) fun x hx => by
      have h1 := h x (List.mem_of_mem_erase hx)
      have h2 : x ≠ n := fun z => by
        rw [z] at hx
        exact (nd.not_mem_erase) hx
      omega
    have := List.length_erase (a := n) (l := l)
    split at this <;> omega
theorem nodup_on {α β : Type} {f : α → β} {l : List α} (h : l.Nodup) (inj : ∀ x ∈ l, ∀ y ∈ l, f x = f y → x = y) : (l.map f).Nodup := List.pairwise_map.mpr (List.Pairwise.imp_of_mem (fun {x y} hx hy hne e => hne (inj x hx y hy e)) h)
theorem okPairs.len {n : Int} {A : List (Int × Int)} (h : okPairs n A) (hn : n ≤ 8) : A.length ≤ 64 := by
  have e := nat_few 64 (A.map fun p => (8 * p.1 + p.2).toNat) (nodup_on h.1 fun p hp q hq z => by
    obtain ⟨⟨h1, h2⟩, h3, h4⟩ := h.2 p hp
    obtain ⟨⟨h5, h6⟩, h7, h8⟩ := h.2 q hq
    obtain ⟨a, b⟩ := p
    obtain ⟨c, d⟩ := q
    simp only at *
    have : a = c := by omega
    have : b = d := by omega
    subst_vars
    rfl) (fun x hx => by
    obtain ⟨p, hp, rfl⟩ := List.mem_map.mp hx
    obtain ⟨⟨h1, h2⟩, h3, h4⟩ := h.2 p hp
    omega)
  rw [List.length_map] at e
  exact e
def Asc (n : Int) (l : List Int) : Prop := l.Pairwise (· < ·) ∧ ∀ x ∈ l, 0 ≤ x ∧ x < n
theorem asc_nodup {l : List Int} (h : l.Pairwise (· < ·)) : l.Nodup := h.imp fun h e => by omega
theorem Asc.len {n : Int} {l : List Int} (h : Asc n l) (hn : n ≤ 8) : l.length ≤ 8 := by
  have e := nat_few 8 (l.map Int.toNat) (nodup_on (asc_nodup h.1) fun p hp q hq z => by
    have := h.2 p hp
    have := h.2 q hq
    omega) (fun x hx => by
    obtain ⟨p, hp, rfl⟩ := List.mem_map.mp hx
    have := h.2 p hp
    omega)
  rw [List.length_map] at e
  exact e
/-! ### sorted, without repeats -/
def insS (x : Int) : List Int → List Int
  | [] => [x]
  | y :: r => if x < y then x :: y :: r else if x = y then y :: r else y :: insS x r
def srtM : List Int → List Int
  | [] => []
  | x :: r => insS x (srtM r)
theorem mem_insS {x z : Int} : ∀ {l : List Int}, z ∈ insS x l ↔ z = x ∨ z ∈ l
  | [] => by simp [insS]
  | y :: r => by
    unfold insS
    split
    · simp
    · split
      · rename_i h
        subst h
        simp
      · have ih := mem_insS (x := x) (z := z) (l := r)
        simp only [List.mem_cons, ih]
        exact ⟨fun h => h.elim (fun e => .inr (.inl e)) fun h => h.elim .inl fun m => .inr (.inr m), fun h => h.elim (fun e => .inr (.inl e)) fun h => h.elim .inl fun m => .inr (.inr m)⟩
theorem mem_srtM {z : Int} : ∀ {l : List Int}, z ∈ srtM l ↔ z ∈ l
  | [] => Iff.rfl
  | y :: r => by
    unfold srtM
    rw [mem_insS, List.mem_cons, mem_srtM (l := r)]
theorem insS_asc {x : Int} : ∀ {l : List Int}, l.Pairwise (· < ·) → (insS x l).Pairwise (· < ·)
  | [], _ => by simp [insS]
  | y :: r, h => by
    obtain ⟨h1, h2⟩ := List.pairwise_cons.mp h
    unfold insS
    split
    · rename_i hxy
      exact List.pairwise_cons.mpr ⟨fun z hz => (List.mem_cons.mp hz).elim (fun e => by omega) fun m => by have := h1 z m; omega, h⟩
    · split
      · exact h
      · exact List.pairwise_cons.mpr ⟨fun z hz => (mem_insS.mp hz).elim (fun e => by omega) fun m => h1 z m, insS_asc h2⟩
theorem srtM_asc : ∀ l : List Int, (srtM l).Pairwise (· < ·)
  | [] => List.Pairwise.nil
  | _ :: r => insS_asc (srtM_asc r)
theorem asc_unique : ∀ {l m : List Int}, l.Pairwise (· < ·) → m.Pairwise (· < ·) → (∀ k, k ∈ l ↔ k ∈ m) → l = m
  | [], [], _, _, _ => rfl
  | [], y :: _, _, _, h => absurd ((h y).mpr (List.mem_cons_self ..)) (by simp)
  | x :: _, [], _, _, h => absurd ((h x).mp (List.mem_cons_self ..)) (by simp)
  | x :: l, y :: m, hl, hm, h => by
    obtain ⟨l1, l2⟩ := List.pairwise_cons.mp hl
    obtain ⟨m1, m2⟩ := List.pairwise_cons.mp hm
    have e : x = y := by
      rcases List.mem_cons.mp ((h x).mp (List.mem_cons_self ..)) with e | hx
      · exact e
      · rcases List.mem_cons.mp ((h y).mpr (List.mem_cons_self ..)) with e | hy
        · exact e.symm
        · have := m1 x hx
          have := l1 y hy
          omega
    subst e
    rw [asc_unique l2 m2 fun k => ⟨fun hk => ?_, fun hk => ?_⟩]
    · rcases List.mem_cons.mp ((h k).mp (List.mem_cons_of_mem _ hk)) with e | z
      · have := l1 k hk
        omega
      · exact z
    · rcases List.mem_cons.mp ((h k).mpr (List.mem_cons_of_mem _ hk)) with e | z
      · have := m1 k hk
        omega
      · exact z
theorem IsSrt.eq {ns ms : List Int} (h : IsSrt ns ms) : ms = srtM ns := asc_unique h.1 (srtM_asc ns) fun k => (h.2 k).trans mem_srtM.symm
/-! ### what go_through makes -/
structure GS where
  A : List (Int × Int)
  B : List (Int × Int)
  hs : Int → List Int
  nr : Int
def updF (hs : Int → List Int) (p : Int) (l : List Int) : Int → List Int := fun q => if q = p then l else hs q
def lookedM (g : GS) (p : Int) : GS := ⟨g.A, (g.hs p).foldl (fun B o => add1 B o g.nr) g.B, updF g.hs p (g.hs p ++ [g.nr]), g.nr⟩
def last1 (l : List Int) : List Int := cut l (some (-1)) none
def bindAll (A : List (Int × Int)) (xs ys : List Int) : List (Int × Int) := xs.foldl (fun A x => ys.foldl (fun A y => addS A x y) A) A
def bindBoth (A : List (Int × Int)) (both : List Int) : List (Int × Int) := (idxd both).foldl (fun A q => (both.drop (q.1.toNat + 1)).foldl (fun A y => addS A q.2 y) A) A
def comparedM (kind : Str) (g : GS) (meet : Bool) (p q : Int) : GS :=
  if kind = "long" then
    ⟨bindBoth g.A (srtM (g.hs p ++ g.hs q)), g.B, if meet = true then updF (updF g.hs q (srtM (g.hs p ++ g.hs q))) p (srtM (g.hs p ++ g.hs q)) else updF g.hs q (srtM (g.hs p ++ g.hs q)), g.nr⟩
  else ⟨bindAll g.A (last1 (g.hs p)) (last1 (g.hs q)), g.B, g.hs, g.nr⟩
def stepM (kind : Str) (gone : List Int) (g : GS) (x : Int × Ev) : GS :=
  let g1 := if x.1 ∈ gone then g else match x.2 with
    | .look p => lookedM g p
    | .add _ => g
    | .meet p q => comparedM kind g true p q
    | .tell p q => comparedM kind g false p q
  ⟨g1.A, g1.B, g1.hs, if x.2.word = "look" then g.nr + 1 else g.nr⟩
/-- what stays true -/
structure GOk (n : Int) (g : GS) : Prop where
  a : okPairs n g.A
  b : okPairs n g.B
  sy : Sym g.A
  h : ∀ p, Asc g.nr (g.hs p)
  nr : 0 ≤ g.nr ∧ g.nr ≤ n
section
variable {n i j : Int} {A : List (Int × Int)}
theorem mem_addS {A : List (Int × Int)} {i j : Int} {p : Int × Int} : p ∈ addS A i j ↔ p ∈ A ∨ (i ≠ j ∧ (i, j) ∉ A ∧ (p = (i, j) ∨ p = (j, i))) := by
  unfold addS hasS
  by_cases e : i = j
  · rw [decide_eq_true e, Bool.true_or, if_pos rfl]
    exact ⟨.inl, fun h => h.elim id fun z => absurd e z.1⟩
  · by_cases m : (i, j) ∈ A
    · rw [decide_eq_true m, Bool.or_true, if_pos rfl]
      exact ⟨.inl, fun h => h.elim id fun z => absurd m z.2.1⟩
    · rw [decide_eq_false e, decide_eq_false m, Bool.false_or, if_neg Bool.false_ne_true]
      simp only [List.mem_append, List.mem_cons, List.not_mem_nil, or_false]
      exact ⟨fun h => h.imp id fun z => ⟨e, m, z⟩, fun h => h.imp id fun z => z.2.2⟩
theorem mem_add1 {A : List (Int × Int)} {i j : Int} {p : Int × Int} : p ∈ add1 A i j ↔ p ∈ A ∨ (i ≠ j ∧ (i, j) ∉ A ∧ p = (i, j)) := by
  unfold add1 hasS
  by_cases e : i = j
  · rw [decide_eq_true e, Bool.true_or, if_pos rfl]
    exact ⟨.inl, fun h => h.elim id fun z => absurd e z.1⟩
  · by_cases m : (i, j) ∈ A
    · rw [decide_eq_true m, Bool.or_true, if_pos rfl]
      exact ⟨.inl, fun h => h.elim id fun z => absurd m z.2.1⟩
    · rw [decide_eq_false e, decide_eq_false m, Bool.false_or, if_neg Bool.false_ne_true]
      simp only [List.mem_append, List.mem_singleton]
      exact ⟨fun h => h.imp id fun z => ⟨e, m, z⟩, fun h => h.imp id fun z => z.2.2⟩
theorem Sym.addS {A : List (Int × Int)} {i j : Int} (h : Sym A) : Sym (addS A i j) := fun x y hm => by
  rcases mem_addS.mp hm with hm | ⟨e, m, z⟩
  · exact mem_addS.mpr (.inl (h _ _ hm))
  · refine mem_addS.mpr (.inr ⟨e, m, ?_⟩)
    rcases z with z | z
    · obtain ⟨rfl, rfl⟩ := Prod.mk.inj z
      exact .inr rfl
    · obtain ⟨rfl, rfl⟩ := Prod.mk.inj z
      exact .inl rfl
theorem okPairs.addS {A : List (Int × Int)} {i j : Int} (h : okPairs n A) (s : Sym A) (hi : 0 ≤ i ∧ i < n) (hj : 0 ≤ j ∧ j < n) : okPairs n (addS A i j) := by
  refine ⟨?_, fun p hp => ?_⟩
  · unfold K29.addS hasS
    by_cases e : i = j
    · rw [decide_eq_true e, Bool.true_or, if_pos rfl]
      exact h.1
    · by_cases m : (i, j) ∈ A
      · rw [decide_eq_true m, Bool.or_true, if_pos rfl]
        exact h.1
      · rw [decide_eq_false e, decide_eq_false m, Bool.false_or, if_neg Bool.false_ne_true]
        refine List.nodup_append.mpr ⟨h.1, ?_, fun x hx y hy z => ?_⟩
        · simp only [List.nodup_cons, List.mem_singleton, List.not_mem_nil, not_false_eq_true, List.nodup_nil, and_true]
          exact fun z => e (Prod.mk.inj z).1
        · subst z
          simp only [List.mem_cons, List.not_mem_nil, or_false] at hy
          rcases hy with rfl | rfl
          · exact m hx
          · exact m (s _ _ hx)
  · rcases mem_addS.mp hp with hp | ⟨_, _, rfl | rfl⟩
    · exact h.2 p hp
    · exact ⟨hi, hj⟩
    · exact ⟨hj, hi⟩
theorem okPairs.add1 {A : List (Int × Int)} {i j : Int} (h : okPairs n A) (hi : 0 ≤ i ∧ i < n) (hj : 0 ≤ j ∧ j < n) : okPairs n (add1 A i j) := by
  refine ⟨?_, fun p hp => ?_⟩
  · unfold K29.add1 hasS
    by_cases e : i = j
    · rw [decide_eq_true e, Bool.true_or, if_pos rfl]
      exact h.1
    · by_cases m : (i, j) ∈ A
      · rw [decide_eq_true m, Bool.or_true, if_pos rfl]
        exact h.1
      · rw [decide_eq_false e, decide_eq_false m, Bool.false_or, if_neg Bool.false_ne_true]
        refine List.nodup_append.mpr ⟨h.1, by simp, fun x hx y hy z => ?_⟩
        subst z
        rw [List.mem_singleton.mp hy] at hx
        exact m hx
  · rcases mem_add1.mp hp with hp | ⟨_, _, rfl⟩
    · exact h.2 p hp
    · exact ⟨hi, hj⟩
theorem foldS_ok {i : Int} (hi : 0 ≤ i ∧ i < n) : ∀ (ys : List Int) (A : List (Int × Int)), (∀ y ∈ ys, 0 ≤ y ∧ y < n) → okPairs n A → Sym A → okPairs n (ys.foldl (fun A y => addS A i y) A) ∧ Sym (ys.foldl (fun A y => addS A i y) A)
  | [], _, _, h, s => ⟨h, s⟩
  | y :: ys, A, hy, h, s => foldS_ok hi ys _ (fun z hz => hy z (List.mem_cons_of_mem _ hz)) (h.addS s hi (hy y (List.mem_cons_self ..))) s.addS
theorem fold1_ok {j : Int} (hj : 0 ≤ j ∧ j < n) : ∀ (ys : List Int) (A : List (Int × Int)), (∀ y ∈ ys, 0 ≤ y ∧ y < n) → okPairs n A → okPairs n (ys.foldl (fun A y => add1 A y j) A)
  | [], _, _, h => h
  | y :: ys, A, hy, h => fold1_ok hj ys _ (fun z hz => hy z (List.mem_cons_of_mem _ hz)) (h.add1 (hy y (List.mem_cons_self ..)) hj)
theorem bindAll_ok {ys : List Int} (hy : ∀ y ∈ ys, 0 ≤ y ∧ y < n) : ∀ (xs : List Int) (A : List (Int × Int)), (∀ y ∈ xs, 0 ≤ y ∧ y < n) → okPairs n A → Sym A → okPairs n (bindAll A xs ys) ∧ Sym (bindAll A xs ys)
  | [], _, _, h, s => ⟨h, s⟩
  | x :: xs, A, hx, h, s => by
    obtain ⟨h1, h2⟩ := foldS_ok (hx x (List.mem_cons_self ..)) ys A hy h s
    exact bindAll_ok hy xs _ (fun z hz => hx z (List.mem_cons_of_mem _ hz)) h1 h2
theorem bindB_ok {both : List Int} (hb : ∀ y ∈ both, 0 ≤ y ∧ y < n) : ∀ (qs : List (Int × Int)) (A : List (Int × Int)), (∀ q ∈ qs, 0 ≤ q.2 ∧ q.2 < n) → okPairs n A → Sym A → okPairs n (qs.foldl (fun A q => (both.drop (q.1.toNat + 1)).foldl (fun A y => addS A q.2 y) A) A) ∧ Sym (qs.foldl (fun A q => (both.drop (q.1.toNat + 1)).foldl (fun A y => addS A q.2 y) A) A)
  | [], _, _, h, s => ⟨h, s⟩
  | q :: qs, A, hx, h, s => by
    obtain ⟨h1, h2⟩ := foldS_ok (hx q (List.mem_cons_self ..)) (both.drop (q.1.toNat + 1)) A (fun y hy => hb y (List.mem_of_mem_drop hy)) h s
    exact bindB_ok hb qs _ (fun z hz => hx z (List.mem_cons_of_mem _ hz)) h1 h2
theorem idxd_snd {α : Type} {l : List α} {q : Int × α} (h : q ∈ idxd l) : q.2 ∈ l := by
  obtain ⟨k, _, e⟩ := idxd_mem h
  exact List.mem_of_getElem? e
theorem mem_cut {α : Type} {l : List α} {u v : Option Int} {x : α} (h : x ∈ cut l u v) : x ∈ l := by
  unfold cut at h
  exact List.mem_of_mem_drop (List.mem_of_mem_take h)
end
section
variable {n : Int} {g : GS}
theorem GOk.rng (h : GOk n g) {p x : Int} (hx : x ∈ g.hs p) : 0 ≤ x ∧ x < n := by
  have := (h.h p).2 x hx
  have := h.nr
  omega
theorem GOk.looked (h : GOk n g) (hn : g.nr < n) (p : Int) : okPairs n (lookedM g p).B ∧ ∀ q, Asc (g.nr + 1) ((lookedM g p).hs q) := by
  refine ⟨fold1_ok ⟨h.nr.1, hn⟩ _ _ (fun y hy => h.rng hy) h.b, fun q => ?_⟩
  show Asc _ (updF g.hs p (g.hs p ++ [g.nr]) q)
  unfold updF
  by_cases e : q = p
  · rw [if_pos e]
    refine ⟨List.pairwise_append.mpr ⟨(h.h p).1, List.pairwise_singleton _ _, fun x hx y hy => ?_⟩, fun x hx => ?_⟩
    · rw [List.mem_singleton.mp hy]
      exact ((h.h p).2 x hx).2
    · have := h.nr
      rcases List.mem_append.mp hx with hx | hx
      · have := (h.h p).2 x hx
        omega
      · rw [List.mem_singleton.mp hx]
        omega
  · rw [if_neg e]
    exact ⟨(h.h q).1, fun x hx => by have := (h.h q).2 x hx; omega⟩
theorem srt_asc (h : GOk n g) (p q : Int) : Asc g.nr (srtM (g.hs p ++ g.hs q)) := ⟨srtM_asc _, fun x hx => (List.mem_append.mp (mem_srtM.mp hx)).elim ((h.h p).2 x) ((h.h q).2 x)⟩
theorem GOk.compared (h : GOk n g) (kind : Str) (meet : Bool) (p q : Int) : GOk n (comparedM kind g meet p q) := by
  have ub : ∀ r, Asc g.nr (updF g.hs q (srtM (g.hs p ++ g.hs q)) r) := fun r => by
    unfold updF
    split
    · exact srt_asc h p q
    · exact h.h r
  unfold comparedM
  split
  · obtain ⟨h1, h2⟩ := bindB_ok (n := n) (both := srtM (g.hs p ++ g.hs q)) (fun y hy => by have := (srt_asc h p q).2 y hy; have := h.nr; omega) (idxd (srtM (g.hs p ++ g.hs q))) g.A (fun x hx => by have := (srt_asc h p q).2 _ (idxd_snd hx); have := h.nr; omega) h.a h.sy
    refine ⟨h1, h.b, h2, fun r => ?_, h.nr⟩
    show Asc g.nr ((if meet = true then updF (updF g.hs q (srtM (g.hs p ++ g.hs q))) p (srtM (g.hs p ++ g.hs q)) else updF g.hs q (srtM (g.hs p ++ g.hs q))) r)
    split
    · show Asc g.nr (if r = p then _ else _)
      split
      · exact srt_asc h p q
      · exact ub r
    · exact ub r
  · obtain ⟨h1, h2⟩ := bindAll_ok (n := n) (ys := last1 (g.hs q)) (fun y hy => h.rng (mem_cut hy)) (last1 (g.hs p)) g.A (fun y hy => h.rng (mem_cut hy)) h.a h.sy
    exact ⟨h1, h.b, h2, h.h, h.nr⟩
theorem comparedM_nr (kind : Str) (g : GS) (meet : Bool) (p q : Int) : (comparedM kind g meet p q).nr = g.nr := by
  unfold comparedM
  split <;> rfl
end
end K29
set_option Elab.async false
set_option linter.all false
set_option maxRecDepth 100000
set_option maxHeartbeats 4000000
namespace K29
open PySem PySem.Spec PyProof.Rows L2
section
variable {X : Cx} {tg it a b e : Expr} {σ : L2.St} {F H : Hp} {d da db : PyData} {ds es : List PyData} {D : Ends} {pos p2 : Pos} {i : Int} {j : Nat} {Q : VK}
/-- the value at this heap -/
def Wh (X : Cx) (e : Expr) (σ : L2.St) (F H : Hp) (d : PyData) : Prop := ∀ Q : VK, (∀ v F' H', Gr F H F' H' → Dq X.K F' v d → Q v H') → We X e σ H Q
theorem Wv.wh (h : Wv X e σ F d) (s : Same F H) : Wh X e σ F H d := fun Q q => h H s Q q
def WsrcH (X : Cx) (tg it : Expr) (σ : L2.St) (F H : Hp) (ds : List PyData) : Prop := ∀ R : It → Hp → Prop, (∀ J F' H', Gr F H F' H' → Src X.K J F' ds → R J H') → Wi X tg it σ H R
theorem Wsrc.at_ (h : Wsrc X tg it σ F ds) (s : Same F H) : WsrcH X tg it σ F H ds := fun R q => h H s R q
theorem wsrcH_list (h : Wh X it σ F H (.list ds)) : WsrcH X tg it σ F H ds := fun R k => wi_of (pi_list we_pe) (h _ fun v F1 H1 g hd => by
  obtain ⟨l, xs, rfl, e1, e2⟩ := hd.lst_inv
  exact ⟨l, rfl, ⟨xs, SqL.of (g.fh _ _ e1)⟩, k _ F1 H1 g (src_list e1 e2)⟩)
theorem w1_forH {body : List Stmt} (Pv : Hp → Nat → L2.St → Hp → Prop) (hsrc : WsrcH X tg it σ F H ds) (h0 : ∀ F1 H1, Gr F H F1 H1 → Pv F1 0 σ H1) (hG : ∀ F1 i σ' H', Pv F1 i σ' H' → Same F1 H')
    (hs : ∀ F1 i d v σ' H1 H2, ds[i]? = some d → Pv F1 i σ' H1 → (∀ F2, Same F1 F2 → Same F2 H1 → ∃ F3, Gr F2 H1 F3 H2 ∧ Dq X.K F3 v d) → Wg X tg v σ' H2 fun σ2 H3 => Wb X body { D with nx := Pv F1 (i + 1), ct := Pv F1 (i + 1), bk := D.nx } σ2 H3)
    (hd : ∀ F1 σ' H', Pv F1 ds.length σ' H' → D.nx σ' H') (hx : X.xe = fun _ _ => False := by rfl) (hc : X.calm = true := by rfl) (hf : ∀ x, foldedSetIterable it X.env x = pure x := by intro _; rfl) : W1 X (.For tg it body [] pos) D σ H :=
  w1_for (hsrc _ fun J F1 H1 g hJ => for_it hJ (Pv F1) (h0 F1 H1 g) (fun i σ' H' _ p => hG F1 i σ' H' p) (fun i v σ' H' H2 hi p y => by
    have ed : ds[i]? = some ds[i] := List.getElem?_eq_getElem hi
    exact hs F1 i _ v σ' H' H2 ed p fun F2 s1 s2 => by
      obtain ⟨d', F3, e', g', dv⟩ := y F2 s1 s2
      rw [ed] at e'
      cases e'
      exact ⟨F3, g', dv⟩) (hd F1)) hx hc hf
theorem RD.runH {r : R2} (k : RD X r F da db d) (ha : Wh X a σ F H da) (hb : Wv X b σ F db) (q : ∀ z F' H', Gr F H F' H' → Dq X.K F' z d → Q z H') : We X a σ H fun v H1 => We X b σ H1 fun w H2 => r v w H2 Q :=
  ha _ fun v F1 H1 g1 h1 => (hb.mono g1.ff) H1 g1.fh _ fun w F2 H2 g2 h2 => k F2 H2 v w (g1.ff.trans g2.ff) g2.fh (h1.mono g2.ff) h2 Q fun z F3 H3 g3 h3 => q z F3 H3 ((g1.trans g2).trans g3) h3
theorem rd_catL (hz : ds.length + es.length ≤ 1000) : RD X rCat F (.list ds) (.list es) (.list (ds ++ es)) := fun F1 H1 v w _ s h1 h2 Q q => by
  obtain ⟨l, xs, rfl, f1, g1⟩ := h1.lst_inv
  obtain ⟨m, ys, rfl, f2, g2⟩ := h2.lst_inv
  exact ⟨l, m, xs, ys, rfl, rfl, s _ _ f1, s _ _ f2, by rw [g1.length, g2.length]; exact Nat.le_of_lt (small1000 hz), fun p hp => q _ _ _ (Gr.new s hp) (.lst upd_same ((g1.append g2).mono (same_new (s.free hp))))⟩
theorem wh_catL (ha : Wh X a σ F H (.list ds)) (hb : Wv X b σ F (.list es)) (hz : ds.length + es.length ≤ 1000) : Wh X (.BinOp a .Add b pos) σ F H (.list (ds ++ es)) := fun Q q => we_op op_cat ((rd_catL hz).runH ha hb q)
theorem wv_neg (h : Wv X a σ F (.int i)) : Wv X (.UnaryOp .USub a pos) σ F (.int (-i)) := wv_scal (fun _ => .int _) fun H s Q q => we_of (pe_un un_neg we_pe) (h.int s fun H' s' => ⟨i, rfl, q H' s'⟩)
/-- three things, taken apart -/
theorem wg_trip {t1 t2 t3 : Expr} {k : Nat} {u : V} {d1 d2 d3 : PyData} {Q : L2.St → Hp → Prop} (hd : Dq X.K F u (.tuple [d1, d2, d3])) (s : Same F H) (h : ∀ v w z, Dq X.K F v d1 → Dq X.K F w d2 → Dq X.K F z d3 → Wgs X [t1, t2, t3] [v, w, z] σ H Q) (hc : X.calm = true := by rfl) (hn : (assignEach [t1, t2, t3] X.env).length = 3 := by rfl) (hst : (assignEach [t1, t2, t3] X.env).findIdx? (·.1) = none := by rfl) : Wg X (.Tuple [t1, t2, t3] k pos) u σ H Q := by
  obtain ⟨a, us, rfl, h1, h2⟩ := hd.tup_inv
  obtain ⟨v, r, rfl, d1, h3⟩ := h2.cons_inv
  obtain ⟨w, r, rfl, d2, h4⟩ := h3.cons_inv
  obtain ⟨z, r, rfl, d3, h5⟩ := h4.cons_inv
  rw [h5.nil_inv] at h1
  exact wg_of (pg_tup hc wgs_pgs hn hst) ⟨a, [v, w, z], rfl, same_t s h1, rfl, h v w z d1 d2 d3⟩
/-- self.own_has[p] -/
theorem we_has {A B : List (Int × Int)} {hs : Int → List Int} {d : Bd} {p0 p1 pos : Pos} {p : Int} {e : Expr} (hr : Room j X.A) (st : Sta X.K F d) (dy : Dyn X.K F H d A B hs) (hslf : σ[0]? = some (some (.ref d.b))) (he : Iv X e σ H p) (hp : 0 ≤ p ∧ p < d.T.n) (q : ∀ v H', Same H H' → Dq X.K F v (.list ((hs p).map .int)) → Q v H') (hns : NoSl e := by exact fun _ _ => rfl) (hN : X.N[0]? = some ("self" : Str) := by rfl) (hv : Vis X.env.scope "self" := by first | exact Or.inl rfl | exact Or.inr (Or.inl rfl) | exact Or.inr (Or.inr rfl))
    (hb : attributeBase (.Name "self" p0) "own_has" X.env (eval (.Name "self" p0) X.env) = eval (.Name "self" p0) X.env := by rfl) : We X (.Subscript (.Attribute (.Name "self" p0) "own_has" p1) e pos) σ H Q := by
  obtain ⟨kvs, e1, e2⟩ := dy.h
  obtain ⟨v, e3, e4⟩ := e2.2 p hp.1 hp.2
  exact we_dget hr (we_self st hslf st.cls.has dy.s (he H (Same.refl _) _ fun H1 s1 => ⟨d.ph, v, rfl, by rw [← e3]; exact DGet.k (k := .inl p) (s1 _ _ e1), q v H1 s1 e4⟩) rfl hN hv hb) hns
theorem wh_has {A B : List (Int × Int)} {hs : Int → List Int} {d : Bd} {p0 p1 pos : Pos} {p : Int} {e : Expr} (hr : Room j X.A) (st : Sta X.K F d) (dy : Dyn X.K F H d A B hs) (hslf : σ[0]? = some (some (.ref d.b))) (he : Iv X e σ H p) (hp : 0 ≤ p ∧ p < d.T.n) (hns : NoSl e := by exact fun _ _ => rfl) (hN : X.N[0]? = some ("self" : Str) := by rfl) (hv : Vis X.env.scope "self" := by first | exact Or.inl rfl | exact Or.inr (Or.inl rfl) | exact Or.inr (Or.inr rfl))
    (hb : attributeBase (.Name "self" p0) "own_has" X.env (eval (.Name "self" p0) X.env) = eval (.Name "self" p0) X.env := by rfl) : Wh X (.Subscript (.Attribute (.Name "self" p0) "own_has" p1) e pos) σ F H (.list ((hs p).map .int)) := fun Q q =>
  we_has hr st dy hslf he hp (fun v H' s' dv => q v F H' ⟨Same.refl _, dy.s.trans s', s', fun _ e _ => e⟩ dv) hns hN hv hb
end
theorem HasOk.put {K : PySem.W.Frag} {F : Hp} {kvs : List (L2.Key × V)} {n p : Int} {hs : Int → List Int} {v : V} {l : List Int} (h : HasOk K F kvs n hs) (hp : 0 ≤ p ∧ p < n) (hv : Dq K F v (.list (l.map .int))) : HasOk K F (putK kvs (.inl p) v) n (updF hs p l) := by
  obtain ⟨u, e, _⟩ := h.2 p hp.1 hp.2
  refine ⟨?_, fun q h0 h1 => ?_⟩
  · have : (putK kvs (.inl p) v).length = kvs.length := by
      unfold putK
      rw [valV_any, e]
      show (if true = true then _ else _ : List (L2.Key × V)).length = _
      rw [if_pos rfl, List.length_map]
    rw [this]
    exact h.1
  · rw [valV_put]
    unfold updF
    by_cases z : q = p
    · rw [if_pos (by rw [z]), if_pos z]
      exact ⟨v, rfl, hv⟩
    · rw [if_neg (fun y => z (Sum.inl.inj y)), if_neg z]
      exact h.2 q h0 h1
section
variable {P : Program} {w : World} {K : PySem.W.Frag} {mg : Str → Option Value} {base : Heap} {f : Addr} {fd : FuncData} {C : Addr}
/-! ### looked -/
/-- how it stands -/
structure Stt (K : PySem.W.Frag) (F0 H0 F H : Hp) (d : Bd) (A B : List (Int × Int)) (hs : Int → List Int) : Prop where
  g : Gm d.M F0 H0 F H
  y : Dyn K F H d A B hs
theorem Stt.gr {F0 H0 F H F1 H1 : Hp} {d : Bd} {A B : List (Int × Int)} {hs : Int → List Int} (h : Stt K F0 H0 F H d A B hs) (g : Gr F H F1 H1) : Stt K F0 H0 F1 H1 d A B hs := ⟨h.g.trans g.gm, h.y.gr g⟩
theorem Stt.gm {F0 H0 F H F1 H1 : Hp} {d : Bd} {A B A' B' : List (Int × Int)} {hs hs' : Int → List Int} (h : Stt K F0 H0 F H d A B hs) (g : Gm d.M F H F1 H1) (y : Dyn K F1 H1 d A' B' hs') : Stt K F0 H0 F1 H1 d A' B' hs' := ⟨h.g.trans g, y⟩
theorem few_emp {F : Hp} {x : Addr} (h : Dq K F (.ref x) (.tuple [])) : Few K F (.ref x) := ⟨[], Nat.zero_le _, .inr h⟩
abbrev n_B_looked : List Str := ["self", "person", "number", "other"]
theorem sc_B_looked : FnScope n_B_looked ["self", "person", "number"] (C8.fnScope s_B_looked) := C8.fnScope_by (by decide +kernel)
/-- the default of source -/
def Emp (K : PySem.W.Frag) (x : Addr) : Prop := ∀ H, SqT K H x []
theorem Emp.dq {F : Hp} {x : Addr} (h : Emp K x) : Dq K F (.ref x) (.tuple []) := .tup (.inr ⟨rfl, h F⟩) .nil
def spLooked (C : Addr) (K : PySem.W.Frag) : Sp := fun vs H Q _ => ∃ (F : Hp) (d : Bd) (g : GS) (p : Int), vs = [.ref d.b, .int p, .int g.nr] ∧ C = d.C ∧ Sta K F d ∧ Mu F d ∧ Dyn K F H d g.A g.B g.hs ∧ GOk (nL d) g ∧ g.nr < nL d ∧ (0 ≤ p ∧ p < d.T.n) ∧
  ∀ F' H', Gm d.M F H F' H' → Dyn K F' H' d (lookedM g p).A (lookedM g p).B (lookedM g p).hs → Q .non H'
theorem c_B_looked {emp : Addr} (he : Emp K emp) (BC : Bcls K C) (cl : C8.Met P w K mg base 2 C "lower" (spLower C K) [.ref emp]) (me : Meth K C "looked" f) (F : C8.Fun K "looked" "Bonds.looked" s_B_looked f fd) (b : Binds K fd ["self", "person", "number"] []) : C8.Met P w K mg base 3 C "looked" (spLooked C K) [] := by
  refine metW BC.c me F b .nil sc_B_looked (fun vs H Q E ⟨G, d, g, p, e, _⟩ => by rw [e]; rfl) fun cdv A0 outer s H vs Q E hr ⟨G, d, g, p, e, ec, st, mu, dy, ok, hn, hp, q⟩ => ?_
  subst e
  subst ec
  have fl : nL d ≤ 8 := by have := st.fewL; unfold nL; omega
  have tk : ∀ i, okPairs (nL d) (((g.hs p).take i).foldl (fun B o => add1 B o g.nr) g.B) := fun i => fold1_ok ⟨ok.nr.1, hn⟩ _ _ (fun y hy => ok.rng (List.mem_of_mem_take hy)) ok.b
  refine wb_cons (w1_forH (fun F1 i σ' H' => ∃ Fi u, Same F1 Fi ∧ Stt K G H Fi H' d g.A (((g.hs p).take i).foldl (fun B o => add1 B o g.nr) g.B) g.hs ∧ σ' = [some (.ref d.b), some (.int p), some (.int g.nr), u])
    (wsrcH_list (wh_has hr st dy rfl (iv_var 1 rfl) hp)) (fun F1 H1 g1 => ⟨F1, none, Same.refl _, ⟨g1.gm, dy.gr g1⟩, rfl⟩) (fun F1 i σ' H' ⟨Fi, u, s1, t, _⟩ => s1.trans t.y.s) ?_ ?_)
  · rintro F1 i dd v σ' H1 H2 ed ⟨Fi, u, s1, t, rfl⟩ hy
    obtain ⟨F3, g3, dv⟩ := hy Fi s1 t.y.s
    have t3 := t.gr g3
    rw [List.getElem?_map] at ed
    cases eo : (g.hs p)[i]? with
    | none =>
      rw [eo] at ed
      cases ed
    | some o =>
      rw [eo] at ed
      cases ed
      rw [dv.int_inv]
      refine wg_name 3 sc_B_looked.nd (wb_one (w1_expr (we_sm cl hr (st.mono (t3.g.ff)) rfl t3.y.s (wa2 (iv_var 3 rfl) (iv_var 2 rfl) fun H4 s4 => ?_))))
      refine ⟨F3, d, _, _, _, o, g.nr, .ref emp, rfl, rfl, st.mono t3.g.ff, mu.gm dy t3.g, t3.y.sm s4, few_emp he.dq, Nat.le_trans (ok.a.len fl) (by decide), Nat.le_trans ((tk i).len fl) (by decide), fun F5 H5 g5 y5 => ?_⟩
      refine ⟨F5, _, (s1.trans g3.ff).trans g5.ff, t3.gm (Gm.trans (⟨Same.refl _, t3.y.s.trans s4, s4, fun _ e _ => e⟩ : Gr F3 H2 F3 H4).gm g5) ?_, rfl⟩
      rw [List.take_add_one, eo, List.foldl_append]
      exact y5
  · rintro F1 σ' H1 ⟨Fi, u, s1, t, rfl⟩
    rw [List.length_map, List.take_length] at t
    have st1 := st.mono t.g.ff
    have al := (ok.h p).len (show g.nr ≤ 8 by omega)
    refine wb_one (w1_dput hr (wh_catL (es := [PyData.int g.nr]) (wh_has hr st1 t.y rfl (iv_var 1 rfl) hp) (wv_lst (wvs_cons (wv_var 2 rfl (.int _)) wvs_nil)) (by rw [List.length_map]; show _ + 1 ≤ _; omega) _ fun v F2 H2 g2 d2 => we_self (st1.mono g2.ff) rfl st.cls.has g2.fh (we_var 1 rfl ?_)))
    have t2 := t.gr g2
    obtain ⟨kvs, e1, e2⟩ := t2.y.h
    have hd2 : Dq K F2 v (.list ((g.hs p ++ [g.nr]).map .int)) := by
      rw [List.map_append]
      exact d2
    have mu2 := mu.gm dy t2.g
    exact ⟨d.ph, _, rfl, DPut.k (k := .inl p) e1 (Nat.lt_of_le_of_lt (by have := e2.1; have := st.pos; omega : kvs.length ≤ 100) (by decide)), q F2 _ (t2.g.mut (.inl (.inr (.inr (.inl rfl)))) mu2.h) (t2.y.putH mu2 (e2.put hp hd2))⟩
end
end K29
set_option Elab.async false
set_option linter.all false
set_option maxRecDepth 100000
set_option maxHeartbeats 4000000
namespace K29
open PySem PySem.Spec PyProof.Rows L2
def mtE (meet : Bool) (p q : Int) : Ev := if meet = true then .meet p q else .tell p q
theorem mtE_D (meet : Bool) (p q : Int) : evD (mtE meet p q) = .tuple [.str (if meet = true then "meet" else "tell"), .int p, .int q] := by cases meet <;> rfl
theorem bindAll_take {A : List (Int × Int)} {xs ys : List Int} {i : Nat} {x : Int} (h : xs[i]? = some x) : bindAll A (xs.take (i + 1)) ys = ys.foldl (fun A y => addS A x y) (bindAll A (xs.take i) ys) := by
  unfold bindAll
  rw [List.take_add_one, h, List.foldl_append]
  rfl
section
variable {P : Program} {w : World} {K : PySem.W.Frag} {mg : Str → Option Value} {base : Heap} {f : Addr} {fd : FuncData} {C : Addr}
abbrev n_B_compared : List Str := ["self", "event", "word", "person", "other", "mine", "its", "one", "two", "both", "place"]
theorem sc_B_compared : FnScope n_B_compared ["self", "event"] (C8.fnScope s_B_compared) := C8.fnScope_by (by decide +kernel)
def spCompared (C : Addr) (K : PySem.W.Frag) : Sp := fun vs H Q _ => ∃ (F : Hp) (d : Bd) (g : GS) (meet : Bool) (p q : Int) (ve : V), vs = [.ref d.b, ve] ∧ C = d.C ∧ Sta K F d ∧ Mu F d ∧ Dyn K F H d g.A g.B g.hs ∧ GOk (nL d) g ∧ Dq K F ve (evD (mtE meet p q)) ∧ (0 ≤ p ∧ p < d.T.n) ∧ (0 ≤ q ∧ q < d.T.n) ∧
  ∀ F' H', Gm d.M F H F' H' → Dyn K F' H' d (comparedM d.kind g meet p q).A (comparedM d.kind g meet p q).B (comparedM d.kind g meet p q).hs → Q .non H'
theorem c_B_compared {emp : Addr} (T : Txt K mg) (he : Emp K emp) (BC : Bcls K C) (cb : C8.Met P w K mg base 2 C "bind" (spBind C K) [.ref emp]) (me : Meth K C "compared" f) (F : C8.Fun K "compared" "Bonds.compared" s_B_compared f fd) (b : Binds K fd ["self", "event"] []) : C8.Met P w K mg base 3 C "compared" (spCompared C K) [] := by
  refine metW BC.c me F b .nil sc_B_compared (fun vs H Q E ⟨G, d, g, meet, p, q, ve, e, _⟩ => by rw [e]; rfl) fun cdv A0 outer s H vs Q E hr ⟨G, d, g, meet, p, q, ve, e, ec, st, mu, dy, ok, de, hp, hq, qq⟩ => ?_
  subst e
  subst ec
  rw [mtE_D] at de
  have fl : nL d ≤ 8 := by have := st.fewL; unfold nL; omega
  have fs : ∀ {xs : List Int} {A : List (Int × Int)} {x : Int}, (∀ y ∈ xs, 0 ≤ y ∧ y < nL d) → (0 ≤ x ∧ x < nL d) → okPairs (nL d) A → Sym A → ∀ i, okPairs (nL d) ((xs.take i).foldl (fun A y => addS A x y) A) ∧ Sym ((xs.take i).foldl (fun A y => addS A x y) A) := fun {xs A x} hy hx h s i => foldS_ok hx _ _ (fun y m => hy y (List.mem_of_mem_take m)) h s
  refine wb_cons (w1_asg (Wv.go (wv_var 1 rfl de) dy.s fun v F1 H1 g1 d1 => wg_trip d1 g1.fh fun v1 v2 v3 h1 h2 h3 => wgs_cons (wg_name 2 sc_B_compared.nd (wgs_cons (wg_name 3 sc_B_compared.nd (wgs_cons (wg_name 4 sc_B_compared.nd (wgs_nil ?_))))))))
  rw [h1.str_inv, h2.int_inv, h3.int_inv]
  have st1 := st.mono g1.ff
  have dy1 := dy.gr g1
  refine wb_cons (w1_par 5 6 sc_B_compared.nd (wa_cons (we_has hr st1 dy1 rfl (iv_var 3 rfl) hp fun v5 H2 s2 d5 => wa_cons (we_has hr st1 (dy1.sm s2) rfl (iv_var 4 rfl) hq fun v6 H3 s3 d6 => wa_nil ⟨v5, v6, rfl, ?_⟩))))
  have dy3 := dy1.sm (s2.trans s3)
  have t3 : Stt K G H F1 H3 d g.A g.B g.hs := ⟨g1.gm.trans (⟨Same.refl _, dy3.s, s2.trans s3, fun _ e _ => e⟩ : Gr F1 H1 F1 H3).gm, dy3⟩
  have mu1 := mu.gm dy t3.g
  refine wb_cons (w1_ifq (wq_neS (wv_self st1 rfl st1.cls.kind rfl (.str _)) (wv_gstr T.LONG)) dy3.s (fun z H4 s4 => ?_) (fun z H4 s4 => ?_))
  · have nk : d.kind ≠ "long" := fun y => by
      rw [decide_eq_true y] at z
      cases z
    have dy4 := dy3.sm s4
    have t4 : Stt K G H F1 H4 d g.A g.B g.hs := t3.gr (⟨Same.refl _, dy4.s, s4, fun _ e _ => e⟩ : Gr F1 H3 F1 H4)
    have rp : ∀ y ∈ last1 (g.hs p), 0 ≤ y ∧ y < nL d := fun y hy => ok.rng (mem_cut hy)
    have rq : ∀ y ∈ last1 (g.hs q), 0 ≤ y ∧ y < nL d := fun y hy => ok.rng (mem_cut hy)
    have bo : ∀ i, okPairs (nL d) (bindAll g.A ((last1 (g.hs p)).take i) (last1 (g.hs q))) ∧ Sym (bindAll g.A ((last1 (g.hs p)).take i) (last1 (g.hs q))) := fun i => bindAll_ok rq _ _ (fun y hy => rp y (List.mem_of_mem_take hy)) ok.a ok.sy
    refine wb_cons (w1_forH (ds := (last1 (g.hs p)).map .int) (fun F5 i σ' H' => ∃ Fi u v, Same F5 Fi ∧ Same F1 F5 ∧ Stt K G H Fi H' d (bindAll g.A ((last1 (g.hs p)).take i) (last1 (g.hs q))) g.B g.hs ∧ σ' = [some (.ref d.b), some ve, some (.str (if meet = true then "meet" else "tell")), some (.int p), some (.int q), some v5, some v6, u, v, none, none])
      (wsrcH_list (Wv.wh (Wv.to (wv_slL (wv_var 5 rfl d5) (wo_some (wv_neg wv_int)) wo_none) ?_) dy4.s)) (fun F5 H5 g5 => ⟨F5, none, none, Same.refl _, g5.ff, t4.gr g5, rfl⟩) (fun F5 i σ' H' ⟨Fi, u, v, s5, _, t, _⟩ => s5.trans t.y.s) ?_ ?_)
    · unfold last1 cut
      rw [List.length_map, List.map_take, List.map_drop]
    · rintro F5 i dd v7 σ' H5 H6 ed ⟨Fi, u, v, s5, s15, t, rfl⟩ hy
      obtain ⟨F7, g7, dv⟩ := hy Fi s5 t.y.s
      have t7 := t.gr g7
      rw [List.getElem?_map] at ed
      cases eo : (last1 (g.hs p))[i]? with
      | none =>
        rw [eo] at ed
        cases ed
      | some x =>
      rw [eo] at ed
      cases ed
      rw [dv.int_inv]
      have s17 : Same F1 F7 := (s15.trans s5).trans g7.ff
      obtain ⟨bo1, bo2⟩ := bo i
      refine wg_name 7 sc_B_compared.nd (wb_one (w1_forH (ds := (last1 (g.hs q)).map .int) (fun F8 j σ' H' => ∃ Fj u, Same F8 Fj ∧ Same F7 F8 ∧ Stt K G H Fj H' d (((last1 (g.hs q)).take j).foldl (fun A y => addS A x y) (bindAll g.A ((last1 (g.hs p)).take i) (last1 (g.hs q)))) g.B g.hs ∧ σ' = [some (.ref d.b), some ve, some (.str (if meet = true then "meet" else "tell")), some (.int p), some (.int q), some v5, some v6, some (.int x), u, none, none])
        (wsrcH_list (Wv.wh (Wv.to (wv_slL (wv_var 6 rfl (d6.mono s17)) (wo_some (wv_neg wv_int)) wo_none) ?_) t7.y.s)) (fun F8 H8 g8 => ⟨F8, v, Same.refl _, g8.ff, t7.gr g8, rfl⟩) (fun F8 j σ' H' ⟨Fj, u, s8, _, t, _⟩ => s8.trans t.y.s) ?_ ?_))
      · unfold last1 cut
        rw [List.length_map, List.map_take, List.map_drop]
      · rintro F8 j dd v8 σ' H8 H9 ed ⟨Fj, u', s8, s78, t8, rfl⟩ hy
        obtain ⟨F9, g9, dv⟩ := hy Fj s8 t8.y.s
        have t9 := t8.gr g9
        rw [List.getElem?_map] at ed
        cases ey : (last1 (g.hs q))[j]? with
        | none =>
          rw [ey] at ed
          cases ed
        | some y =>
        rw [ey] at ed
        cases ed
        rw [dv.int_inv]
        obtain ⟨ba1, ba2⟩ := fs (xs := last1 (g.hs q)) rq (rp x (List.mem_of_getElem? eo)) bo1 bo2 j
        refine wg_name 8 sc_B_compared.nd (wb_one (w1_expr (we_sm cb hr (st.mono t9.g.ff) rfl t9.y.s (wa2 (iv_var 7 rfl) (iv_var 8 rfl) fun H10 s10 => ?_))))
        refine ⟨F9, d, _, _, _, x, y, .ref emp, rfl, rfl, st.mono t9.g.ff, mu.gm dy t9.g, t9.y.sm s10, few_emp he.dq, ba2, Nat.le_trans (ba1.len fl) (by decide), Nat.le_trans (ok.b.len fl) (by decide), fun F11 H11 g11 y11 => ?_⟩
        refine ⟨F11, _, (s8.trans g9.ff).trans g11.ff, s78, t9.gm (Gm.trans (⟨Same.refl _, t9.y.s.trans s10, s10, fun _ e _ => e⟩ : Gr F9 H9 F9 H10).gm g11) ?_, rfl⟩
        rw [List.take_add_one, ey, List.foldl_append]
        exact y11
      · rintro F8 σ' H8 ⟨Fj, u', s8, s78, t8, rfl⟩
        rw [List.length_map, List.take_length] at t8
        exact ⟨Fj, _, _, ((s5.trans g7.ff).trans s78).trans s8, s15, by rw [bindAll_take eo]; exact t8, rfl⟩
    · rintro F5 σ' H5 ⟨Fi, u, v, s5, s15, t, rfl⟩
      rw [List.length_map, List.take_length] at t
      refine wb_one (w1_retN (qq Fi H5 t.g ?_))
      unfold comparedM
      rw [if_neg nk]
      exact t.y
  · have nk : d.kind = "long" := of_decide_eq_true (by cases y : decide (d.kind = ("long" : Str)) with
      | true => rfl
      | false =>
        rw [y] at z
        cases z)
    have dy4 := dy3.sm s4
    have t4 : Stt K G H F1 H4 d g.A g.B g.hs := t3.gr (⟨Same.refl _, dy4.s, s4, fun _ e _ => e⟩ : Gr F1 H3 F1 H4)
    have ab := srt_asc ok p q
    generalize eb : srtM (g.hs p ++ g.hs q) = both at ab
    have rb : ∀ y ∈ both, 0 ≤ y ∧ y < nL d := fun y hy => by
      have := ab.2 y hy
      have := ok.nr
      omega
    have bo : ∀ qs : List (Int × Int), (∀ x ∈ qs, x ∈ idxd both) → okPairs (nL d) (qs.foldl (fun A q => (both.drop (q.1.toNat + 1)).foldl (fun A y => addS A q.2 y) A) g.A) ∧ Sym (qs.foldl (fun A q => (both.drop (q.1.toNat + 1)).foldl (fun A y => addS A q.2 y) A) g.A) := fun qs hx => bindB_ok rb qs _ (fun x h => rb _ (idxd_snd (hx x h))) ok.a ok.sy
    have l1 := (ok.h p).len (show g.nr ≤ 8 by have := ok.nr; omega)
    have l2 := (ok.h q).len (show g.nr ≤ 8 by have := ok.nr; omega)
    refine wb_nil (wb_cons (w1_set 9 sc_B_compared.nd (we_sortedSet (ns := g.hs p ++ g.hs q) T.sorted T.set (Wv.to (wv_catL (wv_var 5 rfl d5) (wv_var 6 rfl d6) (by rw [List.length_map, List.length_map]; omega)) (by rw [List.map_append])) dy4.s (by rw [List.length_append]; omega) fun ms v9 F5 H5 hms g5 d9 => ?_)))
    rw [hms.eq, eb] at d9
    have t5 := t4.gr g5
    refine wb_cons (w1_forH (ds := enumD (both.map .int)) (fun F6 i σ' H' => ∃ Fi u v w, Same F6 Fi ∧ Same F5 F6 ∧ Stt K G H Fi H' d (((idxd both).take i).foldl (fun A q => (both.drop (q.1.toNat + 1)).foldl (fun A y => addS A q.2 y) A) g.A) g.B g.hs ∧ σ' = [some (.ref d.b), some ve, some (.str (if meet = true then "meet" else "tell")), some (.int p), some (.int q), some v5, some v6, u, v, some v9, w])
      ((wsrc_enumL T.enumerate (wv_var 9 rfl d9)).at_ t5.y.s) (fun F6 H6 g6 => ⟨F6, none, none, none, Same.refl _, g6.ff, t5.gr g6, rfl⟩) (fun F6 i σ' H' ⟨Fi, u, v, w, s5, _, t, _⟩ => s5.trans t.y.s) ?_ ?_)
    · rintro F6 i dd v7 σ' H6 H7 ed ⟨Fi, u, v, w, s6, s56, t, rfl⟩ hy
      obtain ⟨F8, g8, dv⟩ := hy Fi s6 t.y.s
      have t8 := t.gr g8
      rw [enumD_map, List.getElem?_map] at ed
      cases eo : (idxd both)[i]? with
      | none =>
        rw [eo] at ed
        cases ed
      | some x =>
      rw [eo] at ed
      cases ed
      have s58 : Same F5 F8 := (s56.trans s6).trans g8.ff
      have mx : x ∈ idxd both := List.mem_of_getElem? eo
      obtain ⟨kk, ek, _⟩ := idxd_mem mx
      obtain ⟨bo1, bo2⟩ := bo ((idxd both).take i) (fun x h => List.mem_of_mem_take h)
      have rd : ∀ y ∈ both.drop (x.1.toNat + 1), 0 ≤ y ∧ y < nL d := fun y hy => rb y (List.mem_of_mem_drop hy)
      refine wg_pair dv g8.fh fun w1 w2 k1 k2 => wgs_cons (wg_name 10 sc_B_compared.nd (wgs_cons (wg_name 7 sc_B_compared.nd (wgs_nil ?_))))
      rw [k1.int_inv, k2.int_inv]
      refine wb_one (w1_forH (ds := (both.drop (x.1.toNat + 1)).map .int) (fun F9 j σ' H' => ∃ Fj u, Same F9 Fj ∧ Same F8 F9 ∧ Stt K G H Fj H' d (((both.drop (x.1.toNat + 1)).take j).foldl (fun A y => addS A x.2 y) (((idxd both).take i).foldl (fun A q => (both.drop (q.1.toNat + 1)).foldl (fun A y => addS A q.2 y) A) g.A)) g.B g.hs ∧ σ' = [some (.ref d.b), some ve, some (.str (if meet = true then "meet" else "tell")), some (.int p), some (.int q), some v5, some v6, some (.int x.2), u, some v9, some (.int x.1)])
        (wsrcH_list (Wv.wh (Wv.to (wv_slL (wv_var 9 rfl (d9.mono s58)) (wo_some (wv_add (wv_var 10 rfl (.int x.1)) wv_int)) wo_none) ?_) t8.y.s)) (fun F9 H9 g9 => ⟨F9, v, Same.refl _, g9.ff, by rw [List.take_zero, List.foldl_nil]; exact t8.gr g9, rfl⟩) (fun F9 j σ' H' ⟨Fj, u, s8, _, t, _⟩ => s8.trans t.y.s) ?_ ?_)
      · rw [ek, show ((kk : Nat) + 1 : Int) = ((kk + 1 : Nat) : Int) by omega, cut_from, List.map_drop, Int.toNat_natCast]
      · rintro F9 j dd v8 σ' H9 H10 ed ⟨Fj, u', s9, s89, t9, rfl⟩ hy
        obtain ⟨F10, g10, dv⟩ := hy Fj s9 t9.y.s
        have t10 := t9.gr g10
        rw [List.getElem?_map] at ed
        cases ey : (both.drop (x.1.toNat + 1))[j]? with
        | none =>
          rw [ey] at ed
          cases ed
        | some y =>
        rw [ey] at ed
        cases ed
        rw [dv.int_inv]
        obtain ⟨ba1, ba2⟩ := fs (xs := both.drop (x.1.toNat + 1)) rd (rb _ (idxd_snd mx)) bo1 bo2 j
        refine wg_name 8 sc_B_compared.nd (wb_one (w1_expr (we_sm cb hr (st.mono t10.g.ff) rfl t10.y.s (wa2 (iv_var 7 rfl) (iv_var 8 rfl) fun H11 s11 => ?_))))
        refine ⟨F10, d, _, _, _, x.2, y, .ref emp, rfl, rfl, st.mono t10.g.ff, mu.gm dy t10.g, t10.y.sm s11, few_emp he.dq, ba2, Nat.le_trans (ba1.len fl) (by decide), Nat.le_trans (ok.b.len fl) (by decide), fun F12 H12 g12 y12 => ?_⟩
        refine ⟨F12, _, (s9.trans g10.ff).trans g12.ff, s89, t10.gm (Gm.trans (⟨Same.refl _, t10.y.s.trans s11, s11, fun _ e _ => e⟩ : Gr F10 H10 F10 H11).gm g12) ?_, rfl⟩
        rw [List.take_add_one, ey, List.foldl_append]
        exact y12
      · rintro F9 σ' H9 ⟨Fj, u', s9, s89, t9, rfl⟩
        rw [List.length_map, List.take_length] at t9
        refine ⟨Fj, _, _, _, ((s6.trans g8.ff).trans s89).trans s9, s56, ?_, rfl⟩
        rw [List.take_add_one, eo, List.foldl_append]
        exact t9
    · rintro F6 σ' H6 ⟨Fi, u, v, w, s6, s56, t, rfl⟩
      rw [enumD_len, List.length_map, ← idxd_len, List.take_length] at t
      have st6 := st.mono t.g.ff
      have mu6 := mu.gm dy t.g
      have db : Dq K Fi v9 (.list (both.map .int)) := d9.mono (s56.trans s6)
      obtain ⟨kvs, e1, e2⟩ := t.y.h
      have kl : ∀ {kvs : List (L2.Key × V)}, (kvs.length : Int) ≤ d.T.n → kvs.length < sizeLine := fun {kvs} h => Nat.lt_of_le_of_lt (by have := st.pos; omega : kvs.length ≤ 100) (by decide)
      refine wb_cons (w1_dput hr (we_var 9 rfl (we_self st6 rfl st.cls.has t.y.s (we_var 4 rfl ⟨d.ph, _, rfl, DPut.k (k := .inl q) e1 (kl e2.1), ?_⟩))))
      have t7 : Stt K G H Fi (upd H6 d.ph (.dK (putK kvs (.inl q) v9))) d _ g.B (updF g.hs q both) := ⟨t.g.mut (.inl (.inr (.inr (.inl rfl)))) mu6.h, t.y.putH mu6 (e2.put hq db)⟩
      generalize upd H6 d.ph (.dK (putK kvs (.inl q) v9)) = H7 at t7
      have fin : comparedM d.kind g meet p q = ⟨(idxd both).foldl (fun A q => (both.drop (q.1.toNat + 1)).foldl (fun A y => addS A q.2 y) A) g.A, g.B, if meet = true then updF (updF g.hs q both) p both else updF g.hs q both, g.nr⟩ := by
        unfold comparedM bindBoth
        rw [if_pos nk, eb]
      rw [fin] at qq
      cases meet with
      | true =>
        refine wb_one (w1_ifq (t := true) (Wq.to (wq_eqS (wv_var 2 rfl (.str _)) (wv_gstr T.MEET)) (by decide)) t7.y.s (fun _ H8 s8 => ?_) (fun z => by cases z))
        have t8 := t7.gr (⟨Same.refl _, t7.y.s.trans s8, s8, fun _ e _ => e⟩ : Gr Fi H7 Fi H8)
        obtain ⟨kv2, e3, e4⟩ := t8.y.h
        exact wb_one (w1_dput hr (we_var 9 rfl (we_self st6 rfl st.cls.has t8.y.s (we_var 3 rfl ⟨d.ph, _, rfl, DPut.k (k := .inl p) e3 (kl e4.1), qq Fi _ (t8.g.mut (.inl (.inr (.inr (.inl rfl)))) mu6.h) (t8.y.putH mu6 (e4.put hp db))⟩))))
      | false =>
        refine wb_one (w1_ifq (t := false) (Wq.to (wq_eqS (wv_var 2 rfl (.str _)) (wv_gstr T.MEET)) (by decide)) t7.y.s (fun z => by cases z) (fun _ H8 s8 => ?_))
        have t8 := t7.gr (⟨Same.refl _, t7.y.s.trans s8, s8, fun _ e _ => e⟩ : Gr Fi H7 Fi H8)
        exact wb_nil (qq Fi _ t8.g t8.y)
end
end K29
set_option Elab.async false
set_option linter.all false
set_option maxRecDepth 100000
set_option maxHeartbeats 4000000
namespace K29
open PySem PySem.Spec PyProof.Rows L2
def g0 : GS := ⟨[], [], fun _ => [], 0⟩
def goM (T : Tab) (kind : Str) (gone : List Int) (i : Nat) : GS := ((idxd T.evs).take i).foldl (stepM kind gone) g0
def cntL (l : List Ev) : Nat := (l.filter fun e : Ev => decide (e.word = ("look" : Str))).length
theorem word_look {e : Ev} (h : e.word = "look") : ∃ p, e = .look p := by
  cases e with
  | look p => exact ⟨p, rfl⟩
  | add p => exact absurd (show ("add" : Str) = "look" from h) (by decide)
  | meet p q => exact absurd (show ("meet" : Str) = "look" from h) (by decide)
  | tell p q => exact absurd (show ("tell" : Str) = "look" from h) (by decide)
theorem idxd_map_snd {α : Type} (l : List α) : (idxd l).map (fun q => q.2) = l := by
  unfold idxd
  apply List.ext_getElem?
  intro i
  rw [List.getElem?_map, List.getElem?_mapIdx]
  cases l[i]? <;> rfl
theorem looks_cnt (T : Tab) : (looksOf T).length = cntL T.evs := by
  unfold looksOf evsOf cntL
  rw [List.length_map]
  conv => rhs; rw [← idxd_map_snd T.evs]
  rw [List.filter_map, List.length_map]
  rfl
theorem idxd_at {α : Type} {l : List α} {i : Nat} {q : Int × α} (h : (idxd l)[i]? = some q) : q.1 = (i : Int) ∧ l[i]? = some q.2 := by
  unfold idxd at h
  rw [List.getElem?_mapIdx] at h
  cases e : l[i]? with
  | none =>
    rw [e] at h
    cases h
  | some x =>
    rw [e] at h
    cases h
    exact ⟨rfl, rfl⟩
theorem stepM_ok {n : Int} {g : GS} (h : GOk n g) (kind : Str) (gone : List Int) (x : Int × Ev) (hn : x.2.word = "look" → g.nr < n) : GOk n (stepM kind gone g x) := by
  obtain ⟨i, e⟩ := x
  have up : ∀ {g1 : GS}, okPairs n g1.A → okPairs n g1.B → Sym g1.A → (∀ p, Asc (if e.word = "look" then g.nr + 1 else g.nr) (g1.hs p)) → GOk n ⟨g1.A, g1.B, g1.hs, if e.word = "look" then g.nr + 1 else g.nr⟩ := fun {g1} a b c d => ⟨a, b, c, d, by
    have h1 := h.nr
    show 0 ≤ (if e.word = "look" then g.nr + 1 else g.nr) ∧ (if e.word = "look" then g.nr + 1 else g.nr) ≤ n
    split
    · rename_i z
      have := hn z
      omega
    · omega⟩
  have mo : ∀ {l : List Int}, Asc g.nr l → Asc (if e.word = "look" then g.nr + 1 else g.nr) l := fun {l} a => ⟨a.1, fun x hx => by
    have := a.2 x hx
    split <;> omega⟩
  unfold stepM
  by_cases z : i ∈ gone
  · simp only [if_pos z]
    exact up h.a h.b h.sy fun p => mo (h.h p)
  · simp only [if_neg z]
    cases e with
    | look p =>
      obtain ⟨h1, h2⟩ := h.looked (hn rfl) p
      exact up (g1 := lookedM g p) h.a h1 h.sy fun q => h2 q
    | add p => exact up h.a h.b h.sy fun p => mo (h.h p)
    | meet p q =>
      have k := h.compared kind true p q
      exact up (g1 := comparedM kind g true p q) k.a k.b k.sy fun r => by
        have := k.h r
        rw [comparedM_nr] at this
        exact mo this
    | tell p q =>
      have k := h.compared kind false p q
      exact up (g1 := comparedM kind g false p q) k.a k.b k.sy fun r => by
        have := k.h r
        rw [comparedM_nr] at this
        exact mo this
theorem goM_succ {T : Tab} {kind : Str} {gone : List Int} {i : Nat} {e : Ev} (h : T.evs[i]? = some e) : goM T kind gone (i + 1) = stepM kind gone (goM T kind gone i) ((i : Int), e) := by
  unfold goM
  rw [List.take_add_one, List.foldl_append]
  have : (idxd T.evs)[i]? = some ((i : Int), e) := by
    unfold idxd
    rw [List.getElem?_mapIdx, h]
    rfl
  rw [this]
  rfl
theorem goM_ok (T : Tab) (kind : Str) (gone : List Int) : ∀ i, i ≤ T.evs.length → GOk ((looksOf T).length : Nat) (goM T kind gone i) ∧ (goM T kind gone i).nr = (cntL (T.evs.take i) : Nat)
  | 0, _ => ⟨⟨⟨List.Pairwise.nil, fun _ h => (nomatch h)⟩, ⟨List.Pairwise.nil, fun _ h => (nomatch h)⟩, fun _ _ h => (nomatch h), fun _ => ⟨List.Pairwise.nil, fun _ h => (nomatch h)⟩, Int.le_refl _, Int.natCast_nonneg _⟩, rfl⟩
  | i + 1, hi => by
    obtain ⟨h1, h2⟩ := goM_ok T kind gone i (by omega)
    have ee : T.evs[i]? = some T.evs[i] := List.getElem?_eq_getElem (by omega)
    have ec : cntL (T.evs.take (i + 1)) = cntL (T.evs.take i) + if T.evs[i].word = "look" then 1 else 0 := by
      unfold cntL
      rw [List.take_add_one, ee, List.filter_append, List.length_append]
      show _ + (List.filter _ [T.evs[i]]).length = _
      by_cases z : T.evs[i].word = "look"
      · rw [List.filter_cons_of_pos (by rw [decide_eq_true z]), if_pos z]
        rfl
      · rw [List.filter_cons_of_neg (by rw [decide_eq_false z]; exact Bool.false_ne_true), if_neg z]
        rfl
    have le : cntL (T.evs.take (i + 1)) ≤ (looksOf T).length := by
      rw [looks_cnt]
      exact ((List.take_sublist _ _).filter _).length_le
    rw [goM_succ ee]
    refine ⟨stepM_ok h1 kind gone _ fun z => ?_, ?_⟩
    · rw [if_pos z] at ec
      rw [h2]
      omega
    · show (if T.evs[i].word = "look" then (goM T kind gone i).nr + 1 else (goM T kind gone i).nr) = _
      rw [ec, h2]
      split <;> omega
section
variable {P : Program} {w : World} {K : PySem.W.Frag} {mg : Str → Option Value} {base : Heap} {f : Addr} {fd : FuncData} {C : Addr}
abbrev n_B_go_through : List Str := ["self", "number", "place", "event"]
theorem sc_B_go_through : FnScope n_B_go_through ["self"] (C8.fnScope s_B_go_through) := C8.fnScope_by (by decide +kernel)
def goE (d : Bd) : GS := goM d.T d.kind d.gone d.T.evs.length
def spGo (C : Addr) (K : PySem.W.Frag) : Sp := fun vs H Q _ => ∃ (F : Hp) (d : Bd), vs = [.ref d.b] ∧ C = d.C ∧ Sta K F d ∧ Mu F d ∧ Dyn K F H d [] [] (fun _ => []) ∧ ∀ F' H', Gm d.M F H F' H' → Dyn K F' H' d (goE d).A (goE d).B (goE d).hs → Q .non H'
theorem c_B_go_through (T : Txt K mg) (BC : Bcls K C) (cl : C8.Met P w K mg base 3 C "looked" (spLooked C K) []) (cc : C8.Met P w K mg base 3 C "compared" (spCompared C K) []) (me : Meth K C "go_through" f) (F : C8.Fun K "go_through" "Bonds.go_through" s_B_go_through f fd) (b : Binds K fd ["self"] []) : C8.Met P w K mg base 4 C "go_through" (spGo C K) [] := by
  refine metW BC.c me F b .nil sc_B_go_through (fun vs H Q E ⟨G, d, e, _⟩ => by rw [e]; rfl) fun cdv A0 outer s H vs Q E hr ⟨G, d, e, ec, st, mu, dy, q⟩ => ?_
  subst e
  subst ec
  refine wb_cons (w1_setv 1 sc_B_go_through.nd (wv_int (i := 0)) dy.s fun v0 F0 H0 g00 d0 => ?_)
  rw [d0.int_inv]
  have st0 := st.mono g00.ff
  have t0 : Stt K G H F0 H0 d [] [] (fun _ => []) := ⟨g00.gm, dy.gr g00⟩
  refine wb_one (w1_forH (ds := enumD (d.T.evs.map evD)) (fun F1 i σ' H' => ∃ Fi u v, Same F1 Fi ∧ Stt K G H Fi H' d (goM d.T d.kind d.gone i).A (goM d.T d.kind d.gone i).B (goM d.T d.kind d.gone i).hs ∧ σ' = [some (.ref d.b), some (.int (goM d.T d.kind d.gone i).nr), u, v])
    ((wsrc_enumT T.enumerate (wv_self st0 rfl st.cls.events rfl st0.ev)).at_ t0.y.s) (fun F1 H1 g1 => ⟨F1, none, none, Same.refl _, t0.gr g1, rfl⟩) (fun F1 i σ' H' ⟨Fi, u, v, s1, t, _⟩ => s1.trans t.y.s) ?_ ?_)
  · rintro F1 i dd v σ' H1 H2 ed ⟨Fi, u, v', s1, t, rfl⟩ hy
    obtain ⟨F3, g3, dv⟩ := hy Fi s1 t.y.s
    have t3 := t.gr g3
    rw [enumD_map, List.getElem?_map] at ed
    cases eo : (idxd d.T.evs)[i]? with
    | none =>
      rw [eo] at ed
      cases ed
    | some x =>
    rw [eo] at ed
    cases ed
    obtain ⟨x1, x2⟩ := idxd_at eo
    have hi : i < d.T.evs.length := (List.getElem?_eq_some_iff.mp x2).1
    obtain ⟨ok, nr⟩ := goM_ok d.T d.kind d.gone i (Nat.le_of_lt hi)
    obtain ⟨ok', nr'⟩ := goM_ok d.T d.kind d.gone (i + 1) hi
    have es := goM_succ (kind := d.kind) (gone := d.gone) x2
    obtain ⟨xi, e⟩ := x
    replace x1 : xi = (i : Int) := x1
    replace x2 : d.T.evs[i]? = some e := x2
    subst x1
    have st3 := st.mono t3.g.ff
    have mu3 := mu.gm dy t3.g
    have rg := st.rng e (List.mem_of_getElem? x2)
    refine wg_pair dv g3.fh fun w1 w2 k1 k2 => wgs_cons (wg_name 2 sc_B_go_through.nd (wgs_cons (wg_name 3 sc_B_go_through.nd (wgs_nil ?_))))
    rw [k1.int_inv]
    generalize eg : goM d.T d.kind d.gone i = g at t3 ok nr es
    generalize eg' : goM d.T d.kind d.gone (i + 1) = g' at ok' nr' es
    have nx : ∀ (F5 H5 : Hp), Gm d.M F3 H2 F5 H5 → Dyn K F5 H5 d g'.A g'.B g'.hs → ∃ Fi u v, Same F1 Fi ∧ Stt K G H Fi H5 d g'.A g'.B g'.hs ∧ [some (V.ref d.b), some (.int g'.nr), some (.int (i : Int)), some w2] = [some (V.ref d.b), some (V.int g'.nr), u, v] := fun F5 H5 g5 y5 => ⟨F5, _, _, (s1.trans g3.ff).trans g5.ff, t3.gm g5 y5, rfl⟩
    have hnr : g'.nr = g.nr + if decide (e.word = "look") = true then 1 else 0 := by
      rw [es]
      show (if e.word = "look" then g.nr + 1 else g.nr) = _
      by_cases z : e.word = "look"
      · rw [if_pos z, decide_eq_true z, if_pos rfl]
      · rw [if_neg z, decide_eq_false z, if_neg Bool.false_ne_true, Int.add_zero]
    refine wb_cons (w1_ifq (t := !decide ((i : Int) ∈ d.gone) && decide (e.word = "look")) (wq_and2 (wq_notIn (.inl rfl) (wv_var 2 rfl (.int _)) (wv_self st3 rfl st.cls.gone rfl st3.gn)) fun _ => wq_eqS (wv_ixT (wv_var 3 rfl k2) wv_int (ev_at0 e)) (wv_gstr T.LOOK)) t3.y.s (fun z H4 s4 => ?_) (fun z H4 s4 => ?_))
    · rw [Bool.and_eq_true] at z
      obtain ⟨z1, z2⟩ := z
      have z2 := of_decide_eq_true z2
      have z1 : (i : Int) ∉ d.gone := by simpa using z1
      obtain ⟨p, rfl⟩ := word_look z2
      have hn : g.nr < nL d := by
        have h1 := ok'.nr
        rw [hnr] at h1
        rw [decide_eq_true z2, if_pos rfl] at h1
        unfold nL
        omega
      refine wb_one (w1_expr (we_sm cl hr st3 rfl (t3.y.s.trans s4) ?_))
      refine wa_cons (Wv.int (wv_ixT (wv_var 3 rfl k2) wv_int (ev_at1 (.look p))) (t3.y.s.trans s4) fun H5 s5 => wa_cons (we_var 1 rfl (wa_nil ?_)))
      refine ⟨F3, d, g, p, rfl, rfl, st3, mu3, t3.y.sm (s4.trans s5), ok, hn, rg p (List.mem_cons_self ..), fun F6 H6 g6 y6 => ?_⟩
      have y7 : Dyn K F6 H6 d g'.A g'.B g'.hs := by
        rw [es]
        unfold stepM
        simp only [if_neg z1]
        exact y6
      refine wb_one (w1_aug 1 sc_B_go_through.nd ip_add rfl (Wv.int (wv_callTy call_int1 cd_intB (wv_eqS (wv_ixT (wv_var 3 rfl (k2.mono g6.ff)) wv_int (ev_at0 _)) (wv_gstr T.LOOK)) T.int) y7.s fun H8 s8 => ⟨_, _, rfl, rfl, ?_⟩))
      show ∃ Fi u v, _ ∧ _ ∧ [some (V.ref d.b), some (V.int (g.nr + _)), _, _] = _
      rw [← hnr]
      exact nx F6 H8 (Gm.trans (Gm.trans (⟨Same.refl _, t3.y.s.trans (s4.trans s5), s4.trans s5, fun _ e _ => e⟩ : Gr F3 H2 F3 H5).gm g6) (⟨Same.refl _, y7.s.trans s8, s8, fun _ e _ => e⟩ : Gr F6 H6 F6 H8).gm) (y7.sm s8)
    · refine wb_one (w1_ifq (t := !decide ((i : Int) ∈ d.gone) && decide ((2 : Int) < ((.str e.word :: e.ps.map PyData.int : List PyData).length : Nat))) (wq_and2 (wq_notIn (.inl rfl) (wv_var 2 rfl (.int _)) (wv_self st3 rfl st.cls.gone rfl st3.gn)) fun _ => wq_gt (wv_callB call_len_seq cd_lenT (wv_var 3 rfl k2) T.len) wv_int) (t3.y.s.trans s4) (fun z' H5 s5 => ?_) (fun z' H5 s5 => ?_))
      · rw [Bool.and_eq_true] at z'
        obtain ⟨z1, z2⟩ := z'
        have z2 := of_decide_eq_true z2
        have z1 : (i : Int) ∉ d.gone := by simpa using z1
        obtain ⟨meet, p, r, rfl⟩ : ∃ meet p r, e = mtE meet p r := by
          cases e with
          | look p => exact absurd z2 (by show ¬ ((2 : Int) < (2 : Nat)); decide)
          | add p => exact absurd z2 (by show ¬ ((2 : Int) < (2 : Nat)); decide)
          | meet p q => exact ⟨true, p, q, rfl⟩
          | tell p q => exact ⟨false, p, q, rfl⟩
        have hpr : (0 ≤ p ∧ p < d.T.n) ∧ 0 ≤ r ∧ r < d.T.n := by cases meet <;> exact ⟨rg p (by simp [mtE, Ev.ps]), rg r (by simp [mtE, Ev.ps])⟩
        refine wb_one (w1_expr (we_sm cc hr st3 rfl (t3.y.s.trans (s4.trans s5)) (wa_cons (we_var 3 rfl (wa_nil ?_)))))
        refine ⟨F3, d, g, meet, p, r, w2, rfl, rfl, st3, mu3, t3.y.sm (s4.trans s5), ok, k2, hpr.1, hpr.2, fun F6 H6 g6 y6 => ?_⟩
        have y7 : Dyn K F6 H6 d g'.A g'.B g'.hs := by
          rw [es]
          unfold stepM
          simp only [if_neg z1]
          cases meet <;> exact y6
        refine wb_one (w1_aug 1 sc_B_go_through.nd ip_add rfl (Wv.int (wv_callTy call_int1 cd_intB (wv_eqS (wv_ixT (wv_var 3 rfl (k2.mono g6.ff)) wv_int (ev_at0 _)) (wv_gstr T.LOOK)) T.int) y7.s fun H8 s8 => ⟨_, _, rfl, rfl, ?_⟩))
        show ∃ Fi u v, _ ∧ _ ∧ [some (V.ref d.b), some (V.int (g.nr + _)), _, _] = _
        rw [← hnr]
        exact nx F6 H8 (Gm.trans (Gm.trans (⟨Same.refl _, t3.y.s.trans (s4.trans s5), s4.trans s5, fun _ e _ => e⟩ : Gr F3 H2 F3 H5).gm g6) (⟨Same.refl _, y7.s.trans s8, s8, fun _ e _ => e⟩ : Gr F6 H6 F6 H8).gm) (y7.sm s8)
      · have y7 : Dyn K F3 H5 d g'.A g'.B g'.hs := by
          rw [es]
          unfold stepM
          by_cases z1 : (i : Int) ∈ d.gone
          · simp only [if_pos z1]
            exact t3.y.sm (s4.trans s5)
          · simp only [if_neg z1]
            rw [decide_eq_false z1, Bool.not_false, Bool.true_and] at z z'
            cases e with
            | look p => exact absurd (of_decide_eq_false z) (fun h => h rfl)
            | add p => exact t3.y.sm (s4.trans s5)
            | meet p q => exact absurd (of_decide_eq_false z') (by show ¬ ¬ ((2 : Int) < (3 : Nat)); decide)
            | tell p q => exact absurd (of_decide_eq_false z') (by show ¬ ¬ ((2 : Int) < (3 : Nat)); decide)
        refine wb_nil (wb_one (w1_aug 1 sc_B_go_through.nd ip_add rfl (Wv.int (wv_callTy call_int1 cd_intB (wv_eqS (wv_ixT (wv_var 3 rfl k2) wv_int (ev_at0 _)) (wv_gstr T.LOOK)) T.int) y7.s fun H8 s8 => ⟨_, _, rfl, rfl, ?_⟩)))
        show ∃ Fi u v, _ ∧ _ ∧ [some (V.ref d.b), some (V.int (g.nr + _)), _, _] = _
        rw [← hnr]
        exact nx F3 H8 (⟨Same.refl _, t3.y.s.trans ((s4.trans s5).trans s8), (s4.trans s5).trans s8, fun _ e _ => e⟩ : Gr F3 H2 F3 H8).gm (y7.sm s8)
  · rintro F1 σ' H' ⟨Fi, u, v, s1, t, rfl⟩
    rw [enumD_len, List.length_map] at t
    exact q Fi H' t.g t.y
end
end K29
set_option Elab.async false
set_option linter.all false
set_option maxRecDepth 100000
set_option maxHeartbeats 4000000
namespace K29
open PySem PySem.Spec PyProof.Rows L2
/-! ### what rules keep -/
structure Cl (T : Tab) (RA RB : Int → Int → Prop) : Prop where
  sy : ∀ i j, RA i j → RA j i
  c1 : ∀ i j, i ≠ j → RB i j → RA i j
  c2 : ∀ i j k, i ≠ k → RB i j → RB j k → RB i k
  c3 : ∀ i j k, i ≠ k → k ≠ j → RB i j → RA j k → RA i k
  c4 : ∀ i j, i ≠ j → RA i j → lateM T i j = true → RB i j
def Sb (A : List (Int × Int)) (R : Int → Int → Prop) : Prop := ∀ i j, (i, j) ∈ A → R i j
/-- from (A, B) to (A', B'), r: something was found -/
structure Rl (T : Tab) (n : Int) (A B A' B' : List (Int × Int)) (r : Bool) : Prop where
  oa : okPairs n A'
  ob : okPairs n B'
  sy : Sym A'
  snd : ∀ RA RB, Cl T RA RB → Sb A RA → Sb B RB → Sb A' RA ∧ Sb B' RB
  sup : (∀ p ∈ A, p ∈ A') ∧ ∀ p ∈ B, p ∈ B'
  no : r = false → A' = A ∧ B' = B
  yes : r = true → A.length + B.length < A'.length + B'.length
theorem Rl.refl {T : Tab} {n : Int} {A B : List (Int × Int)} (h1 : okPairs n A) (h2 : okPairs n B) (h3 : Sym A) : Rl T n A B A B false := ⟨h1, h2, h3, fun _ _ _ a b => ⟨a, b⟩, ⟨fun _ h => h, fun _ h => h⟩, fun _ => ⟨rfl, rfl⟩, fun h => by cases h⟩
theorem Rl.le {T : Tab} {n : Int} {A B A' B' : List (Int × Int)} {r : Bool} (h : Rl T n A B A' B' r) : A.length + B.length ≤ A'.length + B'.length := by
  cases r with
  | true => exact Nat.le_of_lt (h.yes rfl)
  | false =>
    obtain ⟨e1, e2⟩ := h.no rfl
    rw [e1, e2]
    exact Nat.le_refl _
theorem Rl.trans {T : Tab} {n : Int} {A B A1 B1 A2 B2 : List (Int × Int)} {r1 r2 : Bool} (a : Rl T n A B A1 B1 r1) (b : Rl T n A1 B1 A2 B2 r2) : Rl T n A B A2 B2 (r1 || r2) := by
  refine ⟨b.oa, b.ob, b.sy, fun RA RB c h1 h2 => ?_, ⟨fun p h => b.sup.1 p (a.sup.1 p h), fun p h => b.sup.2 p (a.sup.2 p h)⟩, fun e => ?_, fun e => ?_⟩
  · obtain ⟨h3, h4⟩ := a.snd RA RB c h1 h2
    exact b.snd RA RB c h3 h4
  · rw [Bool.or_eq_false_iff] at e
    obtain ⟨e1, e2⟩ := a.no e.1
    obtain ⟨e3, e4⟩ := b.no e.2
    exact ⟨e3.trans e1, e4.trans e2⟩
  · have h1 := a.le
    have h2 := b.le
    rw [Bool.or_eq_true] at e
    rcases e with e | e
    · have := a.yes e
      omega
    · have := b.yes e
      omega
theorem addS_new {A : List (Int × Int)} {i j : Int} (h : hasS A i j = false) : (addS A i j).length = A.length + 2 := by
  unfold addS
  rw [if_neg (by rw [h]; exact Bool.false_ne_true), List.length_append]
  rfl
theorem add1_new {A : List (Int × Int)} {i j : Int} (h : hasS A i j = false) : (add1 A i j).length = A.length + 1 := by
  unfold add1
  rw [if_neg (by rw [h]; exact Bool.false_ne_true), List.length_append]
  rfl
theorem addS_old {A : List (Int × Int)} {i j : Int} (h : hasS A i j = true) : addS A i j = A := by
  unfold addS
  rw [if_pos h]
theorem add1_old {A : List (Int × Int)} {i j : Int} (h : hasS A i j = true) : add1 A i j = A := by
  unfold add1
  rw [if_pos h]
section
variable {T : Tab} {n i j : Int} {A B : List (Int × Int)}
theorem Rl.bind (h1 : okPairs n A) (h2 : okPairs n B) (h3 : Sym A) (hi : 0 ≤ i ∧ i < n) (hj : 0 ≤ j ∧ j < n) (w : ∀ RA RB, Cl T RA RB → Sb A RA → Sb B RB → i ≠ j → RA i j) : Rl T n A B (addS A i j) B (!hasS A i j) := by
  refine ⟨h1.addS h3 hi hj, h2, h3.addS, fun RA RB c a b => ⟨fun x y h => ?_, b⟩, ⟨fun p h => mem_addS.mpr (.inl h), fun p h => h⟩, fun e => ⟨addS_old (by simpa using e), rfl⟩, fun e => ?_⟩
  · rcases mem_addS.mp h with h | ⟨ne, _, z | z⟩
    · exact a _ _ h
    · obtain ⟨rfl, rfl⟩ := Prod.mk.inj z
      exact w RA RB c a b ne
    · obtain ⟨rfl, rfl⟩ := Prod.mk.inj z
      exact c.sy _ _ (w RA RB c a b ne)
  · rw [addS_new (by simpa using e)]
    omega
theorem Rl.lower (h1 : okPairs n A) (h2 : okPairs n B) (h3 : Sym A) (hi : 0 ≤ i ∧ i < n) (hj : 0 ≤ j ∧ j < n) (w : ∀ RA RB, Cl T RA RB → Sb A RA → Sb B RB → i ≠ j → RB i j) : Rl T n A B A (add1 B i j) (!hasS B i j) := by
  refine ⟨h1, h2.add1 hi hj, h3, fun RA RB c a b => ⟨a, fun x y h => ?_⟩, ⟨fun p h => h, fun p h => mem_add1.mpr (.inl h)⟩, fun e => ⟨rfl, add1_old (by simpa using e)⟩, fun e => ?_⟩
  · rcases mem_add1.mp h with h | ⟨ne, _, z⟩
    · exact b _ _ h
    · obtain ⟨rfl, rfl⟩ := Prod.mk.inj z
      exact w RA RB c a b ne
  · rw [add1_new (by simpa using e)]
    omega
end
/-- nothing is left to find at (i, j) -/
structure Dn (T : Tab) (n : Int) (A B : List (Int × Int)) (i j : Int) : Prop where
  d1 : (i, j) ∈ B → hasS A i j = true
  d2 : (i, j) ∈ B → ∀ k, 0 ≤ k → k < n → (j, k) ∈ B → hasS B i k = true
  d3 : (i, j) ∈ B → ∀ k, 0 ≤ k → k < n → k ≠ j → hasS A j k = true → hasS A i k = true
  d4 : i ≠ j → hasS A i j = true → lateM T i j = true → hasS B i j = true
section
variable {X : Cx} {σ : L2.St} {F H : Hp} {D : Ends} {a b c e : Expr} {x : Str} {pos p apos cpos : Pos} {d : Bd} {j0 : Nat} {i j : Int} {ds : List PyData} {A B : List (Int × Int)} {hs : Int → List Int} {Q : VK}
/-- l.append(e), whatever e does -/
theorem w1_appE (n : Nat) {l : Addr} {acc0 : List V} (hs : σ[n]? = some (some (.ref l))) (hl : H l = some (.lst acc0)) (he : We X e σ H fun v H1 => ∃ acc, H1 l = some (.lst acc) ∧ acc.length ≤ 1000 ∧ D.nx σ (upd H1 l (.lst (acc ++ [v])))) (hN : X.N[n]? = some x := by rfl) (hv : Vis X.env.scope x := by first | exact Or.inl rfl | exact Or.inr (Or.inl rfl) | exact Or.inr (Or.inr rfl)) (hd : (x == ("__debug__" : Str)) = false := by decide) (hcd : (x == ("__classdict__" : Str)) = false := by decide)
    (hbase : attributeBase (.Name x p) "append" X.env (eval (.Name x p) X.env) = eval (.Name x p) X.env := by rfl)
    (hfew : ((backTo cpos (starEach (e :: []) X.env)).all (fun x => !x.1) && (backToKw cpos (keywordEach [] X.env)).all (fun x => x.1.isSome) && decide ((e :: []).length + ([] : List Keyword).length + (if ([] : List Keyword).isEmpty then 0 else 1) < 30)) = true := by rfl)
    (hline : (apos.endLine == cpos.line) = true := by rfl) (hst : starEach (e :: []) X.env = (false, eval e X.env) :: starEach [] X.env := by rfl) (hplain : (backTo cpos (starEach [] X.env)).any (·.1) = false := by rfl) (hsw : swapsWith (.Call (.Attribute (.Name x p) "append" apos) [e] [] cpos) none pos.line X.env = pure false := by rfl) :
    W1 X (.Expr (.Call (.Attribute (.Name x p) "append" apos) [e] [] cpos) pos) D σ H :=
  w1_expr (we_of (pe_bm PySem.F.plainAttrs_list PySem.F.slot_list_append PySem.F.type_list_append mt_append we_pe wa_pa hbase hfew hline hst hplain) ((we_of (pe_var hN hv hd hcd) ⟨_, hs, ⟨tyL hl, wa_cons (he.mono fun v H1 ⟨acc, e1, e2, e3⟩ => wa_nil ⟨l, acc, v, rfl, rfl, e1, Nat.lt_of_le_of_lt e2 (by decide), e3⟩) hst⟩⟩ : We X (.Name x p) σ H _))) hsw
theorem wv_many (cm : C8.Met X.prog X.w X.K X.mg X.base 1 d.C "many" (spMany d.C X.K) []) (hr : Room j0 X.A) (st : Sta X.K F d) (hs0 : σ[0]? = some (some (.ref d.b))) (hk : 1 ≤ j0 := by decide) (hN : X.N[0]? = some ("self" : Str) := by rfl) (hv : Vis X.env.scope "self" := by first | exact Or.inl rfl | exact Or.inr (Or.inl rfl) | exact Or.inr (Or.inr rfl)) {pl : Sem Bool}
    (ht : eval (.Call (.Attribute (.Name "self" p) "many" apos) [] [] pos) X.env = (do
      let ov ← eval (.Name "self" p) X.env
      standAt apos.atName
      let (f, first) ← holding [ov] (getMethod ov "many" pl)
      callWith pos f first (backTo pos (starEach [] X.env)) (backToKw pos (keywordEach [] X.env))) := by rfl) : Wv X (.Call (.Attribute (.Name "self" p) "many" apos) [] [] pos) σ F (.int (nL d)) := wv_scal (fun _ => .int _) fun H s Q q =>
  we_sm0 (pl := pl) cm hr st hs0 s ⟨F, d, rfl, rfl, s, st, q⟩ hk rfl hN hv ht
theorem wa3 {Qa : List V → Hp → Prop} (ha : Iv X a σ H i) (hb : Iv X b σ H j) (hc : Wv X c σ F (.list ds)) (s : Same F H) (q : ∀ v F' H', Gr F H F' H' → Dq X.K F' v (.list ds) → Qa [.int i, .int j, v] H') (e1 : starEach [a, b, c] X.env = (false, eval a X.env) :: starEach [b, c] X.env := by rfl) (e2 : starEach [b, c] X.env = (false, eval b X.env) :: starEach [c] X.env := by rfl) (e3 : starEach [c] X.env = (false, eval c X.env) :: starEach [] X.env := by rfl) : Wa X [a, b, c] σ H Qa :=
  wa_cons (ha H (Same.refl _) _ fun H1 s1 => wa_cons (hb H1 s1 _ fun H2 s2 => wa_cons (hc.go (s.trans (s1.trans s2)) fun v F3 H3 g3 d3 => wa_nil (q v F3 H3 ⟨g3.ff, g3.fh, (s1.trans s2).trans g3.hh, fun x e n => g3.fr x e fun z => n ((s1.trans s2).free z)⟩ d3)) e3) e2) e1
theorem wt_and3 {Qt : Bool → Hp → Prop} (h : Wt X a σ H fun k H1 => if k = true then Wt X b σ H1 fun k H2 => if k = true then Wt X c σ H2 Qt else Qt false H2 else Qt false H1) : Wt X (.BoolOp .And [a, b, c] pos) σ H Qt := wt_of (PW.pt (pw_and wt_pt (pw_and wt_pt (pw_and1 wt_pt)))) h
end
/-- the state within rules -/
structure RS (K : PySem.W.Frag) (G H0 F H : Hp) (d : Bd) (l : Addr) (A0 B0 A B : List (Int × Int)) (hs : Int → List Int) (bs : List Bool) : Prop where
  t : Stt K G H0 F H d A B hs
  fl : F l = none
  hl : H l = some (.lst (bs.map V.bl))
  rl : Rl d.T (nL d) A0 B0 A B (bs.any id)
section
variable {K : PySem.W.Frag} {G H0 F H F1 H1 : Hp} {d : Bd} {l : Addr} {A0 B0 A B A1 B1 : List (Int × Int)} {hs hs1 : Int → List Int} {bs : List Bool} {r : Bool}
theorem Dyn.notM (h : Dyn K F H d A B hs) (n : H l = none) : ¬ d.M l := fun z => by
  obtain ⟨kvs, e1, _⟩ := h.h
  obtain ⟨fa, e2, _⟩ := h.f
  rcases z with rfl | rfl | rfl | rfl
  · rw [h.a] at n; cases n
  · rw [h.b] at n; cases n
  · rw [e1] at n; cases n
  · rw [e2] at n; cases n
theorem Dyn.updL (h : Dyn K F H d A B hs) (n : ¬ d.M l) (f : F l = none) {o : HO} : Dyn K F (upd H l o) d A B hs := by
  obtain ⟨kvs, e1, e2⟩ := h.h
  obtain ⟨fa, e3, e4⟩ := h.f
  have k : ∀ a, d.M a → upd H l o a = H a := fun a m => upd_ne (fun e => n (e ▸ m))
  exact ⟨same_mut h.s f, (k _ (.inl rfl)).trans h.a, (k _ (.inr (.inl rfl))).trans h.b, ⟨kvs, (k _ (.inr (.inr (.inl rfl)))).trans e1, e2⟩, ⟨fa, (k _ (.inr (.inr (.inr rfl)))).trans e3, e4⟩⟩
theorem any_snoc (bs : List Bool) (r : Bool) : (bs ++ [r]).any id = (bs.any id || r) := by
  rw [List.any_append, List.any_cons, List.any_nil, Bool.or_false]
  rfl
theorem RS.app (h : RS K G H0 F H d l A0 B0 A B hs bs) (nl : H0 l = none) (nm : ¬ d.M l) (g : Gm d.M F H F1 H1) (y : Dyn K F1 H1 d A1 B1 hs) (rl : Rl d.T (nL d) A B A1 B1 r) : H1 l = some (.lst (bs.map V.bl)) ∧ RS K G H0 F1 (upd H1 l (.lst (bs.map V.bl ++ [V.bl r]))) d l A0 B0 A1 B1 hs (bs ++ [r]) := by
  have e : H1 l = some (.lst (bs.map V.bl)) := g.hh _ _ nm h.hl
  have f1 : F1 l = none := g.noF h.fl h.hl
  refine ⟨e, ⟨(h.t.g.trans g).mut (.inr nl) f1, y.updL nm f1⟩, f1, by rw [upd_same, List.map_append] <;> rfl, ?_⟩
  rw [any_snoc]
  exact h.rl.trans rl
theorem RS.gr (h : RS K G H0 F H d l A0 B0 A B hs bs) (g : Gr F H F1 H1) : RS K G H0 F1 H1 d l A0 B0 A B hs bs := ⟨h.t.gr g, g.noF h.fl h.hl, g.hh _ _ h.hl, h.rl⟩
theorem RS.sm (h : RS K G H0 F H d l A0 B0 A B hs bs) (s : Same H H1) : RS K G H0 F H1 d l A0 B0 A B hs bs := h.gr ⟨Same.refl _, h.t.y.s.trans s, s, fun _ e _ => e⟩
end
end K29
set_option Elab.async false
set_option linter.all false
set_option maxRecDepth 100000
set_option maxHeartbeats 4000000
namespace K29
open PySem PySem.Spec PyProof.Rows L2
theorem W1.nx {X : Cx} {st : Stmt} {D : Ends} {σ : L2.St} {H : Hp} (J : L2.St → Hp → Prop) (h : W1 X st { D with nx := J } σ H) (k : ∀ σ H, J σ H → D.nx σ H) : W1 X st D σ H := fun pins s I => thn (h pins s I) fun fl s' z => by
  cases fl with
  | next =>
    obtain ⟨σ', H', I', q⟩ := z
    exact ⟨σ', H', I', k _ _ q⟩
  | ret u => exact z
  | brk => exact z
  | cont => exact z
theorem wb_via {X : Cx} {st : Stmt} {sts : List Stmt} {D : Ends} {σ : L2.St} {H : Hp} (J : L2.St → Hp → Prop) (h : W1 X st { D with nx := J } σ H) (k : ∀ σ H, J σ H → Wb X sts D σ H) : Wb X (st :: sts) D σ H := wb_cons (W1.nx J h k)
theorem rangeD_at {lo : Int} {n i : Nat} {d : PyData} (h : (rangeD lo n)[i]? = some d) : i < n ∧ d = .int (lo + (i : Nat)) := by
  unfold rangeD at h
  rw [List.getElem?_map] at h
  by_cases z : i < n
  · rw [List.getElem?_range z] at h
    cases h
    exact ⟨z, rfl⟩
  · rw [List.getElem?_eq_none (by rw [List.length_range]; omega)] at h
    cases h
theorem rangeD_len (lo : Int) (n : Nat) : (rangeD lo n).length = n := by
  unfold rangeD
  rw [List.length_map, List.length_range]
section
variable {P : Program} {w : World} {K : PySem.W.Frag} {mg : Str → Option Value} {base : Heap} {f : Addr} {fd : FuncData} {C : Addr}
abbrev n_B_rules : List Str := ["self", "one", "other", "found", "third"]
theorem sc_B_rules : FnScope n_B_rules ["self", "one", "other"] (C8.fnScope s_B_rules) := C8.fnScope_by (by decide +kernel)
def spRules (C : Addr) (K : PySem.W.Frag) : Sp := fun vs H Q _ => ∃ (F : Hp) (d : Bd) (A B : List (Int × Int)) (hs : Int → List Int) (i j : Int), vs = [.ref d.b, .int i, .int j] ∧ C = d.C ∧ Sta K F d ∧ Mu F d ∧ Dyn K F H d A B hs ∧ okPairs (nL d) A ∧ okPairs (nL d) B ∧ Sym A ∧ (0 ≤ i ∧ i < nL d) ∧ (0 ≤ j ∧ j < nL d) ∧
  ∀ A' B' r F' H', Rl d.T (nL d) A B A' B' r → (r = false → Dn d.T (nL d) A B i j) → Gm d.M F H F' H' → Dyn K F' H' d A' B' hs → Q (.bl r) H'
theorem c_B_rules (T : Txt K mg) (BC : Bcls K C) (cm : C8.Met P w K mg base 1 C "many" (spMany C K) []) (ca : C8.Met P w K mg base 1 C "is_alike" (spAlike C K) []) (cw : C8.Met P w K mg base 1 C "is_below" (spBelow C K) []) (ct : C8.Met P w K mg base 1 C "is_late" (spLate C K) [])
    (cb : C8.Met P w K mg base 2 C "bind" (spBind C K) []) (cl : C8.Met P w K mg base 2 C "lower" (spLower C K) []) (me : Meth K C "rules" f) (F : C8.Fun K "rules" "Bonds.rules" s_B_rules f fd) (b : Binds K fd ["self", "one", "other"] []) : C8.Met P w K mg base 3 C "rules" (spRules C K) [] := by
  refine metW BC.c me F b .nil sc_B_rules (fun vs H Q E ⟨G, d, A, B, hs, i, j, e, _⟩ => by rw [e]; rfl) fun cdv A00 outer s H vs Q E hr ⟨G, d, A0, B0, hs, i, j, e, ec, st, mu, dy, oa, ob, sy, hi, hj, q⟩ => ?_
  subst e
  subst ec
  have fl : nL d ≤ 8 := by have := st.fewL; unfold nL; omega
  have hu : ∀ {A : List (Int × Int)}, okPairs (nL d) A → A.length ≤ 100 := fun {A} h => Nat.le_trans (h.len fl) (by decide)
  refine wb_cons (w1_set 3 sc_B_rules.nd (we_lst (wa_nil ⟨Nat.zero_le _, fun l hl => ?_⟩)))
  have nm : ¬ d.M l := dy.notM hl
  have r0 : RS K G H G (upd H l (.lst [])) d l A0 B0 A0 B0 hs [] := ⟨⟨(Gm.refl dy.s).mut (.inr hl) (dy.s.free hl), dy.updL nm (dy.s.free hl)⟩, dy.s.free hl, upd_same, Rl.refl oa ob sy⟩
  have few1 : ∀ {F : Hp} {v : V} {ds : List PyData}, Dq K F v (.list ds) → ds.length ≤ 10 → Few K F v := fun {F v ds} h z => ⟨ds, z, .inl h⟩
  -- bind and lower within found.append
  have app : ∀ {F1 H1 : Hp} {A B : List (Int × Int)} {bs : List Bool}, RS K G H F1 H1 d l A0 B0 A B hs bs → okPairs (nL d) A ∧ okPairs (nL d) B ∧ Sym A ∧ Mu F1 d ∧ Sta K F1 d := fun {F1 H1 A B bs} r => ⟨r.rl.oa, r.rl.ob, r.rl.sy, mu.gm dy r.t.g, st.mono r.t.g.ff⟩
  -- what stands behind the first if
  let J : L2.St → Hp → Prop := fun σ' H' => ∃ F1 A B bs u, σ' = [some (.ref d.b), some (.int i), some (.int j), some (.ref l), u] ∧ RS K G H F1 H' d l A0 B0 A B hs bs ∧ bs.length ≤ 100 ∧ (bs.any id = false → ((i, j) ∈ B0 → hasS A0 i j = true) ∧ ((i, j) ∈ B0 → ∀ k, 0 ≤ k → k < nL d → (j, k) ∈ B0 → hasS B0 i k = true) ∧ ((i, j) ∈ B0 → ∀ k, 0 ≤ k → k < nL d → k ≠ j → hasS A0 j k = true → hasS A0 i k = true))
  have rest : ∀ σ' H', J σ' H' → Wb (CxD P w K mg base n_B_rules "Bonds.rules" (C8.fnScope s_B_rules) f cdv A00 outer s H E) ((C8.fnBody s_B_rules).drop 2) (DEnd Q) σ' H' := by
    rintro σ' H1 ⟨F1, A, B, bs, u, rfl, r, lb, hb⟩
    obtain ⟨oa1, ob1, sy1, mu1, st1⟩ := app r
    -- the return
    have ret : ∀ {F2 H2 : Hp} {A B : List (Int × Int)} {bs : List Bool}, RS K G H F2 H2 d l A0 B0 A B hs bs → (bs.any id = false → Dn d.T (nL d) A0 B0 i j) → Wb (CxD P w K mg base n_B_rules "Bonds.rules" (C8.fnScope s_B_rules) f cdv A00 outer s H E) ((C8.fnBody s_B_rules).drop 3) (DEnd Q) [some (.ref d.b), some (.int i), some (.int j), some (.ref l), u] H2 := fun {F2 H2 A B bs} r hdn =>
      wb_one (w1_ret (we_callB (cr_any rfl) T.any (wa_cons (we_var 3 rfl (wa_nil ⟨l, bs, rfl, SqL.of r.hl, q A B (bs.any id) F2 H2 r.rl hdn r.t.g r.t.y⟩)))))
    refine wb_cons (w1_if (wt_and3 ((wq_neI (wv_var 1 rfl (.int i)) (wv_var 2 rfl (.int j))).go r.t.y.s fun H2 s2 => ?_)))
    cases eij : decide (i = j) with
    | true =>
      refine iteF (iteF (wb_nil (ret (r.sm s2) fun z => ?_)))
      obtain ⟨h1, h2, h3⟩ := hb z
      exact ⟨h1, h2, h3, fun ne => absurd (of_decide_eq_true eij) ne⟩
    | false =>
    have ne : i ≠ j := of_decide_eq_false eij
    have r2 := r.sm s2
    refine iteT (wt_bl (we_sm ca hr st1 rfl r2.t.y.s (wa2 (iv_var 1 rfl) (iv_var 2 rfl) fun H3 s3 => ⟨F1, d, A, i, j, rfl, rfl, r2.t.y.s.trans s3, st1, s3 _ _ r2.t.y.a, fun H4 s4 => ⟨_, rfl, ?_⟩⟩)))
    have r4 := r2.sm (s3.trans s4)
    show if hasS A i j = true then _ else _
    cases ea : hasS A i j with
    | false =>
      refine iteF (iteF (wb_nil (ret r4 fun z => ?_)))
      obtain ⟨h1, h2, h3⟩ := hb z
      obtain ⟨rfl, rfl⟩ := r4.rl.no z
      exact ⟨h1, h2, h3, fun _ z => by rw [ea] at z; cases z⟩
    | true =>
    refine iteT (wt_bl (we_sm ct hr st1 rfl r4.t.y.s (wa2 (iv_var 1 rfl) (iv_var 2 rfl) fun H5 s5 => ⟨F1, d, i, j, rfl, rfl, r4.t.y.s.trans s5, st1, hi, hj, fun F6 H6 g6 => ⟨_, rfl, ?_⟩⟩)))
    have r6 := (r4.sm s5).gr g6
    cases el : lateM d.T i j with
    | false =>
      refine iteF (wb_nil (ret r6 fun z => ?_))
      obtain ⟨h1, h2, h3⟩ := hb z
      exact ⟨h1, h2, h3, fun _ _ z => by rw [el] at z; cases z⟩
    | true =>
    refine iteT (wb_one (w1_appE 3 rfl r6.hl (we_sm cl hr (st1.mono g6.ff) rfl r6.t.y.s (wa3 (iv_var 1 rfl) (iv_var 2 rfl) (ds := [.tuple [.str "alike", .int i, .int j]]) (wv_lst (wvs_cons (wv_tup (wvs_cons (wv_gstr T.ALIKE) (wvs_cons (wv_var 1 rfl (.int i)) (wvs_cons (wv_var 2 rfl (.int j)) wvs_nil)))) wvs_nil)) r6.t.y.s fun v F7 H7 g7 d7 => ?_))))
    have r7 := r6.gr g7
    obtain ⟨oa7, ob7, sy7, mu7, st7⟩ := app r7
    refine ⟨F7, d, A, B, hs, i, j, v, rfl, rfl, st7, mu7, r7.t.y, few1 d7 (Nat.le_of_ble_eq_true rfl), hu oa7, hu ob7, fun F8 H8 g8 y8 => ?_⟩
    obtain ⟨e8, r8⟩ := r7.app hl nm g8 y8 (Rl.lower oa7 ob7 sy7 hi hj fun RA RB c a b ne => c.c4 i j ne (a _ _ (by
      unfold hasS at ea
      rw [eij, Bool.false_or] at ea
      exact of_decide_eq_true ea)) el)
    refine ⟨_, e8, by rw [List.length_map]; omega, ret r8 fun z => ?_⟩
    rw [any_snoc, Bool.or_eq_false_iff] at z
    obtain ⟨h1, h2, h3⟩ := hb z.1
    obtain ⟨rfl, rfl⟩ := r7.rl.no z.1
    exact ⟨h1, h2, h3, fun _ _ _ => by simpa using z.2⟩
  refine wb_cons (w1_if (wt_bl (we_sm cw hr st rfl r0.t.y.s (wa2 (iv_var 1 rfl) (iv_var 2 rfl) fun H1 s1 => ⟨G, d, B0, i, j, rfl, rfl, r0.t.y.s.trans s1, st, s1 _ _ r0.t.y.b, fun H2 s2 => ⟨_, rfl, ?_⟩⟩))))
  have r2 := r0.sm (s1.trans s2)
  cases eb : decide ((i, j) ∈ B0) with
  | false => exact iteF (wb_nil (rest _ _ ⟨G, A0, B0, [], none, rfl, r2, Nat.zero_le _, fun _ => ⟨fun z => absurd z (of_decide_eq_false eb), fun z => absurd z (of_decide_eq_false eb), fun z => absurd z (of_decide_eq_false eb)⟩⟩))
  | true =>
  have mb : (i, j) ∈ B0 := of_decide_eq_true eb
  refine iteT (wb_cons (w1_appE 3 rfl r2.hl (we_sm cb hr st rfl r2.t.y.s (wa3 (iv_var 1 rfl) (iv_var 2 rfl) (ds := [.tuple [.str "begins", .int i, .int j]]) (wv_lst (wvs_cons (wv_tup (wvs_cons (wv_gstr T.BEGINS) (wvs_cons (wv_var 1 rfl (.int i)) (wvs_cons (wv_var 2 rfl (.int j)) wvs_nil)))) wvs_nil)) r2.t.y.s fun v F3 H3 g3 d3 => ?_))))
  have r3 := r2.gr g3
  obtain ⟨oa3, ob3, sy3, mu3, st3⟩ := app r3
  refine ⟨F3, d, A0, B0, hs, i, j, v, rfl, rfl, st3, mu3, r3.t.y, few1 d3 (Nat.le_of_ble_eq_true rfl), sy3, hu oa3, hu ob3, fun F4 H4 g4 y4 => ?_⟩
  obtain ⟨e4, r4⟩ := r3.app hl nm g4 y4 (Rl.bind oa3 ob3 sy3 hi hj fun RA RB c a b ne => c.c1 i j ne (b _ _ mb))
  refine ⟨_, e4, by rw [List.length_map]; exact Nat.zero_le _, ?_⟩
  generalize upd H4 l (.lst (([] : List Bool).map V.bl ++ [V.bl (!hasS A0 i j)])) = H5 at r4
  have nn : (nL d).toNat ≤ 8 := by omega
  have st4 := st.mono r4.t.g.ff
  refine wb_one (w1_forH (ds := rangeD 0 (nL d).toNat) (fun F5 kk σ' H' => ∃ Fi A B bs u, Same F5 Fi ∧ σ' = [some (.ref d.b), some (.int i), some (.int j), some (.ref l), u] ∧ RS K G H Fi H' d l A0 B0 A B hs bs ∧ bs.length ≤ 1 + 2 * kk ∧ (bs.any id = false → hasS A0 i j = true ∧ ∀ k : Int, 0 ≤ k → k < (kk : Int) → ((j, k) ∈ B0 → hasS B0 i k = true) ∧ (k ≠ j → hasS A0 j k = true → hasS A0 i k = true)))
    ((wsrc_range1 T.range (wv_many cm hr st4 rfl) ⟨by omega, by omega⟩).at_ r4.t.y.s) (fun F5 H6 g5 => ⟨F5, _, _, _, none, Same.refl _, rfl, r4.gr g5, by show 1 ≤ 1 + 2 * 0; decide, fun z => ⟨by simpa using z, fun k h0 h1 => by omega⟩⟩) (fun F5 kk σ' H' ⟨Fi, A, B, bs, u, s5, _, r, _⟩ => s5.trans r.t.y.s) ?_ ?_)
  · rintro F5 kk dd v σ' H6 H7 ed ⟨Fi, A, B, bs, u, s5, rfl, r, lb, hb⟩ hy
    obtain ⟨F8, g8, dv⟩ := hy Fi s5 r.t.y.s
    obtain ⟨hkk, rfl⟩ := rangeD_at ed
    rw [dv.int_inv, Int.zero_add]
    have hk0 : (0 : Int) ≤ (kk : Int) ∧ (kk : Int) < nL d := by omega
    have r8 := r.gr g8
    obtain ⟨oa8, ob8, sy8, mu8, st8⟩ := app r8
    have s58 := s5.trans g8.ff
    have mbB : (i, j) ∈ B := r8.rl.sup.2 _ mb
    refine wg_name 4 sc_B_rules.nd (wb_via (fun σ' H' => ∃ F9 A B bs, σ' = [some (.ref d.b), some (.int i), some (.int j), some (.ref l), some (.int (kk : Int))] ∧ Same F5 F9 ∧ RS K G H F9 H' d l A0 B0 A B hs bs ∧ bs.length ≤ 1 + 2 * kk + 1 ∧ (bs.any id = false → hasS A0 i j = true ∧ (∀ k : Int, 0 ≤ k → k < (kk : Int) → ((j, k) ∈ B0 → hasS B0 i k = true) ∧ (k ≠ j → hasS A0 j k = true → hasS A0 i k = true)) ∧ ((j, (kk : Int)) ∈ B0 → hasS B0 i kk = true))) ?_ ?_)
    · refine w1_if (wt_bl (we_sm cw hr st8 rfl r8.t.y.s (wa2 (iv_var 2 rfl) (iv_var 4 rfl) fun H9 s9 => ⟨F8, d, B, j, kk, rfl, rfl, r8.t.y.s.trans s9, st8, s9 _ _ r8.t.y.b, fun H10 s10 => ⟨_, rfl, ?_⟩⟩)))
      have r10 := r8.sm (s9.trans s10)
      cases e1 : decide ((j, (kk : Int)) ∈ B) with
      | false =>
        refine iteF (wb_nil ?_)
        refine ⟨F8, A, B, bs, rfl, s58, r10, by omega, fun z => ?_⟩
        obtain ⟨h1, h2⟩ := hb z
        obtain ⟨rfl, rfl⟩ := r10.rl.no z
        exact ⟨h1, h2, fun m => absurd m (of_decide_eq_false e1)⟩
      | true =>
        have m1 : (j, (kk : Int)) ∈ B := of_decide_eq_true e1
        refine iteT (wb_one (w1_appE 3 rfl r10.hl (we_sm cl hr st8 rfl r10.t.y.s (wa3 (iv_var 1 rfl) (iv_var 4 rfl) (ds := [.tuple [.str "begins", .int i, .int j], .tuple [.str "begins", .int j, .int kk]]) (wv_lst (wvs_cons (wv_tup (wvs_cons (wv_gstr T.BEGINS) (wvs_cons (wv_var 1 rfl (.int i)) (wvs_cons (wv_var 2 rfl (.int j)) wvs_nil)))) (wvs_cons (wv_tup (wvs_cons (wv_gstr T.BEGINS) (wvs_cons (wv_var 2 rfl (.int j)) (wvs_cons (wv_var 4 rfl (.int (kk : Int))) wvs_nil)))) wvs_nil))) r10.t.y.s fun v F11 H11 g11 d11 => ?_))))
        have r11 := r10.gr g11
        obtain ⟨oa11, ob11, sy11, mu11, st11⟩ := app r11
        refine ⟨F11, d, A, B, hs, i, kk, v, rfl, rfl, st11, mu11, r11.t.y, few1 d11 (Nat.le_of_ble_eq_true rfl), hu oa11, hu ob11, fun F12 H12 g12 y12 => ?_⟩
        obtain ⟨e12, r12⟩ := r11.app hl nm g12 y12 (Rl.lower oa11 ob11 sy11 hi hk0 fun RA RB c a b ne => c.c2 i j kk ne (b _ _ mbB) (b _ _ m1))
        refine ⟨_, e12, by rw [List.length_map]; omega, ⟨F12, A, _, _, rfl, (s58.trans g11.ff).trans g12.ff, r12, by rw [List.length_append]; show _ + 1 ≤ _; omega, fun z => ?_⟩⟩
        rw [any_snoc, Bool.or_eq_false_iff] at z
        obtain ⟨h1, h2⟩ := hb z.1
        obtain ⟨rfl, rfl⟩ := r11.rl.no z.1
        exact ⟨h1, h2, fun _ => by simpa using z.2⟩
    · rintro σ' H9 ⟨F9, A, B, bs, rfl, s59, r9, lb9, hb9⟩
      obtain ⟨oa9, ob9, sy9, mu9, st9⟩ := app r9
      have mbB : (i, j) ∈ B := r9.rl.sup.2 _ mb
      have fin : ∀ {F10 H10 A B bs}, Same F5 F10 → RS K G H F10 H10 d l A0 B0 A B hs bs → bs.length ≤ 1 + 2 * (kk + 1) → (bs.any id = false → hasS A0 i j = true ∧ (∀ k : Int, 0 ≤ k → k < (kk : Int) → ((j, k) ∈ B0 → hasS B0 i k = true) ∧ (k ≠ j → hasS A0 j k = true → hasS A0 i k = true)) ∧ ((j, (kk : Int)) ∈ B0 → hasS B0 i kk = true) ∧ ((kk : Int) ≠ j → hasS A0 j kk = true → hasS A0 i kk = true)) →
          ∃ Fi A B bs u, Same F5 Fi ∧ [some (V.ref d.b), some (.int i), some (.int j), some (.ref l), some (.int (kk : Int))] = [some (V.ref d.b), some (.int i), some (.int j), some (.ref l), u] ∧ RS K G H Fi H10 d l A0 B0 A B hs bs ∧ bs.length ≤ 1 + 2 * (kk + 1) ∧ (bs.any id = false → hasS A0 i j = true ∧ ∀ k : Int, 0 ≤ k → k < ((kk + 1 : Nat) : Int) → ((j, k) ∈ B0 → hasS B0 i k = true) ∧ (k ≠ j → hasS A0 j k = true → hasS A0 i k = true)) := fun {F10 H10 A B bs} s r lb hb => ⟨F10, A, B, bs, _, s, rfl, r, lb, fun z => by
        obtain ⟨h1, h2, h3, h4⟩ := hb z
        refine ⟨h1, fun k k0 k1 => ?_⟩
        by_cases e : k = (kk : Int)
        · subst e
          exact ⟨h3, h4⟩
        · exact h2 k k0 (by omega)⟩
      refine wb_one (w1_if (wt_and2 ((wq_neI (wv_var 4 rfl (.int (kk : Int))) (wv_var 2 rfl (.int j))).go r9.t.y.s fun H10 s10 => ?_)))
      have r10 := r9.sm s10
      cases e2 : decide ((kk : Int) = j) with
      | true =>
        refine iteF (iteF (wb_nil (fin s59 r10 (by omega) fun z => ?_)))
        obtain ⟨h1, h2, h3⟩ := hb9 z
        exact ⟨h1, h2, h3, fun ne => absurd (of_decide_eq_true e2) ne⟩
      | false =>
      have nkj : (kk : Int) ≠ j := of_decide_eq_false e2
      refine iteT (wt_bl (we_sm ca hr st9 rfl r10.t.y.s (wa2 (iv_var 2 rfl) (iv_var 4 rfl) fun H11 s11 => ⟨F9, d, A, j, kk, rfl, rfl, r10.t.y.s.trans s11, st9, s11 _ _ r10.t.y.a, fun H12 s12 => ⟨_, rfl, ?_⟩⟩)))
      have r12 := r10.sm (s11.trans s12)
      show if hasS A j kk = true then _ else _
      cases e3 : hasS A j kk with
      | false =>
        refine iteF (wb_nil (fin s59 r12 (by omega) fun z => ?_))
        obtain ⟨h1, h2, h3⟩ := hb9 z
        obtain ⟨rfl, rfl⟩ := r12.rl.no z
        exact ⟨h1, h2, h3, fun _ z => by rw [e3] at z; cases z⟩
      | true =>
        have m2 : (j, (kk : Int)) ∈ A := by
          unfold hasS at e3
          rw [decide_eq_false (Ne.symm nkj), Bool.false_or] at e3
          exact of_decide_eq_true e3
        refine iteT (wb_one (w1_appE 3 rfl r12.hl (we_sm cb hr st9 rfl r12.t.y.s (wa3 (iv_var 1 rfl) (iv_var 4 rfl) (ds := [.tuple [.str "begins", .int i, .int j], .tuple [.str "alike", .int j, .int kk]]) (wv_lst (wvs_cons (wv_tup (wvs_cons (wv_gstr T.BEGINS) (wvs_cons (wv_var 1 rfl (.int i)) (wvs_cons (wv_var 2 rfl (.int j)) wvs_nil)))) (wvs_cons (wv_tup (wvs_cons (wv_gstr T.ALIKE) (wvs_cons (wv_var 2 rfl (.int j)) (wvs_cons (wv_var 4 rfl (.int (kk : Int))) wvs_nil)))) wvs_nil))) r12.t.y.s fun v F13 H13 g13 d13 => ?_))))
        have r13 := r12.gr g13
        obtain ⟨oa13, ob13, sy13, mu13, st13⟩ := app r13
        refine ⟨F13, d, A, B, hs, i, kk, v, rfl, rfl, st13, mu13, r13.t.y, few1 d13 (Nat.le_of_ble_eq_true rfl), sy13, hu oa13, hu ob13, fun F14 H14 g14 y14 => ?_⟩
        obtain ⟨e14, r14⟩ := r13.app hl nm g14 y14 (Rl.bind oa13 ob13 sy13 hi hk0 fun RA RB c a b ne => c.c3 i j kk ne nkj (b _ _ mbB) (a _ _ m2))
        refine ⟨_, e14, by rw [List.length_map]; omega, fin ((s59.trans g13.ff).trans g14.ff) r14 (by rw [List.length_append]; show _ + 1 ≤ _; omega) fun z => ?_⟩
        rw [any_snoc, Bool.or_eq_false_iff] at z
        obtain ⟨h1, h2, h3⟩ := hb9 z.1
        obtain ⟨rfl, rfl⟩ := r13.rl.no z.1
        exact ⟨h1, h2, h3, fun _ _ => by simpa using z.2⟩
  · rintro F5 σ' H6 ⟨Fi, A, B, bs, u, s5, rfl, r, lb, hb⟩
    rw [rangeD_len] at lb hb
    refine rest _ _ ⟨Fi, A, B, bs, u, rfl, r, by omega, fun z => ?_⟩
    obtain ⟨h1, h2⟩ := hb z
    exact ⟨fun _ => h1, fun _ k k0 k1 => (h2 k k0 (by omega)).1, fun _ k k0 k1 => (h2 k k0 (by omega)).2⟩
end
end K29
set_option Elab.async false
set_option linter.all false
set_option maxRecDepth 100000
set_option maxHeartbeats 4000000
namespace K29
open PySem PySem.Spec PyProof.Rows L2
theorem Wsrc.go {X : Cx} {tg it : Expr} {σ : L2.St} {F H : Hp} {ds : List PyData} {R : It → Hp → Prop} (h : Wsrc X tg it σ F ds) (s : Same F H) (k : ∀ J F' H', Gr F H F' H' → Src X.K J F' ds → R J H') : Wi X tg it σ H R := h H s R k
def AllDn (T : Tab) (n : Int) (A B : List (Int × Int)) : Prop := ∀ i j, 0 ≤ i → i < n → 0 ≤ j → j < n → Dn T n A B i j
section
variable {P : Program} {w : World} {K : PySem.W.Frag} {mg : Str → Option Value} {base : Heap} {f : Addr} {fd : FuncData} {C : Addr}
abbrev n_B_close : List Str := ["self", "goes_on", "one", "other"]
theorem sc_B_close : FnScope n_B_close ["self"] (C8.fnScope s_B_close) := C8.fnScope_by (by decide +kernel)
def spClose (C : Addr) (K : PySem.W.Frag) : Sp := fun vs H Q _ => ∃ (F : Hp) (d : Bd) (A B : List (Int × Int)) (hs : Int → List Int), vs = [.ref d.b] ∧ C = d.C ∧ Sta K F d ∧ Mu F d ∧ Dyn K F H d A B hs ∧ okPairs (nL d) A ∧ okPairs (nL d) B ∧ Sym A ∧
  ∀ A' B' r F' H', Rl d.T (nL d) A B A' B' r → AllDn d.T (nL d) A' B' → Gm d.M F H F' H' → Dyn K F' H' d A' B' hs → Q .non H'
theorem c_B_close (T : Txt K mg) (BC : Bcls K C) (cm : C8.Met P w K mg base 1 C "many" (spMany C K) []) (cr : C8.Met P w K mg base 3 C "rules" (spRules C K) []) (me : Meth K C "close" f) (F : C8.Fun K "close" "Bonds.close" s_B_close f fd) (b : Binds K fd ["self"] []) : C8.Met P w K mg base 4 C "close" (spClose C K) [] := by
  refine metW BC.c me F b .nil sc_B_close (fun vs H Q E ⟨G, d, A, B, hs, e, _⟩ => by rw [e]; rfl) fun cdv A00 outer s H vs Q E hr ⟨G, d, A0, B0, hs, e, ec, st, mu, dy, oa, ob, sy, q⟩ => ?_
  subst e
  subst ec
  have fl : nL d ≤ 8 := by have := st.fewL; unfold nL; omega
  have n0 : 0 ≤ nL d := by unfold nL; omega
  have nn : (nL d).toNat ≤ 8 := by omega
  refine wb_cons (w1_set 1 sc_B_close.nd ((wv_bl (F := G) (k := true)).bl dy.s fun H1 s1 => ?_))
  have t1 : Stt K G H G H1 d A0 B0 hs := ⟨(⟨Same.refl _, dy.s.trans s1, s1, fun _ e _ => e⟩ : Gr G H G H1).gm, dy.sm s1⟩
  refine wb_one (w1_while ⟨fun m σ' H' => ∃ Fi A B gb u v r, σ' = [some (.ref d.b), some (.bl gb), u, v] ∧ Stt K G H Fi H' d A B hs ∧ Rl d.T (nL d) A0 B0 A B r ∧ (gb = false → AllDn d.T (nL d) A B) ∧ m = 2 * (200 - (A.length + B.length)) + (if gb = true then 1 else 0), ⟨_, G, A0, B0, true, none, none, false, rfl, t1, Rl.refl oa ob sy, (fun z => by cases z), rfl⟩, ?_⟩)
  rintro m σ' H2 ⟨Fi, A, B, gb, u, v, r, rfl, t, rl, hdn, rfl⟩
  have st2 := st.mono t.g.ff
  have lu := rl.oa.len fl
  have lv := rl.ob.len fl
  refine wt_bl (we_var 1 rfl ⟨gb, rfl, ?_⟩)
  cases gb with
  | false => exact iteF (q A B r Fi H2 rl (hdn rfl) t.g t.y)
  | true =>
  refine iteT ⟨fun σ' H' => ∃ Fi A' B' gb u v r, σ' = [some (.ref d.b), some (.bl gb), u, v] ∧ Stt K G H Fi H' d A' B' hs ∧ Rl d.T (nL d) A0 B0 A' B' r ∧ (gb = false → AllDn d.T (nL d) A' B') ∧ Rl d.T (nL d) A B A' B' gb, ?_, ?_⟩
  · rintro σ' H' ⟨Fi, A', B', gb, u, v, r, rfl, t', rl', hdn', rl2⟩
    refine ⟨_, ?_, Fi, A', B', gb, u, v, r, rfl, t', rl', hdn', rfl⟩
    have h1 := rl2.le
    have h2 := rl'.oa.len fl
    have h3 := rl'.ob.len fl
    cases gb with
    | false =>
      rw [if_neg Bool.false_ne_true, if_pos rfl]
      omega
    | true =>
      have := rl2.yes rfl
      rw [if_pos rfl]
      omega
  refine wb_one (w1_set 1 sc_B_close.nd (we_callB (cr_any rfl) T.any (wa_cons (we_lc2 (vs1 := [3]) sc_B_close.nd (blkOk_by (own := [("one", 2), ("other", 3)]) (N := n_B_close) (sc := C8.fnScope s_B_close) (by decide +kernel))
    (lc2_it (ds := rangeD 0 (nL d).toNat) (wsrc_range1 T.range (wv_many cm hr st2 rfl) ⟨n0, by omega⟩) t.y.s
      (fun F1 D i H' => ∃ Fj A' B' bs, Same F1 Fj ∧ H D = none ∧ ¬ d.M D ∧ RS K G H Fj H' d D A B A' B' hs bs ∧ bs.length ≤ i * (nL d).toNat ∧ (bs.any id = false → ∀ a b : Int, 0 ≤ a → a < (i : Int) → 0 ≤ b → b < nL d → Dn d.T (nL d) A B a b)) ?_ ?_ ?_ ?_)))))
  · intro F1 H3 D g hD
    have t3 := t.gr g
    have nm := t3.y.notM hD
    have hD0 : H D = none := t3.g.th D hD
    exact ⟨F1, A, B, [], Same.refl _, hD0, nm, ⟨⟨t3.g.mut (.inr hD0) (g.fh.free hD), t3.y.updL nm (g.fh.free hD)⟩, g.fh.free hD, upd_same, Rl.refl rl.oa rl.ob rl.sy⟩, Nat.zero_le _, fun _ a b h1 h2 => by omega⟩
  · exact fun F1 D i H' ⟨Fj, A', B', bs, s1, _, _, r, _⟩ => s1.trans r.t.y.s
  · rintro F1 D i dd v' H3 H4 ed ⟨Fj, A', B', bs, sF, hD0, nm, rs, lb, hb⟩ hy
    obtain ⟨F5, g5, dv⟩ := hy Fj sF rs.t.y.s
    obtain ⟨hi, rfl⟩ := rangeD_at ed
    rw [dv.int_inv, Int.zero_add]
    have r5 := rs.gr g5
    have st5 := st.mono r5.t.g.ff
    intro s0 Hx C1 cl1 fp1
    refine wg_of (pg_name (i := 2) sc_B_close.nd rfl (Or.inl rfl)) ⟨rfl, ?_⟩
    refine ts_nil (F := F5) H4 r5.t.y.s _ fun H6 s6 => iteT ?_
    have r6 := r5.sm s6
    intro s0 Hx C1 cl1 fp1
    refine Wsrc.go (F := F5) (ds := rangeD 0 (nL d).toNat) (wsrc_range1 T.range (wv_many cm hr st5 rfl) ⟨n0, by omega⟩) r6.t.y.s fun J F7 H7 g7 hJ => ?_
    have r7 := r6.gr g7
    refine lc2_in (Xb := CxD P w K mg base n_B_close "Bonds.close" (C8.fnScope s_B_close) f cdv A00 outer s H E) hJ (fun j H' => ∃ Fk A' B' bs, Same F7 Fk ∧ RS K G H Fk H' d D A B A' B' hs bs ∧ bs.length ≤ i * (nL d).toNat + j ∧ (bs.any id = false → (∀ a b : Int, 0 ≤ a → a < (i : Int) → 0 ≤ b → b < nL d → Dn d.T (nL d) A B a b) ∧ ∀ b : Int, 0 ≤ b → b < (j : Int) → Dn d.T (nL d) A B i b)) ⟨F7, A', B', bs, Same.refl _, r7, lb, fun z => ⟨hb z, fun b h1 h2 => by omega⟩⟩ (fun j H' ⟨Fk, _, _, _, s, r, _⟩ => s.trans r.t.y.s) ?_ ?_
    · rintro j dd v'' H8 H9 ed2 ⟨Fk, A'', B'', bs', s7, r8, lb', hb'⟩ hy2
      obtain ⟨F10, g10, dv2⟩ := hy2 Fk s7 r8.t.y.s
      obtain ⟨hj, rfl⟩ := rangeD_at ed2
      rw [dv2.int_inv, Int.zero_add]
      have r10 := r8.gr g10
      intro s0 Hx C1 cl1 fp1
      refine wg_of (pg_name (i := 3) sc_B_close.nd rfl (Or.inl rfl)) ⟨rfl, ?_⟩
      refine ts_nil (F := F10) H9 r10.t.y.s _ fun H11 s11 => iteT ?_
      have r11 := r10.sm s11
      have mu11 := mu.gm dy r11.t.g
      intro s0 Hx C1 cl1 fp1
      refine we_sm cr hr (st.mono r11.t.g.ff) rfl r11.t.y.s (wa2 (iv_var 2 rfl) (iv_var 3 rfl) fun H12 s12 => ?_)
      have r12 := r11.sm s12
      refine ⟨F10, d, A'', B'', hs, i, j, rfl, rfl, st.mono r11.t.g.ff, mu11, r12.t.y, r12.rl.oa, r12.rl.ob, r12.rl.sy, by omega, by omega, fun A3 B3 r3 F13 H13 rl3 dn3 g13 y13 => ?_⟩
      obtain ⟨e13, r13⟩ := r12.app hD0 nm g13 y13 rl3
      have lbs : bs'.length < 200 := by
        have : i * (nL d).toNat ≤ 8 * 8 := Nat.mul_le_mul (by omega) nn
        omega
      refine ⟨_, e13, by rw [List.length_map]; exact Nat.lt_of_lt_of_le lbs (by decide), F13, A3, B3, _, (s7.trans g10.ff).trans g13.ff, r13, by rw [List.length_append]; show _ + 1 ≤ _; omega, fun z => ?_⟩
      rw [any_snoc, Bool.or_eq_false_iff] at z
      obtain ⟨h1, h2⟩ := hb' z.1
      obtain ⟨rfl, rfl⟩ := r12.rl.no z.1
      refine ⟨h1, fun b b0 b1 => ?_⟩
      by_cases e : b = (j : Int)
      · rw [e]
        exact dn3 z.2
      · exact h2 b b0 (by omega)
    · rintro H8 ⟨Fk, A'', B'', bs', s7, r8, lb', hb'⟩
      rw [rangeD_len] at lb' hb'
      refine ⟨Fk, A'', B'', bs', ((sF.trans g5.ff).trans g7.ff).trans s7, hD0, nm, r8, by rw [Nat.add_mul]; omega, fun z => ?_⟩
      obtain ⟨h1, h2⟩ := hb' z
      intro a b a0 a1 b0 b1
      by_cases e : a = (i : Int)
      · rw [e]
        exact h2 b b0 (by omega)
      · exact h1 a b a0 (by omega) b0 b1
  · rintro F1 D H' ⟨Fj, A', B', bs, s1, hD0, nm, r, lb, hb⟩
    rw [rangeD_len] at hb
    refine wa_nil ⟨D, bs, rfl, SqL.of r.hl, ?_⟩
    refine ⟨Fj, A', B', bs.any id, _, _, _, rfl, r.t, rl.trans r.rl, fun z => ?_, r.rl⟩
    obtain ⟨rfl, rfl⟩ := r.rl.no z
    intro i j i0 i1 j0 j1
    exact hb z i j i0 (by omega) j0 j1
end
end K29
set_option Elab.async false
set_option linter.all false
set_option maxRecDepth 100000
set_option maxHeartbeats 4000000
namespace K29
open PySem PySem.Spec PyProof.Rows L2
/-- what the pairs of a Bonds object are -/
def AlOk (T : Tab) (kind : Str) (gone : List Int) (A : List (Int × Int)) : Prop := ∃ B r, Rl T ((looksOf T).length : Nat) (goM T kind gone T.evs.length).A (goM T kind gone T.evs.length).B A B r ∧ AllDn T ((looksOf T).length : Nat) A B
/-- a Bonds object that is not written any more -/
structure BOk (K : PySem.W.Frag) (F : Hp) (d : Bd) (A : List (Int × Int)) : Prop where
  st : Sta K F d
  a : F d.pa = some (.dT (prs A))
  al : AlOk d.T d.kind d.gone A
theorem BOk.mono {K : PySem.W.Frag} {F F1 : Hp} {d : Bd} {A : List (Int × Int)} (h : BOk K F d A) (s : Same F F1) : BOk K F1 d A := ⟨h.st.mono s, s _ _ h.a, h.al⟩
section
variable {X : Cx} {kx vx tg it a e : Expr} {ifs : List Expr} {scope : Scope} {vs : List Nat} {σ : L2.St} {F H Fi Hi H1 : Hp} {ds : List PyData} {D : Ends} {pos pos' p : Pos} {C dx y : Addr} {fs : List (Str × V)} {f : Str} {d : PyData} {Q : VK}
theorem dc_itH (hsrc : WsrcH X tg it σ F H ds) (Iv : Hp → Addr → Nat → Hp → Prop)
    (h0 : ∀ F1 H1 D, Gr F H F1 H1 → H1 D = none → Iv F1 D 0 (upd H1 D (.dK []))) (hG : ∀ F1 D i H', Iv F1 D i H' → Same F1 H')
    (hs : ∀ F1 D i d v H1 H2, ds[i]? = some d → Iv F1 D i H1 → (∀ F2, Same F1 F2 → Same F2 H1 → ∃ F3, Gr F2 H1 F3 H2 ∧ Dq X.K F3 v d) → gAll X scope tg v (wipe σ vs) H2 fun σ2 H3 => wipe σ2 vs = wipe σ vs ∧ tAll X scope ifs σ2 H3 fun b H4 =>
      if b = true then eAll X scope kx σ2 H4 fun y H5 => eAll X scope vx σ2 H5 fun z H6 => ∃ kvs k, y = kV k ∧ H6 D = some (.dK kvs) ∧ kvs.length < sizeLine ∧ Iv F1 D (i + 1) (upd H6 D (.dK (putK kvs k z))) else Iv F1 D (i + 1) H4)
    (hd : ∀ F1 D H', Iv F1 D ds.length H' → Q (.ref D) H') : DcW X kx vx tg it ifs scope vs σ H Q :=
  hsrc _ fun J F1 H1 g hJ D hD => ⟨fun i m H => m = ds.length - i ∧ i ≤ ds.length ∧ Iv F1 D i H, ⟨ds.length, by simp, Nat.zero_le _, h0 F1 H1 D g hD⟩, by
    rintro i m H2 ⟨rfl, hi, p⟩
    have q := hG F1 D i H2 p
    by_cases hlt : i < ds.length
    · refine .inr ⟨hJ.goes i H2 hlt q, Iv F1 D (i + 1), fun H' p' => ⟨ds.length - (i + 1), by omega, rfl, hlt, p'⟩, fun x H' y => ?_⟩
      have ed : ds[i]? = some ds[i] := List.getElem?_eq_getElem hlt
      refine hs F1 D i _ x H2 H' ed p fun F2 s1 s2 => ?_
      obtain ⟨d', F3, e', g', dv⟩ := hJ.yields i H2 x H' hlt q y F2 s1 s2
      rw [ed] at e'
      cases e'
      exact ⟨F3, g', dv⟩
    · obtain rfl : i = ds.length := by omega
      exact .inl ⟨hJ.stops H2 q, hd F1 D H2 p⟩⟩
theorem wsrcH_range1 {n : Int} (hm : X.mg "range" = none) (h : Iv X a σ H n) (s : Same F H) (h1 : 0 ≤ n ∧ n ≤ 100000) (hg : Gl X "range" := by rfl) (hs : starEach [a] X.env = [(false, eval a X.env)] := by rfl) : WsrcH X tg (.Call (.Name "range" p) [a] [] pos) σ F H (rangeD 0 n.toNat) := fun R k =>
  wi_of (pi_range1 hg hm wa_pa hs) (wa_cons (h H (Same.refl _) _ fun H1 s1 => wa_nil ⟨n, rfl, by omega, by omega, k _ F H1 ⟨Same.refl _, s.trans s1, s1, fun _ e _ => e⟩ src_range⟩) hs)
/-- self.f = e in __init__ -/
theorem w1_init (hs : σ[0]? = some (some (.ref y))) (g : Gr F H Fi Hi) (n : H y = none) (hy0 : Hi y = some (.ins C dx fs)) (c : Cls X.K C) (na : NoAttr X.K C f) (fl : Nat.ble (fs.length + 1) 1000 = true) (he : We X e σ Hi fun v H' => ∃ F', Gr Fi Hi F' H' ∧ F' y = none ∧ H' y = some (.ins C dx fs) ∧ (∀ H'', H'' y = some (.ins C dx (putF f v fs)) → Gr F H F' H'' → (∀ a o, a ≠ y → H' a = some o → H'' a = some o) → D.nx σ H''))
    (hN : X.N[0]? = some ("self" : Str) := by rfl) (hv : Vis X.env.scope "self" := by first | exact Or.inl rfl | exact Or.inr (Or.inl rfl) | exact Or.inr (Or.inr rfl)) (hsw : swapsWith e (some (.Attribute (.Name "self" p) f pos')) pos.line X.env = pure false := by rfl) : W1 X (.Assign [.Attribute (.Name "self" p) f pos'] e pos) D σ Hi :=
  w1_fld (he.mono fun v H' ⟨F', g', fy, hy, k⟩ => we_var 0 hs ⟨y, C, dx, fs, rfl, hy, c, na, Nat.le_of_ble_eq_true fl, k _ upd_same ((g.trans g').mut n fy) fun a o ne e => by rw [upd_ne ne]; exact e⟩ hN hv) hsw
/-- .. a value that stands still -/
theorem w1_initv (hs : σ[0]? = some (some (.ref y))) (g : Gr F H Fi Hi) (n : H y = none) (fy : Fi y = none) (hy : Hi y = some (.ins C dx fs)) (c : Cls X.K C) (na : NoAttr X.K C f) (fl : Nat.ble (fs.length + 1) 1000 = true) (he : Wv X e σ Fi d) (k : ∀ v F' H', Gr F H F' H' → Same Fi F' → F' y = none → H' y = some (.ins C dx (putF f v fs)) → (∀ a o, a ≠ y → Hi a = some o → H' a = some o) → Dq X.K F' v d → D.nx σ H')
    (hN : X.N[0]? = some ("self" : Str) := by rfl) (hv : Vis X.env.scope "self" := by first | exact Or.inl rfl | exact Or.inr (Or.inl rfl) | exact Or.inr (Or.inr rfl)) (hsw : swapsWith e (some (.Attribute (.Name "self" p) f pos')) pos.line X.env = pure false := by rfl) : W1 X (.Assign [.Attribute (.Name "self" p) f pos'] e pos) D σ Hi :=
  w1_init hs g n hy c na fl (he.go g.fh fun v F' H' g' d' => ⟨F', g', g'.noF fy hy, g'.hh _ _ hy, fun H'' h1 h2 h3 => k v F' H'' h2 g'.ff (g'.noF fy hy) h1 (fun a o ne e => h3 a o ne (g'.hh _ _ e)) d'⟩) hN hv hsw
end
end K29
set_option Elab.async false
set_option linter.all false
set_option maxRecDepth 100000
set_option maxHeartbeats 4000000
namespace K29
open PySem PySem.Spec PyProof.Rows L2
structure WfT (T : Tab) : Prop where
  few : T.evs.length ≤ 100
  fewL : (looksOf T).length ≤ 8
  pos : 0 ≤ T.n ∧ T.n ≤ 100
  rng : ∀ e ∈ T.evs, ∀ p ∈ e.ps, 0 ≤ p ∧ p < T.n
section
variable {P : Program} {w : World} {K : PySem.W.Frag} {mg : Str → Option Value} {base : Heap} {f : Addr} {fd : FuncData} {C : Addr}
abbrev n_B_init : List Str := ["self", "timetable", "kind", "gone", "more", "one", "other", "person"]
theorem sc_B_init : FnScope n_B_init ["self", "timetable", "kind", "gone", "more"] (C8.fnScope s_B_init) := C8.fnScope_by (by decide +kernel)
/-- what __init__ promises: the object at y is new -/
def spInit (C emp : Addr) (K : PySem.W.Frag) : Sp := fun vs H Q _ => ∃ (F H1 : Hp) (y dx : Addr) (T : Tab) (kind : Str) (gone : List Int) (vt vg : V), vs = [.ref y, vt, .str kind, vg, .ref emp] ∧ H = upd (upd H1 dx (.own y)) y (.ins C dx []) ∧ H1 y = none ∧ H1 dx = none ∧ dx ≠ y ∧ Same F H1 ∧ Dq K F vt (tabD T) ∧ Dq K F vg (tI gone) ∧ gone.length ≤ 100 ∧ WfT T ∧
  ∀ d A F' H', d.b = y → d.T = T → d.kind = kind → d.gone = gone → d.C = C → BOk K F' d A → Gr F H1 F' H' → Q .non H'
theorem c_B_init {emp : Addr} {ds : List Value} (T : Txt K mg) (he : Emp K emp) (BC : Bcls K C) (hM : Mk K C f) (hm : mg "Bonds" = some (.ref C)) (F : C8.Fun K "__init__" "Bonds.__init__" s_B_init f fd) (b : Binds K fd ["self", "timetable", "kind", "gone", "more"] ds) (dv : Vals [.ref emp] ds)
    (ck : C8.Cal P w K mg base 2 "looks" (spLooks K) []) (cd : C8.Cal P w K mg base 2 "adds" (spAdds K) []) (cg : C8.Met P w K mg base 4 C "go_through" (spGo C K) []) (cc : C8.Met P w K mg base 4 C "close" (spClose C K) []) : C8.Mak P w K mg base 5 "Bonds" C (spInit C emp K) [.ref emp] := by
  refine makW hM hm F b dv sc_B_init (fun vs H Q E ⟨G, H1, y, dx, T, kind, gone, vt, vg, e, _⟩ => by rw [e]; rfl) fun cdv A00 outer s H vs Q E hr ⟨G, H1, y, dx, T1, kind, gone, vt, vg, e, eH, ny, ndx, nxy, s0, dt, dg, lg, wf, q⟩ => ?_
  subst e
  have g0 : Gr G H1 G H := by
    rw [eH]
    exact ((Gr.refl s0).mut ndx (s0.free ndx)).mut ny (s0.free ny)
  have hy0 : H y = some (.ins C dx []) := by rw [eH]; exact upd_same
  have fy0 : G y = none := s0.free ny
  have gself : ∀ (Hx : Hp) (Qx : V → Hp → Prop) (σ : L2.St) (p : Pos), σ[0]? = some (some (.ref y)) → Qx (.ref y) Hx → We (CxD P w K mg base n_B_init "Bonds.__init__" (C8.fnScope s_B_init) f cdv A00 outer s H E) (.Name "self" p) σ Hx Qx := fun Hx Qx σ p hs q => we_var 0 hs q
  clear eH
  -- people, events
  refine wb_cons (w1_asg (Wv.go (wv_var 1 rfl dt) g0.fh fun v F2 H2 g2 d2 => ?_))
  have g2' := g0.trans g2
  refine wg_pair d2 g2.fh fun v1 v2 k1 k2 => wgs_cons (wg_fld (gself _ _ _ _ rfl ⟨y, C, dx, [], rfl, g2.hh _ _ hy0, BC.c, BC.people, Nat.le_of_ble_eq_true rfl, ?_⟩))
  rw [k1.int_inv]
  refine wgs_cons (wg_fld (gself _ _ _ _ rfl ⟨y, C, dx, _, rfl, upd_same, BC.c, BC.events, Nat.le_of_ble_eq_true rfl, wgs_nil ?_⟩))
  have g3 : Gr G H1 F2 (upd (upd H2 y (.ins C dx [("own_people", .int T1.n)])) y (.ins C dx [("own_people", .int T1.n), ("own_events", v2)])) := (g2'.mut ny (g2.noF fy0 hy0)).mut ny (g2.noF fy0 hy0)
  have e3 : (upd (upd H2 y (.ins C dx [("own_people", .int T1.n)])) y (.ins C dx [("own_people", .int T1.n), ("own_events", v2)])) y = some (.ins C dx [("own_people", .int T1.n), ("own_events", v2)]) := upd_same
  have f3 : F2 y = none := g2.noF fy0 hy0
  show Wb _ _ _ _ (upd (upd H2 y (.ins C dx [("own_people", .int T1.n)])) y (.ins C dx [("own_people", .int T1.n), ("own_events", v2)]))
  generalize upd (upd H2 y (.ins C dx [("own_people", .int T1.n)])) y (.ins C dx [("own_people", .int T1.n), ("own_events", v2)]) = H3 at g3 e3
  -- kind
  refine wb_cons (w1_initv rfl g3 ny f3 e3 BC.c BC.kind rfl (wv_var 2 rfl (.str kind)) fun v3 F4 H4 g4 s4 f4 e4 k4 d4 => ?_)
  rw [d4.str_inv] at e4
  -- gone
  refine wb_cons (w1_initv rfl g4 ny f4 e4 BC.c BC.gone rfl (wv_callTy call_list_of cd_listT (wv_var 3 rfl (dg.mono (g2.ff.trans s4))) T.list) fun vG F5 H5 g5 s5 f5 e5 k5 d5 => ?_)
  -- looks, adds
  refine wb_cons (w1_initv rfl g5 ny f5 e5 BC.c BC.looks rfl (wv_call T1 ck hr (wvs_cons (wv_var 1 rfl (dt.mono ((g2.ff.trans s4).trans s5))) wvs_nil) wf.few) fun vL F6 H6 g6 s6 f6 e6 k6 d6 => ?_)
  refine wb_cons (w1_initv rfl g6 ny f6 e6 BC.c BC.adds rfl (wv_call T1 cd hr (wvs_cons (wv_var 1 rfl (dt.mono (((g2.ff.trans s4).trans s5).trans s6))) wvs_nil) wf.few) fun vA F7 H7 g7 s7 f7 e7 k7 d7 => ?_)
  -- alike
  refine wb_cons (w1_init rfl g7 ny e7 BC.c BC.alike rfl (we_newT fun pa hpa => ⟨F7, Gr.newM g7.fh hpa, f7, ?_, fun H8 e8 g8 k8 => ?_⟩))
  · rw [upd_ne (ne_of_none e7 hpa)]
    exact e7
  have nay : pa ≠ y := fun z => by
    rw [z, e7] at hpa
    cases hpa
  have a8 : H8 pa = some (.dT []) := k8 pa _ nay upd_same
  have fa8 : F7 pa = none := g7.fh.free hpa
  have na1 : H1 pa = none := g7.hh.free hpa
  -- below
  refine wb_cons (w1_init rfl g8 ny e8 BC.c BC.below rfl (we_newT fun pb hpb => ⟨F7, Gr.newM g8.fh hpb, f7, ?_, fun H9 e9 g9 k9 => ?_⟩))
  · rw [upd_ne (ne_of_none e8 hpb)]
    exact e8
  have nby : pb ≠ y := fun z => by
    rw [z, e8] at hpb
    cases hpb
  have nab : pa ≠ pb := fun z => by
    rw [← z, a8] at hpb
    cases hpb
  have b9 : H9 pb = some (.dT []) := k9 pb _ nby upd_same
  have a9 : H9 pa = some (.dT []) := k9 pa _ nay (by rw [upd_ne nab]; exact a8)
  have fb9 : F7 pb = none := g8.fh.free hpb
  have nb1 : H1 pb = none := g8.hh.free hpb
  -- has
  have keep9 : Gr F7 H9 F7 H9 := Gr.refl g9.fh
  refine wb_cons (w1_init rfl g9 ny e9 BC.c BC.has rfl (we_dc sc_B_init.nd (blkOk_by (own := [("person", 7)]) (N := n_B_init) (sc := C8.fnScope s_B_init) (by decide +kernel))
    (dc_itH (ds := rangeD 0 T1.n.toNat) (F := F7) (wsrcH_range1 T.range (fun H' s' Q' q' => we_fld (gself _ _ _ _ rfl ⟨y, C, dx, _, .int T1.n, rfl, s' _ _ e9, BC.c, BC.people, rfl, q' H' (Same.refl _)⟩)) g9.fh ⟨wf.pos.1, by have := wf.pos.2; omega⟩)
      (fun F1 D i H' => ∃ Fj kvs, Gr F7 H9 Fj H' ∧ Same F1 Fj ∧ H9 D = none ∧ Fj D = none ∧ H' D = some (.dK kvs) ∧ kvs.length ≤ i ∧ ∀ p : Int, 0 ≤ p → p < (i : Int) → ∃ v, valV kvs (.inl p) = some v ∧ Dq K Fj v (.list [])) ?_ ?_ ?_ ?_)))
  · exact fun F1 Hx D g hD => ⟨F1, [], g.trans (Gr.newM g.fh hD), Same.refl _, g.hh.free hD, g.fh.free hD, upd_same, Nat.zero_le _, fun p h0 h1 => by omega⟩
  · exact fun F1 D i H' ⟨Fj, kvs, g, s, _⟩ => s.trans g.fh
  · rintro F1 D i dd v Hx H' ed ⟨Fj, kvs, g, sj, nD, fD, eD, lk, hk⟩ hy
    obtain ⟨F10, g10, dv⟩ := hy Fj sj g.fh
    obtain ⟨hi, rfl⟩ := rangeD_at ed
    rw [dv.int_inv, Int.zero_add]
    intro s0 Hz C1 cl1 fp1
    refine wg_of (pg_name (i := 7) sc_B_init.nd rfl (Or.inl rfl)) ⟨rfl, ?_⟩
    refine ts_nil (F := F10) H' g10.fh _ fun H11 s11 => iteT ?_
    intro s0 Hz C1 cl1 fp1
    refine we_var 7 rfl ?_
    intro s0 Hz C1 cl1 fp1
    refine Wv.go (F := F10) (wv_lst wvs_nil) (g10.fh.trans s11) fun z F12 H12 g12 dz => ?_
    have gj : Gr Fj Hx F12 H12 := g10.trans ⟨g12.ff, g12.fh, s11.trans g12.hh, fun x e n => g12.fr x e fun z => n (s11.free z)⟩
    have e12 : H12 D = some (.dK kvs) := gj.hh _ _ eD
    refine ⟨kvs, .inl (i : Int), rfl, e12, Nat.lt_of_le_of_lt (show kvs.length ≤ 100 by have := wf.pos; omega) (by decide), F12, _, (g.trans gj).mut nD (gj.noF fD eD), sj.trans gj.ff, nD, gj.noF fD eD, upd_same, ?_, fun p h0 h1 => ?_⟩
    · have := length_putK kvs (.inl (i : Int)) z
      omega
    · rw [valV_put]
      by_cases ep : p = (i : Int)
      · rw [if_pos (by rw [ep])]
        exact ⟨z, rfl, dz⟩
      · rw [if_neg (fun y => ep (Sum.inl.inj y))]
        obtain ⟨v', h2, h3⟩ := hk p h0 (by omega)
        exact ⟨v', h2, h3.mono gj.ff⟩
  rintro F1 ph H10 ⟨F10, kvs, g10, sj, nh, fh, eh, lk, hk⟩
  rw [rangeD_len] at lk hk
  refine ⟨F10, g10, g10.noF f7 e9, g10.hh _ _ e9, fun H11 e11 g11 k11 => ?_⟩
  have nhy : ph ≠ y := fun z => by
    rw [z, e9] at nh
    cases nh
  have h11 : H11 ph = some (.dK kvs) := k11 ph _ nhy eh
  have a11 : H11 pa = some (.dT []) := k11 pa _ nay (g10.hh _ _ a9)
  have b11 : H11 pb = some (.dT []) := k11 pb _ nby (g10.hh _ _ b9)
  have f11 : F10 y = none := g10.noF f7 e9
  -- facts
  refine wb_cons (w1_init rfl g11 ny e11 BC.c BC.facts rfl (we_lst (wa_nil ⟨Nat.zero_le _, fun pf hpf => ⟨F10, Gr.newM g11.fh hpf, f11, ?_, fun H12 e12 g12 k12 => ?_⟩⟩)))
  · rw [upd_ne (ne_of_none e11 hpf)]
    exact e11
  have nfy : pf ≠ y := fun z => by
    rw [z, e11] at hpf
    cases hpf
  have nfa : pa ≠ pf := fun z => by
    rw [← z, a11] at hpf
    cases hpf
  have nfb : pb ≠ pf := fun z => by
    rw [← z, b11] at hpf
    cases hpf
  have nfh : ph ≠ pf := fun z => by
    rw [← z, h11] at hpf
    cases hpf
  have p12 : H12 pf = some (.lst []) := k12 pf _ nfy upd_same
  have a12 : H12 pa = some (.dT []) := k12 pa _ nay (by rw [upd_ne nfa]; exact a11)
  have b12 : H12 pb = some (.dT []) := k12 pb _ nby (by rw [upd_ne nfb]; exact b11)
  have h12 : H12 ph = some (.dK kvs) := k12 ph _ nhy (by rw [upd_ne nfh]; exact h11)
  -- it stands
  let d : Bd := ⟨C, y, dx, pa, pb, ph, pf, T1, kind, gone, v2, vG, vL, vA⟩
  have g13 : Gr G H1 (upd F10 y (.ins C dx (bfs d))) H12 := g12.freeze ny f11 e12
  have s13 : Same F10 (upd F10 y (.ins C dx (bfs d))) := same_new f11
  have s710 : Same F7 F10 := g10.ff
  have sA : Same F2 F10 := ((((s4.trans s5).trans s6).trans s7).trans s710)
  have st : Sta K (upd F10 y (.ins C dx (bfs d))) d := ⟨BC, upd_same, k2.mono (sA.trans s13), d5.mono (((s6.trans s7).trans s710).trans s13), d6.mono ((s7.trans s710).trans s13), d7.mono (s710.trans s13), wf.few, wf.fewL, wf.pos, wf.rng⟩
  have nF : ∀ {a : Addr}, a ≠ y → F10 a = none → upd F10 y (.ins C dx (bfs d)) a = none := fun {a} n e => by rw [upd_ne n]; exact e
  have mu : Mu (upd F10 y (.ins C dx (bfs d))) d := ⟨nF nay (g10.noF fa8 a9), nF nby (g10.noF fb9 b9), nF nhy fh, nF nfy (g11.fh.free hpf), nab⟩
  have dy : Dyn K (upd F10 y (.ins C dx (bfs d))) H12 d [] [] (fun _ => []) := ⟨g13.fh, a12, b12, ⟨kvs, h12, by have := wf.pos; show (kvs.length : Int) ≤ T1.n; omega, fun p h0 h1 => by
    obtain ⟨v, h2, h3⟩ := hk p h0 (by have h1 : p < T1.n := h1; omega)
    exact ⟨v, h2, h3.mono s13⟩⟩, ⟨[], p12, Nat.zero_le _⟩⟩
  generalize upd F10 y (.ins C dx (bfs d)) = F13 at g13 st mu dy s13
  refine wb_cons (w1_expr (we_sm0 (d := d) cg hr st rfl dy.s ⟨F13, d, rfl, rfl, st, mu, dy, fun F14 H14 g14 y14 => ?_⟩))
  -- more: nothing
  refine wb_cons (w1_forH (ds := []) (fun F1 i σ' H' => Same F1 H' ∧ ∃ F15, Gr F14 H14 F15 H' ∧ σ' = [some (.ref y), some vt, some (.str kind), some vg, some (.ref emp), none, none, none]) ((wsrc_tup (wv_var 4 rfl he.dq)).at_ y14.s) (fun F1 H' g => ⟨g.fh, F1, g, rfl⟩) (fun F1 i σ' H' h => h.1) (fun F1 i dd v σ' H' H'' ed => by cases i <;> cases ed) ?_)
  rintro F1 σ' H15 ⟨_, F15, g15, rfl⟩
  have y15 := y14.gr g15
  have gg := g14.trans (g15.gm (M := d.M))
  have mu15 := mu.gm dy gg
  have st15 := st.mono gg.ff
  obtain ⟨gok, _⟩ := goM_ok T1 kind gone T1.evs.length (Nat.le_refl _)
  refine wb_one (w1_expr (we_sm0 (d := d) cc hr st15 rfl y15.s ⟨F15, d, _, _, _, rfl, rfl, st15, mu15, y15, gok.a, gok.b, gok.sy, fun A' B' r F16 H16 rl dn g16 y16 => ?_⟩))
  have gt := gg.trans g16
  have gz : Gr G H1 F16 H16 := (g13.gm.trans gt).fresh fun x hx => by
    rcases hx with rfl | rfl | rfl | rfl
    · exact na1
    · exact nb1
    · exact g9.hh.free nh
    · exact g11.hh.free hpf
  have mu16 := mu.gm dy gt
  refine q d A' _ H16 rfl rfl rfl rfl rfl ⟨(st.mono gt.ff).mono (same_new mu16.a), upd_same, B', r, rl, dn⟩ (gz.freeze na1 mu16.a y16.a)
end
end K29
set_option Elab.async false
set_option linter.all false
set_option maxRecDepth 100000
set_option maxHeartbeats 4000000
namespace K29
open PySem PySem.Spec PyProof.Rows L2
/-! ### the events that are gone; the pairs that are alike then -/
def goneOf (T : Tab) (ls lost : List Int) : List Int := ((idxd T.evs).filter fun q => decide (q.1 ∈ lost) || isWith q.2 ls).map fun q => q.1
noncomputable def alB (T : Tab) (kind : Str) (gone : List Int) (i j : Int) : Bool := @decide (∃ A, AlOk T kind gone A ∧ hasS A i j = true) (Classical.propDecidable _)
theorem hasS_iff {A : List (Int × Int)} {i j : Int} : hasS A i j = true ↔ i = j ∨ (i, j) ∈ A := by
  unfold hasS
  rw [Bool.or_eq_true, decide_eq_true_eq, decide_eq_true_eq]
theorem closed_of {T : Tab} {kind : Str} {gone : List Int} {A : List (Int × Int)} (h : AlOk T kind gone A) : ∃ B : List (Int × Int), Cl T (fun i j => (i, j) ∈ A) (fun i j => (i, j) ∈ B) ∧ (∀ p ∈ (goM T kind gone T.evs.length).A, p ∈ A) ∧ (∀ p ∈ (goM T kind gone T.evs.length).B, p ∈ B) ∧ okPairs ((looksOf T).length : Nat) A ∧
    ∀ RA RB, Cl T RA RB → Sb (goM T kind gone T.evs.length).A RA → Sb (goM T kind gone T.evs.length).B RB → Sb A RA := by
  obtain ⟨B, r, rl, dn⟩ := h
  have ra : ∀ {i j}, (i, j) ∈ A → (0 ≤ i ∧ i < ((looksOf T).length : Nat)) ∧ 0 ≤ j ∧ j < ((looksOf T).length : Nat) := fun {i j} m => rl.oa.2 _ m
  have rb : ∀ {i j}, (i, j) ∈ B → (0 ≤ i ∧ i < ((looksOf T).length : Nat)) ∧ 0 ≤ j ∧ j < ((looksOf T).length : Nat) := fun {i j} m => rl.ob.2 _ m
  have un : ∀ {A : List (Int × Int)} {i j : Int}, hasS A i j = true → i ≠ j → (i, j) ∈ A := fun {A i j} h ne => (hasS_iff.mp h).resolve_left ne
  refine ⟨B, ⟨fun i j m => rl.sy _ _ m, fun i j ne m => ?_, fun i j k ne m1 m2 => ?_, fun i j k ne nk m1 m2 => ?_, fun i j ne m l => ?_⟩, rl.sup.1, rl.sup.2, rl.oa, fun RA RB c a b => (rl.snd RA RB c a b).1⟩
  · obtain ⟨h1, h2⟩ := rb m
    exact un ((dn i j h1.1 h1.2 h2.1 h2.2).d1 m) ne
  · obtain ⟨h1, h2⟩ := rb m1
    obtain ⟨_, h3⟩ := rb m2
    exact un ((dn i j h1.1 h1.2 h2.1 h2.2).d2 m1 k h3.1 h3.2 m2) ne
  · obtain ⟨h1, h2⟩ := rb m1
    obtain ⟨_, h3⟩ := ra m2
    exact un ((dn i j h1.1 h1.2 h2.1 h2.2).d3 m1 k h3.1 h3.2 nk (hasS_iff.mpr (.inr m2))) ne
  · obtain ⟨h1, h2⟩ := ra m
    exact un ((dn i j h1.1 h1.2 h2.1 h2.2).d4 ne (hasS_iff.mpr (.inr m)) l) ne
theorem alB_of {T : Tab} {kind : Str} {gone : List Int} {A : List (Int × Int)} (h : AlOk T kind gone A) (i j : Int) : hasS A i j = alB T kind gone i j := by
  rw [Bool.eq_iff_iff]
  unfold alB
  rw [@decide_eq_true_eq _ (Classical.propDecidable _)]
  refine ⟨fun z => ⟨A, h, z⟩, fun ⟨A', h', z⟩ => ?_⟩
  rcases hasS_iff.mp z with e | m
  · exact hasS_iff.mpr (.inl e)
  · obtain ⟨B, c, s1, s2, _, _⟩ := closed_of h
    obtain ⟨_, _, _, _, _, snd⟩ := closed_of h'
    exact hasS_iff.mpr (.inr (snd _ _ c (fun i j m => s1 _ m) (fun i j m => s2 _ m) i j m))
/-! ### keys -/
def gk (g : List Int) : List L2.Key := g.map Sum.inl
theorem gk_inj : ∀ {g h : List Int}, gk g = gk h → g = h
  | [], [], _ => rfl
  | [], _ :: _, e => by cases e
  | _ :: _, [], e => by cases e
  | x :: g, y :: h, e => by
    obtain ⟨e1, e2⟩ := List.cons.inj e
    rw [Sum.inl.inj e1, gk_inj e2]
theorem gk_kV (g : List Int) : (gk g).map kV = g.map V.int := by
  unfold gk
  rw [List.map_map]
  rfl
def subs : List Int → List (List Int)
  | [] => [[]]
  | x :: r => subs r ++ (subs r).map (x :: ·)
theorem subs_len : ∀ l : List Int, (subs l).length = 2 ^ l.length
  | [] => rfl
  | x :: r => by
    unfold subs
    rw [List.length_append, List.length_map, subs_len r, List.length_cons, Nat.pow_succ]
    omega
theorem mem_subs : ∀ {l c : List Int}, c.Sublist l → c ∈ subs l
  | [], c, h => by
    rw [List.sublist_nil.mp h]
    exact List.mem_singleton.mpr rfl
  | x :: r, c, h => by
    unfold subs
    cases h with
    | cons _ h => exact List.mem_append_left _ (mem_subs h)
    | cons_cons _ h => exact List.mem_append_right _ (List.mem_map.mpr ⟨_, mem_subs h, rfl⟩)
theorem nodup_sub_len {α : Type} [DecidableEq α] : ∀ (l m : List α), l.Nodup → (∀ x ∈ l, x ∈ m) → l.length ≤ m.length
  | [], _, _, _ => Nat.zero_le _
  | x :: l, m, nd, h => by
    obtain ⟨n1, n2⟩ := List.nodup_cons.mp nd
    have hx := h x (List.mem_cons_self ..)
    have e := nodup_sub_len l (m.erase x) n2 fun y hy => (List.mem_erase_of_ne (fun z => n1 (by rw [← z]; exact hy))).mpr (h y (List.mem_cons_of_mem _ hy))
    rw [List.length_erase_of_mem hx] at e
    have : 0 < m.length := List.length_pos_of_mem hx
    rw [List.length_cons]
    omega
def plcs (T : Tab) : List Int := (idxd T.evs).map fun q => q.1
theorem goneOf_sub (T : Tab) (ls lost : List Int) : goneOf T ls lost ∈ subs (plcs T) := mem_subs (List.Sublist.map _ List.filter_sublist)
/-! ### a Chances object -/
structure Cd where
  C : Addr
  b : Addr
  dx : Addr
  pk : Addr
  T : Tab
  kind : Str
  vt : V
def cfs (c : Cd) : List (Str × V) := [("own_timetable", c.vt), ("own_kind", .str c.kind), ("own_known", .ref c.pk)]
structure Ccls (K : PySem.W.Frag) (C : Addr) : Prop where
  c : Cls K C
  table : NoAttr K C "own_timetable"
  kind : NoAttr K C "own_kind"
  known : NoAttr K C "own_known"
structure CSt (K : PySem.W.Frag) (F : Hp) (c : Cd) : Prop where
  cls : Ccls K c.C
  ins : F c.b = some (.ins c.C c.dx (cfs c))
  tb : Dq K F c.vt (tabD c.T)
  wf : WfT c.T
  few : c.T.evs.length ≤ 16
/-- what is known -/
structure Kn (K : PySem.W.Frag) (CB : Addr) (F : Hp) (c : Cd) (kvs : List (List L2.Key × V)) : Prop where
  nd : (kvs.map fun p => p.1).Nodup
  sub : ∀ k ∈ kvs.map (fun p => p.1), k ∈ (subs (plcs c.T)).map gk
  at_ : ∀ g v, valV kvs (gk g) = some v → ∃ d A, v = .ref d.b ∧ d.C = CB ∧ d.T = c.T ∧ d.kind = c.kind ∧ d.gone = g ∧ BOk K F d A
structure CDy (K : PySem.W.Frag) (CB : Addr) (F H : Hp) (c : Cd) : Prop where
  s : Same F H
  f : F c.pk = none
  k : ∃ kvs, H c.pk = some (.dT kvs) ∧ Kn K CB F c kvs
section
variable {K : PySem.W.Frag} {CB : Addr} {F H F1 H1 : Hp} {c : Cd} {kvs : List (List L2.Key × V)}
theorem CSt.mono (h : CSt K F c) (s : Same F F1) : CSt K F1 c := ⟨h.cls, s _ _ h.ins, h.tb.mono s, h.wf, h.few⟩
theorem Kn.mono (h : Kn K CB F c kvs) (s : Same F F1) : Kn K CB F1 c kvs := ⟨h.nd, h.sub, fun g v e => by
  obtain ⟨d, A, h1, h2, h3, h4, h5, h6⟩ := h.at_ g v e
  exact ⟨d, A, h1, h2, h3, h4, h5, h6.mono s⟩⟩
theorem CDy.gm {M : Addr → Prop} (h : CDy K CB F H c) (g : Gm M F H F1 H1) (n : ¬ M c.pk) : CDy K CB F1 H1 c := by
  obtain ⟨kvs, e1, e2⟩ := h.k
  exact ⟨g.fh, g.noF h.f e1, kvs, g.hh _ _ n e1, e2.mono g.ff⟩
theorem CDy.gr (h : CDy K CB F H c) (g : Gr F H F1 H1) : CDy K CB F1 H1 c := h.gm (M := fun _ => False) g.gm id
theorem CDy.sm (h : CDy K CB F H c) (s : Same H H1) : CDy K CB F H1 c := h.gr ⟨Same.refl _, h.s.trans s, s, fun _ e _ => e⟩
theorem Kn.len (h : Kn K CB F c kvs) (hT : c.T.evs.length ≤ 16) : kvs.length < sizeLine := by
  have e := nodup_sub_len _ _ h.nd h.sub
  rw [List.length_map, List.length_map, subs_len] at e
  unfold plcs at e
  rw [List.length_map, idxd_len] at e
  have : 2 ^ c.T.evs.length ≤ 2 ^ 16 := Nat.pow_le_pow_right (by decide) hT
  exact Nat.lt_of_le_of_lt (Nat.le_trans e this) (by decide)
theorem Kn.put (h : Kn K CB F c kvs) {g : List Int} {d : Bd} {A : List (Int × Int)} (hg : g ∈ subs (plcs c.T)) (hn : valV kvs (gk g) = none) (h2 : d.C = CB) (h3 : d.T = c.T) (h4 : d.kind = c.kind) (h5 : d.gone = g) (hb : BOk K F d A) : Kn K CB F c (putK kvs (gk g) (.ref d.b)) := by
  have e : putK kvs (gk g) (.ref d.b) = kvs ++ [(gk g, .ref d.b)] := by
    unfold putK
    rw [valV_any, hn]
    rfl
  have nm : gk g ∉ kvs.map fun p => p.1 := fun z => by
    obtain ⟨p, hp, ep⟩ := List.mem_map.mp z
    have : (kvs.any fun kv => decide (kv.1 = gk g)) = true := List.any_eq_true.mpr ⟨p, hp, decide_eq_true ep⟩
    rw [valV_any, hn] at this
    cases this
  refine ⟨?_, fun k hk => ?_, fun g' v hv => ?_⟩
  · rw [e, List.map_append]
    exact List.nodup_append.mpr ⟨h.nd, List.pairwise_singleton _ _, fun x hx y hy z => by
      rw [List.mem_singleton.mp hy] at z
      exact nm (by rw [z] at hx; exact hx)⟩
  · rw [e, List.map_append] at hk
    rcases List.mem_append.mp hk with hk | hk
    · exact h.sub k hk
    · rw [List.mem_singleton.mp hk]
      exact List.mem_map.mpr ⟨g, hg, rfl⟩
  · rw [valV_put] at hv
    by_cases z : gk g' = gk g
    · rw [if_pos z] at hv
      cases hv
      exact ⟨d, A, rfl, h2, h3, h4, h5.trans (gk_inj z).symm, hb⟩
    · rw [if_neg z] at hv
      exact h.at_ g' v hv
end
def Cd.M (c : Cd) : Addr → Prop := fun a => a = c.pk
end K29
set_option Elab.async false
set_option linter.all false
set_option maxRecDepth 100000
set_option maxHeartbeats 4000000
namespace K29
open PySem PySem.Spec PyProof.Rows L2
/-- a method of Chances over data -/
def PuM {α : Type} (C : Addr) (K : PySem.W.Frag) (args : α → List PyData) (pre : Cd → α → Prop) (res : Cd → α → PyData) : Sp := fun vs H Q _ => ∃ (F : Hp) (c : Cd) (a : α) (us : List V), vs = .ref c.b :: us ∧ c.C = C ∧ Same F H ∧ CSt K F c ∧ DqAll K F us (args a) ∧ pre c a ∧ ∀ v F' H', Gr F H F' H' → Dq K F' v (res c a) → Q v H'
section
variable {X : Cx} {k j : Nat} {C : Addr} {m x : Str} {p pos apos : Pos} {e o : Expr} {es : List Expr} {σ : L2.St} {F H : Hp} {d : PyData} {α : Type} {args : α → List PyData} {pre : Cd → α → Prop} {res : Cd → α → PyData} {c : Cd} {Q : VK}
/-- e is the object at y -/
def Hd (X : Cx) (e : Expr) (σ : L2.St) (y : Addr) : Prop := ∀ (H : Hp) (Q : VK), Q (.ref y) H → We X e σ H Q
theorem hd_var (n : Nat) {y : Addr} (hs : σ[n]? = some (some (.ref y))) (hN : X.N[n]? = some x := by rfl) (hv : Vis X.env.scope x := by first | exact Or.inl rfl | exact Or.inr (Or.inl rfl) | exact Or.inr (Or.inr rfl)) (hd : (x == ("__debug__" : Str)) = false := by decide) (hcd : (x == ("__classdict__" : Str)) = false := by decide) : Hd X (.Name x pos) σ y := fun H Q q => we_var n hs q hN hv hd hcd
theorem wv_meth (a : α) (cm : C8.Met X.prog X.w X.K X.mg X.base k c.C m (PuM c.C X.K args pre res) []) (hr : Room j X.A) (st : CSt X.K F c) (ho : Hd X o σ c.b) (h : Wvs X (e :: es) σ F (args a)) (hp : pre c a) (hk : k ≤ j := by decide) (hd : res c a = d := by rfl) (hl : (cfs c).lookup m = none := by rfl) {pl : Sem Bool}
    (hst : starEach (e :: es) X.env = (false, eval e X.env) :: starEach es X.env := by rfl) (hpl : (backTo pos (starEach es X.env)).any (·.1) = false := by rfl)
    (ht : eval (.Call (.Attribute o m apos) (e :: es) [] pos) X.env = (do
      let ov ← eval o X.env
      standAt apos.atName
      let (f, first) ← holding [ov] (getMethod ov m pl)
      callWith pos f first (backTo pos (starEach (e :: es) X.env)) (backToKw pos (keywordEach [] X.env))) := by rfl) : Wv X (.Call (.Attribute o m apos) (e :: es) [] pos) σ F d := fun H s Q q =>
  we_meth (pl := pl) cm hr (ho H _ ⟨_, _, _, rfl, s _ _ st.ins, hl, h H s _ fun vs F1 H1 g hd' => by
    rw [List.append_nil]
    exact ⟨F1, c, a, vs, rfl, rfl, g.fh, st.mono g.ff, hd', hp, fun v F2 H2 g2 d2 => q v F2 H2 (g.trans g2) (hd ▸ d2)⟩⟩) hk hst hpl ht
theorem wv_meth0 {dvs : List V} (a : α) (cm : C8.Met X.prog X.w X.K X.mg X.base k c.C m (PuM c.C X.K args pre res) dvs) (hr : Room j X.A) (st : CSt X.K F c) (ho : Hd X o σ c.b) (h : DqAll X.K F dvs (args a)) (hp : pre c a) (hk : k ≤ j := by decide) (hd : res c a = d := by rfl) (hl : (cfs c).lookup m = none := by rfl) {pl : Sem Bool}
    (ht : eval (.Call (.Attribute o m apos) [] [] pos) X.env = (do
      let ov ← eval o X.env
      standAt apos.atName
      let (f, first) ← holding [ov] (getMethod ov m pl)
      callWith pos f first (backTo pos (starEach [] X.env)) (backToKw pos (keywordEach [] X.env))) := by rfl) : Wv X (.Call (.Attribute o m apos) [] [] pos) σ F d := fun H s Q q =>
  we_meth0 (pl := pl) cm hr (ho H _ ⟨_, _, _, rfl, s _ _ st.ins, hl, F, c, a, dvs, rfl, rfl, s, st, h, hp, fun v F2 H2 g2 d2 => q v F2 H2 g2 (hd ▸ d2)⟩) hk ht
/-- o.f, a value that stands still -/
theorem wv_cf {f : Str} {u : V} (st : CSt X.K F c) (ho : Hd X o σ c.b) (na : NoAttr X.K c.C f) (hl : (cfs c).lookup f = some u) (hd : Dq X.K F u d) (hb : attributeBase o f X.env (eval o X.env) = eval o X.env := by rfl) : Wv X (.Attribute o f pos) σ F d := fun H s Q q => we_fld (ho H _ ⟨_, _, _, _, _, rfl, s _ _ st.ins, st.cls.c, na, hl, q _ F H (Gr.refl s) hd⟩) hb
theorem we_cf {f : Str} {u : V} (st : CSt X.K F c) (ho : Hd X o σ c.b) (na : NoAttr X.K c.C f) (s : Same F H) (q : Q u H) (hl : (cfs c).lookup f = some u := by rfl) (hb : attributeBase o f X.env (eval o X.env) = eval o X.env := by rfl) : We X (.Attribute o f pos) σ H Q := we_fld (ho H _ ⟨_, _, _, _, _, rfl, s _ _ st.ins, st.cls.c, na, hl, q⟩) hb
end
/-! ### tables as tuples -/
theorem tdep_scal {n : Nat} {d : PyData} (h : (∃ i, d = .int i) ∨ ∃ z, d = .str z) : tdep n d := by
  cases n with
  | zero => exact h
  | succ n => exact .inl h
theorem tdep_evD (n : Nat) (e : Ev) : tdep (n + 1) (evD e) := .inr ⟨.str e.word, e.ps.map .int, rfl, by rw [List.length_map]; exact Nat.le_trans (ev_ps_len e) (by decide), fun x hx => by
  rcases List.mem_cons.mp hx with rfl | hx
  · exact tdep_scal (.inr ⟨_, rfl⟩)
  · obtain ⟨i, _, rfl⟩ := List.mem_map.mp hx
    exact tdep_scal (.inl ⟨_, rfl⟩)⟩
theorem tdep_tab {T : Tab} (h0 : T.evs ≠ []) (h1 : T.evs.length ≤ 16) : tdep 3 (tabD T) := .inr ⟨.int T.n, [.tuple (T.evs.map evD)], rfl, by show 1 ≤ 1000; decide, fun x hx => by
  rcases List.mem_cons.mp hx with rfl | hx
  · exact tdep_scal (.inl ⟨_, rfl⟩)
  · rw [List.mem_singleton.mp hx]
    cases ee : T.evs with
    | nil => exact absurd ee h0
    | cons e r =>
      rw [ee, List.length_cons] at h1
      refine .inr ⟨evD e, r.map evD, rfl, by rw [List.length_map]; omega, fun y hy => ?_⟩
      rcases List.mem_cons.mp hy with rfl | hy
      · exact tdep_evD 0 e
      · obtain ⟨z, _, rfl⟩ := List.mem_map.mp hy
        exact tdep_evD 0 z⟩
section
variable {P : Program} {w : World} {K : PySem.W.Frag} {mg : Str → Option Value} {base : Heap} {f : Addr} {fd : FuncData} {C CB : Addr}
/-! ### __init__ -/
abbrev n_C_init : List Str := ["self", "timetable", "kind"]
theorem sc_C_init : FnScope n_C_init ["self", "timetable", "kind"] (C8.fnScope s_C_init) := C8.fnScope_by (by decide +kernel)
def spCinit (C CB : Addr) (K : PySem.W.Frag) : Sp := fun vs H Q _ => ∃ (F H1 : Hp) (y dx : Addr) (T : Tab) (kind : Str) (vt : V), vs = [.ref y, vt, .str kind] ∧ H = upd (upd H1 dx (.own y)) y (.ins C dx []) ∧ H1 y = none ∧ H1 dx = none ∧ dx ≠ y ∧ Same F H1 ∧ Dq K F vt (tabD T) ∧ WfT T ∧ T.evs ≠ [] ∧ T.evs.length ≤ 16 ∧
  ∀ c F' H', c.b = y → c.C = C → c.T = T → c.kind = kind → CSt K F' c → CDy K CB F' H' c → H1 c.pk = none → Gr F H1 F' H' → Q .non H'
theorem c_C_init (BC : Ccls K C) (hM : Mk K C f) (hm : mg "Chances" = some (.ref C)) (F : C8.Fun K "__init__" "Chances.__init__" s_C_init f fd) (b : Binds K fd ["self", "timetable", "kind"] []) (ca : C8.Cal P w K mg base 4 "as_tuples" (spAs 3 K) []) : C8.Mak P w K mg base 5 "Chances" C (spCinit C CB K) [] := by
  refine makW hM hm F b .nil sc_C_init (fun vs H Q E ⟨G, H1, y, dx, T, kind, vt, e, _⟩ => by rw [e]; rfl) fun cdv A00 outer s H vs Q E hr ⟨G, H1, y, dx, T1, kind, vt, e, eH, ny, ndx, nxy, s0, dt, wf, ne, few, q⟩ => ?_
  subst e
  have g0 : Gr G H1 G H := by
    rw [eH]
    exact ((Gr.refl s0).mut ndx (s0.free ndx)).mut ny (s0.free ny)
  have hy0 : H y = some (.ins C dx []) := by rw [eH]; exact upd_same
  have fy0 : G y = none := s0.free ny
  clear eH
  refine wb_cons (w1_initv rfl g0 ny fy0 hy0 BC.c BC.table rfl (wv_call (tabD T1) ca hr (wvs_cons (wv_var 1 rfl dt) wvs_nil) (tdep_tab ne few)) fun vT F2 H2 g2 s2 f2 e2 k2 d2 => ?_)
  refine wb_cons (w1_initv rfl g2 ny f2 e2 BC.c BC.kind rfl (wv_var 2 rfl (.str kind)) fun v3 F4 H4 g4 s4 f4 e4 k4 d4 => ?_)
  rw [d4.str_inv] at e4
  refine wb_one (w1_init rfl g4 ny e4 BC.c BC.known rfl (we_newT fun pk hpk => ⟨F4, Gr.newM g4.fh hpk, f4, ?_, fun H8 e8 g8 k8 => ?_⟩))
  · rw [upd_ne (ne_of_none e4 hpk)]
    exact e4
  have nky : pk ≠ y := fun z => by
    rw [z, e4] at hpk
    cases hpk
  let c : Cd := ⟨C, y, dx, pk, T1, kind, vT⟩
  have g9 : Gr G H1 (upd F4 y (.ins C dx (cfs c))) H8 := g8.freeze ny f4 e8
  have fk : upd F4 y (.ins C dx (cfs c)) pk = none := by rw [upd_ne nky]; exact g4.fh.free hpk
  exact q c _ H8 rfl rfl rfl rfl ⟨BC, upd_same, (d2.mono s4).mono (same_new f4), wf, few⟩ ⟨g9.fh, fk, [], k8 pk _ nky upd_same, ⟨List.Pairwise.nil, fun _ h => (nomatch h), fun _ _ h => (nomatch h)⟩⟩ (g4.hh.free hpk) g9
/-! ### timetable, meetings, lookers, others -/
abbrev n_C_timetable : List Str := ["self"]
theorem sc_C_timetable : FnScope n_C_timetable ["self"] (C8.fnScope s_C_timetable) := C8.fnScope_by (by decide +kernel)
abbrev spTimetable (C : Addr) (K : PySem.W.Frag) : Sp := PuM C K (fun _ : Unit => []) (fun _ _ => True) (fun c _ => tabD c.T)
theorem metM {α : Type} {m qual : Str} {st : Stmt} {N ps : List Str} {ds : List Value} {dvs : List V} {k : Nat} {args : α → List PyData} {pre : Cd → α → Prop} {res : Cd → α → PyData} (c : Cls K C) (me : Meth K C m f) (F : C8.Fun K m qual st f fd) (b : Binds K fd ps ds) (d : Vals dvs ds) (S : FnScope N ps (C8.fnScope st)) (hl : ∀ a, (args a).length + 1 = ps.length)
    (h : ∀ (cdv : Value) (A : Around) (outer : List Env) (s : Shared) (H : Hp) (us : List V) (Q : VK) (E : XK) (G : Hp) (c : Cd) (a : α), c.C = C → Room k (A.deeper (envOfC qual (C8.fnScope st) s.heap.objs.size f cdv)) → Same G H → CSt K G c → DqAll K G us (args a) → pre c a → (∀ v F' H', Gr G H F' H' → Dq K F' v (res c a) → Q v H') →
      Wb (CxD P w K mg base N qual (C8.fnScope st) f cdv A outer s H E) (C8.fnBody st) (DEnd Q) (start N (.ref c.b :: us)) H) : C8.Met P w K mg base (k + 1) C m (PuM C K args pre res) dvs :=
  metW c me F b d S (fun vs H Q E ⟨G, c, a, us, e, _, _, _, hd, _⟩ => by rw [e, List.length_cons, hd.length]; exact hl a) fun cdv A outer s H vs Q E hr ⟨G, c, a, us, e, ec, s0, st, hd, hp, q⟩ => by
    subst e
    exact h cdv A outer s H us Q E G c a ec hr s0 st hd hp q
theorem c_C_timetable (BC : Ccls K C) (me : Meth K C "timetable" f) (F : C8.Fun K "timetable" "Chances.timetable" s_C_timetable f fd) (b : Binds K fd ["self"] []) : C8.Met P w K mg base 1 C "timetable" (spTimetable C K) [] := by
  refine metM BC.c me F b .nil sc_C_timetable (fun _ => rfl) fun cdv A outer s H us Q E G c a ec hr s0 st hd hp q => ?_
  rw [hd.nil_inv]
  exact wb_one (w1_ret (Wv.go (wv_cf st (hd_var 0 rfl) st.cls.table rfl st.tb) s0 q))
abbrev n_C_meetings : List Str := ["self", "liars"]
theorem sc_C_meetings : FnScope n_C_meetings ["self", "liars"] (C8.fnScope s_C_meetings) := C8.fnScope_by (by decide +kernel)
structure DlA where
  d : PyData
  ns : List Int
abbrev spMeetings (C : Addr) (K : PySem.W.Frag) : Sp := PuM C K (fun a : DlA => [a.d]) (fun _ a => SeqI a.d a.ns) (fun c a => .list ((meetsOf c.T a.ns).map .int))
theorem c_C_meetings {ds : List Value} {dvs : List V} (BC : Ccls K C) (cmt : C8.Cal P w K mg base 2 "meetings_of" (spMeetingsOf K) []) (me : Meth K C "meetings" f) (F : C8.Fun K "meetings" "Chances.meetings" s_C_meetings f fd) (b : Binds K fd ["self", "liars"] ds) (dv : Vals dvs ds) : C8.Met P w K mg base 3 C "meetings" (spMeetings C K) dvs := by
  refine metM BC.c me F b dv sc_C_meetings (fun _ => rfl) fun cdv A outer s H us Q E G c a ec hr s0 st hd hp q => ?_
  obtain ⟨vl, r, rfl, dl, hd⟩ := hd.cons_inv
  rw [hd.nil_inv]
  exact wb_one (w1_ret (Wv.go (wv_call (⟨c.T, a.d, a.ns⟩ : TlA) cmt hr (wvs_cons (wv_cf st (hd_var 0 rfl) st.cls.table rfl st.tb) (wvs_cons (wv_var 1 rfl dl) wvs_nil)) ⟨st.wf.few, hp⟩) s0 q))
abbrev n_C_lookers : List Str := ["self", "pair", "people", "place", "person", "look"]
theorem sc_C_lookers : FnScope n_C_lookers ["self", "pair"] (C8.fnScope s_C_lookers) := C8.fnScope_by (by decide +kernel)
def twoOk (c : Cd) (a : Int × Int) : Prop := okLook c.T a.1 ∧ okLook c.T a.2
abbrev spLookers (C : Addr) (K : PySem.W.Frag) : Sp := PuM C K (fun a : Int × Int => [prD a]) twoOk (fun c a => .list ([(lookAt c.T a.1).2, (lookAt c.T a.2).2].map .int))
theorem peopleAt {T : Tab} {i : Int} (h : okLook T i) : L2.atI ((looksOf T).map fun q => PyData.int q.2) i = some (.int (lookAt T i).2) := by
  obtain ⟨h0, h1⟩ := h
  obtain ⟨k, rfl⟩ := Int.eq_ofNat_of_zero_le h0
  refine atI_nat ?_
  have hk : k < (looksOf T).length := by omega
  unfold lookAt
  show (List.map _ (looksOf T))[k]? = some (PyData.int ((looksOf T).getD k (0, 0)).2)
  rw [List.getElem?_map, List.getElem?_eq_getElem hk, List.getD_eq_getElem?_getD, List.getElem?_eq_getElem hk]
  rfl
theorem c_C_lookers (BC : Ccls K C) (cl : C8.Cal P w K mg base 2 "looks" (spLooks K) []) (me : Meth K C "lookers" f) (F : C8.Fun K "lookers" "Chances.lookers" s_C_lookers f fd) (b : Binds K fd ["self", "pair"] []) : C8.Met P w K mg base 3 C "lookers" (spLookers C K) [] := by
  refine metM BC.c me F b .nil sc_C_lookers (fun _ => rfl) fun cdv A outer s H us Q E G c a ec hr s0 st hd hp q => ?_
  obtain ⟨vp, r, rfl, dp, hd⟩ := hd.cons_inv
  rw [hd.nil_inv]
  obtain ⟨i, j⟩ := a
  refine wb_cons (w1_set 2 sc_C_lookers.nd (we_lc sc_C_lookers.nd (blkOk_by (own := [("place", 3), ("person", 4)]) (N := n_C_lookers) (sc := C8.fnScope s_C_lookers) (by decide +kernel)) (lcv_p0 (xs := looksOf c.T) (e1 := fun x => .int x.1) (e2 := fun x => .int x.2) 3 4 (fun x => .int x.2) (wsrc_list (wv_call c.T cl hr (wvs_cons (wv_cf st (hd_var 0 rfl) st.cls.table rfl st.tb) wvs_nil) st.wf.few)) (Nat.le_trans st.wf.fewL (by decide)) ?_ (fun _ _ => rfl) ?_ _ s0 _ fun v F1 H1 g1 d1 => ?_)))
  · exact fun _ _ _ _ _ => pg_tup rfl (pgs_cons (pg_name (i := 3) sc_C_lookers.nd rfl (Or.inl rfl)) (pgs_cons (pg_name (i := 4) sc_C_lookers.nd rfl (Or.inl rfl)) pgs_nil))
  · exact fun x _ F1 v u sF h1 h2 _ _ _ _ _ => wv_var 4 rfl h2
  refine wb_one (w1_ret (we_lc sc_C_lookers.nd (blkOk_by (own := [("look", 5)]) (N := n_C_lookers) (sc := C8.fnScope s_C_lookers) (by decide +kernel)) ?_))
  refine lcv_n0 (xs := [i, j]) (enc := .int) 5 (fun x => .int (lookAt c.T x).2) (wsrc_tup (wv_var 1 rfl (dp.mono g1.ff))) (by show 2 ≤ 100000; decide) ?_ (fun _ => rfl) ?_ _ g1.fh _ fun v2 F2 H2 g2 d2 => q v2 F2 H2 (g1.trans g2) d2
  · exact fun _ _ _ _ _ => pg_name (i := 5) sc_C_lookers.nd rfl (Or.inl rfl)
  intro x hx F2 u sF hu _ _ _ _ _
  refine wv_ixL (wv_var 2 rfl (d1.mono sF)) (wv_var 5 rfl hu) (peopleAt ?_)
  simp only [List.mem_cons, List.not_mem_nil, or_false] at hx
  rcases hx with rfl | rfl
  · exact hp.1
  · exact hp.2
abbrev n_C_others : List Str := ["self", "pair", "person"]
theorem sc_C_others : FnScope n_C_others ["self", "pair"] (C8.fnScope s_C_others) := C8.fnScope_by (by decide +kernel)
def prsnOf (T : Tab) : List Int := (List.range T.n.toNat).map fun i => (0 : Int) + (i : Nat)
def othersOf (T : Tab) (i j : Int) : List Int := (prsnOf T).filter fun p => !decide (p ∈ [(lookAt T i).2, (lookAt T j).2])
abbrev spOthers (C : Addr) (K : PySem.W.Frag) : Sp := PuM C K (fun a : Int × Int => [prD a]) twoOk (fun c a => .list ((othersOf c.T a.1 a.2).map .int))
theorem c_C_others (T : Txt K mg) (BC : Ccls K C) (cl : C8.Met P w K mg base 3 C "lookers" (spLookers C K) []) (me : Meth K C "others" f) (F : C8.Fun K "others" "Chances.others" s_C_others f fd) (b : Binds K fd ["self", "pair"] []) : C8.Met P w K mg base 4 C "others" (spOthers C K) [] := by
  refine metM BC.c me F b .nil sc_C_others (fun _ => rfl) fun cdv A outer s H us Q E G c a ec hr s0 st hd hp q => ?_
  subst ec
  obtain ⟨vp, r, rfl, dp, hd⟩ := hd.cons_inv
  rw [hd.nil_inv]
  obtain ⟨i, j⟩ := a
  have er : rangeD 0 c.T.n.toNat = (prsnOf c.T).map .int := by
    unfold rangeD prsnOf
    rw [List.map_map]
    rfl
  refine wb_one (w1_ret (we_lc sc_C_others.nd (blkOk_by (own := [("person", 2)]) (N := n_C_others) (sc := C8.fnScope s_C_others) (by decide +kernel)) (lcv_n (xs := prsnOf c.T) (enc := .int) 2 (fun p => !decide (p ∈ [(lookAt c.T i).2, (lookAt c.T j).2])) .int ?_ ?_ (fun _ _ _ _ _ => pg_name (i := 2) sc_C_others.nd rfl (Or.inl rfl)) (fun _ => rfl) ?_ (fun i _ _ F2 u sF hu _ _ _ _ _ => wv_var 2 rfl hu) _ s0 _ q)))
  · rw [← er]
    exact wsrc_range1 T.range (wv_ixT (wv_cf st (hd_var 0 rfl) st.cls.table rfl st.tb) wv_int (atI_nat (j := 0) rfl)) (by have := st.wf.pos; omega)
  · unfold prsnOf
    rw [List.length_map, List.length_range]
    have := st.wf.pos
    omega
  · exact fun x _ F2 u sF hu => ts_one fun _ _ _ _ _ => wq_notIn (.inl rfl) (wv_var 2 rfl hu) (wv_meth (i, j) cl hr (st.mono sF) (hd_var 0 rfl) (wvs_cons (wv_var 1 rfl (dp.mono sF)) wvs_nil) hp)
end
end K29
set_option Elab.async false
set_option linter.all false
set_option maxRecDepth 100000
set_option maxHeartbeats 4000000
namespace K29
open PySem PySem.Spec PyProof.Rows L2
section
variable {P : Program} {w : World} {K : PySem.W.Frag} {mg : Str → Option Value} {base : Heap} {f : Addr} {fd : FuncData} {C CB : Addr}
abbrev n_C_bonds : List Str := ["self", "liars", "lost", "events", "gone", "place", "event"]
theorem sc_C_bonds : FnScope n_C_bonds ["self", "liars", "lost"] (C8.fnScope s_C_bonds) := C8.fnScope_by (by decide +kernel)
def spBonds (C CB : Addr) (K : PySem.W.Frag) : Sp := fun vs H Q _ => ∃ (F : Hp) (c : Cd) (vl vo : V) (dl do_ : PyData) (ls lo : List Int), vs = [.ref c.b, vl, vo] ∧ c.C = C ∧ CSt K F c ∧ CDy K CB F H c ∧ Dq K F vl dl ∧ SeqI dl ls ∧ Dq K F vo do_ ∧ SeqI do_ lo ∧
  ∀ d A F' H', d.C = CB → d.T = c.T → d.kind = c.kind → d.gone = goneOf c.T ls lo → BOk K F' d A → Gm c.M F H F' H' → CDy K CB F' H' c → Q (.ref d.b) H'
theorem c_C_bonds {emp : Addr} (T : Txt K mg) (BC : Ccls K C) (ci : C8.Cal P w K mg base 1 "is_with" (spIsWith K) []) (cB : C8.Mak P w K mg base 5 "Bonds" CB (spInit CB emp K) [.ref emp]) (me : Meth K C "bonds" f) (F : C8.Fun K "bonds" "Chances.bonds" s_C_bonds f fd) (b : Binds K fd ["self", "liars", "lost"] []) : C8.Met P w K mg base 7 C "bonds" (spBonds C CB K) [] := by
  refine metW BC.c me F b .nil sc_C_bonds (fun vs H Q E ⟨G, c, vl, vo, _, _, _, _, e, _⟩ => by rw [e]; rfl) fun cdv A00 outer s H vs Q E hr ⟨G, c, vl, vo, dl, do_, ls, lo, e, ec, st, dy, hl, sl, ho, so, q⟩ => ?_
  subst e
  subst ec
  -- events
  refine wb_cons (w1_setv 3 sc_C_bonds.nd (wv_ixT (d := .tuple (c.T.evs.map evD)) (wv_cf st (hd_var 0 rfl) st.cls.table rfl st.tb) wv_int (atI_nat (j := 1) rfl)) dy.s fun ve F1 H1 g1 d1 => ?_)
  -- gone
  refine wb_cons (w1_set 4 sc_C_bonds.nd (we_callTy call_tuple_of T.tuple (wa_cons (we_lc sc_C_bonds.nd (blkOk_by (own := [("place", 5), ("event", 6)]) (N := n_C_bonds) (sc := C8.fnScope s_C_bonds) (by decide +kernel)) ?_))))
  refine lcv_p (F := F1) (xs := idxd c.T.evs) (e1 := fun x => .int x.1) (e2 := fun x => evD x.2) 5 6 (fun x => decide (x.1 ∈ lo) || isWith x.2 ls) (fun x => .int x.1) ?_ ?_ ?_ (fun _ _ => rfl) ?_ ?_ _ g1.fh _ fun v F2 H2 g2 d2 => ?_
  · rw [← enumD_map]
    exact wsrc_enumT T.enumerate (wv_var 3 rfl d1)
  · rw [idxd_len]
    exact Nat.le_trans st.wf.few (by decide)
  · exact fun _ _ _ _ _ => pg_tup rfl (pgs_cons (pg_name (i := 5) sc_C_bonds.nd rfl (Or.inl rfl)) (pgs_cons (pg_name (i := 6) sc_C_bonds.nd rfl (Or.inl rfl)) pgs_nil))
  · exact fun x _ F3 v u sF h1 h2 => ts_one fun _ _ _ _ _ => wq_or2 (wq_in so (wv_var 5 rfl h1) (wv_var 2 rfl (ho.mono (g1.ff.trans sF)))) fun _ => wq_val (wv_call (⟨x.2, dl, ls⟩ : IwA) ci hr (wvs_cons (wv_var 6 rfl h2) (wvs_cons (wv_var 1 rfl (hl.mono (g1.ff.trans sF))) wvs_nil)) sl)
  · exact fun x _ _ F3 v u sF h1 h2 _ _ _ _ _ => wv_var 5 rfl h1
  have d2 : Dq K F2 v (.list ((goneOf c.T ls lo).map .int)) := by
    unfold goneOf
    rw [List.map_map]
    exact d2
  obtain ⟨lv, rfl, ev⟩ := d2.lstI
  refine wa_nil ⟨lv, _, rfl, .inl ⟨SqL.of (g2.fh _ _ ev), fun pg hpg => ?_⟩⟩
  generalize eg : goneOf c.T ls lo = go at *
  have hgo : go ∈ subs (plcs c.T) := eg ▸ goneOf_sub _ _ _
  have g3 : Gr G H (upd F2 pg (.tup (go.map V.int))) (upd H2 pg (.tup (go.map V.int))) := (g1.trans g2).trans (Gr.new g2.fh hpg)
  have dgo : Dq K (upd F2 pg (.tup (go.map V.int))) (.ref pg) (tI go) := .tup (.inl upd_same) (DqAll.of_ints go)
  have kp : upd H2 pg (.tup (go.map V.int)) pg = some (.tup ((gk go).map kV)) := by rw [upd_same, gk_kV]
  have s23 : Same F2 (upd F2 pg (.tup (go.map V.int))) := same_new (g2.fh.free hpg)
  show Wb _ _ _ _ (upd H2 pg (.tup (go.map V.int)))
  generalize upd F2 pg (.tup (go.map V.int)) = F3 at g3 dgo s23
  generalize upd H2 pg (.tup (go.map V.int)) = H3 at g3 kp
  have dy3 := dy.gr g3
  have st3 := st.mono g3.ff
  obtain ⟨kvs, ek, kn⟩ := dy3.k
  -- behind the if
  have ret : ∀ {σ' : L2.St} {F4 H4 : Hp} {kvs : List (List L2.Key × V)} {u : V}, σ' = [some (.ref c.b), some vl, some vo, some ve, some (.ref pg), none, none] → Gm c.M G H F4 H4 → CDy K CB F4 H4 c → H4 pg = some (.tup ((gk go).map kV)) → H4 c.pk = some (.dT kvs) → Kn K CB F4 c kvs → valV kvs (gk go) = some u → Wb (CxD P w K mg base n_C_bonds "Chances.bonds" (C8.fnScope s_C_bonds) f cdv A00 outer s H E) ((C8.fnBody s_C_bonds).drop 3) (DEnd Q) σ' H4 := by
    rintro σ' F4 H4 kvs u rfl g4 y4 kp4 ek4 kn4 hv
    obtain ⟨d, A, rfl, h2, h3, h4, h5, h6⟩ := kn4.at_ go u hv
    exact wb_one (w1_ret (we_dget hr (we_cf (st.mono g4.ff) (hd_var 0 rfl) st.cls.known y4.s (we_var 4 rfl ⟨_, _, rfl, hv ▸ DGet.t ek4 kp4, q d A F4 H4 h2 h3 h4 h5 h6 g4 y4⟩))))
  refine wb_cons (w1_if (wt_dnotin hr (we_var 4 rfl (we_cf st3 (hd_var 0 rfl) st.cls.known dy3.s ⟨_, _, rfl, DGet.t ek kp, ?_⟩))))
  cases hv : valV kvs (gk go) with
  | some u => exact iteF (wb_nil (ret rfl g3.gm dy3 kp ek kn hv))
  | none =>
  refine iteT (wb_one (w1_dput hr (we_make cB hr ?_)))
  refine wa_cons (Wv.go (wv_cf st3 (hd_var 0 rfl) st.cls.table rfl st3.tb) dy3.s fun v5 F5 H5 g5 d5 => wa_cons (Wv.go (wv_cf (st3.mono g5.ff) (hd_var 0 rfl) st.cls.kind rfl (.str c.kind)) g5.fh fun v6 F6 H6 g6 d6 => wa_cons (we_var 4 rfl (wa_nil fun y dx ny ndx nxy => ?_))))
  rw [d6.str_inv]
  have g36 := g5.trans g6
  refine ⟨F6, H6, y, dx, c.T, c.kind, go, v5, .ref pg, rfl, rfl, ny, ndx, nxy, g6.fh, d5.mono g6.ff, dgo.mono g36.ff, ?_, st.wf, fun d A F7 H7 e1 e2 e3 e4 e5 bo g7 => ⟨rfl, ?_⟩⟩
  · have := nodup_sub_len [go] (subs (plcs c.T)) (List.pairwise_singleton _ _) (fun x hx => by rw [List.mem_singleton.mp hx]; exact hgo)
    rw [← eg]
    unfold goneOf
    rw [List.length_map]
    have h2 := List.length_filter_le (fun q => decide (q.1 ∈ lo) || isWith q.2 ls) (idxd c.T.evs)
    rw [idxd_len] at h2
    exact Nat.le_trans h2 st.wf.few
  rw [← e1]
  have g37 := (g3.trans g36).trans g7
  have dy7 := dy.gr g37
  have kn7 := kn.mono ((g36.trans g7).ff)
  have ek7 := (g36.trans g7).hh _ _ ek
  have kp7 := (g36.trans g7).hh _ _ kp
  refine we_cf (st.mono g37.ff) (hd_var 0 rfl) st.cls.known dy7.s (we_var 4 rfl ⟨c.pk, _, rfl, DPut.t ek7 kp7 (kn7.len st.few), ?_⟩)
  have kn8 := kn7.put hgo hv e5 e2 e3 e4 bo
  have npk : pg ≠ c.pk := fun z => by
    rw [z, ek7] at kp7
    cases kp7
  exact ret rfl (g37.gm.mut (.inl rfl) dy7.f) ⟨same_mut dy7.s dy7.f, dy7.f, _, upd_same, kn8⟩ (by rw [upd_ne npk]; exact kp7) upd_same kn8 (by rw [valV_put, if_pos rfl])
/-! ### hides -/
abbrev n_C_hides : List Str := ["self", "pair", "liars", "lost"]
theorem sc_C_hides : FnScope n_C_hides ["self", "pair", "liars", "lost"] (C8.fnScope s_C_hides) := C8.fnScope_by (by decide +kernel)
def spHides (C CB : Addr) (K : PySem.W.Frag) : Sp := fun vs H Q _ => ∃ (F : Hp) (c : Cd) (vp vl vo : V) (dl do_ : PyData) (i j : Int) (ls lo : List Int), vs = [.ref c.b, vp, vl, vo] ∧ c.C = C ∧ CSt K F c ∧ CDy K CB F H c ∧ Dq K F vp (prD (i, j)) ∧ Dq K F vl dl ∧ SeqI dl ls ∧ Dq K F vo do_ ∧ SeqI do_ lo ∧
  ∀ F' H', Gm c.M F H F' H' → CDy K CB F' H' c → Q (.bl (!alB c.T c.kind (goneOf c.T ls lo) i j)) H'
theorem c_C_hides (BC : Ccls K C) (cb : C8.Met P w K mg base 7 C "bonds" (spBonds C CB K) []) (ca : C8.Met P w K mg base 1 CB "is_alike" (spAlike CB K) []) (me : Meth K C "hides" f) (F : C8.Fun K "hides" "Chances.hides" s_C_hides f fd) (b : Binds K fd ["self", "pair", "liars", "lost"] []) : C8.Met P w K mg base 8 C "hides" (spHides C CB K) [] := by
  refine metW BC.c me F b .nil sc_C_hides (fun vs H Q E ⟨G, c, vp, vl, vo, _, _, _, _, _, _, e, _⟩ => by rw [e]; rfl) fun cdv A00 outer s H vs Q E hr ⟨G, c, vp, vl, vo, dl, do_, i, j, ls, lo, e, ec, st, dy, hp, hl, sl, ho, so, q⟩ => ?_
  subst e
  subst ec
  refine wb_one (w1_ret (we_not (we_meth ca hr (we_meth cb hr (we_var 0 rfl ⟨_, _, _, rfl, dy.s _ _ st.ins, rfl, wa_cons (we_var 2 rfl (wa_cons (we_var 3 rfl (wa_nil ⟨G, c, vl, vo, dl, do_, ls, lo, rfl, rfl, st, dy, hl, sl, ho, so, fun d A F1 H1 e1 e2 e3 e4 bo g1 y1 => ?_⟩))))⟩)))))
  subst e1
  refine ⟨d.b, d.dx, bfs d, rfl, y1.s _ _ bo.st.ins, rfl, ?_⟩
  have hp1 := hp.mono g1.ff
  refine wa_cons (Wv.int (wv_ixT (wv_var 1 rfl hp1) wv_int (atI_nat (j := 0) rfl)) y1.s fun H2 s2 => wa_cons (Wv.int (wv_ixT (wv_var 1 rfl hp1) wv_int (atI_nat (j := 1) rfl)) (y1.s.trans s2) fun H3 s3 => wa_nil ?_))
  have s13 := s2.trans s3
  refine ⟨F1, d, A, i, j, rfl, rfl, y1.s.trans s13, bo.st, s13 _ _ (y1.s _ _ bo.a), fun H4 s4 => ⟨_, rfl, ?_⟩⟩
  have s14 := s13.trans s4
  have al := bo.al
  rw [e2, e3, e4] at al
  show Q (.bl (!hasS A i j)) H4
  rw [alB_of al]
  exact q F1 H4 (g1.trans (⟨Same.refl _, y1.s.trans s14, s14, fun _ e _ => e⟩ : Gr F1 H1 F1 H4).gm) (y1.sm s14)
end
end K29
set_option Elab.async false
set_option linter.all false
set_option maxRecDepth 100000
set_option maxHeartbeats 4000000
namespace K29
open PySem PySem.Spec PyProof.Rows L2
section
variable {X : Cx} {elt tg it tg1 it1 : Expr} {scope : Scope} {vs vs1 : List Nat} {own : List (Str × Nat)} {σ : L2.St} {F H : Hp} {pos : Pos} {Q : VK}
def Sc2W (X : Cx) (elt tg it tg1 it1 : Expr) (scope : Scope) (vs vs1 : List Nat) (σ : L2.St) (H : Hp) (Q : VK) : Prop := tSc2 X.w (Wi X tg it) (gAll X scope tg) (iAll X scope tg1 it1) (gAll X scope tg1) (eAll X scope elt) vs vs1 σ H Q
theorem we_sc2 (hN : X.N.Nodup) (ok : BlkOk X.N X.env.scope scope own) (h : Sc2W X elt tg it tg1 it1 scope (own.map (·.2)) vs1 σ H Q) (hv : ∀ i ∈ vs1, i ∈ own.map (·.2) := by decide) (hc : X.calm = true := by rfl) (hs : ∀ x, foldedSetIterable it X.env x = pure x := by intro _; rfl) (hs1 : ∀ env x, foldedSetIterable it1 env x = pure x := by intro _ _; rfl) : We X (.SetComp elt [⟨tg, it, [], 0⟩, ⟨tg1, it1, [], 0⟩] scope pos) σ H Q :=
  we_of (sc2_pe (g := gAll X scope tg) (wi1 := iAll X scope tg1 it1) (g1 := gAll X scope tg1) (te := eAll X scope elt) hc hN wi_pi ok hv
    (fun s0 H0 C cl fp => ⟨fun pins s σ H v u Q I r z => z s0 H0 C cl fp pins s u I r⟩) (fun s0 H0 C cl fp => ⟨fun pins s σ H R I z => z s0 H0 C cl fp pins s I⟩)
    (fun s0 H0 C cl fp => ⟨fun pins s σ H v u Q I r z => z s0 H0 C cl fp pins s u I r⟩) (fun s0 H0 C cl fp => ⟨fun pins s σ H Q I z => z s0 H0 C cl fp pins s I⟩) hs hs1) h
/-- the set of all ints of some tuples: i turns of the outer for are done -/
theorem sc2_ints {sets : List (List Int)} (i1 i2 : Nat) (M : List Int) (hM : M.length ≤ 60) (hm : ∀ p ∈ sets, ∀ x ∈ p, x ∈ M) (hsrc : Wsrc X tg it σ F (sets.map tI)) (s : Same F H)
    (hg : ∀ (s0 : Shared) (H0 : Hp) (C : Addr) (cl : List (Str × Addr)) (fp : List Addr), PG (Bk X scope s0 H0 C cl fp) tg (gName i1)) (hg1 : ∀ (s0 : Shared) (H0 : Hp) (C : Addr) (cl : List (Str × Addr)) (fp : List Addr), PG (Bk X scope s0 H0 C cl fp) tg1 (gName i2))
    (hw : ∀ v : V, wipe ((wipe σ vs).set i1 (some v)) vs = wipe σ vs) (hw1 : ∀ v u : V, wipe ((wipe ((wipe σ vs).set i1 (some v)) vs1).set i2 (some u)) vs1 = wipe ((wipe σ vs).set i1 (some v)) vs1)
    (hsrc1 : ∀ p ∈ sets, ∀ F1 v, Same F F1 → Dq X.K F1 v (tI p) → ∀ (s0 : Shared) (H0 : Hp) (C : Addr) (cl : List (Str × Addr)) (fp : List Addr), Wsrc (Bk X scope s0 H0 C cl fp) tg1 it1 ((wipe σ vs).set i1 (some v)) F1 (p.map .int))
    (he : ∀ (v : V) (k : Int) (H' : Hp) (Q : VK), Q (.int k) H' → ∀ (s0 : Shared) (H0 : Hp) (C : Addr) (cl : List (Str × Addr)) (fp : List Addr), We (Bk X scope s0 H0 C cl fp) elt ((wipe ((wipe σ vs).set i1 (some v)) vs1).set i2 (some (.int k))) H' Q)
    (q : ∀ (D : Addr) (S : Int → Bool) (L : List Int) (F' H' : Hp), L.Nodup → (∀ k, S k = decide (k ∈ L)) → (∀ k, k ∈ L ↔ k ∈ sets.flatten) → L.length ≤ M.length → Gr F H F' H' → H' D = some (SetO X.w D S L.length) → Q (.ref D) H') : Sc2W X elt tg it tg1 it1 scope vs vs1 σ H Q :=
  hsrc H s _ fun J F0 H1 g hJ D hD => by
    have lb : ∀ {L : List Int}, L.Nodup → (∀ x ∈ L, x ∈ M) → L.length ≤ M.length := fun {L} nd h => nodup_sub_len L M nd h
    let Iv : Nat → Hp → Prop := fun i H' => ∃ (Fi : Hp) (S : Int → Bool) (L : List Int), Gr F0 H1 Fi H' ∧ Fi D = none ∧ H' D = some (SetO X.w D S L.length) ∧ L.Nodup ∧ (∀ k, S k = decide (k ∈ L)) ∧ ∀ k, k ∈ L ↔ k ∈ (sets.take i).flatten
    refine ⟨fun i m H => m = sets.length - i ∧ i ≤ sets.length ∧ Iv i H, ⟨sets.length, by simp, Nat.zero_le _, F0, fun _ => false, [], Gr.newM g.fh hD, g.fh.free hD, upd_same, List.Pairwise.nil, fun _ => rfl, fun k => Iff.rfl⟩, ?_⟩
    rintro i m H2 ⟨rfl, hi, Fi, S, L, gi, fD, eD, nd, hS, hL⟩
    by_cases hlt : i < sets.length
    · refine .inr ⟨hJ.goes i H2 (by rw [List.length_map]; exact hlt) (gi.ff.trans gi.fh), Iv (i + 1), fun H' p' => ⟨sets.length - (i + 1), by omega, rfl, hlt, p'⟩, fun x H' y => ?_⟩
      have ed : sets[i]? = some sets[i] := List.getElem?_eq_getElem hlt
      have mem : sets[i] ∈ sets := List.getElem_mem hlt
      obtain ⟨d', F3, e', g3, dv⟩ := hJ.yields i H2 x H' (by rw [List.length_map]; exact hlt) (gi.ff.trans gi.fh) y Fi gi.ff gi.fh
      rw [List.getElem?_map, ed] at e'
      cases e'
      intro s0 H0 C cl fp
      refine wg_of (hg s0 H0 C cl fp) ⟨hw x, ?_⟩
      intro s0 H0 C cl fp
      refine Wsrc.go (hsrc1 _ mem F3 x (g.ff.trans (gi.ff.trans g3.ff)) dv s0 H0 C cl fp) g3.fh fun J1 F4 H4 g4 hJ1 => ?_
      have g04 := (gi.trans g3).trans g4
      let Jv : Nat → Hp → Prop := fun j H' => ∃ (Fj : Hp) (S : Int → Bool) (L : List Int), Gr F0 H1 Fj H' ∧ Same F4 Fj ∧ Fj D = none ∧ H' D = some (SetO X.w D S L.length) ∧ L.Nodup ∧ (∀ k, S k = decide (k ∈ L)) ∧ ∀ k, k ∈ L ↔ k ∈ (sets.take i).flatten ∨ k ∈ sets[i].take j
      refine ⟨fun j m H => m = sets[i].length - j ∧ j ≤ sets[i].length ∧ Jv j H, ⟨sets[i].length, by simp, Nat.zero_le _, F4, S, L, g04, Same.refl _, g4.noF (g3.noF fD eD) (g3.hh _ _ eD), g4.hh _ _ (g3.hh _ _ eD), nd, hS, fun k => by simp [hL k]⟩, ?_⟩
      rintro j m H5 ⟨rfl, hj, Fj, S1, L1, gj, sj, fj, ej, nd1, hS1, hL1⟩
      by_cases hjl : j < sets[i].length
      · refine .inr ⟨hJ1.goes j H5 (by rw [List.length_map]; exact hjl) (sj.trans gj.fh), Jv (j + 1), fun H' p' => ⟨sets[i].length - (j + 1), by omega, rfl, hjl, p'⟩, fun x1 H6 y1 => ?_⟩
        have ej1 : sets[i][j]? = some sets[i][j] := List.getElem?_eq_getElem hjl
        obtain ⟨d', F7, e', g7, dv1⟩ := hJ1.yields j H5 x1 H6 (by rw [List.length_map]; exact hjl) (sj.trans gj.fh) y1 Fj sj gj.fh
        rw [List.getElem?_map, ej1] at e'
        cases e'
        rw [dv1.int_inv]
        intro s0 H0 C cl fp
        refine wg_of (hg1 s0 H0 C cl fp) ⟨hw1 x (.int sets[i][j]), ?_⟩
        intro s0 H0 C cl fp
        refine he x sets[i][j] H6 _ ?_ s0 H0 C cl fp
        have inM : ∀ z ∈ L1, z ∈ M := fun z hz => by
          rcases (hL1 z).mp hz with h | h
          · obtain ⟨p, hp, hz⟩ := List.mem_flatten.mp h
            exact hm p (List.mem_of_mem_take hp) z hz
          · exact hm _ mem z (List.mem_of_mem_take h)
        have l1 := lb nd1 inM
        have tk : ∀ k, k ∈ sets[i].take (j + 1) ↔ k ∈ sets[i].take j ∨ k = sets[i][j] := fun k => by
          rw [List.take_add_one, ej1, List.mem_append]
          show _ ∨ k ∈ [sets[i][j]] ↔ _
          rw [List.mem_singleton]
        refine ⟨sets[i][j], S1, L1.length, rfl, g7.hh _ _ ej, by unfold scanBound; omega, F7, fun z => S1 z || decide (z = sets[i][j]), if S1 sets[i][j] = true then L1 else L1 ++ [sets[i][j]], (gj.trans g7).mut hD (g7.noF fj ej), sj.trans g7.ff, g7.noF fj ej, ?_, ?_, fun k => ?_, fun k => ?_⟩
        · rw [upd_same]
          split
          · rfl
          · rw [List.length_append]
            rfl
        · split
          · exact nd1
          · rename_i hn
            rw [hS1, decide_eq_true_eq] at hn
            exact List.nodup_append.mpr ⟨nd1, List.pairwise_singleton _ _, fun a ha b hb z => by
              rw [List.mem_singleton.mp hb] at z
              rw [z] at ha
              exact hn ha⟩
        · show (S1 k || decide (k = sets[i][j])) = _
          split
          · rename_i hn
            rw [hS1, decide_eq_true_eq] at hn
            rw [hS1, Bool.eq_iff_iff]
            simp only [Bool.or_eq_true, decide_eq_true_eq]
            exact ⟨fun h => h.elim id fun e => by rw [e]; exact hn, .inl⟩
          · rw [hS1, Bool.eq_iff_iff]
            simp only [Bool.or_eq_true, decide_eq_true_eq, List.mem_append, List.mem_singleton]
        · rw [tk]
          split
          · rename_i hn
            rw [hS1, decide_eq_true_eq] at hn
            rw [hL1]
            refine ⟨fun h => h.imp id .inl, fun h => ?_⟩
            rcases h with h | h | h
            · exact .inl h
            · exact .inr h
            · rw [h]
              exact (hL1 _).mp hn
          · rw [List.mem_append, List.mem_singleton, hL1, or_assoc]
      · obtain rfl : j = sets[i].length := by omega
        refine .inl ⟨by have := hJ1.stops H5 (sj.trans gj.fh); rw [List.length_map] at this; exact this, Fj, S1, L1, gj, fj, ej, nd1, hS1, fun k => ?_⟩
        rw [hL1, List.take_length, List.take_add_one, ed, List.flatten_append, List.mem_append]
        show _ ↔ _ ∨ k ∈ [sets[i]].flatten
        rw [List.flatten_singleton]
    · obtain rfl : i = sets.length := by omega
      rw [List.take_length] at hL
      have inM : ∀ z ∈ L, z ∈ M := fun z hz => by
        obtain ⟨p, hp, hz⟩ := List.mem_flatten.mp ((hL z).mp hz)
        exact hm p hp z hz
      refine .inl ⟨by have := hJ.stops H2 (gi.ff.trans gi.fh); rw [List.length_map] at this; exact this, q D S L Fi H2 nd hS hL (lb nd inM) (g.trans gi) eD⟩
end
end K29
set_option Elab.async false
set_option linter.all false
set_option maxRecDepth 100000
set_option maxHeartbeats 4000000
namespace K29
open PySem PySem.Spec PyProof.Rows L2
/-- range(e), the int known by its number -/
theorem wsrc_rangeN {X : Cx} {tg a : Expr} {σ : L2.St} {F : Hp} {m : Int} {n : Nat} {p pos : Pos} (hm : X.mg "range" = none) (h : Wv X a σ F (.int m)) (e : m = (n : Int) ∧ n ≤ 100000) (hg : Gl X "range" := by rfl) (hs : starEach [a] X.env = [(false, eval a X.env)] := by rfl) : Wsrc X tg (.Call (.Name "range" p) [a] [] pos) σ F (rangeD 0 n) := by
  have z := wsrc_range1 (tg := tg) (p := p) (pos := pos) hm h (by omega) hg hs
  rw [show m.toNat = n by omega] at z
  exact z
/-- the first of so many that is there -/
def firstAt {α : Type} (f : Nat → Option α) : Nat → Nat → Option α
  | 0, _ => none
  | n + 1, s => match f s with
    | some c => some c
    | none => firstAt f n (s + 1)
theorem firstAt_s {α : Type} {f : Nat → Option α} {n s : Nat} {c : α} (h : f s = some c) : firstAt f (n + 1) s = some c := by
  unfold firstAt
  rw [h]
theorem firstAt_n {α : Type} {f : Nat → Option α} {n s : Nat} (h : f s = none) : firstAt f (n + 1) s = firstAt f n (s + 1) := by
  rw [firstAt, h]
theorem firstAt_some {α : Type} {f : Nat → Option α} {c : α} : ∀ {n s : Nat}, firstAt f n s = some c → ∃ k, s ≤ k ∧ k < s + n ∧ f k = some c ∧ ∀ j, s ≤ j → j < k → f j = none
  | 0, _, h => by cases h
  | n + 1, s, h => by
    unfold firstAt at h
    cases e : f s with
    | some d =>
      rw [e] at h
      cases h
      exact ⟨s, Nat.le_refl _, by omega, e, fun j h1 h2 => by omega⟩
    | none =>
      rw [e] at h
      obtain ⟨k, h1, h2, h3, h4⟩ := firstAt_some (show firstAt f n (s + 1) = some c from h)
      refine ⟨k, by omega, by omega, h3, fun j j1 j2 => ?_⟩
      by_cases z : j = s
      · rw [z, e]
      · exact h4 j (by omega) j2
theorem firstAt_none {α : Type} {f : Nat → Option α} : ∀ {n s : Nat}, firstAt f n s = none → ∀ j, s ≤ j → j < s + n → f j = none
  | 0, _, _, j, h1, h2 => by omega
  | n + 1, s, h, j, h1, h2 => by
    unfold firstAt at h
    cases e : f s with
    | some d =>
      rw [e] at h
      cases h
    | none =>
      rw [e] at h
      by_cases z : j = s
      · rw [z, e]
      · exact firstAt_none (show firstAt f n (s + 1) = none from h) j (by omega) (by omega)
def itemsOf (sets : List (List Int)) : List Int := srtM sets.flatten
def hitAt (sets : List (List Int)) (s : Nat) : Option (List Int) := ((chs (itemsOf sets) s).filter fun c => hitsM c sets).head?
def lhit (sets : List (List Int)) : Option (List Int) := firstAt (hitAt sets) ((itemsOf sets).length + 1) 0
def optD : Option (List Int) → PyData
  | some c => tI c
  | none => .none
section
variable {P : Program} {w : World} {K : PySem.W.Frag} {mg : Str → Option Value} {base : Heap} {f : Addr} {fd : FuncData}
abbrev n_least_hit : List Str := ["sets", "items", "size", "found", "part", "thing", "some"]
theorem sc_least_hit : FnScope n_least_hit ["sets"] (C8.fnScope s_least_hit) := C8.fnScope_by (by decide +kernel)
def hitPre (sets : List (List Int)) : Prop := ∃ M : List Int, M.length ≤ 8 ∧ (∀ p ∈ sets, ∀ x ∈ p, x ∈ M) ∧ sets.length ≤ 1000 ∧ ∀ p ∈ sets, p.length ≤ 100
abbrev spLeastHit (K : PySem.W.Frag) : Sp := PuT K (fun a : List (List Int) => [.list (a.map tI)]) hitPre (fun a => optD (lhit a))
theorem c_least_hit (T : Txt K mg) (cc : C8.Cal P w K mg base 9 "choices" (spChoices 8 K) []) (ch : C8.Cal P w K mg base 1 "hits" (spHits K) []) (F : C8.Def K mg "least_hit" s_least_hit f fd) (b : Binds K fd ["sets"] []) : C8.Cal P w K mg base 10 "least_hit" (spLeastHit K) [] := by
  refine calP F b sc_least_hit (fun _ => rfl) fun cdv A outer s H vs Q E G a hr s0 hd hp q => ?_
  obtain ⟨vx, r, rfl, dx, hd⟩ := hd.cons_inv
  rw [hd.nil_inv]
  obtain ⟨M, hM, hm, hl, hl1⟩ := hp
  refine wb_cons (w1_set 1 sc_least_hit.nd (we_callB (cr_sortedSet rfl) T.sorted (wa_cons (we_sc2 (vs1 := [5]) sc_least_hit.nd (blkOk_by (own := [("part", 4), ("thing", 5)]) (N := n_least_hit) (sc := C8.fnScope s_least_hit) (by decide +kernel)) ?_))))
  refine sc2_ints (F := G) (sets := a) 4 5 M (Nat.le_trans hM (by decide)) hm (wsrc_list (wv_var 0 rfl dx)) s0 ?_ ?_ (fun _ => rfl) (fun _ _ => rfl) ?_ ?_ fun D S L F1 H1 nd hS hL lL g1 eD => ?_
  · exact fun _ _ _ _ _ => pg_name (i := 4) sc_least_hit.nd rfl (Or.inl rfl)
  · exact fun _ _ _ _ _ => pg_name (i := 5) sc_least_hit.nd rfl (Or.inl rfl)
  · exact fun p hp F2 v sF dv _ _ _ _ _ => wsrc_tup (wv_var 4 rfl dv)
  · exact fun v k H' Q' q' _ _ _ _ _ => we_var 5 rfl q'
  refine wa_nil ⟨D, S, L.length, rfl, eD, by omega, fun ms y hms hmk hml hy => ?_⟩
  have ems : ms = itemsOf a := asc_unique hms (srtM_asc _) fun k => by rw [hmk, hS, decide_eq_true_eq, hL]; exact mem_srtM.symm
  have lit : (itemsOf a).length ≤ 8 := by
    rw [← ems, hml]
    omega
  rw [ems]
  have g2 : Gr G H (upd F1 y (.lst ((itemsOf a).map V.int))) (upd H1 y (.lst ((itemsOf a).map V.int))) := g1.trans (Gr.new g1.fh hy)
  have d2 : Dq K (upd F1 y (.lst ((itemsOf a).map V.int))) (.ref y) (.list ((itemsOf a).map .int)) := .lst upd_same (DqAll.of_ints _)
  show Wb _ _ _ _ (upd H1 y (.lst ((itemsOf a).map V.int)))
  generalize upd F1 y (.lst ((itemsOf a).map V.int)) = F2 at g2 d2
  generalize upd H1 y (.lst ((itemsOf a).map V.int)) = H2 at g2
  refine wb_cons (w1_forH (ds := rangeD 0 ((itemsOf a).length + 1)) (fun F3 i σ' H' => ∃ Fi u v, Same F3 Fi ∧ Same F2 Fi ∧ Gr G H Fi H' ∧ lhit a = firstAt (hitAt a) ((itemsOf a).length + 1 - i) i ∧ σ' = [some vx, some (.ref y), u, v, none, none, none])
    (Wsrc.at_ (wsrc_rangeN (F := F2) T.range (wv_add (wv_callB call_len_seq cd_lenL (wv_var 1 rfl d2) T.len) wv_int) ⟨by rw [List.length_map]; rfl, by omega⟩) g2.fh) (fun F3 H3 g3 => ⟨F3, none, none, Same.refl _, g3.ff, g2.trans g3, rfl, rfl⟩) (fun F3 i σ' H' ⟨Fi, u, v, s1, _, g, _⟩ => s1.trans g.fh) ?_ ?_)
  · rintro F3 i dd v σ' H3 H4 ed ⟨Fi, u, v', s3, s2, g, el, rfl⟩ hy
    obtain ⟨F5, g5, dv⟩ := hy Fi s3 g.fh
    obtain ⟨hi, rfl⟩ := rangeD_at ed
    rw [dv.int_inv, Int.zero_add]
    have gg := g.trans g5
    refine wg_name 2 sc_least_hit.nd (wb_cons (w1_setLc (i := 3) sc_least_hit.nd (blkOk_by (own := [("some", 6)]) (N := n_least_hit) (sc := C8.fnScope s_least_hit) (by decide +kernel)) ?_))
    refine lcv_n (F := F5) (xs := chs (itemsOf a) i) (enc := tI) 6 (fun c => hitsM c a) tI (wsrc_list (wv_call (itemsOf a, i) cc hr (wvs_cons (wv_var 1 rfl (d2.mono (s2.trans g5.ff))) (wvs_cons (wv_var 2 rfl (.int _)) wvs_nil)) ⟨lit, by omega⟩)) ?_ ?_ (fun _ => rfl) ?_ ?_ _ gg.fh _ fun v6 F6 H6 g6 d6 => ?_
    · have h1 := chs_len (itemsOf a) i
      have h2 : 2 ^ (itemsOf a).length ≤ 2 ^ 8 := Nat.pow_le_pow_right (by decide) lit
      omega
    · exact fun _ _ _ _ _ => pg_name (i := 6) sc_least_hit.nd rfl (Or.inl rfl)
    · exact fun c hc F7 v7 s7 h7 => ts_one fun _ _ _ _ _ => wq_val (wv_call (c, a) ch hr (wvs_cons (wv_var 6 rfl h7) (wvs_cons (wv_var 0 rfl (dx.mono (gg.ff.trans s7))) wvs_nil)) ⟨hl, hl1⟩)
    · exact fun c hc _ F7 v7 s7 h7 _ _ _ _ _ => wv_var 6 rfl h7
    have g16 := gg.trans g6
    rw [show (itemsOf a).length + 1 - i = ((itemsOf a).length + 1 - (i + 1)) + 1 by omega] at el
    have eh : hitAt a i = ((chs (itemsOf a) i).filter fun c => hitsM c a).head? := rfl
    cases ec : (chs (itemsOf a) i).filter (fun c => hitsM c a) with
    | nil =>
      rw [ec] at d6 eh
      rw [firstAt_n eh] at el
      refine wb_one (w1_ifq (t := false) (Wq.to (wq_gt (wv_callB call_len_seq cd_lenL (wv_var 3 rfl d6) T.len) wv_int) (by decide)) g6.fh (fun z => by cases z) (fun _ H7 s7 => wb_nil ?_))
      exact ⟨F6, _, _, (s3.trans g5.ff).trans g6.ff, (s2.trans g5.ff).trans g6.ff, g16.trans (⟨Same.refl _, g6.fh.trans s7, s7, fun _ e _ => e⟩ : Gr F6 H6 F6 H7), el, rfl⟩
    | cons c cs =>
      rw [ec] at d6 eh
      rw [firstAt_s eh] at el
      refine wb_one (w1_ifq (t := true) (Wq.to (wq_gt (wv_callB call_len_seq cd_lenL (wv_var 3 rfl d6) T.len) wv_int) (decide_eq_true (by rw [List.length_map, List.length_cons]; omega))) g6.fh (fun _ H7 s7 => ?_) (fun z => by cases z))
      refine wb_one (w1_ret (Wv.go (d := tI c) (wv_ixL (wv_var 3 rfl d6) wv_int (atI_nat (j := 0) rfl)) (g6.fh.trans s7) fun v8 F8 H8 g8 d8 => q v8 F8 H8 (g16.trans ⟨g8.ff, g8.fh, s7.trans g8.hh, fun x e n => g8.fr x e fun z => n (s7.free z)⟩) ?_))
      rw [el]
      exact d8
  · rintro F3 σ' H3 ⟨Fi, u, v, s3, s2, g, el, rfl⟩
    rw [rangeD_len, Nat.sub_self] at el
    refine wb_one (w1_ret ((wv_non (F := Fi)).go g.fh fun v4 F4 H4 g4 d4 => q v4 F4 H4 (g.trans g4) ?_))
    rw [show lhit a = none from el]
    exact d4
end
end K29
set_option Elab.async false
set_option linter.all false
set_option maxRecDepth 100000
set_option maxHeartbeats 4000000
namespace K29
open PySem PySem.Spec PyProof.Rows L2 LamX
def leStep (fB : List Int → Bool) (found : List (List Int)) (c : List Int) : List (List Int) := if (!(found.any fun p => hasAll c p) && fB c) = true then found ++ [c] else found
def leAt (items : List Int) (fB : List Int → Bool) (found : List (List Int)) (s : Nat) : List (List Int) := (chs items s).foldl (leStep fB) found
def leTo (items : List Int) (fB : List Int → Bool) (n : Nat) : List (List Int) := (List.range n).foldl (leAt items fB) []
def leM (items : List Int) (fB : List Int → Bool) : List (List Int) := leTo items fB (items.length + 1)
theorem leTo_succ (items : List Int) (fB : List Int → Bool) (n : Nat) : leTo items fB (n + 1) = leAt items fB (leTo items fB n) n := by
  unfold leTo
  rw [List.range_succ, List.foldl_append]
  rfl
theorem hasAll_self (c : List Int) : hasAll c c = true := by
  unfold hasAll
  rw [List.all_eq_true]
  exact fun y hy => decide_eq_true hy
def leOk (items : List Int) (found : List (List Int)) : Prop := found.Nodup ∧ ∀ p ∈ found, p.Sublist items
theorem leStep_ok {items : List Int} {fB : List Int → Bool} {found : List (List Int)} {c : List Int} (h : leOk items found) (hc : c.Sublist items) : leOk items (leStep fB found c) := by
  unfold leStep
  split
  · rename_i z
    rw [Bool.and_eq_true] at z
    have z1 : (found.any fun p => hasAll c p) = false := by simpa using z.1
    refine ⟨List.nodup_append.mpr ⟨h.1, List.pairwise_singleton _ _, fun a ha b hb e => ?_⟩, fun p hp => ?_⟩
    · rw [List.mem_singleton.mp hb] at e
      rw [e] at ha
      have : (found.any fun p => hasAll c p) = true := List.any_eq_true.mpr ⟨c, ha, hasAll_self c⟩
      rw [z1] at this
      cases this
    · rcases List.mem_append.mp hp with hp | hp
      · exact h.2 p hp
      · rw [List.mem_singleton.mp hp]
        exact hc
  · exact h
theorem leFold_ok {items : List Int} {fB : List Int → Bool} : ∀ (cs : List (List Int)) (found : List (List Int)), leOk items found → (∀ c ∈ cs, c.Sublist items) → leOk items (cs.foldl (leStep fB) found)
  | [], _, h, _ => h
  | c :: cs, _, h, hc => leFold_ok cs _ (leStep_ok h (hc c (List.mem_cons_self ..))) fun d hd => hc d (List.mem_cons_of_mem _ hd)
theorem leTo_ok (items : List Int) (fB : List Int → Bool) : ∀ n, leOk items (leTo items fB n)
  | 0 => ⟨List.Pairwise.nil, fun _ h => (nomatch h)⟩
  | n + 1 => by
    rw [leTo_succ]
    exact leFold_ok _ _ (leTo_ok items fB n) fun c hc => (chs_sub _ _ _ hc).1
theorem leOk.len {items : List Int} {found : List (List Int)} (h : leOk items found) (hi : items.length ≤ 8) : found.length ≤ 256 := by
  have e := nodup_sub_len found (subs items) h.1 fun p hp => mem_subs (h.2 p hp)
  rw [subs_len] at e
  have : 2 ^ items.length ≤ 2 ^ 8 := Nat.pow_le_pow_right (by decide) hi
  omega
/-- what the lambda says of a choice -/
def TbC (K : PySem.W.Frag) (CB : Addr) (c : Cd) (G : Hp) (items : List Int) (fB : List Int → Bool) : V → Hp → VK → Prop := fun v H' Q => ∃ (F' : Hp) (some_ : List Int), Same G F' ∧ some_.Sublist items ∧ CDy K CB F' H' c ∧ Dq K F' v (tI some_) ∧ ∀ F'' H'', Gm c.M F' H' F'' H'' → CDy K CB F'' H'' c → Q (.bl (fB some_)) H''
theorem CDy.upd {K : PySem.W.Frag} {CB : Addr} {F H : Hp} {c : Cd} {l : Addr} {o : HO} (h : CDy K CB F H c) (n : l ≠ c.pk) (f : F l = none) : CDy K CB F (upd H l o) c := by
  obtain ⟨kvs, e1, e2⟩ := h.k
  exact ⟨same_mut h.s f, h.f, kvs, by rw [upd_ne (Ne.symm n)]; exact e1, e2⟩
section
variable {P : Program} {w : World} {K : PySem.W.Frag} {mg : Str → Option Value} {base : Heap} {CB : Addr}
abbrev n_least_enough : List Str := ["items", "is_enough", "found", "size", "some", "part"]
theorem sc_least_enough : FnScope n_least_enough ["items", "is_enough"] (C8.fnScope s_least_enough) := C8.fnScope_by (by decide +kernel)
theorem le_body {A : Around} {outer : List Env} {s : Shared} {H G : Hp} {g f c' : Addr} {cdv : Value} {q0 : Str} {c : Cd} {items : List Int} {fB : List Int → Bool} {vi : V} {Q : VK} (T : Txt K mg) (cc : C8.Cal P w K mg base 9 "choices" (spChoices 8 K) []) (ch : C8.Cal P w K mg base 1 "has_all" (spHasAll K) [])
    (hr : Room 9 (CxD P w K mg base n_least_enough "least_enough" (C8.fnScope s_least_enough) g cdv A outer s H C8.E0).A) (act : Act (CxD P w K mg base n_least_enough "least_enough" (C8.fnScope s_least_enough) g cdv A outer s H C8.E0) f c' q0 (TbC K CB c G items fB))
    (dy : CDy K CB G H c) (hco : H c' = some (CodeO c' q0)) (di : Dq K G vi (.list (items.map .int))) (li : items.length ≤ 8)
    (q : ∀ v F' H', Gm c.M G H F' H' → CDy K CB F' H' c → Dq K F' v (.list ((leM items fB).map tI)) → Q v H') :
    Wb (CxD P w K mg base n_least_enough "least_enough" (C8.fnScope s_least_enough) g cdv A outer s H C8.E0) (C8.fnBody s_least_enough) (DEnd Q) (L2.start n_least_enough [vi, .ref f]) H := by
  obtain ⟨kvs0, ek0, _⟩ := dy.k
  have npc : c' ≠ c.pk := fun z => by
    rw [z, ek0] at hco
    cases hco
  refine wb_cons (w1_set 2 sc_least_enough.nd (we_lst (wa_nil ⟨Nat.zero_le _, fun l hl => ?_⟩)))
  have nlp : l ≠ c.pk := fun z => by
    rw [z, ek0] at hl
    cases hl
  have fl0 : G l = none := dy.s.free hl
  -- the state
  let St : Hp → Hp → List (List Int) → Prop := fun F' H' found => ∃ acc, Gm c.M G H F' H' ∧ CDy K CB F' H' c ∧ F' l = none ∧ H' l = some (.lst acc) ∧ DqAll K F' acc (found.map tI)
  have stGr : ∀ {F1 H1 F2 H2 found}, St F1 H1 found → Gr F1 H1 F2 H2 → St F2 H2 found := fun {F1 H1 F2 H2 found} ⟨acc, a1, a2, a3, a4, a5⟩ g => ⟨acc, a1.trans g.gm, a2.gr g, g.noF a3 a4, g.hh _ _ a4, a5.mono g.ff⟩
  have st0 : St G (upd H l (.lst [])) [] := ⟨[], (Gm.refl dy.s).mut (.inr hl) fl0, dy.upd nlp fl0, fl0, upd_same, .nil⟩
  refine wb_cons (w1_forH (ds := rangeD 0 (items.length + 1)) (fun F1 i σ' H' => ∃ Fi u v, Same F1 Fi ∧ Same G Fi ∧ St Fi H' (leTo items fB i) ∧ σ' = [some vi, some (.ref f), some (.ref l), u, v, none])
    (Wsrc.at_ (wsrc_rangeN (F := G) T.range (wv_add (wv_callB call_len_seq cd_lenL (wv_var 0 rfl di) T.len) wv_int) ⟨by rw [List.length_map]; rfl, by omega⟩) (same_mut dy.s fl0)) (fun F1 H1 g1 => ⟨F1, none, none, Same.refl _, g1.ff, stGr st0 g1, rfl⟩) (fun F1 i σ' H' ⟨Fi, u, v, s1, _, ⟨_, _, d, _⟩, _⟩ => s1.trans d.s) ?_ ?_)
  · rintro F1 i dd v σ' H1 H2 ed ⟨Fi, u, v', s1, sG, t, rfl⟩ hy
    obtain ⟨F3, g3, dv⟩ := hy Fi s1 (by obtain ⟨_, _, d, _⟩ := t; exact d.s)
    obtain ⟨hi, rfl⟩ := rangeD_at ed
    rw [dv.int_inv, Int.zero_add]
    have t3 := stGr t g3
    have t3' := t3
    obtain ⟨_, _, d3, _⟩ := t3'
    have sG3 := sG.trans g3.ff
    refine wg_name 3 sc_least_enough.nd (wb_one (w1_forH (ds := (chs items i).map tI) (fun F4 j σ' H' => ∃ Fj u, Same F4 Fj ∧ Same G Fj ∧ Same F3 Fj ∧ St Fj H' (((chs items i).take j).foldl (leStep fB) (leTo items fB i)) ∧ σ' = [some vi, some (.ref f), some (.ref l), some (.int (i : Nat)), u, none])
      (Wsrc.at_ (wsrc_list (F := F3) (wv_call (items, i) cc hr (wvs_cons (wv_var 0 rfl (di.mono sG3)) (wvs_cons (wv_var 3 rfl (.int _)) wvs_nil)) ⟨li, by omega⟩)) d3.s) (fun F4 H4 g4 => ⟨F4, v', Same.refl _, sG3.trans g4.ff, g4.ff, stGr t3 g4, rfl⟩) (fun F4 j σ' H' ⟨Fj, u, s4, _, _, ⟨_, _, d, _⟩, _⟩ => s4.trans d.s) ?_ ?_))
    · rintro F4 j dd v4 σ' H4 H5 ed ⟨Fj, u, s4, sGj, s3j, t4, rfl⟩ hy
      obtain ⟨F6, g6, dv4⟩ := hy Fj s4 (by obtain ⟨_, _, d, _⟩ := t4; exact d.s)
      rw [List.getElem?_map] at ed
      cases eo : (chs items i)[j]? with
      | none =>
        rw [eo] at ed
        cases ed
      | some cx =>
      rw [eo] at ed
      cases ed
      obtain ⟨acc, gm6, dy6, f6, e6, ha6⟩ := stGr t4 g6
      have okF : leOk items (((chs items i).take j).foldl (leStep fB) (leTo items fB i)) := leFold_ok _ _ (leTo_ok items fB i) fun d hd => (chs_sub _ _ _ (List.mem_of_mem_take hd)).1
      have lF := okF.len li
      have csub := (chs_sub _ _ _ (List.mem_of_getElem? eo)).1
      have esucc : ((chs items i).take (j + 1)).foldl (leStep fB) (leTo items fB i) = leStep fB (((chs items i).take j).foldl (leStep fB) (leTo items fB i)) cx := by
        rw [List.take_add_one, eo, List.foldl_append]
        rfl
      rw [esucc]
      generalize ((chs items i).take j).foldl (leStep fB) (leTo items fB i) = found at ha6 okF lF
      -- the list as it stands
      have s62 : Same F6 (upd F6 l (.lst acc)) := same_new f6
      have s6H : Same (upd F6 l (.lst acc)) H5 := fun b o e => by
        by_cases z : b = l
        · rw [z, upd_same] at e
          rw [z, e6]
          exact e
        · rw [upd_ne z] at e
          exact dy6.s b o e
      have df : Dq K (upd F6 l (.lst acc)) (.ref l) (.list (found.map tI)) := .lst upd_same (ha6.mono s62)
      refine wg_name 4 sc_least_enough.nd (wb_one (w1_if (wt_and2 (Wq.go (F := upd F6 l (.lst acc)) (b := !(found.any fun p => hasAll cx p)) (wq_not (wq_val (Wv.to (wv_callB (d := .bool ((found.map fun p => hasAll cx p).any id)) (cr_any rfl) cd_any (wv_lc sc_least_enough.nd (blkOk_by (own := [("part", 5)]) (N := n_least_enough) (sc := C8.fnScope s_least_enough) (by decide +kernel)) ?_ |>.to (by rw [List.map_map])) T.any) (by rw [List.any_map]; rfl)))) s6H fun H7 s7 => ?_))))
      · refine lcv_n0 (xs := found) (enc := tI) 5 (fun p => .bool (hasAll cx p)) (wsrc_list (wv_var 2 rfl df)) (Nat.le_trans lF (by decide)) ?_ (fun _ => rfl) ?_
        · exact fun _ _ _ _ _ => pg_name (i := 5) sc_least_enough.nd rfl (Or.inl rfl)
        · intro p hp F8 v8 s8 h8 _ _ _ _ _
          exact wv_call (cx, p) ch hr (wvs_cons (wv_var 4 rfl (dv4.mono (s62.trans s8))) (wvs_cons (wv_var 5 rfl h8) wvs_nil)) (Nat.le_trans (okF.2 p hp).length_le (Nat.le_trans li (by decide)))
      have g67 : Gr F6 H5 F6 H7 := ⟨Same.refl _, dy6.s.trans s7, s7, fun _ e _ => e⟩
      have fin : ∀ {F8 H8 found'}, Same F6 F8 → St F8 H8 found' → ∃ Fj u, Same F4 Fj ∧ Same G Fj ∧ Same F3 Fj ∧ St Fj H8 found' ∧ [some vi, some (V.ref f), some (.ref l), some (.int (i : Nat)), some v4] ++ [none] = [some vi, some (.ref f), some (.ref l), some (.int (i : Nat)), u, none] := fun {F8 H8 found'} g t => ⟨F8, _, (s4.trans g6.ff).trans g, (sGj.trans g6.ff).trans g, (s3j.trans g6.ff).trans g, t, rfl⟩
      have t7 : St F6 H7 found := ⟨acc, gm6.trans g67.gm, dy6.gr g67, f6, s7 _ _ e6, ha6⟩
      unfold leStep
      cases e1 : (found.any fun p => hasAll cx p) with
      | true =>
        refine iteF (iteF (wb_nil ?_))
        rw [Bool.not_true, Bool.false_and, if_neg Bool.false_ne_true]
        exact fin (Same.refl _) t7
      | false =>
      refine iteT (wt_bl (act 1 "is_enough" _ _ _ _ _ _ rfl (Or.inl rfl) (by decide) (by decide) rfl rfl rfl (wa_cons (we_var 4 rfl (wa_nil ⟨v4, rfl, ?_, F6, cx, sGj.trans g6.ff, csub, dy6.gr g67, dv4, fun F8 H8 g8 y8 => ⟨_, rfl, ?_⟩⟩)))))
      · exact s7 _ _ (gm6.hh _ _ (fun z => npc z) hco)
      have l8 : H8 l = some (.lst acc) := g8.hh _ _ (fun z => nlp z) (s7 _ _ e6)
      have f8 : F8 l = none := g8.noF f6 (s7 _ _ e6)
      have t8 : St F8 H8 found := ⟨acc, (gm6.trans g67.gm).trans g8, y8, f8, l8, ha6.mono g8.ff⟩
      rw [Bool.not_false, Bool.true_and]
      cases e2 : fB cx with
      | false =>
        refine iteF (wb_nil ?_)
        rw [if_neg Bool.false_ne_true]
        exact fin g8.ff t8
      | true =>
        refine iteT (wb_one (w1_append (ho_var 2 rfl) l8 f8 (wv_var 4 rfl (dv4.mono g8.ff)) y8.s (by rw [ha6.length, List.length_map]; omega) fun v9 F9 H9 g9 d9 f9 e9 => ?_))
        rw [if_pos rfl]
        have y9 := y8.gr g9
        exact fin (g8.ff.trans g9.ff) ⟨acc ++ [v9], (((gm6.trans g67.gm).trans g8).trans g9.gm).mut (.inr hl) f9, y9.upd nlp f9, f9, upd_same, by
          rw [List.map_append]
          exact (ha6.mono (g8.ff.trans g9.ff)).append (.cons d9 .nil)⟩
    · rintro F4 σ' H4 ⟨Fj, u, s4, sGj, s3j, t4, rfl⟩
      rw [List.length_map, List.take_length] at t4
      exact ⟨Fj, _, _, (s1.trans g3.ff).trans s3j, sGj, by rw [leTo_succ]; exact t4, rfl⟩
  · rintro F1 σ' H1 ⟨Fi, u, v, s1, sG, ⟨acc, gm, dyy, fl, el, ha⟩, rfl⟩
    rw [rangeD_len] at ha
    refine wb_one (w1_ret (we_var 2 rfl (q _ _ _ (gm.freeze hl fl el) ⟨fun b o e => ?_, ?_, ?_⟩ (.lst upd_same (ha.mono (same_new fl))))))
    · exact (gm.freeze hl fl el).fh b o e
    · rw [upd_ne (Ne.symm nlp)]
      exact dyy.f
    · obtain ⟨kvs, k1, k2⟩ := dyy.k
      exact ⟨kvs, k1, k2.mono (same_new fl)⟩
end
end K29
set_option Elab.async false
set_option linter.all false
set_option maxRecDepth 100000
set_option maxHeartbeats 4000000
namespace K29
open PySem PySem.Spec PyProof.Rows L2 LamX
/-- a def whose code object is known -/
structure FunC (K : PySem.W.Frag) (x qual : Str) (st : Stmt) (f : Addr) (fd : FuncData) (c : Addr) : Prop where
  ex : ∃ (oc : Value) (od : Option Addr) (dV kV doc pm : Value) (an : Option Addr) (ct : Value) (osl : Array (Option Value)),
    fd = PySem.W.fnOf x qual (C8.fnArgs st) (C8.fnBody st) (C8.fnScope st) dV kV doc pm an (.ref c) ct ∧ K.lookup f = some ⟨oc, od, .func fd, osl⟩ ∧ PySem.W.codeIn K (.ref c) qual = true
theorem metC {P : Program} {w : World} {K : PySem.W.Frag} {mg : Str → Option Value} {base : Heap} {m qual : Str} {C : Addr} {st : Stmt} {f cc : Addr} {fd : FuncData} {N ps : List Str} {ds : List Value} {dvs : List V} {k : Nat} {sp : Sp} (c : Cls K C) (me : Meth K C m f) (F : FunC K m qual st f fd cc) (b : Binds K fd ps ds) (d : Vals dvs ds) (S : FnScope N ps (C8.fnScope st)) (len : ∀ vs H Q E, sp vs H Q E → vs.length = ps.length)
    (h : ∀ (A : Around) (outer : List Env) (s : Shared) (H : Hp) (vs : List V) (Q : VK) (E : XK), Room k (A.deeper (envOfC qual (C8.fnScope st) s.heap.objs.size f (.ref cc))) → sp vs H Q E → Wb (CxD P w K mg base N qual (C8.fnScope st) f (.ref cc) A outer s H E) (C8.fnBody st) (DEnd Q) (start N vs) H) : C8.Met P w K mg base (k + 1) C m sp dvs := by
  obtain ⟨oc, od, dV, kV, doc, pm, an, ct, osl, rfl, lk, hcd⟩ := F.ex
  exact ⟨f, _, ps, ds, c, me, fn_of lk hcd S len fun A outer s H vs Q E hr z => ⟨_, (wb_pss (X := CxD P w K mg base N qual (C8.fnScope st) f (.ref cc) A outer s H E)).nox, h A outer s H vs Q E hr z⟩, b, d⟩
/-! ### the two tables -/
structure Tbs where
  P1 : Addr
  P2 : Addr
abbrev lq1 : Str := "Chances.nets.<locals>.<lambda>"
abbrev lq2 : Str := "Chances.circles.<locals>.<lambda>"
structure TbS (t : Tbs) (F H : Hp) : Prop where
  ne : t.P1 ≠ t.P2
  f1 : F t.P1 = none
  f2 : F t.P2 = none
  t1 : TabS H t.P1 lq1
  t2 : TabS H t.P2 lq2
def Tbs.M (t : Tbs) : Addr → Prop := fun a => a = t.P1 ∨ a = t.P2
theorem tabS_gm {M : Addr → Prop} {F H F1 H1 : Hp} {P : Addr} {q : Str} (h : TabS H P q) (g : Gm M F H F1 H1) (n : ¬ M P) (nc : ∀ x q, M x → H x ≠ some (CodeO x q)) : TabS H1 P q := by
  obtain ⟨ps, h1, h2, h3⟩ := h
  refine ⟨ps, g.hh _ _ n h1, h2, fun pos cv e => ?_⟩
  obtain ⟨c, e1, e2⟩ := h3 pos cv e
  exact ⟨c, e1, g.hh _ _ (fun m => nc c q m e2) e2⟩
theorem TbS.gm {M : Addr → Prop} {t : Tbs} {F H F1 H1 : Hp} (h : TbS t F H) (g : Gm M F H F1 H1) (n : ∀ x, M x → x ≠ t.P1 ∧ x ≠ t.P2) (nc : ∀ x q, M x → H x ≠ some (CodeO x q)) : TbS t F1 H1 := by
  obtain ⟨ps1, e1, _⟩ := h.t1
  obtain ⟨ps2, e2, _⟩ := h.t2
  exact ⟨h.ne, g.noF h.f1 e1, g.noF h.f2 e2, tabS_gm h.t1 g (fun m => (n _ m).1 rfl) nc, tabS_gm h.t2 g (fun m => (n _ m).2 rfl) nc⟩
theorem TbS.gr {t : Tbs} {F H F1 H1 : Hp} (h : TbS t F H) (g : Gr F H F1 H1) : TbS t F1 H1 := h.gm (M := fun _ => False) g.gm (fun _ m => m.elim) fun _ _ m => m.elim
theorem TbS.cm {K : PySem.W.Frag} {CB : Addr} {c : Cd} {t : Tbs} {F H F1 H1 : Hp} (h : TbS t F H) (dy : CDy K CB F H c) (g : Gm c.M F H F1 H1) : TbS t F1 H1 := by
  obtain ⟨kvs, ek, _⟩ := dy.k
  obtain ⟨ps1, e1, _⟩ := h.t1
  obtain ⟨ps2, e2, _⟩ := h.t2
  refine h.gm g (fun x m => ⟨fun z => ?_, fun z => ?_⟩) fun x q m z => ?_
  · rw [← z, show x = c.pk from m, ek] at e1
    cases e1
  · rw [← z, show x = c.pk from m, ek] at e2
    cases e2
  · rw [show x = c.pk from m, ek] at z
    cases z
/-! ### the lambdas' texts -/
def retE : List Stmt → Expr
  | [_, .Return (some e) _] => e
  | _ => .Constant .none 0 ⟨0, 0, 0, 0⟩
def lamOf : Expr → Scope
  | .Call _ [_, .Lambda _ _ sc _] _ _ => sc
  | _ => ⟨.function, [], false, false, []⟩
abbrev ls_nets : Scope := lamOf (retE (C8.fnBody s_C_nets))
abbrev ls_circles : Scope := lamOf (retE (C8.fnBody s_C_circles))
def notIn (items some_ : List Int) : List Int := items.filter fun x => !decide (x ∈ some_)
noncomputable def netsM (T : Tab) (kind : Str) (i j : Int) (ls : List Int) : List (List Int) := leM (meetsOf T ls) fun c => alB T kind (goneOf T ls (notIn (meetsOf T ls) c)) i j
noncomputable def circlesM (T : Tab) (kind : Str) (i j : Int) : List (List Int) := leM (othersOf T i j) fun c => alB T kind (goneOf T (notIn (othersOf T i j) c) []) i j
section
variable {P : Program} {w : World} {K : PySem.W.Frag} {mg : Str → Option Value} {base : Heap} {f fl cN : Addr} {fd fdl : FuncData} {C CB : Addr} {t : Tbs}
abbrev n_C_nets : List Str := ["self", "pair", "liars", "items", "some", "one"]
theorem sc_C_nets : FnScope n_C_nets ["self", "pair", "liars"] (C8.fnScope s_C_nets) := C8.fnScope_by (by decide +kernel)
def MM (c : Cd) (t : Tbs) : Addr → Prop := fun a => c.M a ∨ t.M a
def spNets (C CB : Addr) (t : Tbs) (K : PySem.W.Frag) : Sp := fun vs H Q _ => ∃ (F : Hp) (c : Cd) (vp vl : V) (dl : PyData) (i j : Int) (ls : List Int), vs = [.ref c.b, vp, vl] ∧ c.C = C ∧ CSt K F c ∧ CDy K CB F H c ∧ TbS t F H ∧ Dq K F vp (prD (i, j)) ∧ Dq K F vl dl ∧ SeqI dl ls ∧ (meetsOf c.T ls).length ≤ 8 ∧
  ∀ v F' H', Gm (MM c t) F H F' H' → CDy K CB F' H' c → TbS t F' H' → Dq K F' v (.list ((netsM c.T c.kind i j ls).map tI)) → Q v H'
theorem c_C_nets {ds : List Value} {dvs : List V} (T : Txt K mg) (BC : Ccls K C) (cm : C8.Met P w K mg base 3 C "meetings" (spMeetings C K) []) (ch : C8.Met P w K mg base 8 C "hides" (spHides C CB K) [])
    (cc : C8.Cal P w K mg base 9 "choices" (spChoices 8 K) []) (cha : C8.Cal P w K mg base 1 "has_all" (spHasAll K) []) (DL : C8.Def K mg "least_enough" s_least_enough fl fdl) (bL : Binds K fdl ["items", "is_enough"] []) (TB : TabB base mg cN t.P1)
    (me : Meth K C "nets" f) (F : FunC K "nets" "Chances.nets" s_C_nets f fd cN) (b : Binds K fd ["self", "pair", "liars"] ds) (dv : Vals dvs ds) : C8.Met P w K mg base 11 C "nets" (spNets C CB t K) dvs := by
  refine metC BC.c me F b dv sc_C_nets (fun vs H Q E ⟨G, c, vp, vl, _, _, _, _, e, _⟩ => by rw [e]; rfl) fun A00 outer s H vs Q E hr ⟨G, c, vp, vl, dl, i, j, ls, e, ec, st, dy, ts, hp, hl, sl, lm, q⟩ => ?_
  subst e
  subst ec
  refine wb_cons (w1_setv 3 sc_C_nets.nd (wv_meth (⟨dl, ls⟩ : DlA) cm hr st (hd_var 0 rfl) (wvs_cons (wv_var 2 rfl hl) wvs_nil) sl) dy.s fun vi F1 H1 g1 d1 => ?_)
  have dy1 := dy.gr g1
  have ts1 := ts.gr g1
  have st1 := st.mono g1.ff
  generalize eI : meetsOf c.T ls = items at *
  refine wb_one (w1_ret (we_lam2 (k := 8) (k0 := 4) (y := "some") (tb := TbC K CB c F1 items fun x => alB c.T c.kind (goneOf c.T ls (notIn items x)) i j) (GT := fun va f' c' H2 => va = vi ∧ (∀ b o, b ≠ t.P1 → H1 b = some o → H2 b = some o) ∧ (∀ b, H2 b = none → H1 b = none) ∧ TabS H2 t.P1 lq1 ∧ H2 c' = some (CodeO c' lq1)) DL bL sc_least_enough rfl TB rfl hr (lamP_by (scope := ls_nets) (sc := C8.fnScope s_C_nets) (x := "some") (by decide +kernel)) rfl rfl sc_C_nets.nd rfl (fun _ _ _ _ _ _ => rfl) ?_ (we_var 3 rfl ⟨ts1.t1, fun f' c' H2 a1 a2 a3 a4 a5 => ⟨rfl, a1, a2, a3, a5⟩⟩) ?_))
  · intro A o2 s2 H2 f' c' v Q' hr2 ⟨F2, so, sG, ssub, dy2, dv2, q2⟩
    refine we_not (we_meth ch hr2 (we_var 0 rfl ⟨_, _, _, rfl, dy2.s _ _ (st1.mono sG).ins, rfl, wa_cons (we_var 1 rfl (wa_cons (we_var 2 rfl (wa_cons (Wv.go (F := F2) (d := .list ((notIn items so).map .int)) (wv_lc sc_C_nets.nd (blkOk_by (own := [("one", 5)]) (N := n_C_nets) (sc := ls_nets) (by decide +kernel)) ?_) dy2.s fun v3 F3 H3 g3 d3 => wa_nil ?_)))))⟩))
    · refine lcv_n (xs := items) (enc := .int) 5 (fun x => !decide (x ∈ so)) .int (wsrc_list (wv_var 3 rfl (d1.mono sG))) (Nat.le_trans lm (by decide)) ?_ (fun _ => rfl) ?_ ?_
      · exact fun _ _ _ _ _ => pg_name (i := 5) sc_C_nets.nd rfl (Or.inl rfl)
      · exact fun x _ F4 u s4 hu => ts_one fun _ _ _ _ _ => wq_notIn (.inr rfl) (wv_var 5 rfl hu) (wv_var 4 rfl (dv2.mono s4))
      · exact fun x _ _ F4 u s4 hu _ _ _ _ _ => wv_var 5 rfl hu
    have y3 := dy2.gr g3
    refine ⟨F3, c, vp, vl, v3, dl, _, i, j, ls, notIn items so, rfl, rfl, (st1.mono sG).mono g3.ff, y3, ((hp.mono g1.ff).mono sG).mono g3.ff, ((hl.mono g1.ff).mono sG).mono g3.ff, sl, d3, .inl rfl, fun F5 H5 g5 y5 => ⟨_, rfl, ?_⟩⟩
    rw [Bool.not_not]
    exact q2 F5 H5 (g3.gm.trans g5) y5
  · intro va f' c' H2 cdv s2 ⟨eva, a1, a2, a3, a5⟩ hr2 act
    subst eva
    obtain ⟨kvs, ek, _⟩ := dy1.k
    obtain ⟨ps1, et1, _⟩ := ts1.t1
    have npk : c.pk ≠ t.P1 := fun z => by
      rw [z, et1] at ek
      cases ek
    have gl : Gm t.M F1 H1 F1 H2 := ⟨Same.refl _, fun b o e => a1 b o (fun z => by rw [z, ts1.f1] at e; cases e) (g1.fh b o e), fun b o n e => a1 b o (fun z => n (.inl z)) e, fun _ e _ => e, a2⟩
    have dy2 : CDy K CB F1 H2 c := dy1.gm gl fun z => z.elim npk fun z => by
      obtain ⟨ps2, et2, _⟩ := ts1.t2
      rw [z, et2] at ek
      cases ek
    have gl1 : Gm (fun a => a = t.P1) F1 H1 F1 H2 := ⟨gl.ff, gl.fh, fun b o n e => a1 b o n e, gl.fr, gl.th⟩
    have ts2 : TbS t F1 H2 := ⟨ts1.ne, ts1.f1, ts1.f2, a3, tabS_gm ts1.t2 gl1 (fun z => ts1.ne z.symm) fun x q m z => by
      rw [show x = t.P1 from m, et1] at z
      exact codeO_ne _ (Option.some.inj z).symm⟩
    refine le_body T cc cha hr2 act dy2 a5 d1 lm fun v F3 H3 g3 y3 d3 => q v F3 H3 ?_ y3 (ts2.cm dy2 g3) ?_
    · exact (g1.gm.trans (gl.imp fun x m => .inr m)).trans (g3.imp fun x m => .inl m)
    · unfold netsM
      rw [eI]
      exact d3
end
end K29
set_option Elab.async false
set_option linter.all false
set_option maxRecDepth 100000
set_option maxHeartbeats 4000000
namespace K29
open PySem PySem.Spec PyProof.Rows L2 LamX
section
variable {P : Program} {w : World} {K : PySem.W.Frag} {mg : Str → Option Value} {base : Heap} {f fl cN : Addr} {fd fdl : FuncData} {C CB : Addr} {t : Tbs}
abbrev n_C_circles : List Str := ["self", "pair", "items", "some", "one"]
theorem sc_C_circles : FnScope n_C_circles ["self", "pair"] (C8.fnScope s_C_circles) := C8.fnScope_by (by decide +kernel)
def spCircles (C CB : Addr) (t : Tbs) (K : PySem.W.Frag) : Sp := fun vs H Q _ => ∃ (F : Hp) (c : Cd) (vp : V) (i j : Int), vs = [.ref c.b, vp] ∧ c.C = C ∧ CSt K F c ∧ CDy K CB F H c ∧ TbS t F H ∧ Dq K F vp (prD (i, j)) ∧ twoOk c (i, j) ∧ (othersOf c.T i j).length ≤ 8 ∧
  ∀ v F' H', Gm (MM c t) F H F' H' → CDy K CB F' H' c → TbS t F' H' → Dq K F' v (.list ((circlesM c.T c.kind i j).map tI)) → Q v H'
theorem c_C_circles (T : Txt K mg) (BC : Ccls K C) (co : C8.Met P w K mg base 4 C "others" (spOthers C K) []) (ch : C8.Met P w K mg base 8 C "hides" (spHides C CB K) [])
    (cc : C8.Cal P w K mg base 9 "choices" (spChoices 8 K) []) (cha : C8.Cal P w K mg base 1 "has_all" (spHasAll K) []) (DL : C8.Def K mg "least_enough" s_least_enough fl fdl) (bL : Binds K fdl ["items", "is_enough"] []) (TB : TabB base mg cN t.P2)
    (me : Meth K C "circles" f) (F : FunC K "circles" "Chances.circles" s_C_circles f fd cN) (b : Binds K fd ["self", "pair"] []) : C8.Met P w K mg base 11 C "circles" (spCircles C CB t K) [] := by
  refine metC BC.c me F b .nil sc_C_circles (fun vs H Q E ⟨G, c, vp, _, _, e, _⟩ => by rw [e]; rfl) fun A00 outer s H vs Q E hr ⟨G, c, vp, i, j, e, ec, st, dy, ts, hp, two, lm, q⟩ => ?_
  subst e
  subst ec
  refine wb_cons (w1_setv 2 sc_C_circles.nd (wv_meth (i, j) co hr st (hd_var 0 rfl) (wvs_cons (wv_var 1 rfl hp) wvs_nil) two) dy.s fun vi F1 H1 g1 d1 => ?_)
  have dy1 := dy.gr g1
  have ts1 := ts.gr g1
  have st1 := st.mono g1.ff
  replace d1 : Dq K F1 vi (.list ((othersOf c.T i j).map .int)) := d1
  generalize eI : othersOf c.T i j = items at *
  refine wb_one (w1_ret (we_lam2 (k := 8) (k0 := 3) (y := "some") (tb := TbC K CB c F1 items fun x => alB c.T c.kind (goneOf c.T (notIn items x) []) i j) (GT := fun va f' c' H2 => va = vi ∧ (∀ b o, b ≠ t.P2 → H1 b = some o → H2 b = some o) ∧ (∀ b, H2 b = none → H1 b = none) ∧ TabS H2 t.P2 lq2 ∧ H2 c' = some (CodeO c' lq2)) DL bL sc_least_enough rfl TB rfl hr (lamP_by (scope := ls_circles) (sc := C8.fnScope s_C_circles) (x := "some") (by decide +kernel)) rfl rfl sc_C_circles.nd rfl (fun _ _ _ _ _ _ => rfl) ?_ (we_var 2 rfl ⟨ts1.t2, fun f' c' H2 a1 a2 a3 a4 a5 => ⟨rfl, a1, a2, a3, a5⟩⟩) ?_))
  · intro A o2 s2 H2 f' c' v Q' hr2 ⟨F2, so, sG, ssub, dy2, dv2, q2⟩
    refine we_not (we_meth ch hr2 (we_var 0 rfl ⟨_, _, _, rfl, dy2.s _ _ (st1.mono sG).ins, rfl, wa_cons (we_var 1 rfl (wa_cons (Wv.go (F := F2) (d := .list ((notIn items so).map .int)) (wv_lc sc_C_circles.nd (blkOk_by (own := [("one", 4)]) (N := n_C_circles) (sc := ls_circles) (by decide +kernel)) ?_) dy2.s fun v3 F3 H3 g3 d3 => wa_cons (Wv.go (F := F3) (wv_tup wvs_nil) g3.fh fun v4 F4 H4 g4 d4 => wa_nil ?_))))⟩))
    · refine lcv_n (xs := items) (enc := .int) 4 (fun x => !decide (x ∈ so)) .int (wsrc_list (wv_var 2 rfl (d1.mono sG))) (Nat.le_trans lm (by decide)) ?_ (fun _ => rfl) ?_ ?_
      · exact fun _ _ _ _ _ => pg_name (i := 4) sc_C_circles.nd rfl (Or.inl rfl)
      · exact fun x _ F4 u s4 hu => ts_one fun _ _ _ _ _ => wq_notIn (.inr rfl) (wv_var 4 rfl hu) (wv_var 3 rfl (dv2.mono s4))
      · exact fun x _ _ F4 u s4 hu _ _ _ _ _ => wv_var 4 rfl hu
    have g34 := g3.trans g4
    have y4 := dy2.gr g34
    refine ⟨F4, c, vp, v3, v4, _, _, i, j, notIn items so, [], rfl, rfl, (st1.mono sG).mono g34.ff, y4, ((hp.mono g1.ff).mono sG).mono g34.ff, d3.mono g4.ff, .inl rfl, d4, .inr rfl, fun F5 H5 g5 y5 => ⟨_, rfl, ?_⟩⟩
    rw [Bool.not_not]
    exact q2 F5 H5 (g34.gm.trans g5) y5
  · intro va f' c' H2 cdv s2 ⟨eva, a1, a2, a3, a5⟩ hr2 act
    subst eva
    obtain ⟨kvs, ek, _⟩ := dy1.k
    obtain ⟨ps1, et1, _⟩ := ts1.t1
    obtain ⟨ps2, et2, _⟩ := ts1.t2
    have npk : c.pk ≠ t.P1 := fun z => by
      rw [z, et1] at ek
      cases ek
    have npk2 : c.pk ≠ t.P2 := fun z => by
      rw [z, et2] at ek
      cases ek
    have gl1 : Gm (fun a => a = t.P2) F1 H1 F1 H2 := ⟨Same.refl _, fun b o e => a1 b o (fun z => by rw [z, ts1.f2] at e; cases e) (g1.fh b o e), fun b o n e => a1 b o n e, fun _ e _ => e, a2⟩
    have dy2 : CDy K CB F1 H2 c := dy1.gm gl1 npk2
    have ts2 : TbS t F1 H2 := ⟨ts1.ne, ts1.f1, ts1.f2, tabS_gm ts1.t1 gl1 ts1.ne fun x q m z => by
      rw [show x = t.P2 from m, et2] at z
      exact codeO_ne _ (Option.some.inj z).symm, a3⟩
    refine le_body T cc cha hr2 act dy2 a5 d1 lm fun v F3 H3 g3 y3 d3 => q v F3 H3 ?_ y3 (ts2.cm dy2 g3) ?_
    · exact (g1.gm.trans (gl1.imp fun x m => .inr (.inr m))).trans (g3.imp fun x m => .inl m)
    · unfold circlesM
      rw [eI]
      exact d3
/-! ### chances_of -/
abbrev n_chances_of : List Str := ["timetable", "kind", "i", "j", "found"]
theorem sc_chances_of : FnScope n_chances_of ["timetable", "kind", "i", "j"] (C8.fnScope s_chances_of) := C8.fnScope_by (by decide +kernel)
/-- a table that the program takes -/
structure TbOk (T : Tab) : Prop where
  wf : WfT T
  ne : T.evs ≠ []
  few : T.evs.length ≤ 16
def spChancesOf (C CB : Addr) (K : PySem.W.Frag) : Sp := fun vs H Q _ => ∃ (F : Hp) (T : Tab) (kind : Str) (vt : V) (i j : Int), vs = [vt, .str kind, .int i, .int j] ∧ Same F H ∧ Dq K F vt (tabD T) ∧ TbOk T ∧ okLook T i ∧ okLook T j ∧
  ∀ c F' H', c.C = C → c.T = T → c.kind = kind → CSt K F' c → CDy K CB F' H' c → H c.pk = none → Gr F H F' H' → Q (.ref c.b) H'
theorem c_chances_of (T : Txt K mg) (cI : C8.Mak P w K mg base 5 "Chances" C (spCinit C CB K) []) (ct : C8.Met P w K mg base 1 C "timetable" (spTimetable C K) []) (ck : C8.Cal P w K mg base 4 "check_looks" (spCheckLooks K) []) (F : C8.Def K mg "chances_of" s_chances_of f fd) (b : Binds K fd ["timetable", "kind", "i", "j"] []) : C8.Cal P w K mg base 7 "chances_of" (spChancesOf C CB K) [] := by
  refine calW F b .nil sc_chances_of (fun vs H Q E ⟨G, _, _, _, _, _, e, _⟩ => by rw [e]; rfl) fun cdv A00 outer s H vs Q E hr ⟨G, T1, kind, vt, i, j, e, s0, dt, tok, hi, hj, q⟩ => ?_
  subst e
  refine wb_cons (w1_set 4 sc_chances_of.nd (we_make cI hr (wa_cons (we_var 0 rfl (wa_cons (we_var 1 rfl (wa_nil fun y dx ny ndx nxy => ?_)))))))
  refine ⟨G, H, y, dx, T1, kind, vt, rfl, rfl, ny, ndx, nxy, s0, dt, tok.wf, tok.ne, tok.few, fun c F1 H1 e1 e2 e3 e4 st dy hpk g1 => ⟨rfl, ?_⟩⟩
  subst e1 e2 e3 e4
  refine wb_cons (w1_expr ((wv_call (c.T, [i, j]) ck hr (wvs_cons (wv_meth0 () ct hr st (hd_var 4 rfl) .nil trivial) (wvs_cons (wv_tup (wvs_cons (wv_var 2 rfl (.int i)) (wvs_cons (wv_var 3 rfl (.int j)) wvs_nil))) wvs_nil)) ⟨tok.wf.few, fun x hx => ?_⟩ : Wv _ _ _ F1 .none).go g1.fh fun v F2 H2 g2 d2 => wb_one (w1_ret (we_var 4 rfl (q c F2 H2 rfl rfl rfl (st.mono g2.ff) (dy.gr g2) hpk (g1.trans g2))))))
  simp only [List.mem_cons, List.not_mem_nil, or_false] at hx
  rcases hx with rfl | rfl
  · exact hi
  · exact hj
end
end K29
set_option Elab.async false
set_option linter.all false
set_option maxRecDepth 100000
set_option maxHeartbeats 4000000
namespace K29
open PySem PySem.Spec PyProof.Rows L2 LamX
theorem Gm.drop {M M2 : Addr → Prop} {F H F1 H1 : Hp} (g : Gm M F H F1 H1) (h : ∀ x, M x → M2 x ∨ H x = none) : Gm M2 F H F1 H1 := ⟨g.ff, g.fh, fun a o n e => g.hh a o (fun m => (h a m).elim n fun z => by rw [z] at e; cases e) e, g.fr, g.th⟩
/-- a def over data that makes lambdas -/
def PuX {α : Type} (t : Tbs) (K : PySem.W.Frag) (args : α → List PyData) (pre : α → Prop) (res : α → PyData) : Sp := fun vs H Q _ => ∃ (F : Hp) (a : α), Same F H ∧ TbS t F H ∧ DqAll K F vs (args a) ∧ pre a ∧ ∀ v F' H', Gm t.M F H F' H' → TbS t F' H' → Dq K F' v (res a) → Q v H'
structure Ar where
  T : Tab
  kind : Str
  i : Int
  j : Int
def Ar.args (a : Ar) : List PyData := [tabD a.T, .str a.kind, .int a.i, .int a.j]
structure Ar.Ok (a : Ar) : Prop where
  tb : TbOk a.T
  i : okLook a.T a.i
  j : okLook a.T a.j
  m : (placesOf a.T).length ≤ 8
  o : (othersOf a.T a.i a.j).length ≤ 8
theorem meets_le (T : Tab) (ls : List Int) : (meetsOf T ls).length ≤ (placesOf T).length := List.length_filter_le ..
theorem leM_ok (items : List Int) (fB : List Int → Bool) : leOk items (leM items fB) := leTo_ok items fB _
section
variable {P : Program} {w : World} {K : PySem.W.Frag} {mg : Str → Option Value} {base : Heap} {f : Addr} {fd : FuncData} {C CB emp : Addr} {t : Tbs}
abbrev n_nets : List Str := ["timetable", "kind", "i", "j"]
theorem sc_nets : FnScope n_nets ["timetable", "kind", "i", "j"] (C8.fnScope s_nets) := C8.fnScope_by (by decide +kernel)
theorem sc_circles : FnScope n_nets ["timetable", "kind", "i", "j"] (C8.fnScope s_circles) := C8.fnScope_by (by decide +kernel)
theorem sc_least_lost : FnScope n_nets ["timetable", "kind", "i", "j"] (C8.fnScope s_least_lost) := C8.fnScope_by (by decide +kernel)
theorem calX {α : Type} {x : Str} {st : Stmt} {N ps : List Str} {k : Nat} {args : α → List PyData} {pre : α → Prop} {res : α → PyData} (F : C8.Def K mg x st f fd) (b : Binds K fd ps []) (S : FnScope N ps (C8.fnScope st)) (hl : ∀ a, (args a).length = ps.length)
    (h : ∀ (cdv : Value) (A : Around) (outer : List Env) (s : Shared) (H : Hp) (vs : List V) (Q : VK) (E : XK) (G : Hp) (a : α), Room k (A.deeper (envOfC x (C8.fnScope st) s.heap.objs.size f cdv)) → Same G H → TbS t G H → DqAll K G vs (args a) → pre a → (∀ v F' H', Gm t.M G H F' H' → TbS t F' H' → Dq K F' v (res a) → Q v H') →
      Wb (CxD P w K mg base N x (C8.fnScope st) f cdv A outer s H E) (C8.fnBody st) (DEnd Q) (start N vs) H) : C8.Cal P w K mg base (k + 1) x (PuX t K args pre res) [] :=
  calW F b .nil S (fun vs H Q E ⟨G, a, _, _, hd, _⟩ => hd.length.trans (hl a)) fun cdv A outer s H vs Q E hr ⟨G, a, s0, ts, hd, hp, q⟩ => h cdv A outer s H vs Q E G a hr s0 ts hd hp q
abbrev spNetsD (t : Tbs) (K : PySem.W.Frag) : Sp := PuX t K Ar.args Ar.Ok (fun a => .list ((netsM a.T a.kind a.i a.j []).map tI))
abbrev spCirclesD (t : Tbs) (K : PySem.W.Frag) : Sp := PuX t K Ar.args Ar.Ok (fun a => .list ((circlesM a.T a.kind a.i a.j).map tI))
abbrev spLostD (t : Tbs) (K : PySem.W.Frag) : Sp := PuX t K Ar.args Ar.Ok (fun a => optD (lhit (netsM a.T a.kind a.i a.j [])))
theorem cm_fresh {c : Cd} {H : Hp} (h : H c.pk = none) : ∀ x, MM c t x → t.M x ∨ H x = none := fun x m => m.elim (fun z => .inr (by rw [show x = c.pk from z]; exact h)) .inl
theorem c_nets (he : Emp K emp) (co : C8.Cal P w K mg base 7 "chances_of" (spChancesOf C CB K) []) (cn : C8.Met P w K mg base 11 C "nets" (spNets C CB t K) [.ref emp]) (F : C8.Def K mg "nets" s_nets f fd) (b : Binds K fd ["timetable", "kind", "i", "j"] []) : C8.Cal P w K mg base 12 "nets" (spNetsD t K) [] := by
  refine calX F b sc_nets (fun _ => rfl) fun cdv A outer s H vs Q E G a hr s0 ts hd ok q => ?_
  obtain ⟨vt, r, rfl, dt, hd⟩ := hd.cons_inv
  obtain ⟨vk, r, rfl, dk, hd⟩ := hd.cons_inv
  obtain ⟨vi, r, rfl, di, hd⟩ := hd.cons_inv
  obtain ⟨vj, r, rfl, dj, hd⟩ := hd.cons_inv
  rw [hd.nil_inv, dk.str_inv, di.int_inv, dj.int_inv]
  refine wb_one (w1_ret (we_meth cn hr (we_call co hr (wa_cons (we_var 0 rfl (wa_cons (we_var 1 rfl (wa_cons (we_var 2 rfl (wa_cons (we_var 3 rfl (wa_nil ⟨G, a.T, a.kind, vt, a.i, a.j, rfl, s0, dt, ok.tb, ok.i, ok.j, fun c F1 H1 e1 e2 e3 st dy hpk g1 => ?_⟩))))))))))))
  refine ⟨c.b, c.dx, cfs c, rfl, by rw [← e1]; exact dy.s _ _ st.ins, rfl, wa_cons (Wv.go (F := F1) (wv_tup (wvs_cons (wv_var 2 rfl (.int a.i)) (wvs_cons (wv_var 3 rfl (.int a.j)) wvs_nil))) dy.s fun vp F2 H2 g2 d2 => wa_nil ?_)⟩
  refine ⟨F2, c, vp, .ref emp, _, a.i, a.j, [], rfl, e1, st.mono g2.ff, dy.gr g2, (ts.gr g1).gr g2, d2, he.dq, .inr rfl, ?_, fun v F3 H3 g3 y3 t3 d3 => q v F3 H3 (Gm.trans (g1.trans g2).gm g3 |>.drop (cm_fresh hpk)) t3 ?_⟩
  · rw [e2]
    exact Nat.le_trans (meets_le _ _) ok.m
  · rw [e2, e3] at d3
    exact d3
theorem c_circles (co : C8.Cal P w K mg base 7 "chances_of" (spChancesOf C CB K) []) (cn : C8.Met P w K mg base 11 C "circles" (spCircles C CB t K) []) (F : C8.Def K mg "circles" s_circles f fd) (b : Binds K fd ["timetable", "kind", "i", "j"] []) : C8.Cal P w K mg base 12 "circles" (spCirclesD t K) [] := by
  refine calX F b sc_circles (fun _ => rfl) fun cdv A outer s H vs Q E G a hr s0 ts hd ok q => ?_
  obtain ⟨vt, r, rfl, dt, hd⟩ := hd.cons_inv
  obtain ⟨vk, r, rfl, dk, hd⟩ := hd.cons_inv
  obtain ⟨vi, r, rfl, di, hd⟩ := hd.cons_inv
  obtain ⟨vj, r, rfl, dj, hd⟩ := hd.cons_inv
  rw [hd.nil_inv, dk.str_inv, di.int_inv, dj.int_inv]
  refine wb_one (w1_ret (we_meth cn hr (we_call co hr (wa_cons (we_var 0 rfl (wa_cons (we_var 1 rfl (wa_cons (we_var 2 rfl (wa_cons (we_var 3 rfl (wa_nil ⟨G, a.T, a.kind, vt, a.i, a.j, rfl, s0, dt, ok.tb, ok.i, ok.j, fun c F1 H1 e1 e2 e3 st dy hpk g1 => ?_⟩))))))))))))
  refine ⟨c.b, c.dx, cfs c, rfl, by rw [← e1]; exact dy.s _ _ st.ins, rfl, wa_cons (Wv.go (F := F1) (wv_tup (wvs_cons (wv_var 2 rfl (.int a.i)) (wvs_cons (wv_var 3 rfl (.int a.j)) wvs_nil))) dy.s fun vp F2 H2 g2 d2 => wa_nil ?_)⟩
  refine ⟨F2, c, vp, a.i, a.j, rfl, e1, st.mono g2.ff, dy.gr g2, (ts.gr g1).gr g2, d2, ⟨by rw [e2]; exact ok.i, by rw [e2]; exact ok.j⟩, by rw [e2]; exact ok.o, fun v F3 H3 g3 y3 t3 d3 => q v F3 H3 (Gm.trans (g1.trans g2).gm g3 |>.drop (cm_fresh hpk)) t3 ?_⟩
  rw [e2, e3] at d3
  exact d3
/-- the call of such a def -/
theorem we_callX {X : Cx} {k j : Nat} {x : Str} {p pos : Pos} {e : Expr} {es : List Expr} {σ : L2.St} {F H : Hp} {Q : VK} {α : Type} {args : α → List PyData} {pre : α → Prop} {res : α → PyData} (a : α) (c : C8.Cal X.prog X.w X.K X.mg X.base k x (PuX t X.K args pre res) []) (hr : Room j X.A) (h : Wvs X (e :: es) σ F (args a)) (s : Same F H) (ts : TbS t F H) (hp : pre a) (q : ∀ v F' H', Gm t.M F H F' H' → TbS t F' H' → Dq X.K F' v (res a) → Q v H') (hk : k ≤ j := by decide) (hg : Gl X x := by rfl) (hdb : (x == ("__debug__" : Str)) = false := by decide)
    (he : starEach (e :: es) X.env = (false, eval e X.env) :: starEach es X.env := by rfl) (hpl : (backTo pos (starEach es X.env)).any (·.1) = false := by rfl) : We X (.Call (.Name x p) (e :: es) [] pos) σ H Q :=
  we_call c hr (h H s _ fun vs F1 H1 g hd' => by
    rw [List.append_nil]
    exact ⟨F1, a, g.fh, ts.gr g, hd', hp, fun v F2 H2 g2 t2 d2 => q v F2 H2 (g.gm.trans g2) t2 d2⟩) hk hg hdb he hpl
theorem hitPre_of {items : List Int} {fB : List Int → Bool} (h : items.length ≤ 8) : hitPre (leM items fB) := by
  have ok := leM_ok items fB
  refine ⟨items, h, fun p hp x hx => (ok.2 p hp).subset hx, Nat.le_trans (ok.len h) (by decide), fun p hp => Nat.le_trans (ok.2 p hp).length_le (Nat.le_trans h (by decide))⟩
theorem c_least_lost (cn : C8.Cal P w K mg base 12 "nets" (spNetsD t K) []) (ch : C8.Cal P w K mg base 10 "least_hit" (spLeastHit K) []) (F : C8.Def K mg "least_lost" s_least_lost f fd) (b : Binds K fd ["timetable", "kind", "i", "j"] []) : C8.Cal P w K mg base 13 "least_lost" (spLostD t K) [] := by
  refine calX F b sc_least_lost (fun _ => rfl) fun cdv A outer s H vs Q E G a hr s0 ts hd ok q => ?_
  obtain ⟨vt, r, rfl, dt, hd⟩ := hd.cons_inv
  obtain ⟨vk, r, rfl, dk, hd⟩ := hd.cons_inv
  obtain ⟨vi, r, rfl, di, hd⟩ := hd.cons_inv
  obtain ⟨vj, r, rfl, dj, hd⟩ := hd.cons_inv
  rw [hd.nil_inv]
  refine wb_one (w1_ret (we_call ch hr (wa_cons (we_callX a cn hr (wvs_cons (wv_var 0 rfl dt) (wvs_cons (wv_var 1 rfl dk) (wvs_cons (wv_var 2 rfl di) (wvs_cons (wv_var 3 rfl dj) wvs_nil)))) s0 ts ok fun v F1 H1 g1 t1 d1 => wa_nil ?_))))
  exact ⟨F1, _, g1.fh, .cons d1 .nil, hitPre_of (Nat.le_trans (meets_le _ _) ok.m), fun u F2 H2 g2 d2 => q u F2 H2 (g1.trans g2.gm) (t1.gr g2) d2⟩
end
end K29
set_option Elab.async false
set_option linter.all false
set_option maxRecDepth 100000
set_option maxHeartbeats 4000000
namespace K29
open PySem PySem.Spec PyProof.Rows L2 LamX
/-- x is not None -/
theorem wt_notNone {X : Cx} {a : Expr} {σ : L2.St} {H : Hp} {Q : Bool → Hp → Prop} {j : Nat} {p pos : Pos} (h : We X a σ H fun v H1 => Q (!decide (v = .non)) H1) : Wt X (.Compare a [.IsNot] [.Constant .none j p] pos) σ H Q := wt_of (pt_cmp (pc_notN we_pe)) (h.mono fun v H1 q => ⟨_, rfl, q⟩)
noncomputable def lwL (T : Tab) (kind : Str) (i j : Int) (size : Nat) : List Tr := (chs (othersOf T i j) size).filterMap fun ls => (lhit (netsM T kind i j ls)).map fun lo => ((lo.length : Int), ls, lo)
def lwOk (l : List Tr) (d : PyData) : Prop := (l = [] ∧ d = .none) ∨ ∃ e ∈ l, (∀ x ∈ l, e.1 ≤ x.1) ∧ d = trD e
/-- a list that may still be written, as it stands -/
theorem frz {F H : Hp} {l : Addr} {acc : List V} (s : Same F H) (f : F l = none) (e : H l = some (.lst acc)) : Same F (upd F l (.lst acc)) ∧ Same (upd F l (.lst acc)) H := ⟨same_new f, fun b o z => by
  by_cases q : b = l
  · rw [q, upd_same] at z
    rw [q, e]
    exact z
  · rw [upd_ne q] at z
    exact s b o z⟩
/-- the state of a loop that fills a list, while a Chances object and the tables may be written -/
structure Lp (K : PySem.W.Frag) (CB : Addr) (c : Cd) (t : Tbs) (l : Addr) (M : Addr → Prop) (G H F' H' : Hp) (ds : List PyData) : Prop where
  g : Gm M G H F' H'
  y : CDy K CB F' H' c
  t : TbS t F' H'
  f : F' l = none
  e : ∃ acc, H' l = some (.lst acc) ∧ DqAll K F' acc ds
section
variable {K : PySem.W.Frag} {CB : Addr} {c : Cd} {t : Tbs} {l : Addr} {M : Addr → Prop} {G H F1 H1 F2 H2 : Hp} {ds : List PyData}
theorem MM_no {F H : Hp} (y : CDy K CB F H c) (t' : TbS t F H) {acc : List V} (e : H l = some (.lst acc)) : ¬ MM c t l := fun m => by
  obtain ⟨kvs, ek, _⟩ := y.k
  obtain ⟨ps1, e1, _⟩ := t'.t1
  obtain ⟨ps2, e2, _⟩ := t'.t2
  rcases m with m | m | m
  · rw [show l = c.pk from m, ek] at e
    cases e
  · rw [m, e1] at e
    cases e
  · rw [m, e2] at e
    cases e
theorem Lp.step (h : Lp K CB c t l M G H F1 H1 ds) (g : Gm (MM c t) F1 H1 F2 H2) (hM : ∀ x, MM c t x → M x ∨ H x = none) (y : CDy K CB F2 H2 c) (t' : TbS t F2 H2) : Lp K CB c t l M G H F2 H2 ds := by
  obtain ⟨acc, e1, e2⟩ := h.e
  have n := MM_no h.y h.t e1
  refine ⟨⟨h.g.ff.trans g.ff, g.fh, fun a o nm e => g.hh a o (fun m => (hM a m).elim nm fun z => by rw [z] at e; cases e) (h.g.hh a o nm e), fun x e nn => g.fr x (h.g.fr x e nn) fun z => nn (h.g.th x z), fun x e => h.g.th x (g.th x e)⟩, y, t', g.noF h.f e1, acc, g.hh _ _ n e1, e2.mono g.ff⟩
theorem Lp.gr (h : Lp K CB c t l M G H F1 H1 ds) (g : Gr F1 H1 F2 H2) : Lp K CB c t l M G H F2 H2 ds := by
  obtain ⟨acc, e1, e2⟩ := h.e
  exact ⟨h.g.trans g.gm, h.y.gr g, h.t.gr g, g.noF h.f e1, acc, g.hh _ _ e1, e2.mono g.ff⟩
theorem Lp.sm (h : Lp K CB c t l M G H F1 H1 ds) (s : Same H1 H2) : Lp K CB c t l M G H F1 H2 ds := h.gr ⟨Same.refl _, h.y.s.trans s, s, fun _ e _ => e⟩
theorem tbs_upd (h : TbS t F1 H1) {acc : List V} (e : H1 l = some (.lst acc)) {o : HO} (f : F1 l = none) : TbS t F1 (upd H1 l o) := by
  obtain ⟨ps1, e1, _⟩ := h.t1
  obtain ⟨ps2, e2, _⟩ := h.t2
  have key : ∀ {P : Addr} {q : Str}, TabS H1 P q → TabS (upd H1 l o) P q := fun {P q} ⟨ps, h1, h2, h3⟩ => by
    refine ⟨ps, ?_, h2, fun pos cv z => ?_⟩
    · rw [upd_ne]
      · exact h1
      · rintro rfl
        rw [h1] at e
        cases e
    · obtain ⟨c, z1, z2⟩ := h3 pos cv z
      refine ⟨c, z1, ?_⟩
      rw [upd_ne]
      · exact z2
      · rintro rfl
        rw [z2] at e
        cases e
  exact ⟨h.ne, h.f1, h.f2, key h.t1, key h.t2⟩
theorem Lp.app (h : Lp K CB c t l M G H F1 H1 ds) (n : M l ∨ H l = none) {v : V} {d : PyData} (hv : Dq K F1 v d) {acc : List V} (e : H1 l = some (.lst acc)) : Lp K CB c t l M G H F1 (upd H1 l (.lst (acc ++ [v]))) (ds ++ [d]) := by
  obtain ⟨acc', e1, e2⟩ := h.e
  rw [e] at e1
  cases e1
  obtain ⟨kvs, ek, _⟩ := h.y.k
  have npk : l ≠ c.pk := fun z => by
    rw [z, ek] at e
    cases e
  exact ⟨h.g.mut n h.f, h.y.upd npk h.f, tbs_upd h.t e h.f, h.f, _, upd_same, e2.append (.cons hv .nil)⟩
end
section
variable {P : Program} {w : World} {K : PySem.W.Frag} {mg : Str → Option Value} {base : Heap} {f : Addr} {fd : FuncData} {C CB emp : Addr} {t : Tbs}
abbrev n_least_with : List Str := ["chances", "pair", "size", "found", "liars", "lost"]
theorem sc_least_with : FnScope n_least_with ["chances", "pair", "size"] (C8.fnScope s_least_with) := C8.fnScope_by (by decide +kernel)
def spLW (C CB : Addr) (t : Tbs) (K : PySem.W.Frag) : Sp := fun vs H Q _ => ∃ (F : Hp) (c : Cd) (vp : V) (i j : Int) (size : Nat), vs = [.ref c.b, vp, .int size] ∧ c.C = C ∧ CSt K F c ∧ CDy K CB F H c ∧ TbS t F H ∧ Dq K F vp (prD (i, j)) ∧ twoOk c (i, j) ∧ (othersOf c.T i j).length ≤ 8 ∧ (placesOf c.T).length ≤ 8 ∧ size ≤ 8 ∧
  ∀ v d F' H', lwOk (lwL c.T c.kind i j size) d → Gm (MM c t) F H F' H' → CDy K CB F' H' c → TbS t F' H' → Dq K F' v d → Q v H'
theorem c_least_with (T : Txt K mg) (cc : C8.Cal P w K mg base 9 "choices" (spChoices 8 K) []) (co : C8.Met P w K mg base 4 C "others" (spOthers C K) []) (cn : C8.Met P w K mg base 11 C "nets" (spNets C CB t K) []) (ch : C8.Cal P w K mg base 10 "least_hit" (spLeastHit K) [])
    (F : C8.Def K mg "least_with" s_least_with f fd) (b : Binds K fd ["chances", "pair", "size"] []) : C8.Cal P w K mg base 12 "least_with" (spLW C CB t K) [] := by
  refine calW F b .nil sc_least_with (fun vs H Q E ⟨G, c, vp, i, j, size, e, _⟩ => by rw [e]; rfl) fun cdv A outer s H vs Q E hr ⟨G, c, vp, i, j, size, e, ec, st, dy, ts, hp, two, lo, lm, ls, q⟩ => ?_
  subst e
  subst ec
  refine wb_cons (w1_set 3 sc_least_with.nd (we_lst (wa_nil ⟨Nat.zero_le _, fun l hl => ?_⟩)))
  obtain ⟨kvs, ek, _⟩ := dy.k
  have nlp : l ≠ c.pk := fun z => by
    rw [z, ek] at hl
    cases hl
  have fl0 : G l = none := dy.s.free hl
  have gn : Gr G H G (upd H l (.lst [])) := Gr.newM dy.s hl
  have p0 : Lp K CB c t l (MM c t) G H G (upd H l (.lst [])) [] := ⟨gn.gm, dy.gr gn, ts.gr gn, fl0, [], upd_same, .nil⟩
  let W : Nat → List Tr := fun n => ((chs (othersOf c.T i j) size).take n).filterMap fun ls => (lhit (netsM c.T c.kind i j ls)).map fun lo => ((lo.length : Int), ls, lo)
  have lC : (chs (othersOf c.T i j) size).length ≤ 256 := by
    have h1 := chs_len (othersOf c.T i j) size
    have h2 : 2 ^ (othersOf c.T i j).length ≤ 2 ^ 8 := Nat.pow_le_pow_right (by decide) lo
    omega
  refine wb_cons (w1_forH (ds := (chs (othersOf c.T i j) size).map tI) (fun F1 n σ' H' => ∃ Fi u v, Same F1 Fi ∧ Same G Fi ∧ Lp K CB c t l (MM c t) G H Fi H' ((W n).map trD) ∧ σ' = [some (.ref c.b), some vp, some (.int size), some (.ref l), u, v])
    (Wsrc.at_ (wsrc_list (F := G) (wv_call (othersOf c.T i j, size) cc hr (wvs_cons (wv_meth (i, j) co hr st (hd_var 0 rfl) (wvs_cons (wv_var 1 rfl hp) wvs_nil) two) (wvs_cons (wv_var 2 rfl (.int _)) wvs_nil)) ⟨lo, ls⟩)) gn.fh) (fun F1 H1 g1 => ⟨F1, none, none, Same.refl _, g1.ff, p0.gr g1, rfl⟩) (fun F1 n σ' H' ⟨Fi, u, v, s1, _, p, _⟩ => s1.trans p.y.s) ?_ ?_)
  · rintro F1 n dd v σ' H1 H2 ed ⟨Fi, u, v', s1, sG, p, rfl⟩ hy
    obtain ⟨F3, g3, dv⟩ := hy Fi s1 p.y.s
    have p3 := p.gr g3
    rw [List.getElem?_map] at ed
    cases eo : (chs (othersOf c.T i j) size)[n]? with
    | none =>
      rw [eo] at ed
      cases ed
    | some lx =>
    rw [eo] at ed
    cases ed
    have sG3 := sG.trans g3.ff
    have nl : n < (chs (othersOf c.T i j) size).length := (List.getElem?_eq_some_iff.mp eo).1
    have eW : W (n + 1) = W n ++ ((lhit (netsM c.T c.kind i j lx)).map fun lo => ((lo.length : Int), lx, lo)).toList := by
      show List.filterMap _ _ = List.filterMap _ _ ++ _
      rw [List.take_add_one, eo, List.filterMap_append]
      show _ ++ List.filterMap _ [lx] = _
      congr 1
    have lW : (W n).length ≤ 256 := by
      have h1 : (W n).length ≤ ((chs (othersOf c.T i j) size).take n).length := List.length_filterMap_le ..
      rw [List.length_take] at h1
      omega
    refine wg_name 4 sc_least_with.nd (wb_cons (w1_set 5 sc_least_with.nd (we_call ch hr (wa_cons (we_meth cn hr (we_var 0 rfl ⟨_, _, _, rfl, p3.y.s _ _ (st.mono sG3).ins, rfl, wa_cons (we_var 1 rfl (wa_cons (we_var 4 rfl (wa_nil ?_))))⟩))))))
    refine ⟨F3, c, vp, v, _, i, j, lx, rfl, rfl, st.mono sG3, p3.y, p3.t, hp.mono sG3, dv, .inr rfl, Nat.le_trans (meets_le _ _) lm, fun v4 F4 H4 g4 y4 t4 d4 => wa_nil ?_⟩
    have p4 := p3.step g4 (fun x m => .inl m) y4 t4
    refine ⟨F4, _, y4.s, .cons d4 .nil, hitPre_of (Nat.le_trans (meets_le _ _) lm), fun v5 F5 H5 g5 d5 => ?_⟩
    have p5 := p4.gr g5
    have s35 : Same F3 F5 := g4.ff.trans g5.ff
    replace d5 : Dq K F5 v5 (optD (lhit (netsM c.T c.kind i j lx))) := d5
    refine wb_one (w1_if (wt_notNone (we_var 5 rfl ?_)))
    cases hx : lhit (netsM c.T c.kind i j lx) with
    | none =>
      rw [hx] at d5 eW
      have d5 : Dq K F5 v5 .none := d5
      rw [d5.non_inv]
      refine iteF (wb_nil ?_)
      refine ⟨F5, _, _, (s1.trans g3.ff).trans s35, sG3.trans s35, ?_, rfl⟩
      rw [eW]
      show Lp _ _ _ _ _ _ _ _ _ _ (List.map trD (W n ++ []))
      rw [List.append_nil]
      exact p5
    | some lo =>
      rw [hx] at d5 eW
      have d5 : Dq K F5 v5 (tI lo) := d5
      have nn : (!decide (v5 = V.non)) = true := by
        obtain ⟨a, xs, rfl, _⟩ := d5.tup_inv
        rfl
      rw [nn]
      obtain ⟨acc, ea, da⟩ := p5.e
      refine iteT (wb_one (w1_append (ho_var 3 rfl) ea p5.f (wv_tup (wvs_cons (Wv.to (wv_callB call_len_seq cd_lenT (wv_var 5 rfl d5) T.len) (by rw [List.length_map])) (wvs_cons (wv_var 4 rfl (dv.mono s35)) (wvs_cons (wv_var 5 rfl d5) wvs_nil)))) p5.y.s (by rw [da.length, List.length_map]; omega) fun v6 F6 H6 g6 d6 f6 e6 => ?_))
      have p6 := (p5.gr g6).app (.inr hl) d6 e6
      refine ⟨F6, _, _, ((s1.trans g3.ff).trans s35).trans g6.ff, (sG3.trans s35).trans g6.ff, ?_, rfl⟩
      rw [eW]
      show Lp _ _ _ _ _ _ _ _ _ _ (List.map trD (W n ++ [_]))
      rw [List.map_append]
      exact p6
  · rintro F1 σ' H1 ⟨Fi, u, v, s1, sG, p, rfl⟩
    rw [List.length_map] at p
    have eW : W (chs (othersOf c.T i j) size).length = lwL c.T c.kind i j size := by
      show List.filterMap _ (List.take _ _) = _
      rw [List.take_length]
      rfl
    rw [eW] at p
    obtain ⟨acc, ea, da⟩ := p.e
    obtain ⟨z1, z2⟩ := frz p.y.s p.f ea
    have df : Dq K (upd Fi l (.lst acc)) (.ref l) (.list ((lwL c.T c.kind i j size).map trD)) := .lst upd_same (da.mono z1)
    refine wb_one (w1_ret (we_if (Wq.go (F := upd Fi l (.lst acc)) (wq_gt (wv_callB call_len_seq cd_lenL (wv_var 3 rfl df) T.len) wv_int) z2 fun H2 s2 => ?_)))
    have p2 := p.sm s2
    cases el : lwL c.T c.kind i j size with
    | nil =>
      refine iteF ((wv_non (F := Fi)).go p2.y.s fun v3 F3 H3 g3 d3 => q v3 .none F3 H3 (.inl ⟨el, rfl⟩) (p2.gr g3).g (p2.gr g3).y (p2.gr g3).t d3)
    | cons e es =>
      rw [List.length_map, List.length_cons]
      rw [show decide ((0 : Int) < ((es.length + 1 : Nat) : Int)) = true from decide_eq_true (by omega)]
      refine iteT (we_callB (cr_minT rfl hr) T.min (wa_cons (we_var 3 rfl (wa_nil ⟨l, lwL c.T c.kind i j size, acc, rfl, SqL.of (s2 _ _ ea), (da.mono (p.y.s.trans s2)).dp, by rw [el]; simp, fun k e' x hk hx hm => ?_⟩))))
      obtain ⟨d', e1, e2⟩ := da.get' hx
      rw [List.getElem?_map, hk] at e1
      cases e1
      exact q x (trD e') Fi H2 (.inr ⟨e', List.mem_of_getElem? hk, hm, rfl⟩) p2.g p2.y p2.t e2
end
end K29
set_option Elab.async false
set_option linter.all false
set_option maxRecDepth 100000
set_option maxHeartbeats 4000000
namespace K29
open PySem PySem.Spec PyProof.Rows L2 LamX
/-- the least first number -/
def least1 : List Tr → Option Int
  | [] => none
  | e :: r => match least1 r with
    | none => some e.1
    | some b => some (if e.1 ≤ b then e.1 else b)
theorem least1_of : ∀ {l : List Tr} {e : Tr}, e ∈ l → (∀ x ∈ l, e.1 ≤ x.1) → least1 l = some e.1
  | x :: r, e, he, hm => by
    unfold least1
    rcases List.mem_cons.mp he with rfl | he
    · cases h : least1 r with
      | none => rfl
      | some b =>
        have : e.1 ≤ b := by
          clear he
          have key : ∀ (r : List Tr) (b : Int), least1 r = some b → ∃ y ∈ r, y.1 = b := fun r => by
            induction r with
            | nil => intro b h; cases h
            | cons y r ih =>
              intro b h
              unfold least1 at h
              cases hr : least1 r with
              | none =>
                rw [hr] at h
                cases h
                exact ⟨y, List.mem_cons_self .., rfl⟩
              | some c =>
                rw [hr] at h
                have h : (if y.1 ≤ c then y.1 else c) = b := Option.some.inj h
                obtain ⟨z, hz, ez⟩ := ih c hr
                by_cases q : y.1 ≤ c
                · rw [if_pos q] at h
                  exact ⟨y, List.mem_cons_self .., h⟩
                · rw [if_neg q] at h
                  exact ⟨z, List.mem_cons_of_mem _ hz, ez.trans h⟩
          obtain ⟨y, hy, ey⟩ := key r b h
          rw [← ey]
          exact hm y (List.mem_cons_of_mem _ hy)
        show some (if e.1 ≤ b then e.1 else b) = _
        rw [if_pos this]
    · rw [least1_of he fun y hy => hm y (List.mem_cons_of_mem _ hy)]
      have := hm x (List.mem_cons_self ..)
      show some (if x.1 ≤ e.1 then x.1 else e.1) = _
      by_cases q : x.1 ≤ e.1
      · rw [if_pos q]
        congr 1
        omega
      · rw [if_neg q]
theorem least1_nil {l : List Tr} : least1 l = none ↔ l = [] := by
  cases l with
  | nil => exact ⟨fun _ => rfl, fun _ => rfl⟩
  | cons e r =>
    refine ⟨fun h => ?_, fun h => by cases h⟩
    unfold least1 at h
    cases hr : least1 r with
    | none => rw [hr] at h; cases h
    | some b => rw [hr] at h; cases h
def frStep (b : Option Int) (found : List (Int × Int)) (s : Int) : List (Int × Int) := match b with
  | none => found
  | some b => if (decide (found.length = 0) || decide (b < (found.getLastD (0, 0)).2)) = true then found ++ [(s, b)] else found
noncomputable def frTo (T : Tab) (kind : Str) (i j : Int) : Nat → List (Int × Int)
  | 0 => []
  | n + 1 => frStep (least1 (lwL T kind i j n)) (frTo T kind i j n) n
noncomputable def frM (T : Tab) (kind : Str) (i j : Int) : List (Int × Int) := frTo T kind i j ((othersOf T i j).length + 1)
theorem frTo_len (T : Tab) (kind : Str) (i j : Int) : ∀ n, (frTo T kind i j n).length ≤ n
  | 0 => Nat.le_refl _
  | n + 1 => by
    have ih := frTo_len T kind i j n
    unfold frTo frStep
    split
    · omega
    · split
      · rw [List.length_append]
        show _ + 1 ≤ _
        omega
      · omega
theorem atI_last {α : Type} {l : List α} {x : α} : L2.atI (l ++ [x]) (-1) = some x := by
  unfold L2.atI L2.ixN
  rw [if_neg (by decide), if_pos (by rw [List.length_append]; show -((l.length + 1 : Nat) : Int) ≤ -1; omega)]
  show (l ++ [x])[(-1 + ((l ++ [x]).length : Int)).toNat]? = _
  rw [List.length_append, show (-1 + ((l.length + [x].length : Nat) : Int)).toNat = l.length by show (-1 + ((l.length + 1 : Nat) : Int)).toNat = _; omega, List.getElem?_append_right (Nat.le_refl _), Nat.sub_self]
  rfl
section
variable {P : Program} {w : World} {K : PySem.W.Frag} {mg : Str → Option Value} {base : Heap} {f : Addr} {fd : FuncData} {C CB emp : Addr} {t : Tbs}
abbrev n_frontier : List Str := ["timetable", "kind", "i", "j", "chances", "found", "size", "best"]
theorem sc_frontier : FnScope n_frontier ["timetable", "kind", "i", "j"] (C8.fnScope s_frontier) := C8.fnScope_by (by decide +kernel)
abbrev spFrontier (t : Tbs) (K : PySem.W.Frag) : Sp := PuX t K Ar.args Ar.Ok (fun a => .list ((frM a.T a.kind a.i a.j).map prD))
theorem c_frontier (T : Txt K mg) (co : C8.Cal P w K mg base 7 "chances_of" (spChancesOf C CB K) []) (cot : C8.Met P w K mg base 4 C "others" (spOthers C K) []) (clw : C8.Cal P w K mg base 12 "least_with" (spLW C CB t K) []) (F : C8.Def K mg "frontier" s_frontier f fd) (b : Binds K fd ["timetable", "kind", "i", "j"] []) : C8.Cal P w K mg base 13 "frontier" (spFrontier t K) [] := by
  refine calX F b sc_frontier (fun _ => rfl) fun cdv A outer s H vs Q E G a hr s0 ts hd ok q => ?_
  obtain ⟨vt, r, rfl, dt, hd⟩ := hd.cons_inv
  obtain ⟨vk, r, rfl, dk, hd⟩ := hd.cons_inv
  obtain ⟨vi, r, rfl, di, hd⟩ := hd.cons_inv
  obtain ⟨vj, r, rfl, dj, hd⟩ := hd.cons_inv
  rw [hd.nil_inv, dk.str_inv, di.int_inv, dj.int_inv]
  refine wb_cons (w1_par 4 5 sc_frontier.nd (wa_cons (we_call co hr (wa_cons (we_var 0 rfl (wa_cons (we_var 1 rfl (wa_cons (we_var 2 rfl (wa_cons (we_var 3 rfl (wa_nil ⟨G, a.T, a.kind, vt, a.i, a.j, rfl, s0, dt, ok.tb, ok.i, ok.j, fun c F1 H1 e1 e2 e3 st dy hpk g1 => wa_cons (we_lst (wa_nil ⟨Nat.zero_le _, fun l hl => wa_nil ⟨_, _, rfl, ?_⟩⟩))⟩))))))))))))
  obtain ⟨kvs, ek, _⟩ := dy.k
  have hl0 : H l = none := g1.hh.free hl
  have nlp : l ≠ c.pk := fun z => by
    rw [z, ek] at hl
    cases hl
  have gn : Gr F1 H1 F1 (upd H1 l (.lst [])) := Gr.newM dy.s hl
  have p0 : Lp K CB c t l t.M G H F1 (upd H1 l (.lst [])) [] := ⟨(g1.trans gn).gm, dy.gr gn, (ts.gr g1).gr gn, dy.s.free hl, [], upd_same, .nil⟩
  have two : twoOk c (a.i, a.j) := ⟨by rw [e2]; exact ok.i, by rw [e2]; exact ok.j⟩
  have lo : (othersOf c.T a.i a.j).length ≤ 8 := by rw [e2]; exact ok.o
  have hM : ∀ x, MM c t x → t.M x ∨ H x = none := cm_fresh hpk
  subst e1
  refine wb_cons (w1_forH (ds := rangeD 0 ((othersOf c.T a.i a.j).length + 1)) (fun F2 n σ' H' => ∃ Fi u v, Same F2 Fi ∧ Same F1 Fi ∧ Lp K CB c t l t.M G H Fi H' ((frTo c.T c.kind a.i a.j n).map prD) ∧ σ' = [some vt, some (.str a.kind), some (.int a.i), some (.int a.j), some (.ref c.b), some (.ref l), u, v])
    (Wsrc.at_ (wsrc_rangeN (F := F1) T.range (wv_add (wv_callB call_len_seq cd_lenL (wv_meth (a.i, a.j) cot hr st (hd_var 4 rfl) (wvs_cons (wv_tup (wvs_cons (wv_var 2 rfl (.int a.i)) (wvs_cons (wv_var 3 rfl (.int a.j)) wvs_nil))) wvs_nil) two) T.len) wv_int) ⟨by rw [List.length_map]; rfl, by omega⟩) gn.fh) (fun F2 H2 g2 => ⟨F2, none, none, Same.refl _, g2.ff, p0.gr g2, rfl⟩) (fun F2 n σ' H' ⟨Fi, u, v, s1, _, p, _⟩ => s1.trans p.y.s) ?_ ?_)
  · rintro F2 n dd v σ' H2 H3 ed ⟨Fi, u, v', s1, sG, p, rfl⟩ hy
    obtain ⟨F3, g3, dv⟩ := hy Fi s1 p.y.s
    obtain ⟨hn, rfl⟩ := rangeD_at ed
    rw [dv.int_inv, Int.zero_add]
    have p3 := p.gr g3
    have sG3 := sG.trans g3.ff
    refine wg_name 6 sc_frontier.nd (wb_cons (w1_set 7 sc_frontier.nd (we_call clw hr (wa_cons (we_var 4 rfl (wa_cons (Wv.go (F := F3) (wv_tup (wvs_cons (wv_var 2 rfl (.int a.i)) (wvs_cons (wv_var 3 rfl (.int a.j)) wvs_nil))) p3.y.s fun vp F4 H4 g4 d4 => wa_cons (we_var 6 rfl (wa_nil ?_)))))))))
    have p4 := p3.gr g4
    refine ⟨F4, c, vp, a.i, a.j, n, rfl, rfl, (st.mono sG3).mono g4.ff, p4.y, p4.t, d4, two, lo, by rw [e2]; exact ok.m, by omega, fun v5 d5 F5 H5 hd5 g5 y5 t5 dv5 => ?_⟩
    have p5 := p4.step g5 hM y5 t5
    have s15 : Same F2 F5 := ((s1.trans g3.ff).trans g4.ff).trans g5.ff
    have sG5 : Same F1 F5 := (sG3.trans g4.ff).trans g5.ff
    have fl := frTo_len c.T c.kind a.i a.j n
    show Wb _ _ _ _ _
    refine wb_one (w1_if (wt_and2 (wt_notNone (we_var 7 rfl ?_))))
    rcases hd5 with ⟨el, rfl⟩ | ⟨e, he, hm, rfl⟩
    · rw [dv5.non_inv]
      refine iteF (iteF (wb_nil ?_))
      refine ⟨F5, _, _, s15, sG5, ?_, rfl⟩
      unfold frTo
      rw [el]
      exact p5
    · have nn : (!decide (v5 = V.non)) = true := by
        obtain ⟨a, xs, rfl, _⟩ := dv5.tup_inv
        rfl
      rw [nn]
      have eb := least1_of he hm
      have eT : frTo c.T c.kind a.i a.j (n + 1) = if (decide ((frTo c.T c.kind a.i a.j n).length = 0) || decide (e.1 < ((frTo c.T c.kind a.i a.j n).getLastD (0, 0)).2)) = true then frTo c.T c.kind a.i a.j n ++ [((n : Int), e.1)] else frTo c.T c.kind a.i a.j n := by
        conv => lhs; unfold frTo
        rw [eb]
        rfl
      rw [eT]
      generalize frTo c.T c.kind a.i a.j n = found at p5 fl
      obtain ⟨acc, ea, da⟩ := p5.e
      obtain ⟨z1, z2⟩ := frz p5.y.s p5.f ea
      have df : Dq K (upd F5 l (.lst acc)) (.ref l) (.list (found.map prD)) := .lst upd_same (da.mono z1)
      refine iteT (wt_or2 (Wq.go (F := upd F5 l (.lst acc)) (b := decide (found.length = 0)) (Wq.to (wq_eqI (wv_callB call_len_seq cd_lenL (wv_var 5 rfl df) T.len) wv_int) (by rw [List.length_map]; exact decide_eq_decide.mpr ⟨fun h => by omega, fun h => by omega⟩)) z2 fun H6 s6 => ?_))
      have p6 := p5.sm s6
      cases e1 : decide (found.length = 0) with
      | true =>
        simp only [Bool.true_or, if_true]
        refine (wb_one (w1_append (ho_var 5 rfl) (s6 _ _ ea) p6.f (wv_tup (wvs_cons (wv_var 6 rfl (.int (n : Nat))) (wvs_cons (wv_ixT (d := .int e.1) (wv_var 7 rfl dv5) wv_int (atI_nat (j := 0) rfl)) wvs_nil))) p6.y.s (by rw [da.length, List.length_map]; omega) fun v6 F6 H8 g6 d6 f6 e6 => ?_))
        have p8 := (p6.gr g6).app (.inr hl0) d6 e6
        refine ⟨F6, _, _, s15.trans g6.ff, sG5.trans g6.ff, ?_, rfl⟩
        rw [List.map_append]
        exact p8
      | false =>
      have nf : found ≠ [] := fun z => by
        rw [z] at e1
        cases e1
      obtain ⟨ini, lst, rfl⟩ : ∃ ini lst, found = ini ++ [lst] := ⟨found.dropLast, found.getLast nf, (List.dropLast_concat_getLast nf).symm⟩
      have el : ((ini ++ [lst]).getLastD (0, 0)) = lst := by rw [List.getLastD_eq_getLast?, List.getLast?_append]; rfl
      rw [el, Bool.false_or]
      refine iteF (Wq.go (F := upd F5 l (.lst acc)) (b := decide (e.1 < lst.2)) (wq_lt (wv_ixT (d := .int e.1) (wv_var 7 rfl (dv5.mono z1)) wv_int (atI_nat (j := 0) rfl)) (wv_ixT (d := .int lst.2) (ds := [.int lst.1, .int lst.2]) (wv_ixL (d := prD lst) (wv_var 5 rfl df) (wv_neg wv_int) (by rw [List.map_append]; exact atI_last)) wv_int (atI_nat (j := 1) rfl))) (z2.trans s6) fun H7 s7 => ?_)
      have p7 := p6.sm s7
      cases e4 : decide (e.1 < lst.2) with
      | true =>
        simp only [if_true]
        refine (wb_one (w1_append (ho_var 5 rfl) (s7 _ _ (s6 _ _ ea)) p7.f (wv_tup (wvs_cons (wv_var 6 rfl (.int (n : Nat))) (wvs_cons (wv_ixT (d := .int e.1) (wv_var 7 rfl dv5) wv_int (atI_nat (j := 0) rfl)) wvs_nil))) p7.y.s (by rw [da.length, List.length_map]; omega) fun v6 F6 H8 g6 d6 f6 e6 => ?_))
        have p8 := (p7.gr g6).app (.inr hl0) d6 e6
        refine ⟨F6, _, _, s15.trans g6.ff, sG5.trans g6.ff, ?_, rfl⟩
        rw [List.map_append (l₂ := [_])]
        exact p8
      | false =>
        simp only [Bool.false_eq_true, if_false]
        refine (wb_nil ?_)
        exact ⟨F5, _, _, s15, sG5, p7, rfl⟩
  · rintro F2 σ' H2 ⟨Fi, u, v, s1, sG, p, rfl⟩
    rw [rangeD_len] at p
    obtain ⟨acc, ea, da⟩ := p.e
    have gz := p.g.freeze hl0 p.f ea
    refine wb_one (w1_ret (we_var 5 rfl (q _ _ _ gz ⟨p.t.ne, ?_, ?_, p.t.t1, p.t.t2⟩ ?_)))
    · obtain ⟨ps1, e1, _⟩ := p.t.t1
      rw [upd_ne (fun z => by rw [z, ea] at e1; cases e1)]
      exact p.t.f1
    · obtain ⟨ps1, e1, _⟩ := p.t.t2
      rw [upd_ne (fun z => by rw [z, ea] at e1; cases e1)]
      exact p.t.f2
    · rw [← e2, ← e3]
      exact .lst upd_same (da.mono (same_new p.f))
end
end K29
set_option Elab.async false
set_option linter.all false
set_option maxRecDepth 100000
set_option maxHeartbeats 4000000
namespace K29
open PySem PySem.Spec PyProof.Rows L2 LamX
/-- a, b = x, y where a or b is a cell -/
theorem w1_pairC {X : Cx} {t1 t2 a b : Expr} {k k2 : Nat} {p p2 pos : Pos} {σ : L2.St} {H : Hp} {D : Ends} (h : Wa X [a, b] σ H fun vs H1 => ∃ v w, vs = [v, w] ∧ ∀ p, H1 p = none → Wgs X [t1, t2] [v, w] σ (upd H1 p (.tup [v, w])) D.nx) (hc : X.calm = true := by rfl) (hn : (assignEach [t1, t2] X.env).length = 2 := by rfl) (hst : (assignEach [t1, t2] X.env).findIdx? (·.1) = none := by rfl)
    (hs : swapsWithSole [.Tuple [t1, t2] k p] (.Tuple [a, b] k2 p2) pos.line X.env = pure false := by rfl) (hw : swappedStores [.Tuple [t1, t2] k p] (.Tuple [a, b] k2 p2) X.env = pure none := by rfl) (h1 : (assignEach [.Tuple [t1, t2] k p] X.env).map (·.2) = [assign (.Tuple [t1, t2] k p) X.env] := by rfl) : W1 X (.Assign [.Tuple [t1, t2] k p] (.Tuple [a, b] k2 p2) pos) D σ H :=
  w1_asg (we_tup (h.mono fun vs H1 ⟨v, w, e, q⟩ => ⟨by rw [e]; exact Nat.le_of_ble_eq_true rfl, fun p hp => by
    subst e
    exact wg_of (pg_tup hc wgs_pgs hn hst) ⟨p, [v, w], rfl, .inl (.inl upd_same), rfl, q p hp⟩⟩)) hs hw h1
theorem ts_oneW {X : Cx} {scope : Scope} {c : Expr} {σ : L2.St} {H : Hp} {Q : Bool → Hp → Prop} (h : ∀ (s0 : Shared) (H0 : Hp) (C : Addr) (cl : List (Str × Addr)) (fp : List Addr), Wt (Bk X scope s0 H0 C cl fp) c σ H Q) : tAll X scope [c] σ H Q := fun s0 H0 C cl fp pins st I => (pts_one (X := Bk X scope s0 H0 C cl fp) wt_pt).run pins st σ H Q I (h s0 H0 C cl fp)
/-- the pairs of two of so many -/
def prsM (n : Nat) : List (Int × Int) := (List.range n).flatMap fun i : Nat => (List.range (n - (i + 1))).map fun j : Nat => (Int.ofNat i, Int.ofNat (i + 1 + j))
theorem prsM_mem {n : Nat} {p : Int × Int} : p ∈ prsM n ↔ 0 ≤ p.1 ∧ p.1 < p.2 ∧ p.2 < n := by
  unfold prsM
  rw [List.mem_flatMap]
  constructor
  · rintro ⟨i, hi, h⟩
    obtain ⟨j, hj, rfl⟩ := List.mem_map.mp h
    have h1 := List.mem_range.mp hi
    have h2 := List.mem_range.mp hj
    refine ⟨Int.natCast_nonneg i, ?_, ?_⟩
    · show (i : Int) < ((i + 1 + j : Nat) : Int)
      omega
    · show ((i + 1 + j : Nat) : Int) < n
      omega
  · rintro ⟨h1, h2, h3⟩
    obtain ⟨a, b⟩ := p
    obtain ⟨i, rfl⟩ := Int.eq_ofNat_of_zero_le h1
    have h2 : (i : Int) < b := h2
    have h3 : b < n := h3
    obtain ⟨k, rfl⟩ := Int.eq_ofNat_of_zero_le (show 0 ≤ b by omega)
    refine ⟨i, List.mem_range.mpr (by omega), List.mem_map.mpr ⟨k - (i + 1), List.mem_range.mpr (by omega), ?_⟩⟩
    show (Int.ofNat i, Int.ofNat (i + 1 + (k - (i + 1)))) = ((i : Int), (k : Int))
    rw [show i + 1 + (k - (i + 1)) = k by omega]
    rfl
theorem prsM_sml {n : Nat} {p : Int × Int} (h : p ∈ prsM n) (hn : n ≤ 5) : sml p := by
  obtain ⟨h1, h2, h3⟩ := prsM_mem.mp h
  exact ⟨h1, by omega, by omega, by omega⟩
/-- what is hidden where at most one place is lost -/
def fragS (T : Tab) (kind : Str) (p : Int × Int) : Prop := p ∈ prsM (looksOf T).length ∧ ∃ size lost, size < min 1 (meetsOf T []).length + 1 ∧ lost ∈ chs (meetsOf T []) size ∧ alB T kind (goneOf T [] lost) p.1 p.2 = false
/-- behind so many sizes, so many choices of the next -/
def fragP (T : Tab) (kind : Str) (n m : Nat) (p : Int × Int) : Prop := p ∈ prsM (looksOf T).length ∧ ((∃ size lost, size < n ∧ lost ∈ chs (meetsOf T []) size ∧ alB T kind (goneOf T [] lost) p.1 p.2 = false) ∨ ∃ lost, lost ∈ (chs (meetsOf T []) n).take m ∧ alB T kind (goneOf T [] lost) p.1 p.2 = false)
theorem fragP_zero {T : Tab} {kind : Str} {p : Int × Int} : ¬ fragP T kind 0 0 p := by
  rintro ⟨_, ⟨_, _, h, _⟩ | ⟨_, h, _⟩⟩
  · exact absurd h (Nat.not_lt_zero _)
  · rw [List.take_zero] at h
    exact nomatch h
theorem fragP_next {T : Tab} {kind : Str} {n : Nat} {p : Int × Int} : fragP T kind (n + 1) 0 p ↔ fragP T kind n (chs (meetsOf T []) n).length p := by
  unfold fragP
  rw [List.take_length, List.take_zero]
  refine and_congr_right fun _ => ⟨?_, ?_⟩
  · rintro (⟨s, l, h1, h2, h3⟩ | ⟨_, h, _⟩)
    · by_cases e : s = n
      · subst e
        exact .inr ⟨l, h2, h3⟩
      · exact .inl ⟨s, l, by omega, h2, h3⟩
    · exact nomatch h
  · rintro (⟨s, l, h1, h2, h3⟩ | ⟨l, h2, h3⟩)
    · exact .inl ⟨s, l, by omega, h2, h3⟩
    · exact .inl ⟨n, l, Nat.lt_succ_self n, h2, h3⟩
theorem fragP_one {T : Tab} {kind : Str} {n m : Nat} {lost : List Int} (e : (chs (meetsOf T []) n)[m]? = some lost) {p : Int × Int} : fragP T kind n (m + 1) p ↔ fragP T kind n m p ∨ (p ∈ prsM (looksOf T).length ∧ alB T kind (goneOf T [] lost) p.1 p.2 = false) := by
  unfold fragP
  rw [List.take_add_one, e]
  constructor
  · rintro ⟨h0, h | ⟨l, h2, h3⟩⟩
    · exact .inl ⟨h0, .inl h⟩
    · rcases List.mem_append.mp h2 with h2 | h2
      · exact .inl ⟨h0, .inr ⟨l, h2, h3⟩⟩
      · rw [List.mem_singleton.mp h2] at h3
        exact .inr ⟨h0, h3⟩
  · rintro (⟨h0, h | ⟨l, h2, h3⟩⟩ | ⟨h0, h3⟩)
    · exact ⟨h0, .inl h⟩
    · exact ⟨h0, .inr ⟨l, List.mem_append_left _ h2, h3⟩⟩
    · exact ⟨h0, .inr ⟨lost, List.mem_append_right _ (List.mem_singleton.mpr rfl), h3⟩⟩
theorem fragP_end {T : Tab} {kind : Str} {p : Int × Int} : fragP T kind (min 1 (meetsOf T []).length + 1) 0 p ↔ fragS T kind p := by
  unfold fragP fragS
  rw [List.take_zero]
  refine and_congr_right fun _ => ⟨?_, fun h => .inl h⟩
  rintro (h | ⟨_, h, _⟩)
  · exact h
  · exact nomatch h
/-- the state: d the dict that is filled -/
structure Fs (K : PySem.W.Frag) (CB : Addr) (c : Cd) (d : Addr) (G H F' H' : Hp) (S : Int × Int → Prop) : Prop where
  g : Gm (fun _ => False) G H F' H'
  y : CDy K CB F' H' c
  f : F' d = none
  e : ∃ kvs, H' d = some (.dT kvs) ∧ Ks kvs ∧ ∀ p, Ks.has kvs p = true ↔ S p
section
variable {K : PySem.W.Frag} {CB : Addr} {c : Cd} {d : Addr} {G H F1 H1 F2 H2 : Hp} {S S' : Int × Int → Prop}
theorem Fs.gr (h : Fs K CB c d G H F1 H1 S) (g : Gr F1 H1 F2 H2) : Fs K CB c d G H F2 H2 S := by
  obtain ⟨kvs, e1, e2⟩ := h.e
  exact ⟨h.g.trans g.gm, h.y.gr g, g.noF h.f e1, kvs, g.hh _ _ e1, e2⟩
theorem Fs.sm (h : Fs K CB c d G H F1 H1 S) (s : Same H1 H2) : Fs K CB c d G H F1 H2 S := h.gr ⟨Same.refl _, h.y.s.trans s, s, fun _ e _ => e⟩
theorem Fs.step (h : Fs K CB c d G H F1 H1 S) (hp : H c.pk = none) (nd : d ≠ c.pk) (g : Gm c.M F1 H1 F2 H2) (y : CDy K CB F2 H2 c) : Fs K CB c d G H F2 H2 S := by
  obtain ⟨kvs, e1, e2⟩ := h.e
  have n : ¬ c.M d := nd
  exact ⟨⟨h.g.ff.trans g.ff, g.fh, fun a o nm e => g.hh a o (fun m => by rw [show a = c.pk from m, hp] at e; cases e) (h.g.hh a o nm e), fun x e nn => g.fr x (h.g.fr x e nn) fun z => nn (h.g.th x z), fun x e => h.g.th x (g.th x e)⟩, y, g.noF h.f e1, kvs, g.hh _ _ n e1, e2⟩
theorem Fs.imp (h : Fs K CB c d G H F1 H1 S) (i : ∀ p, S p ↔ S' p) : Fs K CB c d G H F1 H1 S' := by
  obtain ⟨kvs, e1, e2, e3⟩ := h.e
  exact ⟨h.g, h.y, h.f, kvs, e1, e2, fun p => (e3 p).trans (i p)⟩
/-- another thing is written -/
theorem Fs.upd (h : Fs K CB c d G H F1 H1 S) {p : Addr} {o : HO} (nd : p ≠ d) (np : p ≠ c.pk) (hp : H p = none) (hf : F1 p = none) : Fs K CB c d G H F1 (upd H1 p o) S := by
  obtain ⟨kvs, e1, e2⟩ := h.e
  exact ⟨h.g.mut (.inr hp) hf, h.y.upd np hf, h.f, kvs, by rw [upd_ne nd.symm]; exact e1, e2⟩
end
end K29
set_option Elab.async false
set_option linter.all false
set_option maxRecDepth 100000
set_option maxHeartbeats 4000000
namespace K29
open PySem PySem.Spec PyProof.Rows L2 LamX
theorem wsrc_range2N {X : Cx} {tg a b : Expr} {σ : L2.St} {F : Hp} {x y : Int} {m n : Nat} {p pos : Pos} (hm : X.mg "range" = none) (ha : Wv X a σ F (.int x)) (hb : Wv X b σ F (.int y)) (e : x = (m : Int) ∧ y = (n : Int) ∧ m ≤ 100000 ∧ n ≤ 100000) (hg : Gl X "range" := by rfl) (hs : starEach [a, b] X.env = [(false, eval a X.env), (false, eval b X.env)] := by rfl)
    (hs2 : starEach [b] X.env = [(false, eval b X.env)] := by rfl) : Wsrc X tg (.Call (.Name "range" p) [a, b] [] pos) σ F (rangeD m (n - m)) := by
  have z := wsrc_range2 (tg := tg) (p := p) (pos := pos) hm ha hb (by omega) hg hs hs2
  rw [show (y - x).toNat = n - m by omega, e.1] at z
  exact z
theorem wv_min2 {X : Cx} {a b : Expr} {σ : L2.St} {F : Hp} {i j : Int} {p pos : Pos} (hc : X.calm = true) (hm : X.mg "min" = none) (ha : Wv X a σ F (.int i)) (hb : Wv X b σ F (.int j)) (hg : Gl X "min" := by rfl)
    (he : starEach [a, b] X.env = (false, eval a X.env) :: starEach [b] X.env := by rfl) (he2 : starEach [b] X.env = (false, eval b X.env) :: starEach [] X.env := by rfl) (hpl : (backTo pos (starEach [b] X.env)).any (·.1) = false := by rfl) : Wv X (.Call (.Name "min" p) [a, b] [] pos) σ F (.int (if j < i then j else i)) :=
  wv_scal (fun _ => .int _) fun H s Q q => we_callB (call_min2 hc) hm (wa_cons (ha.int s fun H1 s1 => wa_cons (hb.int (s.trans s1) fun H2 s2 => wa_nil ⟨i, j, rfl, q H2 (s1.trans s2)⟩) he2) he) hg (he := he) (hpl := hpl)
theorem isKeys_of' {H : Hp} {kvs : List (List L2.Key × V)} {bs : List Addr} (r : IsKeys H kvs bs) : ∀ p ∈ kvs, ∃ b ∈ bs, H b = some (.tup (p.1.map kV)) := by
  unfold IsKeys at r
  induction r with
  | nil => intro b hb; exact nomatch hb
  | @cons p b ps bs h t ih =>
    intro x hx
    rcases List.mem_cons.mp hx with rfl | hx
    · exact ⟨b, List.mem_cons_self .., h⟩
    · obtain ⟨q, hq, e⟩ := ih x hx
      exact ⟨q, List.mem_cons_of_mem _ hq, e⟩
theorem keys_data {K : PySem.W.Frag} {H : Hp} {kvs : List (List L2.Key × V)} {bs ys : List Addr} (ks : Ks kvs) (ik : IsKeys H kvs bs) (py : ys.Perm bs) : ∃ ps : List (Int × Int), (∀ p, p ∈ ps ↔ Ks.has kvs p = true) ∧ ∀ H', (∀ a o, H a = some o → H' a = some o) → DqAll K H' (ys.map V.ref) (ps.map prD) := by
  have key : ∀ ys : List Addr, (∀ b ∈ ys, b ∈ bs) → ∃ ps : List (Int × Int), (∀ p, p ∈ ps ↔ ∃ b ∈ ys, H b = some (.tup ((k2 p).map kV))) ∧ ∀ H', (∀ a o, H a = some o → H' a = some o) → DqAll K H' (ys.map V.ref) (ps.map prD) := by
    intro ys
    induction ys with
    | nil => exact fun _ => ⟨[], fun p => ⟨fun h => (nomatch h), fun ⟨_, h, _⟩ => nomatch h⟩, fun _ _ => .nil⟩
    | cons b r ih =>
      intro hb
      obtain ⟨ps, h1, h2⟩ := ih fun x hx => hb x (List.mem_cons_of_mem _ hx)
      obtain ⟨q, hq, e⟩ := isKeys_at ik b (hb b (List.mem_cons_self ..))
      obtain ⟨x, hx, ex⟩ := ks.sm q.1 (List.mem_map.mpr ⟨q, hq, rfl⟩)
      rw [ex] at e
      refine ⟨x :: ps, fun p => ?_, fun H' hh => .cons (.tup (.inl (hh _ _ e)) (.cons (.int _) (.cons (.int _) .nil))) (h2 H' hh)⟩
      rw [List.mem_cons, h1 p]
      constructor
      · rintro (rfl | ⟨b', hb', e'⟩)
        · exact ⟨b, List.mem_cons_self .., e⟩
        · exact ⟨b', List.mem_cons_of_mem _ hb', e'⟩
      · rintro ⟨b', hb', e'⟩
        rcases List.mem_cons.mp hb' with rfl | hb'
        · rw [e] at e'
          injection e' with e'
          injection e' with e'
          exact .inl (k2_inj (kVs_inj e'.symm))
        · exact .inr ⟨b', hb', e'⟩
  obtain ⟨ps, h1, h2⟩ := key ys fun b hb => py.mem_iff.mp hb
  refine ⟨ps, fun p => ?_, h2⟩
  rw [h1 p]
  unfold Ks.has
  rw [← mem_keys]
  constructor
  · rintro ⟨b, hb, e⟩
    obtain ⟨q, hq, e2⟩ := isKeys_at ik b (py.mem_iff.mp hb)
    rw [e] at e2
    injection e2 with e2
    injection e2 with e2
    rw [kVs_inj e2]
    exact List.mem_map.mpr ⟨q, hq, rfl⟩
  · intro h
    obtain ⟨q, hq, e⟩ := List.mem_map.mp h
    obtain ⟨b, hb, e2⟩ := isKeys_of' ik q hq
    rw [e] at e2
    exact ⟨b, py.mem_iff.mpr hb, e2⟩
theorem range_snoc {α : Type} {A : List α} {g : Nat → α} {j : Nat} : A ++ (List.range (j + 1)).map g = (A ++ (List.range j).map g) ++ [g j] := by
  rw [List.range_succ, List.map_append, List.append_assoc]
  rfl
section
variable {P : Program} {w : World} {K : PySem.W.Frag} {mg : Str → Option Value} {base : Heap} {f : Addr} {fd : FuncData} {C CB emp : Addr}
abbrev n_fragile : List Str := ["timetable", "kind", "many", "chances", "found", "places", "number", "pairs", "size", "lost", "one", "other", "pair"]
theorem sc_fragile : FnScope n_fragile ["timetable", "kind", "many"] (C8.fnScope s_fragile) := C8.fnScope_by (by decide +kernel)
def spFragile (K : PySem.W.Frag) : Sp := fun vs H Q _ => ∃ (F : Hp) (T : Tab) (kind : Str) (vt : V), vs = [vt, .str kind, .int 1] ∧ Same F H ∧ Dq K F vt (tabD T) ∧ TbOk T ∧ (looksOf T).length ≤ 5 ∧ (meetsOf T []).length ≤ 8 ∧
  ∀ (v : V) (ps : List (Int × Int)) (H' : Hp), Same H H' → Dq K H' v (.list (ps.map prD)) → (∀ p, p ∈ ps ↔ fragS T kind p) → Q v H'
theorem c_fragile (T : Txt K mg) (he : Emp K emp) (cI : C8.Mak P w K mg base 5 "Chances" C (spCinit C CB K) []) (ct : C8.Met P w K mg base 1 C "timetable" (spTimetable C K) []) (cm : C8.Met P w K mg base 3 C "meetings" (spMeetings C K) [.ref emp]) (cl : C8.Cal P w K mg base 2 "looks" (spLooks K) [])
    (cc : C8.Cal P w K mg base 9 "choices" (spChoices 8 K) []) (ch : C8.Met P w K mg base 8 C "hides" (spHides C CB K) []) (F : C8.Def K mg "fragile" s_fragile f fd) (b : Binds K fd ["timetable", "kind", "many"] []) : C8.Cal P w K mg base 10 "fragile" (spFragile K) [] := by
  refine calW F b .nil sc_fragile (fun vs H Q E ⟨G, _, _, _, e, _⟩ => by rw [e]; rfl) fun cdv A outer s H vs Q E hr ⟨G, T1, kind, vt, e, s0, dt, tok, l5, m8, q⟩ => ?_
  subst e
  refine wb_cons (w1_pairC (wa_cons (we_make cI hr (wa_cons (we_var 0 rfl (wa_cons (we_var 1 rfl (wa_nil fun y dx ny ndx nxy => ?_))))))))
  refine ⟨G, H, y, dx, T1, kind, vt, rfl, rfl, ny, ndx, nxy, s0, dt, tok.wf, tok.ne, tok.few, fun c F1 H1 e1 e2 e3 e4 st dy hpk g1 => ⟨rfl, ?_⟩⟩
  subst e1 e2 e3 e4
  refine wa_cons (we_newT fun d hd => wa_nil ⟨_, _, rfl, fun tp htp => wgs_cons (wg_name 3 sc_fragile.nd (wgs_cons (wg_name 4 sc_fragile.nd (wgs_nil ?_))))⟩)
  have gT := Gr.newM dy.s hd (o := .dT [])
  obtain ⟨kvs0, ek0, _⟩ := dy.k
  have hpk0 : H c.pk = none := hpk
  have ndpk : d ≠ c.pk := fun z => by
    rw [z, ek0] at hd
    cases hd
  have hd0 : H d = none := g1.hh.free hd
  have fd0 : F1 d = none := dy.s.free hd
  have p0 : Fs K CB c d G H F1 (upd H1 d (.dT [])) (fun _ => False) := ⟨(g1.trans gT).gm, dy.gr gT, fd0, [], upd_same, Ks.nil, fun p => ⟨fun z => (nomatch z), False.elim⟩⟩
  have gp := Gr.newM p0.y.s htp (o := .tup [.ref c.b, .ref d])
  have p1 := p0.gr gp
  generalize upd (upd H1 d (.dT [])) tp (.tup [.ref c.b, .ref d]) = H2 at p1 gp
  refine wb_cons (w1_pairC (wa_cons (Wv.go (F := F1) (wv_meth0 (⟨.tuple [], []⟩ : DlA) cm hr st (hd_var 3 rfl) (.cons he.dq .nil) (.inr rfl)) p1.y.s fun v5 F3 H3 g3 d5 => wa_cons (Wv.int (F := F3) (wv_callB call_len_seq cd_lenL (wv_call c.T cl hr (wvs_cons (wv_meth0 () ct hr (st.mono g3.ff) (hd_var 3 rfl) .nil trivial) wvs_nil) (Nat.le_trans tok.few (by decide))) T.len) g3.fh fun H4 s4 => wa_nil ⟨_, _, rfl, fun tp2 htp2 => wgs_cons (wg_name 5 sc_fragile.nd (wgs_cons (wg_name 6 sc_fragile.nd (wgs_nil ?_))))⟩))))
  have p4 := (p1.gr g3).sm s4
  have gp2 := Gr.newM p4.y.s htp2 (o := .tup [v5, .int (List.map prD (looksOf c.T)).length])
  have p5 := p4.gr gp2
  rw [List.length_map] at p5 ⊢
  generalize upd H4 tp2 (.tup [v5, .int (looksOf c.T).length]) = H5 at p5
  have st5 := st.mono g3.ff
  have dt5 : Dq K F3 c.vt (tabD c.T) := st5.tb
  refine wb_cons (w1_setLc2 (i := 7) (vs1 := [11]) sc_fragile.nd (blkOk_by (own := [("one", 10), ("other", 11)]) (N := n_fragile) (sc := C8.fnScope s_fragile) (by decide +kernel))
    (lc2_it (F := F3) (ds := rangeD 0 (looksOf c.T).length) (wsrc_rangeN T.range (wv_var 6 rfl (.int ((looksOf c.T).length : Nat))) ⟨rfl, by omega⟩) p5.y.s
      (fun F1 D i H' => ∃ Fj acc, Same F1 Fj ∧ Same F3 Fj ∧ H D = none ∧ D ≠ d ∧ D ≠ c.pk ∧ Fs K CB c d G H Fj H' (fun _ => False) ∧ Fj D = none ∧ H' D = some (.lst acc) ∧ acc.length ≤ 5 * i ∧ DqAll K Fj acc (((List.range i).flatMap fun i : Nat => (List.range ((looksOf c.T).length - (i + 1))).map fun j : Nat => (Int.ofNat i, Int.ofNat (i + 1 + j))).map prD)) ?_ ?_ ?_ ?_))
  · intro F6 H6 D g6 hD
    have p6 := p5.gr g6
    have hD0 : H D = none := p6.g.th D hD
    obtain ⟨kvs, ed, _⟩ := p6.e
    obtain ⟨kvs1, ek, _⟩ := p6.y.k
    have n1 : D ≠ d := fun z => by
      rw [z, ed] at hD
      cases hD
    have n2 : D ≠ c.pk := fun z => by
      rw [z, ek] at hD
      cases hD
    have fD : F6 D = none := p6.y.s.free hD
    exact ⟨F6, [], Same.refl _, g6.ff, hD0, n1, n2, p6.upd n1 n2 hD0 fD, fD, upd_same, Nat.zero_le _, .nil⟩
  · exact fun F1 D i H' ⟨Fj, _, s1, _, _, _, _, p, _⟩ => s1.trans p.y.s
  · rintro F6 D i dd v' H6 H7 ed ⟨Fj, acc, sF, sF3, hD0, n1, n2, p6, fD, eD, lD, dD⟩ hy
    obtain ⟨F7, g7, dv⟩ := hy Fj sF p6.y.s
    obtain ⟨hi, rfl⟩ := rangeD_at ed
    rw [dv.int_inv, Int.zero_add]
    have p7 := p6.gr g7
    intro s0 Hx C1 cl1 fp1
    refine wg_of (pg_name (i := 10) sc_fragile.nd rfl (Or.inl rfl)) ⟨rfl, ?_⟩
    refine ts_nil (F := F7) H7 p7.y.s _ fun H8 s8 => iteT ?_
    have p8 := p7.sm s8
    have e8 : H8 D = some (.lst acc) := s8 _ _ (g7.hh _ _ eD)
    intro s0 Hx C1 cl1 fp1
    refine Wsrc.go (F := F7) (ds := rangeD ((i + 1 : Nat) : Int) ((looksOf c.T).length - (i + 1))) (wsrc_range2N (m := i + 1) (n := (looksOf c.T).length) T.range (wv_add (wv_var 10 rfl (.int (i : Nat))) wv_int) (wv_var 6 rfl (.int ((looksOf c.T).length : Nat))) ⟨by omega, rfl, by omega, by omega⟩) p8.y.s fun J F9 H9 g9 hJ => ?_
    have p9 := p8.gr g9
    refine lc2_in (Xb := CxD P w K mg base n_fragile "fragile" (C8.fnScope s_fragile) f cdv A outer s H E) hJ (fun j H' => ∃ Fk acc, Same F9 Fk ∧ Fs K CB c d G H Fk H' (fun _ => False) ∧ Fk D = none ∧ H' D = some (.lst acc) ∧ acc.length ≤ 5 * i + j ∧ DqAll K Fk acc ((((List.range i).flatMap fun i : Nat => (List.range ((looksOf c.T).length - (i + 1))).map fun j : Nat => (Int.ofNat i, Int.ofNat (i + 1 + j))) ++ ((List.range j).map fun j : Nat => (Int.ofNat i, Int.ofNat (i + 1 + j)))).map prD))
      ⟨F9, acc, Same.refl _, p9, g9.noF (g7.noF fD eD) e8, g9.hh _ _ e8, lD, by rw [List.range_zero, List.map_nil, List.append_nil]; exact (dD.mono g7.ff).mono g9.ff⟩ (fun j H' ⟨Fk, _, s, p, _⟩ => s.trans p.y.s) ?_ ?_
    · rintro j dd v'' Ha Hb ed2 ⟨Fk, acc2, s9, pa, fD2, eD2, lD2, dD2⟩ hy2
      obtain ⟨Fb, gb, dv2⟩ := hy2 Fk s9 pa.y.s
      obtain ⟨hj, rfl⟩ := rangeD_at ed2
      rw [dv2.int_inv]
      have pb := pa.gr gb
      intro s0 Hx C1 cl1 fp1
      refine wg_of (pg_name (i := 11) sc_fragile.nd rfl (Or.inl rfl)) ⟨rfl, ?_⟩
      refine ts_nil (F := Fb) Hb pb.y.s _ fun Hc sc => iteT ?_
      have pc := pb.sm sc
      intro s0 Hx C1 cl1 fp1
      refine Wv.go (F := Fb) (wv_tup (wvs_cons (wv_var 10 rfl (.int (i : Nat))) (wvs_cons (wv_var 11 rfl (.int _)) wvs_nil))) pc.y.s fun v3 Fd Hd gd dd3 => ?_
      have pd := pc.gr gd
      have eDd : Hd D = some (.lst acc2) := gd.hh _ _ (sc _ _ (gb.hh _ _ eD2))
      have fDd : Fd D = none := gd.noF (gb.noF fD2 eD2) (sc _ _ (gb.hh _ _ eD2))
      refine ⟨acc2, eDd, Nat.lt_of_le_of_lt (show acc2.length ≤ 100 by omega) (by decide), Fd, acc2 ++ [v3], (s9.trans gb.ff).trans gd.ff, pd.upd n1 n2 hD0 fDd, fDd, upd_same, by rw [List.length_append]; show _ + 1 ≤ _; omega, ?_⟩
      rw [range_snoc, List.map_append (l₂ := [_])]
      exact ((dD2.mono gb.ff).mono gd.ff).append (.cons dd3 .nil)
    · rintro Ha ⟨Fk, acc2, s9, pa, fD2, eD2, lD2, dD2⟩
      rw [rangeD_len] at lD2 dD2
      refine ⟨Fk, acc2, ((sF.trans g7.ff).trans g9.ff).trans s9, ((sF3.trans g7.ff).trans g9.ff).trans s9, hD0, n1, n2, pa, fD2, eD2, by omega, ?_⟩
      rw [List.range_succ, List.flatMap_append]
      have e1 : ([i].flatMap fun i : Nat => (List.range ((looksOf c.T).length - (i + 1))).map fun j : Nat => (Int.ofNat i, Int.ofNat (i + 1 + j))) = (List.range ((looksOf c.T).length - (i + 1))).map fun j : Nat => (Int.ofNat i, Int.ofNat (i + 1 + j)) := by
        show _ ++ [] = _
        rw [List.append_nil]
      rw [e1]
      exact dD2
  rintro F6 D H6 ⟨Fj, acc, sF, sF3, hD0, n1, n2, p6, fD, eD, lD, dD⟩
  rw [rangeD_len] at dD
  have dP : Dq K (upd Fj D (.lst acc)) (.ref D) (.list ((prsM (looksOf c.T).length).map prD)) := .lst upd_same (dD.mono (same_new fD))
  have s6 : Same Fj (upd Fj D (.lst acc)) := same_new fD
  have p7 : Fs K CB c d G H (upd Fj D (.lst acc)) H6 (fun _ => False) := by
    obtain ⟨kvs, e1, e2⟩ := p6.e
    have g7 := p6.g.freeze hD0 fD eD
    refine ⟨g7, ⟨g7.fh, ?_, ?_⟩, ?_, kvs, e1, e2⟩
    · rw [upd_ne n2.symm]
      exact p6.y.f
    · obtain ⟨kv, k1, k2⟩ := p6.y.k
      exact ⟨kv, k1, k2.mono s6⟩
    · rw [upd_ne n1.symm]
      exact p6.f
  replace sF3 : Same F3 (upd Fj D (.lst acc)) := sF3.trans s6
  generalize upd Fj D (.lst acc) = F7 at dP p7 sF3
  have st7 := st5.mono sF3
  have d57 := d5.mono sF3
  have hM0 : min 1 (meetsOf c.T []).length + 1 ≤ 2 := by omega
  refine wb_cons (w1_forD (F := F7) (ds := rangeD 0 (min 1 (meetsOf c.T []).length + 1)) (fun F8 n σ' H' => ∃ Fi u1 u2, Same F8 Fi ∧ Same F7 Fi ∧ Fs K CB c d G H Fi H' (fragP c.T c.kind n 0) ∧ σ' = [some vt, some (.str c.kind), some (.int 1), some (.ref c.b), some (.ref d), some v5, some (.int (looksOf c.T).length), some (.ref D), u1, u2, none, none, none])
    (wsrc_rangeN T.range (wv_add (wv_min2 rfl T.min (wv_var 2 rfl (.int 1)) (wv_callB call_len_seq cd_lenL (wv_var 5 rfl d57) T.len)) wv_int) ⟨?_, by omega⟩) p7.y.s ?_ ?_ ?_ ?_)
  · rw [List.length_map]
    dsimp only
    by_cases z : ((meetsOf c.T []).length : Int) < 1
    · rw [if_pos z]
      omega
    · rw [if_neg z]
      omega
  · exact fun F8 H8 g8 => ⟨F8, none, none, Same.refl _, g8.ff, (p7.gr g8).imp fun p => ⟨False.elim, fragP_zero⟩, rfl⟩
  · exact fun F8 n σ' H' ⟨Fi, _, _, s1, _, p, _⟩ => s1.trans p.y.s
  · rintro F8 n dd v σ' H8 H9 ed ⟨Fi, u1, u2, s1, s7, p8, rfl⟩ hy
    obtain ⟨F9, g9, dv⟩ := hy Fi s1 p8.y.s
    obtain ⟨hn, rfl⟩ := rangeD_at ed
    rw [dv.int_inv, Int.zero_add]
    have p9 := p8.gr g9
    have s79 := s7.trans g9.ff
    refine wg_name 8 sc_fragile.nd (wb_one ?_)
    refine w1_forD (F := F9) (ds := (chs (meetsOf c.T []) n).map tI) (fun Fa m σ' H' => ∃ Fi u2, Same Fa Fi ∧ Same F9 Fi ∧ Fs K CB c d G H Fi H' (fragP c.T c.kind n m) ∧ σ' = [some vt, some (.str c.kind), some (.int 1), some (.ref c.b), some (.ref d), some v5, some (.int (looksOf c.T).length), some (.ref D), some (.int n), u2, none, none, none])
      (wsrc_list (F := F9) (wv_call (meetsOf c.T [], n) cc hr (wvs_cons (wv_var 5 rfl (d57.mono s79)) (wvs_cons (wv_var 8 rfl (.int _)) wvs_nil)) ⟨m8, by omega⟩)) p9.y.s ?_ ?_ ?_ ?_
    · exact fun Fa Ha ga => ⟨Fa, _, Same.refl _, ga.ff, p9.gr ga, rfl⟩
    · exact fun Fa m σ' H' ⟨Fi, _, s1, _, p, _⟩ => s1.trans p.y.s
    · rintro Fa m dd v2 σ' Ha Hb ed2 ⟨Fj2, u3, s2, s92, pa, rfl⟩ hy2
      obtain ⟨Fb, gb, dv2⟩ := hy2 Fj2 s2 pa.y.s
      have pb := pa.gr gb
      have s9b := s92.trans gb.ff
      rw [List.getElem?_map] at ed2
      cases eo : (chs (meetsOf c.T []) n)[m]? with
      | none =>
        rw [eo] at ed2
        cases ed2
      | some lost =>
      rw [eo] at ed2
      cases ed2
      refine wg_name 9 sc_fragile.nd (wb_one ?_)
      have stb := (st7.mono s79).mono s9b
      have dPb := (dP.mono s79).mono s9b
      refine w1_update hr (we_var 4 rfl ?_)
      obtain ⟨kvs, ekd, ksd, hsd⟩ := pb.e
      refine ⟨d, kvs, rfl, ekd, we_dcT hr sc_fragile.nd (blkOk_by (own := [("pair", 12)]) (N := n_fragile) (sc := C8.fnScope s_fragile) (by decide +kernel)) (dcT_it (F := Fb) (ds := (prsM (looksOf c.T).length).map prD) (wsrc_list (wv_var 7 rfl dPb)) pb.y.s
        (fun F1 D2 i H' => ∃ Fj, Same F1 Fj ∧ Same Fb Fj ∧ H D2 = none ∧ D2 ≠ d ∧ D2 ≠ c.pk ∧ Fs K CB c d G H Fj H' (fragP c.T c.kind n m) ∧ Fj D2 = none ∧ ∃ kv, H' D2 = some (.dT kv) ∧ Ks kv ∧ ∀ p, Ks.has kv p = true ↔ (p ∈ (prsM (looksOf c.T).length).take i ∧ alB c.T c.kind (goneOf c.T [] lost) p.1 p.2 = false)) ?_ ?_ ?_ ?_)⟩
      · intro F1 H1 D2 g1' hD
        have p1 := pb.gr g1'
        have hD0' : H D2 = none := p1.g.th D2 hD
        obtain ⟨kvs3, e3, _⟩ := p1.e
        obtain ⟨kvs4, e4, _⟩ := p1.y.k
        have n1' : D2 ≠ d := fun z => by
          rw [z, e3] at hD
          cases hD
        have n2' : D2 ≠ c.pk := fun z => by
          rw [z, e4] at hD
          cases hD
        have fD' : F1 D2 = none := p1.y.s.free hD
        exact ⟨F1, Same.refl _, g1'.ff, hD0', n1', n2', p1.upd n1' n2' hD0' fD', fD', [], upd_same, Ks.nil, fun p => ⟨fun z => (nomatch z), fun z => by
          rw [List.take_zero] at z
          exact nomatch z.1⟩⟩
      · exact fun F1 D2 i H' ⟨Fj, s, _, _, _, _, p, _⟩ => s.trans p.y.s
      · rintro F1 D2 i dd v3 Hc Hd ed3 ⟨Fj, sj, sb, hD0', n1', n2', pc, fD', kv, eD', ks, hk⟩ hy3
        obtain ⟨Fd, gd, dv3⟩ := hy3 Fj sj pc.y.s
        rw [List.getElem?_map] at ed3
        cases eo3 : (prsM (looksOf c.T).length)[i]? with
        | none =>
          rw [eo3] at ed3
          cases ed3
        | some p =>
        rw [eo3] at ed3
        cases ed3
        have pd := pc.gr gd
        have sbd := sb.trans gd.ff
        have tk : (prsM (looksOf c.T).length).take (i + 1) = (prsM (looksOf c.T).length).take i ++ [p] := by
          rw [List.take_add_one, eo3]
          rfl
        have sp : sml p := prsM_sml (List.mem_of_getElem? eo3) l5
        intro s0 Hx C1 cl1 fp1
        refine wg_of (pg_name (i := 12) sc_fragile.nd rfl (Or.inl rfl)) ⟨rfl, ?_⟩
        refine ts_oneW fun s0 Hx C1 cl1 fp1 => wt_val (we_meth ch hr (we_var 3 rfl ⟨_, _, _, rfl, pd.y.s _ _ (stb.mono sbd).ins, rfl, wa_cons (we_var 12 rfl (wa_cons (Wv.go (F := Fd) (wv_tup wvs_nil) pd.y.s fun ve Fe He ge de => wa_cons (we_var 9 rfl (wa_nil ?_)))))⟩))
        have pe := pd.gr ge
        have sbe := sbd.trans ge.ff
        refine ⟨Fe, c, v3, ve, v2, .tuple [], tI lost, p.1, p.2, [], lost, rfl, rfl, stb.mono sbe, pe.y, dv3.mono ge.ff, de, .inr rfl, dv2.mono sbe, .inr rfl, fun Ff Hf gf yf => ⟨_, rfl, ?_⟩⟩
        have pf := pe.step hpk0 ndpk gf yf
        have eDf : Hf D2 = some (.dT kv) := gf.hh _ _ n2' (ge.hh _ _ (gd.hh _ _ eD'))
        have fDf : Ff D2 = none := gf.noF (ge.noF (gd.noF fD' eD') (gd.hh _ _ eD')) (ge.hh _ _ (gd.hh _ _ eD'))
        have sjf := ((sj.trans gd.ff).trans ge.ff).trans gf.ff
        have sbf := sbe.trans gf.ff
        cases ea : alB c.T c.kind (goneOf c.T [] lost) p.1 p.2 with
        | true =>
          rw [if_neg (by decide)]
          refine ⟨Ff, sjf, sbf, hD0', n1', n2', pf, fDf, kv, eDf, ks, fun q => ?_⟩
          rw [hk q, tk, List.mem_append]
          refine ⟨fun z => ⟨.inl z.1, z.2⟩, fun z => ⟨z.1.elim id fun y => ?_, z.2⟩⟩
          rw [List.mem_singleton.mp y, ea] at z
          exact nomatch z.2
        | false =>
          rw [if_pos (by decide)]
          intro s0 Hx C1 cl1 fp1
          refine we_var 12 rfl ?_
          intro s0 Hx C1 cl1 fp1
          refine Wv.bl (F := Ff) wv_bl pf.y.s fun Hg sg => ?_
          have pg := pf.sm sg
          obtain ⟨b3, xs3, rfl, t1, t2⟩ := ((dv3.mono ge.ff).mono gf.ff).tup_inv1
          obtain ⟨x1, r1, rfl, y1, t2⟩ := t2.cons_inv
          obtain ⟨x2, r2, rfl, y2, t2⟩ := t2.cons_inv
          rw [t2.nil_inv, y1.int_inv, y2.int_inv] at t1
          have t1 : Hg b3 = some (.tup ((k2 p).map kV)) := pg.y.s _ _ t1
          refine ⟨kv, k2 p, b3, rfl, t1, sg _ _ eDf, Nat.lt_of_le_of_lt ks.few (by decide), Ff, sjf, sbf, hD0', n1', n2', pg.upd n1' n2' hD0' fDf, fDf, _, upd_same, ks.put sp, fun q => ?_⟩
          rw [Ks.has_put, Bool.or_eq_true, hk q, tk, List.mem_append, List.mem_singleton, decide_eq_true_iff]
          constructor
          · rintro (z | rfl)
            · exact ⟨.inl z.1, z.2⟩
            · exact ⟨.inr rfl, ea⟩
          · rintro ⟨z | z, y⟩
            · exact .inl ⟨z, y⟩
            · exact .inr z
      · rintro F1 D2 Hc ⟨Fj, sj, sb, hD0', n1', n2', pc, fD', kv, eD', ks, hk⟩
        obtain ⟨kvs2, ekd2, ksd2, hsd2⟩ := pc.e
        have kk := ksd2.merge ks.sm
        rw [List.length_map] at hk
        refine ⟨D2, kvs2, kv, rfl, ekd2, eD', n1'.symm, .inr ks.hash, Nat.le_trans (Nat.add_le_add ksd2.few ks.few) (by decide), Fj, _, (s2.trans gb.ff).trans sb, s9b.trans sb, ⟨pc.g.mut (.inr hd0) pc.f, pc.y.upd ndpk pc.f, pc.f, _, upd_same, kk, fun q => ?_⟩, rfl⟩
        rw [Ks.has_merge, Bool.or_eq_true, hsd2 q, hk q, List.take_length]
        exact (fragP_one eo).symm
    · rintro Fa σ' Ha ⟨Fj2, u3, s2, s92, pa, rfl⟩
      rw [List.length_map] at pa
      exact ⟨Fj2, _, _, (s1.trans g9.ff).trans s92, s79.trans s92, pa.imp fun p => fragP_next.symm, rfl⟩
  · rintro F8 σ' H8 ⟨Fi, u1, u2, s1, s7, p8, rfl⟩
    rw [rangeD_len] at p8
    obtain ⟨kvs, ekd, ksd, hsd⟩ := p8.e
    refine wb_one (w1_ret (we_callB (call_sorted_dT rfl 5) T.sorted (wa_cons (we_var 4 rfl (wa_nil ⟨d, kvs, rfl, ekd, Nat.lt_of_le_of_lt ksd.few (by decide), fun p hp => ?_, fun l bs ys hl ik py => ?_⟩)))))
    · obtain ⟨x, hx, e⟩ := ksd.sm p.1 (List.mem_map.mpr ⟨p, hp, rfl⟩)
      exact ⟨x.1, x.2, e, hx.1, hx.2.1, hx.2.2.1, hx.2.2.2⟩
    · have gl := Gr.newM p8.y.s hl (o := .lst (ys.map V.ref))
      obtain ⟨ps, m1, m2⟩ := keys_data (K := K) ksd ik py
      refine q _ ps _ (fun a o e => gl.hh _ _ (p8.g.hh _ _ id e)) (.lst upd_same (m2 _ fun a o e => gl.hh _ _ e)) fun p => ?_
      rw [m1 p, hsd p]
      exact fragP_end
end
end K29
set_option Elab.async false
set_option linter.all false
set_option maxRecDepth 100000
set_option maxHeartbeats 4000000
namespace K29
open PySem PySem.Spec PyProof.Rows L2 LamX
theorem SqL.mono {K : PySem.W.Frag} {F H : Hp} {a : Addr} {xs : List V} (s : Same F H) (h : SqL K F a xs) : SqL K H a xs := by
  rcases h with (h | ⟨o, h⟩) | h
  · exact .inl (.inl (s _ _ h))
  · exact .inl (.inr ⟨o, s _ _ h⟩)
  · exact .inr h
section
variable {X : Cx} {e a b : Expr} {es : List Expr} {σ : L2.St} {F H : Hp} {x : Str} {p pos : Pos}
theorem wv_intI {i : Int} (ha : Wv X a σ F (.int i)) (hm : X.mg "int" = none) (hg : Gl X "int" := by rfl)
    (he : starEach [a] X.env = (false, eval a X.env) :: starEach [] X.env := by rfl) (hpl : (backTo pos (starEach [] X.env)).any (·.1) = false := by rfl) : Wv X (.Call (.Name "int" p) [a] [] pos) σ F (.int i) :=
  wv_scal (fun _ => .int _) fun H s Q q => we_callTy call_int1 hm (wa_cons (ha.int s fun H1 s1 => wa_nil (.inl ⟨i, rfl, q H1 s1⟩)) he) hg (he := he) (hpl := hpl)
theorem wv_intB {k : Bool} (ha : Wv X a σ F (.bool k)) (hm : X.mg "int" = none) (hg : Gl X "int" := by rfl)
    (he : starEach [a] X.env = (false, eval a X.env) :: starEach [] X.env := by rfl) (hpl : (backTo pos (starEach [] X.env)).any (·.1) = false := by rfl) : Wv X (.Call (.Name "int" p) [a] [] pos) σ F (.int (if k then 1 else 0)) :=
  wv_scal (fun _ => .int _) fun H s Q q => we_callTy call_int1 hm (wa_cons (ha.bl s fun H1 s1 => wa_nil (.inr ⟨k, rfl, q H1 s1⟩)) he) hg (he := he) (hpl := hpl)
theorem wv_abs {i : Int} (ha : Wv X a σ F (.int i)) (hm : X.mg "abs" = none) (hg : Gl X "abs" := by rfl)
    (he : starEach [a] X.env = (false, eval a X.env) :: starEach [] X.env := by rfl) (hpl : (backTo pos (starEach [] X.env)).any (·.1) = false := by rfl) : Wv X (.Call (.Name "abs" p) [a] [] pos) σ F (.int (if i < 0 then -i else i)) :=
  wv_scal (fun _ => .int _) fun H s Q q => we_callB call_abs hm (wa_cons (ha.int s fun H1 s1 => wa_nil ⟨i, rfl, q H1 s1⟩) he) hg (he := he) (hpl := hpl)
end
theorem wv_lenS {X : Cx} {σ : L2.St} {F : Hp} {x : Str} {a : Addr} {xs : List V} {p p2 pos : Pos} (n : Nat) (h0 : σ[n]? = some (some (.ref a))) (h : SqL X.K F a xs) (hm : X.mg "len" = none) (hN : X.N[n]? = some x := by rfl) (hv : Vis X.env.scope x := by first | exact Or.inl rfl | exact Or.inr (Or.inl rfl) | exact Or.inr (Or.inr rfl)) (hd : (x == ("__debug__" : Str)) = false := by decide) (hcd : (x == ("__classdict__" : Str)) = false := by decide) (hg : Gl X "len" := by rfl)
    (he : starEach [.Name x p2] X.env = (false, eval (.Name x p2) X.env) :: starEach [] X.env := by rfl) (hpl : (backTo pos (starEach [] X.env)).any (·.1) = false := by rfl) : Wv X (.Call (.Name "len" p) [.Name x p2] [] pos) σ F (.int xs.length) :=
  wv_scal (fun _ => .int _) fun H s Q q => we_callB call_len_seq hm (wa_cons (we_var n h0 (wa_nil ⟨a, xs, rfl, .inl (SqL.mono s h), q H (Same.refl _)⟩) hN hv hd hcd) he) hg (he := he) (hpl := hpl)
theorem b01 (k : Bool) : -(2 ^ 64) < (if k = true then 1 else 0 : Int) ∧ (if k = true then 1 else 0 : Int) < 2 ^ 64 := by cases k <;> decide
theorem b01n (k : Bool) : (0 : Int) ≤ (if k = true then 1 else 0 : Int) := by cases k <;> decide
/-- the box: what is left of the script's number, the seed, the count -/
def Bx (l : Addr) (N : Nat) (H : Hp) : Prop := ∃ a s n : Int, H l = some (.lst [.int a, .int s, .int n]) ∧ 0 ≤ a ∧ 0 ≤ s ∧ s < 2147483563 ∧ 0 ≤ n ∧ n ≤ N
section
variable {P : Program} {w : World} {K : PySem.W.Frag} {mg : Str → Option Value} {base : Heap} {f : Addr} {fd : FuncData}
abbrev n_law_box : List Str := ["_law_script", "_law_k", "_law_cell", "_law_seed"]
theorem sc_law_box : FnScope n_law_box ["_law_script", "_law_k"] (C8.fnScope s_law_box) := C8.fnScope_by (by decide +kernel)
def spBox (K : PySem.W.Frag) : Sp := fun vs H Q _ => ∃ (F : Hp) (a : Addr) (ns : List Int) (k : Nat), vs = [.ref a, .int k] ∧ Same F H ∧ SqL K F a (ns.map V.int) ∧ k ≤ 1000 ∧ ∀ l H', Gr F H F H' → H l = none → Bx l 0 H' → Q (.ref l) H'
theorem c_box (T : Txt K mg) (F : C8.Def K mg "_law_box" s_law_box f fd) (b : Binds K fd ["_law_script", "_law_k"] []) : C8.Cal P w K mg base 1 "_law_box" (spBox K) [] := by
  refine calW F b .nil sc_law_box (fun vs H Q E ⟨G, _, _, _, e, _⟩ => by rw [e]; rfl) fun cdv A outer s H vs Q E hr ⟨G, a, ns, k, e, s0, hs, hk, q⟩ => ?_
  subst e
  have go : ∀ c H1, Same H H1 → Wb (CxD P w K mg base n_law_box "_law_box" (C8.fnScope s_law_box) f cdv A outer s H E) ((C8.fnBody s_law_box).drop 1) (DEnd Q) [some (.ref a), some (.int k), some (.int c), none] H1 := by
    intro c H1 s1
    refine wb_cons (w1_set 3 sc_law_box.nd (Wv.int (F := G) (wv_mod (wv_intI (wv_mul (wv_add (wv_add (wv_mod (wv_intI (wv_var 2 rfl (.int c)) T.int) wv_int (by decide)) (wv_mul wv_int (wv_var 1 rfl (.int (k : Nat))) (.inl ⟨by decide, by decide⟩))) wv_int) wv_int (.inr ⟨by decide, by decide⟩)) T.int) wv_int (by decide)) (s0.trans s1) fun H2 s2 => ?_))
    refine wb_one (w1_ret (we_lst (wa_cons (Wv.int (F := G) (wv_mul (wv_abs (wv_var 2 rfl (.int c)) T.abs) (wv_intB (wv_ge (wv_abs (wv_var 2 rfl (.int c)) T.abs) (wv_pow wv_int wv_int ⟨by decide, by decide, by decide⟩)) T.int) (.inr ?_)) ((s0.trans s1).trans s2) fun H3 s3 => ?_))))
    · exact b01 _
    refine wa_cons (Wv.int (F := G) (wv_var 3 rfl (.int _)) (((s0.trans s1).trans s2).trans s3) fun H4 s4 => wa_cons (Wv.int (F := G) wv_int ((((s0.trans s1).trans s2).trans s3).trans s4) fun H5 s5 => wa_nil ⟨Nat.le_of_ble_eq_true rfl, fun l hl => ?_⟩))
    have sH := (((s1.trans s2).trans s3).trans s4).trans s5
    refine q l _ ⟨Same.refl _, (s0.trans sH).trans (same_new hl), sH.trans (same_new hl), fun _ e _ => e⟩ (sH.free hl) ⟨_, _, _, upd_same, ?_, ?_, ?_, Int.le_refl _, Int.le_refl _⟩
    · exact Int.mul_nonneg (by split <;> omega) (b01n _)
    · exact Int.emod_nonneg _ (by decide)
    · exact Int.emod_lt_of_pos _ (by decide)
  refine wb_cons (w1_set 2 sc_law_box.nd (we_if (Wq.go (F := G) (wq_lt (wv_var 1 rfl (.int (k : Nat))) (wv_lenS 0 rfl hs T.len)) s0 fun H1 s1 => ?_)))
  rw [List.length_map]
  by_cases hz : k < ns.length
  · rw [decide_eq_true (by omega)]
    refine iteT (we_ix ix_list (we_var 0 rfl (we_var 1 rfl ⟨a, _, _, .int ns[k], rfl, rfl, SqL.mono (s0.trans s1) hs, ?_, go _ _ s1⟩)))
    unfold L2.atI L2.ixN
    rw [if_pos (by omega), List.length_map, if_pos (by omega)]
    show (List.map V.int ns)[(k : Int).toNat]? = _
    rw [List.getElem?_map, Int.toNat_natCast, List.getElem?_eq_getElem hz]
    rfl
  · rw [decide_eq_false (by omega)]
    exact iteF (Wv.int (F := G) wv_int (s0.trans s1) fun H2 s2 => go _ _ (s1.trans s2))
end
end K29
set_option Elab.async false
set_option linter.all false
set_option maxRecDepth 100000
set_option maxHeartbeats 4000000
namespace K29
open PySem PySem.Spec PyProof.Rows L2 LamX
section
variable {P : Program} {w : World} {K : PySem.W.Frag} {mg : Str → Option Value} {base : Heap} {f : Addr} {fd : FuncData}
abbrev n_law_take : List Str := ["_law_box_here", "_law_below", "_law_found", "_law_once", "_law_odd"]
theorem sc_law_take : FnScope n_law_take ["_law_box_here", "_law_below"] (C8.fnScope s_law_take) := C8.fnScope_by (by decide +kernel)
def spTake (K : PySem.W.Frag) : Sp := fun vs H Q _ => ∃ (F : Hp) (l : Addr) (N b : Nat), vs = [.ref l, .int b] ∧ Same F H ∧ F l = none ∧ Bx l N H ∧ N ≤ 1000 ∧ 1 ≤ b ∧ b ≤ 100 ∧ ∀ (r : Nat) H', r < b → Gm (fun x => x = l) F H F H' → Bx l (N + 1) H' → Q (.int r) H'
theorem c_take (T : Txt K mg) (F : C8.Def K mg "_law_take" s_law_take f fd) (b : Binds K fd ["_law_box_here", "_law_below"] []) : C8.Cal P w K mg base 1 "_law_take" (spTake K) [] := by
  refine calW F b .nil sc_law_take (fun vs H Q E ⟨G, _, _, _, e, _⟩ => by rw [e]; rfl) fun cdv A outer s H vs Q E hr ⟨G, l, N, b, e, s0, fl, ⟨x, sd, n, el, x0, sd0, sd1, n0, n1⟩, hN, b1, b2, q⟩ => ?_
  subst e
  have bp : (0 : Int) < (b : Int) := by omega
  have bl : (b : Int) < 1073741824 := by omega
  have fin : ∀ (r : Int) H', 0 ≤ r → r < b → Gm (fun x => x = l) G H G H' → Bx l (N + 1) H' → Q (.int r) H' := fun r H' h1 h2 g bx => by
    obtain ⟨k, rfl⟩ := Int.eq_ofNat_of_zero_le h1
    exact q k H' (by omega) g bx
  obtain ⟨z1, z2⟩ := frz s0 fl el
  have df : Dq K (upd G l (.lst [.int x, .int sd, .int n])) (.ref l) (.list [.int x, .int sd, .int n]) := .lst upd_same (.cons (.int _) (.cons (.int _) (.cons (.int _) .nil)))
  have gr0 : Gm (fun x => x = l) G H G H := Gm.refl s0
  have gm : ∀ {H1 : Hp} {o : HO}, Same H H1 → Gm (fun x => x = l) G H G (upd H1 l o) := fun {H1 o} s1 => (gr0.trans (⟨Same.refl _, s0.trans s1, s1, fun _ e _ => e⟩ : Gr G H G H1).gm).mut (.inl rfl) fl
  refine wb_cons (w1_if (Wq.go (F := upd G l (.lst [.int x, .int sd, .int n])) (wq_gt (wv_ixL (wv_var 0 rfl df) wv_int (atI_nat (j := 0) rfl)) wv_int) z2 fun H1 s1 => ?_))
  by_cases hx : 0 < x
  · rw [decide_eq_true hx]
    refine iteT (wb_cons (w1_set 2 sc_law_take.nd (Wv.int (F := upd G l (.lst [.int x, .int sd, .int n])) (wv_mod (wv_intI (wv_ixL (wv_var 0 rfl df) wv_int (atI_nat (j := 0) rfl)) T.int) (wv_var 1 rfl (.int (b : Nat))) bp) (z2.trans s1) fun H2 s2 => ?_)))
    have s02 := s1.trans s2
    refine wb_cons (w1_lput (Wv.int (F := upd G l (.lst [.int x, .int sd, .int n])) (wv_div (wv_ixL (wv_var 0 rfl df) wv_int (atI_nat (j := 0) rfl)) (wv_var 1 rfl (.int (b : Nat))) ⟨bp, bl⟩) (z2.trans s02) fun H3 s3 => we_var 0 rfl (Wv.int (F := G) wv_int ((s0.trans s02).trans s3) fun H4 s4 => ?_)))
    have s04 := (s02.trans s3).trans s4
    refine ⟨l, _, 0, 0, rfl, rfl, s04 _ _ el, rfl, wb_one (w1_ret (we_var 2 rfl (fin _ _ (Int.emod_nonneg _ (by omega)) (Int.emod_lt_of_pos _ bp) (gm s04) ⟨_, _, _, upd_same, Int.ediv_nonneg x0 (by omega), sd0, sd1, n0, by omega⟩)))⟩
  · rw [decide_eq_false hx]
    refine iteF (wb_nil ?_)
    refine wb_cons (w1_lput (Wv.int (F := upd G l (.lst [.int x, .int sd, .int n])) (wv_add (wv_ixL (wv_var 0 rfl df) wv_int (atI_nat (j := 2) rfl)) wv_int) (z2.trans s1) fun H3 s3 => we_var 0 rfl (Wv.int (F := G) wv_int ((s0.trans s1).trans s3) fun H4 s4 => ?_)))
    have s04 := (s1.trans s3).trans s4
    refine ⟨l, _, 2, 2, rfl, rfl, s04 _ _ el, rfl, ?_⟩
    have g5 : Gm (fun x => x = l) G H G (upd H4 l (.lst [.int x, .int sd, .int (n + 1)])) := gm s04
    show Wb _ _ _ _ (upd H4 l (.lst [.int x, .int sd, .int (n + 1)]))
    have e5 : (upd H4 l (.lst [.int x, .int sd, .int (n + 1)])) l = some (.lst [.int x, .int sd, .int (n + 1)]) := upd_same
    generalize upd H4 l (.lst [.int x, .int sd, .int (n + 1)]) = H5 at g5 e5
    obtain ⟨y1, y2⟩ := frz g5.fh fl e5
    have dg : Dq K (upd G l (.lst [.int x, .int sd, .int (n + 1)])) (.ref l) (.list [.int x, .int sd, .int (n + 1)]) := .lst upd_same (.cons (.int _) (.cons (.int _) (.cons (.int _) .nil)))
    generalize upd G l (.lst [.int x, .int sd, .int (n + 1)]) = G5 at dg y1 y2
    refine wb_cons (w1_set 3 sc_law_take.nd (Wv.int (F := G5) (wv_mod (wv_intI (wv_pow (wv_add (wv_ixL (wv_var 0 rfl dg) wv_int (atI_nat (j := 1) rfl)) (wv_mul wv_int (wv_ixL (wv_var 0 rfl dg) wv_int (atI_nat (j := 2) rfl)) (.inl ⟨by decide, by decide⟩))) wv_int ⟨by decide, by decide, by omega⟩) T.int) wv_int (by decide)) y2 fun H6 s6 => ?_))
    refine wb_cons (w1_set 4 sc_law_take.nd (Wv.int (F := G5) (wv_add (wv_mod (wv_intI (wv_var 3 rfl (.int _)) T.int) wv_int (by decide)) wv_int) (y2.trans s6) fun H7 s7 => ?_))
    have s57 := s6.trans s7
    generalize ho : ((sd + 53759 * (n + 1)) ^ (3 : Int).toNat % 2147483549) = once
    have o1 : 0 ≤ once := by rw [← ho]; exact Int.emod_nonneg _ (by decide)
    have o2 : once < 2147483549 := by rw [← ho]; exact Int.emod_lt_of_pos _ (by decide)
    refine wb_one (w1_ret (Wv.int (F := G5) (wv_mod (wv_intI (wv_div (wv_mod (wv_intI (wv_add (wv_mul (wv_var 3 rfl (.int once)) (wv_var 4 rfl (.int _)) (.inl ⟨by omega, by omega⟩)) (wv_mul (wv_ixL (wv_var 0 rfl dg) wv_int (atI_nat (j := 2) rfl)) wv_int (.inr ⟨by decide, by decide⟩))) T.int) wv_int (by decide)) wv_int ⟨by decide, by decide⟩) T.int) (wv_var 1 rfl (.int (b : Nat))) bp) (y2.trans s57) fun H8 s8 => ?_))
    have s58 := s57.trans s8
    refine fin _ _ (Int.emod_nonneg _ (by omega)) (Int.emod_lt_of_pos _ bp) (g5.trans (⟨Same.refl _, g5.fh.trans s58, s58, fun _ e _ => e⟩ : Gr G H5 G H8).gm) ⟨_, _, _, s58 _ _ e5, x0, sd0, sd1, by omega, by omega⟩
end
end K29
set_option Elab.async false
set_option linter.all false
set_option maxRecDepth 100000
set_option maxHeartbeats 4000000
namespace K29
open PySem PySem.Spec PyProof.Rows L2 LamX
theorem Bx.keep {l : Addr} {N : Nat} {H H' : Hp} (h : Bx l N H) (k : ∀ o, H l = some o → H' l = some o) : Bx l N H' := by
  obtain ⟨a, s, n, e, r⟩ := h
  exact ⟨a, s, n, k _ e, r⟩
theorem Bx.le {l : Addr} {N M : Nat} {H : Hp} (h : Bx l N H) (k : N ≤ M) : Bx l M H := by
  obtain ⟨a, s, n, e, h1, h2, h3, h4, h5⟩ := h
  exact ⟨a, s, n, e, h1, h2, h3, h4, by omega⟩
theorem Bx.there {l : Addr} {N : Nat} {H : Hp} (h : Bx l N H) : ∃ o, H l = some o := by
  obtain ⟨a, s, n, e, r⟩ := h
  exact ⟨_, e⟩
theorem Bx.gr {l : Addr} {N : Nat} {F H F' H' : Hp} (h : Bx l N H) (g : Gr F H F' H') : Bx l N H' := h.keep fun o e => g.hh _ _ e
section
variable {P : Program} {w : World} {K : PySem.W.Frag} {mg : Str → Option Value} {base : Heap} {f : Addr} {fd : FuncData}
abbrev n_law_of : List Str := ["_law_box_here", "_law_some"]
theorem sc_law_of : FnScope n_law_of ["_law_box_here", "_law_some"] (C8.fnScope s_law_of) := C8.fnScope_by (by decide +kernel)
def spOf (K : PySem.W.Frag) : Sp := fun vs H Q _ => ∃ (F : Hp) (l : Addr) (N : Nat) (v2 : V) (ds : List PyData), vs = [.ref l, v2] ∧ Same F H ∧ F l = none ∧ Bx l N H ∧ N ≤ 1000 ∧ Dq K F v2 (.list ds) ∧ 1 ≤ ds.length ∧ ds.length ≤ 100 ∧ ∀ v d H', d ∈ ds → Dq K F v d → Gm (fun x => x = l) F H F H' → Bx l (N + 1) H' → Q v H'
theorem c_of (T : Txt K mg) (ct : C8.Cal P w K mg base 1 "_law_take" (spTake K) []) (F : C8.Def K mg "_law_of" s_law_of f fd) (b : Binds K fd ["_law_box_here", "_law_some"] []) : C8.Cal P w K mg base 2 "_law_of" (spOf K) [] := by
  refine calW F b .nil sc_law_of (fun vs H Q E ⟨G, _, _, _, _, e, _⟩ => by rw [e]; rfl) fun cdv A outer s H vs Q E hr ⟨G, l, N, v2, ds, e, s0, fl, bx, hN, dv, h1, h2, q⟩ => ?_
  subst e
  obtain ⟨p, xs, rfl, ep, dx⟩ := dv.lst_inv
  have dv : Dq K G (.ref p) (.list ds) := .lst ep dx
  refine wb_one (w1_ret (we_ix ix_list (we_var 1 rfl (we_call ct hr (wa_cons (we_var 0 rfl (wa_cons (Wv.int (F := G) (wv_callB call_len_seq cd_lenL (wv_var 1 rfl dv) T.len) s0 fun H1 s1 => wa_nil ?_))))))))
  refine ⟨G, l, N, ds.length, rfl, s0.trans s1, fl, bx.keep fun o e => s1 _ _ e, hN, h1, h2, fun r H2 hr g2 b2 => ?_⟩
  obtain ⟨z, e1, e2⟩ := dx.atI (i := (r : Int)) (d := ds[r]) (atI_nat (List.getElem?_eq_getElem hr))
  exact ⟨p, xs, (r : Int), z, rfl, rfl, SqL.of (g2.fh _ _ ep), e1, q z _ H2 (List.getElem_mem hr) e2 ((⟨Same.refl _, s0.trans s1, s1, fun _ e _ => e⟩ : Gr G H G H1).gm.trans g2) b2⟩
abbrev n_law_event : List Str := ["_law_box_here", "_law_crowd", "_law_counts", "_law_most", "_law_word", "_law_p", "_law_q", "_law_k"]
theorem sc_law_event : FnScope n_law_event ["_law_box_here", "_law_crowd", "_law_counts", "_law_most"] (C8.fnScope s_law_event) := C8.fnScope_by (by decide +kernel)
def optEv : Option Ev → PyData
  | none => .none
  | some e => evD e
/-- an event of c people -/
def evIn (c : Nat) : Ev → Prop
  | .look p => 0 ≤ p ∧ p < c
  | .add p => 0 ≤ p ∧ p < c
  | .meet p q => 0 ≤ p ∧ p < c ∧ 0 ≤ q ∧ q < c ∧ p ≠ q
  | .tell p q => 0 ≤ p ∧ p < c ∧ 0 ≤ q ∧ q < c ∧ p ≠ q
def evStep (c a b : Nat) (o : Option Ev) (a' b' : Nat) : Prop := match o with
  | none => a' = a ∧ b' = b
  | some (.look p) => evIn c (.look p) ∧ a < 5 ∧ a' = a + 1 ∧ b' = b
  | some (.add p) => evIn c (.add p) ∧ a' = a ∧ b' = b
  | some (.meet p q) => evIn c (.meet p q) ∧ b < 4 ∧ a' = a ∧ b' = b + 1
  | some (.tell p q) => evIn c (.tell p q) ∧ b < 4 ∧ a' = a ∧ b' = b + 1
def M2 (l lc : Addr) : Addr → Prop := fun x => x = l ∨ x = lc
def spEvent (K : PySem.W.Frag) : Sp := fun vs H Q _ => ∃ (F : Hp) (l lc : Addr) (N c a b : Nat), vs = [.ref l, .int c, .ref lc, .int 4] ∧ Same F H ∧ F l = none ∧ F lc = none ∧ l ≠ lc ∧ Bx l N H ∧ N ≤ 900 ∧ 3 ≤ c ∧ c ≤ 4 ∧ H lc = some (.lst [.int a, .int b]) ∧
  ∀ v o F' H' (a' b' : Nat), Gm (M2 l lc) F H F' H' → Bx l (N + 3) H' → H' lc = some (.lst [.int a', .int b']) → Dq K F' v (optEv o) → evStep c a b o a' b' → Q v H'
def wordsD : List PyData := [.str "look", .str "look", .str "add", .str "add", .str "meet", .str "meet", .str "meet", .str "tell"]
theorem words_mem {d : PyData} (h : d ∈ wordsD) : ∃ z : Str, d = .str z ∧ (z = "look" ∨ z = "add" ∨ z = "meet" ∨ z = "tell") := by
  unfold wordsD at h
  simp only [List.mem_cons, List.not_mem_nil, or_false] at h
  rcases h with rfl | rfl | rfl | rfl | rfl | rfl | rfl | rfl
  all_goals first | exact ⟨_, rfl, .inl rfl⟩ | exact ⟨_, rfl, .inr (.inl rfl)⟩ | exact ⟨_, rfl, .inr (.inr (.inl rfl))⟩ | exact ⟨_, rfl, .inr (.inr (.inr rfl))⟩
theorem c_event (T : Txt K mg) (ct : C8.Cal P w K mg base 1 "_law_take" (spTake K) []) (co : C8.Cal P w K mg base 2 "_law_of" (spOf K) []) (F : C8.Def K mg "_law_event" s_law_event f fd) (b : Binds K fd ["_law_box_here", "_law_crowd", "_law_counts", "_law_most"] []) : C8.Cal P w K mg base 3 "_law_event" (spEvent K) [] := by
  refine calW F b .nil sc_law_event (fun vs H Q E ⟨G, _, _, _, _, _, _, e, _⟩ => by rw [e]; rfl) fun cdv A outer s H vs Q E hr ⟨G, l, lc, N, c, a, b, e, s0, fl, fc, nlc, bx, hN, c3, c4, ec, q⟩ => ?_
  subst e
  have l1 : ∀ {F1 H1 F2 H2 : Hp}, Gm (fun x => x = l) F1 H1 F2 H2 → H1 lc = some (.lst [.int a, .int b]) → H2 lc = some (.lst [.int a, .int b]) := fun g e => g.hh _ _ (fun z => nlc z.symm) e
  refine wb_cons (w1_par 4 5 sc_law_event.nd (wa_cons (we_call co hr (wa_cons (we_var 0 rfl (wa_cons (Wv.go (F := G) (d := .list wordsD) (wv_lst (wvs_cons wv_str (wvs_cons wv_str (wvs_cons wv_str (wvs_cons wv_str (wvs_cons wv_str (wvs_cons wv_str (wvs_cons wv_str (wvs_cons wv_str wvs_nil))))))))) s0 fun vw F1 H1 g1 d1 => wa_nil ?_)))))))
  refine ⟨F1, l, N, vw, wordsD, rfl, g1.fh, g1.noF fl bx.there.choose_spec, bx.gr g1, by omega, d1, by decide, by decide, fun v4 dw H2 hw dvw g2 b2 => ?_⟩
  obtain ⟨z, rfl, hz⟩ := words_mem hw
  rw [dvw.str_inv]
  have fl1 : F1 l = none := g1.noF fl bx.there.choose_spec
  have fc1 : F1 lc = none := g1.noF fc ec
  have e2 := l1 g2 (g1.hh _ _ ec)
  refine wa_cons (we_call ct hr (wa_cons (we_var 0 rfl (wa_cons (we_var 1 rfl (wa_nil ⟨F1, l, N + 1, c, rfl, g2.fh, fl1, b2, by omega, by omega, by omega, fun p H3 hp g3 b3 => wa_nil ⟨_, _, rfl, ?_⟩⟩))))))
  have e3 := l1 g3 e2
  refine wb_cons (w1_set 6 sc_law_event.nd (we_op op_mod (we_callTy call_int1 T.int (wa_cons (we_op op_add (Wv.int (F := F1) (wv_add (wv_var 5 rfl (.int (p : Nat))) wv_int) g3.fh fun H4 s4 => we_call ct hr (wa_cons (we_var 0 rfl (wa_cons (Wv.int (F := F1) (wv_sub (wv_var 1 rfl (.int (c : Nat))) wv_int) (g3.fh.trans s4) fun H5 s5 => wa_nil ?_))))) )))))
  refine ⟨F1, l, N + 2, c - 1, by rw [show ((c - 1 : Nat) : Int) = (c : Int) - 1 by omega]; rfl, (g3.fh.trans s4).trans s5, fl1, b3.keep fun o e => s5 _ _ (s4 _ _ e), by omega, by omega, by omega, fun r H6 hr6 g6 b6 => ⟨_, _, rfl, rfl, wa_nil (.inl ⟨_, rfl, Wv.int (F := F1) (wv_var 1 rfl (.int (c : Nat))) g6.fh fun H7 s7 => ⟨_, _, rfl, rfl, show (0 : Int) < (c : Int) by omega, ?_⟩⟩)⟩⟩
  have e7 : H7 lc = some (.lst [.int a, .int b]) := s7 _ _ (l1 g6 (s5 _ _ (s4 _ _ e3)))
  have bx7 : Bx l (N + 3) H7 := b6.keep fun o e => s7 _ _ e
  have g7 : Gm (fun x => x = l) G H F1 H7 := by
    refine g1.gm.trans (g2.trans (g3.trans ?_))
    have ga : Gm (fun x => x = l) F1 H3 F1 H5 := (⟨Same.refl _, (g3.fh.trans s4).trans s5, s4.trans s5, fun _ e _ => e⟩ : Gr F1 H3 F1 H5).gm
    exact ga.trans (g6.trans (⟨Same.refl _, g6.fh.trans s7, s7, fun _ e _ => e⟩ : Gr F1 H6 F1 H7).gm)
  clear g2 g3 g6 b2 b3 b6 e2 e3
  dsimp only
  generalize hq : ((p : Int) + 1 + (r : Int)) % (c : Int) = qq
  have q0 : 0 ≤ qq := by rw [← hq]; exact Int.emod_nonneg _ (by omega)
  have q1 : qq < c := by rw [← hq]; exact Int.emod_lt_of_pos _ (by omega)
  have qn : (p : Int) ≠ qq := by
    intro z
    rw [← hq] at z
    by_cases y : p + 1 + r < c
    · rw [Int.emod_eq_of_lt (by omega) (by omega)] at z
      omega
    · rw [show (p : Int) + 1 + (r : Int) = (p + 1 + r - c : Int) + c * 1 by omega, Int.add_mul_emod_self_left, Int.emod_eq_of_lt (by omega) (by omega)] at z
      omega
  have m12 : ∀ x, x = l → M2 l lc x := fun x => .inl
  refine wb_cons (w1_if (Wq.go (F := F1) (wq_eqS (wv_var 4 rfl (.str z)) wv_str) g7.fh fun H8 s8 => ?_))
  have g8 : Gm (fun x => x = l) G H F1 H8 := g7.trans (⟨Same.refl _, g7.fh.trans s8, s8, fun _ e _ => e⟩ : Gr F1 H7 F1 H8).gm
  have e8 := s8 _ _ e7
  have bx8 : Bx l (N + 3) H8 := bx7.keep fun o e => s8 _ _ e
  by_cases za : z = "add"
  · rw [decide_eq_true (by rw [za])]
    refine iteT (wb_one (w1_ret (Wv.go (F := F1) (wv_tup (wvs_cons (wv_var 4 rfl (.str z)) (wvs_cons (wv_var 5 rfl (.int (p : Nat))) wvs_nil))) g8.fh fun v F9 H9 g9 d9 => ?_)))
    rw [za] at d9
    exact q v (some (.add p)) F9 H9 a b ((g8.trans g9.gm).imp m12) (bx8.gr g9) (g9.hh _ _ e8) d9 ⟨⟨by omega, by omega⟩, rfl, rfl⟩
  rw [decide_eq_false za]
  refine iteF (wb_nil ?_)
  generalize hk : (if (!decide (z = ("look" : Str))) = true then (1 : Int) else 0) = k at *
  refine wb_cons (w1_set 7 sc_law_event.nd (Wv.int (F := F1) (i := k) (Wv.to (wv_intB (wv_neS (wv_var 4 rfl (.str z)) wv_str) T.int) (by rw [← hk])) g8.fh fun H9 s9 => ?_))
  have g9 : Gm (fun x => x = l) G H F1 H9 := g8.trans (⟨Same.refl _, g8.fh.trans s9, s9, fun _ e _ => e⟩ : Gr F1 H8 F1 H9).gm
  have e9 := s9 _ _ e8
  have bx9 : Bx l (N + 3) H9 := bx8.keep fun o e => s9 _ _ e
  clear g7 g8 e7 e8 bx7 bx8
  obtain ⟨y1, y2⟩ := frz g9.fh fc1 e9
  have dc : Dq K (upd F1 lc (.lst [.int a, .int b])) (.ref lc) (.list [.int a, .int b]) := .lst upd_same (.cons (.int _) (.cons (.int _) .nil))
  generalize upd F1 lc (.lst [.int a, .int b]) = F9 at dc y1 y2
  have sub : ∀ {H1 : Hp}, Same H9 H1 → Gm (M2 l lc) G H F1 H1 := fun {H1} s => (g9.trans (⟨Same.refl _, g9.fh.trans s, s, fun _ e _ => e⟩ : Gr F1 H9 F1 H1).gm).imp m12
  have put : ∀ {H1 : Hp} {o : HO}, Same H9 H1 → Gm (M2 l lc) G H F1 (upd H1 lc o) ∧ Bx l (N + 3) (upd H1 lc o) := fun {H1 o} s => ⟨(sub s).mut (.inl (.inr rfl)) fc1, bx9.keep fun o e => by
    rw [upd_ne nlc]
    exact s _ _ e⟩
  by_cases zl : z = "look"
  · have k0 : k = 0 := by rw [← hk, decide_eq_true zl]; rfl
    rw [k0]
    refine wb_cons (w1_if (Wq.go (F := F9) (wq_ge (wv_ixL (wv_var 2 rfl dc) (wv_var 7 rfl (.int 0)) (atI_nat (j := 0) rfl)) (wv_ixL (wv_lst (wvs_cons wv_int (wvs_cons (wv_var 3 rfl (.int 4)) wvs_nil))) (wv_var 7 rfl (.int 0)) (atI_nat (j := 0) rfl))) y2 fun Ha sa => ?_))
    by_cases ha : 5 ≤ a
    · rw [decide_eq_true (by omega)]
      exact iteT (wb_one (w1_ret (Wv.go (F := F1) wv_non (g9.fh.trans sa) fun v Fb Hb gb db => q v none Fb Hb a b ((sub sa).trans gb.gm) ((bx9.keep fun o e => sa _ _ e).gr gb) (gb.hh _ _ (sa _ _ e9)) db ⟨rfl, rfl⟩)))
    · rw [decide_eq_false (by omega)]
      refine iteF (wb_nil (wb_cons (w1_lput (Wv.int (F := F9) (wv_add (wv_ixL (wv_var 2 rfl dc) (wv_var 7 rfl (.int 0)) (atI_nat (j := 0) rfl)) wv_int) (y2.trans sa) fun Hb sb => we_var 2 rfl (we_var 7 rfl ?_)))))
      have sab := sa.trans sb
      obtain ⟨gp, bp⟩ := put (o := .lst [.int (a + 1), .int b]) sab
      refine ⟨lc, _, 0, 0, rfl, rfl, sab _ _ e9, rfl, wb_one (w1_ret (we_if (Wq.go (F := F1) (wq_eqI (wv_var 7 rfl (.int 0)) wv_int) gp.fh fun Hc sc => iteT (Wv.go (F := F1) (wv_tup (wvs_cons (wv_var 4 rfl (.str z)) (wvs_cons (wv_var 5 rfl (.int (p : Nat))) wvs_nil))) (gp.fh.trans sc) fun v Fd Hd gd dd => ?_))))⟩
      rw [zl] at dd
      have gc := gp.trans (⟨Same.refl _, gp.fh.trans sc, sc, fun _ e _ => e⟩ : Gr F1 _ F1 Hc).gm
      exact q v (some (.look p)) Fd Hd (a + 1) b (gc.trans gd.gm) ((bp.keep fun o e => sc _ _ e).gr gd) (gd.hh _ _ (sc _ _ upd_same)) dd ⟨⟨by omega, by omega⟩, by omega, rfl, rfl⟩
  · have k1 : k = 1 := by rw [← hk, decide_eq_false zl]; rfl
    rw [k1]
    refine wb_cons (w1_if (Wq.go (F := F9) (wq_ge (wv_ixL (wv_var 2 rfl dc) (wv_var 7 rfl (.int 1)) (atI_nat (j := 1) rfl)) (wv_ixL (wv_lst (wvs_cons wv_int (wvs_cons (wv_var 3 rfl (.int 4)) wvs_nil))) (wv_var 7 rfl (.int 1)) (atI_nat (j := 1) rfl))) y2 fun Ha sa => ?_))
    by_cases ha : 4 ≤ b
    · rw [decide_eq_true (by omega)]
      exact iteT (wb_one (w1_ret (Wv.go (F := F1) wv_non (g9.fh.trans sa) fun v Fb Hb gb db => q v none Fb Hb a b ((sub sa).trans gb.gm) ((bx9.keep fun o e => sa _ _ e).gr gb) (gb.hh _ _ (sa _ _ e9)) db ⟨rfl, rfl⟩)))
    · rw [decide_eq_false (by omega)]
      refine iteF (wb_nil (wb_cons (w1_lput (Wv.int (F := F9) (wv_add (wv_ixL (wv_var 2 rfl dc) (wv_var 7 rfl (.int 1)) (atI_nat (j := 1) rfl)) wv_int) (y2.trans sa) fun Hb sb => we_var 2 rfl (we_var 7 rfl ?_)))))
      have sab := sa.trans sb
      obtain ⟨gp, bp⟩ := put (o := .lst [.int a, .int (b + 1)]) sab
      refine ⟨lc, _, 1, 1, rfl, rfl, sab _ _ e9, rfl, wb_one (w1_ret (we_if (Wq.go (F := F1) (wq_eqI (wv_var 7 rfl (.int 1)) wv_int) gp.fh fun Hc sc => iteF (Wv.go (F := F1) (wv_tup (wvs_cons (wv_var 4 rfl (.str z)) (wvs_cons (wv_var 5 rfl (.int (p : Nat))) (wvs_cons (wv_var 6 rfl (.int qq)) wvs_nil)))) (gp.fh.trans sc) fun v Fd Hd gd dd => ?_))))⟩
      have gc := gp.trans (⟨Same.refl _, gp.fh.trans sc, sc, fun _ e _ => e⟩ : Gr F1 _ F1 Hc).gm
      have qf := fun o (st : evStep c a b o a (b + 1)) (dd : Dq K Fd v (optEv o)) => q v o Fd Hd a (b + 1) (gc.trans gd.gm) ((bp.keep fun o e => sc _ _ e).gr gd) (gd.hh _ _ (sc _ _ upd_same)) dd st
      rcases hz with h | h | h | h
      · exact absurd h zl
      · exact absurd h za
      · rw [h] at dd
        exact qf (some (.meet p qq)) ⟨⟨by omega, by omega, q0, q1, qn⟩, by omega, rfl, rfl⟩ dd
      · rw [h] at dd
        exact qf (some (.tell p qq)) ⟨⟨by omega, by omega, q0, q1, qn⟩, by omega, rfl, rfl⟩ dd
end
end K29
set_option Elab.async false
set_option linter.all false
set_option maxRecDepth 100000
set_option maxHeartbeats 4000000
namespace K29
open PySem PySem.Spec PyProof.Rows L2 LamX
def Ev.isL : Ev → Bool
  | .look _ => true
  | _ => false
/-- so many looks, so many meets and tells -/
structure EvsOk (c : Nat) (evs : List Ev) (a b : Nat) : Prop where
  ok : ∀ e ∈ evs, evIn c e
  la : evs.countP Ev.isL = a
  lb : evs.countP Ev.paired = b
theorem EvsOk.nil {c : Nat} : EvsOk c [] 0 0 := ⟨fun _ h => (nomatch h), rfl, rfl⟩
theorem EvsOk.app {c a b a' b' : Nat} {l m : List Ev} (h : EvsOk c l a b) (g : EvsOk c m a' b') : EvsOk c (l ++ m) (a + a') (b + b') := ⟨fun e he => (List.mem_append.mp he).elim (h.ok e) (g.ok e), by rw [List.countP_append, h.la, g.la], by rw [List.countP_append, h.lb, g.lb]⟩
theorem EvsOk.step {c a b a' b' : Nat} {l : List Ev} {o : Option Ev} (h : EvsOk c l a b) (st : evStep c (a + 2) b o (a' + 2) b') : EvsOk c (l ++ o.toList) a' b' := by
  cases o with
  | none =>
    obtain ⟨h1, h2⟩ := st
    rw [show a' = a by omega, h2, show l ++ (none : Option Ev).toList = l from List.append_nil l]
    exact h
  | some e =>
    have one : ∀ x y, EvsOk c [e] x y → a' = a + x → b' = b + y → EvsOk c (l ++ (some e).toList) a' b' := fun x y g e1 e2 => by
      rw [e1, e2]
      exact h.app g
    cases e with
    | look p => exact one 1 0 ⟨fun e he => by rw [List.mem_singleton.mp he]; exact st.1, rfl, rfl⟩ (by have := st.2.2.1; omega) st.2.2.2
    | add p => exact one 0 0 ⟨fun e he => by rw [List.mem_singleton.mp he]; exact st.1, rfl, rfl⟩ (by have := st.2.1; omega) st.2.2
    | meet p q => exact one 0 1 ⟨fun e he => by rw [List.mem_singleton.mp he]; exact st.1, rfl, rfl⟩ (by have := st.2.2.1; omega) st.2.2.2
    | tell p q => exact one 0 1 ⟨fun e he => by rw [List.mem_singleton.mp he]; exact st.1, rfl, rfl⟩ (by have := st.2.2.1; omega) st.2.2.2
theorem EvsOk.ins {c a b : Nat} {l : List Ev} {p : Int} (h : EvsOk c l a b) (k : Nat) (hp : 0 ≤ p ∧ p < c) : EvsOk c (l.take k ++ [Ev.look p] ++ l.drop k) (a + 1) b := by
  have e : (l.take k ++ l.drop k) = l := List.take_append_drop k l
  refine ⟨fun e' he => ?_, ?_, ?_⟩
  · rcases List.mem_append.mp he with he | he
    · rcases List.mem_append.mp he with he | he
      · exact h.ok _ (List.mem_of_mem_take he)
      · rw [List.mem_singleton.mp he]
        exact hp
    · exact h.ok _ (List.mem_of_mem_drop he)
  · have := h.la
    rw [← e, List.countP_append] at this
    rw [List.countP_append, List.countP_append]
    have z : [Ev.look p].countP Ev.isL = 1 := rfl
    omega
  · have := h.lb
    rw [← e, List.countP_append] at this
    rw [List.countP_append, List.countP_append]
    have z : [Ev.look p].countP Ev.paired = 0 := rfl
    omega
theorem ins_len {l : List Ev} {e : Ev} {k : Nat} : (l.take k ++ [e] ++ l.drop k).length = l.length + 1 := by
  have e : (l.take k ++ l.drop k).length = l.length := by rw [List.take_append_drop]
  rw [List.length_append] at e
  rw [List.length_append, List.length_append]
  show _ + 1 + _ = _
  omega
theorem ins_mem {l : List Ev} {e x : Ev} {k : Nat} (h : x ∈ l) : x ∈ l.take k ++ [e] ++ l.drop k := by
  rw [← List.take_append_drop k l] at h
  rcases List.mem_append.mp h with h | h
  · exact List.mem_append_left _ (List.mem_append_left _ h)
  · exact List.mem_append_right _ h
theorem ins_self {l : List Ev} {e : Ev} {k : Nat} : e ∈ l.take k ++ [e] ++ l.drop k := List.mem_append_left _ (List.mem_append_right _ (List.mem_singleton.mpr rfl))
/-- a drawn timetable -/
structure TOk (T : Tab) : Prop where
  n : T.n = 3 ∨ T.n = 4
  len : T.evs.length ≤ 14
  ok : ∀ e ∈ T.evs, evIn T.n.toNat e
  la : T.evs.countP Ev.isL ≤ 5
  lb : T.evs.countP Ev.paired ≤ 4
  l0 : Ev.look 0 ∈ T.evs
  l1 : Ev.look 1 ∈ T.evs
section
variable {P : Program} {w : World} {K : PySem.W.Frag} {mg : Str → Option Value} {base : Heap} {f : Addr} {fd : FuncData}
theorem wq_notNone {X : Cx} {a : Expr} {σ : L2.St} {F : Hp} {o : Option Ev} {j : Nat} {p pos : Pos} (h : Wv X a σ F (optEv o)) : Wq X (.Compare a [.IsNot] [.Constant .none j p] pos) σ F o.isSome := fun H s Q q => wt_notNone (h H s _ fun v F1 H1 g d => by
  cases o with
  | none =>
    rw [(show Dq X.K F1 v .none from d).non_inv]
    exact q H1 g.hh
  | some e =>
    obtain ⟨b, xs, rfl, _⟩ := (show Dq X.K F1 v (evD e) from d).tup_inv
    exact q H1 g.hh)
abbrev n_law_table : List Str := ["_law_box_here", "_law_crowd", "_law_size", "_law_most", "_law_found", "_law_counts", "_law_turn", "_law_event_here", "_law_p", "_law_k"]
theorem sc_law_table : FnScope n_law_table ["_law_box_here", "_law_crowd", "_law_size", "_law_most"] (C8.fnScope s_law_table) := C8.fnScope_by (by decide +kernel)
def spTable (K : PySem.W.Frag) : Sp := fun vs H Q _ => ∃ (F : Hp) (l : Addr) (N c sz : Nat), vs = [.ref l, .int c, .int sz, .int 4] ∧ Same F H ∧ F l = none ∧ Bx l N H ∧ N ≤ 500 ∧ 3 ≤ c ∧ c ≤ 4 ∧ sz ≤ 12 ∧
  ∀ v T F' H', Gm (fun x => x = l) F H F' H' → Bx l (N + 50) H' → Dq K F' v (tabD T) → TOk T → Q v H'
theorem c_table (T : Txt K mg) (ct : C8.Cal P w K mg base 1 "_law_take" (spTake K) []) (ce : C8.Cal P w K mg base 3 "_law_event" (spEvent K) []) (F : C8.Def K mg "_law_table" s_law_table f fd) (b : Binds K fd ["_law_box_here", "_law_crowd", "_law_size", "_law_most"] []) : C8.Cal P w K mg base 4 "_law_table" (spTable K) [] := by
  refine calW F b .nil sc_law_table (fun vs H Q E ⟨G, _, _, _, _, e, _⟩ => by rw [e]; rfl) fun cdv A outer s H vs Q E hr ⟨G, l, N, c, sz, e, s0, fl, bx, hN, c3, c4, hsz, q⟩ => ?_
  subst e
  refine wb_cons (w1_par 4 5 sc_law_table.nd (wa_cons (Wv.go (F := G) (wv_lst wvs_nil) s0 fun vf F1 H1 g1 d1 => wa_cons (we_lst (wa_cons (Wv.int (F := F1) wv_int g1.fh fun H2 s2 => wa_cons (Wv.int (F := F1) wv_int (g1.fh.trans s2) fun H3 s3 => wa_nil ⟨Nat.le_of_ble_eq_true rfl, fun lc hlc => wa_nil ⟨_, _, rfl, ?_⟩⟩)))))))
  have s13 := s2.trans s3
  have s03 : Same H H3 := g1.hh.trans s13
  have hlc0 : H lc = none := s03.free hlc
  have g3 : Gr G H F1 H3 := g1.trans (⟨Same.refl _, g1.fh.trans s13, s13, fun _ e _ => e⟩ : Gr F1 H1 F1 H3)
  have bx3 : Bx l N H3 := bx.gr g3
  have nlc : l ≠ lc := fun z => by
    obtain ⟨o, e⟩ := bx3.there
    rw [z, hlc] at e
    cases e
  have fc1 : F1 lc = none := g3.fh.free hlc
  have g4 : Gm (M2 l lc) G H F1 (upd H3 lc (.lst [.int 2, .int 0])) := g3.gm.mut (.inr hlc0) fc1
  have bx4 : Bx l N (upd H3 lc (.lst [.int 2, .int 0])) := bx3.keep fun o e => by
    rw [upd_ne nlc]
    exact e
  have e4 : (upd H3 lc (.lst [.int 2, .int 0])) lc = some (.lst [.int ((0 + 2 : Nat) : Int), .int ((0 : Nat) : Int)]) := upd_same
  generalize upd H3 lc (.lst [.int 2, .int 0]) = H4 at g4 bx4 e4
  refine wb_cons (w1_forD (F := F1) (ds := rangeD 0 sz) (fun F8 n σ' H' => ∃ Fi vf u6 u7 evs a b, Same F8 Fi ∧ Gm (M2 l lc) G H Fi H' ∧ Fi l = none ∧ Fi lc = none ∧ Bx l (N + 3 * n) H' ∧ H' lc = some (.lst [.int ((a + 2 : Nat) : Int), .int ((b : Nat) : Int)]) ∧ Dq K Fi vf (.list (evs.map evD)) ∧ evs.length ≤ n ∧ EvsOk c evs a b ∧ a + 2 ≤ 5 ∧ b ≤ 4 ∧ σ' = [some (.ref l), some (.int c), some (.int sz), some (.int 4), some vf, some (.ref lc), u6, u7, none, none])
    (wsrc_rangeN T.range (wv_var 2 rfl (.int (sz : Nat))) ⟨rfl, by omega⟩) g4.fh ?_ ?_ ?_ ?_)
  · exact fun F8 H8 g8 => ⟨F8, vf, none, none, [], 0, 0, Same.refl _, g4.trans g8.gm, g8.noF (g3.noF fl bx.there.choose_spec) bx4.there.choose_spec, g8.noF fc1 e4, bx4.gr g8, g8.hh _ _ e4, d1.mono g8.ff, Nat.le_refl _, EvsOk.nil, by omega, by omega, rfl⟩
  · exact fun F8 n σ' H' ⟨Fi, _, _, _, _, _, _, s1, g, _⟩ => s1.trans g.fh
  · rintro F8 n dd v σ' H8 H9 ed ⟨Fi, vf, u6, u7, evs, a, b, s1, g, f1, f2, bxn, en, df, ln, ok, ha, hb, rfl⟩ hy
    obtain ⟨F9, g9, dv⟩ := hy Fi s1 g.fh
    obtain ⟨hn, rfl⟩ := rangeD_at ed
    refine wg_name 6 sc_law_table.nd (wb_cons (w1_set 7 sc_law_table.nd (we_call ce hr (wa_cons (we_var 0 rfl (wa_cons (we_var 1 rfl (wa_cons (we_var 5 rfl (wa_cons (we_var 3 rfl (wa_nil ?_))))))))))))
    have f91 := g9.noF f1 bxn.there.choose_spec
    have f92 := g9.noF f2 en
    refine ⟨F9, l, lc, N + 3 * n, c, a + 2, b, rfl, g9.fh, f91, f92, nlc, bxn.gr g9, by omega, c3, c4, g9.hh _ _ en, fun ve o Fa Ha a' b' ga ba ea da st => ?_⟩
    have df9 := (df.mono g9.ff).mono ga.ff
    obtain ⟨a2, rfl⟩ : ∃ a2, a' = a2 + 2 := ⟨a' - 2, by
      rcases o with _ | e
      · have := st.1
        omega
      · cases e
        · have := st.2.2.1
          omega
        · have := st.2.1
          omega
        · have := st.2.2.1
          omega
        · have := st.2.2.1
          omega⟩
    have ok2 := ok.step st
    have hab : a2 + 2 ≤ 5 ∧ b' ≤ 4 := by
      rcases o with _ | e
      · obtain ⟨h1, h2⟩ := st
        omega
      · cases e
        · obtain ⟨_, h0, h1, h2⟩ := st
          omega
        · obtain ⟨_, h1, h2⟩ := st
          omega
        · obtain ⟨_, h0, h1, h2⟩ := st
          omega
        · obtain ⟨_, h0, h1, h2⟩ := st
          omega
    have lo : o.toList.length ≤ 1 := by cases o <;> exact Nat.le_of_ble_eq_true rfl
    refine wb_one (w1_set 4 sc_law_table.nd (Wv.go (F := Fa) (d := .list ((evs ++ o.toList).map evD)) (Wv.to (wv_catL (wv_var 4 rfl df9) (es := o.toList.map evD) (wv_if (t := o.isSome) (wq_notNone (wv_var 7 rfl da)) (fun z => ?_) (fun z => ?_)) (by rw [List.length_map, List.length_map]; omega)) (by rw [List.map_append])) ga.fh fun v4 Fb Hb gb db => ?_))
    · cases o with
      | none => cases z
      | some e => exact wv_lst (wvs_cons (wv_var 7 rfl da) wvs_nil)
    · cases o with
      | none => exact wv_lst wvs_nil
      | some e => cases z
    refine ⟨Fb, v4, _, _, evs ++ o.toList, a2, b', ((s1.trans g9.ff).trans ga.ff).trans gb.ff, ((g.trans g9.gm).trans ga).trans gb.gm, gb.noF (ga.noF f91 (bxn.gr g9).there.choose_spec) ba.there.choose_spec, gb.noF (ga.noF f92 (g9.hh _ _ en)) ea, (ba.gr gb).le (by omega), gb.hh _ _ ea, db, by rw [List.length_append]; omega, ok2, hab.1, hab.2, rfl⟩
  · rintro F8 σ' H8 ⟨Fi, vf, u6, u7, evs, a, b, s1, g, f1, f2, bxn, en, df, ln, ok, ha, hb, rfl⟩
    rw [rangeD_len] at bxn ln
    refine wb_cons (w1_forD (F := Fi) (ds := [.int 0, .int 1]) (fun F9 m σ' H' => ∃ Fj vf u8 u9 evs2, Same F9 Fj ∧ Gm (M2 l lc) G H Fj H' ∧ Fj l = none ∧ Bx l (N + 3 * sz + m) H' ∧ Dq K Fj vf (.list (evs2.map evD)) ∧ evs2.length ≤ sz + m ∧ EvsOk c evs2 (a + m) b ∧ (1 ≤ m → Ev.look 0 ∈ evs2) ∧ (2 ≤ m → Ev.look 1 ∈ evs2) ∧ σ' = [some (.ref l), some (.int c), some (.int sz), some (.int 4), some vf, some (.ref lc), u6, u7, u8, u9])
      (wsrc_tup (wv_tup (wvs_cons wv_int (wvs_cons wv_int wvs_nil)))) g.fh ?_ ?_ ?_ ?_)
    · exact fun F9 H9 g9 => ⟨F9, vf, none, none, evs, Same.refl _, g.trans g9.gm, g9.noF f1 bxn.there.choose_spec, bxn.gr g9, df.mono g9.ff, ln, ok, fun z => absurd z (by decide), fun z => absurd z (by decide), rfl⟩
    · exact fun F9 n σ' H' ⟨Fj, _, _, _, _, s1, g, _⟩ => s1.trans g.fh
    · rintro F9 m dd v σ' Ha Hb ed ⟨Fj, vf, u8, u9, evs2, s1, g, f1, bxm, df, ln2, ok2, h0, h1, rfl⟩ hy
      obtain ⟨Fb, gb, dv⟩ := hy Fj s1 g.fh
      have hm : m < 2 := (List.getElem?_eq_some_iff.mp ed).1
      have edm : dd = .int (m : Nat) := by
        rcases m with _ | _ | m
        · exact (Option.some.inj ed).symm
        · exact (Option.some.inj ed).symm
        · omega
      rw [edm] at dv
      rw [dv.int_inv]
      have dfb := df.mono gb.ff
      obtain ⟨bb, e1, e2, e3⟩ : ∃ bb : Nat, ((List.map evD evs2).length : Int) / (2 - (m : Nat)) + 1 = (bb : Int) ∧ 1 ≤ bb ∧ bb ≤ 100 := by
        rw [List.length_map]
        refine ⟨(((evs2.length : Nat) : Int) / (2 - (m : Nat)) + 1).toNat, ?_, ?_, ?_⟩
        all_goals
          rcases m with _ | _ | m
          · show _
            have : (2 : Int) - ((0 : Nat) : Int) = 2 := rfl
            rw [this]
            omega
          · have : (2 : Int) - ((0 + 1 : Nat) : Int) = 1 := rfl
            rw [this, Int.ediv_one]
            omega
          · omega
      have fb1 := gb.noF f1 bxm.there.choose_spec
      refine wg_name 8 sc_law_table.nd (wb_cons (w1_set 9 sc_law_table.nd (we_call ct hr (wa_cons (we_var 0 rfl (wa_cons (Wv.int (F := Fb) (wv_add (wv_div (wv_callB call_len_seq cd_lenL (wv_var 4 rfl dfb) T.len) (wv_sub wv_int (wv_var 8 rfl (.int (m : Nat)))) ⟨by omega, by omega⟩) wv_int) gb.fh fun Hc sc => wa_nil ?_)))))))
      refine ⟨Fb, l, N + 3 * sz + m, bb, by rw [e1]; rfl, gb.fh.trans sc, fb1, (bxm.gr gb).keep fun o e => sc _ _ e, by omega, e2, e3, fun k Hd hk gd bd => ?_⟩
      refine wb_one (w1_set 4 sc_law_table.nd (Wv.go (F := Fb) (d := .list ((evs2.take k ++ [Ev.look m] ++ evs2.drop k).map evD)) (Wv.to (wv_catL (wv_catL (wv_slL (wv_var 4 rfl dfb) wo_none (wo_some (wv_var 9 rfl (.int (k : Nat))))) (es := [evD (.look m)]) (wv_lst (wvs_cons (wv_tup (wvs_cons wv_str (wvs_cons (wv_var 8 rfl (.int (m : Nat))) wvs_nil))) wvs_nil)) ?_) (wv_slL (wv_var 4 rfl dfb) (wo_some (wv_var 9 rfl (.int (k : Nat)))) wo_none) ?_) ?_) gd.fh fun v4 Fe He ge de => ?_))
      · have := cut_len (evs2.map evD) none (some (k : Int))
        rw [List.length_map] at this
        show _ + 1 ≤ 1000
        omega
      · have h1 := cut_len (evs2.map evD) none (some (k : Int))
        have h2 := cut_len (evs2.map evD) (some (k : Int)) none
        rw [List.length_map] at h1 h2
        rw [List.length_append]
        show _ + 1 + _ ≤ 1000
        omega
      · rw [cut_to, cut_from, List.map_append, List.map_append, List.map_take, List.map_drop]
        rfl
      have gbd : Gm (M2 l lc) G H Fb Hd := (g.trans gb.gm).trans (((⟨Same.refl _, gb.fh.trans sc, sc, fun _ e _ => e⟩ : Gr Fb Hb Fb Hc).gm (M := fun x => x = l)).trans gd |>.imp fun x => .inl)
      refine ⟨Fe, v4, _, _, evs2.take k ++ [Ev.look m] ++ evs2.drop k, (s1.trans gb.ff).trans ge.ff, gbd.trans ge.gm, ge.noF fb1 bd.there.choose_spec, (bd.gr ge).le (by omega), de, by rw [ins_len]; omega, by rw [← Nat.add_assoc]; exact ok2.ins k ⟨by omega, by omega⟩, fun z => ?_, fun z => ?_, rfl⟩
      · by_cases hm0 : m = 0
        · rw [hm0]
          exact ins_self
        · exact ins_mem (h0 (by omega))
      · obtain rfl : m = 1 := by omega
        exact ins_self
    · rintro F9 σ' Ha ⟨Fj, vf, u8, u9, evs2, s1, g, f1, bxm, df, ln2, ok2, h0, h1, rfl⟩
      have ok2 : EvsOk c evs2 (a + 2) b := ok2
      have ln2 : evs2.length ≤ sz + 2 := ln2
      have bxm : Bx l (N + 3 * sz + 2) Ha := bxm
      refine wb_one (w1_ret (Wv.go (F := Fj) (wv_tup (wvs_cons (wv_var 1 rfl (.int (c : Nat))) (wvs_cons (wv_callTy call_tuple_of cd_tupleL (wv_var 4 rfl df) T.tuple) wvs_nil))) g.fh fun v Fb Hb gb db => ?_))
      refine q v ⟨c, evs2⟩ Fb Hb ((g.trans gb.gm).drop fun x h => h.elim .inl fun z => .inr (by rw [z]; exact hlc0)) ((bxm.gr gb).le (by omega)) db ⟨?_, ?_, ?_, ?_, ?_, h0 (by decide), h1 (by decide)⟩
      · show (c : Int) = 3 ∨ (c : Int) = 4
        omega
      · show evs2.length ≤ 14
        omega
      · exact ok2.ok
      · show evs2.countP Ev.isL ≤ 5
        rw [ok2.la]
        exact ha
      · show evs2.countP Ev.paired ≤ 4
        rw [ok2.lb]
        exact hb
end
end K29
set_option Elab.async false
set_option linter.all false
set_option maxRecDepth 100000
set_option maxHeartbeats 4000000
namespace K29
open PySem PySem.Spec PyProof.Rows L2 LamX
/-- all that stands, without what is still written -/
def AF (ms : List Addr) (H : Hp) : Hp := fun a => if a ∈ ms then none else H a
theorem af_same {ms : List Addr} {H : Hp} : Same (AF ms H) H := fun a o e => by
  unfold AF at e
  by_cases h : a ∈ ms
  · rw [if_pos h] at e
    cases e
  · rw [if_neg h] at e
    exact e
theorem af_no {ms : List Addr} {H : Hp} {a : Addr} (h : a ∈ ms) : AF ms H a = none := if_pos h
theorem af_yes {ms : List Addr} {H : Hp} {a : Addr} (h : a ∉ ms) : AF ms H a = H a := if_neg h
theorem af_go {ms : List Addr} {F' H H' : Hp} (g : Gr (AF ms H) H F' H') (hm : ∀ a ∈ ms, H a ≠ none) : Same F' (AF ms H') := fun a o e => by
  by_cases h : a ∈ ms
  · rw [g.fr a (af_no h) (hm a h)] at e
    cases e
  · rw [af_yes h]
    exact g.fh a o e
theorem af_mono {ms : List Addr} {H H' : Hp} (s : Same H H') : Same (AF ms H) (AF ms H') := fun a o e => by
  by_cases h : a ∈ ms
  · rw [af_no h] at e
    cases e
  · rw [af_yes h] at e ⊢
    exact s a o e
theorem af_upd {ms : List Addr} {H : Hp} {x : Addr} {o : HO} (h : x ∈ ms) : AF ms (upd H x o) = AF ms H := by
  funext a
  by_cases q : a ∈ ms
  · rw [af_no q, af_no q]
  · rw [af_yes q, af_yes q, upd_ne (fun z : a = x => q (by rw [z]; exact h))]
theorem af_from {ms : List Addr} {F H : Hp} (s : Same F H) (h : ∀ a ∈ ms, F a = none) : Same F (AF ms H) := fun a o e => by
  by_cases q : a ∈ ms
  · rw [h a q] at e
    cases e
  · rw [af_yes q]
    exact s a o e
theorem Wv.af {X : Cx} {e : Expr} {σ : L2.St} {ms : List Addr} {H : Hp} {d : PyData} {Q : VK} (h : Wv X e σ (AF ms H) d) (hm : ∀ a ∈ ms, H a ≠ none) (q : ∀ v H', Same H H' → Dq X.K (AF ms H') v d → Q v H') : We X e σ H Q := h H af_same Q fun v F' H' g dv => q v H' g.hh (dv.mono (af_go g hm))
theorem same_has {ms : List Addr} {H H' : Hp} (s : Same H H') (hm : ∀ a ∈ ms, H a ≠ none) : ∀ a ∈ ms, H' a ≠ none := fun a h e => hm a h (s.free e)
/-! ### dicts of pairs below n -/
def inN (n : Nat) (p : Int × Int) : Prop := 0 ≤ p.1 ∧ p.1 < n ∧ 0 ≤ p.2 ∧ p.2 < n
theorem inN.sml {n : Nat} {p : Int × Int} (h : inN n p) (hn : n ≤ 5) : sml p := ⟨h.1, by have := h.2.1; omega, h.2.2.1, by have := h.2.2.2; omega⟩
theorem inN.le {n m : Nat} {p : Int × Int} (h : inN n p) (hn : n ≤ m) : inN m p := ⟨h.1, by have := h.2.1; omega, h.2.2.1, by have := h.2.2.2; omega⟩
structure KsN (n : Nat) (kvs : List (List L2.Key × V)) : Prop where
  ks : Ks kvs
  rg : ∀ p, Ks.has kvs p = true → inN n p
theorem KsN.nil {n : Nat} : KsN n [] := ⟨Ks.nil, fun p h => (nomatch h)⟩
theorem KsN.le {n m : Nat} {kvs : List (List L2.Key × V)} (h : KsN n kvs) (hn : n ≤ m) : KsN m kvs := ⟨h.ks, fun p hp => (h.rg p hp).le hn⟩
theorem KsN.put {n : Nat} {kvs : List (List L2.Key × V)} {p : Int × Int} {v : V} (h : KsN n kvs) (hp : inN n p) (hn : n ≤ 5) : KsN n (putK kvs (k2 p) v) := ⟨h.ks.put (hp.sml hn), fun q hq => by
  rw [Ks.has_put, Bool.or_eq_true, decide_eq_true_iff] at hq
  rcases hq with hq | rfl
  · exact h.rg q hq
  · exact hp⟩
theorem KsN.merge {n : Nat} {kvs more : List (List L2.Key × V)} (h : KsN n kvs) (g : KsN n more) : KsN n (mergeT kvs more) := ⟨h.ks.merge g.ks.sm, fun q hq => by
  rw [Ks.has_merge, Bool.or_eq_true] at hq
  exact hq.elim (h.rg q) (g.rg q)⟩
theorem putK_le {kvs : List (List L2.Key × V)} {k : List L2.Key} {v : V} : kvs.length ≤ (putK kvs k v).length := by
  have e := congrArg List.length (keys_putK (kvs := kvs) (k := k) (v := v))
  rw [List.length_map] at e
  rw [e]
  split
  · rw [List.length_map]; exact Nat.le_refl _
  · rw [List.length_append, List.length_map]; omega
theorem mergeT_le : ∀ (more kvs : List (List L2.Key × V)), kvs.length ≤ (mergeT kvs more).length
  | [], _ => Nat.le_refl _
  | p :: r, kvs => Nat.le_trans putK_le (mergeT_le r (putK kvs p.1 p.2))
theorem KsN.ofL {n : Nat} (hn : n ≤ 5) : ∀ {ps : List (Int × Int)} {kvs : List (List L2.Key × V)}, KsN n kvs → (∀ p ∈ ps, inN n p) → KsN n (mergeT kvs (ps.map fun p => (k2 p, V.bl true)))
  | [], _, h, _ => h
  | p :: r, kvs, h, hp => KsN.ofL (ps := r) (kvs := putK kvs (k2 p) (V.bl true)) hn (h.put (hp p (List.mem_cons_self ..)) hn) fun q hq => hp q (List.mem_cons_of_mem _ hq)
/-- ((i, j), True) -/
def pkD (p : Int × Int) : PyData := .tuple [prD p, .bool true]
theorem pk_refs {K : PySem.W.Frag} {F H : Hp} (s : Same F H) : ∀ {ps : List (Int × Int)} {xs : List V}, DqAll K F xs (ps.map pkD) → ∃ bs : List Addr, xs = bs.map V.ref ∧ Paired (fun p (kv : List L2.Key × V) => ∃ b, H b = some (.tup (kv.1.map kV)) ∧ SqT K H p [.ref b, kv.2]) bs (ps.map fun p => (k2 p, V.bl true))
  | [], xs, h => ⟨[], by rw [h.nil_inv]; rfl, .nil⟩
  | p :: r, xs, h => by
    obtain ⟨v, vs, rfl, d, h2⟩ := h.cons_inv
    obtain ⟨bs, rfl, pr⟩ := pk_refs s h2
    obtain ⟨a, ys, rfl, e1, e2⟩ := d.tup_inv1
    obtain ⟨v1, r1, rfl, d1, e2⟩ := e2.cons_inv
    obtain ⟨v2, r2, rfl, d2, e2⟩ := e2.cons_inv
    rw [e2.nil_inv, d2.bl_inv] at e1
    obtain ⟨b, zs, rfl, f1, f2⟩ := d1.tup_inv1
    obtain ⟨x1, r1, rfl, y1, f2⟩ := f2.cons_inv
    obtain ⟨x2, r2, rfl, y2, f2⟩ := f2.cons_inv
    rw [f2.nil_inv, y1.int_inv, y2.int_inv] at f1
    exact ⟨a :: bs, rfl, .cons ⟨b, s _ _ f1, .inl (.inl (s _ _ e1))⟩ pr⟩
section
variable {X : Cx} {e : Expr} {σ : L2.St} {H : Hp} {ms : List Addr} {x : Addr} {kv : List (List L2.Key × V)} {n : Nat} {ps : List (Int × Int)} {D : Ends} {j : Nat} {y : Str} {p1 p2 pos pos2 apos cpos : Pos}
theorem we_dictD {Q : VK} (hr : Room j X.A) (hm : X.mg "dict" = none) (hms : ∀ a ∈ ms, H a ≠ none) (he : Wv X e σ (AF ms H) (.list (ps.map pkD))) (q : ∀ d H1, Same H H1 → H1 d = none → Q (.ref d) (upd H1 d (.dT (mergeT [] (ps.map fun p => (k2 p, V.bl true)))))) (hc : X.calm = true := by rfl) (hg : Gl X "dict" := by rfl)
    (hst : starEach [e] X.env = (false, eval e X.env) :: starEach [] X.env := by rfl) (hpl : (backTo pos2 (starEach [] X.env)).any (·.1) = false := by rfl) : We X (.Call (.Name "dict" p2) [e] [] pos2) σ H Q :=
  we_callTy (call_dictT hc (by have := hr.un; omega)) hm (wa_cons (he.af hms fun v H1 s1 dv => wa_nil (by
    obtain ⟨l, xs, rfl, e1, e2⟩ := dv.lst_inv
    obtain ⟨bs, rfl, pr⟩ := pk_refs af_same e2
    exact ⟨l, bs, _, rfl, SqL.of (af_same _ _ e1), pr, fun d hd => q d H1 s1 hd⟩)) hst) hg (he := hst) (hpl := hpl)
/-- y.update(dict(e)) -/
theorem w1_updD (i : Nat) (hσ : σ[i]? = some (some (.ref x))) (hr : Room j X.A) (hm : X.mg "dict" = none) (hn : n ≤ 5) (ex : H x = some (.dT kv)) (ks : KsN n kv) (hms : ∀ a ∈ ms, H a ≠ none) (he : Wv X e σ (AF ms H) (.list (ps.map pkD))) (hps : ∀ p ∈ ps, inN n p)
    (k : ∀ H1 kv', Same H H1 → KsN n kv' → kv.length ≤ kv'.length → D.nx σ (upd H1 x (.dT kv'))) (hN : X.N[i]? = some y := by rfl) (hv : Vis X.env.scope y := by first | exact Or.inl rfl | exact Or.inr (Or.inl rfl) | exact Or.inr (Or.inr rfl)) (hd : (y == ("__debug__" : Str)) = false := by decide) (hcd : (y == ("__classdict__" : Str)) = false := by decide) (hc : X.calm = true := by rfl) (hg : Gl X "dict" := by rfl)
    (hst : starEach [e] X.env = (false, eval e X.env) :: starEach [] X.env := by rfl) (hpl : (backTo pos2 (starEach [] X.env)).any (·.1) = false := by rfl)
    (hbase : attributeBase (.Name y p1) "update" X.env (eval (.Name y p1) X.env) = eval (.Name y p1) X.env := by rfl)
    (hfew : ((backTo cpos (starEach (.Call (.Name "dict" p2) [e] [] pos2 :: []) X.env)).all (fun x => !x.1) && (backToKw cpos (keywordEach [] X.env)).all (fun x => x.1.isSome) && decide ((Expr.Call (.Name "dict" p2) [e] [] pos2 :: []).length + ([] : List Keyword).length + (if ([] : List Keyword).isEmpty then 0 else 1) < 30)) = true := by rfl)
    (hline : (apos.endLine == cpos.line) = true := by rfl) (hs : starEach (.Call (.Name "dict" p2) [e] [] pos2 :: []) X.env = (false, eval (.Call (.Name "dict" p2) [e] [] pos2) X.env) :: starEach [] X.env := by rfl) (hplain : (backTo cpos (starEach [] X.env)).any (·.1) = false := by rfl) (hsw : swapsWith (.Call (.Attribute (.Name y p1) "update" apos) [.Call (.Name "dict" p2) [e] [] pos2] [] cpos) none pos.line X.env = pure false := by rfl) :
    W1 X (.Expr (.Call (.Attribute (.Name y p1) "update" apos) [.Call (.Name "dict" p2) [e] [] pos2] [] cpos) pos) D σ H :=
  w1_update hr (we_var i hσ ⟨x, kv, rfl, ex, we_dictD hr hm hms he (fun d H1 s1 hd => by
    have hx : x ≠ d := fun z => by
      rw [← z, s1 _ _ ex] at hd
      cases hd
    have kn : KsN n (mergeT [] (ps.map fun p => (k2 p, V.bl true))) := KsN.ofL hn KsN.nil hps
    refine ⟨d, kv, _, rfl, ?_, upd_same, hx, .inr kn.ks.hash, Nat.le_trans (Nat.add_le_add ks.ks.few kn.ks.few) (by decide), k _ _ (s1.trans (same_new hd)) (ks.merge kn) (mergeT_le _ _)⟩
    rw [upd_ne hx]
    exact s1 _ _ ex) hc hg hst hpl⟩ hN hv hd hcd) hbase hfew hline hs hplain hsw
end
end K29
set_option Elab.async false
set_option linter.all false
set_option maxRecDepth 100000
set_option maxHeartbeats 4000000
set_option pp.maxSteps 300
namespace K29
open PySem PySem.Spec PyProof.Rows L2 LamX
theorem isL_word (e : Ev) : decide (e.word = ("look" : Str)) = e.isL := by cases e <;> rfl
theorem looks_len (T : Tab) : (looksOf T).length = T.evs.countP Ev.isL := by
  unfold looksOf evsOf
  rw [List.length_map, ← List.countP_eq_length_filter]
  have e : (idxd T.evs).map (fun q => q.2) = T.evs := by
    unfold idxd
    apply List.ext_getElem?
    intro i
    rw [List.getElem?_map, List.getElem?_mapIdx]
    cases T.evs[i]? <;> rfl
  conv => rhs; rw [← e]
  rw [List.countP_map]
  congr 1
  funext q
  exact isL_word q.2
section
variable {X : Cx} {o e f : Expr} {σ : L2.St} {H : Hp} {j : Nat} {apos cpos : Pos} {Q : VK}
theorem we_dget2 (hr : Room j X.A) (h : We X o σ H fun x H1 => ∃ a, x = .ref a ∧ IsD H1 a ∧ We X e σ H1 fun y H2 => We X f σ H2 fun z H3 => ∃ ov, DGet H3 a y ov ∧ Q (ov.getD z) H3)
    (hb : attributeBase o "get" X.env (eval o X.env) = eval o X.env := by rfl) (hfew : ((backTo cpos (starEach [e, f] X.env)).all (fun x => !x.1) && (backToKw cpos (keywordEach [] X.env)).all (fun x => x.1.isSome) && decide (([e, f] : List Expr).length + ([] : List Keyword).length + (if ([] : List Keyword).isEmpty then 0 else 1) < 30)) = true := by rfl)
    (hline : (apos.endLine == cpos.line) = true := by rfl) (ht : backTo cpos (starEach [e, f] X.env) = [(false, eval e X.env), (false, eval f X.env)] := by rfl) : We X (.Call (.Attribute o "get" apos) [e, f] [] cpos) σ H Q :=
  we_of (pe_dget2 (room1 hr) we_pe we_pe we_pe ⟨hb, hfew, hline, ht⟩) (h.mono fun x H1 ⟨a, e1, e2, k⟩ => ⟨a, e1, e2, k⟩)
end
section
variable {P : Program} {w : World} {K : PySem.W.Frag} {mg : Str → Option Value} {base : Heap} {f : Addr} {fd : FuncData}
abbrev n_law_spots : List Str := ["_law_table_here", "_law_k", "_law_event_here"]
theorem sc_law_spots : FnScope n_law_spots ["_law_table_here"] (C8.fnScope s_law_spots) := C8.fnScope_by (by decide +kernel)
theorem c_spots (T : Txt K mg) (F : C8.Def K mg "_law_spots" s_law_spots f fd) (b : Binds K fd ["_law_table_here"] []) : C8.Cal P w K mg base 1 "_law_spots" (spLooks K) [] := by
  refine calP F b sc_law_spots (fun _ => rfl) fun cdv A outer s H vs Q E G a hr s0 hd hp q => ?_
  obtain ⟨n, evs⟩ := a
  obtain ⟨vt, r, rfl, dt, hd⟩ := hd.cons_inv
  rw [hd.nil_inv]
  refine wb_one (w1_ret (we_lc sc_law_spots.nd (blkOk_by (own := [("_law_k", 1), ("_law_event_here", 2)]) (N := n_law_spots) (sc := C8.fnScope s_law_spots) (by decide +kernel)) ?_))
  refine lcv_p (xs := idxd evs) (e1 := fun x => .int x.1) (e2 := fun x => evD x.2) 1 2 (fun x => decide (x.2.word = ("look" : Str))) (fun x => prD (x.1, x.2.p)) ?_ ?_ ?_ ?_ ?_ ?_ _ s0 _ ?_
  · rw [← enumD_map]
    exact wsrc_enumT T.enumerate (wv_ixT (wv_var 0 rfl dt) wv_int (atI_nat (j := 1) rfl))
  · rw [idxd_len]
    exact Nat.le_trans hp (by decide)
  · exact fun _ _ _ _ _ => pg_tup rfl (pgs_cons (pg_name (i := 1) sc_law_spots.nd rfl (Or.inl rfl)) (pgs_cons (pg_name (i := 2) sc_law_spots.nd rfl (Or.inl rfl)) pgs_nil))
  · exact fun _ _ => rfl
  · exact fun x _ F1 v u sF h1 h2 => ts_one fun _ _ _ _ _ => wq_eqS (wv_ixT (wv_var 2 rfl h2) wv_int (ev_at0 x.2)) wv_str
  · exact fun x _ _ F1 v u sF h1 h2 _ _ _ _ _ => wv_tup (wvs_cons (wv_var 1 rfl h1) (wvs_cons (wv_ixT (wv_var 2 rfl h2) wv_int (ev_at1 x.2)) wvs_nil))
  · intro v F' H' g h
    refine q v F' H' g ?_
    unfold looksOf evsOf
    rw [List.map_map]
    exact h
abbrev n_law_had : List Str := ["_law_table_here", "_law_sort_so", "_law_off", "_law_near", "_law_low", "_law_has", "_law_nr", "_law_k", "_law_event_here", "_law_mine", "_law_its", "_law_both", "_law_some", "_law_one_so", "_law_two_so"]
theorem sc_law_had : FnScope n_law_had ["_law_table_here", "_law_sort_so", "_law_off"] (C8.fnScope s_law_had) := C8.fnScope_by (by decide +kernel)
def DD (n : Nat) (x : Addr) (H : Hp) : Prop := ∃ kv, H x = some (.dT kv) ∧ KsN n kv
/-- a list of numbers below n, not too many -/
def LsN (n : Nat) (l : List Int) : Prop := (∀ x ∈ l, 0 ≤ x ∧ x < n) ∧ l.length ≤ n
def HK (K : PySem.W.Frag) (F : Hp) (nr : Nat) (kh : List (L2.Key × V)) : Prop := ∀ p v, valV kh (.inl p) = some v → ∃ l, Dq K F v (.list (l.map .int)) ∧ LsN nr l
theorem HK.nil {F : Hp} {nr : Nat} : HK K F nr [] := fun p v e => nomatch e
theorem LsN.le {n m : Nat} {l : List Int} (h : LsN n l) (hn : n ≤ m) : LsN m l := ⟨fun x hx => ⟨(h.1 x hx).1, by have := (h.1 x hx).2; omega⟩, Nat.le_trans h.2 hn⟩
theorem LsN.snoc {n : Nat} {l : List Int} (h : LsN n l) : LsN (n + 1) (l ++ [(n : Int)]) := ⟨fun x hx => by
  rcases List.mem_append.mp hx with hx | hx
  · have := h.1 x hx
    omega
  · rw [List.mem_singleton.mp hx]
    omega, by rw [List.length_append]; have := h.2; show _ + 1 ≤ _; omega⟩
theorem LsN.nil {n : Nat} : LsN n [] := ⟨fun x h => (nomatch h), Nat.zero_le _⟩
theorem LsN.srt {n : Nat} {l m : List Int} (h : ∀ x ∈ l, 0 ≤ x ∧ x < n) (s : IsSrt l m) : LsN n m := by
  have hm : ∀ x ∈ m, 0 ≤ x ∧ x < (n : Int) := fun x hx => h x ((s.2 x).mp hx)
  refine ⟨hm, ?_⟩
  have nd : m.Nodup := s.1.imp fun {a b} h => by omega
  have z := dup_len m ((List.range n).map fun i : Nat => Int.ofNat i) nd fun x hx => by
    obtain ⟨h1, h2⟩ := hm x hx
    exact List.mem_map.mpr ⟨x.toNat, List.mem_range.mpr (by omega), Int.toNat_of_nonneg h1⟩
  rw [List.length_map, List.length_range] at z
  exact z
theorem LsN.cut {n : Nat} {l : List Int} {lo hi : Option Int} (h : LsN n l) : LsN n (cut l lo hi) := ⟨fun x hx => h.1 x (List.mem_of_mem_drop (List.mem_of_mem_take hx)), Nat.le_trans (cut_len _ _ _) h.2⟩
theorem HK.mono {F F' : Hp} {nr : Nat} {kh : List (L2.Key × V)} (h : HK K F nr kh) (s : Same F F') : HK K F' nr kh := fun p v e => by
  obtain ⟨l, h1, h2⟩ := h p v e
  exact ⟨l, h1.mono s, h2⟩
theorem HK.le {F : Hp} {nr m : Nat} {kh : List (L2.Key × V)} (h : HK K F nr kh) (s : nr ≤ m) : HK K F m kh := fun p v e => by
  obtain ⟨l, h1, h2⟩ := h p v e
  exact ⟨l, h1, h2.le s⟩
theorem HK.put {F : Hp} {nr : Nat} {kh : List (L2.Key × V)} {p : Int} {v : V} {l : List Int} (h : HK K F nr kh) (d : Dq K F v (.list (l.map .int))) (hl : LsN nr l) : HK K F nr (putK kh (.inl p) v) := fun q u e => by
  rw [valV_put] at e
  by_cases z : q = p
  · rw [if_pos (by rw [z])] at e
    cases e
    exact ⟨l, d, hl⟩
  · rw [if_neg (fun y => z (Sum.inl.inj y))] at e
    exact h q u e
/-- the state of _law_had's loop -/
structure Hs (K : PySem.W.Frag) (nL : Nat) (nd ld hd : Addr) (H H' : Hp) (nr m : Nat) : Prop where
  k : Same H H'
  a : DD nL nd H'
  b : DD nL ld H'
  c : ∃ kh, H' hd = some (.dK kh) ∧ HK K (AF [nd, ld, hd] H') nr kh ∧ kh.length ≤ m
theorem Hs.nn {nL : Nat} {nd ld hd : Addr} {H H' : Hp} {nr m : Nat} (h : Hs K nL nd ld hd H H' nr m) : ∀ a ∈ [nd, ld, hd], H' a ≠ none := by
  intro x hx z
  obtain ⟨kv, e1, _⟩ := h.a
  obtain ⟨kl, e2, _⟩ := h.b
  obtain ⟨kh, e3, _⟩ := h.c
  simp only [List.mem_cons, List.not_mem_nil, or_false] at hx
  rcases hx with rfl | rfl | rfl
  · rw [e1] at z; cases z
  · rw [e2] at z; cases z
  · rw [e3] at z; cases z
theorem Hs.sm {nL : Nat} {nd ld hd : Addr} {H H' H2 : Hp} {nr m : Nat} (h : Hs K nL nd ld hd H H' nr m) (s : Same H' H2) : Hs K nL nd ld hd H H2 nr m := by
  obtain ⟨kv, e1, k1⟩ := h.a
  obtain ⟨kl, e2, k2⟩ := h.b
  obtain ⟨kh, e3, k3, k4⟩ := h.c
  exact ⟨h.k.trans s, ⟨kv, s _ _ e1, k1⟩, ⟨kl, s _ _ e2, k2⟩, kh, s _ _ e3, k3.mono (af_mono s), k4⟩
theorem same_mutH {H H' : Hp} {x : Addr} {o : HO} (s : Same H H') (hx : H x = none) : Same H (upd H' x o) := fun a u e => by
  rw [upd_ne (fun z : a = x => by rw [z, hx] at e; cases e)]
  exact s a u e
theorem Hs.updA {nL : Nat} {nd ld hd : Addr} {H H' : Hp} {nr m : Nat} {kv : List (List L2.Key × V)} (h : Hs K nL nd ld hd H H' nr m) (h0 : H nd = none) (n1 : nd ≠ ld) (n2 : nd ≠ hd) (k : KsN nL kv) : Hs K nL nd ld hd H (upd H' nd (.dT kv)) nr m := by
  obtain ⟨kl, e2, k2⟩ := h.b
  obtain ⟨kh, e3, k3, k4⟩ := h.c
  refine ⟨same_mutH h.k h0, ⟨kv, upd_same, k⟩, ⟨kl, by rw [upd_ne n1.symm]; exact e2, k2⟩, kh, by rw [upd_ne n2.symm]; exact e3, ?_, k4⟩
  rw [af_upd (by simp)]
  exact k3
theorem Hs.updB {nL : Nat} {nd ld hd : Addr} {H H' : Hp} {nr m : Nat} {kv : List (List L2.Key × V)} (h : Hs K nL nd ld hd H H' nr m) (h0 : H ld = none) (n1 : nd ≠ ld) (n2 : ld ≠ hd) (k : KsN nL kv) : Hs K nL nd ld hd H (upd H' ld (.dT kv)) nr m := by
  obtain ⟨kl, e2, k2⟩ := h.a
  obtain ⟨kh, e3, k3, k4⟩ := h.c
  refine ⟨same_mutH h.k h0, ⟨kl, by rw [upd_ne n1]; exact e2, k2⟩, ⟨kv, upd_same, k⟩, kh, by rw [upd_ne n2.symm]; exact e3, ?_, k4⟩
  rw [af_upd (by simp)]
  exact k3
theorem Hs.updC {nL : Nat} {nd ld hd : Addr} {H H' : Hp} {nr m nr' m' : Nat} {kh : List (L2.Key × V)} (h : Hs K nL nd ld hd H H' nr m) (h0 : H hd = none) (n1 : nd ≠ hd) (n2 : ld ≠ hd) (k : HK K (AF [nd, ld, hd] H') nr' kh) (l : kh.length ≤ m') : Hs K nL nd ld hd H (upd H' hd (.dK kh)) nr' m' := by
  obtain ⟨kl, e2, k2⟩ := h.a
  obtain ⟨km, e3, k3⟩ := h.b
  refine ⟨same_mutH h.k h0, ⟨kl, by rw [upd_ne n1]; exact e2, k2⟩, ⟨km, by rw [upd_ne n2]; exact e3, k3⟩, kh, upd_same, ?_, l⟩
  rw [af_upd (by simp)]
  exact k
end
end K29
set_option Elab.async false
set_option linter.all false
set_option maxRecDepth 100000
set_option maxHeartbeats 4000000
set_option pp.maxSteps 300
namespace K29
open PySem PySem.Spec PyProof.Rows L2 LamX
theorem ev_atN (e : Ev) : L2.atI (.str e.word :: e.ps.map PyData.int) (-1) = some (.int (e.ps.getLastD 0)) := by cases e <;> rfl
theorem countP_take {α : Type} {p : α → Bool} {l : List α} {n : Nat} {x : α} (h : l[n]? = some x) : (l.take (n + 1)).countP p = (l.take n).countP p + if p x = true then 1 else 0 := by
  rw [List.take_add_one, h, List.countP_append]
  congr 1
  show [x].countP p = _
  rw [List.countP_cons]
  simp
theorem countP_take_le {α : Type} {p : α → Bool} {l : List α} {n : Nat} : (l.take n).countP p ≤ l.countP p := (List.take_sublist n l).countP_le
theorem cut_map {α β : Type} {g : α → β} {l : List α} {lo hi : Option Int} : cut (l.map g) lo hi = (cut l lo hi).map g := by
  unfold cut
  rw [List.length_map, List.map_take, List.map_drop]
section
variable {X : Cx} {o e f : Expr} {σ : L2.St} {H H' : Hp} {j nL nr m : Nat} {nd ld hd : Addr} {p : Int} {apos cpos : Pos} {Q : VK}
theorem we_hasGet (hr : Room j X.A) (ho : Hd X o σ hd) (S : Hs X.K nL nd ld hd H H' nr m) (he : Wv X e σ (AF [nd, ld, hd] H') (.int p)) (hf : Wv X f σ (AF [nd, ld, hd] H') (.list [])) (q : ∀ v L H2, Same H' H2 → Dq X.K (AF [nd, ld, hd] H2) v (.list (L.map .int)) → LsN nr L → Q v H2)
    (hb : attributeBase o "get" X.env (eval o X.env) = eval o X.env := by rfl) (hfew : ((backTo cpos (starEach [e, f] X.env)).all (fun x => !x.1) && (backToKw cpos (keywordEach [] X.env)).all (fun x => x.1.isSome) && decide (([e, f] : List Expr).length + ([] : List Keyword).length + (if ([] : List Keyword).isEmpty then 0 else 1) < 30)) = true := by rfl)
    (hline : (apos.endLine == cpos.line) = true := by rfl) (ht : backTo cpos (starEach [e, f] X.env) = [(false, eval e X.env), (false, eval f X.env)] := by rfl) : We X (.Call (.Attribute o "get" apos) [e, f] [] cpos) σ H' Q := by
  obtain ⟨kh, e5, hk, _⟩ := S.c
  refine we_dget2 hr (ho _ _ ⟨hd, rfl, .inl ⟨kh, .inl e5⟩, he.int af_same fun Ha sa => (hf.mono (af_mono sa)).af (same_has sa S.nn) fun z Hb sb dz => ⟨valV kh (.inl p), DGet.k (k := .inl p) (sb _ _ (sa _ _ e5)), ?_⟩⟩) hb hfew hline ht
  cases hv : valV kh (.inl p) with
  | none => exact q z [] Hb (sa.trans sb) dz LsN.nil
  | some v =>
    obtain ⟨L, d, hL⟩ := hk p v hv
    exact q v L Hb (sa.trans sb) (d.mono (af_mono (sa.trans sb))) hL
end
section
variable {P : Program} {w : World} {K : PySem.W.Frag} {mg : Str → Option Value} {base : Heap} {f : Addr} {fd : FuncData}
def spHad (K : PySem.W.Frag) : Sp := fun vs H Q _ => ∃ (F : Hp) (T : Tab) (kind : Str) (vt vo : V), vs = [vt, .str kind, vo] ∧ Same F H ∧ Dq K F vt (tabD T) ∧ Dq K F vo (.list []) ∧ T.evs.length ≤ 16 ∧ (looksOf T).length ≤ 5 ∧
  ∀ t nd ld H', Same H H' → H nd = none → H ld = none → nd ≠ ld → H' t = some (.tup [.ref nd, .ref ld]) → DD (looksOf T).length nd H' → DD (looksOf T).length ld H' → Q (.ref t) H'
theorem c_had (T : Txt K mg) (F : C8.Def K mg "_law_had" s_law_had f fd) (b : Binds K fd ["_law_table_here", "_law_sort_so", "_law_off"] []) : C8.Cal P w K mg base 1 "_law_had" (spHad K) [] := by
  refine calW F b .nil sc_law_had (fun vs H Q E ⟨G, _, _, _, _, e, _⟩ => by rw [e]; rfl) fun cdv A outer s H vs Q E hr ⟨G, T1, kind, vt, vo, e, s0, dt, dof, l16, l5, q⟩ => ?_
  subst e
  refine wb_cons (w1_asg (we_tup (wa_cons (we_newT fun nd hnd => wa_cons (we_newT fun ld hld => wa_cons (we_newK fun hd hhd => wa_cons (Wv.int (F := fun _ => none) wv_int (fun a o e => nomatch e) fun H4 s4 => wa_nil ⟨Nat.le_of_ble_eq_true rfl, fun tp htp => ?_⟩)))))))
  refine wg_of (pg_tup rfl wgs_pgs rfl rfl) ⟨tp, _, rfl, .inl (.inl upd_same), rfl, wgs_cons (wg_name 3 sc_law_had.nd (wgs_cons (wg_name 4 sc_law_had.nd (wgs_cons (wg_name 5 sc_law_had.nd (wgs_cons (wg_name 6 sc_law_had.nd (wgs_nil ?_))))))))⟩
  have hld0 : H ld = none := (same_new hnd).free hld
  have hhd1 : (upd H nd (.dT [])) hd = none := (same_new hld).free hhd
  have hhd0 : H hd = none := (same_new hnd).free hhd1
  have n1 : nd ≠ ld := fun z => by
    rw [← z, upd_same] at hld
    cases hld
  have n3 : ld ≠ hd := fun z => by
    rw [← z, upd_same] at hhd
    cases hhd
  have n2 : nd ≠ hd := fun z => by
    rw [← z, upd_same] at hhd1
    cases hhd1
  have S0 : Hs K (looksOf T1).length nd ld hd H (upd (upd (upd H nd (.dT [])) ld (.dT [])) hd (.dK [])) 0 0 := by
    refine ⟨((same_new hnd).trans (same_new hld)).trans (same_new hhd), ⟨[], ?_, KsN.nil⟩, ⟨[], ?_, KsN.nil⟩, [], upd_same, HK.nil, Nat.le_refl _⟩
    · rw [upd_ne n2, upd_ne n1, upd_same]
    · rw [upd_ne n3, upd_same]
  have S1 := (S0.sm s4).sm (same_new htp (o := .tup [.ref nd, .ref ld, .ref hd, .int 0]))
  clear S0 s4
  generalize upd H4 tp (.tup [.ref nd, .ref ld, .ref hd, .int 0]) = H5 at S1
  have gA : Same G (AF [nd, ld, hd] H5) := af_from (s0.trans S1.k) fun a ha => by
    simp only [List.mem_cons, List.not_mem_nil, or_false] at ha
    rcases ha with rfl | rfl | rfl
    · exact s0.free hnd
    · exact s0.free hld0
    · exact s0.free hhd0
  have dtA := dt.mono gA
  have dofA := dof.mono gA
  refine wb_cons (w1_forD (F := AF [nd, ld, hd] H5) (ds := enumD (T1.evs.map evD)) (fun F8 n σ' H' => F8 nd = none ∧ F8 ld = none ∧ F8 hd = none ∧ Same F8 H' ∧ Dq K F8 vt (tabD T1) ∧ Dq K F8 vo (.list []) ∧ ∃ u7 u8 u9 u10 u11 u12 u13 u14, Hs K (looksOf T1).length nd ld hd H H' ((T1.evs.take n).countP Ev.isL) (2 * n) ∧
      σ' = [some vt, some (.str kind), some vo, some (.ref nd), some (.ref ld), some (.ref hd), some (.int ((T1.evs.take n).countP Ev.isL : Nat)), u7, u8, u9, u10, u11, u12, u13, u14])
    (wsrc_enumT T.enumerate (wv_ixT (wv_var 0 rfl dtA) wv_int (atI_nat (j := 1) rfl))) af_same ?_ ?_ ?_ ?_)
  · refine fun F8 H8 g8 => ⟨g8.fr _ (af_no (by simp)) (S1.nn _ (by simp)), g8.fr _ (af_no (by simp)) (S1.nn _ (by simp)), g8.fr _ (af_no (by simp)) (S1.nn _ (by simp)), g8.fh, dtA.mono g8.ff, dofA.mono g8.ff, none, none, none, none, none, none, none, none, S1.sm g8.hh, rfl⟩
  · exact fun F8 n σ' H' h => h.2.2.2.1
  · rintro F8 n dd v σ' H8 H9 ed ⟨f1, f2, f3, sF, dt8, do8, u7, u8, u9, u10, u11, u12, u13, u14, S, rfl⟩ hy
    have hms : ∀ a ∈ [nd, ld, hd], F8 a = none := fun a ha => by
      simp only [List.mem_cons, List.not_mem_nil, or_false] at ha
      rcases ha with rfl | rfl | rfl <;> assumption
    obtain ⟨F9, g9, dv⟩ := hy (AF [nd, ld, hd] H8) (af_from sF hms) af_same
    have ns := S.nn
    replace dv := dv.mono (af_go g9 ns)
    replace S := S.sm g9.hh
    have dt9 := (dt8.mono (af_from sF hms)).mono (af_mono g9.hh)
    have do9 := (do8.mono (af_from sF hms)).mono (af_mono g9.hh)
    have sF9 : Same F8 H9 := sF.trans g9.hh
    clear g9 hy sF ns
    rw [enumD_map, List.getElem?_map] at ed
    unfold idxd at ed
    rw [List.getElem?_mapIdx] at ed
    cases ee : T1.evs[n]? with
    | none =>
      rw [ee] at ed
      cases ed
    | some e =>
    rw [ee] at ed
    cases ed
    have hct := countP_take (p := Ev.isL) ee
    have hle : (T1.evs.take (n + 1)).countP Ev.isL ≤ (looksOf T1).length := by rw [looks_len]; exact countP_take_le
    generalize (looksOf T1).length = nL at *
    generalize (T1.evs.take (n + 1)).countP Ev.isL = nr' at *
    generalize (T1.evs.take n).countP Ev.isL = nr at *
    refine wg_pair dv af_same fun vk ve hk he => wgs_cons (wg_name 7 sc_law_had.nd (wgs_cons (wg_name 8 sc_law_had.nd (wgs_nil ?_))))
    rw [hk.int_inv]
    refine wb_cons (w1_par 9 10 sc_law_had.nd (wa_cons (we_hasGet hr (hd_var 5 rfl) S (wv_ixT (wv_var 8 rfl he) wv_int (ev_at1 e)) (wv_lst wvs_nil) fun vm Lm Ha sa dm hLm => wa_cons (we_hasGet hr (hd_var 5 rfl) (S.sm sa) (wv_ixT (wv_var 8 rfl (he.mono (af_mono sa))) (wv_neg wv_int) (ev_atN e)) (wv_lst wvs_nil) fun vi Li Hb sb di hLi => wa_nil ⟨_, _, rfl, ?_⟩))))
    have sab := sa.trans sb
    replace S := S.sm sab
    replace he := he.mono (af_mono sab)
    replace dm := dm.mono (af_mono sb)
    replace dt9 := dt9.mono (af_mono sab)
    replace do9 := do9.mono (af_mono sab)
    have sFb := sF9.trans sab
    refine wb_one (w1_if (Wq.go (F := AF [nd, ld, hd] Hb) (wq_eqS (wv_ixT (wv_var 8 rfl he) wv_int (ev_at0 e)) wv_str) af_same fun Hc sc => ?_))
    replace S := S.sm sc
    replace he := he.mono (af_mono sc)
    replace dm := dm.mono (af_mono sc)
    replace di := di.mono (af_mono sc)
    replace dt9 := dt9.mono (af_mono sc)
    replace do9 := do9.mono (af_mono sc)
    have sFc := sFb.trans sc
    clear sF9 sab sa sb sFb sc dv hk dtA dofA dt dof
    rw [isL_word]
    have fin : ∀ {H' : Hp} {u9 u10 u11 u12 u13 u14 : Option V}, Same F8 H' → Hs K nL nd ld hd H H' nr' (2 * (n + 1)) → F8 nd = none ∧ F8 ld = none ∧ F8 hd = none ∧ Same F8 H' ∧ Dq K F8 vt (tabD T1) ∧ Dq K F8 vo (.list []) ∧ ∃ u7 u8 u9' u10' u11' u12' u13' u14', Hs K nL nd ld hd H H' nr' (2 * (n + 1)) ∧
      [some vt, some (.str kind), some vo, some (.ref nd), some (.ref ld), some (.ref hd), some (.int (nr' : Nat)), some (.int (n : Nat)), some ve, u9, u10, u11, u12, u13, u14] = [some vt, some (.str kind), some vo, some (.ref nd), some (.ref ld), some (.ref hd), some (.int (nr' : Nat)), u7, u8, u9', u10', u11', u12', u13', u14'] := fun s S => ⟨f1, f2, f3, s, dt8, do8, _, _, _, _, _, _, _, _, S, rfl⟩
    have hnin : (!decide ((n : Int) ∈ ([] : List Int))) = true := by simp
    cases hL : e.isL with
    | true =>
      rw [hL] at hct
      have hct : nr' = nr + 1 := hct
      subst hct
      refine iteT (wb_cons (w1_if (Wq.go (F := AF [nd, ld, hd] Hc) (wq_notIn (ns := []) (.inl rfl) (wv_var 7 rfl (.int (n : Nat))) (wv_var 2 rfl do9)) af_same fun Hd sd => ?_)))
      rw [hnin]
      replace S := S.sm sd
      replace he := he.mono (af_mono sd)
      replace dm := dm.mono (af_mono sd)
      have sFd := sFc.trans sd
      obtain ⟨kl, ekl, kln⟩ := S.b
      refine iteT (wb_cons (w1_updD (ms := [nd, ld, hd]) (ps := Lm.map fun x => (x, (nr : Int))) 4 rfl hr T.dict l5 ekl kln S.nn (Wv.to (wv_lc sc_law_had.nd (blkOk_by (own := [("_law_one_so", 13)]) (N := n_law_had) (sc := C8.fnScope s_law_had) (by decide +kernel)) (lcv_n0 (xs := Lm) (enc := .int) 13 (fun x => pkD (x, (nr : Int))) (wsrc_list (wv_var 9 rfl dm)) ?_ (fun _ _ _ _ _ => pg_name (i := 13) sc_law_had.nd rfl (Or.inl rfl)) (fun _ => rfl) (fun x _ F1 v sF h1 _ _ _ _ _ => wv_tup (wvs_cons (wv_tup (wvs_cons (wv_var 13 rfl h1) (wvs_cons (wv_var 6 rfl (.int (nr : Nat))) wvs_nil))) (wvs_cons wv_bl wvs_nil))))) (by rw [List.map_map]; rfl)) ?_ fun He kv' se kn' _ => ?_))
      · have := hLm.2
        omega
      · intro p hp
        obtain ⟨x, hx, rfl⟩ := List.mem_map.mp hp
        have := hLm.1 x hx
        exact ⟨this.1, by show x < (nL : Int); omega, by show (0 : Int) ≤ (nr : Int); omega, by show (nr : Int) < (nL : Int); omega⟩
      replace S := (S.sm se).updB hld0 n1 n3 kn'
      have e2 : Same F8 (upd He ld (.dT kv')) := same_mutH (sFd.trans se) f2
      have af2 : AF [nd, ld, hd] (upd He ld (.dT kv')) = AF [nd, ld, hd] He := af_upd (by simp)
      replace he := he.mono (af_mono se)
      replace dm := dm.mono (af_mono se)
      rw [← af2] at he dm
      generalize upd He ld (.dT kv') = Hf at S e2 he dm
      clear af2
      refine wb_cons (w1_dput hr (Wv.af (ms := [nd, ld, hd]) (d := .list ((Lm ++ [(nr : Int)]).map .int)) (Wv.to (wv_catL (wv_var 9 rfl dm) (es := [.int (nr : Nat)]) (wv_lst (wvs_cons (wv_var 6 rfl (.int (nr : Nat))) wvs_nil)) ?_) (by rw [List.map_append]; rfl)) S.nn fun vn Hg sg dn => we_var 5 rfl (Wv.int (F := AF [nd, ld, hd] Hf) (wv_ixT (wv_var 8 rfl he) wv_int (ev_at1 e)) (af_same.trans sg) fun Hh sh => ?_)))
      · rw [List.length_map]
        have := hLm.2
        show _ + 1 ≤ 1000
        omega
      replace S := (S.sm sg).sm sh
      obtain ⟨kh, e5, hk, hkl⟩ := S.c
      have lt : T1.evs.length ≤ 16 := l16
      have nlt : n < T1.evs.length := (List.getElem?_eq_some_iff.mp ee).1
      refine ⟨hd, _, rfl, DPut.k (k := .inl e.p) e5 (Nat.lt_of_le_of_lt hkl (Nat.lt_of_le_of_lt (show 2 * n ≤ 100 by omega) (by decide))), ?_⟩
      have S2 := S.updC (nr' := nr + 1) (m' := 2 * (n + 1)) hhd0 n2 n3 (HK.put (p := e.p) (hk.le (Nat.le_succ nr)) (dn.mono (af_mono sh)) hLm.snoc) (Nat.le_trans (length_putK kh (Sum.inl e.p) vn) (by omega))
      have e3 := same_mutH (o := .dK (putK kh (.inl e.p) vn)) ((e2.trans sg).trans sh) f3
      exact wb_nil (wb_one (w1_set 6 sc_law_had.nd (Wv.int (F := fun _ => none) (wv_add (wv_var 6 rfl (.int (nr : Nat))) wv_int) (fun a o e => nomatch e) fun Hi si => fin (e3.trans si) (S2.sm si))))
    | false =>
      rw [hL] at hct
      have hct : nr' = nr := hct
      subst hct
      refine iteF (wb_one (w1_if (wt_and2 (Wq.go (F := AF [nd, ld, hd] Hc) (wq_neS (wv_ixT (wv_var 8 rfl he) wv_int (ev_at0 e)) wv_str) af_same fun Hd sd => ?_))))
      replace S := S.sm sd
      replace he := he.mono (af_mono sd)
      replace dm := dm.mono (af_mono sd)
      replace di := di.mono (af_mono sd)
      replace do9 := do9.mono (af_mono sd)
      replace sFc := sFc.trans sd
      have nlt : n < T1.evs.length := (List.getElem?_eq_some_iff.mp ee).1
      by_cases hA : e.word = "add"
      · rw [decide_eq_true hA]
        obtain ⟨kh, e5, hk, hkl⟩ := S.c
        exact iteF (iteF (wb_nil (fin sFc ⟨S.k, S.a, S.b, kh, e5, hk, Nat.le_trans hkl (by omega)⟩)))
      rw [decide_eq_false hA]
      refine iteT (Wq.go (F := AF [nd, ld, hd] Hd) (wq_notIn (ns := []) (.inl rfl) (wv_var 7 rfl (.int (n : Nat))) (wv_var 2 rfl do9)) af_same fun He se => ?_)
      rw [hnin]
      replace S := S.sm se
      replace he := he.mono (af_mono se)
      replace dm := dm.mono (af_mono se)
      replace di := di.mono (af_mono se)
      replace sFc := sFc.trans se
      refine iteT (wb_cons (w1_set 11 sc_law_had.nd (we_sortedSet (ns := Lm ++ Li) T.sorted T.set (Wv.to (wv_catL (wv_var 9 rfl dm) (wv_var 10 rfl di) ?_) (by rw [List.map_append])) af_same ?_ fun bo vb F5 H5 hbo g5 db => ?_)))
      · rw [List.length_map, List.length_map]
        have h1 := hLm.2
        have h2 := hLi.2
        omega
      · rw [List.length_append]
        have h1 := hLm.2
        have h2 := hLi.2
        omega
      replace db := db.mono (af_go g5 S.nn)
      have sb := g5.hh
      clear g5
      replace S := S.sm sb
      replace he := he.mono (af_mono sb)
      replace dm := dm.mono (af_mono sb)
      replace di := di.mono (af_mono sb)
      replace sFc := sFc.trans sb
      have hLb : LsN nr' bo := LsN.srt (fun x hx => (List.mem_append.mp hx).elim (hLm.1 x) (hLi.1 x)) hbo
      refine wb_cons (w1_set 12 sc_law_had.nd (Wv.af (ms := [nd, ld, hd]) (d := .list ((if kind = "long" then bo else cut Lm (some (-1)) none).map .int)) (wv_if (t := decide (kind = "long")) (wq_eqS (wv_var 1 rfl (.str kind)) wv_str) (fun z => Wv.to (wv_var 11 rfl db) (by rw [if_pos (of_decide_eq_true z)])) (fun z => Wv.to (wv_slL (wv_var 9 rfl dm) (wo_some (wv_neg wv_int)) wo_none) (by rw [if_neg (of_decide_eq_false z), cut_map]))) S.nn fun vs5 H6 s6 ds6 => ?_))
      have hLs : LsN nr' (if kind = "long" then bo else cut Lm (some (-1)) none) := by
        split
        · exact hLb
        · exact hLm.cut
      generalize (if kind = "long" then bo else cut Lm (some (-1)) none) = Ls at ds6 hLs
      replace S := S.sm s6
      replace he := he.mono (af_mono s6)
      replace dm := dm.mono (af_mono s6)
      replace di := di.mono (af_mono s6)
      replace db := db.mono (af_mono s6)
      replace sFc := sFc.trans s6
      refine wb_cons (w1_forD (F := AF [nd, ld, hd] H6) (ds := Ls.map .int) (fun Fx m σ' H' => Fx nd = none ∧ Fx ld = none ∧ Fx hd = none ∧ Same Fx H' ∧ Same (AF [nd, ld, hd] H6) Fx ∧ ∃ u13 u14, Hs K nL nd ld hd H H' nr' (2 * n) ∧
          σ' = [some vt, some (.str kind), some vo, some (.ref nd), some (.ref ld), some (.ref hd), some (.int (nr' : Nat)), some (.int (n : Nat)), some ve, some vm, some vi, some vb, some vs5, u13, u14])
        (wsrc_list (wv_var 12 rfl ds6)) af_same ?_ ?_ ?_ ?_)
      · exact fun Fx Hx gx => ⟨gx.fr _ (af_no (by simp)) (S.nn _ (by simp)), gx.fr _ (af_no (by simp)) (S.nn _ (by simp)), gx.fr _ (af_no (by simp)) (S.nn _ (by simp)), gx.fh, gx.ff, u13, u14, S.sm gx.hh, rfl⟩
      · exact fun Fx m σ' H' h => h.2.2.2.1
      · rintro Fx m dd v σ' H7 H8' ed ⟨x1, x2, x3, sx, sx6, u13', u14', Sx, rfl⟩ hy
        have hmx : ∀ a ∈ [nd, ld, hd], Fx a = none := fun a ha => by
          simp only [List.mem_cons, List.not_mem_nil, or_false] at ha
          rcases ha with rfl | rfl | rfl <;> assumption
        obtain ⟨F9, g9, dv⟩ := hy (AF [nd, ld, hd] H7) (af_from sx hmx) af_same
        replace dv := dv.mono (af_go g9 Sx.nn)
        replace Sx := Sx.sm g9.hh
        replace sx := sx.trans g9.hh
        rw [List.getElem?_map] at ed
        cases eo : Ls[m]? with
        | none =>
          rw [eo] at ed
          cases ed
        | some one =>
        rw [eo] at ed
        cases ed
        rw [dv.int_inv]
        have sA : Same (AF [nd, ld, hd] H6) (AF [nd, ld, hd] H8') := sx6.trans (af_from sx hmx)
        have dbx := db.mono sA
        have dix := di.mono sA
        have ho := hLs.1 one (List.mem_of_getElem? eo)
        obtain ⟨kn, ekn, knn⟩ := Sx.a
        have hL2 : LsN nr' (if kind = "long" then bo else cut Li (some (-1)) none) := by
          split
          · exact hLb
          · exact hLi.cut
        refine wg_name 13 sc_law_had.nd (wb_one (w1_updD (ms := [nd, ld, hd]) (ps := (if kind = "long" then bo else cut Li (some (-1)) none).map fun x => (one, x)) 3 rfl hr T.dict l5 ekn knn Sx.nn (Wv.to (wv_lc sc_law_had.nd (blkOk_by (own := [("_law_two_so", 14)]) (N := n_law_had) (sc := C8.fnScope s_law_had) (by decide +kernel)) (lcv_n0 (xs := if kind = "long" then bo else cut Li (some (-1)) none) (enc := .int) 14 (fun x => pkD (one, x)) (wsrc_list (wv_if (t := decide (kind = "long")) (wq_eqS (wv_var 1 rfl (.str kind)) wv_str) (fun z => Wv.to (wv_var 11 rfl dbx) (by rw [if_pos (of_decide_eq_true z)])) (fun z => Wv.to (wv_slL (wv_var 10 rfl dix) (wo_some (wv_neg wv_int)) wo_none) (by rw [if_neg (of_decide_eq_false z), cut_map])))) ?_ (fun _ _ _ _ _ => pg_name (i := 14) sc_law_had.nd rfl (Or.inl rfl)) (fun _ => rfl) (fun x _ F1 v sF h1 _ _ _ _ _ => wv_tup (wvs_cons (wv_tup (wvs_cons (wv_var 13 rfl (.int one)) (wvs_cons (wv_var 14 rfl h1) wvs_nil))) (wvs_cons wv_bl wvs_nil))))) (by rw [List.map_map]; rfl)) ?_ fun He kv' se kn' _ => ?_))
        · have := hL2.2
          omega
        · intro p hp
          obtain ⟨x, hx, rfl⟩ := List.mem_map.mp hp
          have := hL2.1 x hx
          exact ⟨ho.1, by show one < (nL : Int); omega, this.1, by show x < (nL : Int); omega⟩
        · exact ⟨x1, x2, x3, same_mutH (sx.trans se) x1, sx6, _, _, (Sx.sm se).updA hnd n1 n2 kn', rfl⟩
      · rintro Fx σ' H7 ⟨x1, x2, x3, sx, sx6, u13', u14', Sx, rfl⟩
        have hmx : ∀ a ∈ [nd, ld, hd], Fx a = none := fun a ha => by
          simp only [List.mem_cons, List.not_mem_nil, or_false] at ha
          rcases ha with rfl | rfl | rfl <;> assumption
        have sA : Same (AF [nd, ld, hd] H6) (AF [nd, ld, hd] H7) := sx6.trans (af_from sx hmx)
        have dbx := db.mono sA
        have dmx := dm.mono sA
        have hex := he.mono sA
        have sF7 : Same F8 H7 := by
          have z : Same F8 (AF [nd, ld, hd] H6) := af_from sFc hms
          exact (z.trans sA).trans af_same
        refine wb_one (w1_if (Wq.go (F := AF [nd, ld, hd] H7) (wq_eqS (wv_var 1 rfl (.str kind)) wv_str) af_same fun Hq sq => ?_))
        replace Sx := Sx.sm sq
        replace dbx := dbx.mono (af_mono sq)
        replace dmx := dmx.mono (af_mono sq)
        replace hex := hex.mono (af_mono sq)
        replace sF7 := sF7.trans sq
        cases hK : decide (kind = "long") with
        | false =>
          obtain ⟨kh, e5, hk, hkl⟩ := Sx.c
          exact iteF (wb_nil (fin sF7 ⟨Sx.k, Sx.a, Sx.b, kh, e5, hk, Nat.le_trans hkl (by omega)⟩))
        | true =>
          obtain ⟨q2, hq2⟩ : ∃ q2, L2.atI (.str e.word :: e.ps.map PyData.int) 2 = some (.int q2) := by
            cases e with
            | look p => cases hL
            | add p => exact absurd rfl hA
            | meet p q => exact ⟨q, rfl⟩
            | tell p q => exact ⟨q, rfl⟩
          refine iteT (wb_cons (w1_dput hr (we_var 11 rfl (we_var 5 rfl (Wv.int (F := AF [nd, ld, hd] Hq) (wv_ixT (wv_var 8 rfl hex) wv_int hq2) af_same fun Hh sh => ?_)))))
          replace Sx := Sx.sm sh
          replace dbx := dbx.mono (af_mono sh)
          replace dmx := dmx.mono (af_mono sh)
          replace hex := hex.mono (af_mono sh)
          replace sF7 := sF7.trans sh
          obtain ⟨kh, e5, hk, hkl⟩ := Sx.c
          have sz : 2 * n + 2 < sizeLine := Nat.lt_of_le_of_lt (show 2 * n + 2 ≤ 100 by omega) (by decide)
          refine ⟨hd, _, rfl, DPut.k (k := .inl q2) e5 (by omega), ?_⟩
          have S2 := Sx.updC (nr' := nr') (m' := 2 * n + 1) hhd0 n2 n3 (HK.put (p := q2) hk dbx hLb) (Nat.le_trans (length_putK kh (Sum.inl q2) vb) (by omega))
          have e3 := same_mutH (o := .dK (putK kh (.inl q2) vb)) sF7 f3
          have af2 : AF [nd, ld, hd] (upd Hh hd (.dK (putK kh (.inl q2) vb))) = AF [nd, ld, hd] Hh := af_upd (by simp)
          rw [← af2] at dbx dmx hex
          show Wb _ _ _ _ (upd Hh hd (.dK (putK kh (.inl q2) vb)))
          generalize upd Hh hd (.dK (putK kh (.inl q2) vb)) = Hi at S2 e3 dbx dmx hex
          clear af2
          refine wb_one (w1_dput hr (Wv.af (ms := [nd, ld, hd]) (d := .list ((if e.word = "meet" then bo else Lm).map .int)) (wv_if (t := decide (e.word = "meet")) (wq_eqS (wv_ixT (wv_var 8 rfl hex) wv_int (ev_at0 e)) wv_str) (fun z => Wv.to (wv_var 11 rfl dbx) (by rw [if_pos (of_decide_eq_true z)])) (fun z => Wv.to (wv_var 9 rfl dmx) (by rw [if_neg (of_decide_eq_false z)]))) S2.nn fun vx Hj sj dj => we_var 5 rfl (Wv.int (F := AF [nd, ld, hd] Hi) (wv_ixT (wv_var 8 rfl hex) wv_int (ev_at1 e)) (af_same.trans sj) fun Hk sk => ?_)))
          have hLx : LsN nr' (if e.word = "meet" then bo else Lm) := by
            split
            · exact hLb
            · exact hLm
          replace S2 := (S2.sm sj).sm sk
          obtain ⟨kh2, e6, hk2, hkl2⟩ := S2.c
          refine ⟨hd, _, rfl, DPut.k (k := .inl e.p) e6 (by omega), ?_⟩
          exact fin (same_mutH ((e3.trans sj).trans sk) f3) (S2.updC (nr' := nr') (m' := 2 * (n + 1)) hhd0 n2 n3 (HK.put (p := e.p) hk2 (dj.mono (af_mono sk)) hLx) (Nat.le_trans (length_putK kh2 (Sum.inl e.p) vx) (by omega)))
  · rintro F8 σ' H8 ⟨f1, f2, f3, sF, dt8, do8, u7, u8, u9, u10, u11, u12, u13, u14, S, rfl⟩
    refine wb_one (w1_ret (we_tup (wa_cons (we_var 3 rfl (wa_cons (we_var 4 rfl (wa_nil ⟨Nat.le_of_ble_eq_true rfl, fun t ht => ?_⟩)))))))
    have S2 := S.sm (same_new ht (o := .tup [.ref nd, .ref ld]))
    exact q t nd ld _ S2.k hnd hld0 n1 upd_same S2.a S2.b
end
end K29
set_option Elab.async false
set_option linter.all false
set_option maxRecDepth 100000
set_option maxHeartbeats 4000000
set_option pp.maxSteps 300
namespace K29
open PySem PySem.Spec PyProof.Rows L2 LamX
/-! ### lists against [] -/
def shL (ds : List PyData) : Prop := PyData.canLayAll0 ds = true ∧ PyData.depthAll ds ≤ 10
theorem shL.nil : shL [] := ⟨rfl, Nat.zero_le _⟩
theorem shL.cons {d : PyData} {ds : List PyData} (h : d.canLay0 = true ∧ d.depth ≤ 10) (g : shL ds) : shL (d :: ds) := ⟨by
  show (d.canLay0 && PyData.canLayAll0 ds) = true
  rw [h.1, g.1]
  rfl, Nat.max_le.mpr ⟨h.2, g.2⟩⟩
theorem shL.map {α : Type} {f : α → PyData} (h : ∀ x, (f x).canLay0 = true ∧ (f x).depth ≤ 10) : ∀ l : List α, shL (l.map f)
  | [] => .nil
  | x :: r => .cons (h x) (shL.map h r)
theorem shL.ints (l : List Int) : shL (l.map .int) := shL.map (fun _ => ⟨rfl, Nat.zero_le _⟩) l
theorem shL.prs (l : List (Int × Int)) : shL (l.map prD) := shL.map (fun _ => ⟨rfl, Nat.le_of_ble_eq_true rfl⟩) l
theorem tI_dep : ∀ l : List Int, PyData.canLayAll0 (l.map .int) = true ∧ PyData.depthAll (l.map .int) = 0
  | [] => ⟨rfl, rfl⟩
  | x :: r => by
    obtain ⟨h1, h2⟩ := tI_dep r
    refine ⟨?_, ?_⟩
    · show (true && PyData.canLayAll0 (r.map .int)) = true
      rw [h1]
      rfl
    · show max 0 (PyData.depthAll (r.map .int)) = 0
      rw [h2]
      rfl
theorem shL.tups (l : List (List Int)) : shL (l.map tI) := shL.map (f := tI) (fun x => ⟨(tI_dep x).1, by show PyData.depthAll (x.map .int) + 1 ≤ 10; rw [(tI_dep x).2]; exact Nat.le_of_ble_eq_true rfl⟩) l
theorem shL.sh {ds : List PyData} (h : shL ds) : SeqAt.shaped (.list ds) = true := by
  unfold SeqAt.shaped
  rw [show (PyData.list ds).canLay0 = PyData.canLayAll0 ds from rfl, h.1, decide_eq_true (show (PyData.list ds).depth ≤ 64 from by show PyData.depthAll ds + 1 ≤ 64; have := h.2; omega)]
  rfl
theorem eqv_nil (ds : List PyData) : PyData.eqv (.list ds) (.list []) = ds.isEmpty := by cases ds <;> rfl
section
variable {X : Cx} {a : Expr} {σ : L2.St} {F : Hp} {ds : List PyData} {j : Nat} {p pos : Pos}
theorem rd_eqE (hs : shL ds) : RD X (rEqD X.K) F (.list ds) (.list []) (.bool ds.isEmpty) := fun F1 H1 v w _ s h1 h2 Q q => ⟨_, _, (h1.mono s).dp, (h2.mono s).dp, hs.sh, shL.nil.sh, by rw [eqv_nil]; exact q _ F1 H1 (Gr.refl s) (.bl _)⟩
theorem rd_neE (hs : shL ds) : RD X (rNeD X.K) F (.list ds) (.list []) (.bool (!ds.isEmpty)) := fun F1 H1 v w _ s h1 h2 Q q => ⟨_, _, (h1.mono s).dp, (h2.mono s).dp, hs.sh, shL.nil.sh, by rw [eqv_nil]; exact q _ F1 H1 (Gr.refl s) (.bl _)⟩
theorem room64 (hr : Room j X.A) : X.A.units + 64 < cLine := by have := hr.un; omega
theorem wq_eqE (hr : Room j X.A) (h : Wv X a σ F (.list ds)) (hs : shL ds) : Wq X (.Compare a [.Eq] [.List [] p] pos) σ F ds.isEmpty := wq_cmp (op_eqD (room64 hr)) (rd_eqE hs) h (wv_lst wvs_nil)
theorem wq_neE (hr : Room j X.A) (h : Wv X a σ F (.list ds)) (hs : shL ds) : Wq X (.Compare a [.NotEq] [.List [] p] pos) σ F (!ds.isEmpty) := wq_cmp (op_neD (room64 hr)) (rd_neE hs) h (wv_lst wvs_nil)
theorem wv_eqE (hr : Room j X.A) (h : Wv X a σ F (.list ds)) (hs : shL ds) : Wv X (.Compare a [.Eq] [.List [] p] pos) σ F (.bool ds.isEmpty) := wv_cmp (op_eqD (room64 hr)) (rd_eqE hs) h (wv_lst wvs_nil)
theorem wv_neE (hr : Room j X.A) (h : Wv X a σ F (.list ds)) (hs : shL ds) : Wv X (.Compare a [.NotEq] [.List [] p] pos) σ F (.bool (!ds.isEmpty)) := wv_cmp (op_neD (room64 hr)) (rd_neE hs) h (wv_lst wvs_nil)
end
/-! ### {k: v} with a key that is a tuple -/
theorem we_disp1T {X : Cx} {ke ve : Expr} {σ : L2.St} {H : Hp} {Q : VK} {j : Nat} {pos : Pos} (hr : Room j X.A) (h : ∀ p, H p = none → We X ke σ (upd H p (.dT [])) fun y H1 => We X ve σ H1 fun z H2 => H2 p = some (.dT []) ∧ ∃ k b, y = .ref b ∧ H2 b = some (.tup (k.map kV)) ∧ Q (.ref p) (upd H2 p (.dT (putK [] k z)))) :
    We X (.Dict [some ke] [ve] pos) σ H Q := fun pins s I => by
  have hn := I.hok.fresh (Nat.le_refl s.heap.objs.size)
  have I1 := I.laid (a := s.heap.objs.size) (o := .dT []) (h' := s.heap.push { cls := .type "dict", data := .dict #[] }) (t' := s.toks) (fun _ _ q => Heap.get?_push_of_some _ q) (Nat.le_refl _) (dt_empty s.heap I.big)
  rw [arm_eval_Dict, zip_pairTrees [some ke] [ve] X.env pos rfl rfl, dictDisplay_pairs (pairTrees [some ke] [ve] X.env pos) (fun z => nomatch z) (Nat.lt_of_le_of_lt (Nat.le_refl 1) (by decide))]
  refine wpAny_bind (wpAny_standAt (wpAny_bind (wpAny_subDictH (knd := tupleKind (mixKind X.prog X.w)) (show X.A.units < cLine from Nat.lt_of_succ_lt (room1 hr)) (Nat.le_of_ble_eq_true rfl) ?_)))
  refine pairTrees_cons_walk (thn (h _ hn pins _ I1) fun kv s1 ⟨y, H1, I2, r1, q1⟩ => thn (q1 pins s1 I2) fun vv s2 ⟨z, H2, I3, r2, e2, k, b, ey, eb, q2⟩ => pairTrees_nil_walk ?_)
  subst ey
  cases (show kv = Value.ref b from r1)
  have hk := key_of (P := X.prog) (w := X.w) I3.hok eb
  obtain ⟨z0, lo, xs, rel, dd⟩ := dt_of I3.hok e2
  cases rel
  refine ⟨[(k, b, vv)], ⟨rfl, rfl, hk, True.intro⟩, dd, fun h' tk dk hs => wpAny_pure ?_⟩
  obtain ⟨ob, es, ep, hq, g2, g3, g4, _, g5⟩ := dk
  have kt : KT H2 (putK [] k z) (storedAllH [] [(k, b, vv)]) := KT.put .nil k eb r2
  have new : ObjOk X.prog X.w (upd H2 s.heap.objs.size (.dT (putK [] k z))) h' s.heap.objs.size (.dT (putK [] k z)) := by
    refine ⟨Nat.le_trans (length_putK [] k z) (Nat.le_trans (Nat.le_refl 1) (by decide)), lo, _, kt.keeps fun c ys ec => ?_, ob, es, ep, hq, g2, g3, g4, g5⟩
    rw [upd_ne (ne_of ec e2 (fun z => nomatch z))]
    exact ec
  exact ⟨.ref s.heap.objs.size, _, d_write (t' := tk) I3 (by rw [e2]; exact True.intro) hs ⟨ob, hq⟩ new, rfl, q2⟩
end K29
set_option Elab.async false
set_option linter.all false
set_option maxRecDepth 100000
set_option maxHeartbeats 4000000
set_option pp.maxSteps 300
namespace K29
open PySem PySem.Spec PyProof.Rows L2 LamX
/-- the same but for dicts of pairs -/
def SameD (F F' : Hp) : Prop := ∀ a o, F a = some o → (∀ kv, o ≠ .dT kv) → F' a = some o
theorem sqt_to {K : PySem.W.Frag} {F F' : Hp} {a : Addr} {xs : List V} (s : SameD F F') (h : SqT K F a xs) (hn : ∀ o, F a = some (.frz o (.tup xs)) → F' a = some (.frz o (.tup xs))) : SqT K F' a xs := by
  rcases h with (h | ⟨o, h⟩) | h
  · exact .inl (.inl (s _ _ h (fun kv z => nomatch z)))
  · exact .inl (.inr ⟨o, hn o h⟩)
  · exact .inr h
section
variable {K : PySem.W.Frag} {F F' : Hp}
mutual
theorem Dq.to (s : SameD F F') : ∀ {v : V} {d : PyData}, Dq K F v d → Dq K F' v d
  | _, _, .non => .non
  | _, _, .bl b => .bl b
  | _, _, .int i => .int i
  | _, _, .str x => .str x
  | _, _, .lst h g => .lst (s _ _ h (fun kv z => nomatch z)) (DqAll.to s g)
  | _, _, .tup h g => .tup (h.elim (fun h => .inl (s _ _ h (fun kv z => nomatch z))) fun h => .inr ⟨h.1, sqt_to s h.2 fun o e => s _ _ e (fun kv z => nomatch z)⟩) (DqAll.to s g)
theorem DqAll.to (s : SameD F F') : ∀ {vs : List V} {ds : List PyData}, DqAll K F vs ds → DqAll K F' vs ds
  | _, _, .nil => .nil
  | _, _, .cons h g => .cons (Dq.to s h) (DqAll.to s g)
end
end
/-- it gives this data, here -/
def Wd (X : Cx) (e : Expr) (σ : L2.St) (ms : List Addr) (H : Hp) (d : PyData) : Prop := ∀ Q : VK, (∀ v H1, Same H H1 → Dq X.K (AF ms H1) v d → Q v H1) → We X e σ H Q
theorem Wv.wd {X : Cx} {e : Expr} {σ : L2.St} {ms : List Addr} {H : Hp} {d : PyData} (h : Wv X e σ (AF ms H) d) (hm : ∀ a ∈ ms, H a ≠ none) : Wd X e σ ms H d := fun Q q => h.af hm q
/-- also what reads the dicts -/
theorem Wv.wdH {X : Cx} {e : Expr} {σ : L2.St} {ms : List Addr} {H : Hp} {d : PyData} (h : Wv X e σ H d) (hm : ∀ a ∈ ms, ∃ kv, H a = some (.dT kv)) : Wd X e σ ms H d := fun Q q => h H (Same.refl _) Q fun v F' H' g dv => q v H' g.hh (Dq.to (fun a o e n => by
  by_cases z : a ∈ ms
  · obtain ⟨kv, ek⟩ := hm a z
    have := g.ff _ _ ek
    rw [e] at this
    cases this
    exact absurd rfl (n kv)
  · rw [af_yes z]
    exact g.fh _ _ e) dv)
section
variable {X : Cx} {e : Expr} {σ : L2.St} {H : Hp} {ms : List Addr} {x : Addr} {kv : List (List L2.Key × V)} {n : Nat} {ps : List (Int × Int)} {D : Ends} {j : Nat} {y z : Str} {p p1 p2 pos pos2 apos cpos : Pos}
theorem we_dictW {Q : VK} (hr : Room j X.A) (hm : X.mg "dict" = none) (he : Wd X e σ ms H (.list (ps.map pkD))) (q : ∀ d H1, Same H H1 → H1 d = none → Q (.ref d) (upd H1 d (.dT (mergeT [] (ps.map fun p => (k2 p, V.bl true)))))) (hc : X.calm = true := by rfl) (hg : Gl X "dict" := by rfl)
    (hst : starEach [e] X.env = (false, eval e X.env) :: starEach [] X.env := by rfl) (hpl : (backTo pos2 (starEach [] X.env)).any (·.1) = false := by rfl) : We X (.Call (.Name "dict" p2) [e] [] pos2) σ H Q :=
  we_callTy (call_dictT hc (by have := hr.un; omega)) hm (wa_cons (he _ fun v H1 s1 dv => wa_nil (by
    obtain ⟨l, xs, rfl, e1, e2⟩ := dv.lst_inv
    obtain ⟨bs, rfl, pr⟩ := pk_refs af_same e2
    exact ⟨l, bs, _, rfl, SqL.of (af_same _ _ e1), pr, fun d hd => q d H1 s1 hd⟩)) hst) hg (he := hst) (hpl := hpl)
/-- y.update(dict(e)) -/
theorem w1_updW (i : Nat) (hσ : σ[i]? = some (some (.ref x))) (hr : Room j X.A) (hm : X.mg "dict" = none) (hn : n ≤ 5) (ex : H x = some (.dT kv)) (ks : KsN n kv) (he : Wd X e σ ms H (.list (ps.map pkD))) (hps : ∀ p ∈ ps, inN n p)
    (k : ∀ H1 kv', Same H H1 → KsN n kv' → kv.length ≤ kv'.length → D.nx σ (upd H1 x (.dT kv'))) (hN : X.N[i]? = some y := by rfl) (hv : Vis X.env.scope y := by first | exact Or.inl rfl | exact Or.inr (Or.inl rfl) | exact Or.inr (Or.inr rfl)) (hd : (y == ("__debug__" : Str)) = false := by decide) (hcd : (y == ("__classdict__" : Str)) = false := by decide) (hc : X.calm = true := by rfl) (hg : Gl X "dict" := by rfl)
    (hst : starEach [e] X.env = (false, eval e X.env) :: starEach [] X.env := by rfl) (hpl : (backTo pos2 (starEach [] X.env)).any (·.1) = false := by rfl)
    (hbase : attributeBase (.Name y p1) "update" X.env (eval (.Name y p1) X.env) = eval (.Name y p1) X.env := by rfl)
    (hfew : ((backTo cpos (starEach (.Call (.Name "dict" p2) [e] [] pos2 :: []) X.env)).all (fun x => !x.1) && (backToKw cpos (keywordEach [] X.env)).all (fun x => x.1.isSome) && decide ((Expr.Call (.Name "dict" p2) [e] [] pos2 :: []).length + ([] : List Keyword).length + (if ([] : List Keyword).isEmpty then 0 else 1) < 30)) = true := by rfl)
    (hline : (apos.endLine == cpos.line) = true := by rfl) (hs : starEach (.Call (.Name "dict" p2) [e] [] pos2 :: []) X.env = (false, eval (.Call (.Name "dict" p2) [e] [] pos2) X.env) :: starEach [] X.env := by rfl) (hplain : (backTo cpos (starEach [] X.env)).any (·.1) = false := by rfl) (hsw : swapsWith (.Call (.Attribute (.Name y p1) "update" apos) [.Call (.Name "dict" p2) [e] [] pos2] [] cpos) none pos.line X.env = pure false := by rfl) :
    W1 X (.Expr (.Call (.Attribute (.Name y p1) "update" apos) [.Call (.Name "dict" p2) [e] [] pos2] [] cpos) pos) D σ H :=
  w1_update hr (we_var i hσ ⟨x, kv, rfl, ex, we_dictW hr hm he (fun d H1 s1 hd => by
    have hx : x ≠ d := fun z => by
      rw [← z, s1 _ _ ex] at hd
      cases hd
    have kn : KsN n (mergeT [] (ps.map fun p => (k2 p, V.bl true))) := KsN.ofL hn KsN.nil hps
    refine ⟨d, kv, _, rfl, ?_, upd_same, hx, .inr kn.ks.hash, Nat.le_trans (Nat.add_le_add ks.ks.few kn.ks.few) (by decide), k _ _ (s1.trans (same_new hd)) (ks.merge kn) (mergeT_le _ _)⟩
    rw [upd_ne hx]
    exact s1 _ _ ex) hc hg hst hpl⟩ hN hv hd hcd) hbase hfew hline hs hplain hsw
/-- len of a dict with keys that are tuples -/
theorem we_lenT {Q : VK} (i : Nat) (hσ : σ[i]? = some (some (.ref x))) (ex : H x = some (.dT kv)) (hm : X.mg "len" = none) (q : Q (.int (kv.length : Nat)) H) (hN : X.N[i]? = some y := by rfl) (hv : Vis X.env.scope y := by first | exact Or.inl rfl | exact Or.inr (Or.inl rfl) | exact Or.inr (Or.inr rfl)) (hd : (y == ("__debug__" : Str)) = false := by decide) (hcd : (y == ("__classdict__" : Str)) = false := by decide) (hg : Gl X "len" := by rfl)
    (hst : starEach [.Name y p1] X.env = (false, eval (.Name y p1) X.env) :: starEach [] X.env := by rfl) (hpl : (backTo pos2 (starEach [] X.env)).any (·.1) = false := by rfl) : We X (.Call (.Name "len" p2) [.Name y p1] [] pos2) σ H Q :=
  we_callB call_len_dT hm (wa_cons (we_var i hσ (wa_nil ⟨x, kv, rfl, ex, q⟩) hN hv hd hcd) hst) hg (he := hst) (hpl := hpl)
/-- the keys, as pairs -/
theorem keys_ps {n : Nat} : ∀ {kv : List (List L2.Key × V)}, (∀ k ∈ kv.map (fun p => p.1), ∃ p, inN n p ∧ k = k2 p) → ∃ ps : List (Int × Int), ps.length = kv.length ∧ (∀ p ∈ ps, inN n p) ∧ ∀ {K : PySem.W.Frag} {F H : Hp} {bs : List Addr}, IsKeys H kv bs → SameD H F → DqAll K F (bs.map V.ref) (ps.map prD)
  | [], _ => ⟨[], rfl, fun p h => (nomatch h), fun {K F H bs} ik _ => by cases ik; exact .nil⟩
  | k :: r, h => by
    obtain ⟨ps, h1, h2, h3⟩ := keys_ps (n := n) (kv := r) fun x hx => h x (List.mem_cons_of_mem _ hx)
    obtain ⟨p, hp, e⟩ := h k.1 (List.mem_cons_self ..)
    refine ⟨p :: ps, by rw [List.length_cons, List.length_cons, h1], fun q hq => (List.mem_cons.mp hq).elim (fun z => z ▸ hp) (h2 q), fun {K F H bs} ik sd => ?_⟩
    cases ik with
    | cons e1 t =>
      rw [e] at e1
      exact .cons (.tup (.inl (sd _ _ e1 (fun kv z => nomatch z))) (.cons (.int _) (.cons (.int _) .nil))) (h3 t sd)
theorem KsN.keys {kv : List (List L2.Key × V)} (h : KsN n kv) : ∀ k ∈ kv.map (fun p => p.1), ∃ p, inN n p ∧ k = k2 p := fun k hk => by
  obtain ⟨p, hp, e⟩ := h.ks.sm k hk
  refine ⟨p, h.rg p ?_, e⟩
  unfold Ks.has
  rw [← e]
  exact mem_keys.mp hk
end
end K29
set_option Elab.async false
set_option linter.all false
set_option maxRecDepth 100000
set_option maxHeartbeats 4000000
set_option pp.maxSteps 300
namespace K29
open PySem PySem.Spec PyProof.Rows L2 LamX
theorem gr_af {ms : List Addr} {H H3 : Hp} (s : Same H H3) : Gr (AF ms H) H (AF ms H3) H3 := ⟨af_mono s, af_same, s, fun a e n => by
  by_cases h : a ∈ ms
  · exact af_no h
  · rw [af_yes h] at e
    exact absurd e n⟩
theorem sameD_af {ms : List Addr} {H H3 : Hp} (hm : ∀ a ∈ ms, ∃ kv, H a = some (.dT kv)) (s : Same H H3) : SameD H (AF ms H3) := fun a o e n => by
  by_cases h : a ∈ ms
  · obtain ⟨kv, ek⟩ := hm a h
    rw [e] at ek
    cases ek
    exact absurd rfl (n kv)
  · rw [af_yes h]
    exact s _ _ e
/-- the state of _law_bound -/
structure Bs (K : PySem.W.Frag) (T : Tab) (nd ld : Addr) (v5 v6 : V) (H H' : Hp) (S0 : Nat) : Prop where
  k : Same H H'
  e : ∃ kn kl, H' nd = some (.dT kn) ∧ KsN (looksOf T).length kn ∧ H' ld = some (.dT kl) ∧ KsN (looksOf T).length kl ∧ S0 ≤ kn.length + kl.length
  s : Dq K (AF [nd, ld] H') v5 (.list ((looksOf T).map prD))
  o : Dq K (AF [nd, ld] H') v6 (.list ((addsOf T).map prD))
section
variable {K : PySem.W.Frag} {T : Tab} {nd ld : Addr} {v5 v6 : V} {H H' H2 : Hp} {S0 S1 : Nat}
theorem Bs.mm (h : Bs K T nd ld v5 v6 H H' S0) : ∀ a ∈ [nd, ld], ∃ kv, H' a = some (.dT kv) := by
  intro a ha
  obtain ⟨kn, kl, e1, _, e2, _⟩ := h.e
  simp only [List.mem_cons, List.not_mem_nil, or_false] at ha
  rcases ha with rfl | rfl
  · exact ⟨_, e1⟩
  · exact ⟨_, e2⟩
theorem Bs.nn (h : Bs K T nd ld v5 v6 H H' S0) : ∀ a ∈ [nd, ld], H' a ≠ none := fun a ha z => by
  obtain ⟨kv, e⟩ := h.mm a ha
  rw [e] at z
  cases z
theorem Bs.sm (h : Bs K T nd ld v5 v6 H H' S0) (s : Same H' H2) : Bs K T nd ld v5 v6 H H2 S0 := by
  obtain ⟨kn, kl, e1, k1, e2, k2, l⟩ := h.e
  exact ⟨h.k.trans s, ⟨kn, kl, s _ _ e1, k1, s _ _ e2, k2, l⟩, h.s.mono (af_mono s), h.o.mono (af_mono s)⟩
theorem Bs.updA (h : Bs K T nd ld v5 v6 H H' S0) (h0 : H nd = none) (n : nd ≠ ld) {kn kl kv : List (List L2.Key × V)} (en : H' nd = some (.dT kn)) (el : H' ld = some (.dT kl)) (kk : KsN (looksOf T).length kl) (k : KsN (looksOf T).length kv) (l : S1 ≤ kv.length + kl.length) : Bs K T nd ld v5 v6 H (upd H' nd (.dT kv)) S1 := by
  refine ⟨same_mutH h.k h0, ⟨kv, kl, upd_same, k, by rw [upd_ne n.symm]; exact el, kk, l⟩, ?_, ?_⟩
  · rw [af_upd (by simp)]
    exact h.s
  · rw [af_upd (by simp)]
    exact h.o
theorem Bs.updB (h : Bs K T nd ld v5 v6 H H' S0) (h0 : H ld = none) (n : nd ≠ ld) {kn kl kv : List (List L2.Key × V)} (en : H' nd = some (.dT kn)) (kk : KsN (looksOf T).length kn) (k : KsN (looksOf T).length kv) (l : S1 ≤ kn.length + kv.length) : Bs K T nd ld v5 v6 H (upd H' ld (.dT kv)) S1 := by
  refine ⟨same_mutH h.k h0, ⟨kn, kv, by rw [upd_ne n]; exact en, kk, upd_same, k, l⟩, ?_, ?_⟩
  · rw [af_upd (by simp)]
    exact h.s
  · rw [af_upd (by simp)]
    exact h.o
end
section
variable {X : Cx} {e o i : Expr} {σ : L2.St} {F H : Hp} {pos p1 p2 p3 p4 pos1 pos2 : Pos} {j : Nat} {x y : Str} {nd ld : Addr} {kn kl : List (List L2.Key × V)} {n : Nat}
/-- o[i] = .. of a dict -/
theorem wg_dput {v : V} {Q : L2.St → Hp → Prop} (hr : Room j X.A) (h : We X o σ H fun x H1 => We X i σ H1 fun y H2 => ∃ a H3, x = .ref a ∧ DPut H2 a y v H3 ∧ Q σ H3)
    (ha : ∀ v, assign (.Subscript o i pos) X.env v = (do
      let ov ← holding [v] (eval o X.env)
      let iv ← holding [v, ov] (eval i X.env)
      standAt pos
      holding [v, ov, iv] (setItem ov iv v)
      release [v, ov, iv] []) := by intro _; rfl) : Wg X (.Subscript o i pos) v σ H Q := wg_of (pg_sub we_pe we_pe (set_dict (room1 hr)) ha) h
/-- list(near) -/
theorem wh_listT (a : Nat) (hσ : σ[a]? = some (some (.ref nd))) (en : H nd = some (.dT kn)) {ps : List (Int × Int)} (hk : ∀ {K : PySem.W.Frag} {F H : Hp} {bs : List Addr}, IsKeys H kn bs → SameD H F → DqAll K F (bs.map V.ref) (ps.map prD)) (hmm : ∀ a ∈ [nd, ld], ∃ kv, H a = some (.dT kv)) (hm : X.mg "list" = none) (hN : X.N[a]? = some x := by rfl) (hv : Vis X.env.scope x := by first | exact Or.inl rfl | exact Or.inr (Or.inl rfl) | exact Or.inr (Or.inr rfl)) (hd : (x == ("__debug__" : Str)) = false := by decide) (hcd : (x == ("__classdict__" : Str)) = false := by decide) (hc : X.calm = true := by rfl) (hg : Gl X "list" := by rfl)
    (hst : starEach [.Name x p1] X.env = (false, eval (.Name x p1) X.env) :: starEach [] X.env := by rfl) (hpl : (backTo pos1 (starEach [] X.env)).any (·.1) = false := by rfl) : Wh X (.Call (.Name "list" p2) [.Name x p1] [] pos1) σ (AF [nd, ld] H) H (.list (ps.map prD)) := fun Q q =>
  we_callTy (call_list_dT hc) hm (wa_cons (we_var a hσ (wa_nil ⟨nd, kn, rfl, .inl en, fun l1 bs h1 ik => q _ _ _ (gr_af (same_new h1)) (.lst (by
    rw [af_yes (fun z => by
      obtain ⟨kv, ek⟩ := hmm l1 z
      rw [h1] at ek
      cases ek)]
    exact upd_same) (hk ik (sameD_af hmm (same_new h1))))⟩) hN hv hd hcd) hst) hg (he := hst) (hpl := hpl)
/-- list(near) + list(low) -/
theorem wh_list2 (a b : Nat) (hσ : σ[a]? = some (some (.ref nd))) (hσ2 : σ[b]? = some (some (.ref ld))) (en : H nd = some (.dT kn)) (el : H ld = some (.dT kl)) {ps qs : List (Int × Int)} (hk : ∀ {K : PySem.W.Frag} {F H : Hp} {bs : List Addr}, IsKeys H kn bs → SameD H F → DqAll K F (bs.map V.ref) (ps.map prD)) (hl : ∀ {K : PySem.W.Frag} {F H : Hp} {bs : List Addr}, IsKeys H kl bs → SameD H F → DqAll K F (bs.map V.ref) (qs.map prD)) (hmm : ∀ a ∈ [nd, ld], ∃ kv, H a = some (.dT kv)) (hz : ps.length + qs.length ≤ 1000) (hm : X.mg "list" = none) (hN : X.N[a]? = some x := by rfl) (hv : Vis X.env.scope x := by first | exact Or.inl rfl | exact Or.inr (Or.inl rfl) | exact Or.inr (Or.inr rfl)) (hd : (x == ("__debug__" : Str)) = false := by decide) (hcd : (x == ("__classdict__" : Str)) = false := by decide)
    (hN2 : X.N[b]? = some y := by rfl) (hv2 : Vis X.env.scope y := by first | exact Or.inl rfl | exact Or.inr (Or.inl rfl) | exact Or.inr (Or.inr rfl)) (hd2 : (y == ("__debug__" : Str)) = false := by decide) (hcd2 : (y == ("__classdict__" : Str)) = false := by decide) (hc : X.calm = true := by rfl) (hg : Gl X "list" := by rfl)
    (hst : starEach [.Name x p1] X.env = (false, eval (.Name x p1) X.env) :: starEach [] X.env := by rfl) (hpl : (backTo pos1 (starEach [] X.env)).any (·.1) = false := by rfl) (hst2 : starEach [.Name y p3] X.env = (false, eval (.Name y p3) X.env) :: starEach [] X.env := by rfl) (hpl2 : (backTo pos2 (starEach [] X.env)).any (·.1) = false := by rfl) :
    Wh X (.BinOp (.Call (.Name "list" p2) [.Name x p1] [] pos1) .Add (.Call (.Name "list" p4) [.Name y p3] [] pos2) pos) σ (AF [nd, ld] H) H (.list ((ps ++ qs).map prD)) := fun Q q =>
  we_op op_cat (wh_listT a hσ en hk hmm hm hN hv hd hcd hc hg hst hpl _ fun v1 F1 H1 g1 d1 => by
    have s1 := g1.hh
    have hmm1 : ∀ a ∈ [nd, ld], ∃ kv, H1 a = some (.dT kv) := fun a ha => by
      obtain ⟨kv, e⟩ := hmm a ha
      exact ⟨kv, s1 _ _ e⟩
    have hmm2 : ∀ a ∈ [ld, nd], ∃ kv, H1 a = some (.dT kv) := fun a ha => hmm1 a (by
      simp only [List.mem_cons, List.not_mem_nil, or_false] at ha ⊢
      exact ha.symm)
    refine wh_listT (nd := ld) (ld := nd) b hσ2 (s1 _ _ el) hl hmm2 hm hN2 hv2 hd2 hcd2 hc hg hst2 hpl2 _ fun v2 F2 H2 g2 d2 => ?_
    have s2 := g2.hh
    obtain ⟨l, xs, rfl, f1, g1'⟩ := d1.lst_inv
    obtain ⟨m, ys, rfl, f2, g2'⟩ := d2.lst_inv
    have nn : ∀ a ∈ [nd, ld], H a ≠ none := fun a ha z => by
      obtain ⟨kv, e⟩ := hmm a ha
      rw [e] at z
      cases z
    refine ⟨l, m, xs, ys, rfl, rfl, s2 _ _ (g1.fh _ _ f1), g2.fh _ _ f2, by rw [g1'.length, g2'.length, List.length_map, List.length_map]; exact Nat.le_of_lt (small1000 hz), fun p hp => ?_⟩
    have s3 : Same H2 (upd H2 p (.lst (xs ++ ys))) := same_new hp
    have sT := (s1.trans s2).trans s3
    refine q _ _ _ (gr_af sT) (.lst (xs := xs ++ ys) ?_ ?_)
    · rw [af_yes (fun z => by
        obtain ⟨kv, e⟩ := hmm p z
        rw [(s1.trans s2).free hp] at e
        cases e)]
      exact upd_same
    · rw [List.map_append]
      have e1 : Same F1 (AF [nd, ld] (upd H2 p (.lst (xs ++ ys)))) := (af_go g1 nn).trans (af_mono (s2.trans s3))
      have e2 : Same F2 (AF [nd, ld] (upd H2 p (.lst (xs ++ ys)))) := by
        have z : AF [ld, nd] H2 = AF [nd, ld] H2 := by
          funext a
          unfold AF
          by_cases q1 : a = nd
          · rw [if_pos (by simp [q1]), if_pos (by simp [q1])]
          · by_cases q2 : a = ld
            · rw [if_pos (by simp [q2]), if_pos (by simp [q2])]
            · rw [if_neg (by simp [q1, q2]), if_neg (by simp [q1, q2])]
        have y := af_go g2 (fun a ha => by
          obtain ⟨kv, e⟩ := hmm2 a ha
          rw [e]
          exact fun z => nomatch z)
        rw [z] at y
        exact y.trans (af_mono s3)
      exact (g1'.mono e1).append (g2'.mono e2))
end
end K29
set_option Elab.async false
set_option linter.all false
set_option maxRecDepth 100000
set_option maxHeartbeats 4000000
set_option pp.maxSteps 300
namespace K29
open PySem PySem.Spec PyProof.Rows L2 LamX
theorem af_swap {a b : Addr} {H : Hp} : AF [a, b] H = AF [b, a] H := by
  funext x
  unfold AF
  by_cases q1 : x = a
  · rw [if_pos (by simp [q1]), if_pos (by simp [q1])]
  · by_cases q2 : x = b
    · rw [if_pos (by simp [q2]), if_pos (by simp [q2])]
    · rw [if_neg (by simp [q1, q2]), if_neg (by simp [q1, q2])]
theorem wq_inT {X : Cx} {i o : Expr} {σ : L2.St} {F : Hp} {p : Int × Int} {nd : Addr} {ka : List (List L2.Key × V)} {j : Nat} {pos : Pos} (hr : Room j X.A) (hi : Wv X i σ F (prD p)) (ho : Hd X o σ nd) (en : F nd = some (.dT ka)) (hm : behindInMarks .In o = false := by rfl) : Wq X (.Compare i [.In] [o] pos) σ F (Ks.has ka p) := fun H s Q q => wt_din hr (hi.go s fun v F1 H1 g1 d1 => ho _ _ (by
  obtain ⟨b, xs, rfl, t1, t2⟩ := d1.tup_inv1
  obtain ⟨z1, r, rfl, y3, t2⟩ := t2.cons_inv
  obtain ⟨z2, r, rfl, y4, t2⟩ := t2.cons_inv
  rw [t2.nil_inv, y3.int_inv, y4.int_inv] at t1
  exact ⟨nd, valV ka (k2 p), rfl, DGet.t (k := k2 p) (g1.fh _ _ (g1.ff _ _ en)) (g1.fh _ _ t1), q H1 g1.hh⟩)) hm
section
variable {P : Program} {w : World} {K : PySem.W.Frag} {mg : Str → Option Value} {base : Heap} {f : Addr} {fd : FuncData}
abbrev n_law_bound : List Str := ["_law_table_here", "_law_sort_so", "_law_off", "_law_near", "_law_low", "_law_spots_here", "_law_own", "_law_size", "_law_one_so", "_law_two_so", "_law_late", "_law_k", "_law_event_here", "_law_far", "_law_p"]
theorem sc_law_bound : FnScope n_law_bound ["_law_table_here", "_law_sort_so", "_law_off"] (C8.fnScope s_law_bound) := C8.fnScope_by (by decide +kernel)
def spBound (K : PySem.W.Frag) : Sp := fun vs H Q _ => ∃ (F : Hp) (T : Tab) (kind : Str) (vt vo : V), vs = [vt, .str kind, vo] ∧ Same F H ∧ Dq K F vt (tabD T) ∧ Dq K F vo (.list []) ∧ T.evs.length ≤ 16 ∧ (looksOf T).length ≤ 5 ∧
  ∀ nd H', Same H H' → H nd = none → DD (looksOf T).length nd H' → Q (.ref nd) H'
theorem c_bound (T : Txt K mg) (ch : C8.Cal P w K mg base 1 "_law_had" (spHad K) []) (cs : C8.Cal P w K mg base 1 "_law_spots" (spLooks K) []) (F : C8.Def K mg "_law_bound" s_law_bound f fd) (b : Binds K fd ["_law_table_here", "_law_sort_so", "_law_off"] []) : C8.Cal P w K mg base 2 "_law_bound" (spBound K) [] := by
  refine calW F b .nil sc_law_bound (fun vs H Q E ⟨G, _, _, _, _, e, _⟩ => by rw [e]; rfl) fun cdv A outer s H vs Q E hr ⟨G, T1, kind, vt, vo, e, s0, dt, dof, l16, l5, q⟩ => ?_
  subst e
  refine wb_cons (w1_pairC (wa_cons (we_call ch hr (wa_cons (we_var 0 rfl (wa_cons (we_var 1 rfl (wa_cons (we_var 2 rfl (wa_nil ⟨G, T1, kind, vt, vo, rfl, s0, dt, dof, l16, l5, fun t nd ld H1 s1 h0 h1 n1 et dn dl => ?_⟩))))))))))
  have gl0 : G nd = none := s0.free h0
  have gl1 : G ld = none := s0.free h1
  refine wa_cons (Wv.go (F := G) (wv_call T1 cs hr (wvs_cons (wv_var 0 rfl dt) wvs_nil) (Nat.le_trans l16 (by decide))) (s0.trans s1) fun v5 F2 H2 g2 d5 => wa_nil ⟨_, _, rfl, fun tp htp => ?_⟩)
  have et2 : (upd H2 tp (.tup [.ref t, v5])) t = some (.tup [.ref nd, .ref ld]) := (same_new htp) _ _ (g2.hh _ _ et)
  refine wgs_cons (wg_of (pg_tup rfl wgs_pgs rfl rfl) ⟨t, [.ref nd, .ref ld], rfl, .inl (.inl et2), rfl, wgs_cons (wg_name 3 sc_law_bound.nd (wgs_cons (wg_name 4 sc_law_bound.nd (wgs_nil (wgs_cons (wg_name 5 sc_law_bound.nd (wgs_nil ?_)))))))⟩)
  have g3 : Gr G H1 F2 (upd H2 tp (.tup [.ref t, v5])) := g2.trans ⟨Same.refl _, g2.fh.trans (same_new htp), same_new htp, fun _ e _ => e⟩
  generalize upd H2 tp (.tup [.ref t, v5]) = H3 at et2 g3
  clear g2 htp
  obtain ⟨kn, en, kkn⟩ := dn
  obtain ⟨kl, el, kkl⟩ := dl
  have fn2 : F2 nd = none := g3.noF gl0 en
  have fl2 : F2 ld = none := g3.noF gl1 el
  refine wb_cons (w1_setLc (i := 6) sc_law_bound.nd (blkOk_by (own := [("_law_k", 11), ("_law_event_here", 12)]) (N := n_law_bound) (sc := C8.fnScope s_law_bound) (by decide +kernel)) (lcv_p (F := F2) (xs := idxd T1.evs) (e1 := fun x => .int x.1) (e2 := fun x => evD x.2) 11 12 (fun x => decide (x.2.word = ("add" : Str))) (fun x => prD (x.1, x.2.p)) ?_ ?_ ?_ ?_ ?_ ?_ _ g3.fh _ ?_))
  · rw [← enumD_map]
    exact wsrc_enumT T.enumerate (wv_ixT (wv_var 0 rfl (dt.mono g3.ff)) wv_int (atI_nat (j := 1) rfl))
  · rw [idxd_len]
    exact Nat.le_trans l16 (by decide)
  · exact fun _ _ _ _ _ => pg_tup rfl (pgs_cons (pg_name (i := 11) sc_law_bound.nd rfl (Or.inl rfl)) (pgs_cons (pg_name (i := 12) sc_law_bound.nd rfl (Or.inl rfl)) pgs_nil))
  · exact fun _ _ => rfl
  · exact fun x _ F1 v u sF h1 h2 => ts_one fun _ _ _ _ _ => wq_eqS (wv_ixT (wv_var 12 rfl h2) wv_int (ev_at0 x.2)) wv_str
  · exact fun x _ _ F1 v u sF h1 h2 _ _ _ _ _ => wv_tup (wvs_cons (wv_var 11 rfl h1) (wvs_cons (wv_ixT (wv_var 12 rfl h2) wv_int (ev_at1 x.2)) wvs_nil))
  intro v6 F4 H4 g4 d6
  have d6 : Dq K F4 v6 (.list ((addsOf T1).map prD)) := by
    unfold addsOf evsOf
    rw [List.map_map]
    exact d6
  refine wb_cons (w1_set 7 sc_law_bound.nd (Wv.int (F := F4) (wv_neg wv_int) g4.fh fun H5 s5 => ?_))
  have s15 : Same H1 H5 := (g3.hh.trans g4.hh).trans s5
  have af5 : Same F4 (AF [nd, ld] H5) := af_from (g4.fh.trans s5) fun a ha => by
    simp only [List.mem_cons, List.not_mem_nil, or_false] at ha
    rcases ha with rfl | rfl
    · exact g4.noF fn2 (g3.hh _ _ en)
    · exact g4.noF fl2 (g3.hh _ _ el)
  have B0 : Bs K T1 nd ld v5 v6 H H5 0 := ⟨s1.trans s15, ⟨kn, kl, s15 _ _ en, kkn, s15 _ _ el, kkl, Nat.zero_le _⟩, (d5.mono g4.ff).mono af5, d6.mono af5⟩
  clear kkn kkl en el af5 s15 g4 d6 fn2 fl2 g3 et et2 d5
  refine wb_cons (w1_while ⟨fun m σ' H' => ∃ kn kl sz u8 u9 u10, H' nd = some (.dT kn) ∧ H' ld = some (.dT kl) ∧ Bs K T1 nd ld v5 v6 H H' 0 ∧ m = (if sz = ((kn.length + kl.length : Nat) : Int) then 0 else 1) + (50 - (kn.length + kl.length)) ∧
      σ' = [some vt, some (.str kind), some vo, some (.ref nd), some (.ref ld), some v5, some v6, some (.int sz), u8, u9, u10, none, none, none, none], ?_, ?_⟩)
  · obtain ⟨kn, kl, e1, _, e2, _⟩ := B0.e
    exact ⟨_, kn, kl, -1, none, none, none, e1, e2, B0, rfl, rfl⟩
  rintro m σ' H6 ⟨kn, kl, sz, u8, u9, u10, en, el, B, rfl, rfl⟩
  refine wt_cmp op_ne (we_var 7 rfl (we_op op_add (we_lenT 3 rfl en T.len (we_lenT 4 rfl el T.len ⟨_, _, rfl, rfl, ?_⟩))))
  refine ⟨rfl, _, rfl, ?_⟩
  obtain ⟨kn', kl', en', kkn, el', kkl, _⟩ := B.e
  rw [en] at en'
  cases en'
  rw [el] at el'
  cases el'
  by_cases hz : sz = (kn.length : Int) + (kl.length : Int)
  · rw [decide_eq_true (show V.int sz = V.int ((kn.length : Int) + (kl.length : Int)) by rw [hz])]
    exact iteF (wb_one (w1_ret (we_var 3 rfl (q nd H6 B.k h0 ⟨kn, en, kkn⟩))))
  rw [decide_eq_false (show ¬ V.int sz = V.int ((kn.length : Int) + (kl.length : Int)) from fun z => hz (V.int.inj z))]
  have mN : ∀ F' : Hp, F' nd = none → F' ld = none → ∀ a ∈ [nd, ld], F' a = none := fun F' x1 x2 a ha => by
    simp only [List.mem_cons, List.not_mem_nil, or_false] at ha
    rcases ha with rfl | rfl <;> assumption
  refine iteT ⟨fun σ' H' => ∃ u8 u9 u10, Bs K T1 nd ld v5 v6 H H' (kn.length + kl.length) ∧ σ' = [some vt, some (.str kind), some vo, some (.ref nd), some (.ref ld), some v5, some v6, some (.int ((kn.length + kl.length : Nat) : Int)), u8, u9, u10, none, none, none, none], ?_, ?_⟩
  · rintro σ' H' ⟨u8, u9, u10, B', rfl⟩
    obtain ⟨kn', kl', en', kkn', el', kkl', le'⟩ := B'.e
    have f1 := kkn'.ks.few
    have f2 := kkl'.ks.few
    refine ⟨_, ?_, kn', kl', _, _, _, _, en', el', ⟨B'.k, ⟨kn', kl', en', kkn', el', kkl', Nat.zero_le _⟩, B'.s, B'.o⟩, rfl, rfl⟩
    rw [if_neg (show ¬ sz = ((kn.length + kl.length : Nat) : Int) by omega)]
    by_cases z : ((kn.length + kl.length : Nat) : Int) = ((kn'.length + kl'.length : Nat) : Int)
    · rw [if_pos z]
      omega
    · rw [if_neg z]
      omega
  refine wb_cons (w1_set 7 sc_law_bound.nd (we_op op_add (we_lenT 3 rfl en T.len (we_lenT 4 rfl el T.len ⟨_, _, rfl, rfl, ?_⟩))))
  have B1 : Bs K T1 nd ld v5 v6 H H6 (kn.length + kl.length) := ⟨B.k, ⟨kn, kl, en, kkn, el, kkl, Nat.le_refl _⟩, B.s, B.o⟩
  have eS : V.int ((kn.length : Int) + (kl.length : Int)) = V.int ((kn.length + kl.length : Nat) : Int) := rfl
  dsimp only
  obtain ⟨ps, lp, rp, dp⟩ := keys_ps kkn.keys
  obtain ⟨qs, lq, rq, dq⟩ := keys_ps kkl.keys
  have f1 := kkn.ks.few
  have f2 := kkl.ks.few
  refine wb_cons (w1_forH (F := AF [nd, ld] H6) (ds := (ps ++ qs).map prD) (fun F1 m σ' H' => F1 nd = none ∧ F1 ld = none ∧ Same F1 H' ∧ ∃ u8 u9, Bs K T1 nd ld v5 v6 H H' (kn.length + kl.length) ∧ σ' = [some vt, some (.str kind), some vo, some (.ref nd), some (.ref ld), some v5, some v6, some (.int ((kn.length + kl.length : Nat) : Int)), u8, u9, u10, none, none, none, none])
    (wsrcH_list (wh_list2 3 4 rfl rfl en el dp dq B1.mm (by omega) T.list)) ?_ ?_ ?_ ?_)
  · exact fun F1 H1 g1 => ⟨g1.fr _ (af_no (by simp)) (B1.nn _ (by simp)), g1.fr _ (af_no (by simp)) (B1.nn _ (by simp)), g1.fh, u8, u9, B1.sm g1.hh, rfl⟩
  · exact fun F1 m σ' H' h => h.2.2.1
  · rintro F1 m dd v σ' H7 H8 ed ⟨x1, x2, sx, u8, u9, Bx, rfl⟩ hy
    obtain ⟨F9, g9, dv⟩ := hy (AF [nd, ld] H7) (af_from sx (mN F1 x1 x2)) af_same
    replace dv := dv.mono (af_go g9 Bx.nn)
    replace Bx := Bx.sm g9.hh
    replace sx := sx.trans g9.hh
    rw [List.getElem?_map] at ed
    cases eo : (ps ++ qs)[m]? with
    | none =>
      rw [eo] at ed
      cases ed
    | some p =>
    rw [eo] at ed
    cases ed
    have hp : inN (looksOf T1).length p := (List.mem_append.mp (List.mem_of_getElem? eo)).elim (rp p) (rq p)
    refine wg_pair dv af_same fun va vb da db => wgs_cons (wg_name 8 sc_law_bound.nd (wgs_cons (wg_name 9 sc_law_bound.nd (wgs_nil ?_))))
    rw [da.int_inv, db.int_inv]
    refine wb_one (w1_asg (Wv.wd (ms := [nd, ld]) (wv_tup (wvs_cons wv_bl (wvs_cons wv_bl wvs_nil))) Bx.nn _ fun vv H9 s9 dvv => ?_))
    obtain ⟨tp, xs, rfl, t1, t2⟩ := dvv.tup_inv
    obtain ⟨w1, r, rfl, y1, t2⟩ := t2.cons_inv
    obtain ⟨w2, r, rfl, y2, t2⟩ := t2.cons_inv
    rw [t2.nil_inv] at t1
    replace Bx := Bx.sm s9
    replace sx := sx.trans s9
    refine wg_of (pg_tup rfl wgs_pgs rfl rfl) ⟨tp, _, rfl, same_t af_same t1, rfl, wgs_cons (wg_dput hr (we_var 3 rfl (Wv.wd (ms := [nd, ld]) (d := prD p) (wv_tup (wvs_cons (wv_var 8 rfl (.int p.1)) (wvs_cons (wv_var 9 rfl (.int p.2)) wvs_nil))) Bx.nn _ fun vk Ha sa dk => ?_)))⟩
    replace Bx := Bx.sm sa
    replace sx := sx.trans sa
    obtain ⟨b3, xs3, rfl, t1, t2⟩ := dk.tup_inv1
    obtain ⟨z1, r, rfl, y3, t2⟩ := t2.cons_inv
    obtain ⟨z2, r, rfl, y4, t2⟩ := t2.cons_inv
    rw [t2.nil_inv, y3.int_inv, y4.int_inv] at t1
    obtain ⟨ka, kb, ea, kka, eb, kkb, le⟩ := Bx.e
    refine ⟨nd, _, rfl, DPut.t (k := k2 p) ea (af_same _ _ t1) (Nat.lt_of_le_of_lt kka.ks.few (by decide)), ?_⟩
    have B2 := Bx.updA (S1 := kn.length + kl.length) h0 n1 ea eb kkb (kka.put (v := w1) hp l5) (Nat.le_trans le (Nat.add_le_add_right putK_le _))
    have sx2 := same_mutH (o := .dT (putK ka (k2 p) w1)) sx x1
    generalize upd Ha nd (.dT (putK ka (k2 p) w1)) = Hb at B2 sx2
    refine wgs_cons (wg_dput hr (we_var 3 rfl (Wv.wd (ms := [nd, ld]) (d := prD (p.2, p.1)) (wv_tup (wvs_cons (wv_var 9 rfl (.int p.2)) (wvs_cons (wv_var 8 rfl (.int p.1)) wvs_nil))) B2.nn _ fun vk Hc sc dk => ?_)))
    replace B2 := B2.sm sc
    replace sx2 := sx2.trans sc
    obtain ⟨b4, xs4, rfl, t1, t2⟩ := dk.tup_inv1
    obtain ⟨z1, r, rfl, y3, t2⟩ := t2.cons_inv
    obtain ⟨z2, r, rfl, y4, t2⟩ := t2.cons_inv
    rw [t2.nil_inv, y3.int_inv, y4.int_inv] at t1
    obtain ⟨ka2, kb2, ea2, kka2, eb2, kkb2, le2⟩ := B2.e
    refine ⟨nd, _, rfl, DPut.t (k := k2 (p.2, p.1)) ea2 (af_same _ _ t1) (Nat.lt_of_le_of_lt kka2.ks.few (by decide)), wgs_nil ?_⟩
    exact ⟨x1, x2, same_mutH sx2 x1, _, _, B2.updA h0 n1 ea2 eb2 kkb2 (kka2.put ⟨hp.2.2.1, hp.2.2.2, hp.1, hp.2.1⟩ l5) (Nat.le_trans le2 (Nat.add_le_add_right putK_le _)), rfl⟩
  · rintro F1 σ' H7 ⟨x1, x2, sx, u8, u9, B, rfl⟩
    obtain ⟨ka, kb, ea, kka, eb, kkb, _⟩ := B.e
    obtain ⟨qs, lq, rq, dq⟩ := keys_ps kkb.keys
    refine wb_cons (w1_forH (F := AF [nd, ld] H7) (ds := qs.map prD) (fun F1 m σ' H' => F1 nd = none ∧ F1 ld = none ∧ Same F1 H' ∧ ∃ u8 u9, Bs K T1 nd ld v5 v6 H H' (kn.length + kl.length) ∧ σ' = [some vt, some (.str kind), some vo, some (.ref nd), some (.ref ld), some v5, some v6, some (.int ((kn.length + kl.length : Nat) : Int)), u8, u9, u10, none, none, none, none])
      (wsrcH_list (by rw [af_swap]; exact wh_listT (nd := ld) (ld := nd) 4 rfl eb dq (fun a ha => B.mm a (by simp only [List.mem_cons, List.not_mem_nil, or_false] at ha ⊢; exact ha.symm)) T.list)) ?_ ?_ ?_ ?_)
    · exact fun F1 H1 g1 => ⟨g1.fr _ (af_no (by simp)) (B.nn _ (by simp)), g1.fr _ (af_no (by simp)) (B.nn _ (by simp)), g1.fh, u8, u9, B.sm g1.hh, rfl⟩
    · exact fun F1 m σ' H' h => h.2.2.1
    · rintro F1 m dd v σ' H7 H8 ed ⟨x1, x2, sx, u8, u9, Bx, rfl⟩ hy
      obtain ⟨F9, g9, dv⟩ := hy (AF [nd, ld] H7) (af_from sx (mN F1 x1 x2)) af_same
      replace dv := dv.mono (af_go g9 Bx.nn)
      replace Bx := Bx.sm g9.hh
      replace sx := sx.trans g9.hh
      rw [List.getElem?_map] at ed
      cases eo : qs[m]? with
      | none =>
        rw [eo] at ed
        cases ed
      | some p =>
      rw [eo] at ed
      cases ed
      have hp : inN (looksOf T1).length p := rq p (List.mem_of_getElem? eo)
      refine wg_pair dv af_same fun va vb da db => wgs_cons (wg_name 8 sc_law_bound.nd (wgs_cons (wg_name 9 sc_law_bound.nd (wgs_nil ?_))))
      rw [da.int_inv, db.int_inv]
      obtain ⟨ka, kb, ea, kka, eb, kkb, le⟩ := Bx.e
      have ds := Bx.s.mono af_same
      refine wb_cons (w1_updW (ms := [nd, ld]) (ps := ((List.range (looksOf T1).length).filter fun i : Nat => Ks.has ka (p.2, 0 + (i : Int))).map fun i : Nat => (p.1, 0 + (i : Int))) 3 rfl hr T.dict l5 ea kka (Wv.wdH (Wv.to (wv_lc sc_law_bound.nd (blkOk_by (own := [("_law_far", 13)]) (N := n_law_bound) (sc := C8.fnScope s_law_bound) (by decide +kernel)) (lcv_n (xs := List.range (looksOf T1).length) (enc := fun i : Nat => .int (0 + (i : Int))) 13 (fun i : Nat => Ks.has ka (p.2, 0 + (i : Int))) (fun i : Nat => pkD (p.1, 0 + (i : Int))) (wsrc_rangeN T.range (wv_callB call_len_seq cd_lenL (wv_var 5 rfl ds) T.len) ⟨by rw [List.length_map], by omega⟩) (by rw [List.length_range]; omega) (fun _ _ _ _ _ => pg_name (i := 13) sc_law_bound.nd rfl (Or.inl rfl)) (fun _ => rfl)
          (fun x _ F1 v sF h1 => ts_one fun _ _ _ _ _ => wq_inT hr (wv_tup (wvs_cons (wv_var 9 rfl (.int p.2)) (wvs_cons (wv_var 13 rfl h1) wvs_nil))) (hd_var 3 rfl) (sF _ _ ea)) (fun x _ _ F1 v sF h1 _ _ _ _ _ => wv_tup (wvs_cons (wv_tup (wvs_cons (wv_var 8 rfl (.int p.1)) (wvs_cons (wv_var 13 rfl h1) wvs_nil))) (wvs_cons wv_bl wvs_nil))))) (by rw [List.map_map]; rfl)) Bx.mm) ?_ fun H9 kv' s9 kn' hle => ?_)
      · intro q hq
        obtain ⟨i, hi, rfl⟩ := List.mem_map.mp hq
        have := List.mem_range.mp (List.mem_filter.mp hi).1
        exact ⟨hp.1, hp.2.1, by show (0 : Int) ≤ 0 + (i : Int); omega, by show 0 + (i : Int) < _; omega⟩
      replace Bx := Bx.sm s9
      replace sx := sx.trans s9
      have B2 := Bx.updA (S1 := kn.length + kl.length) h0 n1 (s9 _ _ ea) (s9 _ _ eb) kkb kn' (by omega)
      have sx2 := same_mutH (o := .dT kv') sx x1
      show Wb _ _ _ _ (upd H9 nd (.dT kv'))
      generalize upd H9 nd (.dT kv') = Hb at B2 sx2
      clear ea eb kka kkb le ds hle kn' Bx
      obtain ⟨ka, kb, ea, kka, eb, kkb, le⟩ := B2.e
      have ds := B2.s.mono af_same
      refine wb_one (w1_updW (ms := [nd, ld]) (ps := ((List.range (looksOf T1).length).filter fun i : Nat => Ks.has kb (p.2, 0 + (i : Int))).map fun i : Nat => (p.1, 0 + (i : Int))) 4 rfl hr T.dict l5 eb kkb (Wv.wdH (Wv.to (wv_lc sc_law_bound.nd (blkOk_by (own := [("_law_far", 13)]) (N := n_law_bound) (sc := C8.fnScope s_law_bound) (by decide +kernel)) (lcv_n (xs := List.range (looksOf T1).length) (enc := fun i : Nat => .int (0 + (i : Int))) 13 (fun i : Nat => Ks.has kb (p.2, 0 + (i : Int))) (fun i : Nat => pkD (p.1, 0 + (i : Int))) (wsrc_rangeN T.range (wv_callB call_len_seq cd_lenL (wv_var 5 rfl ds) T.len) ⟨by rw [List.length_map], by omega⟩) (by rw [List.length_range]; omega) (fun _ _ _ _ _ => pg_name (i := 13) sc_law_bound.nd rfl (Or.inl rfl)) (fun _ => rfl)
          (fun x _ F1 v sF h1 => ts_one fun _ _ _ _ _ => wq_inT hr (wv_tup (wvs_cons (wv_var 9 rfl (.int p.2)) (wvs_cons (wv_var 13 rfl h1) wvs_nil))) (hd_var 4 rfl) (sF _ _ eb)) (fun x _ _ F1 v sF h1 _ _ _ _ _ => wv_tup (wvs_cons (wv_tup (wvs_cons (wv_var 8 rfl (.int p.1)) (wvs_cons (wv_var 13 rfl h1) wvs_nil))) (wvs_cons wv_bl wvs_nil))))) (by rw [List.map_map]; rfl)) B2.mm) ?_ fun H9 kv' s9 kn' hle => ?_)
      · intro q hq
        obtain ⟨i, hi, rfl⟩ := List.mem_map.mp hq
        have := List.mem_range.mp (List.mem_filter.mp hi).1
        exact ⟨hp.1, hp.2.1, by show (0 : Int) ≤ 0 + (i : Int); omega, by show 0 + (i : Int) < _; omega⟩
      exact ⟨x1, x2, same_mutH (sx2.trans s9) x2, _, _, (B2.sm s9).updB (kl := kb) h1 n1 (s9 _ _ ea) kka kn' (by omega), rfl⟩
    · rintro F1 σ' H7 ⟨x1, x2, sx, u8, u9, B, rfl⟩
      obtain ⟨ka, kb, ea, kka, eb, kkb, _⟩ := B.e
      obtain ⟨qs, lq, rq, dq⟩ := keys_ps kka.keys
      refine wb_one (w1_forH (F := AF [nd, ld] H7) (ds := qs.map prD) (fun F1 m σ' H' => F1 nd = none ∧ F1 ld = none ∧ Same F1 H' ∧ ∃ u8 u9 u10, Bs K T1 nd ld v5 v6 H H' (kn.length + kl.length) ∧ σ' = [some vt, some (.str kind), some vo, some (.ref nd), some (.ref ld), some v5, some v6, some (.int ((kn.length + kl.length : Nat) : Int)), u8, u9, u10, none, none, none, none])
        (wsrcH_list (wh_listT (nd := nd) (ld := ld) 3 rfl ea dq B.mm T.list)) ?_ ?_ ?_ ?_)
      · exact fun F1 H1 g1 => ⟨g1.fr _ (af_no (by simp)) (B.nn _ (by simp)), g1.fr _ (af_no (by simp)) (B.nn _ (by simp)), g1.fh, u8, u9, u10, B.sm g1.hh, rfl⟩
      · exact fun F1 m σ' H' h => h.2.2.1
      · rintro F1 m dd v σ' H7 H8 ed ⟨x1, x2, sx, u8, u9, u10, Bx, rfl⟩ hy
        obtain ⟨F9, g9, dv⟩ := hy (AF [nd, ld] H7) (af_from sx (mN F1 x1 x2)) af_same
        replace dv := dv.mono (af_go g9 Bx.nn)
        replace Bx := Bx.sm g9.hh
        replace sx := sx.trans g9.hh
        rw [List.getElem?_map] at ed
        cases eo : qs[m]? with
        | none =>
          rw [eo] at ed
          cases ed
        | some p =>
        rw [eo] at ed
        cases ed
        have hp : inN (looksOf T1).length p := rq p (List.mem_of_getElem? eo)
        refine wg_pair dv af_same fun va vb da db => wgs_cons (wg_name 8 sc_law_bound.nd (wgs_cons (wg_name 9 sc_law_bound.nd (wgs_nil ?_))))
        rw [da.int_inv, db.int_inv]
        have la1 := lookAt_at hp.1 hp.2.1
        have la2 := lookAt_at hp.2.2.1 hp.2.2.2
        refine wb_cons (w1_setLc (i := 10) sc_law_bound.nd (blkOk_by (own := [("_law_k", 11), ("_law_p", 14)]) (N := n_law_bound) (sc := C8.fnScope s_law_bound) (by decide +kernel)) (lcv_p (F := AF [nd, ld] H8) (xs := addsOf T1) (e1 := fun x => .int x.1) (e2 := fun x => .int x.2) 11 14 (fun x => (decide ((lookAt T1 p.1).1 < x.1) && decide (x.1 < (lookAt T1 p.2).1)) && decide (x.2 = (lookAt T1 p.2).2)) (fun x => .int x.1) (wsrc_list (wv_var 6 rfl Bx.o)) ?_ (fun _ _ _ _ _ => pg_tup rfl (pgs_cons (pg_name (i := 11) sc_law_bound.nd rfl (Or.inl rfl)) (pgs_cons (pg_name (i := 14) sc_law_bound.nd rfl (Or.inl rfl)) pgs_nil))) (fun _ _ => rfl)
          (fun x _ F1 v u sF h1 h2 => ts_one fun _ _ _ _ _ => wq_and2 (wq_ltLt (wv_ixT (wv_ixL (wv_var 5 rfl (Bx.s.mono sF)) (wv_var 8 rfl (.int p.1)) la1) wv_int (atI_nat (j := 0) rfl)) (wv_var 11 rfl h1) (wv_ixT (wv_ixL (wv_var 5 rfl (Bx.s.mono sF)) (wv_var 9 rfl (.int p.2)) la2) wv_int (atI_nat (j := 0) rfl))) fun _ => wq_eqI (wv_var 14 rfl h2) (wv_ixT (wv_ixL (wv_var 5 rfl (Bx.s.mono sF)) (wv_var 9 rfl (.int p.2)) la2) wv_int (atI_nat (j := 1) rfl)))
          (fun x _ _ F1 v u sF h1 h2 _ _ _ _ _ => wv_var 11 rfl h1) _ af_same _ ?_))
        · have e1 : (addsOf T1).length ≤ T1.evs.length := by
            unfold addsOf evsOf
            rw [List.length_map]
            refine Nat.le_trans (List.length_filter_le _ _) ?_
            rw [idxd_len]
            exact Nat.le_refl _
          omega
        intro vl F10 H10 g10 dl
        replace dl := dl.mono (af_go g10 Bx.nn)
        replace Bx := Bx.sm g10.hh
        replace sx := sx.trans g10.hh
        generalize hlate : List.map (fun x : Int × Int => PyData.int x.1) _ = lates at dl
        have shl : shL lates := by
          rw [← hlate]
          exact shL.map (fun _ => ⟨rfl, Nat.zero_le _⟩) _
        clear hlate
        obtain ⟨ka, kb, ea, kka, eb, kkb, le⟩ := Bx.e
        refine wb_one (w1_update hr (we_var 4 rfl ⟨ld, kb, rfl, eb, we_if (Wq.go (F := AF [nd, ld] H10) (wq_neE hr (wv_var 10 rfl dl) shl) af_same fun H11 s11 => ?_)⟩))
        replace Bx := Bx.sm s11
        replace sx := sx.trans s11
        replace ea := s11 _ _ ea
        replace eb := s11 _ _ eb
        have fin : ∀ {H12 : Hp} {o : Addr} {more : List (List L2.Key × V)}, Same H11 H12 → H11 o = none → H12 o = some (.dT more) → KsN (looksOf T1).length more → ∃ o' kvs2 more', V.ref o = .ref o' ∧ H12 ld = some (.dT kvs2) ∧ H12 o' = some (.dT more') ∧ ld ≠ o' ∧ (kvs2 ≠ [] ∨ (more'.map fun p => tupleKeyHash (mixKind P w) p.1).Nodup) ∧ kvs2.length + more'.length ≤ sizeLine ∧ (F1 nd = none ∧ F1 ld = none ∧ Same F1 (upd H12 ld (.dT (mergeT kvs2 more'))) ∧ ∃ u8' u9' u10', Bs K T1 nd ld v5 v6 H (upd H12 ld (.dT (mergeT kvs2 more'))) (kn.length + kl.length) ∧ [some vt, some (.str kind), some vo, some (.ref nd), some (.ref ld), some v5, some v6, some (.int ((kn.length + kl.length : Nat) : Int)), some (.int p.1), some (.int p.2), some vl, none, none, none, none] = [some vt, some (.str kind), some vo, some (.ref nd), some (.ref ld), some v5, some v6, some (.int ((kn.length + kl.length : Nat) : Int)), u8', u9', u10', none, none, none, none]) := fun {H12 o more} s12 ho em km =>
          ⟨o, kb, more, rfl, s12 _ _ eb, em, (fun z => by rw [← z, eb] at ho; cases ho), .inr km.ks.hash, Nat.le_trans (Nat.add_le_add kkb.ks.few km.ks.few) (by decide), x1, x2, same_mutH (sx.trans s12) x2, _, _, _, (Bx.sm s12).updB (kl := kb) h1 n1 (s12 _ _ ea) kka (kkb.merge km) (Nat.le_trans le (Nat.add_le_add_left (mergeT_le _ _) _)), rfl⟩
        cases hle : (!lates.isEmpty) with
        | true =>
          refine iteT (we_disp1T hr fun pp hpp => ?_)
          refine Wv.go (F := AF [nd, ld] H11) (wv_tup (wvs_cons (wv_var 8 rfl (.int p.1)) (wvs_cons (wv_var 9 rfl (.int p.2)) wvs_nil))) (af_same.trans (same_new hpp)) fun vk H12' H12 g12 dk => ?_
          refine Wv.bl (F := H12') wv_bl g12.fh fun H13 s13 => ?_
          obtain ⟨b3, xs3, rfl, t1, t2⟩ := dk.tup_inv1
          obtain ⟨z1, r, rfl, y3, t2⟩ := t2.cons_inv
          obtain ⟨z2, r, rfl, y4, t2⟩ := t2.cons_inv
          rw [t2.nil_inv, y3.int_inv, y4.int_inv] at t1
          refine ⟨s13 _ _ (g12.hh _ _ upd_same), k2 p, b3, rfl, s13 _ _ (g12.fh _ _ t1), ?_⟩
          exact fin (same_mutH (((same_new hpp).trans g12.hh).trans s13) hpp) hpp upd_same (KsN.nil.put hp l5)
        | false =>
          refine iteF (we_newT fun pp hpp => ?_)
          exact fin (same_new hpp) hpp upd_same KsN.nil
      · rintro F1 σ' H8 ⟨x1, x2, sx, u8, u9, u10, B, rfl⟩
        exact ⟨_, _, _, B, rfl⟩
end
end K29
set_option Elab.async false
set_option linter.all false
set_option maxRecDepth 100000
set_option maxHeartbeats 4000000
set_option pp.maxSteps 300
namespace K29
open PySem PySem.Spec PyProof.Rows L2 LamX
/-- pairs of looks of different people, of those before i -/
def difTo (T : Tab) : Nat → List (Int × Int)
  | 0 => []
  | i + 1 => difTo T i ++ ((List.range (looksOf T).length).filter fun j : Nat => !decide ((lookAt T (i : Int)).2 = (lookAt T (0 + (j : Int))).2)).map fun j : Nat => ((i : Int), 0 + (j : Int))
theorem difTo_mem {T : Tab} : ∀ {n : Nat} {p : Int × Int}, p ∈ difTo T n → n ≤ (looksOf T).length → okLook T p.1 ∧ okLook T p.2 ∧ (lookAt T p.1).2 ≠ (lookAt T p.2).2
  | n + 1, p, h, hn => by
    unfold difTo at h
    rcases List.mem_append.mp h with h | h
    · exact difTo_mem h (by omega)
    · obtain ⟨j, hj, rfl⟩ := List.mem_map.mp h
      obtain ⟨h1, h2⟩ := List.mem_filter.mp hj
      have h1 := List.mem_range.mp h1
      refine ⟨⟨by show (0 : Int) ≤ (n : Int); omega, by show (n : Int) < _; omega⟩, ⟨by show (0 : Int) ≤ 0 + (j : Int); omega, by show 0 + (j : Int) < _; omega⟩, ?_⟩
      simpa using h2
theorem difTo_len {T : Tab} : ∀ n : Nat, (difTo T n).length ≤ n * (looksOf T).length
  | 0 => Nat.zero_le _
  | n + 1 => by
    have ih := difTo_len (T := T) n
    have h := List.length_filter_le (fun j : Nat => !decide ((lookAt T (n : Int)).2 = (lookAt T (0 + (j : Int))).2)) (List.range (looksOf T).length)
    rw [List.length_range] at h
    unfold difTo
    rw [List.length_append, List.length_map, Nat.succ_mul]
    omega
theorem difTo_has {T : Tab} {i j : Nat} (hi : i < (looksOf T).length) (hj : j < (looksOf T).length) (h : (lookAt T i).2 ≠ (lookAt T j).2) : ∀ {n : Nat}, i < n → ((i : Int), (j : Int)) ∈ difTo T n
  | n + 1, hn => by
    unfold difTo
    by_cases e : i = n
    · subst e
      refine List.mem_append_right _ (List.mem_map.mpr ⟨j, List.mem_filter.mpr ⟨List.mem_range.mpr hj, ?_⟩, by rw [Int.zero_add]⟩)
      rw [Int.zero_add]
      simpa using h
    · exact List.mem_append_left _ (difTo_has hi hj h (by omega))
theorem looks_has {T : Tab} {p : Int} (h : Ev.look p ∈ T.evs) : ∃ i : Nat, i < (looksOf T).length ∧ (lookAt T i).2 = p := by
  obtain ⟨k, hk, e⟩ := List.mem_iff_getElem.mp h
  have m : ((k : Int), p) ∈ looksOf T := by
    unfold looksOf evsOf
    refine List.mem_map.mpr ⟨((k : Int), Ev.look p), List.mem_filter.mpr ⟨?_, rfl⟩, rfl⟩
    unfold idxd
    refine List.mem_iff_getElem?.mpr ⟨k, ?_⟩
    rw [List.getElem?_mapIdx, List.getElem?_eq_getElem hk, e]
    rfl
  obtain ⟨i, hi, e2⟩ := List.mem_iff_getElem.mp m
  refine ⟨i, hi, ?_⟩
  unfold lookAt
  rw [Int.toNat_natCast, List.getD_eq_getElem?_getD, List.getElem?_eq_getElem hi, e2]
  rfl
theorem dif_ne {T : Tab} (h : TOk T) : difTo T (looksOf T).length ≠ [] := by
  obtain ⟨i, hi, ei⟩ := looks_has h.l0
  obtain ⟨j, hj, ej⟩ := looks_has h.l1
  intro z
  have := difTo_has hi hj (by rw [ei, ej]; decide) hi
  rw [z] at this
  exact nomatch this
theorem TOk.lk {T : Tab} (h : TOk T) : (looksOf T).length ≤ 5 := by rw [looks_len]; exact h.la
section
variable {P : Program} {w : World} {K : PySem.W.Frag} {mg : Str → Option Value} {base : Heap} {f : Addr} {fd : FuncData}
abbrev n_law_two : List Str := ["_law_box_here", "_law_table_here", "_law_sort_so", "_law_spots_here", "_law_near", "_law_some", "_law_one_so", "_law_good", "_law_two_so", "_law_pair"]
theorem sc_law_two : FnScope n_law_two ["_law_box_here", "_law_table_here", "_law_sort_so"] (C8.fnScope s_law_two) := C8.fnScope_by (by decide +kernel)
def spTwo (K : PySem.W.Frag) : Sp := fun vs H Q _ => ∃ (F : Hp) (l : Addr) (N : Nat) (T : Tab) (kind : Str) (vt : V), vs = [.ref l, vt, .str kind] ∧ Same F H ∧ F l = none ∧ Bx l N H ∧ N ≤ 900 ∧ Dq K F vt (tabD T) ∧ TOk T ∧
  ∀ v p F' H', Gm (fun x => x = l) F H F' H' → Bx l (N + 2) H' → Dq K F' v (prD p) → okLook T p.1 → okLook T p.2 → (lookAt T p.1).2 ≠ (lookAt T p.2).2 → Q v H'
theorem c_two (T : Txt K mg) (ct : C8.Cal P w K mg base 1 "_law_take" (spTake K) []) (co : C8.Cal P w K mg base 2 "_law_of" (spOf K) []) (cs : C8.Cal P w K mg base 1 "_law_spots" (spLooks K) []) (cb : C8.Cal P w K mg base 2 "_law_bound" (spBound K) []) (F : C8.Def K mg "_law_two" s_law_two f fd) (b : Binds K fd ["_law_box_here", "_law_table_here", "_law_sort_so"] []) : C8.Cal P w K mg base 3 "_law_two" (spTwo K) [] := by
  refine calW F b .nil sc_law_two (fun vs H Q E ⟨G, _, _, _, _, _, e, _⟩ => by rw [e]; rfl) fun cdv A outer s H vs Q E hr ⟨G, l, N, T1, kind, vt, e, s0, fl, bx, hN, dt, tok, q⟩ => ?_
  subst e
  have l5 := tok.lk
  have l14 := tok.len
  refine wb_cons (w1_pairC (wa_cons (Wv.go (F := G) (wv_call T1 cs hr (wvs_cons (wv_var 1 rfl dt) wvs_nil) (Nat.le_trans l14 (by decide))) s0 fun v3 F1 H1 g1 d3 => wa_cons (we_call cb hr (wa_cons (we_var 1 rfl (wa_cons (we_var 2 rfl (wa_cons (Wv.go (F := F1) (wv_lst wvs_nil) g1.fh fun vo F2 H2 g2 d2 => wa_nil ?_))))))))))
  refine ⟨F2, T1, kind, vt, vo, rfl, g2.fh, (dt.mono g1.ff).mono g2.ff, d2, by omega, l5, fun nd H3 s3 hnd dd => wa_nil ⟨_, _, rfl, fun tp htp => wgs_cons (wg_name 3 sc_law_two.nd (wgs_cons (wg_name 4 sc_law_two.nd (wgs_nil ?_))))⟩⟩
  obtain ⟨ka, ea, kka⟩ := dd
  have s4 : Same H2 (upd H3 tp (.tup [v3, .ref nd])) := s3.trans (same_new htp)
  have ea4 := (same_new htp (o := .tup [v3, .ref nd])) _ _ ea
  generalize upd H3 tp (.tup [v3, .ref nd]) = H4 at s4 ea4
  clear htp ea s3
  have g4 : Gr G H F2 H4 := (g1.trans g2).trans ⟨Same.refl _, g2.fh.trans s4, s4, fun _ e _ => e⟩
  have hnd0 : H nd = none := g1.hh.free (g2.hh.free hnd)
  have fnd : F2 nd = none := g2.fh.free hnd
  have g5 : Gr G H (upd F2 nd (.dT ka)) H4 := (g4.gm (M := fun _ => False)).freeze hnd0 fnd ea4 |>.gr (fun _ => id)
  have en5 : (upd F2 nd (.dT ka)) nd = some (.dT ka) := upd_same
  have d35 := (d3.mono g2.ff).mono (same_new fnd (o := .dT ka))
  generalize upd F2 nd (.dT ka) = F5 at g5 en5 d35
  clear g4 hnd0 fnd ea4 s4 d2 g2 g1 d3
  refine wb_cons (w1_set 5 sc_law_two.nd (Wv.go (F := F5) (wv_lst wvs_nil) g5.fh fun v5 F6 H6 g6 d6 => ?_))
  refine wb_cons (w1_forD (F := F6) (ds := rangeD 0 (looksOf T1).length) (fun F8 n σ' H' => ∃ Fi v5 u6, Same F8 Fi ∧ Gr F6 H6 Fi H' ∧ Dq K Fi v5 (.list ((difTo T1 n).map prD)) ∧ σ' = [some (.ref l), some vt, some (.str kind), some v3, some (.ref nd), some v5, u6, none, none, none])
    (wsrc_rangeN T.range (wv_callB call_len_seq cd_lenL (wv_var 3 rfl (d35.mono g6.ff)) T.len) ⟨by rw [List.length_map], by omega⟩) g6.fh ?_ ?_ ?_ ?_)
  · exact fun F8 H8 g8 => ⟨F8, v5, none, Same.refl _, g8, d6.mono g8.ff, rfl⟩
  · exact fun F8 n σ' H' ⟨Fi, _, _, s1, g, _⟩ => s1.trans g.fh
  · rintro F8 n dd v σ' H8 H9 ed ⟨Fi, v5, u6, s1, g, d, rfl⟩ hy
    obtain ⟨F9, g9, dv⟩ := hy Fi s1 g.fh
    obtain ⟨hn, rfl⟩ := rangeD_at ed
    rw [dv.int_inv, Int.zero_add]
    have d39 := ((d35.mono g6.ff).mono g.ff).mono g9.ff
    have l0 := lookAt_at (T := T1) (i := (n : Int)) (by omega) (by omega)
    have ld := difTo_len (T := T1) n
    have l25 : n * (looksOf T1).length ≤ 5 * 5 := Nat.mul_le_mul (by omega) l5
    have lf := List.length_filter_le (fun j : Nat => !decide ((lookAt T1 (n : Int)).2 = (lookAt T1 (0 + (j : Int))).2)) (List.range (looksOf T1).length)
    rw [List.length_range] at lf
    refine wg_name 6 sc_law_two.nd (wb_one (w1_set 5 sc_law_two.nd (Wv.go (F := F9) (d := .list ((difTo T1 (n + 1)).map prD)) (Wv.to (wv_catL (wv_var 5 rfl (d.mono g9.ff)) (wv_lc sc_law_two.nd (blkOk_by (own := [("_law_two_so", 8)]) (N := n_law_two) (sc := C8.fnScope s_law_two) (by decide +kernel)) (lcv_n (xs := List.range (looksOf T1).length) (enc := fun i : Nat => .int (0 + (i : Int))) 8 (fun j : Nat => !decide ((lookAt T1 (n : Int)).2 = (lookAt T1 (0 + (j : Int))).2)) (fun j : Nat => prD ((n : Int), 0 + (j : Int))) (wsrc_rangeN T.range (wv_callB call_len_seq cd_lenL (wv_var 3 rfl d39) T.len) ⟨by rw [List.length_map], by omega⟩) (by rw [List.length_range]; omega) (fun _ _ _ _ _ => pg_name (i := 8) sc_law_two.nd rfl (Or.inl rfl)) (fun _ => rfl)
        (fun x hx F1 v sF h1 => ts_one fun _ _ _ _ _ => wq_neI (wv_ixT (wv_ixL (wv_var 3 rfl (d39.mono sF)) (wv_var 6 rfl (.int (n : Nat))) l0) wv_int (atI_nat (j := 1) rfl)) (wv_ixT (wv_ixL (wv_var 3 rfl (d39.mono sF)) (wv_var 8 rfl h1) (lookAt_at (by omega) (by have := List.mem_range.mp hx; omega))) wv_int (atI_nat (j := 1) rfl))) (fun x _ _ F1 v sF h1 _ _ _ _ _ => wv_tup (wvs_cons (wv_var 6 rfl (.int (n : Nat))) (wvs_cons (wv_var 8 rfl h1) wvs_nil))))) ?_) ?_) g9.fh fun v5' Fa Ha ga da => ?_)))
    · rw [List.length_map, List.length_map]
      omega
    · rw [show difTo T1 (n + 1) = difTo T1 n ++ _ from rfl, List.map_append, List.map_map]
      rfl
    · exact ⟨Fa, v5', _, (s1.trans g9.ff).trans ga.ff, (g.trans g9).trans ga, da, rfl⟩
  · rintro F8 σ' H8 ⟨Fi, v5, u6, s1, g, d, rfl⟩
    rw [rangeD_len] at d
    have gA : Gr G H Fi H8 := (g5.trans g6).trans g
    have enA := g.ff _ _ (g6.ff _ _ en5)
    have ld := difTo_len (T := T1) (looksOf T1).length
    have l25 : (looksOf T1).length * (looksOf T1).length ≤ 5 * 5 := Nat.mul_le_mul l5 l5
    have dn := dif_ne tok
    have dm : ∀ p ∈ difTo T1 (looksOf T1).length, okLook T1 p.1 ∧ okLook T1 p.2 ∧ (lookAt T1 p.1).2 ≠ (lookAt T1 p.2).2 := fun p hp => difTo_mem hp (Nat.le_refl _)
    generalize difTo T1 (looksOf T1).length = L at d ld dn dm
    refine wb_cons (w1_setLc (i := 7) sc_law_two.nd (blkOk_by (own := [("_law_pair", 9)]) (N := n_law_two) (sc := C8.fnScope s_law_two) (by decide +kernel)) (lcv_n (F := Fi) (xs := L) (enc := prD) 9 (fun p => Ks.has ka p) prD (wsrc_list (wv_var 5 rfl d)) (by omega) (fun _ _ _ _ _ => pg_name (i := 9) sc_law_two.nd rfl (Or.inl rfl)) (fun _ => rfl) (fun x _ F1 v sF h1 => ts_one fun _ _ _ _ _ => wq_inT hr (wv_var 9 rfl h1) (hd_var 4 rfl) (sF _ _ enA)) (fun x _ _ F1 v sF h1 _ _ _ _ _ => wv_var 9 rfl h1) _ gA.fh _ ?_))
    intro v7 Fb Hb gb db
    have gB := gA.trans gb
    have d5b := d.mono gb.ff
    have flB : Fb l = none := gB.noF fl bx.there.choose_spec
    have bxB := bx.gr gB
    have lg := List.length_filter_le (fun p => Ks.has ka p) L
    have fin : ∀ {H' : Hp} {N' : Nat} {vx : V} {ps : List (Int × Int)}, Gm (fun x => x = l) G H Fb H' → Bx l N' H' → N' ≤ N + 1 → Dq K Fb vx (.list (ps.map prD)) → ps ≠ [] → ps.length ≤ 100 → (∀ p ∈ ps, p ∈ L) → spOf K [.ref l, vx] H' Q C8.E0 := fun {H' N' vx ps} g bx' hN' dv hne hle hsub =>
      ⟨Fb, l, N', vx, ps.map prD, rfl, g.fh, flB, bx', by omega, dv, by rw [List.length_map]; exact List.length_pos_iff.mpr hne, by rw [List.length_map]; exact hle, fun v d H2 hd2 dv2 g2 b2 => by
        obtain ⟨p, hp, rfl⟩ := List.mem_map.mp hd2
        obtain ⟨h1, h2, h3⟩ := dm p (hsub p hp)
        exact q v p Fb H2 (g.trans g2) (b2.le (by omega)) dv2 h1 h2 h3⟩
    refine wb_one (w1_ret (we_call co hr (wa_cons (we_var 0 rfl (wa_cons (we_if (wt_and2 (Wq.go (F := Fb) (wq_neE hr (wv_var 7 rfl db) (shL.prs _)) gB.fh fun Hc sc => ?_))))))))
    have gC : Gm (fun x => x = l) G H Fb Hc := (gB.trans (⟨Same.refl _, gB.fh.trans sc, sc, fun _ e _ => e⟩ : Gr Fb Hb Fb Hc)).gm
    have bxC : Bx l N Hc := bxB.keep fun o e => sc _ _ e
    cases hg : (List.map prD (List.filter (fun p => Ks.has ka p) L)).isEmpty with
    | true =>
      refine iteF (iteF (we_var 5 rfl (wa_nil ?_)))
      exact fin gC bxC (Nat.le_succ _) d5b dn (by omega) fun p hp => hp
    | false =>
      have gne : List.filter (fun p => Ks.has ka p) L ≠ [] := fun z => by
        rw [z] at hg
        cases hg
      refine iteT (wt_cmp op_gt (we_call ct hr (wa_cons (we_var 0 rfl (wa_cons (Wv.int (F := Fb) wv_int gC.fh fun Hd sd => wa_nil ⟨Fb, l, N, 6, rfl, gC.fh.trans sd, flB, bxC.keep fun o e => sd _ _ e, by omega, by decide, by decide, fun r H' hr' g' b' => Wv.int (F := Fb) wv_int g'.fh fun He se => ⟨_, _, rfl, rfl, _, rfl, ?_⟩⟩))))))
      have gD : Gm (fun x => x = l) G H Fb He := ((gC.trans (⟨Same.refl _, gC.fh.trans sd, sd, fun _ e _ => e⟩ : Gr Fb Hc Fb Hd).gm).trans g').trans (⟨Same.refl _, g'.fh.trans se, se, fun _ e _ => e⟩ : Gr Fb H' Fb He).gm
      have bxD : Bx l (N + 1) He := b'.keep fun o e => se _ _ e
      cases decide ((0 : Int) < (r : Int)) with
      | true => exact iteT (we_var 7 rfl (wa_nil (fin gD bxD (Nat.le_refl _) db gne (by omega) fun p hp => (List.mem_filter.mp hp).1)))
      | false => exact iteF (we_var 5 rfl (wa_nil (fin gD bxD (Nat.le_refl _) d5b dn (by omega) fun p hp => hp)))
end
end K29
set_option Elab.async false
set_option linter.all false
set_option maxRecDepth 100000
set_option maxHeartbeats 4000000
set_option pp.maxSteps 300
namespace K29
open PySem PySem.Spec PyProof.Rows L2 LamX
def insideM (sets : List (List Int)) (part : List Int) : Bool := sets.any fun s => (s.filter fun x => !decide (x ∈ part)).isEmpty
theorem any_ne {α β : Type} {g : α → β} {p : α → Bool} : ∀ l : List α, (!(List.map g (l.filter p)).isEmpty) = l.any p
  | [] => rfl
  | x :: r => by
    rw [List.filter_cons, List.any_cons, ← any_ne r]
    cases p x <;> rfl
abbrev insScope : Scope := { kind := .function, names := [(".0", .local), ("_law_own_so", .local), ("_law_part", .cell)], isGenerator := false, isCoroutine := false }
section
variable {P : Program} {w : World} {K : PySem.W.Frag} {mg : Str → Option Value} {base : Heap} {f : Addr} {fd : FuncData}
abbrev n_law_inside : List Str := ["_law_sets", "_law_part", "_law_own_so", "_law_one_so"]
theorem sc_law_inside : FnScope n_law_inside ["_law_sets", "_law_part"] (C8.fnScope s_law_inside) := C8.fnScope_by (by decide +kernel)
abbrev spInside (K : PySem.W.Frag) : Sp := PuT K (fun a : List (List Int) × List Int => [.list (a.1.map tI), tI a.2]) (fun a => a.1.length ≤ 1000 ∧ ∀ s ∈ a.1, s.length ≤ 100) (fun a => .bool (insideM a.1 a.2))
theorem c_inside (F : C8.Def K mg "_law_inside" s_law_inside f fd) (b : Binds K fd ["_law_sets", "_law_part"] []) : C8.Cal P w K mg base 1 "_law_inside" (spInside K) [] := by
  refine calP F b sc_law_inside (fun _ => rfl) fun cdv A outer s H vs Q E G a hr s0 hd hp q => ?_
  obtain ⟨sets, part⟩ := a
  obtain ⟨v1, r, rfl, d1, hd⟩ := hd.cons_inv
  obtain ⟨v2, r, rfl, d2, hd⟩ := hd.cons_inv
  rw [hd.nil_inv]
  have key : (!(List.map tI (sets.filter fun s => ((s.filter fun x => !decide (x ∈ part)).map PyData.int).isEmpty)).isEmpty) = insideM sets part := by
    rw [any_ne]
    unfold insideM
    congr 1
    funext s
    exact List.isEmpty_map
  refine wb_one (w1_ret (Wv.go (Wv.to (wv_neE hr (wv_lc sc_law_inside.nd (blkOk_by (own := [("_law_own_so", 2)]) (N := n_law_inside) (sc := C8.fnScope s_law_inside) (by decide +kernel)) (lcv_n (F := G) (xs := sets) (enc := tI) 2 (fun s => ((s.filter fun x => !decide (x ∈ part)).map PyData.int).isEmpty) tI (wsrc_list (wv_var 0 rfl d1)) (Nat.le_trans hp.1 (by decide)) (fun _ _ _ _ _ => pg_name (i := 2) sc_law_inside.nd rfl (Or.inl rfl)) (fun _ => rfl) (fun x hx F1 v sF h1 => ts_one fun _ _ _ _ _ => wq_eqE hr (wv_lc sc_law_inside.nd (blkOk_by (own := [("_law_one_so", 3)]) (N := n_law_inside) (sc := insScope) (by decide +kernel)) (lcv_n (F := F1) (xs := x) (enc := .int) 3 (fun y => !decide (y ∈ part)) .int (wsrc_tup (wv_var 2 rfl h1)) (Nat.le_trans (hp.2 x hx) (by decide)) (fun _ _ _ _ _ => pg_name (i := 3) sc_law_inside.nd rfl (Or.inl rfl)) (fun _ => rfl) (fun y _ F2 u sF2 h2 => ts_one fun _ _ _ _ _ => wq_notIn (ns := part) (.inr rfl) (wv_var 3 rfl h2) (wv_var 1 rfl ((d2.mono sF).mono sF2))) (fun y _ _ F2 u sF2 h2 _ _ _ _ _ => wv_var 3 rfl h2))) (shL.ints _)) (fun x _ _ F1 v sF h1 _ _ _ _ _ => wv_var 2 rfl h1))) (shL.tups _)) (by rw [key])) s0 q))
end
end K29
set_option Elab.async false
set_option linter.all false
set_option maxRecDepth 100000
set_option maxHeartbeats 4000000
set_option pp.maxSteps 300
/-! the least closed relation is there -/
namespace K29
open PySem PySem.Spec PyProof.Rows L2
def sqP (n : Nat) : List (Int × Int) := (List.range n).flatMap fun i : Nat => (List.range n).map fun j : Nat => (Int.ofNat i, Int.ofNat j)
theorem sqP_mem {n : Nat} {p : Int × Int} : p ∈ sqP n ↔ (0 ≤ p.1 ∧ p.1 < n) ∧ 0 ≤ p.2 ∧ p.2 < n := by
  obtain ⟨a, b⟩ := p
  unfold sqP
  rw [List.mem_flatMap]
  constructor
  · rintro ⟨i, hi, h⟩
    obtain ⟨j, hj, e⟩ := List.mem_map.mp h
    have h1 := List.mem_range.mp hi
    have h2 := List.mem_range.mp hj
    cases e
    exact ⟨⟨Int.natCast_nonneg i, by show (i : Int) < n; omega⟩, Int.natCast_nonneg j, by show (j : Int) < n; omega⟩
  · rintro ⟨⟨h1, h2⟩, h3, h4⟩
    have h1 : 0 ≤ a := h1
    have h3 : 0 ≤ b := h3
    obtain ⟨i, rfl⟩ := Int.eq_ofNat_of_zero_le h1
    obtain ⟨j, rfl⟩ := Int.eq_ofNat_of_zero_le h3
    have h2 : (i : Int) < n := h2
    have h4 : (j : Int) < n := h4
    exact ⟨i, List.mem_range.mpr (by omega), List.mem_map.mpr ⟨j, List.mem_range.mpr (by omega), rfl⟩⟩
theorem sqP_nodup (n : Nat) : (sqP n).Nodup := by
  unfold sqP
  refine List.pairwise_flatMap.mpr ⟨fun i _ => ?_, ?_⟩
  · exact List.pairwise_map.mpr (List.nodup_range.imp fun {a b} h e => h (Int.ofNat.inj (congrArg Prod.snd e)))
  · refine List.nodup_range.imp fun {a b} h x h1 y h2 e1 => ?_
    obtain ⟨j, _, e2⟩ := List.mem_map.mp h1
    obtain ⟨k, _, e3⟩ := List.mem_map.mp h2
    rw [← e2, ← e3] at e1
    exact h (Int.ofNat.inj (congrArg Prod.fst e1))
theorem same_len {α : Type} [DecidableEq α] {A A' : List α} (h : A.Nodup) (h' : A'.Nodup) (s : ∀ x ∈ A, x ∈ A') (e : A'.length ≤ A.length) : ∀ x ∈ A', x ∈ A := fun x hx => Classical.byContradiction fun n => by
  have := nodup_sub_len (x :: A) A' (List.nodup_cons.mpr ⟨n, h⟩) fun y hy => (List.mem_cons.mp hy).elim (fun z => by rw [z]; exact hx) (s y)
  rw [List.length_cons] at this
  omega
theorem al_ex (T : Tab) (kind : Str) (gone : List Int) (oa : okPairs ((looksOf T).length : Nat) (goM T kind gone T.evs.length).A) (ob : okPairs ((looksOf T).length : Nat) (goM T kind gone T.evs.length).B) (sy : Sym (goM T kind gone T.evs.length).A) : ∃ A, AlOk T kind gone A := by
  unfold AlOk
  generalize (goM T kind gone T.evs.length).A = gA at oa sy ⊢
  generalize (goM T kind gone T.evs.length).B = gB at ob ⊢
  let MA : Int × Int → Prop := fun p => ∀ RA RB, Cl T RA RB → Sb gA RA → Sb gB RB → RA p.1 p.2
  let MB : Int × Int → Prop := fun p => ∀ RA RB, Cl T RA RB → Sb gA RA → Sb gB RB → RB p.1 p.2
  let A1 := (sqP (looksOf T).length).filter fun p => @decide (MA p) (Classical.propDecidable _)
  let B1 := (sqP (looksOf T).length).filter fun p => @decide (MB p) (Classical.propDecidable _)
  have mA : ∀ p, p ∈ A1 ↔ p ∈ sqP (looksOf T).length ∧ MA p := fun p => by
    show p ∈ List.filter _ _ ↔ _
    rw [List.mem_filter, @decide_eq_true_iff _ (Classical.propDecidable _)]
  have mB : ∀ p, p ∈ B1 ↔ p ∈ sqP (looksOf T).length ∧ MB p := fun p => by
    show p ∈ List.filter _ _ ↔ _
    rw [List.mem_filter, @decide_eq_true_iff _ (Classical.propDecidable _)]
  have ndA : A1.Nodup := (sqP_nodup _).filter _
  have ndB : B1.Nodup := (sqP_nodup _).filter _
  have subA : ∀ p ∈ gA, p ∈ A1 := fun p hp => (mA p).mpr ⟨sqP_mem.mpr (oa.2 p hp), fun RA RB c a b => a _ _ hp⟩
  have subB : ∀ p ∈ gB, p ∈ B1 := fun p hp => (mB p).mpr ⟨sqP_mem.mpr (ob.2 p hp), fun RA RB c a b => b _ _ hp⟩
  -- the same members, as lists
  have key : ∀ (A B : List (Int × Int)) (r : Bool), (∀ p, p ∈ A ↔ p ∈ A1) → (∀ p, p ∈ B ↔ p ∈ B1) → A.Nodup → B.Nodup → (r = false → A = gA ∧ B = gB) → (r = true → gA.length + gB.length < A.length + B.length) → ∃ A B r, Rl T ((looksOf T).length : Nat) gA gB A B r ∧ AllDn T ((looksOf T).length : Nat) A B := by
    intro A B r hA hB nA nB h1 h2
    have rA : ∀ {i j}, (i, j) ∈ A → (0 ≤ i ∧ i < ((looksOf T).length : Nat)) ∧ 0 ≤ j ∧ j < ((looksOf T).length : Nat) := fun {i j} m => sqP_mem.mp ((mA _).mp ((hA _).mp m)).1
    have rB : ∀ {i j}, (i, j) ∈ B → (0 ≤ i ∧ i < ((looksOf T).length : Nat)) ∧ 0 ≤ j ∧ j < ((looksOf T).length : Nat) := fun {i j} m => sqP_mem.mp ((mB _).mp ((hB _).mp m)).1
    have pA : ∀ {i j}, (i, j) ∈ A → MA (i, j) := fun {i j} m => ((mA _).mp ((hA _).mp m)).2
    have pB : ∀ {i j}, (i, j) ∈ B → MB (i, j) := fun {i j} m => ((mB _).mp ((hB _).mp m)).2
    have iA : ∀ {i j : Int}, (0 ≤ i ∧ i < ((looksOf T).length : Nat)) → (0 ≤ j ∧ j < ((looksOf T).length : Nat)) → MA (i, j) → (i, j) ∈ A := fun {i j} a b m => (hA _).mpr ((mA _).mpr ⟨sqP_mem.mpr ⟨a, b⟩, m⟩)
    have iB : ∀ {i j : Int}, (0 ≤ i ∧ i < ((looksOf T).length : Nat)) → (0 ≤ j ∧ j < ((looksOf T).length : Nat)) → MB (i, j) → (i, j) ∈ B := fun {i j} a b m => (hB _).mpr ((mB _).mpr ⟨sqP_mem.mpr ⟨a, b⟩, m⟩)
    have un : ∀ {A : List (Int × Int)} {i j : Int}, hasS A i j = true → i ≠ j → (i, j) ∈ A := fun {A i j} h ne => (hasS_iff.mp h).resolve_left ne
    refine ⟨A, B, r, ⟨⟨nA, fun p hp => rA hp⟩, ⟨nB, fun p hp => rB hp⟩, fun i j m => iA (rA m).2 (rA m).1 fun RA RB c a b => c.sy _ _ (pA m RA RB c a b), fun RA RB c a b => ⟨fun i j m => pA m RA RB c a b, fun i j m => pB m RA RB c a b⟩, ⟨fun p hp => (hA p).mpr (subA p hp), fun p hp => (hB p).mpr (subB p hp)⟩, h1, h2⟩, fun i j i0 i1 j0 j1 => ⟨fun m => ?_, fun m k k0 k1 m2 => ?_, fun m k k0 k1 nk m2 => ?_, fun ne m l => ?_⟩⟩
    · by_cases e : i = j
      · exact hasS_iff.mpr (.inl e)
      · exact hasS_iff.mpr (.inr (iA (rB m).1 (rB m).2 fun RA RB c a b => c.c1 _ _ e (pB m RA RB c a b)))
    · by_cases e : i = k
      · exact hasS_iff.mpr (.inl e)
      · exact hasS_iff.mpr (.inr (iB (rB m).1 (rB m2).2 fun RA RB c a b => c.c2 _ _ _ e (pB m RA RB c a b) (pB m2 RA RB c a b)))
    · by_cases e : i = k
      · exact hasS_iff.mpr (.inl e)
      · have m3 := un m2 nk.symm
        exact hasS_iff.mpr (.inr (iA (rB m).1 (rA m3).2 fun RA RB c a b => c.c3 _ _ _ e nk (pB m RA RB c a b) (pA m3 RA RB c a b)))
    · have m3 := un m ne
      exact hasS_iff.mpr (.inr (iB (rA m3).1 (rA m3).2 fun RA RB c a b => c.c4 _ _ ne (pA m3 RA RB c a b) l))
  have lA := nodup_sub_len gA A1 oa.1 subA
  have lB := nodup_sub_len gB B1 ob.1 subB
  by_cases z : A1.length + B1.length ≤ gA.length + gB.length
  · exact key gA gB false (fun p => ⟨subA p, same_len oa.1 ndA subA (by omega) p⟩) (fun p => ⟨subB p, same_len ob.1 ndB subB (by omega) p⟩) oa.1 ob.1 (fun _ => ⟨rfl, rfl⟩) (fun h => nomatch h)
  · exact key A1 B1 true (fun _ => Iff.rfl) (fun _ => Iff.rfl) ndA ndB (fun h => nomatch h) (fun _ => by omega)
end K29
set_option Elab.async false
set_option linter.all false
set_option maxRecDepth 100000
set_option maxHeartbeats 4000000
set_option pp.maxSteps 300
/-! kind "short" binds no more than kind "long" -/
namespace K29
open PySem PySem.Spec PyProof.Rows L2
theorem in_addS {A : List (Int × Int)} {i j : Int} {z : Int × Int} (h : z ∈ addS A i j) : z ∈ A ∨ (i ≠ j ∧ (z = (i, j) ∨ z = (j, i))) := by
  unfold addS at h
  by_cases q : hasS A i j = true
  · rw [if_pos q] at h
    exact .inl h
  · rw [if_neg q] at h
    rcases List.mem_append.mp h with h | h
    · exact .inl h
    · refine .inr ⟨fun e => q (hasS_iff.mpr (.inl e)), ?_⟩
      simpa using h
theorem addS_sub {A : List (Int × Int)} {i j : Int} {z : Int × Int} (h : z ∈ A) : z ∈ addS A i j := by
  unfold addS
  split
  · exact h
  · exact List.mem_append_left _ h
theorem addS_has {A : List (Int × Int)} {i j : Int} (s : Sym A) (n : i ≠ j) : (i, j) ∈ addS A i j ∧ (j, i) ∈ addS A i j := by
  unfold addS
  by_cases q : hasS A i j = true
  · rw [if_pos q]
    have := (hasS_iff.mp q).resolve_left n
    exact ⟨this, s _ _ this⟩
  · rw [if_neg q]
    exact ⟨List.mem_append_right _ (by simp), List.mem_append_right _ (by simp)⟩
theorem in_add1 {A : List (Int × Int)} {i j : Int} {z : Int × Int} (h : z ∈ add1 A i j) : z ∈ A ∨ (i ≠ j ∧ z = (i, j)) := by
  unfold add1 at h
  by_cases q : hasS A i j = true
  · rw [if_pos q] at h
    exact .inl h
  · rw [if_neg q] at h
    rcases List.mem_append.mp h with h | h
    · exact .inl h
    · exact .inr ⟨fun e => q (hasS_iff.mpr (.inl e)), List.mem_singleton.mp h⟩
theorem add1_sub {A : List (Int × Int)} {i j : Int} {z : Int × Int} (h : z ∈ A) : z ∈ add1 A i j := by
  unfold add1
  split
  · exact h
  · exact List.mem_append_left _ h
theorem add1_has {A : List (Int × Int)} {i j : Int} (n : i ≠ j) : (i, j) ∈ add1 A i j := by
  unfold add1
  by_cases q : hasS A i j = true
  · rw [if_pos q]
    exact (hasS_iff.mp q).resolve_left n
  · rw [if_neg q]
    exact List.mem_append_right _ (List.mem_singleton.mpr rfl)
theorem in_f1 {nr : Int} {z : Int × Int} : ∀ {xs : List Int} {B : List (Int × Int)}, z ∈ xs.foldl (fun B o => add1 B o nr) B → z ∈ B ∨ ∃ o ∈ xs, o ≠ nr ∧ z = (o, nr)
  | [], B, h => .inl h
  | x :: r, B, h => by
    rcases in_f1 (xs := r) h with h | ⟨o, ho, e⟩
    · rcases in_add1 h with h | h
      · exact .inl h
      · exact .inr ⟨x, List.mem_cons_self .., h⟩
    · exact .inr ⟨o, List.mem_cons_of_mem _ ho, e⟩
theorem f1_sub {nr : Int} {z : Int × Int} : ∀ {xs : List Int} {B : List (Int × Int)}, z ∈ B → z ∈ xs.foldl (fun B o => add1 B o nr) B
  | [], B, h => h
  | x :: r, B, h => f1_sub (xs := r) (add1_sub h)
theorem f1_has {nr o : Int} (n : o ≠ nr) : ∀ {xs : List Int} {B : List (Int × Int)}, o ∈ xs → (o, nr) ∈ xs.foldl (fun B o => add1 B o nr) B
  | x :: r, B, h => by
    rcases List.mem_cons.mp h with rfl | h
    · exact f1_sub (xs := r) (add1_has n)
    · exact f1_has n (xs := r) h
theorem sym_addS {A : List (Int × Int)} {i j : Int} (s : Sym A) : Sym (addS A i j) := fun a b h => by
  rcases in_addS h with h | ⟨n, h | h⟩
  · exact addS_sub (s _ _ h)
  · cases h
    exact (addS_has s n).2
  · cases h
    exact (addS_has s n).1
theorem in_b1 {x : Int} {z : Int × Int} : ∀ {ys : List Int} {A : List (Int × Int)}, z ∈ ys.foldl (fun A y => addS A x y) A → z ∈ A ∨ ∃ y ∈ ys, x ≠ y ∧ (z = (x, y) ∨ z = (y, x))
  | [], A, h => .inl h
  | y :: r, A, h => by
    rcases in_b1 (ys := r) h with h | ⟨o, ho, e⟩
    · rcases in_addS h with h | h
      · exact .inl h
      · exact .inr ⟨y, List.mem_cons_self .., h⟩
    · exact .inr ⟨o, List.mem_cons_of_mem _ ho, e⟩
theorem b1_sub {x : Int} {z : Int × Int} : ∀ {ys : List Int} {A : List (Int × Int)}, z ∈ A → z ∈ ys.foldl (fun A y => addS A x y) A
  | [], A, h => h
  | y :: r, A, h => b1_sub (ys := r) (addS_sub h)
theorem b1_sym {x : Int} : ∀ {ys : List Int} {A : List (Int × Int)}, Sym A → Sym (ys.foldl (fun A y => addS A x y) A)
  | [], A, h => h
  | y :: r, A, h => b1_sym (ys := r) (sym_addS h)
theorem b1_has {x y : Int} (n : x ≠ y) : ∀ {ys : List Int} {A : List (Int × Int)}, Sym A → y ∈ ys → (x, y) ∈ ys.foldl (fun A y => addS A x y) A ∧ (y, x) ∈ ys.foldl (fun A y => addS A x y) A
  | u :: r, A, s, h => by
    rcases List.mem_cons.mp h with rfl | h
    · obtain ⟨h1, h2⟩ := addS_has s n
      exact ⟨b1_sub (ys := r) h1, b1_sub (ys := r) h2⟩
    · exact b1_has n (ys := r) (sym_addS s) h
theorem in_bAll {z : Int × Int} : ∀ {xs ys : List Int} {A : List (Int × Int)}, z ∈ bindAll A xs ys → z ∈ A ∨ ∃ x ∈ xs, ∃ y ∈ ys, x ≠ y ∧ (z = (x, y) ∨ z = (y, x))
  | [], ys, A, h => .inl h
  | x :: r, ys, A, h => by
    have h : z ∈ bindAll (ys.foldl (fun A y => addS A x y) A) r ys := h
    rcases in_bAll h with h | ⟨o, ho, e⟩
    · rcases in_b1 h with h | h
      · exact .inl h
      · exact .inr ⟨x, List.mem_cons_self .., h⟩
    · exact .inr ⟨o, List.mem_cons_of_mem _ ho, e⟩
theorem bb_sub {both : List Int} {z : Int × Int} : ∀ {L : List (Int × Int)} {A : List (Int × Int)}, z ∈ A → z ∈ L.foldl (fun A q => (both.drop (q.1.toNat + 1)).foldl (fun A y => addS A q.2 y) A) A
  | [], A, h => h
  | q :: r, A, h => bb_sub (L := r) (b1_sub h)
theorem bb_has {both : List Int} {i x y : Int} (n : x ≠ y) (hy : y ∈ both.drop (i.toNat + 1)) : ∀ {L : List (Int × Int)} {A : List (Int × Int)}, Sym A → (i, x) ∈ L → (x, y) ∈ L.foldl (fun A q => (both.drop (q.1.toNat + 1)).foldl (fun A y => addS A q.2 y) A) A ∧ (y, x) ∈ L.foldl (fun A q => (both.drop (q.1.toNat + 1)).foldl (fun A y => addS A q.2 y) A) A
  | q :: r, A, s, h => by
    rcases List.mem_cons.mp h with rfl | h
    · obtain ⟨h1, h2⟩ := b1_has (x := x) n s hy
      exact ⟨bb_sub (L := r) h1, bb_sub (L := r) h2⟩
    · exact bb_has n hy (L := r) (b1_sym s) h
theorem idxd_in {α : Type} {l : List α} {k : Nat} {x : α} (h : l[k]? = some x) : ((k : Int), x) ∈ idxd l := by
  unfold idxd
  refine List.mem_iff_getElem?.mpr ⟨k, ?_⟩
  rw [List.getElem?_mapIdx, h]
  rfl
theorem drop_in {α : Type} {l : List α} {i k : Nat} {x : α} (h : l[k]? = some x) (n : i ≤ k) : x ∈ l.drop i := by
  refine List.mem_iff_getElem?.mpr ⟨k - i, ?_⟩
  rw [List.getElem?_drop, show i + (k - i) = k by omega, h]
theorem bindBoth_has {both : List Int} {A : List (Int × Int)} {x y : Int} (s : Sym A) (hx : x ∈ both) (hy : y ∈ both) (n : x ≠ y) : (x, y) ∈ bindBoth A both := by
  obtain ⟨i, hi⟩ := List.mem_iff_getElem?.mp hx
  obtain ⟨j, hj⟩ := List.mem_iff_getElem?.mp hy
  have ne : i ≠ j := fun e => by
    rw [e, hj] at hi
    exact n (Option.some.inj hi).symm
  unfold bindBoth
  by_cases q : i < j
  · exact (bb_has (i := (i : Int)) n (drop_in hj (by omega)) s (idxd_in hi)).1
  · exact (bb_has (i := (j : Int)) n.symm (drop_in hi (by omega)) s (idxd_in hj)).2
theorem bindBoth_sub {both : List Int} {A : List (Int × Int)} {z : Int × Int} (h : z ∈ A) : z ∈ bindBoth A both := bb_sub h
theorem last1_in {l : List Int} {x : Int} (h : x ∈ last1 l) : x ∈ l := List.mem_of_mem_drop (List.mem_of_mem_take h)
/-- what short has, long has -/
structure Sbg (s l : GS) : Prop where
  a : ∀ p ∈ s.A, p ∈ l.A
  b : ∀ p ∈ s.B, p ∈ l.B
  h : ∀ p x, x ∈ s.hs p → x ∈ l.hs p
  nr : s.nr = l.nr
  sy : Sym l.A
theorem Sbg.step {s l : GS} {gone : List Int} {x : Int × Ev} (h : Sbg s l) (sy : Sym (stepM "long" gone l x).A) : Sbg (stepM "short" gone s x) (stepM "long" gone l x) := by
  have nr : (stepM "short" gone s x).nr = (stepM "long" gone l x).nr := by
    unfold stepM
    show (if _ then s.nr + 1 else s.nr) = (if _ then l.nr + 1 else l.nr)
    rw [h.nr]
  have cmp : ∀ meet p q, (∀ z ∈ (comparedM "short" s meet p q).A, z ∈ (comparedM "long" l meet p q).A) ∧ (∀ z ∈ (comparedM "short" s meet p q).B, z ∈ (comparedM "long" l meet p q).B) ∧ ∀ r y, y ∈ (comparedM "short" s meet p q).hs r → y ∈ (comparedM "long" l meet p q).hs r := by
    intro meet p q
    unfold comparedM
    rw [if_neg (by decide), if_pos rfl]
    refine ⟨fun z hz => ?_, h.b, fun r y hy => ?_⟩
    · rcases in_bAll hz with hz | ⟨a, ha, b, hb, n, e⟩
      · exact bindBoth_sub (h.a z hz)
      · have h1 : a ∈ srtM (l.hs p ++ l.hs q) := mem_srtM.mpr (List.mem_append_left _ (h.h p a (last1_in ha)))
        have h2 : b ∈ srtM (l.hs p ++ l.hs q) := mem_srtM.mpr (List.mem_append_right _ (h.h q b (last1_in hb)))
        rcases e with rfl | rfl
        · exact bindBoth_has h.sy h1 h2 n
        · exact bindBoth_has h.sy h2 h1 n.symm
    · have hy := h.h r y hy
      dsimp only
      cases meet with
      | true =>
        show y ∈ updF (updF l.hs q _) p _ r
        unfold updF
        by_cases e1 : r = p
        · rw [if_pos e1]
          exact mem_srtM.mpr (List.mem_append_left _ (by rw [← e1]; exact hy))
        · rw [if_neg e1]
          by_cases e2 : r = q
          · rw [if_pos e2]
            exact mem_srtM.mpr (List.mem_append_right _ (by rw [← e2]; exact hy))
          · rw [if_neg e2]
            exact hy
      | false =>
        show y ∈ updF l.hs q _ r
        unfold updF
        by_cases e2 : r = q
        · rw [if_pos e2]
          exact mem_srtM.mpr (List.mem_append_right _ (by rw [← e2]; exact hy))
        · rw [if_neg e2]
          exact hy
  have main : (∀ z ∈ (stepM "short" gone s x).A, z ∈ (stepM "long" gone l x).A) ∧ (∀ z ∈ (stepM "short" gone s x).B, z ∈ (stepM "long" gone l x).B) ∧ ∀ r y, y ∈ (stepM "short" gone s x).hs r → y ∈ (stepM "long" gone l x).hs r := by
    unfold stepM
    dsimp only
    by_cases g : x.1 ∈ gone
    · rw [if_pos g, if_pos g]
      exact ⟨h.a, h.b, h.h⟩
    · rw [if_neg g, if_neg g]
      cases x.2 with
      | look p =>
        refine ⟨h.a, fun z hz => ?_, fun r y hy => ?_⟩
        · rcases in_f1 hz with hz | ⟨o, ho, n, rfl⟩
          · exact f1_sub (h.b z hz)
          · rw [h.nr] at n ⊢
            exact f1_has n (h.h p o ho)
        · show y ∈ updF l.hs p (l.hs p ++ [l.nr]) r
          have hy : y ∈ updF s.hs p (s.hs p ++ [s.nr]) r := hy
          unfold updF at hy ⊢
          by_cases e : r = p
          · rw [if_pos e] at hy ⊢
            rcases List.mem_append.mp hy with hy | hy
            · exact List.mem_append_left _ (h.h p y hy)
            · rw [h.nr] at hy
              exact List.mem_append_right _ hy
          · rw [if_neg e] at hy ⊢
            exact h.h r y hy
      | add p => exact ⟨h.a, h.b, h.h⟩
      | meet p q => exact cmp true p q
      | tell p q => exact cmp false p q
  exact ⟨main.1, main.2.1, main.2.2, nr, sy⟩
end K29
set_option Elab.async false
set_option linter.all false
set_option maxRecDepth 100000
set_option maxHeartbeats 4000000
set_option pp.maxSteps 300
namespace K29
open PySem PySem.Spec PyProof.Rows L2
theorem goM_next {T : Tab} {kind : Str} {gone : List Int} {i : Nat} {x : Int × Ev} (h : (idxd T.evs)[i]? = some x) : goM T kind gone (i + 1) = stepM kind gone (goM T kind gone i) x := by
  unfold goM
  rw [List.take_add_one, h, List.foldl_append]
  rfl
theorem go_sub (T : Tab) (gone : List Int) : ∀ i, i ≤ T.evs.length → Sbg (goM T "short" gone i) (goM T "long" gone i)
  | 0, _ => ⟨fun p h => (nomatch h), fun p h => (nomatch h), fun p x h => (nomatch h), rfl, fun i j h => (nomatch h)⟩
  | i + 1, hi => by
    have ih := go_sub T gone i (by omega)
    have li : i < (idxd T.evs).length := by rw [idxd_len]; omega
    have e : (idxd T.evs)[i]? = some (idxd T.evs)[i] := List.getElem?_eq_getElem li
    have sy := (goM_ok T "long" gone (i + 1) hi).1.sy
    rw [goM_next e] at sy ⊢
    rw [goM_next e]
    exact ih.step sy
theorem al_there (T : Tab) (kind : Str) (gone : List Int) : ∃ A, AlOk T kind gone A := by
  have g := (goM_ok T kind gone T.evs.length (Nat.le_refl _)).1
  exact al_ex T kind gone g.a g.b g.sy
/-- who hands on the longer head binds no less -/
theorem al_mono {T : Tab} {gone : List Int} {i j : Int} (h : alB T "short" gone i j = true) : alB T "long" gone i j = true := by
  obtain ⟨A, hA⟩ := al_there T "short" gone
  obtain ⟨B, hB⟩ := al_there T "long" gone
  rw [← alB_of hA] at h
  rw [← alB_of hB]
  rcases hasS_iff.mp h with e | m
  · exact hasS_iff.mpr (.inl e)
  · obtain ⟨RB, c, s1, s2, _, _⟩ := closed_of hB
    obtain ⟨_, _, _, _, _, snd⟩ := closed_of hA
    have g := go_sub T gone T.evs.length (Nat.le_refl _)
    exact hasS_iff.mpr (.inr (snd _ _ c (fun i j m => s1 _ (g.a _ m)) (fun i j m => s2 _ (g.b _ m)) i j m))
end K29
set_option Elab.async false
set_option linter.all false
set_option maxRecDepth 100000
set_option maxHeartbeats 4000000
set_option pp.maxSteps 300
/-! the least choices that are enough -/
namespace K29
open PySem PySem.Spec PyProof.Rows L2
theorem leStep_sub {fB : List Int → Bool} {found : List (List Int)} {c p : List Int} (h : p ∈ found) : p ∈ leStep fB found c := by
  unfold leStep
  split
  · exact List.mem_append_left _ h
  · exact h
theorem leStep_sat {fB : List Int → Bool} {found : List (List Int)} {c p : List Int} (h : p ∈ leStep fB found c) : p ∈ found ∨ fB p = true := by
  unfold leStep at h
  split at h
  · rename_i z
    rcases List.mem_append.mp h with h | h
    · exact .inl h
    · rw [List.mem_singleton.mp h]
      exact .inr (Bool.and_eq_true_iff.mp z).2
  · exact .inl h
theorem leStep_has {fB : List Int → Bool} {found : List (List Int)} {c : List Int} (h : fB c = true) : ∃ p ∈ leStep fB found c, hasAll c p = true := by
  unfold leStep
  rw [h, Bool.and_true]
  cases q : found.any fun p => hasAll c p with
  | true =>
    obtain ⟨p, hp, e⟩ := List.any_eq_true.mp q
    exact ⟨p, by simpa using hp, e⟩
  | false => exact ⟨c, by simp, hasAll_self c⟩
theorem leF_sub {fB : List Int → Bool} {p : List Int} : ∀ {cs : List (List Int)} {found : List (List Int)}, p ∈ found → p ∈ cs.foldl (leStep fB) found
  | [], _, h => h
  | c :: r, _, h => leF_sub (cs := r) (leStep_sub h)
theorem leF_sat {fB : List Int → Bool} {p : List Int} : ∀ {cs : List (List Int)} {found : List (List Int)}, p ∈ cs.foldl (leStep fB) found → p ∈ found ∨ fB p = true
  | [], _, h => .inl h
  | c :: r, _, h => (leF_sat (cs := r) h).elim leStep_sat .inr
theorem leF_has {fB : List Int → Bool} {c : List Int} (h : fB c = true) : ∀ {cs : List (List Int)} {found : List (List Int)}, c ∈ cs → ∃ p ∈ cs.foldl (leStep fB) found, hasAll c p = true
  | x :: r, found, hc => by
    rcases List.mem_cons.mp hc with rfl | hc
    · obtain ⟨p, hp, e⟩ := leStep_has (found := found) h
      exact ⟨p, leF_sub (cs := r) hp, e⟩
    · exact leF_has h (cs := r) hc
theorem leT_sat {items : List Int} {fB : List Int → Bool} {p : List Int} : ∀ n, p ∈ leTo items fB n → fB p = true
  | 0, h => nomatch h
  | n + 1, h => by
    rw [leTo_succ] at h
    exact (leF_sat h).elim (leT_sat n) id
theorem leT_has {items : List Int} {fB : List Int → Bool} {c : List Int} {k : Nat} (hc : c ∈ chs items k) (h : fB c = true) : ∀ n, k < n → ∃ p ∈ leTo items fB n, hasAll c p = true
  | n + 1, hn => by
    rw [leTo_succ]
    by_cases e : k = n
    · subst e
      exact leF_has h hc
    · obtain ⟨p, hp, q⟩ := leT_has hc h n (by omega)
      exact ⟨p, leF_sub hp, q⟩
theorem chs_of : ∀ {c items : List Int}, c.Sublist items → c ∈ chs items c.length
  | _, _, .slnil => by simp [chs]
  | c, _ :: r, .cons a s => by
    cases c with
    | nil => simp [chs]
    | cons x y =>
      show _ ∈ (chs r y.length).map (a :: ·) ++ chs r (y.length + 1)
      exact List.mem_append_right _ (chs_of s)
  | _ :: c, _ :: r, .cons₂ a s => by
    show _ ∈ (chs r c.length).map (a :: ·) ++ chs r (c.length + 1)
    exact List.mem_append_left _ (List.mem_map.mpr ⟨c, chs_of s, rfl⟩)
theorem leM_sat {items : List Int} {fB : List Int → Bool} {p : List Int} (h : p ∈ leM items fB) : fB p = true ∧ p.Sublist items := ⟨leT_sat _ h, (leTo_ok items fB _).2 p h⟩
theorem leM_has {items : List Int} {fB : List Int → Bool} {c : List Int} (s : c.Sublist items) (h : fB c = true) : ∃ p ∈ leM items fB, ∀ x ∈ p, x ∈ c := by
  obtain ⟨p, hp, e⟩ := leT_has (chs_of s) h (items.length + 1) (by have := s.length_le; omega)
  refine ⟨p, hp, fun x hx => ?_⟩
  unfold hasAll at e
  exact of_decide_eq_true (List.all_eq_true.mp e x hx)
/-- what is enough for less is enough for more: each choice holds one of the other kind -/
theorem leM_in {items : List Int} {fS fL : List Int → Bool} (m : ∀ c, fS c = true → fL c = true) {c : List Int} (h : c ∈ leM items fS) : ∃ p ∈ leM items fL, ∀ x ∈ p, x ∈ c := by
  obtain ⟨h1, h2⟩ := leM_sat h
  exact leM_has h2 (m c h1)
end K29
set_option Elab.async false
set_option linter.all false
set_option maxRecDepth 100000
set_option maxHeartbeats 4000000
set_option pp.maxSteps 300
/-! the least hitting set -/
namespace K29
open PySem PySem.Spec PyProof.Rows L2
theorem fstAt_some {α : Type} {f : Nat → Option α} {c : α} : ∀ {n s : Nat}, firstAt f n s = some c → ∃ k, s ≤ k ∧ k < s + n ∧ f k = some c ∧ ∀ j, s ≤ j → j < k → f j = none
  | n + 1, s, h => by
    unfold firstAt at h
    cases e : f s with
    | some d =>
      rw [e] at h
      cases h
      exact ⟨s, Nat.le_refl _, by omega, e, fun j h1 h2 => by omega⟩
    | none =>
      rw [e] at h
      obtain ⟨k, h1, h2, h3, h4⟩ := fstAt_some h
      refine ⟨k, by omega, by omega, h3, fun j g1 g2 => ?_⟩
      by_cases q : j = s
      · rw [q]
        exact e
      · exact h4 j (by omega) g2
theorem fstAt_none {α : Type} {f : Nat → Option α} : ∀ {n s : Nat}, firstAt f n s = none → ∀ j, s ≤ j → j < s + n → f j = none
  | 0, s, _, j, h1, h2 => by omega
  | n + 1, s, h, j, h1, h2 => by
    unfold firstAt at h
    cases e : f s with
    | some d =>
      rw [e] at h
      cases h
    | none =>
      rw [e] at h
      by_cases q : j = s
      · rw [q]
        exact e
      · exact fstAt_none h j (by omega) (by omega)
theorem hitAt_none {sets : List (List Int)} {s : Nat} (h : hitAt sets s = none) {c : List Int} (hc : c.Sublist (itemsOf sets)) (hl : c.length = s) : hitsM c sets = false := by
  unfold hitAt at h
  rw [List.head?_eq_none_iff, List.filter_eq_nil_iff] at h
  have := h c (by rw [← hl]; exact chs_of hc)
  simpa using this
theorem hitAt_some {sets : List (List Int)} {s : Nat} {c : List Int} (h : hitAt sets s = some c) : c.Sublist (itemsOf sets) ∧ c.length = s ∧ hitsM c sets = true := by
  unfold hitAt at h
  obtain ⟨h1, h2⟩ := List.mem_filter.mp (List.mem_of_head? h)
  obtain ⟨h3, h4⟩ := chs_sub _ _ _ h1
  exact ⟨h3, h4, h2⟩
theorem lhit_some {sets : List (List Int)} {c : List Int} (h : lhit sets = some c) : c.Sublist (itemsOf sets) ∧ hitsM c sets = true ∧ ∀ c', c'.Sublist (itemsOf sets) → hitsM c' sets = true → c.length ≤ c'.length := by
  obtain ⟨k, _, _, h3, h4⟩ := fstAt_some h
  obtain ⟨g1, g2, g3⟩ := hitAt_some h3
  refine ⟨g1, g3, fun c' s' h' => ?_⟩
  refine Nat.not_lt.mp fun n => ?_
  have := hitAt_none (h4 c'.length (Nat.zero_le _) (by omega)) s' rfl
  rw [h'] at this
  cases this
theorem lhit_none {sets : List (List Int)} (h : lhit sets = none) {c : List Int} (hc : c.Sublist (itemsOf sets)) : hitsM c sets = false :=
  hitAt_none (fstAt_none h c.length (Nat.zero_le _) (by have := hc.length_le; omega)) hc rfl
end K29
set_option Elab.async false
set_option linter.all false
set_option maxRecDepth 100000
set_option maxHeartbeats 4000000
set_option pp.maxSteps 300
namespace K29
open PySem PySem.Spec PyProof.Rows L2
theorem hitsM_iff {c : List Int} {sets : List (List Int)} : hitsM c sets = true ↔ ∀ p ∈ sets, ∃ y ∈ p, y ∈ c := by
  unfold hitsM
  rw [List.all_eq_true]
  refine ⟨fun h p hp => ?_, fun h p hp => ?_⟩
  · obtain ⟨y, hy, e⟩ := List.any_eq_true.mp (h p hp)
    exact ⟨y, hy, of_decide_eq_true e⟩
  · obtain ⟨y, hy, e⟩ := h p hp
    exact List.any_eq_true.mpr ⟨y, hy, decide_eq_true e⟩
theorem mem_items {sets : List (List Int)} {x : Int} : x ∈ itemsOf sets ↔ ∃ p ∈ sets, x ∈ p := by
  unfold itemsOf
  rw [mem_srtM, List.mem_flatten]
/-- where each set of S holds one of L, no more is needed to hit S -/
theorem lhit_mono {S L : List (List Int)} (h : ∀ s ∈ S, ∃ l ∈ L, ∀ x ∈ l, x ∈ s) {lo : List Int} (e : lhit L = some lo) : ∃ so, lhit S = some so ∧ so.length ≤ lo.length := by
  obtain ⟨h1, h2, _⟩ := lhit_some e
  have h2 := hitsM_iff.mp h2
  have sub : ((itemsOf S).filter fun x => decide (x ∈ lo)).Sublist (itemsOf S) := List.filter_sublist
  have hit : hitsM ((itemsOf S).filter fun x => decide (x ∈ lo)) S = true := hitsM_iff.mpr fun s hs => by
    obtain ⟨l, hl, hx⟩ := h s hs
    obtain ⟨y, hy, hy2⟩ := h2 l hl
    exact ⟨y, hx y hy, List.mem_filter.mpr ⟨mem_items.mpr ⟨s, hs, hx y hy⟩, decide_eq_true hy2⟩⟩
  have len : ((itemsOf S).filter fun x => decide (x ∈ lo)).length ≤ lo.length := nodup_sub_len _ _ ((asc_nodup (srtM_asc _)).sublist sub) fun x hx => of_decide_eq_true (List.mem_filter.mp hx).2
  cases q : lhit S with
  | none =>
    have := lhit_none q sub
    rw [hit] at this
    cases this
  | some so => exact ⟨so, rfl, Nat.le_trans ((lhit_some q).2.2 _ sub hit) len⟩
/-- sets that are not empty can be hit -/
theorem lhit_there {S : List (List Int)} (h : ∀ s ∈ S, s ≠ []) : ∃ so, lhit S = some so := by
  have hit : hitsM (itemsOf S) S = true := hitsM_iff.mpr fun s hs => by
    cases e : s with
    | nil => exact absurd e (h s hs)
    | cons x r =>
      rw [e] at hs
      exact ⟨x, List.mem_cons_self .., mem_items.mpr ⟨_, hs, List.mem_cons_self ..⟩⟩
  cases q : lhit S with
  | none =>
    have := lhit_none q (List.Sublist.refl _)
    rw [hit] at this
    cases this
  | some so => exact ⟨so, rfl⟩
end K29
set_option Elab.async false
set_option linter.all false
set_option maxRecDepth 100000
set_option maxHeartbeats 4000000
set_option pp.maxSteps 300
/-! where nobody meets, looks of different people are not alike -/
namespace K29
open PySem PySem.Spec PyProof.Rows L2
theorem filter_at {α : Type} {p : α → Bool} : ∀ {l : List α} {i : Nat} {x : α}, l[i]? = some x → p x = true → (l.filter p)[((l.take i).filter p).length]? = some x
  | y :: r, 0, x, h, hp => by
    have h : y = x := Option.some.inj h
    subst h
    rw [List.filter_cons, hp]
    rfl
  | y :: r, i + 1, x, h, hp => by
    have h : r[i]? = some x := h
    have ih := filter_at h hp
    rw [List.take_succ_cons, List.filter_cons, List.filter_cons]
    cases q : p y with
    | true => exact ih
    | false => exact ih
/-- the number of a look is the place in the list of looks -/
theorem looks_at {T : Tab} {i : Nat} {p : Int} (h : T.evs[i]? = some (Ev.look p)) : (lookAt T (cntL (T.evs.take i) : Nat)).2 = p := by
  have h1 : (idxd T.evs)[i]? = some ((i : Int), Ev.look p) := by
    unfold idxd
    rw [List.getElem?_mapIdx, h]
    rfl
  have h2 := filter_at (p := fun q : Int × Ev => decide (q.2.word = ("look" : Str))) h1 rfl
  have e : (((idxd T.evs).take i).filter fun q : Int × Ev => decide (q.2.word = ("look" : Str))).length = cntL (T.evs.take i) := by
    unfold cntL
    conv => rhs; rw [← idxd_map_snd T.evs, ← List.map_take, List.filter_map, List.length_map]
    rfl
  rw [e] at h2
  unfold lookAt looksOf evsOf
  rw [Int.toNat_natCast, List.getD_eq_getElem?_getD, List.getElem?_map, h2]
  rfl
end K29
set_option Elab.async false
set_option linter.all false
set_option maxRecDepth 100000
set_option maxHeartbeats 4000000
set_option pp.maxSteps 300
namespace K29
open PySem PySem.Spec PyProof.Rows L2
structure Nm (T : Tab) (g : GS) : Prop where
  a : g.A = []
  h : ∀ p x, x ∈ g.hs p → (lookAt T x).2 = p
  b : ∀ z ∈ g.B, (lookAt T z.1).2 = (lookAt T z.2).2
theorem idx_at {α : Type} {l : List α} {i : Nat} {e : α} (h : l[i]? = some e) : (idxd l)[i]? = some ((i : Int), e) := by
  unfold idxd
  rw [List.getElem?_mapIdx, h]
  rfl
theorem nm_go {T : Tab} {kind : Str} {gone : List Int} (hg : ∀ i : Nat, ∀ e, T.evs[i]? = some e → e.paired = true → (i : Int) ∈ gone) : ∀ i, i ≤ T.evs.length → Nm T (goM T kind gone i)
  | 0, _ => ⟨rfl, fun p x h => (nomatch h), fun z h => (nomatch h)⟩
  | i + 1, hi => by
    have ih := nm_go (kind := kind) hg i (by omega)
    have nr := (goM_ok T kind gone i (by omega)).2
    have li : i < T.evs.length := by omega
    have ee : T.evs[i]? = some T.evs[i] := List.getElem?_eq_getElem li
    rw [goM_next (idx_at ee)]
    generalize T.evs[i] = e at ee
    generalize goM T kind gone i = g at ih nr
    unfold stepM
    dsimp only
    by_cases q : (i : Int) ∈ gone
    · rw [if_pos q]
      exact ⟨ih.a, ih.h, ih.b⟩
    · rw [if_neg q]
      cases e with
      | look p =>
        have lk := looks_at ee
        rw [← nr] at lk
        refine ⟨ih.a, fun r x hx => ?_, fun z hz => ?_⟩
        · have hx : x ∈ updF g.hs p (g.hs p ++ [g.nr]) r := hx
          unfold updF at hx
          by_cases e : r = p
          · rw [if_pos e] at hx
            rcases List.mem_append.mp hx with hx | hx
            · rw [e]
              exact ih.h p x hx
            · rw [List.mem_singleton.mp hx, e]
              exact lk
          · rw [if_neg e] at hx
            exact ih.h r x hx
        · rcases in_f1 (show z ∈ (g.hs p).foldl (fun B o => add1 B o g.nr) g.B from hz) with hz | ⟨o, ho, _, rfl⟩
          · exact ih.b z hz
          · show (lookAt T o).2 = (lookAt T g.nr).2
            rw [ih.h p o ho, lk]
      | add p => exact ⟨ih.a, ih.h, ih.b⟩
      | meet p r => exact absurd (hg i _ ee rfl) q
      | tell p r => exact absurd (hg i _ ee rfl) q
/-- where nobody meets, only looks of one person are alike -/
theorem al_same {T : Tab} {kind : Str} {gone : List Int} (hg : ∀ i : Nat, ∀ e, T.evs[i]? = some e → e.paired = true → (i : Int) ∈ gone) {i j : Int} (h : alB T kind gone i j = true) : (lookAt T i).2 = (lookAt T j).2 := by
  obtain ⟨A, hA⟩ := al_there T kind gone
  rw [← alB_of hA] at h
  rcases hasS_iff.mp h with e | m
  · rw [e]
  · obtain ⟨_, _, _, _, _, snd⟩ := closed_of hA
    have n := nm_go (kind := kind) hg T.evs.length (Nat.le_refl _)
    let R : Int → Int → Prop := fun i j => (lookAt T i).2 = (lookAt T j).2
    refine snd R R ⟨fun i j h => h.symm, fun i j _ h => h, fun i j k _ h1 h2 => h1.trans h2, fun i j k _ _ h1 h2 => h1.trans h2, fun i j _ h _ => h⟩ (fun i j m => ?_) (fun i j m => n.b _ m) i j m
    rw [n.a] at m
    exact nomatch m
end K29
set_option Elab.async false
set_option linter.all false
set_option maxRecDepth 100000
set_option maxHeartbeats 4000000
set_option pp.maxSteps 300
namespace K29
open PySem PySem.Spec PyProof.Rows L2
theorem nets_in {T : Tab} {i j : Int} {ls : List Int} {c : List Int} (h : c ∈ netsM T "short" i j ls) : ∃ p ∈ netsM T "long" i j ls, ∀ x ∈ p, x ∈ c := leM_in (fun c h => al_mono h) h
theorem circles_in {T : Tab} {i j : Int} {c : List Int} (h : c ∈ circlesM T "short" i j) : ∃ p ∈ circlesM T "long" i j, ∀ x ∈ p, x ∈ c := leM_in (fun c h => al_mono h) h
theorem notIn_nil (items : List Int) : notIn items [] = items := by
  unfold notIn
  rw [List.filter_eq_self]
  intro x _
  simp
theorem all_gone {T : Tab} {ls : List Int} (i : Nat) (e : Ev) (h : T.evs[i]? = some e) (p : e.paired = true) : (i : Int) ∈ goneOf T ls (notIn (meetsOf T ls) []) := by
  rw [notIn_nil]
  have m : ((i : Int), e) ∈ idxd T.evs := idxd_in h
  unfold goneOf
  refine List.mem_map.mpr ⟨((i : Int), e), List.mem_filter.mpr ⟨m, ?_⟩, rfl⟩
  cases q : isWith e ls with
  | true => simp [q]
  | false =>
    have pl : (i : Int) ∈ placesOf T := by
      unfold placesOf
      exact List.mem_map.mpr ⟨((i : Int), e), List.mem_filter.mpr ⟨m, p⟩, rfl⟩
    have ev : evAt T (i : Int) = e := by
      obtain ⟨k, e1, e2, _⟩ := placesOf_at pl
      have : k = i := by omega
      rw [this, h] at e2
      exact (Option.some.inj e2).symm
    have : (i : Int) ∈ meetsOf T ls := by
      unfold meetsOf
      refine List.mem_filter.mpr ⟨pl, ?_⟩
      rw [ev, q]
      rfl
    simp [this]
theorem nets_ne {T : Tab} {kind : Str} {i j : Int} {ls : List Int} (d : (lookAt T i).2 ≠ (lookAt T j).2) : ∀ c ∈ netsM T kind i j ls, c ≠ [] := fun c h e => by
  obtain ⟨h1, _⟩ := leM_sat h
  rw [e] at h1
  exact d (al_same (fun k e h p => all_gone k e h p) h1)
theorem lost_there {T : Tab} {kind : Str} {i j : Int} {ls : List Int} (d : (lookAt T i).2 ≠ (lookAt T j).2) : ∃ so, lhit (netsM T kind i j ls) = some so := lhit_there (nets_ne d)
theorem lost_le {T : Tab} {i j : Int} {ls : List Int} {lo : List Int} (e : lhit (netsM T "long" i j ls) = some lo) : ∃ so, lhit (netsM T "short" i j ls) = some so ∧ so.length ≤ lo.length := lhit_mono (fun s hs => nets_in hs) e
end K29
set_option Elab.async false
set_option linter.all false
set_option maxRecDepth 100000
set_option maxHeartbeats 4000000
set_option pp.maxSteps 300
namespace K29
open PySem PySem.Spec PyProof.Rows L2
theorem fr_in {T : Tab} {kind : Str} {i j : Int} {p : Int × Int} : ∀ {n : Nat}, p ∈ frTo T kind i j n → ∃ m : Nat, m < n ∧ p.1 = (m : Int) ∧ least1 (lwL T kind i j m) = some p.2
  | n + 1, h => by
    have h : p ∈ frStep (least1 (lwL T kind i j n)) (frTo T kind i j n) n := h
    unfold frStep at h
    cases q : least1 (lwL T kind i j n) with
    | none =>
      rw [q] at h
      obtain ⟨m, h1, h2⟩ := fr_in h
      exact ⟨m, by omega, h2⟩
    | some b =>
      rw [q] at h
      dsimp only at h
      split at h
      · rcases List.mem_append.mp h with h | h
        · obtain ⟨m, h1, h2⟩ := fr_in h
          exact ⟨m, by omega, h2⟩
        · rw [List.mem_singleton.mp h]
          exact ⟨n, Nat.lt_succ_self n, rfl, q⟩
      · obtain ⟨m, h1, h2⟩ := fr_in h
        exact ⟨m, by omega, h2⟩
theorem fr_sub {T : Tab} {kind : Str} {i j : Int} {p : Int × Int} {n : Nat} (h : p ∈ frTo T kind i j n) : p ∈ frTo T kind i j (n + 1) := by
  show p ∈ frStep (least1 (lwL T kind i j n)) (frTo T kind i j n) n
  unfold frStep
  split
  · exact h
  · split
    · exact List.mem_append_left _ h
    · exact h
theorem fr_has {T : Tab} {kind : Str} {i j : Int} {m : Nat} {b : Int} (hb : least1 (lwL T kind i j m) = some b) : ∀ {n : Nat}, m < n → ∃ p ∈ frTo T kind i j n, p.1 ≤ (m : Int) ∧ p.2 ≤ b
  | n + 1, hn => by
    by_cases e : m = n
    · subst e
      show ∃ p ∈ frStep (least1 (lwL T kind i j m)) (frTo T kind i j m) m, _
      rw [hb]
      unfold frStep
      dsimp only
      split
      · exact ⟨((m : Int), b), List.mem_append_right _ (List.mem_singleton.mpr rfl), Int.le_refl _, Int.le_refl _⟩
      · rename_i z
        have ne : frTo T kind i j m ≠ [] := fun y => z (by rw [y]; rfl)
        have lm : (frTo T kind i j m).getLastD (0, 0) ∈ frTo T kind i j m := by
          rw [List.getLastD_eq_getLast?, List.getLast?_eq_some_getLast ne]
          exact List.getLast_mem ne
        generalize (frTo T kind i j m).getLastD (0, 0) = l at z lm
        obtain ⟨k, k1, k2, _⟩ := fr_in lm
        refine ⟨l, lm, by omega, ?_⟩
        refine Int.not_lt.mp fun y => z ?_
        rw [decide_eq_true y, Bool.or_true]
    · obtain ⟨p, hp, h⟩ := fr_has hb (n := n) (by omega)
      exact ⟨p, fr_sub hp, h⟩
end K29
set_option Elab.async false
set_option linter.all false
set_option maxRecDepth 100000
set_option maxHeartbeats 4000000
set_option pp.maxSteps 300
namespace K29
open PySem PySem.Spec PyProof.Rows L2
theorem l1_in : ∀ {l : List Tr} {b : Int}, least1 l = some b → ∃ e ∈ l, e.1 = b
  | x :: r, b, h => by
    unfold least1 at h
    cases hr : least1 r with
    | none =>
      rw [hr] at h
      cases h
      exact ⟨x, List.mem_cons_self .., rfl⟩
    | some c =>
      rw [hr] at h
      have h : (if x.1 ≤ c then x.1 else c) = b := Option.some.inj h
      obtain ⟨z, hz, ez⟩ := l1_in hr
      by_cases q : x.1 ≤ c
      · rw [if_pos q] at h
        exact ⟨x, List.mem_cons_self .., h⟩
      · rw [if_neg q] at h
        exact ⟨z, List.mem_cons_of_mem _ hz, ez.trans h⟩
theorem l1_le : ∀ {l : List Tr} {e : Tr}, e ∈ l → ∃ b, least1 l = some b ∧ b ≤ e.1
  | x :: r, e, h => by
    unfold least1
    cases hr : least1 r with
    | none =>
      rcases List.mem_cons.mp h with rfl | h
      · exact ⟨_, rfl, Int.le_refl _⟩
      · obtain ⟨b, eb, _⟩ := l1_le h
        rw [hr] at eb
        cases eb
    | some c =>
      refine ⟨if x.1 ≤ c then x.1 else c, rfl, ?_⟩
      rcases List.mem_cons.mp h with rfl | h
      · split <;> omega
      · obtain ⟨b, eb, hb⟩ := l1_le h
        rw [hr] at eb
        cases eb
        split <;> omega
/-- with just so many liars, of kind short no more need be lost -/
theorem lw_le {T : Tab} {i j : Int} {m : Nat} {b : Int} (h : least1 (lwL T "long" i j m) = some b) : ∃ b', least1 (lwL T "short" i j m) = some b' ∧ b' ≤ b := by
  obtain ⟨e, he, rfl⟩ := l1_in h
  unfold lwL at he
  obtain ⟨ls, hls, e2⟩ := List.mem_filterMap.mp he
  cases q : lhit (netsM T "long" i j ls) with
  | none =>
    rw [q] at e2
    cases e2
  | some lo =>
    rw [q] at e2
    cases e2
    obtain ⟨so, hs, hle⟩ := lost_le q
    have mem : ((so.length : Int), ls, so) ∈ lwL T "short" i j m := by
      unfold lwL
      exact List.mem_filterMap.mpr ⟨ls, hls, by rw [hs]; rfl⟩
    obtain ⟨b, eb, hb⟩ := l1_le mem
    have hb : b ≤ (so.length : Int) := hb
    exact ⟨b, eb, by show b ≤ (lo.length : Int); omega⟩
theorem fr_le {T : Tab} {i j : Int} {p : Int × Int} (h : p ∈ frM T "long" i j) : ∃ q ∈ frM T "short" i j, q.1 ≤ p.1 ∧ q.2 ≤ p.2 := by
  obtain ⟨m, h1, h2, h3⟩ := fr_in h
  obtain ⟨b, eb, hb⟩ := lw_le h3
  obtain ⟨q, hq, g1, g2⟩ := fr_has eb h1
  exact ⟨q, hq, by omega, by omega⟩
theorem frag_le {T : Tab} {p : Int × Int} (h : fragS T "long" p) : fragS T "short" p := by
  obtain ⟨h0, s, l, h1, h2, h3⟩ := h
  refine ⟨h0, s, l, h1, h2, ?_⟩
  cases q : alB T "short" (goneOf T [] l) p.1 p.2 with
  | false => rfl
  | true =>
    rw [al_mono q] at h3
    cases h3
theorem inside_of {sets : List (List Int)} {part : List Int} (h : ∃ p ∈ sets, ∀ x ∈ p, x ∈ part) : insideM sets part = true := by
  obtain ⟨p, hp, hx⟩ := h
  unfold insideM
  refine List.any_eq_true.mpr ⟨p, hp, ?_⟩
  rw [List.isEmpty_iff, List.filter_eq_nil_iff]
  intro x m
  simp [hx x m]
/-! ### facts of drawn tables -/
theorem places_len (T : Tab) : (placesOf T).length = T.evs.countP Ev.paired := by
  unfold placesOf
  rw [List.length_map, ← List.countP_eq_length_filter]
  conv => rhs; rw [← idxd_map_snd T.evs]
  rw [List.countP_map]
  rfl
theorem TOk.wf {T : Tab} (h : TOk T) : WfT T := by
  have hn : T.n = 3 ∨ T.n = 4 := h.n
  refine ⟨Nat.le_trans h.len (by decide), Nat.le_trans h.lk (by decide), by omega, fun e he p hp => ?_⟩
  have k := h.ok e he
  have hc : (T.n.toNat : Int) = T.n := Int.toNat_of_nonneg (by omega)
  cases e with
  | look q =>
    have k : 0 ≤ q ∧ q < (T.n.toNat : Int) := k
    have hp : p ∈ [q] := hp
    rw [List.mem_singleton.mp hp]
    omega
  | add q =>
    have k : 0 ≤ q ∧ q < (T.n.toNat : Int) := k
    have hp : p ∈ [q] := hp
    rw [List.mem_singleton.mp hp]
    omega
  | meet q r =>
    have k : 0 ≤ q ∧ q < (T.n.toNat : Int) ∧ 0 ≤ r ∧ r < (T.n.toNat : Int) ∧ q ≠ r := k
    have hp : p ∈ [q, r] := hp
    simp only [List.mem_cons, List.not_mem_nil, or_false] at hp
    omega
  | tell q r =>
    have k : 0 ≤ q ∧ q < (T.n.toNat : Int) ∧ 0 ≤ r ∧ r < (T.n.toNat : Int) ∧ q ≠ r := k
    have hp : p ∈ [q, r] := hp
    simp only [List.mem_cons, List.not_mem_nil, or_false] at hp
    omega
theorem TOk.tb {T : Tab} (h : TOk T) : TbOk T := ⟨h.wf, fun z => by
  have := h.l0
  rw [z] at this
  exact absurd this (by simp), Nat.le_trans h.len (by decide)⟩
theorem TOk.pl {T : Tab} (h : TOk T) : (placesOf T).length ≤ 4 := by
  rw [places_len]
  exact h.lb
theorem TOk.ar {T : Tab} (h : TOk T) {kind : Str} {i j : Int} (hi : okLook T i) (hj : okLook T j) : Ar.Ok ⟨T, kind, i, j⟩ := ⟨h.tb, hi, hj, Nat.le_trans h.pl (by decide), by
  have hn : T.n = 3 ∨ T.n = 4 := h.n
  show (othersOf T i j).length ≤ 8
  unfold othersOf
  refine Nat.le_trans (List.length_filter_le ..) ?_
  unfold prsnOf
  simp only [List.length_map, List.length_range]
  omega⟩
end K29
set_option Elab.async false
set_option linter.all false
set_option maxRecDepth 100000
set_option maxHeartbeats 4000000
set_option pp.maxSteps 300
namespace K29
open PySem PySem.Spec PyProof.Rows L2 LamX
/-- a walk over the list that an expression gives -/
theorem wi_at {X : Cx} {tg it : Expr} {σ : L2.St} {H : Hp} {R : It → Hp → Prop} {ds : List PyData} (h : We X it σ H fun v H1 => ∃ F1, Same F1 H1 ∧ Dq X.K F1 v (.list ds) ∧ ∀ J, Src X.K J F1 ds → R J H1) : Wi X tg it σ H R := wi_of (pi_list we_pe) (h.mono fun v H1 ⟨F1, s, d, k⟩ => by
  obtain ⟨l, xs, rfl, e1, e2⟩ := d.lst_inv
  exact ⟨l, rfl, ⟨xs, SqL.of (s _ _ e1)⟩, k _ (src_list e1 e2)⟩)
section
variable {X : Cx} {elt tg it c : Expr} {ifs : List Expr} {scope : Scope} {vs : List Nat} {own : List (Str × Nat)} {σ σ2 : L2.St} {F F1 H : Hp} {pos : Pos}
/-- a comprehension from where its walk stands -/
abbrev LcB (X : Cx) (elt tg : Expr) (ifs : List Expr) (scope : Scope) (vs : List Nat) (σ : L2.St) (J : It) (H : Hp) (Q : VK) : Prop := tLc (fun _ _ R => R J H) (gAll X scope tg) (tAll X scope ifs) (eAll X scope elt) vs σ H Q
theorem lcw_at {Q : VK} (h : We X it σ H fun v H1 => ∃ F1 ds, Same F1 H1 ∧ Dq X.K F1 v (.list ds) ∧ ∀ J, Src X.K J F1 ds → LcB X elt tg ifs scope vs σ J H1 Q) : LcW X elt tg it ifs scope vs σ H Q := wi_of (pi_list we_pe) (h.mono fun v H1 ⟨F1, ds, s, d, k⟩ => by
  obtain ⟨l, xs, rfl, e1, e2⟩ := d.lst_inv
  exact ⟨l, rfl, ⟨xs, SqL.of (s _ _ e1)⟩, k _ (src_list e1 e2)⟩)
theorem take_filt {α : Type} {xs : List α} {p : α → Bool} {i : Nat} {x : α} (h : xs[i]? = some x) (hp : p x = true) : ((xs.take i).filter p).length < (xs.filter p).length := by
  have e : (xs.take (i + 1)).filter p = (xs.take i).filter p ++ [x] := by
    rw [List.take_add_one, h, List.filter_append]
    show _ ++ List.filter p [x] = _
    rw [List.filter_cons, if_pos hp]
    rfl
  have s := ((List.take_sublist (i + 1) xs).filter p).length_le
  rw [e, List.length_append] at s
  exact s
/-- the list that is made, from where the walk stands -/
theorem lcS {α : Type} {xs : List α} {enc : α → PyData} {J : It} {F0 H0 : Hp} (A : α → Hp → L2.St → Prop) (p : α → Bool) (f : α → PyData) (hJ : Src X.K J F0 (xs.map enc)) (s0 : Same F0 H0) (hz : (xs.filter p).length ≤ 100000)
    (htg : ∀ x ∈ xs, ∀ v F1 H1, Same F0 F1 → Same F1 H1 → Dq X.K F1 v (enc x) → ∃ σ2, wipe σ2 vs = wipe σ vs ∧ A x F1 σ2 ∧ ∀ Qs : L2.St → Hp → Prop, Qs σ2 H1 → gAll X scope tg v (wipe σ vs) H1 Qs)
    (ht : ∀ x ∈ xs, ∀ F1 σ2, Same F0 F1 → A x F1 σ2 → TsOk X scope ifs σ2 F1 (p x))
    (he : ∀ x ∈ xs, p x = true → ∀ F1 σ2, Same F0 F1 → A x F1 σ2 → ∀ (s0 : Shared) (H0 : Hp) (C : Addr) (cl : List (Str × Addr)) (fp : List Addr), Wv (Bk X scope s0 H0 C cl fp) elt σ2 F1 (f x))
    (Q : VK) (q : ∀ v F' H', Gr F0 H0 F' H' → Dq X.K F' v (.list ((xs.filter p).map f)) → Q v H') : LcB X elt tg ifs scope vs σ J H0 Q := by
  intro D hD
  have len : (xs.map enc).length = xs.length := List.length_map ..
  refine lc_it hJ (fun i H' => ∃ Fi acc, Gr F0 H0 Fi H' ∧ Fi D = none ∧ H' D = some (.lst acc) ∧ DqAll X.K Fi acc (((xs.take i).filter p).map f)) ⟨F0, [], Gr.newM s0 hD, s0.free hD, upd_same, .nil⟩
    (fun i H' _ ⟨Fi, acc, g, _⟩ => g.ff.trans g.fh) ?_ ?_
  · rintro i v H1 H2 hi ⟨Fi, acc, gi, fD, hDi, ha⟩ hy
    rw [len] at hi
    obtain ⟨d, F2, ed, g2, dv⟩ := hy Fi gi.ff gi.fh
    have ex : xs[i]? = some xs[i] := List.getElem?_eq_getElem hi
    rw [List.getElem?_map, ex] at ed
    cases ed
    have mem : xs[i] ∈ xs := List.getElem_mem hi
    have sF : Same F0 F2 := gi.ff.trans g2.ff
    have fD2 : F2 D = none := g2.noF fD hDi
    obtain ⟨σ2, w2, A2, hg⟩ := htg _ mem v F2 H2 sF g2.fh dv
    refine hg _ ⟨w2, ht _ mem F2 σ2 sF A2 H2 g2.fh _ fun H3 s3 => ?_⟩
    have tk : xs.take (i + 1) = xs.take i ++ [xs[i]] := by rw [List.take_add_one, ex]; rfl
    have g3 : Gr F0 H0 F2 H3 := ⟨gi.ff.trans g2.ff, g2.fh.trans s3, (gi.hh.trans g2.hh).trans s3, (gi.trans g2).fr⟩
    have hD3 : H3 D = some (.lst acc) := s3 _ _ (g2.hh _ _ hDi)
    cases pe : p xs[i] with
    | true =>
      refine iteT fun s0 H0' C cl fp => he _ mem pe F2 σ2 sF A2 s0 H0' C cl fp H3 g3.fh _ fun y F4 H4 g4 dy => ?_
      have la := ha.length
      rw [List.length_map] at la
      have lt := take_filt ex pe
      refine ⟨acc, g4.hh _ _ hD3, Nat.lt_of_lt_of_le (show acc.length < 100000 by omega) (by decide), F4, acc ++ [y], (g3.trans g4).mut hD (g4.noF fD2 hD3), g4.noF fD2 hD3, upd_same, ?_⟩
      rw [tk, List.filter_append, List.map_append, List.filter_cons, if_pos pe]
      exact (ha.mono (g2.ff.trans g4.ff)).append (.cons dy .nil)
    | false =>
      refine iteF ⟨F2, acc, g3, fD2, hD3, ?_⟩
      rw [tk, List.filter_append, List.map_append, List.filter_cons, if_neg (by rw [pe]; exact Bool.false_ne_true)]
      rw [List.filter_nil, List.map_nil, List.append_nil]
      exact ha.mono g2.ff
  · rintro H1 ⟨Fi, acc, gi, fD, hDi, ha⟩
    rw [len, List.take_length] at ha
    exact q _ _ _ (gi.freeze hD fD hDi) (.lst upd_same (ha.mono (same_new fD)))
/-- the target a name -/
theorem lcS_n {α : Type} {xs : List α} {enc : α → PyData} {J : It} {F0 H0 : Hp} (j : Nat) (p : α → Bool) (f : α → PyData) (hJ : Src X.K J F0 (xs.map enc)) (s0 : Same F0 H0) (hz : (xs.filter p).length ≤ 100000)
    (hg : ∀ (s0 : Shared) (H0 : Hp) (C : Addr) (cl : List (Str × Addr)) (fp : List Addr), PG (Bk X scope s0 H0 C cl fp) tg (gName j)) (hw : ∀ v : V, wipe ((wipe σ vs).set j (some v)) vs = wipe σ vs)
    (ht : ∀ x ∈ xs, ∀ F1 v, Same F0 F1 → Dq X.K F1 v (enc x) → TsOk X scope ifs ((wipe σ vs).set j (some v)) F1 (p x))
    (he : ∀ x ∈ xs, p x = true → ∀ F1 v, Same F0 F1 → Dq X.K F1 v (enc x) → ∀ (s0 : Shared) (H0 : Hp) (C : Addr) (cl : List (Str × Addr)) (fp : List Addr), Wv (Bk X scope s0 H0 C cl fp) elt ((wipe σ vs).set j (some v)) F1 (f x))
    (Q : VK) (q : ∀ v F' H', Gr F0 H0 F' H' → Dq X.K F' v (.list ((xs.filter p).map f)) → Q v H') : LcB X elt tg ifs scope vs σ J H0 Q :=
  lcS (fun x F1 σ2 => ∃ v, σ2 = (wipe σ vs).set j (some v) ∧ Dq X.K F1 v (enc x)) p f hJ s0 hz (fun x _ v F1 H1 _ _ hd => ⟨_, hw v, ⟨v, rfl, hd⟩, fun Qs z s0 H0 C cl fp => wg_of (hg s0 H0 C cl fp) z⟩)
    (fun x hx F1 σ2 sF ⟨v, e, hd⟩ => by rw [e]; exact ht x hx F1 v sF hd) (fun x hx px F1 σ2 sF ⟨v, e, hd⟩ => by rw [e]; exact he x hx px F1 v sF hd) Q q
end
/-! ### a pair among pairs -/
theorem eqv_pr (p q : Int × Int) : PyData.eqv (prD q) (prD p) = decide (q = p) := by
  obtain ⟨a, b⟩ := p
  obtain ⟨c, d⟩ := q
  show ((c == a) && ((d == b) && true)) = _
  by_cases h1 : c = a
  · by_cases h2 : d = b
    · simp [h1, h2]
    · simp [h1, h2]
  · simp [h1]
theorem any_pr {p : Int × Int} : ∀ ps : List (Int × Int), ((ps.map prD).any fun z => PyData.eqv z (prD p)) = decide (p ∈ ps)
  | [] => rfl
  | q :: r => by
    rw [List.map_cons, List.any_cons, any_pr r, eqv_pr]
    by_cases h : q = p
    · simp [h]
    · have h' : ¬ p = q := fun z => h z.symm
      simp [h, h']
theorem wq_notInP {X : Cx} {a b : Expr} {σ : L2.St} {F : Hp} {p : Int × Int} {ps : List (Int × Int)} {j : Nat} {pos : Pos} (hr : Room j X.A) (ha : Wv X a σ F (prD p)) (hb : Wv X b σ F (.list (ps.map prD))) (hm : behindInMarks .NotIn b = false := by rfl) : Wq X (.Compare a [.NotIn] [b] pos) σ F (!decide (p ∈ ps)) :=
  wq_cmp (op_notInD (by have := hr.un; omega)) (fun F1 H1 v w _ s h1 h2 Q q => ⟨prD p, ps.map prD, (h1.mono s).dp, (h2.mono s).dp, by cases p; rfl, (shL.prs ps).sh, by rw [any_pr]; exact q _ F1 H1 (Gr.refl s) (.bl _)⟩) ha hb hm
/-! ### bounds -/
theorem le_bd {items : List Int} {fB : List Int → Bool} (h : items.length ≤ 8) : (leM items fB).length ≤ 1000 ∧ ∀ p ∈ leM items fB, p.length ≤ 100 := by
  obtain ⟨_, _, _, h1, h2⟩ := hitPre_of (fB := fB) h
  exact ⟨h1, h2⟩
theorem frM_len {T : Tab} {kind : Str} {i j : Int} (h : (othersOf T i j).length ≤ 8) : (frM T kind i j).length ≤ 9 := by
  have := frTo_len T kind i j ((othersOf T i j).length + 1)
  unfold frM
  omega
/-! ### the tables beside the box -/
theorem TbS.bx {t : Tbs} {l : Addr} {N : Nat} {F H F1 H1 : Hp} (h : TbS t F H) (bx : Bx l N H) (g : Gm (fun x => x = l) F H F1 H1) : TbS t F1 H1 := by
  obtain ⟨a, s, n, e, _⟩ := bx
  obtain ⟨ps1, e1, _⟩ := h.t1
  obtain ⟨ps2, e2, _⟩ := h.t2
  refine h.gm g (fun x m => ⟨fun z => ?_, fun z => ?_⟩) fun x q m z => ?_
  · rw [← z, show x = l from m, e] at e1
    cases e1
  · rw [← z, show x = l from m, e] at e2
    cases e2
  · rw [show x = l from m, e] at z
    unfold CodeO at z
    cases z
def MR (t : Tbs) (l : Addr) : Addr → Prop := fun x => x = l ∨ t.M x
/-- the state of _law_right -/
structure Rt (t : Tbs) (l : Addr) (G H F' H' : Hp) : Prop where
  g : Gm (MR t l) G H F' H'
  t : TbS t F' H'
section
variable {t : Tbs} {l : Addr} {G H F1 H1 F2 H2 : Hp} {N : Nat}
theorem Rt.gr (h : Rt t l G H F1 H1) (g : Gr F1 H1 F2 H2) : Rt t l G H F2 H2 := ⟨h.g.trans g.gm, h.t.gr g⟩
theorem Rt.sm (h : Rt t l G H F1 H1) (s : Same H1 H2) : Rt t l G H F1 H2 := h.gr ⟨Same.refl _, h.g.fh.trans s, s, fun _ e _ => e⟩
theorem Rt.bx (h : Rt t l G H F1 H1) (b : Bx l N H1) (g : Gm (fun x => x = l) F1 H1 F2 H2) : Rt t l G H F2 H2 := ⟨h.g.trans (g.imp fun x => .inl), h.t.bx b g⟩
theorem Rt.tm (h : Rt t l G H F1 H1) (g : Gm t.M F1 H1 F2 H2) (t' : TbS t F2 H2) : Rt t l G H F2 H2 := ⟨h.g.trans (g.imp fun x => .inr), t'⟩
end
/-- what stood stands, but the box and the tables -/
structure Kp (t : Tbs) (l : Addr) (H H' : Hp) : Prop where
  hh : ∀ a o, ¬ MR t l a → H a = some o → H' a = some o
  th : ∀ a, H' a = none → H a = none
  t1 : TabS H' t.P1 lq1
  t2 : TabS H' t.P2 lq2
theorem Rt.kp {t : Tbs} {l : Addr} {G H F1 H1 H2 : Hp} (h : Rt t l G H F1 H1) (s : Same H1 H2) : Kp t l H H2 := ⟨fun a o n e => s _ _ (h.g.hh a o n e), fun a e => h.g.th a (s.free e), (h.sm s).t.t1, (h.sm s).t.t2⟩
end K29
set_option Elab.async false
set_option linter.all false
set_option maxRecDepth 100000
set_option maxHeartbeats 4000000
set_option pp.maxSteps 300
namespace K29
open PySem PySem.Spec PyProof.Rows L2 LamX
section
variable {P : Program} {w : World} {K : PySem.W.Frag} {mg : Str → Option Value} {base : Heap} {f : Addr} {fd : FuncData} {t : Tbs}
abbrev n_law_right : List Str := ["_law_box_here", "_law_table_here", "_law_a", "_law_b", "_law_wide", "_law_few", "_law_k", "_law_edge", "_law_x", "_law_y", "_law_known", "_law_part", "_law_own_so", "_law_pair"]
theorem sc_law_right : FnScope n_law_right ["_law_box_here"] (C8.fnScope s_law_right) := C8.fnScope_by (by decide +kernel)
def spRight (t : Tbs) (K : PySem.W.Frag) : Sp := fun vs H Q _ => ∃ (F : Hp) (l : Addr), vs = [.ref l] ∧ Same F H ∧ F l = none ∧ Bx l 0 H ∧ TbS t F H ∧ ∀ H', Kp t l H H' → Q (.bl true) H'
theorem c_right (T : Txt K mg) (ct : C8.Cal P w K mg base 1 "_law_take" (spTake K) []) (cta : C8.Cal P w K mg base 4 "_law_table" (spTable K) []) (cw : C8.Cal P w K mg base 3 "_law_two" (spTwo K) []) (cn : C8.Cal P w K mg base 12 "nets" (spNetsD t K) []) (cc : C8.Cal P w K mg base 12 "circles" (spCirclesD t K) [])
    (ci : C8.Cal P w K mg base 1 "_law_inside" (spInside K) []) (clo : C8.Cal P w K mg base 13 "least_lost" (spLostD t K) []) (cfr : C8.Cal P w K mg base 13 "frontier" (spFrontier t K) []) (cfg : C8.Cal P w K mg base 10 "fragile" (spFragile K) [])
    (F : C8.Def K mg "_law_right" s_law_right f fd) (b : Binds K fd ["_law_box_here"] []) : C8.Cal P w K mg base 14 "_law_right" (spRight t K) [] := by
  refine calW F b .nil sc_law_right (fun vs H Q E ⟨G, _, e, _⟩ => by rw [e]; rfl) fun cdv A outer s H vs Q E hr ⟨G, l, e, s0, fl, bx, ts, q⟩ => ?_
  subst e
  have r0 : Rt t l G H G H := ⟨Gm.refl s0, ts⟩
  -- the table
  refine wb_cons (w1_set 1 sc_law_right.nd (we_call cta hr (wa_cons (we_var 0 rfl (wa_cons (we_op op_add (Wv.int (F := G) wv_int s0 fun H1 s1 => we_call ct hr (wa_cons (we_var 0 rfl (wa_cons (Wv.int (F := G) wv_int (s0.trans s1) fun H2 s2 => wa_nil ?_)))))))))))
  have r2 := r0.sm (s1.trans s2)
  have bx2 : Bx l 0 H2 := bx.keep fun o e => s2 _ _ (s1 _ _ e)
  refine ⟨G, l, 0, 2, rfl, r2.g.fh, fl, bx2, by decide, by decide, by decide, fun ra H3 hra g3 b3 => ⟨_, _, rfl, rfl, wa_cons (we_op op_add (Wv.int (F := G) wv_int g3.fh fun H4 s4 => we_call ct hr (wa_cons (we_var 0 rfl (wa_cons (Wv.int (F := G) wv_int (g3.fh.trans s4) fun H5 s5 => wa_nil ?_))))))⟩⟩
  have r5 := (r2.bx bx2 g3).sm (s4.trans s5)
  have bx5 : Bx l 1 H5 := b3.keep fun o e => s5 _ _ (s4 _ _ e)
  refine ⟨G, l, 1, 5, rfl, r5.g.fh, fl, bx5, by decide, by decide, by decide, fun rb H6 hrb g6 b6 => ⟨_, _, rfl, rfl, wa_cons (Wv.int (F := G) wv_int g6.fh fun H7 s7 => wa_nil ?_)⟩⟩
  have r7 := (r5.bx bx5 g6).sm s7
  have bx7 : Bx l 2 H7 := b6.keep fun o e => s7 _ _ e
  refine ⟨G, l, 2, 3 + ra, 8 + rb, ?_, r7.g.fh, fl, bx7, by decide, by omega, by omega, by omega, fun v1 T1 F8 H8 g8 b8 dt tok => ?_⟩
  · show [V.ref l, V.int ((3 : Int) + (ra : Int)), V.int ((8 : Int) + (rb : Int)), V.int 4] = _
    rw [show (3 : Int) + (ra : Int) = ((3 + ra : Nat) : Int) by omega, show (8 : Int) + (rb : Int) = ((8 + rb : Nat) : Int) by omega]
  have r8 := r7.bx bx7 g8
  have fl8 : F8 l = none := g8.noF fl bx7.there.choose_spec
  clear r0 r2 r5 r7 bx2 bx5 bx7 b3 b6 g3 g6 g8 s1 s2 s4 s5 s7 ts
  -- the pair
  refine wb_cons (w1_asg (we_call cw hr (wa_cons (we_var 0 rfl (wa_cons (we_var 1 rfl (wa_cons (we_ix ix_list (Wv.go (F := F8) (wv_lst (wvs_cons wv_str (wvs_cons wv_str wvs_nil))) r8.g.fh fun vk F9 H9 g9 dk => we_call ct hr (wa_cons (we_var 0 rfl (wa_cons (Wv.int (F := F9) wv_int g9.fh fun H10 s10 => wa_nil ?_)))))))))))))
  have r10 := (r8.gr g9).sm s10
  have bx10 : Bx l 52 H10 := (b8.gr g9).keep fun o e => s10 _ _ e
  have fl9 : F9 l = none := g9.noF fl8 b8.there.choose_spec
  refine ⟨F9, l, 52, 2, rfl, r10.g.fh, fl9, bx10, by decide, by decide, by decide, fun rc H11 hrc g11 b11 => ?_⟩
  have r11 := r10.bx bx10 g11
  obtain ⟨pk, xk, rfl, ek, dxk⟩ := dk.lst_inv
  obtain ⟨kd, ekd⟩ : ∃ kd : Str, ([.str "short", .str "long"] : List PyData)[rc]? = some (.str kd) := by
    rcases rc with _ | _ | rc
    · exact ⟨_, rfl⟩
    · exact ⟨_, rfl⟩
    · omega
  obtain ⟨zk, ez, dz⟩ := dxk.atI (i := (rc : Int)) (atI_nat ekd)
  rw [dz.str_inv] at ez
  refine ⟨pk, xk, (rc : Int), _, rfl, rfl, SqL.of (r11.g.fh _ _ ek), ez, wa_nil ⟨F9, l, 53, T1, kd, v1, rfl, r11.g.fh, fl9, b11, by decide, dt.mono g9.ff, tok, fun vp p F12 H12 g12 b12 dp oi oj od => ?_⟩⟩
  have r12 := r11.bx b11 g12
  have dt12 := (dt.mono g9.ff).mono g12.ff
  refine wg_pair dp r12.g.fh fun va vb da db => wgs_cons (wg_name 2 sc_law_right.nd (wgs_cons (wg_name 3 sc_law_right.nd (wgs_nil ?_))))
  rw [da.int_inv, db.int_inv]
  obtain ⟨i, j⟩ := p
  replace oi : okLook T1 i := oi
  replace oj : okLook T1 j := oj
  replace od : (lookAt T1 i).2 ≠ (lookAt T1 j).2 := od
  dsimp only
  have ol : (othersOf T1 i j).length ≤ 8 := (tok.ar (kind := "long") oi oj).o
  have ml : (meetsOf T1 []).length ≤ 8 := Nat.le_trans (meets_le _ _) (Nat.le_trans tok.pl (by decide))
  clear r8 r10 r11 bx10 b8 b11 b12 g9 g11 g12 s10 dt dk ek dxk ez dz ekd hra hrb hrc fl8 fl9 dp da db bx
  have args : ∀ {kd : Str} {σ : L2.St} {F' : Hp} {j1 : Nat} {p1 p2 p3 p4 : Pos}, σ[1]? = some (some v1) → σ[2]? = some (some (.int i)) → σ[3]? = some (some (.int j)) → Same F12 F' → Wvs (CxD P w K mg base n_law_right "_law_right" (C8.fnScope s_law_right) f cdv A outer s H E) [.Name "_law_table_here" p1, .Constant (.str kd) j1 p2, .Name "_law_a" p3, .Name "_law_b" p4] σ F' (Ar.args ⟨T1, kd, i, j⟩) := fun h1 h2 h3 sF =>
    wvs_cons (wv_var 1 h1 (dt12.mono sF)) (wvs_cons wv_str (wvs_cons (wv_var 2 h2 (.int i)) (wvs_cons (wv_var 3 h3 (.int j)) wvs_nil)))
  -- wide
  refine wb_cons (w1_set 4 sc_law_right.nd (we_lst (wa_cons (we_callX ⟨T1, "long", i, j⟩ cn hr (args rfl rfl rfl (Same.refl _)) r12.g.fh r12.t (tok.ar oi oj) fun v8 F13 H13 g13 t13 d13 => wa_cons (we_callX ⟨T1, "long", i, j⟩ cc hr (args rfl rfl rfl g13.ff) g13.fh t13 (tok.ar oi oj) fun v9 F14 H14 g14 t14 d14 => wa_nil ⟨Nat.le_of_ble_eq_true rfl, fun pw hpw => ?_⟩)))))
  have r14 := ((r12.tm g13 t13).tm g14 t14).gr (Gr.new g14.fh hpw (o := .lst [v8, v9]))
  have fw : F14 pw = none := g14.fh.free hpw
  have dW : Dq K (upd F14 pw (.lst [v8, v9])) (.ref pw) (.list [.list ((netsM T1 "long" i j []).map tI), .list ((circlesM T1 "long" i j).map tI)]) := .lst upd_same (.cons ((d13.mono g14.ff).mono (same_new fw)) (.cons (d14.mono (same_new fw)) .nil))
  have s14 : Same F12 (upd F14 pw (.lst [v8, v9])) := (g13.ff.trans g14.ff).trans (same_new fw)
  show Wb _ _ _ _ (upd H14 pw (.lst [v8, v9]))
  generalize upd F14 pw (.lst [v8, v9]) = F15 at r14 dW s14
  generalize upd H14 pw (.lst [v8, v9]) = H15 at r14
  clear g13 g14 t13 t14 d13 d14 hpw fw r12
  -- few
  refine wb_cons (w1_set 5 sc_law_right.nd (we_lst (wa_cons (we_callX ⟨T1, "short", i, j⟩ cn hr (args rfl rfl rfl s14) r14.g.fh r14.t (tok.ar oi oj) fun v8 F13 H13 g13 t13 d13 => wa_cons (we_callX ⟨T1, "short", i, j⟩ cc hr (args rfl rfl rfl (s14.trans g13.ff)) g13.fh t13 (tok.ar oi oj) fun v9 F14 H14 g14 t14 d14 => wa_nil ⟨Nat.le_of_ble_eq_true rfl, fun pf hpf => ?_⟩)))))
  have r16 := ((r14.tm g13 t13).tm g14 t14).gr (Gr.new g14.fh hpf (o := .lst [v8, v9]))
  have fw : F14 pf = none := g14.fh.free hpf
  have dF : Dq K (upd F14 pf (.lst [v8, v9])) (.ref pf) (.list [.list ((netsM T1 "short" i j []).map tI), .list ((circlesM T1 "short" i j).map tI)]) := .lst upd_same (.cons ((d13.mono g14.ff).mono (same_new fw)) (.cons (d14.mono (same_new fw)) .nil))
  have s15 : Same F15 (upd F14 pf (.lst [v8, v9])) := (g13.ff.trans g14.ff).trans (same_new fw)
  show Wb _ _ _ _ (upd H14 pf (.lst [v8, v9]))
  generalize upd F14 pf (.lst [v8, v9]) = F16 at r16 dF s15
  generalize upd H14 pf (.lst [v8, v9]) = H16 at r16
  replace dW := dW.mono s15
  replace s14 := s14.trans s15
  clear g13 g14 t13 t14 d13 d14 hpf fw r14 s15
  -- each net, each circle
  refine wb_cons (w1_forD (F := F16) (ds := [.int 0, .int 1]) (fun F9 m σ' H' => ∃ Fj u6, Same F9 Fj ∧ Gr F16 H16 Fj H' ∧ σ' = [some (.ref l), some v1, some (.int i), some (.int j), some (.ref pw), some (.ref pf), u6, none, none, none, none, none, none, none])
    (wsrc_tup (wv_tup (wvs_cons wv_int (wvs_cons wv_int wvs_nil)))) r16.g.fh ?_ ?_ ?_ ?_)
  · exact fun F9 H9 g9 => ⟨F9, none, Same.refl _, g9, rfl⟩
  · exact fun F9 n σ' H' ⟨Fj, _, s1, g, _⟩ => s1.trans g.fh
  · rintro F9 m dd v σ' Ha Hb ed ⟨Fj, u6, s1, g, rfl⟩ hy
    obtain ⟨Fb, gb, dv⟩ := hy Fj s1 g.fh
    have hm : m < 2 := (List.getElem?_eq_some_iff.mp ed).1
    have edm : dd = .int (m : Nat) := by
      rcases m with _ | _ | m
      · exact (Option.some.inj ed).symm
      · exact (Option.some.inj ed).symm
      · omega
    rw [edm] at dv
    rw [dv.int_inv]
    have gg := g.trans gb
    obtain ⟨W, S, eW, eS, wl, sl, wi⟩ : ∃ W S : List (List Int), ([.list ((netsM T1 "long" i j []).map tI), .list ((circlesM T1 "long" i j).map tI)] : List PyData)[m]? = some (.list (W.map tI)) ∧ ([.list ((netsM T1 "short" i j []).map tI), .list ((circlesM T1 "short" i j).map tI)] : List PyData)[m]? = some (.list (S.map tI)) ∧ (W.length ≤ 1000 ∧ ∀ s ∈ W, s.length ≤ 100) ∧ S.length ≤ 1000 ∧ ∀ c ∈ S, insideM W c = true := by
      rcases m with _ | _ | m
      · exact ⟨_, _, rfl, rfl, le_bd ml, (le_bd ml).1, fun c hc => inside_of (nets_in hc)⟩
      · exact ⟨_, _, rfl, rfl, le_bd ol, (le_bd ol).1, fun c hc => inside_of (circles_in hc)⟩
      · omega
    have dWb := dW.mono gg.ff
    refine wg_name 6 sc_law_right.nd (wb_one (w1_ifq (F := Fb) (t := false) (Wq.to (wq_not (wq_val (wv_callB (cr_all rfl) (cd_all (bs := S.map fun c => insideM W c)) (wv_lc sc_law_right.nd (blkOk_by (own := [("_law_part", 11)]) (N := n_law_right) (sc := C8.fnScope s_law_right) (by decide +kernel)) (lcv_n0 (xs := S) (enc := tI) 11 (fun c => .bool (insideM W c)) (wsrc_list (wv_ixL (wv_var 5 rfl (dF.mono gg.ff)) (wv_var 6 rfl (.int (m : Nat))) (atI_nat eS))) (Nat.le_trans sl (by decide)) (fun _ _ _ _ _ => pg_name (i := 11) sc_law_right.nd rfl (Or.inl rfl)) (fun _ => rfl) ?_) |>.to (by rw [List.map_map]; rfl)) T.all))) ?_) gg.fh (fun z => by cases z) fun _ H9 s9 => wb_nil ?_))
    · exact fun c hc F1 v sF h1 _ _ _ _ _ => wv_call (W, c) ci hr (wvs_cons (wv_ixL (wv_var 4 rfl (dWb.mono sF)) (wv_var 6 rfl (.int (m : Nat))) (atI_nat eW)) (wvs_cons (wv_var 11 rfl h1) wvs_nil)) wl
    · rw [Bool.not_eq_false', List.all_eq_true]
      intro x hx
      obtain ⟨c, hc, rfl⟩ := List.mem_map.mp hx
      exact wi c hc
    · exact ⟨Fb, _, s1.trans gb.ff, gg.trans ⟨Same.refl _, gg.fh.trans s9, s9, fun _ e _ => e⟩, rfl⟩
  rintro F9 σ' H17 ⟨F17, u6, _, g17, rfl⟩
  have r17 := r16.gr g17
  have s17 := s14.trans g17.ff
  clear r16 g17 dW dF s14
  -- no more need be lost
  obtain ⟨lo, el⟩ := lost_there (T := T1) (kind := "long") (i := i) (j := j) (ls := []) od
  obtain ⟨so, es, hle⟩ := lost_le el
  refine wb_cons (w1_if (wt_cmp op_gt (we_callB call_len_seq T.len (wa_cons (we_callX ⟨T1, "short", i, j⟩ clo hr (args rfl rfl rfl s17) r17.g.fh r17.t (tok.ar oi oj) fun v8 F18 H18 g18 t18 d18 => wa_nil ?_)))))
  have d18 : Dq K F18 v8 (optD (lhit (netsM T1 "short" i j []))) := d18
  rw [es] at d18
  obtain ⟨a8, x8, rfl, q8, dx8⟩ := Dq.tup_inv (ds := so.map .int) d18
  have r18 := r17.tm g18 t18
  refine ⟨a8, x8, rfl, .inr (same_t g18.fh q8), we_callB call_len_seq T.len (wa_cons (we_callX ⟨T1, "long", i, j⟩ clo hr (args rfl rfl rfl (s17.trans g18.ff)) g18.fh t18 (tok.ar oi oj) fun v9 F19 H19 g19 t19 d19 => wa_nil ?_))⟩
  have d19 : Dq K F19 v9 (optD (lhit (netsM T1 "long" i j []))) := d19
  rw [el] at d19
  obtain ⟨a9, x9, rfl, q9, dx9⟩ := Dq.tup_inv (ds := lo.map .int) d19
  have r19 := r18.tm g19 t19
  have l8 := dx8.length
  have l9 := dx9.length
  rw [List.length_map] at l8 l9
  refine ⟨a9, x9, rfl, .inr (same_t g19.fh q9), _, _, rfl, rfl, _, rfl, ?_⟩
  rw [decide_eq_false (show ¬ ((x9.length : Int) < (x8.length : Int)) by omega)]
  refine iteF (wb_nil ?_)
  have s19 := (s17.trans g18.ff).trans g19.ff
  clear r17 r18 g18 g19 t18 t19 d18 d19 q8 q9 dx8 dx9 s17
  -- the edge
  refine wb_cons (w1_set 7 sc_law_right.nd (we_callX ⟨T1, "short", i, j⟩ cfr hr (args rfl rfl rfl s19) r19.g.fh r19.t (tok.ar oi oj) fun v20 F20 H20 g20 t20 d20 => ?_))
  have r20 := r19.tm g20 t20
  have s20 := s19.trans g20.ff
  replace d20 : Dq K F20 v20 (.list ((frM T1 "short" i j).map prD)) := d20
  refine wb_cons (w1_for (wi_at (we_callX ⟨T1, "long", i, j⟩ cfr hr (args rfl rfl rfl s20) g20.fh t20 (tok.ar oi oj) fun v21 F21 H21 g21 t21 d21 => ⟨F21, g21.fh, d21, fun J hJ => ?_⟩)))
  have r21 := r20.tm g21 t21
  have s21 := s20.trans g21.ff
  have dE := d20.mono g21.ff
  refine for_it hJ (fun m σ' H' => ∃ Fj u8 u9, Gr F21 H21 Fj H' ∧ σ' = [some (.ref l), some v1, some (.int i), some (.int j), some (.ref pw), some (.ref pf), u6, some v20, u8, u9, none, none, none, none]) ⟨F21, none, none, Gr.refl g21.fh, rfl⟩ (fun m σ' H' _ ⟨Fj, _, _, g, _⟩ => g.ff.trans g.fh) ?_ ?_
  · rintro m v σ' Ha Hb hm ⟨Fj, u8, u9, g, rfl⟩ hy
    obtain ⟨dd, Fb, ed, gb, dv⟩ := hy Fj g.ff g.fh
    rw [List.getElem?_map] at ed
    cases eo : (frM T1 "long" i j)[m]? with
    | none =>
      rw [eo] at ed
      cases ed
    | some p =>
    rw [eo] at ed
    cases ed
    have gg := g.trans gb
    obtain ⟨qq, hq, h1, h2⟩ := fr_le (List.mem_of_getElem? eo)
    have dEb := dE.mono gg.ff
    have fl9 := frM_len (T := T1) (kind := "short") (i := i) (j := j) ol
    refine wg_pair dv gg.fh fun va vb da db => wgs_cons (wg_name 8 sc_law_right.nd (wgs_cons (wg_name 9 sc_law_right.nd (wgs_nil ?_))))
    rw [da.int_inv, db.int_inv]
    refine wb_one (w1_ifq (F := Fb) (t := false) (Wq.to (wq_eqE hr (wv_lc sc_law_right.nd (blkOk_by (own := [("_law_own_so", 12)]) (N := n_law_right) (sc := C8.fnScope s_law_right) (by decide +kernel)) (lcv_n (xs := frM T1 "short" i j) (enc := prD) 12 (fun o => decide (o.1 ≤ p.1) && decide (o.2 ≤ p.2)) prD (wsrc_list (wv_var 7 rfl dEb)) (by omega) (fun _ _ _ _ _ => pg_name (i := 12) sc_law_right.nd rfl (Or.inl rfl)) (fun _ => rfl)
      (fun o _ F1 v sF h1 => ts_one fun _ _ _ _ _ => wq_and2 (wq_le (wv_ixT (wv_var 12 rfl h1) wv_int (atI_nat (j := 0) rfl)) (wv_var 8 rfl (.int p.1))) fun _ => wq_le (wv_ixT (wv_var 12 rfl h1) wv_int (atI_nat (j := 1) rfl)) (wv_var 9 rfl (.int p.2))) (fun o _ _ F1 v sF h1 _ _ _ _ _ => wv_var 12 rfl h1))) (shL.prs _)) ?_) gg.fh (fun z => by cases z) fun _ H9 s9 => wb_nil ?_)
    · cases z : (List.map prD (List.filter (fun o : Int × Int => decide (o.1 ≤ p.1) && decide (o.2 ≤ p.2)) (frM T1 "short" i j))).isEmpty with
      | false => rfl
      | true =>
        rw [List.isEmpty_iff, List.map_eq_nil_iff, List.filter_eq_nil_iff] at z
        exact absurd (by simp [h1, h2]) (z qq hq)
    · exact ⟨Fb, _, _, gg.trans ⟨Same.refl _, gg.fh.trans s9, s9, fun _ e _ => e⟩, rfl⟩
  rintro σ' H22 ⟨F22, u8, u9, g22, rfl⟩
  have r22 := r21.gr g22
  have s22 := s21.trans g22.ff
  clear r19 r20 r21 g20 g21 g22 t20 t21 d20 d21 dE s19 s20 s21
  -- what is fragile
  refine wb_cons (w1_set 10 sc_law_right.nd (we_call cfg hr (wa_cons (Wv.go (F := F22) (wv_var 1 rfl (dt12.mono s22)) r22.g.fh fun vt F23 H23 g23 dt23 => wa_cons (we_of pe_str (wa_cons (Wv.int (F := F23) wv_int g23.fh fun H24 s24 => wa_nil ?_)))))))
  have r24 := (r22.gr g23).sm s24
  refine ⟨F23, T1, "short", vt, rfl, r24.g.fh, dt23, tok.tb, tok.lk, ml, fun v25 ps H25 s25 d25 hps => ?_⟩
  have dt25 : Dq K H25 v1 (tabD T1) := (dt12.mono s22).mono (((r22.g.fh.trans g23.hh).trans s24).trans s25)
  refine wb_one (w1_ret (we_cmp (op_eqD (room64 hr)) (we_lc sc_law_right.nd (blkOk_by (own := [("_law_pair", 13)]) (N := n_law_right) (sc := C8.fnScope s_law_right) (by decide +kernel)) ?_)))
  refine lcw_at (we_call cfg hr (wa_cons (Wv.go (F := H25) (wv_var 1 rfl dt25) (Same.refl _) fun vt2 F26 H26 g26 dt26 => wa_cons (we_of pe_str (wa_cons (Wv.int (F := F26) wv_int g26.fh fun H27 s27 => wa_nil ?_))))))
  refine ⟨F26, T1, "long", vt2, rfl, g26.fh.trans s27, dt26, tok.tb, tok.lk, ml, fun v28 ls H28 s28 d28 hls => ⟨H28, ls.map prD, Same.refl _, d28, fun J hJ => ?_⟩⟩
  have d25 := d25.mono ((g26.hh.trans s27).trans s28)
  have none : ls.filter (fun p => !decide (p ∈ ps)) = [] := by
    rw [List.filter_eq_nil_iff]
    intro p hp
    have : p ∈ ps := (hps p).mpr (frag_le ((hls p).mp hp))
    simp [this]
  refine lcS_n (xs := ls) (enc := prD) 13 (fun p => !decide (p ∈ ps)) prD hJ (Same.refl _) (by rw [none]; exact Nat.zero_le _) (fun _ _ _ _ _ => pg_name (i := 13) sc_law_right.nd rfl (Or.inl rfl)) (fun _ => rfl) (fun p _ F1 v sF h1 => ts_one fun _ _ _ _ _ => wq_notInP hr (wv_var 13 rfl h1) (wv_var 10 rfl (d25.mono sF))) (fun p _ _ F1 v sF h1 _ _ _ _ _ => wv_var 13 rfl h1) _ fun v29 F29 H29 g29 d29 => ?_
  rw [none] at d29
  refine Wv.go (F := F29) (wv_lst wvs_nil) g29.fh fun w30 F30 H30 g30 d30 => ?_
  refine rd_eqE (F := F30) (ds := []) shL.nil F30 H30 _ _ (Same.refl _) g30.fh (d29.mono g30.ff) d30 _ fun z F31 H31 g31 dz => ?_
  rw [dz.bl_inv]
  exact q H31 (r24.kp (((((s25.trans g26.hh).trans s27).trans s28).trans g29.hh).trans (g30.hh.trans g31.hh)))
end
end K29
set_option Elab.async false
set_option linter.all false
set_option maxRecDepth 100000
set_option maxHeartbeats 4000000
set_option pp.maxSteps 300
namespace K29
open PySem PySem.Spec PyProof.Rows L2 LamX
/-- what stood stands, but the tables -/
structure Lw (t : Tbs) (H H' : Hp) : Prop where
  hh : ∀ a o, ¬ t.M a → H a = some o → H' a = some o
  th : ∀ a, H' a = none → H a = none
  t1 : TabS H' t.P1 lq1
  t2 : TabS H' t.P2 lq2
theorem tabS_same {H H' : Hp} {P : Addr} {q : Str} (s : Same H H') (h : TabS H P q) : TabS H' P q := h.ext s
theorem tabS_upd {H : Hp} {P D : Addr} {q : Str} {acc : List V} {o : HO} (e : H D = some (.lst acc)) (h : TabS H P q) : TabS (upd H D o) P q := by
  obtain ⟨ps, h1, h2, h3⟩ := h
  refine ⟨ps, ?_, h2, fun pos cv z => ?_⟩
  · rw [upd_ne]
    · exact h1
    · rintro rfl
      rw [h1] at e
      cases e
  · obtain ⟨c, z1, z2⟩ := h3 pos cv z
    refine ⟨c, z1, ?_⟩
    rw [upd_ne]
    · exact z2
    · rintro rfl
      rw [z2] at e
      unfold CodeO at e
      cases e
theorem tabS_at {H : Hp} {P : Addr} {q : Str} (h : TabS H P q) : ∃ ps, H P = some (.tbl ps) := by
  obtain ⟨ps, e, _⟩ := h
  exact ⟨ps, e⟩
theorem Lw.sm {t : Tbs} {H H1 H2 : Hp} (h : Lw t H H1) (s : Same H1 H2) : Lw t H H2 := ⟨fun a o n e => s _ _ (h.hh a o n e), fun a e => h.th a (s.free e), h.t1.ext s, h.t2.ext s⟩
theorem sql_af {K : PySem.W.Frag} {H : Hp} {ms : List Addr} {a : Addr} {xs : List V} (h : SqL K H a xs) (n : a ∈ ms → H a = none ∨ ∃ ps, H a = some (.tbl ps)) : SqL K (AF ms H) a xs := by
  rcases h with (h | ⟨o, h⟩) | h
  · refine .inl (.inl ?_)
    rw [af_yes fun m => ?_]
    · exact h
    · rcases n m with e | ⟨ps, e⟩ <;> (rw [h] at e; cases e)
  · refine .inl (.inr ⟨o, ?_⟩)
    rw [af_yes fun m => ?_]
    · exact h
    · rcases n m with e | ⟨ps, e⟩ <;> (rw [h] at e; cases e)
  · exact .inr h
theorem all_rep (n : Nat) : (List.replicate n true).all id = true := by
  rw [List.all_eq_true]
  intro x hx
  exact List.eq_of_mem_replicate hx
section
variable {P : Program} {w : World} {K : PySem.W.Frag} {mg : Str → Option Value} {base : Heap} {f : Addr} {fd : FuncData} {t : Tbs}
abbrev n_law : List Str := ["_law_script", "_law_k"]
theorem sc_law : FnScope n_law ["_law_script"] (C8.fnScope s_law) := C8.fnScope_by (by decide +kernel)
def spLaw (t : Tbs) (K : PySem.W.Frag) : Sp := fun vs H Q _ => ∃ (a : Addr) (ns : List Int), vs = [.ref a] ∧ SqL K H a (ns.map V.int) ∧ t.P1 ≠ t.P2 ∧ TabS H t.P1 lq1 ∧ TabS H t.P2 lq2 ∧ ∀ H', Q (.bl true) H'
theorem c_law (T : Txt K mg) (cb : C8.Cal P w K mg base 1 "_law_box" (spBox K) []) (cr : C8.Cal P w K mg base 14 "_law_right" (spRight t K) []) (F : C8.Fun K "law" "law" s_law f fd) : FnOk P w K mg base C8.CX0 15 f fd ["_law_script"] (spLaw t K) := by
  refine C8.fn0 (N := n_law) F sc_law (fun vs H Q E ⟨_, _, e, _⟩ => by rw [e]; rfl) fun cdv A outer s H vs Q E hr ⟨a, ns, e, hs, ne, t1, t2, q⟩ => ⟨_, wb_pss, ?_⟩
  show Wb (CxD P w K mg base n_law "law" (C8.fnScope s_law) f cdv A outer s H E) (C8.fnBody s_law) (DEnd Q) (start n_law vs) H
  subst e
  obtain ⟨ps1, e1⟩ := tabS_at t1
  obtain ⟨ps2, e2⟩ := tabS_at t2
  have hsF : SqL K (AF [t.P1, t.P2] H) a (ns.map V.int) := sql_af hs fun m => .inr (by
    simp only [List.mem_cons, List.not_mem_nil, or_false] at m
    rcases m with rfl | rfl
    · exact ⟨_, e1⟩
    · exact ⟨_, e2⟩)
  have f1 : (AF [t.P1, t.P2] H) t.P1 = none := af_no (by simp)
  have f2 : (AF [t.P1, t.P2] H) t.P2 = none := af_no (by simp)
  generalize hF : AF [t.P1, t.P2] H = F at hsF f1 f2
  have s0 : Same F H := hF ▸ af_same
  refine wb_one (w1_ret (we_callB (cr_all rfl) T.all (wa_cons (we_lc sc_law.nd (blkOk_by (own := [("_law_k", 1)]) (N := n_law) (sc := C8.fnScope s_law) (by decide +kernel)) ?_))))
  refine Wsrc.go (F := F) (ds := rangeD 0 (1 + min 2 ns.length)) (wsrc_rangeN T.range (wv_add wv_int (wv_min2 rfl T.min wv_int (wv_lenS 0 rfl hsF T.len))) ⟨?_, by omega⟩) s0 fun J F0 H0 g0 hJ D hD => ?_
  · rw [List.length_map]
    by_cases z : (ns.length : Int) < 2
    · rw [if_pos z]
      omega
    · rw [if_neg z]
      omega
  have f01 : F0 t.P1 = none := g0.noF f1 e1
  have f02 : F0 t.P2 = none := g0.noF f2 e2
  have hs0 : SqL K F0 a (ns.map V.int) := SqL.mono g0.ff hsF
  have hD0 : H D = none := g0.hh.free hD
  have fD : F0 D = none := g0.fh.free hD
  have w0 : Lw t H0 H0 := ⟨fun a o _ e => e, fun a e => e, t1.ext g0.hh, t2.ext g0.hh⟩
  have n1 : D ≠ t.P1 := fun z => by
    rw [z, g0.hh _ _ e1] at hD
    cases hD
  have n2 : D ≠ t.P2 := fun z => by
    rw [z, g0.hh _ _ e2] at hD
    cases hD
  have nM : ¬ t.M D := fun m => m.elim n1 n2
  have upL : ∀ {H1 : Hp} {acc : List V} {o : HO}, Lw t H0 H1 → H1 D = some (.lst acc) → Lw t H0 (upd H1 D o) := fun {H1 acc o} h e => ⟨fun a u n e' => by
    rw [upd_ne (fun z => by rw [z, hD] at e'; cases e')]
    exact h.hh a u n e', fun a e' => by
    by_cases z : a = D
    · rw [z, upd_same] at e'
      cases e'
    · rw [upd_ne z] at e'
      exact h.th a e', tabS_upd e h.t1, tabS_upd e h.t2⟩
  have sG : ∀ {H1 : Hp}, Lw t H0 H1 → Same F0 H1 := fun {H1} h a o e => h.hh a o (fun m => m.elim (fun z => by rw [z, f01] at e; cases e) fun z => by rw [z, f02] at e; cases e) (g0.fh _ _ e)
  refine lc_it hJ (fun i H' => Lw t H0 H' ∧ H' D = some (.lst (List.replicate i (V.bl true)))) ⟨?_, upd_same⟩ (fun i H' _ ⟨h, _⟩ => sG h) ?_ ?_
  · refine ⟨fun a u n e' => ?_, fun a e' => ?_, (t1.ext g0.hh).ext (same_new hD), (t2.ext g0.hh).ext (same_new hD)⟩
    · exact same_new hD _ _ e'
    · exact (same_new hD (o := .lst [])).free e'
  · rintro i v H1 H2 hi ⟨h, eD⟩ hy
    obtain ⟨dd, F2, ed, g2, dv⟩ := hy F0 (Same.refl _) (sG h)
    obtain ⟨_, rfl⟩ := rangeD_at ed
    rw [dv.int_inv, Int.zero_add]
    have h2 := h.sm g2.hh
    have eD2 := g2.hh _ _ eD
    rw [rangeD_len] at hi
    intro sx Hx C1 cl1 fp1
    refine wg_of (pg_name (i := 1) sc_law.nd rfl (Or.inl rfl)) ⟨rfl, ?_⟩
    refine ts_nil (F := F0) H2 (sG h2) _ fun H3 s3 => iteT ?_
    have h3 := h2.sm s3
    have eD3 := s3 _ _ eD2
    intro sx Hx C1 cl1 fp1
    refine we_call cr hr (wa_cons (we_call cb hr (wa_cons (we_var 0 rfl (wa_cons (we_var 1 rfl (wa_nil ⟨F0, a, ns, i, rfl, sG h3, hs0, by omega, fun l H4 g4 hl b4 => wa_nil ?_⟩)))))))
    have h4 := h3.sm g4.hh
    have eD4 := g4.hh _ _ eD3
    obtain ⟨o, el⟩ := b4.there
    refine ⟨AF [t.P1, t.P2, l] H4, l, rfl, af_same, af_no (by simp), b4, ⟨ne, af_no (by simp), af_no (by simp), h4.t1, h4.t2⟩, fun H5 kp => ?_⟩
    have nl : D ≠ l := fun z => by
      rw [← z, eD3] at hl
      cases hl
    have eD5 : H5 D = some (.lst (List.replicate i (V.bl true))) := kp.hh D _ (fun m => m.elim nl nM) eD4
    have h5 : Lw t H0 H5 := ⟨fun a u n e' => by
      have e3 := h3.hh a u n e'
      exact kp.hh a u (fun m => m.elim (fun z => by rw [z, hl] at e3; cases e3) n) (g4.hh _ _ e3), fun a e' => h4.th a (kp.th a e'), kp.t1, kp.t2⟩
    refine ⟨_, eD5, by rw [List.length_replicate]; exact Nat.lt_of_lt_of_le (show i < 1000 by omega) (by decide), upL h5 eD5, ?_⟩
    rw [upd_same]
    show some (HO.lst (List.replicate i (V.bl true) ++ [V.bl true])) = _
    rw [← List.replicate_succ']
  · rintro H1 ⟨h, eD⟩
    refine wa_nil ⟨D, List.replicate (1 + min 2 ns.length) true, rfl, SqL.of ?_, ?_⟩
    · rw [List.map_replicate]
      rw [rangeD_len] at eD
      exact eD
    · rw [all_rep]
      exact q H1
end
end K29
set_option Elab.async false
set_option maxRecDepth 100000
set_option maxHeartbeats 0
namespace K29
open PySem PySem.Spec PyProof.Rows L2
def d_as_tuples : He.DefD := ⟨("as_tuples", none), "as_tuples", "as_tuples", defArgs s_as_tuples, defBody s_as_tuples, defScope s_as_tuples, [], []⟩
def d_events_of : He.DefD := ⟨("events_of", none), "events_of", "events_of", defArgs s_events_of, defBody s_events_of, defScope s_events_of, [], []⟩
def d_looks : He.DefD := ⟨("looks", none), "looks", "looks", defArgs s_looks, defBody s_looks, defScope s_looks, [], []⟩
def d_adds : He.DefD := ⟨("adds", none), "adds", "adds", defArgs s_adds, defBody s_adds, defScope s_adds, [], []⟩
def d_B_init : He.DefD := ⟨("Bonds", some "__init__"), "__init__", "Bonds.__init__", defArgs s_B_init, defBody s_B_init, defScope s_B_init, [.adr (He.dflAt ("Bonds", some "__init__") 0), .adr (He.dflAt ("Bonds", some "__init__") 1)], []⟩
def d_B_many : He.DefD := ⟨("Bonds", some "many"), "many", "Bonds.many", defArgs s_B_many, defBody s_B_many, defScope s_B_many, [], []⟩
def d_B_is_alike : He.DefD := ⟨("Bonds", some "is_alike"), "is_alike", "Bonds.is_alike", defArgs s_B_is_alike, defBody s_B_is_alike, defScope s_B_is_alike, [], []⟩
def d_B_is_below : He.DefD := ⟨("Bonds", some "is_below"), "is_below", "Bonds.is_below", defArgs s_B_is_below, defBody s_B_is_below, defScope s_B_is_below, [], []⟩
def d_B_bind : He.DefD := ⟨("Bonds", some "bind"), "bind", "Bonds.bind", defArgs s_B_bind, defBody s_B_bind, defScope s_B_bind, [.adr (He.dflAt ("Bonds", some "bind") 0)], []⟩
def d_B_lower : He.DefD := ⟨("Bonds", some "lower"), "lower", "Bonds.lower", defArgs s_B_lower, defBody s_B_lower, defScope s_B_lower, [.adr (He.dflAt ("Bonds", some "lower") 0)], []⟩
def d_B_go_through : He.DefD := ⟨("Bonds", some "go_through"), "go_through", "Bonds.go_through", defArgs s_B_go_through, defBody s_B_go_through, defScope s_B_go_through, [], []⟩
def d_B_looked : He.DefD := ⟨("Bonds", some "looked"), "looked", "Bonds.looked", defArgs s_B_looked, defBody s_B_looked, defScope s_B_looked, [], []⟩
def d_B_compared : He.DefD := ⟨("Bonds", some "compared"), "compared", "Bonds.compared", defArgs s_B_compared, defBody s_B_compared, defScope s_B_compared, [], []⟩
def d_B_is_late : He.DefD := ⟨("Bonds", some "is_late"), "is_late", "Bonds.is_late", defArgs s_B_is_late, defBody s_B_is_late, defScope s_B_is_late, [], []⟩
def d_B_close : He.DefD := ⟨("Bonds", some "close"), "close", "Bonds.close", defArgs s_B_close, defBody s_B_close, defScope s_B_close, [], []⟩
def d_B_rules : He.DefD := ⟨("Bonds", some "rules"), "rules", "Bonds.rules", defArgs s_B_rules, defBody s_B_rules, defScope s_B_rules, [], []⟩
def d_check_look : He.DefD := ⟨("check_look", none), "check_look", "check_look", defArgs s_check_look, defBody s_check_look, defScope s_check_look, [], []⟩
def d_check_looks : He.DefD := ⟨("check_looks", none), "check_looks", "check_looks", defArgs s_check_looks, defBody s_check_looks, defScope s_check_looks, [], []⟩
def d_choices : He.DefD := ⟨("choices", none), "choices", "choices", defArgs s_choices, defBody s_choices, defScope s_choices, [], []⟩
def d_has_all : He.DefD := ⟨("has_all", none), "has_all", "has_all", defArgs s_has_all, defBody s_has_all, defScope s_has_all, [], []⟩
def d_least_enough : He.DefD := ⟨("least_enough", none), "least_enough", "least_enough", defArgs s_least_enough, defBody s_least_enough, defScope s_least_enough, [], []⟩
def d_hits : He.DefD := ⟨("hits", none), "hits", "hits", defArgs s_hits, defBody s_hits, defScope s_hits, [], []⟩
def d_least_hit : He.DefD := ⟨("least_hit", none), "least_hit", "least_hit", defArgs s_least_hit, defBody s_least_hit, defScope s_least_hit, [], []⟩
def d_is_with : He.DefD := ⟨("is_with", none), "is_with", "is_with", defArgs s_is_with, defBody s_is_with, defScope s_is_with, [], []⟩
def d_meetings_of : He.DefD := ⟨("meetings_of", none), "meetings_of", "meetings_of", defArgs s_meetings_of, defBody s_meetings_of, defScope s_meetings_of, [], []⟩
def d_C_init : He.DefD := ⟨("Chances", some "__init__"), "__init__", "Chances.__init__", defArgs s_C_init, defBody s_C_init, defScope s_C_init, [], []⟩
def d_C_timetable : He.DefD := ⟨("Chances", some "timetable"), "timetable", "Chances.timetable", defArgs s_C_timetable, defBody s_C_timetable, defScope s_C_timetable, [], []⟩
def d_C_meetings : He.DefD := ⟨("Chances", some "meetings"), "meetings", "Chances.meetings", defArgs s_C_meetings, defBody s_C_meetings, defScope s_C_meetings, [.adr (He.dflAt ("Chances", some "meetings") 0)], []⟩
def d_C_lookers : He.DefD := ⟨("Chances", some "lookers"), "lookers", "Chances.lookers", defArgs s_C_lookers, defBody s_C_lookers, defScope s_C_lookers, [], []⟩
def d_C_others : He.DefD := ⟨("Chances", some "others"), "others", "Chances.others", defArgs s_C_others, defBody s_C_others, defScope s_C_others, [], []⟩
def d_C_bonds : He.DefD := ⟨("Chances", some "bonds"), "bonds", "Chances.bonds", defArgs s_C_bonds, defBody s_C_bonds, defScope s_C_bonds, [], []⟩
def d_C_hides : He.DefD := ⟨("Chances", some "hides"), "hides", "Chances.hides", defArgs s_C_hides, defBody s_C_hides, defScope s_C_hides, [], []⟩
def d_C_nets : He.DefD := ⟨("Chances", some "nets"), "nets", "Chances.nets", defArgs s_C_nets, defBody s_C_nets, defScope s_C_nets, [.adr (He.dflAt ("Chances", some "nets") 0)], []⟩
def d_C_circles : He.DefD := ⟨("Chances", some "circles"), "circles", "Chances.circles", defArgs s_C_circles, defBody s_C_circles, defScope s_C_circles, [], []⟩
def d_chances_of : He.DefD := ⟨("chances_of", none), "chances_of", "chances_of", defArgs s_chances_of, defBody s_chances_of, defScope s_chances_of, [], []⟩
def d_nets : He.DefD := ⟨("nets", none), "nets", "nets", defArgs s_nets, defBody s_nets, defScope s_nets, [], []⟩
def d_circles : He.DefD := ⟨("circles", none), "circles", "circles", defArgs s_circles, defBody s_circles, defScope s_circles, [], []⟩
def d_least_lost : He.DefD := ⟨("least_lost", none), "least_lost", "least_lost", defArgs s_least_lost, defBody s_least_lost, defScope s_least_lost, [], []⟩
def d_least_with : He.DefD := ⟨("least_with", none), "least_with", "least_with", defArgs s_least_with, defBody s_least_with, defScope s_least_with, [], []⟩
def d_frontier : He.DefD := ⟨("frontier", none), "frontier", "frontier", defArgs s_frontier, defBody s_frontier, defScope s_frontier, [], []⟩
def d_fragile : He.DefD := ⟨("fragile", none), "fragile", "fragile", defArgs s_fragile, defBody s_fragile, defScope s_fragile, [], []⟩
def d_law_box : He.DefD := ⟨("_law_box", none), "_law_box", "_law_box", defArgs s_law_box, defBody s_law_box, defScope s_law_box, [], []⟩
def d_law_take : He.DefD := ⟨("_law_take", none), "_law_take", "_law_take", defArgs s_law_take, defBody s_law_take, defScope s_law_take, [], []⟩
def d_law_of : He.DefD := ⟨("_law_of", none), "_law_of", "_law_of", defArgs s_law_of, defBody s_law_of, defScope s_law_of, [], []⟩
def d_law_event : He.DefD := ⟨("_law_event", none), "_law_event", "_law_event", defArgs s_law_event, defBody s_law_event, defScope s_law_event, [], []⟩
def d_law_table : He.DefD := ⟨("_law_table", none), "_law_table", "_law_table", defArgs s_law_table, defBody s_law_table, defScope s_law_table, [], []⟩
def d_law_spots : He.DefD := ⟨("_law_spots", none), "_law_spots", "_law_spots", defArgs s_law_spots, defBody s_law_spots, defScope s_law_spots, [], []⟩
def d_law_had : He.DefD := ⟨("_law_had", none), "_law_had", "_law_had", defArgs s_law_had, defBody s_law_had, defScope s_law_had, [], []⟩
def d_law_bound : He.DefD := ⟨("_law_bound", none), "_law_bound", "_law_bound", defArgs s_law_bound, defBody s_law_bound, defScope s_law_bound, [], []⟩
def d_law_two : He.DefD := ⟨("_law_two", none), "_law_two", "_law_two", defArgs s_law_two, defBody s_law_two, defScope s_law_two, [], []⟩
def d_law_inside : He.DefD := ⟨("_law_inside", none), "_law_inside", "_law_inside", defArgs s_law_inside, defBody s_law_inside, defScope s_law_inside, [], []⟩
def d_law_right : He.DefD := ⟨("_law_right", none), "_law_right", "_law_right", defArgs s_law_right, defBody s_law_right, defScope s_law_right, [], []⟩
def d_law : He.DefD := ⟨("law", none), "law", "law", defArgs s_law, defBody s_law, defScope s_law, [], []⟩
def fnL0 : List He.DefD := [d_as_tuples, d_events_of, d_looks, d_adds, d_B_init, d_B_many, d_B_is_alike, d_B_is_below, d_B_bind, d_B_lower, d_B_go_through, d_B_looked, d_B_compared, d_B_is_late, d_B_close, d_B_rules, d_check_look, d_check_looks, d_choices, d_has_all, d_least_enough, d_hits, d_least_hit, d_is_with, d_meetings_of, d_C_init, d_C_timetable, d_C_meetings, d_C_lookers, d_C_others]
def fnL1 : List He.DefD := [d_C_bonds, d_C_hides, d_C_nets, d_C_circles, d_chances_of, d_nets, d_circles, d_least_lost, d_least_with, d_frontier, d_fragile, d_law_box, d_law_take, d_law_of, d_law_event, d_law_table, d_law_spots, d_law_had, d_law_bound, d_law_two, d_law_inside, d_law_right, d_law]
def fnL : List He.DefD := fnL0 ++ fnL1
def faL0 : List He.Fa := [.glo "as_tuples", .glo "events_of", .glo "looks", .glo "adds", .glo "check_look", .glo "check_looks", .glo "choices", .glo "has_all", .glo "least_enough", .glo "hits", .glo "least_hit", .glo "is_with", .glo "meetings_of", .glo "chances_of", .glo "nets", .glo "circles", .glo "least_lost", .glo "least_with", .glo "frontier", .glo "fragile", .glo "_law_box", .glo "_law_take", .glo "_law_of", .glo "_law_event", .glo "_law_table", .glo "_law_spots", .glo "_law_had", .glo "_law_bound", .glo "_law_two", .glo "_law_inside"]
def faL1 : List He.Fa := [.glo "_law_right", .glo "law", .glo "Bonds", .glo "Chances", .glo "PAIRED", .free "isinstance", .free "list", .free "tuple", .free "enumerate", .free "range", .free "len", .free "int", .free "sorted", .free "set", .free "any", .free "all", .free "min", .free "abs", .free "dict", .str "LOOK" "look", .str "ADD" "add", .str "MEET" "meet", .str "TELL" "tell", .str "LONG" "long", .str "ALIKE" "alike", .str "BEGINS" "begins", .cls "Bonds", .cls "Chances", .mkr "Bonds", .mkr "Chances"]
def faL2 : List He.Fa := [.noat "Bonds" "own_people", .noat "Bonds" "own_events", .noat "Bonds" "own_kind", .noat "Bonds" "own_gone", .noat "Bonds" "own_looks", .noat "Bonds" "own_adds", .noat "Bonds" "own_alike", .noat "Bonds" "own_below", .noat "Bonds" "own_has", .noat "Bonds" "own_facts", .noat "Chances" "own_timetable", .noat "Chances" "own_kind", .noat "Chances" "own_known", .meth "Bonds" "many", .meth "Bonds" "is_alike", .meth "Bonds" "is_below", .meth "Bonds" "bind", .meth "Bonds" "lower", .meth "Bonds" "go_through", .meth "Bonds" "looked", .meth "Bonds" "compared", .meth "Bonds" "is_late", .meth "Bonds" "close", .meth "Bonds" "rules", .meth "Chances" "timetable", .meth "Chances" "meetings", .meth "Chances" "lookers", .meth "Chances" "others", .meth "Chances" "bonds", .meth "Chances" "hides"]
def faL3 : List He.Fa := [.meth "Chances" "nets", .meth "Chances" "circles"]
def faL : List He.Fa := faL0 ++ faL1 ++ faL2 ++ faL3
def looseL0 : List Str := ["_wall", "as_tuples", "NoLook", "LOOK", "ADD", "MEET", "TELL", "PAIRED", "LONG", "MADE_UP", "events_of", "looks", "adds", "ALIKE", "BEGINS", "Bonds", "check_look", "check_looks", "choices", "has_all", "least_enough", "hits", "least_hit", "is_with", "meetings_of", "Chances", "chances_of", "nets", "circles", "least_lost"]
def looseL1 : List Str := ["least_with", "frontier", "fragile", "_law_box", "_law_take", "_law_of", "_law_event", "_law_table", "_law_spots", "_law_had", "_law_bound", "_law_two", "_law_inside", "_law_right"]
def looseL : List Str := looseL0 ++ looseL1
def tfL : List He.Defn := [("Chances", some "nets"), ("Chances", some "circles")]
def emp (K : PySem.W.Frag) (a : Addr) : Bool := match K.lookup a with
  | some ⟨.type c, _, .seq its _, _⟩ => decide (c = "tuple") && decide (its.size = 0)
  | _ => false
def exB (K : PySem.W.Frag) : Bool := He.tupB K "PAIRED" [.str "meet", .str "tell"] && (emp K (He.dflAt ("Bonds", some "__init__") 0 K) && (emp K (He.dflAt ("Bonds", some "__init__") 1 K) && (emp K (He.dflAt ("Bonds", some "bind") 0 K) && (emp K (He.dflAt ("Bonds", some "lower") 0 K) && (emp K (He.dflAt ("Chances", some "meetings") 0 K) && (emp K (He.dflAt ("Chances", some "nets") 0 K) && decide (He.tabOf K (He.codeOf K ("Chances", some "nets")) ≠ He.tabOf K (He.codeOf K ("Chances", some "circles")))))))))
abbrev RR : PySem.W.OpenRow := PySem.W.OpenLaw.row PySem.Challenge.rw_hiddenforks_k29_whole_short_and_long
abbrev hkk : PySem.W.Hook := He.hookX 5 faL fnL [] tfL exB
def obb (s : PySem.W.SharedT) : He.AlX := He.obsX 5 faL fnL [] tfL exB (HandSHeadRun.getT s)
theorem obb_eq (s : PySem.W.SharedT) : obb s = hkk.obs s.abs := He.obsX_eq (HandSHeadRun.getT_eq s)
theorem runT (w : World) : HandSHeadRun.RunEq RR (PySem.W.view RR.prog [50]) hkk obb 3000 looseL w := by
  intro os
  kernel_rfl
end K29
set_option Elab.async false
set_option linter.all false
set_option maxRecDepth 100000
set_option maxHeartbeats 4000000
set_option pp.maxSteps 300
/-! each def as it stands behind the top (printed by genjoin.py) -/
namespace K29
open PySem PySem.Spec PyProof.Rows L2
theorem defArgs_eq (st : Stmt) : defArgs st = C8.fnArgs st := by cases st <;> rfl
theorem defBody_eq (st : Stmt) : defBody st = C8.fnBody st := by cases st <;> rfl
theorem defScope_eq (st : Stmt) : defScope st = C8.fnScope st := by cases st <;> rfl
section
variable {h : Heap} {K : PySem.W.Frag} {mg : Str → Option Value} {x qual : Str} {st : Stmt} {f : Addr} {fd : FuncData} {dvs : List V} {kws : List (Str × V)}
theorem funOf (F : FunD K x qual (defArgs st) (defBody st) (defScope st) dvs kws f fd) : C8.Fun K x qual st f fd := by
  obtain ⟨oc, od, dV, kV, doc, pm, an, cdv, ct, osl, e, lk, hcd, _, _⟩ := F.ex
  rw [defArgs_eq, defBody_eq, defScope_eq] at e
  exact ⟨oc, od, dV, kV, doc, pm, an, cdv, ct, osl, e, lk, hcd⟩
theorem funC_of {p : He.Defn} (F : FunD K x qual (defArgs st) (defBody st) (defScope st) dvs kws (He.fAd K p) fd) : FunC K x qual st (He.fAd K p) fd (He.codeOf K p) := by
  obtain ⟨oc, od, dV, kV, doc, pm, an, cdv, ct, osl, e, lk, hcd, _, _⟩ := F.ex
  rw [defArgs_eq, defBody_eq, defScope_eq] at e
  obtain ⟨cc, rfl⟩ := He.codeIn_ref hcd
  have z : He.codeOf K p = cc := He.codeOf_eq lk (by rw [e])
  rw [z]
  exact ⟨oc, od, dV, kV, doc, pm, an, ct, osl, e, lk, hcd⟩
theorem emp_ok {a : Addr} (h : emp K a = true) : Emp K a := fun H => by
  unfold emp at h
  cases q : K.lookup a with
  | none =>
    rw [q] at h
    cases h
  | some o =>
    obtain ⟨oc, od, dt, osl⟩ := o
    rw [q] at h
    cases oc with
    | type c =>
      cases dt with
      | seq its n =>
        obtain ⟨h1, h2⟩ := He.ba (show (decide (c = "tuple") && decide (its.size = 0)) = true from h)
        have e : its = #[] := Array.size_eq_zero_iff.mp (of_decide_eq_true h2)
        refine .inr ⟨_, its, n, q, congrArg Value.type (of_decide_eq_true h1), rfl, ?_, ?_⟩
        · rw [of_decide_eq_true h2]
          exact Nat.zero_le _
        · rw [e]
          exact .nil
      | _ => cases h
    | _ => cases dt <;> cases h
theorem k_as_tuples (X : K.In h) (G : h.Ns mainGlobals mg) (c : He.SaysD faL fnL K) : ∃ fd, C8.Def K mg "as_tuples" s_as_tuples (He.ga K "as_tuples") fd ∧ Binds K fd ["thing"] [] := by
  obtain ⟨fd, F⟩ := c.def_ 0 (d := d_as_tuples) rfl
  have F : FunD K "as_tuples" "as_tuples" (defArgs s_as_tuples) (defBody s_as_tuples) (defScope s_as_tuples) [] [] (He.ga K "as_tuples") fd := F
  exact ⟨fd, ⟨funOf F, He.glo_ok X G (c.fact 0 (f := .glo "as_tuples") rfl), F.kp⟩, FunD.bindsN F fun _ _ _ _ _ _ us hl => match us, hl with | [_], _ => rfl⟩
theorem k_events_of (X : K.In h) (G : h.Ns mainGlobals mg) (c : He.SaysD faL fnL K) : ∃ fd, C8.Def K mg "events_of" s_events_of (He.ga K "events_of") fd ∧ Binds K fd ["timetable", "word"] [] := by
  obtain ⟨fd, F⟩ := c.def_ 1 (d := d_events_of) rfl
  have F : FunD K "events_of" "events_of" (defArgs s_events_of) (defBody s_events_of) (defScope s_events_of) [] [] (He.ga K "events_of") fd := F
  exact ⟨fd, ⟨funOf F, He.glo_ok X G (c.fact 1 (f := .glo "events_of") rfl), F.kp⟩, FunD.bindsN F fun _ _ _ _ _ _ us hl => match us, hl with | [_, _], _ => rfl⟩
theorem k_looks (X : K.In h) (G : h.Ns mainGlobals mg) (c : He.SaysD faL fnL K) : ∃ fd, C8.Def K mg "looks" s_looks (He.ga K "looks") fd ∧ Binds K fd ["timetable"] [] := by
  obtain ⟨fd, F⟩ := c.def_ 2 (d := d_looks) rfl
  have F : FunD K "looks" "looks" (defArgs s_looks) (defBody s_looks) (defScope s_looks) [] [] (He.ga K "looks") fd := F
  exact ⟨fd, ⟨funOf F, He.glo_ok X G (c.fact 2 (f := .glo "looks") rfl), F.kp⟩, FunD.bindsN F fun _ _ _ _ _ _ us hl => match us, hl with | [_], _ => rfl⟩
theorem k_adds (X : K.In h) (G : h.Ns mainGlobals mg) (c : He.SaysD faL fnL K) : ∃ fd, C8.Def K mg "adds" s_adds (He.ga K "adds") fd ∧ Binds K fd ["timetable"] [] := by
  obtain ⟨fd, F⟩ := c.def_ 3 (d := d_adds) rfl
  have F : FunD K "adds" "adds" (defArgs s_adds) (defBody s_adds) (defScope s_adds) [] [] (He.ga K "adds") fd := F
  exact ⟨fd, ⟨funOf F, He.glo_ok X G (c.fact 3 (f := .glo "adds") rfl), F.kp⟩, FunD.bindsN F fun _ _ _ _ _ _ us hl => match us, hl with | [_], _ => rfl⟩
theorem k_B_init (c : He.SaysD faL fnL K) : ∃ fd, C8.Fun K "__init__" "Bonds.__init__" s_B_init (He.ma K (He.ga K "Bonds") "__init__") fd ∧ (∃ ds, Vals [.ref (He.dflAt ("Bonds", some "__init__") 1 K)] ds ∧ Binds K fd ["self", "timetable", "kind", "gone", "more"] ds) := by
  obtain ⟨fd, F⟩ := c.def_ 4 (d := d_B_init) rfl
  have F : FunD K "__init__" "Bonds.__init__" (defArgs s_B_init) (defBody s_B_init) (defScope s_B_init) [.ref (He.dflAt ("Bonds", some "__init__") 0 K), .ref (He.dflAt ("Bonds", some "__init__") 1 K)] [] (He.ma K (He.ga K "Bonds") "__init__") fd := F
  exact ⟨fd, funOf F, FunD.binds1 F 4 1 (fun z => nomatch z) rfl (fun _ _ _ _ _ _ _ us its h1 h2 => match us, its, h1, h2 with | [_, _, _, _], [_, _], _, _ => ⟨_, rfl, rfl⟩)⟩
theorem k_B_many (c : He.SaysD faL fnL K) : ∃ fd, C8.Fun K "many" "Bonds.many" s_B_many (He.ma K (He.ga K "Bonds") "many") fd ∧ Binds K fd ["self"] [] ∧ Meth K (He.ga K "Bonds") "many" (He.ma K (He.ga K "Bonds") "many") := by
  obtain ⟨fd, F⟩ := c.def_ 5 (d := d_B_many) rfl
  have F : FunD K "many" "Bonds.many" (defArgs s_B_many) (defBody s_B_many) (defScope s_B_many) [] [] (He.ma K (He.ga K "Bonds") "many") fd := F
  exact ⟨fd, funOf F, FunD.bindsN F fun _ _ _ _ _ _ us hl => match us, hl with | [_], _ => rfl, He.meth_ok (c.fact 73 (f := .meth "Bonds" "many") rfl)⟩
theorem k_B_is_alike (c : He.SaysD faL fnL K) : ∃ fd, C8.Fun K "is_alike" "Bonds.is_alike" s_B_is_alike (He.ma K (He.ga K "Bonds") "is_alike") fd ∧ Binds K fd ["self", "one", "other"] [] ∧ Meth K (He.ga K "Bonds") "is_alike" (He.ma K (He.ga K "Bonds") "is_alike") := by
  obtain ⟨fd, F⟩ := c.def_ 6 (d := d_B_is_alike) rfl
  have F : FunD K "is_alike" "Bonds.is_alike" (defArgs s_B_is_alike) (defBody s_B_is_alike) (defScope s_B_is_alike) [] [] (He.ma K (He.ga K "Bonds") "is_alike") fd := F
  exact ⟨fd, funOf F, FunD.bindsN F fun _ _ _ _ _ _ us hl => match us, hl with | [_, _, _], _ => rfl, He.meth_ok (c.fact 74 (f := .meth "Bonds" "is_alike") rfl)⟩
theorem k_B_is_below (c : He.SaysD faL fnL K) : ∃ fd, C8.Fun K "is_below" "Bonds.is_below" s_B_is_below (He.ma K (He.ga K "Bonds") "is_below") fd ∧ Binds K fd ["self", "one", "other"] [] ∧ Meth K (He.ga K "Bonds") "is_below" (He.ma K (He.ga K "Bonds") "is_below") := by
  obtain ⟨fd, F⟩ := c.def_ 7 (d := d_B_is_below) rfl
  have F : FunD K "is_below" "Bonds.is_below" (defArgs s_B_is_below) (defBody s_B_is_below) (defScope s_B_is_below) [] [] (He.ma K (He.ga K "Bonds") "is_below") fd := F
  exact ⟨fd, funOf F, FunD.bindsN F fun _ _ _ _ _ _ us hl => match us, hl with | [_, _, _], _ => rfl, He.meth_ok (c.fact 75 (f := .meth "Bonds" "is_below") rfl)⟩
theorem k_B_bind (c : He.SaysD faL fnL K) : ∃ fd, C8.Fun K "bind" "Bonds.bind" s_B_bind (He.ma K (He.ga K "Bonds") "bind") fd ∧ (∃ ds, Vals [] ds ∧ Binds K fd ["self", "one", "other", "source"] ds) ∧ (∃ ds, Vals [.ref (He.dflAt ("Bonds", some "bind") 0 K)] ds ∧ Binds K fd ["self", "one", "other", "source"] ds) ∧ Meth K (He.ga K "Bonds") "bind" (He.ma K (He.ga K "Bonds") "bind") := by
  obtain ⟨fd, F⟩ := c.def_ 8 (d := d_B_bind) rfl
  have F : FunD K "bind" "Bonds.bind" (defArgs s_B_bind) (defBody s_B_bind) (defScope s_B_bind) [.ref (He.dflAt ("Bonds", some "bind") 0 K)] [] (He.ma K (He.ga K "Bonds") "bind") fd := F
  exact ⟨fd, funOf F, FunD.binds1 F 4 1 (fun z => nomatch z) rfl (fun _ _ _ _ _ _ _ us its h1 h2 => match us, its, h1, h2 with | [_, _, _, _], [_], _, _ => ⟨_, rfl, rfl⟩), FunD.binds1 F 3 0 (fun z => nomatch z) rfl (fun _ _ _ _ _ _ _ us its h1 h2 => match us, its, h1, h2 with | [_, _, _], [_], _, _ => ⟨_, rfl, rfl⟩), He.meth_ok (c.fact 76 (f := .meth "Bonds" "bind") rfl)⟩
theorem k_B_lower (c : He.SaysD faL fnL K) : ∃ fd, C8.Fun K "lower" "Bonds.lower" s_B_lower (He.ma K (He.ga K "Bonds") "lower") fd ∧ (∃ ds, Vals [] ds ∧ Binds K fd ["self", "one", "other", "source"] ds) ∧ (∃ ds, Vals [.ref (He.dflAt ("Bonds", some "lower") 0 K)] ds ∧ Binds K fd ["self", "one", "other", "source"] ds) ∧ Meth K (He.ga K "Bonds") "lower" (He.ma K (He.ga K "Bonds") "lower") := by
  obtain ⟨fd, F⟩ := c.def_ 9 (d := d_B_lower) rfl
  have F : FunD K "lower" "Bonds.lower" (defArgs s_B_lower) (defBody s_B_lower) (defScope s_B_lower) [.ref (He.dflAt ("Bonds", some "lower") 0 K)] [] (He.ma K (He.ga K "Bonds") "lower") fd := F
  exact ⟨fd, funOf F, FunD.binds1 F 4 1 (fun z => nomatch z) rfl (fun _ _ _ _ _ _ _ us its h1 h2 => match us, its, h1, h2 with | [_, _, _, _], [_], _, _ => ⟨_, rfl, rfl⟩), FunD.binds1 F 3 0 (fun z => nomatch z) rfl (fun _ _ _ _ _ _ _ us its h1 h2 => match us, its, h1, h2 with | [_, _, _], [_], _, _ => ⟨_, rfl, rfl⟩), He.meth_ok (c.fact 77 (f := .meth "Bonds" "lower") rfl)⟩
theorem k_B_go_through (c : He.SaysD faL fnL K) : ∃ fd, C8.Fun K "go_through" "Bonds.go_through" s_B_go_through (He.ma K (He.ga K "Bonds") "go_through") fd ∧ Binds K fd ["self"] [] ∧ Meth K (He.ga K "Bonds") "go_through" (He.ma K (He.ga K "Bonds") "go_through") := by
  obtain ⟨fd, F⟩ := c.def_ 10 (d := d_B_go_through) rfl
  have F : FunD K "go_through" "Bonds.go_through" (defArgs s_B_go_through) (defBody s_B_go_through) (defScope s_B_go_through) [] [] (He.ma K (He.ga K "Bonds") "go_through") fd := F
  exact ⟨fd, funOf F, FunD.bindsN F fun _ _ _ _ _ _ us hl => match us, hl with | [_], _ => rfl, He.meth_ok (c.fact 78 (f := .meth "Bonds" "go_through") rfl)⟩
theorem k_B_looked (c : He.SaysD faL fnL K) : ∃ fd, C8.Fun K "looked" "Bonds.looked" s_B_looked (He.ma K (He.ga K "Bonds") "looked") fd ∧ Binds K fd ["self", "person", "number"] [] ∧ Meth K (He.ga K "Bonds") "looked" (He.ma K (He.ga K "Bonds") "looked") := by
  obtain ⟨fd, F⟩ := c.def_ 11 (d := d_B_looked) rfl
  have F : FunD K "looked" "Bonds.looked" (defArgs s_B_looked) (defBody s_B_looked) (defScope s_B_looked) [] [] (He.ma K (He.ga K "Bonds") "looked") fd := F
  exact ⟨fd, funOf F, FunD.bindsN F fun _ _ _ _ _ _ us hl => match us, hl with | [_, _, _], _ => rfl, He.meth_ok (c.fact 79 (f := .meth "Bonds" "looked") rfl)⟩
theorem k_B_compared (c : He.SaysD faL fnL K) : ∃ fd, C8.Fun K "compared" "Bonds.compared" s_B_compared (He.ma K (He.ga K "Bonds") "compared") fd ∧ Binds K fd ["self", "event"] [] ∧ Meth K (He.ga K "Bonds") "compared" (He.ma K (He.ga K "Bonds") "compared") := by
  obtain ⟨fd, F⟩ := c.def_ 12 (d := d_B_compared) rfl
  have F : FunD K "compared" "Bonds.compared" (defArgs s_B_compared) (defBody s_B_compared) (defScope s_B_compared) [] [] (He.ma K (He.ga K "Bonds") "compared") fd := F
  exact ⟨fd, funOf F, FunD.bindsN F fun _ _ _ _ _ _ us hl => match us, hl with | [_, _], _ => rfl, He.meth_ok (c.fact 80 (f := .meth "Bonds" "compared") rfl)⟩
theorem k_B_is_late (c : He.SaysD faL fnL K) : ∃ fd, C8.Fun K "is_late" "Bonds.is_late" s_B_is_late (He.ma K (He.ga K "Bonds") "is_late") fd ∧ Binds K fd ["self", "one", "other"] [] ∧ Meth K (He.ga K "Bonds") "is_late" (He.ma K (He.ga K "Bonds") "is_late") := by
  obtain ⟨fd, F⟩ := c.def_ 13 (d := d_B_is_late) rfl
  have F : FunD K "is_late" "Bonds.is_late" (defArgs s_B_is_late) (defBody s_B_is_late) (defScope s_B_is_late) [] [] (He.ma K (He.ga K "Bonds") "is_late") fd := F
  exact ⟨fd, funOf F, FunD.bindsN F fun _ _ _ _ _ _ us hl => match us, hl with | [_, _, _], _ => rfl, He.meth_ok (c.fact 81 (f := .meth "Bonds" "is_late") rfl)⟩
theorem k_B_close (c : He.SaysD faL fnL K) : ∃ fd, C8.Fun K "close" "Bonds.close" s_B_close (He.ma K (He.ga K "Bonds") "close") fd ∧ Binds K fd ["self"] [] ∧ Meth K (He.ga K "Bonds") "close" (He.ma K (He.ga K "Bonds") "close") := by
  obtain ⟨fd, F⟩ := c.def_ 14 (d := d_B_close) rfl
  have F : FunD K "close" "Bonds.close" (defArgs s_B_close) (defBody s_B_close) (defScope s_B_close) [] [] (He.ma K (He.ga K "Bonds") "close") fd := F
  exact ⟨fd, funOf F, FunD.bindsN F fun _ _ _ _ _ _ us hl => match us, hl with | [_], _ => rfl, He.meth_ok (c.fact 82 (f := .meth "Bonds" "close") rfl)⟩
theorem k_B_rules (c : He.SaysD faL fnL K) : ∃ fd, C8.Fun K "rules" "Bonds.rules" s_B_rules (He.ma K (He.ga K "Bonds") "rules") fd ∧ Binds K fd ["self", "one", "other"] [] ∧ Meth K (He.ga K "Bonds") "rules" (He.ma K (He.ga K "Bonds") "rules") := by
  obtain ⟨fd, F⟩ := c.def_ 15 (d := d_B_rules) rfl
  have F : FunD K "rules" "Bonds.rules" (defArgs s_B_rules) (defBody s_B_rules) (defScope s_B_rules) [] [] (He.ma K (He.ga K "Bonds") "rules") fd := F
  exact ⟨fd, funOf F, FunD.bindsN F fun _ _ _ _ _ _ us hl => match us, hl with | [_, _, _], _ => rfl, He.meth_ok (c.fact 83 (f := .meth "Bonds" "rules") rfl)⟩
theorem k_check_look (X : K.In h) (G : h.Ns mainGlobals mg) (c : He.SaysD faL fnL K) : ∃ fd, C8.Def K mg "check_look" s_check_look (He.ga K "check_look") fd ∧ Binds K fd ["timetable", "number"] [] := by
  obtain ⟨fd, F⟩ := c.def_ 16 (d := d_check_look) rfl
  have F : FunD K "check_look" "check_look" (defArgs s_check_look) (defBody s_check_look) (defScope s_check_look) [] [] (He.ga K "check_look") fd := F
  exact ⟨fd, ⟨funOf F, He.glo_ok X G (c.fact 4 (f := .glo "check_look") rfl), F.kp⟩, FunD.bindsN F fun _ _ _ _ _ _ us hl => match us, hl with | [_, _], _ => rfl⟩
theorem k_check_looks (X : K.In h) (G : h.Ns mainGlobals mg) (c : He.SaysD faL fnL K) : ∃ fd, C8.Def K mg "check_looks" s_check_looks (He.ga K "check_looks") fd ∧ Binds K fd ["timetable", "numbers"] [] := by
  obtain ⟨fd, F⟩ := c.def_ 17 (d := d_check_looks) rfl
  have F : FunD K "check_looks" "check_looks" (defArgs s_check_looks) (defBody s_check_looks) (defScope s_check_looks) [] [] (He.ga K "check_looks") fd := F
  exact ⟨fd, ⟨funOf F, He.glo_ok X G (c.fact 5 (f := .glo "check_looks") rfl), F.kp⟩, FunD.bindsN F fun _ _ _ _ _ _ us hl => match us, hl with | [_, _], _ => rfl⟩
theorem k_choices (X : K.In h) (G : h.Ns mainGlobals mg) (c : He.SaysD faL fnL K) : ∃ fd, C8.Def K mg "choices" s_choices (He.ga K "choices") fd ∧ Binds K fd ["some", "size"] [] := by
  obtain ⟨fd, F⟩ := c.def_ 18 (d := d_choices) rfl
  have F : FunD K "choices" "choices" (defArgs s_choices) (defBody s_choices) (defScope s_choices) [] [] (He.ga K "choices") fd := F
  exact ⟨fd, ⟨funOf F, He.glo_ok X G (c.fact 6 (f := .glo "choices") rfl), F.kp⟩, FunD.bindsN F fun _ _ _ _ _ _ us hl => match us, hl with | [_, _], _ => rfl⟩
theorem k_has_all (X : K.In h) (G : h.Ns mainGlobals mg) (c : He.SaysD faL fnL K) : ∃ fd, C8.Def K mg "has_all" s_has_all (He.ga K "has_all") fd ∧ Binds K fd ["some", "part"] [] := by
  obtain ⟨fd, F⟩ := c.def_ 19 (d := d_has_all) rfl
  have F : FunD K "has_all" "has_all" (defArgs s_has_all) (defBody s_has_all) (defScope s_has_all) [] [] (He.ga K "has_all") fd := F
  exact ⟨fd, ⟨funOf F, He.glo_ok X G (c.fact 7 (f := .glo "has_all") rfl), F.kp⟩, FunD.bindsN F fun _ _ _ _ _ _ us hl => match us, hl with | [_, _], _ => rfl⟩
theorem k_least_enough (X : K.In h) (G : h.Ns mainGlobals mg) (c : He.SaysD faL fnL K) : ∃ fd, C8.Def K mg "least_enough" s_least_enough (He.ga K "least_enough") fd ∧ Binds K fd ["items", "is_enough"] [] := by
  obtain ⟨fd, F⟩ := c.def_ 20 (d := d_least_enough) rfl
  have F : FunD K "least_enough" "least_enough" (defArgs s_least_enough) (defBody s_least_enough) (defScope s_least_enough) [] [] (He.ga K "least_enough") fd := F
  exact ⟨fd, ⟨funOf F, He.glo_ok X G (c.fact 8 (f := .glo "least_enough") rfl), F.kp⟩, FunD.bindsN F fun _ _ _ _ _ _ us hl => match us, hl with | [_, _], _ => rfl⟩
theorem k_hits (X : K.In h) (G : h.Ns mainGlobals mg) (c : He.SaysD faL fnL K) : ∃ fd, C8.Def K mg "hits" s_hits (He.ga K "hits") fd ∧ Binds K fd ["some", "sets"] [] := by
  obtain ⟨fd, F⟩ := c.def_ 21 (d := d_hits) rfl
  have F : FunD K "hits" "hits" (defArgs s_hits) (defBody s_hits) (defScope s_hits) [] [] (He.ga K "hits") fd := F
  exact ⟨fd, ⟨funOf F, He.glo_ok X G (c.fact 9 (f := .glo "hits") rfl), F.kp⟩, FunD.bindsN F fun _ _ _ _ _ _ us hl => match us, hl with | [_, _], _ => rfl⟩
theorem k_least_hit (X : K.In h) (G : h.Ns mainGlobals mg) (c : He.SaysD faL fnL K) : ∃ fd, C8.Def K mg "least_hit" s_least_hit (He.ga K "least_hit") fd ∧ Binds K fd ["sets"] [] := by
  obtain ⟨fd, F⟩ := c.def_ 22 (d := d_least_hit) rfl
  have F : FunD K "least_hit" "least_hit" (defArgs s_least_hit) (defBody s_least_hit) (defScope s_least_hit) [] [] (He.ga K "least_hit") fd := F
  exact ⟨fd, ⟨funOf F, He.glo_ok X G (c.fact 10 (f := .glo "least_hit") rfl), F.kp⟩, FunD.bindsN F fun _ _ _ _ _ _ us hl => match us, hl with | [_], _ => rfl⟩
theorem k_is_with (X : K.In h) (G : h.Ns mainGlobals mg) (c : He.SaysD faL fnL K) : ∃ fd, C8.Def K mg "is_with" s_is_with (He.ga K "is_with") fd ∧ Binds K fd ["event", "people"] [] := by
  obtain ⟨fd, F⟩ := c.def_ 23 (d := d_is_with) rfl
  have F : FunD K "is_with" "is_with" (defArgs s_is_with) (defBody s_is_with) (defScope s_is_with) [] [] (He.ga K "is_with") fd := F
  exact ⟨fd, ⟨funOf F, He.glo_ok X G (c.fact 11 (f := .glo "is_with") rfl), F.kp⟩, FunD.bindsN F fun _ _ _ _ _ _ us hl => match us, hl with | [_, _], _ => rfl⟩
theorem k_meetings_of (X : K.In h) (G : h.Ns mainGlobals mg) (c : He.SaysD faL fnL K) : ∃ fd, C8.Def K mg "meetings_of" s_meetings_of (He.ga K "meetings_of") fd ∧ Binds K fd ["timetable", "liars"] [] := by
  obtain ⟨fd, F⟩ := c.def_ 24 (d := d_meetings_of) rfl
  have F : FunD K "meetings_of" "meetings_of" (defArgs s_meetings_of) (defBody s_meetings_of) (defScope s_meetings_of) [] [] (He.ga K "meetings_of") fd := F
  exact ⟨fd, ⟨funOf F, He.glo_ok X G (c.fact 12 (f := .glo "meetings_of") rfl), F.kp⟩, FunD.bindsN F fun _ _ _ _ _ _ us hl => match us, hl with | [_, _], _ => rfl⟩
theorem k_C_init (c : He.SaysD faL fnL K) : ∃ fd, C8.Fun K "__init__" "Chances.__init__" s_C_init (He.ma K (He.ga K "Chances") "__init__") fd ∧ Binds K fd ["self", "timetable", "kind"] [] := by
  obtain ⟨fd, F⟩ := c.def_ 25 (d := d_C_init) rfl
  have F : FunD K "__init__" "Chances.__init__" (defArgs s_C_init) (defBody s_C_init) (defScope s_C_init) [] [] (He.ma K (He.ga K "Chances") "__init__") fd := F
  exact ⟨fd, funOf F, FunD.bindsN F fun _ _ _ _ _ _ us hl => match us, hl with | [_, _, _], _ => rfl⟩
theorem k_C_timetable (c : He.SaysD faL fnL K) : ∃ fd, C8.Fun K "timetable" "Chances.timetable" s_C_timetable (He.ma K (He.ga K "Chances") "timetable") fd ∧ Binds K fd ["self"] [] ∧ Meth K (He.ga K "Chances") "timetable" (He.ma K (He.ga K "Chances") "timetable") := by
  obtain ⟨fd, F⟩ := c.def_ 26 (d := d_C_timetable) rfl
  have F : FunD K "timetable" "Chances.timetable" (defArgs s_C_timetable) (defBody s_C_timetable) (defScope s_C_timetable) [] [] (He.ma K (He.ga K "Chances") "timetable") fd := F
  exact ⟨fd, funOf F, FunD.bindsN F fun _ _ _ _ _ _ us hl => match us, hl with | [_], _ => rfl, He.meth_ok (c.fact 84 (f := .meth "Chances" "timetable") rfl)⟩
theorem k_C_meetings (c : He.SaysD faL fnL K) : ∃ fd, C8.Fun K "meetings" "Chances.meetings" s_C_meetings (He.ma K (He.ga K "Chances") "meetings") fd ∧ (∃ ds, Vals [] ds ∧ Binds K fd ["self", "liars"] ds) ∧ (∃ ds, Vals [.ref (He.dflAt ("Chances", some "meetings") 0 K)] ds ∧ Binds K fd ["self", "liars"] ds) ∧ Meth K (He.ga K "Chances") "meetings" (He.ma K (He.ga K "Chances") "meetings") := by
  obtain ⟨fd, F⟩ := c.def_ 27 (d := d_C_meetings) rfl
  have F : FunD K "meetings" "Chances.meetings" (defArgs s_C_meetings) (defBody s_C_meetings) (defScope s_C_meetings) [.ref (He.dflAt ("Chances", some "meetings") 0 K)] [] (He.ma K (He.ga K "Chances") "meetings") fd := F
  exact ⟨fd, funOf F, FunD.binds1 F 2 1 (fun z => nomatch z) rfl (fun _ _ _ _ _ _ _ us its h1 h2 => match us, its, h1, h2 with | [_, _], [_], _, _ => ⟨_, rfl, rfl⟩), FunD.binds1 F 1 0 (fun z => nomatch z) rfl (fun _ _ _ _ _ _ _ us its h1 h2 => match us, its, h1, h2 with | [_], [_], _, _ => ⟨_, rfl, rfl⟩), He.meth_ok (c.fact 85 (f := .meth "Chances" "meetings") rfl)⟩
theorem k_C_lookers (c : He.SaysD faL fnL K) : ∃ fd, C8.Fun K "lookers" "Chances.lookers" s_C_lookers (He.ma K (He.ga K "Chances") "lookers") fd ∧ Binds K fd ["self", "pair"] [] ∧ Meth K (He.ga K "Chances") "lookers" (He.ma K (He.ga K "Chances") "lookers") := by
  obtain ⟨fd, F⟩ := c.def_ 28 (d := d_C_lookers) rfl
  have F : FunD K "lookers" "Chances.lookers" (defArgs s_C_lookers) (defBody s_C_lookers) (defScope s_C_lookers) [] [] (He.ma K (He.ga K "Chances") "lookers") fd := F
  exact ⟨fd, funOf F, FunD.bindsN F fun _ _ _ _ _ _ us hl => match us, hl with | [_, _], _ => rfl, He.meth_ok (c.fact 86 (f := .meth "Chances" "lookers") rfl)⟩
theorem k_C_others (c : He.SaysD faL fnL K) : ∃ fd, C8.Fun K "others" "Chances.others" s_C_others (He.ma K (He.ga K "Chances") "others") fd ∧ Binds K fd ["self", "pair"] [] ∧ Meth K (He.ga K "Chances") "others" (He.ma K (He.ga K "Chances") "others") := by
  obtain ⟨fd, F⟩ := c.def_ 29 (d := d_C_others) rfl
  have F : FunD K "others" "Chances.others" (defArgs s_C_others) (defBody s_C_others) (defScope s_C_others) [] [] (He.ma K (He.ga K "Chances") "others") fd := F
  exact ⟨fd, funOf F, FunD.bindsN F fun _ _ _ _ _ _ us hl => match us, hl with | [_, _], _ => rfl, He.meth_ok (c.fact 87 (f := .meth "Chances" "others") rfl)⟩
theorem k_C_bonds (c : He.SaysD faL fnL K) : ∃ fd, C8.Fun K "bonds" "Chances.bonds" s_C_bonds (He.ma K (He.ga K "Chances") "bonds") fd ∧ Binds K fd ["self", "liars", "lost"] [] ∧ Meth K (He.ga K "Chances") "bonds" (He.ma K (He.ga K "Chances") "bonds") := by
  obtain ⟨fd, F⟩ := c.def_ 30 (d := d_C_bonds) rfl
  have F : FunD K "bonds" "Chances.bonds" (defArgs s_C_bonds) (defBody s_C_bonds) (defScope s_C_bonds) [] [] (He.ma K (He.ga K "Chances") "bonds") fd := F
  exact ⟨fd, funOf F, FunD.bindsN F fun _ _ _ _ _ _ us hl => match us, hl with | [_, _, _], _ => rfl, He.meth_ok (c.fact 88 (f := .meth "Chances" "bonds") rfl)⟩
theorem k_C_hides (c : He.SaysD faL fnL K) : ∃ fd, C8.Fun K "hides" "Chances.hides" s_C_hides (He.ma K (He.ga K "Chances") "hides") fd ∧ Binds K fd ["self", "pair", "liars", "lost"] [] ∧ Meth K (He.ga K "Chances") "hides" (He.ma K (He.ga K "Chances") "hides") := by
  obtain ⟨fd, F⟩ := c.def_ 31 (d := d_C_hides) rfl
  have F : FunD K "hides" "Chances.hides" (defArgs s_C_hides) (defBody s_C_hides) (defScope s_C_hides) [] [] (He.ma K (He.ga K "Chances") "hides") fd := F
  exact ⟨fd, funOf F, FunD.bindsN F fun _ _ _ _ _ _ us hl => match us, hl with | [_, _, _, _], _ => rfl, He.meth_ok (c.fact 89 (f := .meth "Chances" "hides") rfl)⟩
theorem k_C_nets (c : He.SaysD faL fnL K) : ∃ fd, FunC K "nets" "Chances.nets" s_C_nets (He.ma K (He.ga K "Chances") "nets") fd (He.codeOf K ("Chances", some "nets")) ∧ (∃ ds, Vals [] ds ∧ Binds K fd ["self", "pair", "liars"] ds) ∧ (∃ ds, Vals [.ref (He.dflAt ("Chances", some "nets") 0 K)] ds ∧ Binds K fd ["self", "pair", "liars"] ds) ∧ Meth K (He.ga K "Chances") "nets" (He.ma K (He.ga K "Chances") "nets") := by
  obtain ⟨fd, F⟩ := c.def_ 32 (d := d_C_nets) rfl
  have F : FunD K "nets" "Chances.nets" (defArgs s_C_nets) (defBody s_C_nets) (defScope s_C_nets) [.ref (He.dflAt ("Chances", some "nets") 0 K)] [] (He.ma K (He.ga K "Chances") "nets") fd := F
  exact ⟨fd, funC_of (p := ("Chances", some "nets")) F, FunD.binds1 F 3 1 (fun z => nomatch z) rfl (fun _ _ _ _ _ _ _ us its h1 h2 => match us, its, h1, h2 with | [_, _, _], [_], _, _ => ⟨_, rfl, rfl⟩), FunD.binds1 F 2 0 (fun z => nomatch z) rfl (fun _ _ _ _ _ _ _ us its h1 h2 => match us, its, h1, h2 with | [_, _], [_], _, _ => ⟨_, rfl, rfl⟩), He.meth_ok (c.fact 90 (f := .meth "Chances" "nets") rfl)⟩
theorem k_C_circles (c : He.SaysD faL fnL K) : ∃ fd, FunC K "circles" "Chances.circles" s_C_circles (He.ma K (He.ga K "Chances") "circles") fd (He.codeOf K ("Chances", some "circles")) ∧ Binds K fd ["self", "pair"] [] ∧ Meth K (He.ga K "Chances") "circles" (He.ma K (He.ga K "Chances") "circles") := by
  obtain ⟨fd, F⟩ := c.def_ 33 (d := d_C_circles) rfl
  have F : FunD K "circles" "Chances.circles" (defArgs s_C_circles) (defBody s_C_circles) (defScope s_C_circles) [] [] (He.ma K (He.ga K "Chances") "circles") fd := F
  exact ⟨fd, funC_of (p := ("Chances", some "circles")) F, FunD.bindsN F fun _ _ _ _ _ _ us hl => match us, hl with | [_, _], _ => rfl, He.meth_ok (c.fact 91 (f := .meth "Chances" "circles") rfl)⟩
theorem k_chances_of (X : K.In h) (G : h.Ns mainGlobals mg) (c : He.SaysD faL fnL K) : ∃ fd, C8.Def K mg "chances_of" s_chances_of (He.ga K "chances_of") fd ∧ Binds K fd ["timetable", "kind", "i", "j"] [] := by
  obtain ⟨fd, F⟩ := c.def_ 34 (d := d_chances_of) rfl
  have F : FunD K "chances_of" "chances_of" (defArgs s_chances_of) (defBody s_chances_of) (defScope s_chances_of) [] [] (He.ga K "chances_of") fd := F
  exact ⟨fd, ⟨funOf F, He.glo_ok X G (c.fact 13 (f := .glo "chances_of") rfl), F.kp⟩, FunD.bindsN F fun _ _ _ _ _ _ us hl => match us, hl with | [_, _, _, _], _ => rfl⟩
theorem k_nets (X : K.In h) (G : h.Ns mainGlobals mg) (c : He.SaysD faL fnL K) : ∃ fd, C8.Def K mg "nets" s_nets (He.ga K "nets") fd ∧ Binds K fd ["timetable", "kind", "i", "j"] [] := by
  obtain ⟨fd, F⟩ := c.def_ 35 (d := d_nets) rfl
  have F : FunD K "nets" "nets" (defArgs s_nets) (defBody s_nets) (defScope s_nets) [] [] (He.ga K "nets") fd := F
  exact ⟨fd, ⟨funOf F, He.glo_ok X G (c.fact 14 (f := .glo "nets") rfl), F.kp⟩, FunD.bindsN F fun _ _ _ _ _ _ us hl => match us, hl with | [_, _, _, _], _ => rfl⟩
theorem k_circles (X : K.In h) (G : h.Ns mainGlobals mg) (c : He.SaysD faL fnL K) : ∃ fd, C8.Def K mg "circles" s_circles (He.ga K "circles") fd ∧ Binds K fd ["timetable", "kind", "i", "j"] [] := by
  obtain ⟨fd, F⟩ := c.def_ 36 (d := d_circles) rfl
  have F : FunD K "circles" "circles" (defArgs s_circles) (defBody s_circles) (defScope s_circles) [] [] (He.ga K "circles") fd := F
  exact ⟨fd, ⟨funOf F, He.glo_ok X G (c.fact 15 (f := .glo "circles") rfl), F.kp⟩, FunD.bindsN F fun _ _ _ _ _ _ us hl => match us, hl with | [_, _, _, _], _ => rfl⟩
theorem k_least_lost (X : K.In h) (G : h.Ns mainGlobals mg) (c : He.SaysD faL fnL K) : ∃ fd, C8.Def K mg "least_lost" s_least_lost (He.ga K "least_lost") fd ∧ Binds K fd ["timetable", "kind", "i", "j"] [] := by
  obtain ⟨fd, F⟩ := c.def_ 37 (d := d_least_lost) rfl
  have F : FunD K "least_lost" "least_lost" (defArgs s_least_lost) (defBody s_least_lost) (defScope s_least_lost) [] [] (He.ga K "least_lost") fd := F
  exact ⟨fd, ⟨funOf F, He.glo_ok X G (c.fact 16 (f := .glo "least_lost") rfl), F.kp⟩, FunD.bindsN F fun _ _ _ _ _ _ us hl => match us, hl with | [_, _, _, _], _ => rfl⟩
theorem k_least_with (X : K.In h) (G : h.Ns mainGlobals mg) (c : He.SaysD faL fnL K) : ∃ fd, C8.Def K mg "least_with" s_least_with (He.ga K "least_with") fd ∧ Binds K fd ["chances", "pair", "size"] [] := by
  obtain ⟨fd, F⟩ := c.def_ 38 (d := d_least_with) rfl
  have F : FunD K "least_with" "least_with" (defArgs s_least_with) (defBody s_least_with) (defScope s_least_with) [] [] (He.ga K "least_with") fd := F
  exact ⟨fd, ⟨funOf F, He.glo_ok X G (c.fact 17 (f := .glo "least_with") rfl), F.kp⟩, FunD.bindsN F fun _ _ _ _ _ _ us hl => match us, hl with | [_, _, _], _ => rfl⟩
theorem k_frontier (X : K.In h) (G : h.Ns mainGlobals mg) (c : He.SaysD faL fnL K) : ∃ fd, C8.Def K mg "frontier" s_frontier (He.ga K "frontier") fd ∧ Binds K fd ["timetable", "kind", "i", "j"] [] := by
  obtain ⟨fd, F⟩ := c.def_ 39 (d := d_frontier) rfl
  have F : FunD K "frontier" "frontier" (defArgs s_frontier) (defBody s_frontier) (defScope s_frontier) [] [] (He.ga K "frontier") fd := F
  exact ⟨fd, ⟨funOf F, He.glo_ok X G (c.fact 18 (f := .glo "frontier") rfl), F.kp⟩, FunD.bindsN F fun _ _ _ _ _ _ us hl => match us, hl with | [_, _, _, _], _ => rfl⟩
theorem k_fragile (X : K.In h) (G : h.Ns mainGlobals mg) (c : He.SaysD faL fnL K) : ∃ fd, C8.Def K mg "fragile" s_fragile (He.ga K "fragile") fd ∧ Binds K fd ["timetable", "kind", "many"] [] := by
  obtain ⟨fd, F⟩ := c.def_ 40 (d := d_fragile) rfl
  have F : FunD K "fragile" "fragile" (defArgs s_fragile) (defBody s_fragile) (defScope s_fragile) [] [] (He.ga K "fragile") fd := F
  exact ⟨fd, ⟨funOf F, He.glo_ok X G (c.fact 19 (f := .glo "fragile") rfl), F.kp⟩, FunD.bindsN F fun _ _ _ _ _ _ us hl => match us, hl with | [_, _, _], _ => rfl⟩
theorem k_law_box (X : K.In h) (G : h.Ns mainGlobals mg) (c : He.SaysD faL fnL K) : ∃ fd, C8.Def K mg "_law_box" s_law_box (He.ga K "_law_box") fd ∧ Binds K fd ["_law_script", "_law_k"] [] := by
  obtain ⟨fd, F⟩ := c.def_ 41 (d := d_law_box) rfl
  have F : FunD K "_law_box" "_law_box" (defArgs s_law_box) (defBody s_law_box) (defScope s_law_box) [] [] (He.ga K "_law_box") fd := F
  exact ⟨fd, ⟨funOf F, He.glo_ok X G (c.fact 20 (f := .glo "_law_box") rfl), F.kp⟩, FunD.bindsN F fun _ _ _ _ _ _ us hl => match us, hl with | [_, _], _ => rfl⟩
theorem k_law_take (X : K.In h) (G : h.Ns mainGlobals mg) (c : He.SaysD faL fnL K) : ∃ fd, C8.Def K mg "_law_take" s_law_take (He.ga K "_law_take") fd ∧ Binds K fd ["_law_box_here", "_law_below"] [] := by
  obtain ⟨fd, F⟩ := c.def_ 42 (d := d_law_take) rfl
  have F : FunD K "_law_take" "_law_take" (defArgs s_law_take) (defBody s_law_take) (defScope s_law_take) [] [] (He.ga K "_law_take") fd := F
  exact ⟨fd, ⟨funOf F, He.glo_ok X G (c.fact 21 (f := .glo "_law_take") rfl), F.kp⟩, FunD.bindsN F fun _ _ _ _ _ _ us hl => match us, hl with | [_, _], _ => rfl⟩
theorem k_law_of (X : K.In h) (G : h.Ns mainGlobals mg) (c : He.SaysD faL fnL K) : ∃ fd, C8.Def K mg "_law_of" s_law_of (He.ga K "_law_of") fd ∧ Binds K fd ["_law_box_here", "_law_some"] [] := by
  obtain ⟨fd, F⟩ := c.def_ 43 (d := d_law_of) rfl
  have F : FunD K "_law_of" "_law_of" (defArgs s_law_of) (defBody s_law_of) (defScope s_law_of) [] [] (He.ga K "_law_of") fd := F
  exact ⟨fd, ⟨funOf F, He.glo_ok X G (c.fact 22 (f := .glo "_law_of") rfl), F.kp⟩, FunD.bindsN F fun _ _ _ _ _ _ us hl => match us, hl with | [_, _], _ => rfl⟩
theorem k_law_event (X : K.In h) (G : h.Ns mainGlobals mg) (c : He.SaysD faL fnL K) : ∃ fd, C8.Def K mg "_law_event" s_law_event (He.ga K "_law_event") fd ∧ Binds K fd ["_law_box_here", "_law_crowd", "_law_counts", "_law_most"] [] := by
  obtain ⟨fd, F⟩ := c.def_ 44 (d := d_law_event) rfl
  have F : FunD K "_law_event" "_law_event" (defArgs s_law_event) (defBody s_law_event) (defScope s_law_event) [] [] (He.ga K "_law_event") fd := F
  exact ⟨fd, ⟨funOf F, He.glo_ok X G (c.fact 23 (f := .glo "_law_event") rfl), F.kp⟩, FunD.bindsN F fun _ _ _ _ _ _ us hl => match us, hl with | [_, _, _, _], _ => rfl⟩
theorem k_law_table (X : K.In h) (G : h.Ns mainGlobals mg) (c : He.SaysD faL fnL K) : ∃ fd, C8.Def K mg "_law_table" s_law_table (He.ga K "_law_table") fd ∧ Binds K fd ["_law_box_here", "_law_crowd", "_law_size", "_law_most"] [] := by
  obtain ⟨fd, F⟩ := c.def_ 45 (d := d_law_table) rfl
  have F : FunD K "_law_table" "_law_table" (defArgs s_law_table) (defBody s_law_table) (defScope s_law_table) [] [] (He.ga K "_law_table") fd := F
  exact ⟨fd, ⟨funOf F, He.glo_ok X G (c.fact 24 (f := .glo "_law_table") rfl), F.kp⟩, FunD.bindsN F fun _ _ _ _ _ _ us hl => match us, hl with | [_, _, _, _], _ => rfl⟩
theorem k_law_spots (X : K.In h) (G : h.Ns mainGlobals mg) (c : He.SaysD faL fnL K) : ∃ fd, C8.Def K mg "_law_spots" s_law_spots (He.ga K "_law_spots") fd ∧ Binds K fd ["_law_table_here"] [] := by
  obtain ⟨fd, F⟩ := c.def_ 46 (d := d_law_spots) rfl
  have F : FunD K "_law_spots" "_law_spots" (defArgs s_law_spots) (defBody s_law_spots) (defScope s_law_spots) [] [] (He.ga K "_law_spots") fd := F
  exact ⟨fd, ⟨funOf F, He.glo_ok X G (c.fact 25 (f := .glo "_law_spots") rfl), F.kp⟩, FunD.bindsN F fun _ _ _ _ _ _ us hl => match us, hl with | [_], _ => rfl⟩
theorem k_law_had (X : K.In h) (G : h.Ns mainGlobals mg) (c : He.SaysD faL fnL K) : ∃ fd, C8.Def K mg "_law_had" s_law_had (He.ga K "_law_had") fd ∧ Binds K fd ["_law_table_here", "_law_sort_so", "_law_off"] [] := by
  obtain ⟨fd, F⟩ := c.def_ 47 (d := d_law_had) rfl
  have F : FunD K "_law_had" "_law_had" (defArgs s_law_had) (defBody s_law_had) (defScope s_law_had) [] [] (He.ga K "_law_had") fd := F
  exact ⟨fd, ⟨funOf F, He.glo_ok X G (c.fact 26 (f := .glo "_law_had") rfl), F.kp⟩, FunD.bindsN F fun _ _ _ _ _ _ us hl => match us, hl with | [_, _, _], _ => rfl⟩
theorem k_law_bound (X : K.In h) (G : h.Ns mainGlobals mg) (c : He.SaysD faL fnL K) : ∃ fd, C8.Def K mg "_law_bound" s_law_bound (He.ga K "_law_bound") fd ∧ Binds K fd ["_law_table_here", "_law_sort_so", "_law_off"] [] := by
  obtain ⟨fd, F⟩ := c.def_ 48 (d := d_law_bound) rfl
  have F : FunD K "_law_bound" "_law_bound" (defArgs s_law_bound) (defBody s_law_bound) (defScope s_law_bound) [] [] (He.ga K "_law_bound") fd := F
  exact ⟨fd, ⟨funOf F, He.glo_ok X G (c.fact 27 (f := .glo "_law_bound") rfl), F.kp⟩, FunD.bindsN F fun _ _ _ _ _ _ us hl => match us, hl with | [_, _, _], _ => rfl⟩
theorem k_law_two (X : K.In h) (G : h.Ns mainGlobals mg) (c : He.SaysD faL fnL K) : ∃ fd, C8.Def K mg "_law_two" s_law_two (He.ga K "_law_two") fd ∧ Binds K fd ["_law_box_here", "_law_table_here", "_law_sort_so"] [] := by
  obtain ⟨fd, F⟩ := c.def_ 49 (d := d_law_two) rfl
  have F : FunD K "_law_two" "_law_two" (defArgs s_law_two) (defBody s_law_two) (defScope s_law_two) [] [] (He.ga K "_law_two") fd := F
  exact ⟨fd, ⟨funOf F, He.glo_ok X G (c.fact 28 (f := .glo "_law_two") rfl), F.kp⟩, FunD.bindsN F fun _ _ _ _ _ _ us hl => match us, hl with | [_, _, _], _ => rfl⟩
theorem k_law_inside (X : K.In h) (G : h.Ns mainGlobals mg) (c : He.SaysD faL fnL K) : ∃ fd, C8.Def K mg "_law_inside" s_law_inside (He.ga K "_law_inside") fd ∧ Binds K fd ["_law_sets", "_law_part"] [] := by
  obtain ⟨fd, F⟩ := c.def_ 50 (d := d_law_inside) rfl
  have F : FunD K "_law_inside" "_law_inside" (defArgs s_law_inside) (defBody s_law_inside) (defScope s_law_inside) [] [] (He.ga K "_law_inside") fd := F
  exact ⟨fd, ⟨funOf F, He.glo_ok X G (c.fact 29 (f := .glo "_law_inside") rfl), F.kp⟩, FunD.bindsN F fun _ _ _ _ _ _ us hl => match us, hl with | [_, _], _ => rfl⟩
theorem k_law_right (X : K.In h) (G : h.Ns mainGlobals mg) (c : He.SaysD faL fnL K) : ∃ fd, C8.Def K mg "_law_right" s_law_right (He.ga K "_law_right") fd ∧ Binds K fd ["_law_box_here"] [] := by
  obtain ⟨fd, F⟩ := c.def_ 51 (d := d_law_right) rfl
  have F : FunD K "_law_right" "_law_right" (defArgs s_law_right) (defBody s_law_right) (defScope s_law_right) [] [] (He.ga K "_law_right") fd := F
  exact ⟨fd, ⟨funOf F, He.glo_ok X G (c.fact 30 (f := .glo "_law_right") rfl), F.kp⟩, FunD.bindsN F fun _ _ _ _ _ _ us hl => match us, hl with | [_], _ => rfl⟩
theorem k_law (X : K.In h) (G : h.Ns mainGlobals mg) (c : He.SaysD faL fnL K) : ∃ fd, C8.Def K mg "law" s_law (He.ga K "law") fd ∧ Binds K fd ["_law_script"] [] := by
  obtain ⟨fd, F⟩ := c.def_ 52 (d := d_law) rfl
  have F : FunD K "law" "law" (defArgs s_law) (defBody s_law) (defScope s_law) [] [] (He.ga K "law") fd := F
  exact ⟨fd, ⟨funOf F, He.glo_ok X G (c.fact 31 (f := .glo "law") rfl), F.kp⟩, FunD.bindsN F fun _ _ _ _ _ _ us hl => match us, hl with | [_], _ => rfl⟩
theorem k_txt (X : K.In h) (G : h.Ns mainGlobals mg) (c : He.SaysD faL fnL K) (e : exB K = true) : Txt K mg := ⟨
  He.free_ok X G (c.fact 35 (f := .free "isinstance") rfl), He.free_ok X G (c.fact 36 (f := .free "list") rfl), He.free_ok X G (c.fact 37 (f := .free "tuple") rfl), He.free_ok X G (c.fact 38 (f := .free "enumerate") rfl), He.free_ok X G (c.fact 39 (f := .free "range") rfl), He.free_ok X G (c.fact 40 (f := .free "len") rfl), He.free_ok X G (c.fact 41 (f := .free "int") rfl), He.free_ok X G (c.fact 42 (f := .free "sorted") rfl), He.free_ok X G (c.fact 43 (f := .free "set") rfl), He.free_ok X G (c.fact 44 (f := .free "any") rfl), He.free_ok X G (c.fact 45 (f := .free "all") rfl), He.free_ok X G (c.fact 46 (f := .free "min") rfl), He.free_ok X G (c.fact 47 (f := .free "abs") rfl), He.free_ok X G (c.fact 48 (f := .free "dict") rfl),
  He.str_ok X G (c.fact 49 (f := .str "LOOK" "look") rfl), He.str_ok X G (c.fact 50 (f := .str "ADD" "add") rfl), He.str_ok X G (c.fact 51 (f := .str "MEET" "meet") rfl), He.str_ok X G (c.fact 52 (f := .str "TELL" "tell") rfl), He.str_ok X G (c.fact 53 (f := .str "LONG" "long") rfl), He.str_ok X G (c.fact 54 (f := .str "ALIKE" "alike") rfl), He.str_ok X G (c.fact 55 (f := .str "BEGINS" "begins") rfl),
  ⟨_, He.glo_ok X G (c.fact 34 (f := .glo "PAIRED") rfl), fun H => He.tupB_ok (He.ba e).1 H⟩⟩
theorem k_bcls (c : He.SaysD faL fnL K) : Bcls K (He.ga K "Bonds") := ⟨He.cls_ok (c.fact 56 (f := .cls "Bonds") rfl), He.noat_ok (c.fact 60 (f := .noat "Bonds" "own_people") rfl), He.noat_ok (c.fact 61 (f := .noat "Bonds" "own_events") rfl), He.noat_ok (c.fact 62 (f := .noat "Bonds" "own_kind") rfl), He.noat_ok (c.fact 63 (f := .noat "Bonds" "own_gone") rfl), He.noat_ok (c.fact 64 (f := .noat "Bonds" "own_looks") rfl), He.noat_ok (c.fact 65 (f := .noat "Bonds" "own_adds") rfl), He.noat_ok (c.fact 66 (f := .noat "Bonds" "own_alike") rfl), He.noat_ok (c.fact 67 (f := .noat "Bonds" "own_below") rfl), He.noat_ok (c.fact 68 (f := .noat "Bonds" "own_has") rfl), He.noat_ok (c.fact 69 (f := .noat "Bonds" "own_facts") rfl)⟩
theorem k_ccls (c : He.SaysD faL fnL K) : Ccls K (He.ga K "Chances") := ⟨He.cls_ok (c.fact 57 (f := .cls "Chances") rfl), He.noat_ok (c.fact 70 (f := .noat "Chances" "own_timetable") rfl), He.noat_ok (c.fact 71 (f := .noat "Chances" "own_kind") rfl), He.noat_ok (c.fact 72 (f := .noat "Chances" "own_known") rfl)⟩
theorem k_mkB (c : He.SaysD faL fnL K) : Mk K (He.ga K "Bonds") (He.ma K (He.ga K "Bonds") "__init__") := He.mkr_ok (c.fact 58 (f := .mkr "Bonds") rfl)
theorem k_mkC (c : He.SaysD faL fnL K) : Mk K (He.ga K "Chances") (He.ma K (He.ga K "Chances") "__init__") := He.mkr_ok (c.fact 59 (f := .mkr "Chances") rfl)
theorem k_gB (X : K.In h) (G : h.Ns mainGlobals mg) (c : He.SaysD faL fnL K) : mg "Bonds" = some (.ref (He.ga K "Bonds")) := He.glo_ok X G (c.fact 32 (f := .glo "Bonds") rfl)
theorem k_gC (X : K.In h) (G : h.Ns mainGlobals mg) (c : He.SaysD faL fnL K) : mg "Chances" = some (.ref (He.ga K "Chances")) := He.glo_ok X G (c.fact 33 (f := .glo "Chances") rfl)
theorem k_gL (X : K.In h) (G : h.Ns mainGlobals mg) (c : He.SaysD faL fnL K) : mg "law" = some (.ref (He.ga K "law")) := He.glo_ok X G (c.fact 31 (f := .glo "law") rfl)
theorem k_lawB (c : He.SaysD faL fnL K) : ∃ fd, C8.Fun K "law" "law" s_law (He.ga K "law") fd ∧ ∀ (s : Shared) (v : Value), BindsTo s fd ⟨[v], []⟩ [("_law_script", v)] := by
  obtain ⟨fd, F⟩ := c.def_ 52 (d := d_law) rfl
  have F : FunD K "law" "law" (defArgs s_law) (defBody s_law) (defScope s_law) [] [] (He.ga K "law") fd := F
  exact ⟨fd, funOf F, fun s v => FunD.bindsA (ps := ["_law_script"]) F (fun _ _ _ _ _ _ us hl => match us, hl with | [_], _ => rfl) s [v] rfl⟩
end
end K29
set_option Elab.async false
set_option linter.all false
set_option maxRecDepth 100000
set_option maxHeartbeats 4000000
set_option pp.maxSteps 300
namespace K29
open PySem PySem.Spec PyProof.Rows L2 LamX
def pN : He.Defn := ("Chances", some "nets")
def pC : He.Defn := ("Chances", some "circles")
def tbsK (K : PySem.W.Frag) : Tbs := ⟨(He.cT K pN).2, (He.cT K pC).2⟩
theorem exB_emp {K : PySem.W.Frag} (e : exB K = true) : Emp K (He.dflAt ("Bonds", some "__init__") 1 K) ∧ Emp K (He.dflAt ("Bonds", some "bind") 0 K) ∧ Emp K (He.dflAt ("Bonds", some "lower") 0 K) ∧ Emp K (He.dflAt ("Chances", some "meetings") 0 K) ∧ Emp K (He.dflAt ("Chances", some "nets") 0 K) ∧ (tbsK K).P1 ≠ (tbsK K).P2 := by
  obtain ⟨_, e⟩ := He.ba e
  obtain ⟨_, e⟩ := He.ba e
  obtain ⟨e1, e⟩ := He.ba e
  obtain ⟨e2, e⟩ := He.ba e
  obtain ⟨e3, e⟩ := He.ba e
  obtain ⟨e4, e⟩ := He.ba e
  obtain ⟨e5, e⟩ := He.ba e
  exact ⟨emp_ok e1, emp_ok e2, emp_ok e3, emp_ok e4, emp_ok e5, of_decide_eq_true e⟩
theorem law_all {P : Program} {w : World} {K : PySem.W.Frag} {h base : Heap} {mg : Str → Option Value} {fd : FuncData} (X : K.In h) (G : h.Ns mainGlobals mg) (c : He.SaysD faL fnL K) (e : exB K = true) (tb : ∀ p ∈ tfL.map (He.cT K), TabB base mg p.1 p.2) (FL : C8.Fun K "law" "law" s_law (He.ga K "law") fd) :
    FnOk P w K mg base C8.CX0 15 (He.ga K "law") fd ["_law_script"] (spLaw (tbsK K) K) := by
  obtain ⟨eI, eB, eW, eM, eN, _⟩ := exB_emp e
  have T := k_txt X G c e
  have BC := k_bcls c
  have CC := k_ccls c
  have tN : TabB base mg (He.codeOf K ("Chances", some "nets")) (tbsK K).P1 := tb (He.cT K pN) (List.mem_map.mpr ⟨pN, List.mem_cons_self .., rfl⟩)
  have tC : TabB base mg (He.codeOf K ("Chances", some "circles")) (tbsK K).P2 := tb (He.cT K pC) (List.mem_map.mpr ⟨pC, List.mem_cons_of_mem _ (List.mem_cons_self ..), rfl⟩)
  -- the defs of texts and sets
  obtain ⟨_, F1, b1⟩ := k_as_tuples X G c
  have c_as := c_as_tuples (P := P) (w := w) (base := base) T F1 b1 3
  obtain ⟨_, F1, b1⟩ := k_events_of X G c
  have cev := c_events_of (P := P) (w := w) (base := base) T F1 b1
  obtain ⟨_, F1, b1⟩ := k_looks X G c
  have clo := c_looks T cev F1 b1
  obtain ⟨_, F1, b1⟩ := k_adds X G c
  have cad := c_adds T cev F1 b1
  obtain ⟨_, F1, b1⟩ := k_check_look X G c
  have cck := c_check_look T clo F1 b1
  obtain ⟨_, F1, b1⟩ := k_check_looks X G c
  have ccs := c_check_looks cck F1 b1
  obtain ⟨_, F1, b1⟩ := k_choices X G c
  have cch := c_choices (P := P) (w := w) (base := base) T F1 b1 8
  obtain ⟨_, F1, b1⟩ := k_has_all X G c
  have cha := c_has_all (P := P) (w := w) (base := base) T F1 b1
  obtain ⟨_, F1, b1⟩ := k_hits X G c
  have chi := c_hits (P := P) (w := w) (base := base) T F1 b1
  obtain ⟨_, F1, b1⟩ := k_least_hit X G c
  have clh := c_least_hit T cch chi F1 b1
  obtain ⟨_, F1, b1⟩ := k_is_with X G c
  have ciw := c_is_with (P := P) (w := w) (base := base) T F1 b1
  obtain ⟨_, F1, b1⟩ := k_meetings_of X G c
  have cmo := c_meetings_of T ciw F1 b1
  -- Bonds
  obtain ⟨_, F1, b1, m1⟩ := k_B_many c
  have bma := c_B_many (P := P) (w := w) (base := base) T BC m1 F1 b1
  obtain ⟨_, F1, b1, m1⟩ := k_B_is_alike c
  have bal := c_B_is_alike (P := P) (w := w) (mg := mg) (base := base) BC m1 F1 b1
  obtain ⟨_, F1, b1, m1⟩ := k_B_is_below c
  have bbe := c_B_is_below (P := P) (w := w) (mg := mg) (base := base) BC m1 F1 b1
  obtain ⟨_, F1, ⟨_, v0, b0⟩, ⟨_, v1, b1⟩, m1⟩ := k_B_bind c
  have bbi0 := c_B_bind T BC bal m1 F1 b0 v0
  have bbi1 := c_B_bind T BC bal m1 F1 b1 v1
  obtain ⟨_, F1, ⟨_, v0, b0⟩, ⟨_, v1, b1⟩, m1⟩ := k_B_lower c
  have blo0 := c_B_lower T BC bbe m1 F1 b0 v0
  have blo1 := c_B_lower T BC bbe m1 F1 b1 v1
  obtain ⟨_, F1, b1, m1⟩ := k_B_looked c
  have blk := c_B_looked eW BC blo1 m1 F1 b1
  obtain ⟨_, F1, b1, m1⟩ := k_B_compared c
  have bcm := c_B_compared T eB BC bbi1 m1 F1 b1
  obtain ⟨_, F1, b1, m1⟩ := k_B_go_through c
  have bgo := c_B_go_through T BC blk bcm m1 F1 b1
  obtain ⟨_, F1, b1, m1⟩ := k_B_is_late c
  have bla := c_B_is_late (P := P) (w := w) (base := base) T BC m1 F1 b1
  obtain ⟨_, F1, b1, m1⟩ := k_B_rules c
  have bru := c_B_rules T BC bma bal bbe bla bbi0 blo0 m1 F1 b1
  obtain ⟨_, F1, b1, m1⟩ := k_B_close c
  have bcl := c_B_close T BC bma bru m1 F1 b1
  obtain ⟨_, F1, ⟨_, v1, b1⟩⟩ := k_B_init c
  have bin := c_B_init T eI BC (k_mkB c) (k_gB X G c) F1 b1 v1 clo cad bgo bcl
  -- Chances
  obtain ⟨_, F1, b1⟩ := k_C_init c
  have cin := c_C_init (CB := He.ga K "Bonds") CC (k_mkC c) (k_gC X G c) F1 b1 c_as
  obtain ⟨_, F1, b1, m1⟩ := k_C_timetable c
  have cti := c_C_timetable (P := P) (w := w) (mg := mg) (base := base) CC m1 F1 b1
  obtain ⟨_, F1, ⟨_, v0, b0⟩, ⟨_, v1, b1⟩, m1⟩ := k_C_meetings c
  have cme0 := c_C_meetings CC cmo m1 F1 b0 v0
  have cme1 := c_C_meetings CC cmo m1 F1 b1 v1
  obtain ⟨_, F1, b1, m1⟩ := k_C_lookers c
  have clk := c_C_lookers CC clo m1 F1 b1
  obtain ⟨_, F1, b1, m1⟩ := k_C_others c
  have cot := c_C_others T CC clk m1 F1 b1
  obtain ⟨_, F1, b1, m1⟩ := k_C_bonds c
  have cbo := c_C_bonds T CC ciw bin m1 F1 b1
  obtain ⟨_, F1, b1, m1⟩ := k_C_hides c
  have chd := c_C_hides CC cbo bal m1 F1 b1
  obtain ⟨_, FE, bE⟩ := k_least_enough X G c
  obtain ⟨_, F1, ⟨_, v0, b0⟩, ⟨_, v1, b1⟩, m1⟩ := k_C_nets c
  have cne0 := c_C_nets (t := tbsK K) T CC cme0 chd cch cha FE bE tN m1 F1 b0 v0
  have cne1 := c_C_nets (t := tbsK K) T CC cme0 chd cch cha FE bE tN m1 F1 b1 v1
  obtain ⟨_, F1, b1, m1⟩ := k_C_circles c
  have cci := c_C_circles (t := tbsK K) T CC cot chd cch cha FE bE tC m1 F1 b1
  obtain ⟨_, F1, b1⟩ := k_chances_of X G c
  have cco := c_chances_of T cin cti ccs F1 b1
  obtain ⟨_, F1, b1⟩ := k_nets X G c
  have fne := c_nets eN cco cne1 F1 b1
  obtain ⟨_, F1, b1⟩ := k_circles X G c
  have fci := c_circles cco cci F1 b1
  obtain ⟨_, F1, b1⟩ := k_least_lost X G c
  have fll := c_least_lost fne clh F1 b1
  obtain ⟨_, F1, b1⟩ := k_least_with X G c
  have flw := c_least_with T cch cot cne0 clh F1 b1
  obtain ⟨_, F1, b1⟩ := k_frontier X G c
  have ffr := c_frontier T cco cot flw F1 b1
  obtain ⟨_, F1, b1⟩ := k_fragile X G c
  have ffg := c_fragile T eM cin cti cme1 clo cch chd F1 b1
  -- the law's own
  obtain ⟨_, F1, b1⟩ := k_law_box X G c
  have lbx := c_box (P := P) (w := w) (base := base) T F1 b1
  obtain ⟨_, F1, b1⟩ := k_law_take X G c
  have ltk := c_take (P := P) (w := w) (base := base) T F1 b1
  obtain ⟨_, F1, b1⟩ := k_law_of X G c
  have lof := c_of T ltk F1 b1
  obtain ⟨_, F1, b1⟩ := k_law_event X G c
  have lev := c_event T ltk lof F1 b1
  obtain ⟨_, F1, b1⟩ := k_law_table X G c
  have ltb := c_table T ltk lev F1 b1
  obtain ⟨_, F1, b1⟩ := k_law_spots X G c
  have lsp := c_spots (P := P) (w := w) (base := base) T F1 b1
  obtain ⟨_, F1, b1⟩ := k_law_had X G c
  have lhd := c_had (P := P) (w := w) (base := base) T F1 b1
  obtain ⟨_, F1, b1⟩ := k_law_bound X G c
  have lbd := c_bound T lhd lsp F1 b1
  obtain ⟨_, F1, b1⟩ := k_law_two X G c
  have ltw := c_two T ltk lof lsp lbd F1 b1
  obtain ⟨_, F1, b1⟩ := k_law_inside X G c
  have lin := c_inside (P := P) (w := w) (base := base) F1 b1
  obtain ⟨_, F1, b1⟩ := k_law_right X G c
  have lri := c_right T ltk ltb ltw fne fci lin fll ffr ffg F1 b1
  exact c_law T lbx lri FL
end K29
open PySem PySem.W PySem.Calls PyProof.Rows
theorem PySem.Challenge.cw_hiddenforks_k29_whole_short_and_long_holds : PySem.Challenge.rw_hiddenforks_k29_whole_short_and_long.Holds := by
  w_on; o_law
  refine HandSHeadRun.head_any (r := K29.RR) (q := view K29.RR.prog [50]) (H := K29.hkk) (ob := K29.obb) (M := 3000) (loose := K29.looseL) (d := HandSHeadRun.topDef K29.RR.prog 50) (kwd := []) K29.obb_eq
    (by kernel_rfl) (fun s => by kernel_rfl) K29.runT (by kernel_rfl) (by kernel_rfl) (by kernel_rfl) (by rfl) (by first | assumption | decide +kernel) (by decide +kernel) ⟨rfl, rfl, rfl, rfl, rfl, by decide +kernel⟩ ?hw ?hc
  case hw => w_witness2
  case hc =>
    refine LamX.walk_ofTsE (l := PySem.Challenge.rw_hiddenforks_k29_whole_short_and_long) (n := 63) (k := 15) (x := "_law_script") (CX := fun _ => C8.CX0) rfl (by decide) (by kernel_rfl) ⟨rfl, by decide, by decide⟩ ?F (fun _ _ _ _ _ z => z)
    intro w mg fa h Y G hmg0
    obtain ⟨K, KX, c⟩ := Y
    have hmg : mg ("law" : PySem.Str) = some (.ref fa) := by
      have e : (HandSHeadRun.topDef K29.RR.prog 50).name = ("law" : PySem.Str) := by kernel_rfl
      rw [← e]
      exact hmg0
    have cd := c.t.d
    have ea : fa = He.ga K "law" := by
      have := hmg.symm.trans (K29.k_gL KX G cd)
      cases this
      rfl
    subst ea
    obtain ⟨fd, FL, hb⟩ := K29.k_lawB cd
    have ne := (K29.exB_emp c.more).2.2.2.2.2
    have mem : ∀ p ∈ K29.tfL.map (He.cT K), ∃ d ∈ K29.tfL, He.cT K d = p := fun p hp => List.mem_map.mp hp
    refine ⟨K, KX, fd, K29.tfL.map (He.cT K), K29.spLaw (K29.tbsK K) K, ?_, ?_, ?_, hb, ?_, ?_⟩
    · intro p hp
      obtain ⟨d, hd, rfl⟩ := mem p hp
      exact c.empty d hd
    · intro p hp
      obtain ⟨d, hd, rfl⟩ := mem p hp
      exact c.out d hd
    · intro p hp
      obtain ⟨d, hd, rfl⟩ := mem p hp
      exact PySem.W.codeHd_of_K KX (c.hd d hd)
    · intro H a ns hl _ hH hS
      exact ⟨a, ns, rfl, hS, ne, LamX.TabS.nil (hH _ (List.mem_map.mpr ⟨K29.pN, List.mem_cons_self .., rfl⟩)), LamX.TabS.nil (hH _ (List.mem_map.mpr ⟨K29.pC, List.mem_cons_of_mem _ (List.mem_cons_self ..), rfl⟩)), fun _ => rfl⟩
    · intro base _ _ tb
      exact K29.law_all KX G cd c.more tb FL

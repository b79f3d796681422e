import PyProof.Rows.All
import Wide.All
import OpenK.AllK
import Wide.FinOn
import HandS.ForMost
import HandS.ForExc
import HandS.IsInst
import HandS.Wide
import HandS.Style
import HandS.ExcIs
import HandS.Defaults
import PySem.Challenge.RW_twosquares_k06_whole_common_parts
set_option Elab.async false
set_option linter.all false
set_option maxRecDepth 100000
set_option maxHeartbeats 4000000
/-! G1: a layer of data over HandS. A value of plain data is a D; Rp says that a V stands for it in a heap.
All judgements of HandS are used at readings that speak of data alone (tD, bD, aD, sD). -/
namespace Gd
open PySem PySem.Spec PyProof.Rows L2

/-- plain data; exc: an exception object of the own class at C -/
inductive D where
  | non | bl (b : Bool) | int (i : Int) | str (x : Str) | tup (ds : List D) | lst (ds : List D) | dct | exc (C : Addr)

/-- an exception object of the class at C stands at a -/
def ExcT (C a : Addr) : HO := .ext fun h => ∃ (oe : Obj) (vs : Array Value), h.get? a = some oe ∧ oe.cls = .ref C ∧ oe.dict = none ∧ oe.data = .fields vs

mutual
inductive Rp (K : PySem.W.Frag) (H : Hp) : V → D → Prop
  | non : Rp K H .non .non
  | bl (b : Bool) : Rp K H (.bl b) (.bl b)
  | int (i : Int) : Rp K H (.int i) (.int i)
  | str (x : Str) : Rp K H (.str x) (.str x)
  | tup {a : Addr} {xs : List V} {ds : List D} : SqT K H a xs → RpA K H xs ds → Rp K H (.ref a) (.tup ds)
  | lst {a : Addr} {xs : List V} {ds : List D} : SqL K H a xs → RpA K H xs ds → Rp K H (.ref a) (.lst ds)
  | dct {a : Addr} : H a = some (.dK []) → Rp K H (.ref a) .dct
  | exc {a C : Addr} : H a = some (ExcT C a) → Rp K H (.ref a) (.exc C)
inductive RpA (K : PySem.W.Frag) (H : Hp) : List V → List D → Prop
  | nil : RpA K H [] []
  | cons {v : V} {vs : List V} {d : D} {ds : List D} : Rp K H v d → RpA K H vs ds → RpA K H (v :: vs) (d :: ds)
end

theorem same_t {K : PySem.W.Frag} {H H' : Hp} {a : Addr} {xs : List V} (e : Same H H') (h : SqT K H a xs) : SqT K H' a xs := by
  rcases h with (h | ⟨o, h⟩) | h
  · exact .inl (.inl (e _ _ h))
  · exact .inl (.inr ⟨o, e _ _ h⟩)
  · exact .inr h
theorem same_new {H : Hp} {p : Addr} {o : HO} (h : H p = none) : Same H (upd H p o) := fun b x e => by
  rw [upd_ne (ne_of_none e h)]
  exact e

mutual
theorem Rp.mono {K : PySem.W.Frag} {H H' : Hp} (e : Same H H') : ∀ {v : V} {d : D}, Rp K H v d → Rp K H' v d
  | _, _, .non => .non
  | _, _, .bl b => .bl b
  | _, _, .int i => .int i
  | _, _, .str x => .str x
  | _, _, .tup h hs => .tup (same_t e h) (RpA.mono e hs)
  | _, _, .lst h hs => .lst (e.seq h) (RpA.mono e hs)
  | _, _, .dct h => .dct (e _ _ h)
  | _, _, .exc h => .exc (e _ _ h)
theorem RpA.mono {K : PySem.W.Frag} {H H' : Hp} (e : Same H H') : ∀ {vs : List V} {ds : List D}, RpA K H vs ds → RpA K H' vs ds
  | _, _, .nil => .nil
  | _, _, .cons h hs => .cons (Rp.mono e h) (RpA.mono e hs)
end

theorem RpA.len {K : PySem.W.Frag} {H : Hp} : ∀ {vs : List V} {ds : List D}, RpA K H vs ds → vs.length = ds.length
  | _, _, .nil => rfl
  | _, _, .cons _ hs => by rw [List.length_cons, List.length_cons, RpA.len hs]
theorem RpA.get {K : PySem.W.Frag} {H : Hp} : ∀ {vs : List V} {ds : List D}, RpA K H vs ds → ∀ {i : Nat} {d : D}, ds[i]? = some d → ∃ v, vs[i]? = some v ∧ Rp K H v d
  | _, _, .nil, i, d, e => by simp at e
  | _, _, .cons h hs, 0, d, e => ⟨_, rfl, by cases (Option.some.inj e); exact h⟩
  | _, _, .cons h hs, i + 1, d, e => RpA.get hs (i := i) e
theorem RpA.app {K : PySem.W.Frag} {H : Hp} : ∀ {vs : List V} {ds : List D} {ws : List V} {es : List D}, RpA K H vs ds → RpA K H ws es → RpA K H (vs ++ ws) (ds ++ es)
  | _, _, _, _, .nil, h => h
  | _, _, _, _, .cons h hs, k => .cons h (RpA.app hs k)
theorem RpA.take {K : PySem.W.Frag} {H : Hp} : ∀ (n : Nat) {vs : List V} {ds : List D}, RpA K H vs ds → RpA K H (vs.take n) (ds.take n)
  | 0, _, _, _ => by simp only [List.take_zero]; exact .nil
  | n + 1, _, _, .nil => .nil
  | n + 1, _, _, .cons h hs => .cons h (RpA.take n hs)
theorem RpA.drop {K : PySem.W.Frag} {H : Hp} : ∀ (n : Nat) {vs : List V} {ds : List D}, RpA K H vs ds → RpA K H (vs.drop n) (ds.drop n)
  | 0, _, _, h => h
  | n + 1, _, _, .nil => .nil
  | n + 1, _, _, .cons h hs => RpA.drop n hs
theorem RpA.one {K : PySem.W.Frag} {H : Hp} {vs : List V} {d : D} (h : RpA K H vs [d]) : ∃ v, vs = [v] ∧ Rp K H v d := by
  cases h with
  | cons a b => cases b; exact ⟨_, rfl, a⟩
theorem RpA.two {K : PySem.W.Frag} {H : Hp} {vs : List V} {d e : D} (h : RpA K H vs [d, e]) : ∃ v w, vs = [v, w] ∧ Rp K H v d ∧ Rp K H w e := by
  cases h with
  | cons a b => obtain ⟨w, rfl, c⟩ := b.one; exact ⟨_, w, rfl, a, c⟩
theorem RpA.ints {K : PySem.W.Frag} {H : Hp} : ∀ (ns : List Int), RpA K H (ns.map V.int) (ns.map D.int)
  | [] => .nil
  | n :: r => .cons (.int n) (RpA.ints r)
theorem RpA.ints_of {K : PySem.W.Frag} {H : Hp} : ∀ {ns : List Int} {vs : List V}, RpA K H vs (ns.map D.int) → vs = ns.map V.int
  | [], _, .nil => rfl
  | n :: r, _, .cons h hs => by cases h; rw [RpA.ints_of (ns := r) hs]; rfl
theorem RpA.bls_of {K : PySem.W.Frag} {H : Hp} : ∀ {ns : List Bool} {vs : List V}, RpA K H vs (ns.map D.bl) → vs = ns.map V.bl
  | [], _, .nil => rfl
  | n :: r, _, .cons h hs => by cases h; rw [RpA.bls_of (ns := r) hs]; rfl
theorem Rp.int_of {K : PySem.W.Frag} {H : Hp} {v : V} {i : Int} (h : Rp K H v (.int i)) : v = .int i := by cases h; rfl
theorem Rp.bl_of {K : PySem.W.Frag} {H : Hp} {v : V} {i : Bool} (h : Rp K H v (.bl i)) : v = .bl i := by cases h; rfl
theorem Rp.non_of {K : PySem.W.Frag} {H : Hp} {v : V} (h : Rp K H v .non) : v = .non := by cases h; rfl

/-! ### data that no store can change -/
mutual
def D.imm : D → Bool
  | .tup ds => immA ds
  | .lst _ => false
  | .dct => false
  | .exc _ => false
  | .non => true
  | .bl _ => true
  | .int _ => true
  | .str _ => true
def immA : List D → Bool
  | [] => true
  | d :: ds => d.imm && immA ds
end
theorem sqt_upd {K : PySem.W.Frag} {H : Hp} {a p : Addr} {xs ys : List V} {o : HO} (h : SqT K H a xs) (hp : H p = some (.lst ys)) : SqT K (upd H p o) a xs := by
  rcases h with (h | ⟨u, h⟩) | h
  · exact .inl (.inl (by rw [upd_ne (ne_of h hp (fun z => by cases z))]; exact h))
  · exact .inl (.inr ⟨u, by rw [upd_ne (ne_of h hp (fun z => by cases z))]; exact h⟩)
  · exact .inr h
mutual
theorem Rp.upd {K : PySem.W.Frag} {H : Hp} {p : Addr} {ys : List V} {o : HO} (hp : H p = some (.lst ys)) : ∀ {v : V} {d : D}, d.imm = true → Rp K H v d → Rp K (upd H p o) v d
  | _, _, _, .non => .non
  | _, _, _, .bl b => .bl b
  | _, _, _, .int i => .int i
  | _, _, _, .str x => .str x
  | _, _, m, .tup h hs => .tup (sqt_upd h hp) (RpA.upd hp m hs)
  | _, _, m, .lst h hs => by cases m
  | _, _, m, .dct h => by cases m
  | _, _, m, .exc h => by cases m
theorem RpA.upd {K : PySem.W.Frag} {H : Hp} {p : Addr} {ys : List V} {o : HO} (hp : H p = some (.lst ys)) : ∀ {vs : List V} {ds : List D}, immA ds = true → RpA K H vs ds → RpA K (upd H p o) vs ds
  | _, _, _, .nil => .nil
  | _, _, m, .cons h hs => by
    have m' := Bool.and_eq_true_iff.mp m
    exact .cons (Rp.upd hp m'.1 h) (RpA.upd hp m'.2 hs)
end
theorem immA_of : ∀ {ds : List D}, (∀ d ∈ ds, d.imm = true) → immA ds = true
  | [], _ => rfl
  | d :: ds, h => by
    show (d.imm && immA ds) = true
    rw [h d (List.mem_cons_self ..), immA_of fun e he => h e (List.mem_cons_of_mem _ he)]
    rfl
theorem immA_app : ∀ {ds es : List D}, immA ds = true → immA es = true → immA (ds ++ es) = true
  | [], _, _, h => h
  | d :: ds, es, h, k => by
    have m := Bool.and_eq_true_iff.mp h
    show (d.imm && immA (ds ++ es)) = true
    rw [m.1, immA_app m.2 k]
    rfl

/-! ### data as the library's PyData -/
mutual
def D.py : D → PyData
  | .non => .none
  | .bl b => .bool b
  | .int i => .int i
  | .str x => .str x
  | .tup ds => .tuple (pyA ds)
  | .lst ds => .list (pyA ds)
  | .dct => .none
  | .exc _ => .none
def pyA : List D → List PyData
  | [] => []
  | d :: ds => d.py :: pyA ds
end
mutual
def D.flat : D → Bool
  | .tup ds => flatA ds
  | .lst ds => flatA ds
  | .dct => false
  | .exc _ => false
  | .non => true
  | .bl _ => true
  | .int _ => true
  | .str _ => true
def flatA : List D → Bool
  | [] => true
  | d :: ds => d.flat && flatA ds
end
mutual
theorem Rp.dp {K : PySem.W.Frag} {H : Hp} : ∀ {v : V} {d : D}, d.flat = true → Rp K H v d → Dp K H v d.py
  | _, _, _, .non => .non
  | _, _, _, .bl b => .bl b
  | _, _, _, .int i => .int i
  | _, _, _, .str x => .str x
  | _, _, m, .tup h hs => .tup h (RpA.dp m hs)
  | _, _, m, .lst h hs => .lst h (RpA.dp m hs)
  | _, _, m, .dct h => by cases m
  | _, _, m, .exc h => by cases m
theorem RpA.dp {K : PySem.W.Frag} {H : Hp} : ∀ {vs : List V} {ds : List D}, flatA ds = true → RpA K H vs ds → DpAll K H vs (pyA ds)
  | _, _, _, .nil => .nil
  | _, _, m, .cons h hs => by
    have m' := Bool.and_eq_true_iff.mp m
    exact .cons (Rp.dp m'.1 h) (RpA.dp m'.2 hs)
end
/-- d and e are compared by == -/
def eqD (d e : D) : Bool := PyData.eqv d.py e.py
/-- d may be compared -/
def okD (d : D) : Bool := d.flat && SeqAt.shaped d.py

/-! ### the frame's data -/
abbrev Env := List (Option D)
def Sd (K : PySem.W.Frag) (H : Hp) (σ : L2.St) (ρ : Env) : Prop := σ.length = ρ.length ∧ ∀ (i : Nat) (d : D), ρ[i]? = some (some d) → ∃ v, σ[i]? = some (some v) ∧ Rp K H v d
theorem Sd.mono {K : PySem.W.Frag} {H H' : Hp} {σ : L2.St} {ρ : Env} (e : Same H H') (h : Sd K H σ ρ) : Sd K H' σ ρ := ⟨h.1, fun i d q => let ⟨v, a, b⟩ := h.2 i d q; ⟨v, a, b.mono e⟩⟩
theorem Sd.set {K : PySem.W.Frag} {H : Hp} {σ : L2.St} {ρ : Env} {i : Nat} {v : V} {d : D} (h : Sd K H σ ρ) (r : Rp K H v d) : Sd K H (σ.set i (some v)) (ρ.set i (some d)) := by
  refine ⟨by rw [List.length_set, List.length_set, h.1], fun j e q => ?_⟩
  by_cases hij : i = j
  · subst hij
    have hl : i < ρ.length := by
      rcases Nat.lt_or_ge i ρ.length with c | c
      · exact c
      · rw [List.getElem?_eq_none (by simpa using c)] at q; cases q
    rw [List.getElem?_set_self hl] at q
    cases q
    exact ⟨v, List.getElem?_set_self (by rw [h.1]; exact hl), r⟩
  · rw [List.getElem?_set_ne hij] at q ⊢
    exact h.2 j e q
theorem Sd.none {K : PySem.W.Frag} {H : Hp} {σ : L2.St} {ρ : Env} {i : Nat} (h : Sd K H σ ρ) : Sd K H (σ.set i none) (ρ.set i none) := by
  refine ⟨by rw [List.length_set, List.length_set, h.1], fun j e q => ?_⟩
  by_cases hij : i = j
  · subst hij
    by_cases hl : i < ρ.length
    · rw [List.getElem?_set_self hl] at q; cases q
    · rw [List.getElem?_eq_none (by simpa using hl)] at q; cases q
  · rw [List.getElem?_set_ne hij] at q ⊢
    exact h.2 j e q
/-- forget what ρ says more -/
def Sub (ρ ρ' : Env) : Prop := ρ.length = ρ'.length ∧ ∀ (i : Nat) (d : D), ρ'[i]? = some (some d) → ρ[i]? = some (some d)
theorem Sd.sub {K : PySem.W.Frag} {H : Hp} {σ : L2.St} {ρ ρ' : Env} (h : Sd K H σ ρ) (s : Sub ρ ρ') : Sd K H σ ρ' := ⟨h.1.trans s.1, fun i d q => h.2 i d (s.2 i d q)⟩
theorem sd_start {K : PySem.W.Frag} {H : Hp} {N : List Str} {vs : List V} {ds : List D} (h : RpA K H vs ds) : Sd K H (L2.start N vs) (ds.map some ++ List.replicate (N.length - ds.length) none) := by
  have hl := h.len
  refine ⟨by unfold L2.start; simp [hl], fun i d q => ?_⟩
  rcases Nat.lt_or_ge i ds.length with c | c
  · rw [List.getElem?_append_left (by simpa using c), List.getElem?_map] at q
    have e : ds[i]? = some d := by
      cases z : ds[i]? with
      | none => rw [z] at q; cases q
      | some y => rw [z] at q; cases q; rfl
    obtain ⟨v, a, b⟩ := h.get e
    refine ⟨v, ?_, b⟩
    unfold L2.start
    rw [List.getElem?_append_left (by simpa [hl] using c), List.getElem?_map, a]
    rfl
  · rw [List.getElem?_append_right (by simpa using c), List.getElem?_replicate] at q
    split at q <;> cases q

/-! ### readings that speak of data -/
def tD (K : PySem.W.Frag) (ρ : Env) (d : D) : TE := fun σ H Q => Sd K H σ ρ ∧ ∀ v H', Same H H' → Rp K H' v d → Q v H'
def bD (K : PySem.W.Frag) (ρ : Env) (b : Bool) : TT := fun σ H Q => Sd K H σ ρ ∧ ∀ H', Same H H' → Q b H'
def aD (K : PySem.W.Frag) (ρ : Env) (ds : List D) : TA := fun σ H Q => Sd K H σ ρ ∧ ∀ vs H', Same H H' → RpA K H' vs ds → Q vs H'
/-- how a statement ends -/
inductive Out where
  | nx (ρ : Env) | bk (ρ : Env) | ct (ρ : Env) | rt (d : D) | ex (C : Addr) (ρ : Env)
def Meets (K : PySem.W.Frag) (W : WX) (E : Ends) (H : Hp) : Out → Prop
  | .nx ρ => ∀ σ' H', Same H H' → Sd K H' σ' ρ → E.nx σ' H'
  | .bk ρ => ∀ σ' H', Same H H' → Sd K H' σ' ρ → E.bk σ' H'
  | .ct ρ => ∀ σ' H', Same H H' → Sd K H' σ' ρ → E.ct σ' H'
  | .rt d => ∀ v H', Same H H' → Rp K H' v d → E.rt v H'
  | .ex C ρ => ∀ σ' H', Same H H' → Sd K H' σ' ρ → W (.ref C) none σ' H'
theorem Meets.mono {K : PySem.W.Frag} {W : WX} {E : Ends} {H H' : Hp} (e : Same H H') {o : Out} (h : Meets K W E H o) : Meets K W E H' o := by
  cases o with
  | nx ρ => exact fun σ' H2 a b => h σ' H2 (e.trans a) b
  | bk ρ => exact fun σ' H2 a b => h σ' H2 (e.trans a) b
  | ct ρ => exact fun σ' H2 a b => h σ' H2 (e.trans a) b
  | rt d => exact fun σ' H2 a b => h σ' H2 (e.trans a) b
  | ex C ρ => exact fun σ' H2 a b => h σ' H2 (e.trans a) b
def sD (K : PySem.W.Frag) (W : WX) (ρ : Env) (P : Out → Prop) : TS := fun E σ H => Sd K H σ ρ ∧ ∀ o, P o → Meets K W E H o

section
variable {X : Cx} {e a b c : Expr} {es : List Expr} {pos : Pos} {ρ : Env} {d d1 d2 d3 : D} {ds : List D}
theorem pe_wk {t t' : TE} (h : PE X e t) (w : ∀ σ H Q, t' σ H Q → t σ H Q) : PE X e t' := ⟨fun pins s σ H Q I q => h.run pins s σ H Q I (w σ H Q q)⟩
theorem pt_wk {t t' : TT} (h : PT X e t) (w : ∀ σ H Q, t' σ H Q → t σ H Q) : PT X e t' := ⟨fun pins s σ H Q I q => h.run pins s σ H Q I (w σ H Q q)⟩
theorem pw_wk {t t' : TT} (h : PW X e t) (w : ∀ σ H Q, t' σ H Q → t σ H Q) : PW X e t' := ⟨fun wh pins s σ H Q I q => h.run wh pins s σ H Q I (w σ H Q q)⟩
theorem pa_wk {t t' : TA} (h : PA X es t) (w : ∀ σ H Q, t' σ H Q → t σ H Q) : PA X es t' := ⟨fun p pins s σ H Q I q => h.run p pins s σ H Q I (w σ H Q q)⟩
theorem ps_wk {st : Stmt} {t t' : TS} (h : PS X st t) (w : ∀ E σ H, t' E σ H → t E σ H) : PS X st t' := ⟨fun pins s σ H E I q => h.run pins s σ H E I (w E σ H q)⟩
theorem pss_wk {st : List Stmt} {t t' : TS} (h : PSs X st t) (w : ∀ E σ H, t' E σ H → t E σ H) : PSs X st t' := ⟨fun pins s σ H E I q => h.run pins s σ H E I (w E σ H q)⟩
theorem pi_wk {tg : Expr} {t t' : TI} (h : PI X tg e t) (w : ∀ σ H Q, t' σ H Q → t σ H Q) : PI X tg e t' := ⟨fun pins s σ H Q I q => h.run pins s σ H Q I (w σ H Q q)⟩
theorem pg_wk {t t' : TG} (h : PG X e t) (w : ∀ v σ H Q, t' v σ H Q → t v σ H Q) : PG X e t' := ⟨fun pins s σ H v u Q I r q => h.run pins s σ H v u Q I r (w v σ H Q q)⟩

/-! ### names, constants -/
theorem x_var (i : Nat) {x : Str} (h : ρ[i]? = some (some d) := by rfl) (hN : X.N[i]? = some x := by rfl)
    (hv : Vis X.env.scope x := by first | exact Or.inl rfl | exact Or.inr (Or.inl rfl) | exact Or.inr (Or.inr rfl)) (hd : (x == ("__debug__" : Str)) = false := by decide)
    (hcd : (x == ("__classdict__" : Str)) = false := by decide) : PE X (.Name x pos) (tD X.K ρ d) :=
  pe_wk (pe_var hN hv hd hcd) fun σ H Q ⟨s, q⟩ => by
    obtain ⟨v, a, r⟩ := s.2 i d h
    exact ⟨v, a, q v H (Same.refl H) r⟩
theorem x_int {i : Int} {j : Nat} : PE X (.Constant (.int i) j pos) (tD X.K ρ (.int i)) := pe_wk pe_int fun σ H Q ⟨_, q⟩ => q _ H (Same.refl H) (.int i)
theorem x_bl {i : Bool} {j : Nat} : PE X (.Constant (.bool i) j pos) (tD X.K ρ (.bl i)) := pe_wk pe_bl fun σ H Q ⟨_, q⟩ => q _ H (Same.refl H) (.bl i)
theorem x_non {j : Nat} : PE X (.Constant .none j pos) (tD X.K ρ .non) := pe_wk pe_non fun σ H Q ⟨_, q⟩ => q _ H (Same.refl H) .non
theorem x_str {x : Str} {j : Nat} : PE X (.Constant (.str x) j pos) (tD X.K ρ (.str x)) := pe_wk pe_str fun σ H Q ⟨_, q⟩ => q _ H (Same.refl H) (.str x)

/-! ### operators by data -/
def OpD (X : Cx) (f : Value → Value → Sem Value) (d1 d2 d3 : D) : Prop := OpR X f fun x y H Q => Rp X.K H x d1 ∧ Rp X.K H y d2 ∧ ∀ v H', Same H H' → Rp X.K H' v d3 → Q v H'
theorem opD_of {f : Value → Value → Sem Value} {r : R2} (h : OpR X f r) (w : ∀ x y H Q, Rp X.K H x d1 → Rp X.K H y d2 → (∀ v H', Same H H' → Rp X.K H' v d3 → Q v H') → r x y H Q) : OpD X f d1 d2 d3 :=
  fun pins s σ H x y v u Q I rx ry ⟨h1, h2, q⟩ => h pins s σ H x y v u Q I rx ry (w x y H Q h1 h2 q)
theorem tOp_of {r : R2} {ta tb : TE} {σ : L2.St} {H : Hp} {Q : VK} {K : PySem.W.Frag} (s : Sd K H σ ρ) (ha : ta = tD K ρ d1) (hb : tb = tD K ρ d2)
    (h : ∀ x y H', Same H H' → Rp K H' x d1 → Rp K H' y d2 → r x y H' Q) : tOp r ta tb σ H Q := by
  subst ha; subst hb
  exact ⟨s, fun x H1 e1 r1 => ⟨s.mono e1, fun y H2 e2 r2 => h x y H2 (e1.trans e2) (r1.mono e2) r2⟩⟩
theorem x_op {op : Operator} (ha : PE X a (tD X.K ρ d1)) (hb : PE X b (tD X.K ρ d2)) (ho : OpD X (binaryOp op) d1 d2 d3) : PE X (.BinOp a op b pos) (tD X.K ρ d3) :=
  pe_wk (pe_op ho ha hb) fun σ H Q ⟨s, q⟩ => tOp_of s rfl rfl fun x y H' e r1 r2 => ⟨r1, r2, fun v H2 e2 r3 => q v H2 (e.trans e2) r3⟩
theorem x_cmp {op : CmpOp} (ha : PE X a (tD X.K ρ d1)) (hb : PE X b (tD X.K ρ d2)) (ho : OpD X (compareOp op) d1 d2 d3) (hm : behindInMarks op b = false := by first | exact nomark _ | rfl) : PE X (.Compare a [op] [b] pos) (tD X.K ρ d3) :=
  pe_wk (pe_cmpR ho ha hb hm) fun σ H Q ⟨s, q⟩ => tOp_of s rfl rfl fun x y H' e r1 r2 => ⟨r1, r2, fun v H2 e2 r3 => q v H2 (e.trans e2) r3⟩
theorem y_cmp {op : CmpOp} {k : Bool} (ha : PE X a (tD X.K ρ d1)) (hb : PE X b (tD X.K ρ d2)) (ho : OpD X (compareOp op) d1 d2 (.bl k)) (hm : behindInMarks op b = false := by first | exact nomark _ | rfl) : PT X (.Compare a [op] [b] pos) (bD X.K ρ k) :=
  pt_wk (pt_cmpR ho ha hb hm) fun σ H Q ⟨s, q⟩ => tOp_of s rfl rfl fun x y H' e r1 r2 => ⟨r1, r2, fun v H2 e2 r3 => ⟨k, r3.bl_of, q H2 (e.trans e2)⟩⟩

variable {i j : Int}
theorem o_I0 {f : Value → Value → Sem Value} {g : Int → Int → Int} (h : OpR X f (rI0 fun i j => .int (g i j))) : OpD X f (.int i) (.int j) (.int (g i j)) := opD_of h fun x y H Q r1 r2 q => by
  cases r1; cases r2
  exact ⟨i, j, rfl, rfl, q _ H (Same.refl H) (.int _)⟩
theorem o_I {C : Int → Int → Prop} {f : Value → Value → Sem Value} {g : Int → Int → Int} (h : OpR X f (rI C fun i j => .int (g i j))) (hc : C i j) : OpD X f (.int i) (.int j) (.int (g i j)) := opD_of h fun x y H Q r1 r2 q => by
  cases r1; cases r2
  exact ⟨i, j, rfl, rfl, hc, q _ H (Same.refl H) (.int _)⟩
theorem o_B0 {f : Value → Value → Sem Value} {g : Int → Int → Bool} (h : OpR X f (rI0 fun i j => .bl (g i j))) : OpD X f (.int i) (.int j) (.bl (g i j)) := opD_of h fun x y H Q r1 r2 q => by
  cases r1; cases r2
  exact ⟨i, j, rfl, rfl, q _ H (Same.refl H) (.bl _)⟩
theorem o_add : OpD X (binaryOp .Add) (.int i) (.int j) (.int (i + j)) := o_I0 (g := fun i j => i + j) op_add
theorem o_sub : OpD X (binaryOp .Sub) (.int i) (.int j) (.int (i - j)) := o_I0 (g := fun i j => i - j) op_sub
theorem o_mul (h : CMulW i j) : OpD X (binaryOp .Mult) (.int i) (.int j) (.int (i * j)) := o_I (g := fun i j => i * j) op_mulW h
theorem o_fdiv (h : CDivW i j) : OpD X (binaryOp .FloorDiv) (.int i) (.int j) (.int (i / j)) := o_I (g := fun i j => i / j) op_fdivW h
theorem o_mod (h : 0 < j) : OpD X (binaryOp .Mod) (.int i) (.int j) (.int (i % j)) := o_I (C := fun _ j => 0 < j) (g := fun i j => i % j) op_mod h
theorem o_pow {k : Int} (h : CPow i j) (e : i ^ j.toNat = k) : OpD X (binaryOp .Pow) (.int i) (.int j) (.int k) := e ▸ o_I (g := fun i j => i ^ j.toNat) op_pow h
theorem o_iadd : OpD X (inplaceOp .Add) (.int i) (.int j) (.int (i + j)) := o_I0 (g := fun i j => i + j) iop_add
theorem o_lt : OpD X (compareOp .Lt) (.int i) (.int j) (.bl (decide (i < j))) := o_B0 (g := fun i j => decide (i < j)) op_lt
theorem o_le : OpD X (compareOp .LtE) (.int i) (.int j) (.bl (decide (i ≤ j))) := o_B0 (g := fun i j => decide (i ≤ j)) op_le
theorem o_gt : OpD X (compareOp .Gt) (.int i) (.int j) (.bl (decide (j < i))) := o_B0 (g := fun i j => decide (j < i)) op_gt
theorem o_ge : OpD X (compareOp .GtE) (.int i) (.int j) (.bl (decide (j ≤ i))) := o_B0 (g := fun i j => decide (j ≤ i)) op_ge
theorem o_eqI : OpD X (compareOp .Eq) (.int i) (.int j) (.bl (decide (i = j))) := opD_of op_eq fun x y H Q r1 r2 q => by
  cases r1; cases r2
  refine ⟨rfl, q _ H (Same.refl H) ?_⟩
  have e : decide (V.int i = V.int j) = decide (i = j) := by
    by_cases c : i = j
    · subst c; simp
    · rw [decide_eq_false c, decide_eq_false fun z => c (V.int.inj z)]
  rw [e]
  exact .bl _
theorem o_neI : OpD X (compareOp .NotEq) (.int i) (.int j) (.bl (!decide (i = j))) := opD_of op_ne fun x y H Q r1 r2 q => by
  cases r1; cases r2
  refine ⟨rfl, q _ H (Same.refl H) ?_⟩
  have e : decide (V.int i = V.int j) = decide (i = j) := by
    by_cases c : i = j
    · subst c; simp
    · rw [decide_eq_false c, decide_eq_false fun z => c (V.int.inj z)]
  rw [e]
  exact .bl _
theorem o_eq {k : Nat} (hu : Room k X.A) (h1 : okD d1 = true) (h2 : okD d2 = true) : OpD X (compareOp .Eq) d1 d2 (.bl (eqD d1 d2)) := opD_of (op_eqD hu.units) fun x y H Q r1 r2 q => by
  have m1 := Bool.and_eq_true_iff.mp h1
  have m2 := Bool.and_eq_true_iff.mp h2
  exact ⟨_, _, r1.dp m1.1, r2.dp m2.1, m1.2, m2.2, q _ H (Same.refl H) (.bl _)⟩
theorem o_ne {k : Nat} (hu : Room k X.A) (h1 : okD d1 = true) (h2 : okD d2 = true) : OpD X (compareOp .NotEq) d1 d2 (.bl (!eqD d1 d2)) := opD_of (op_neD hu.units) fun x y H Q r1 r2 q => by
  have m1 := Bool.and_eq_true_iff.mp h1
  have m2 := Bool.and_eq_true_iff.mp h2
  exact ⟨_, _, r1.dp m1.1, r2.dp m2.1, m1.2, m2.2, q _ H (Same.refl H) (.bl _)⟩
def D.isN : D → Bool
  | .non => true
  | _ => false
theorem Rp.isN {K : PySem.W.Frag} {H : Hp} {v : V} {d : D} (h : Rp K H v d) : decide (v = .non) = d.isN := by cases h <;> rfl
theorem o_isN : OpD X (compareOp .Is) d .non (.bl d.isN) := opD_of op_isN fun x y H Q r1 r2 q => ⟨r2.non_of, by rw [r1.isN]; exact q _ H (Same.refl H) (.bl _)⟩
theorem o_notN : OpD X (compareOp .IsNot) d .non (.bl (!d.isN)) := opD_of op_notN fun x y H Q r1 r2 q => ⟨r2.non_of, by rw [r1.isN]; exact q _ H (Same.refl H) (.bl _)⟩
theorem o_isB {p q : Bool} : OpD X (compareOp .Is) (.bl p) (.bl q) (.bl (decide (p = q))) := opD_of op_isBl fun x y H Q r1 r2 k => ⟨p, q, r1.bl_of, r2.bl_of, k _ H (Same.refl H) (.bl _)⟩
theorem o_notB {p q : Bool} : OpD X (compareOp .IsNot) (.bl p) (.bl q) (.bl (!decide (p = q))) := opD_of op_notBl fun x y H Q r1 r2 k => ⟨p, q, r1.bl_of, r2.bl_of, k _ H (Same.refl H) (.bl _)⟩

/-! ### displays, subscripts -/
theorem args_nil : PA X [] (aD X.K ρ []) := pa_wk pa_nil fun σ H Q ⟨_, q⟩ => q [] H (Same.refl H) .nil
theorem args_cons (ha : PE X e (tD X.K ρ d)) (hr : PA X es (aD X.K ρ ds)) (hs : starEach (e :: es) X.env = (false, eval e X.env) :: starEach es X.env := by rfl) : PA X (e :: es) (aD X.K ρ (d :: ds)) :=
  pa_wk (pa_cons ha hr hs) fun σ H Q ⟨s, q⟩ => ⟨s, fun v H1 e1 r1 => ⟨s.mono e1, fun vs H2 e2 r2 => q _ H2 (e1.trans e2) (.cons (r1.mono e2) r2)⟩⟩
theorem le_line {n : Nat} (h : n ≤ 100000) : n ≤ sizeLine := Nat.le_trans h (by decide)
theorem x_tup {x1} (h : PA X es (aD X.K ρ ds)) (hl : Nat.ble ds.length 100000 = true := by rfl) : PE X (.Tuple es x1 pos) (tD X.K ρ (.tup ds)) :=
  pe_wk (pe_tup h) fun σ H Q ⟨s, q⟩ => ⟨s, fun vs H1 e1 r1 => ⟨by rw [r1.len]; exact le_line (Nat.le_of_ble_eq_true hl), fun p hp => q _ _ (e1.trans (same_new hp)) (.tup (.of upd_same) (r1.mono (same_new hp)))⟩⟩
theorem x_lst (h : PA X es (aD X.K ρ ds)) (hl : Nat.ble ds.length 100000 = true := by rfl) : PE X (.List es pos) (tD X.K ρ (.lst ds)) :=
  pe_wk (pe_lst h) fun σ H Q ⟨s, q⟩ => ⟨s, fun vs H1 e1 r1 => ⟨by rw [r1.len]; exact le_line (Nat.le_of_ble_eq_true hl), fun p hp => q _ _ (e1.trans (same_new hp)) (.lst (.of upd_same) (r1.mono (same_new hp)))⟩⟩
theorem atI_rp {K : PySem.W.Frag} {H : Hp} {vs : List V} (r : RpA K H vs ds) (h : atI ds i = some d) : ∃ v, atI vs i = some v ∧ Rp K H v d := by
  unfold atI at h ⊢
  rw [r.len]
  cases z : ixN ds.length i with
  | none => rw [z] at h; cases h
  | some j =>
    rw [z] at h
    exact r.get h
theorem x_ixT (ha : PE X a (tD X.K ρ (.tup ds))) (hb : PE X b (tD X.K ρ (.int i))) (h : atI ds i = some d := by rfl) (hs : PlainIx b := by exact fun _ _ => rfl) : PE X (.Subscript a b pos) (tD X.K ρ d) :=
  pe_wk (pe_ix ix_tup ha hb hs) fun σ H Q ⟨s, q⟩ => tOp_of s rfl rfl fun x y H' e r1 r2 => by
    cases r2
    cases r1 with
    | tup hq ra =>
      obtain ⟨v, h1, h2⟩ := atI_rp ra h
      exact ⟨_, _, i, v, rfl, rfl, hq, h1, q v H' e h2⟩
theorem x_ixL (ha : PE X a (tD X.K ρ (.lst ds))) (hb : PE X b (tD X.K ρ (.int i))) (h : atI ds i = some d := by rfl) (hs : PlainIx b := by exact fun _ _ => rfl) : PE X (.Subscript a b pos) (tD X.K ρ d) :=
  pe_wk (pe_ix ix_list ha hb hs) fun σ H Q ⟨s, q⟩ => tOp_of s rfl rfl fun x y H' e r1 r2 => by
    cases r2
    cases r1 with
    | lst hq ra =>
      obtain ⟨v, h1, h2⟩ := atI_rp ra h
      exact ⟨_, _, i, v, rfl, rfl, hq, h1, q v H' e h2⟩

/-! ### and, or, not, tests -/
theorem x_one {op} (h : PE X a (tD X.K ρ d)) : PE X (.BoolOp op [a] pos) (tD X.K ρ d) := pe_one h
theorem x_and {k m : Bool} (ha : PE X a (tD X.K ρ (.bl k))) (hb : k = true → PE X (.BoolOp .And (b :: es) pos) (tD X.K ρ (.bl m))) : PE X (.BoolOp .And (a :: b :: es) pos) (tD X.K ρ (.bl (k && m))) := by
  cases k with
  | true => exact pe_wk (pe_and ha (hb rfl)) fun σ H Q ⟨s, q⟩ => ⟨s, fun v H1 e1 r1 => ⟨true, r1.bl_of, iteT ⟨s.mono e1, fun v H2 e2 r2 => q v H2 (e1.trans e2) r2⟩⟩⟩
  | false => exact pe_wk (pe_and (tb := fun _ _ _ => False) ha ⟨fun _ _ _ _ _ _ z => z.elim⟩) fun σ H Q ⟨s, q⟩ => ⟨s, fun v H1 e1 r1 => ⟨false, r1.bl_of, iteF (q _ H1 e1 (.bl _))⟩⟩
theorem x_or {k m : Bool} (ha : PE X a (tD X.K ρ (.bl k))) (hb : k = false → PE X (.BoolOp .Or (b :: es) pos) (tD X.K ρ (.bl m))) : PE X (.BoolOp .Or (a :: b :: es) pos) (tD X.K ρ (.bl (k || m))) := by
  cases k with
  | false => exact pe_wk (pe_or ha (hb rfl)) fun σ H Q ⟨s, q⟩ => ⟨s, fun v H1 e1 r1 => ⟨false, r1.bl_of, iteF ⟨s.mono e1, fun v H2 e2 r2 => q v H2 (e1.trans e2) r2⟩⟩⟩
  | true => exact pe_wk (pe_or (tb := fun _ _ _ => False) ha ⟨fun _ _ _ _ _ _ z => z.elim⟩) fun σ H Q ⟨s, q⟩ => ⟨s, fun v H1 e1 r1 => ⟨true, r1.bl_of, iteT (q _ H1 e1 (.bl _))⟩⟩
theorem x_not {k : Bool} (ha : PT X a (bD X.K ρ k)) (hq : PE X a (tD X.K ρ (.bl k))) : PE X (.UnaryOp .Not a pos) (tD X.K ρ (.bl (!k))) :=
  pe_wk (pe_not hq) fun σ H Q ⟨s, q⟩ => ⟨s, fun v H1 e1 r1 => ⟨k, r1.bl_of, q _ H1 e1 (.bl _)⟩⟩
theorem x_notV {k : Bool} (hq : PE X a (tD X.K ρ (.bl k))) : PE X (.UnaryOp .Not a pos) (tD X.K ρ (.bl (!k))) :=
  pe_wk (pe_not hq) fun σ H Q ⟨s, q⟩ => ⟨s, fun v H1 e1 r1 => ⟨k, r1.bl_of, q _ H1 e1 (.bl _)⟩⟩
theorem x_if {k : Bool} (hc : PT X c (bD X.K ρ k)) (ha : k = true → PE X a (tD X.K ρ d)) (hb : k = false → PE X b (tD X.K ρ d)) : PE X (.IfExp c a b pos) (tD X.K ρ d) := by
  cases k with
  | true => exact pe_wk (pe_ifExp (tb := fun _ _ _ => False) hc (ha rfl) ⟨fun _ _ _ _ _ _ z => z.elim⟩) fun σ H Q ⟨s, q⟩ => ⟨s, fun H1 e1 => iteT ⟨s.mono e1, fun v H2 e2 r2 => q v H2 (e1.trans e2) r2⟩⟩
  | false => exact pe_wk (pe_ifExp (ta := fun _ _ _ => False) hc ⟨fun _ _ _ _ _ _ z => z.elim⟩ (hb rfl)) fun σ H Q ⟨s, q⟩ => ⟨s, fun H1 e1 => iteF ⟨s.mono e1, fun v H2 e2 r2 => q v H2 (e1.trans e2) r2⟩⟩
theorem y_val {k : Bool} (h : PE X e (tD X.K ρ (.bl k))) (he : ∀ whole, isTrue e X.env whole = (do let v ← whole; standAt e.pos; holding [v] (truthy v)) := by intro _; rfl) : PT X e (bD X.K ρ k) :=
  pt_wk (pt_val h he) fun σ H Q ⟨s, q⟩ => ⟨s, fun v H1 e1 r1 => ⟨k, r1.bl_of, q H1 e1⟩⟩
theorem y_not {k : Bool} (h : PT X a (bD X.K ρ k)) : PT X (.UnaryOp .Not a pos) (bD X.K ρ (!k)) :=
  pt_wk (pt_not h) fun σ H Q ⟨s, q⟩ => ⟨s, fun H1 e1 => q H1 e1⟩
theorem w_and1 {k : Bool} (h : PT X a (bD X.K ρ k)) : PW X (.BoolOp .And [a] pos) (bD X.K ρ k) := pw_and1 h
theorem w_or1 {k : Bool} (h : PT X a (bD X.K ρ k)) : PW X (.BoolOp .Or [a] pos) (bD X.K ρ k) := pw_or1 h
theorem w_and {k m : Bool} (ha : PT X a (bD X.K ρ k)) (hb : k = true → PW X (.BoolOp .And (b :: es) pos) (bD X.K ρ m)) : PW X (.BoolOp .And (a :: b :: es) pos) (bD X.K ρ (k && m)) := by
  cases k with
  | true => exact pw_wk (pw_and ha (hb rfl)) fun σ H Q ⟨s, q⟩ => ⟨s, fun H1 e1 => iteT ⟨s.mono e1, fun H2 e2 => q H2 (e1.trans e2)⟩⟩
  | false => exact pw_wk (pw_and (tB' := fun _ _ _ => False) ha ⟨fun _ _ _ _ _ _ _ z => z.elim⟩) fun σ H Q ⟨s, q⟩ => ⟨s, fun H1 e1 => iteF (q H1 e1)⟩
theorem w_or {k m : Bool} (ha : PT X a (bD X.K ρ k)) (hb : k = false → PW X (.BoolOp .Or (b :: es) pos) (bD X.K ρ m)) : PW X (.BoolOp .Or (a :: b :: es) pos) (bD X.K ρ (k || m)) := by
  cases k with
  | false => exact pw_wk (pw_or ha (hb rfl)) fun σ H Q ⟨s, q⟩ => ⟨s, fun H1 e1 => iteF ⟨s.mono e1, fun H2 e2 => q H2 (e1.trans e2)⟩⟩
  | true => exact pw_wk (pw_or (tB' := fun _ _ _ => False) ha ⟨fun _ _ _ _ _ _ _ z => z.elim⟩) fun σ H Q ⟨s, q⟩ => ⟨s, fun H1 e1 => iteT (q H1 e1)⟩
theorem y_w {k : Bool} (h : PW X e (bD X.K ρ k)) : PT X e (bD X.K ρ k) := h.pt
theorem tChain_of {r r' : R2} {σ : L2.St} {H : Hp} {Q : VK} {K : PySem.W.Frag} {k m : Bool} (s : Sd K H σ ρ)
    (h : ∀ x y H' (Q' : VK), Same H H' → Rp K H' x d1 → Rp K H' y d2 → (∀ v H2, Same H' H2 → Rp K H2 v (.bl k) → Q' v H2) → r x y H' Q')
    (h' : ∀ x y H' (Q' : VK), Same H H' → Rp K H' x d2 → Rp K H' y d3 → (∀ v H2, Same H' H2 → Rp K H2 v (.bl m) → Q' v H2) → r' x y H' Q')
    (q : ∀ H', Same H H' → Q (.bl (k && m)) H') : tChain r r' (tD K ρ d1) (tD K ρ d2) (tD K ρ d3) σ H Q := by
  refine ⟨s, fun x H1 e1 r1 => ⟨s.mono e1, fun y H2 e2 r2 => h x y H2 _ (e1.trans e2) (r1.mono e2) r2 fun v H3 e3 r3 => ⟨k, r3.bl_of, ?_⟩⟩⟩
  have e123 := (e1.trans e2).trans e3
  cases k with
  | true => exact iteT ⟨s.mono e123, fun w H4 e4 r4 => h' y w H4 _ (e123.trans e4) ((r2.mono e3).mono e4) r4 fun v H5 e5 r5 => by rw [r5.bl_of]; exact q H5 ((e123.trans e4).trans e5)⟩
  | false => exact iteF (q H3 e123)
theorem x_chain {op op' : CmpOp} {k m : Bool} (ha : PE X a (tD X.K ρ d1)) (hb : PE X b (tD X.K ρ d2)) (hc : PE X c (tD X.K ρ d3)) (ho : OpD X (compareOp op) d1 d2 (.bl k)) (ho' : OpD X (compareOp op') d2 d3 (.bl m))
    (hm : lastMarks [op, op'] [b, c] = false := by with_unfolding_all rfl) : PE X (.Compare a [op, op'] [b, c] pos) (tD X.K ρ (.bl (k && m))) :=
  pe_wk (pe_chain ho ho' ha hb hc hm) fun σ H Q ⟨s, q⟩ => tChain_of s (fun x y H' Q' e r1 r2 z => ⟨r1, r2, z⟩) (fun x y H' Q' e r1 r2 z => ⟨r1, r2, z⟩) fun H' e => q _ H' e (.bl _)
theorem y_chain {op op' : CmpOp} {k m : Bool} (ha : PE X a (tD X.K ρ d1)) (hb : PE X b (tD X.K ρ d2)) (hc : PE X c (tD X.K ρ d3)) (ho : OpD X (compareOp op) d1 d2 (.bl k)) (ho' : OpD X (compareOp op') d2 d3 (.bl m))
    (hm : lastMarks [op, op'] [b, c] = false := by with_unfolding_all rfl) : PT X (.Compare a [op, op'] [b, c] pos) (bD X.K ρ (k && m)) :=
  pt_wk (pt_chain ho ho' ha hb hc hm) fun σ H Q ⟨s, q⟩ => tChain_of s (fun x y H' Q' e r1 r2 z => ⟨r1, r2, z⟩) (fun x y H' Q' e r1 r2 z => ⟨r1, r2, z⟩) fun H' e => ⟨_, rfl, q H' e⟩
end

/-! ### statements -/
section
variable {X : Cx} {W : WX} {e a b c : Expr} {es : List Expr} {st : Stmt} {rest body : List Stmt} {pos : Pos} {ρ : Env} {d d1 d2 d3 : D} {ds : List D} {P : Out → Prop}
theorem pss_sup {α : Type} {sts : List Stmt} {t : α → TS} : PSs X sts (fun E σ H => ∃ i, PSs X sts (t i) ∧ t i E σ H) := ⟨fun pins s σ H E I ⟨_, h, q⟩ => h.run pins s σ H E I q⟩
theorem pt_sup {α : Type} {t : α → TT} : PT X c (fun σ H Q => ∃ i, PT X c (t i) ∧ t i σ H Q) := ⟨fun pins s σ H Q I ⟨_, h, q⟩ => h.run pins s σ H Q I q⟩
theorem pg_sup {α : Type} {tg : Expr} {t : α → TG} : PG X tg (fun v σ H Q => ∃ i, PG X tg (t i) ∧ t i v σ H Q) := ⟨fun pins s σ H v u Q I r ⟨_, h, q⟩ => h.run pins s σ H v u Q I r q⟩
/-- what stands behind a statement -/
def Thn (X : Cx) (W : WX) (rest : List Stmt) (P : Out → Prop) : Out → Prop
  | .nx ρ => PSs X rest (sD X.K W ρ P)
  | .bk ρ => P (.bk ρ)
  | .ct ρ => P (.ct ρ)
  | .rt d => P (.rt d)
  | .ex C ρ => P (.ex C ρ)
theorem s_cons (h : PS X st (sD X.K W ρ (Thn X W rest P))) : PSs X (st :: rest) (sD X.K W ρ P) :=
  pss_wk (pss_cons h (pss_sup (t := fun ρ' => sD X.K W ρ' P))) fun E σ H ⟨s, q⟩ => by
    refine ⟨s, fun o ho => ?_⟩
    cases o with
    | nx ρ' => exact fun σ' H' e r => ⟨ρ', ho, r, fun o' po => (q o' po).mono e⟩
    | bk ρ' => exact q _ ho
    | ct ρ' => exact q _ ho
    | rt v => exact q _ ho
    | ex C ρ' => exact q _ ho
theorem s_one (h : PS X st (sD X.K W ρ P)) : PSs X [st] (sD X.K W ρ P) := pss_one h
theorem s_nil (h : P (.nx ρ)) : PSs X [] (sD X.K W ρ P) := pss_wk pss_nil fun E σ H ⟨s, q⟩ => q _ h σ H (Same.refl H) s
theorem s_env {ρ' : Env} (h : ρ = ρ') (k : PSs X body (sD X.K W ρ' P)) : PSs X body (sD X.K W ρ P) := h ▸ k
theorem s_sub {ρ' : Env} (h : PSs X body (sD X.K W ρ' P)) (hs : Sub ρ ρ') : PSs X body (sD X.K W ρ P) := pss_wk h fun E σ H ⟨s, q⟩ => ⟨s.sub hs, q⟩
theorem s_imp {P' : Out → Prop} (h : PSs X body (sD X.K W ρ P')) (hp : ∀ o, P' o → P o) : PSs X body (sD X.K W ρ P) := pss_wk h fun E σ H ⟨s, q⟩ => ⟨s, fun o po => q o (hp o po)⟩
theorem i_set {i : Nat} {x : Str} {pos' : Pos} (he : PE X e (tD X.K ρ d)) (hp : P (.nx (ρ.set i (some d)))) (hN : X.N.Nodup) (hi : X.N[i]? = some x := by rfl) (hx : Loc X.env.scope x := by first | exact Or.inl rfl | exact Or.inr rfl)
    (hs : swapsWith e (some (.Name x pos')) pos.line X.env = pure false := by rfl) (hf : X.fn x = true ∨ X.env.scope.names.lookup x = some .local := by first | exact .inl rfl | exact .inr rfl) :
    PS X (.Assign [.Name x pos'] e pos) (sD X.K W ρ P) :=
  ps_wk (ps_set hN hi hx he hs hf) fun E σ H ⟨s, q⟩ => ⟨s, fun v H1 e1 r1 => q _ hp _ _ e1 ((s.mono e1).set r1)⟩
theorem i_ret (he : PE X e (tD X.K ρ d)) (hp : P (.rt d)) : PS X (.Return (some e) pos) (sD X.K W ρ P) := ps_wk (ps_ret he) fun E σ H ⟨s, q⟩ => ⟨s, fun v H1 e1 r1 => q _ hp v H1 e1 r1⟩
theorem i_retN (hp : P (.rt .non)) : PS X (.Return none pos) (sD X.K W ρ P) := ps_wk ps_retN fun E σ H ⟨s, q⟩ => q _ hp .non H (Same.refl H) .non
theorem i_expr (he : PE X e (tD X.K ρ d)) (hp : P (.nx ρ)) (hs : swapsWith e none pos.line X.env = pure false := by rfl) : PS X (.Expr e pos) (sD X.K W ρ P) :=
  ps_wk (ps_expr he hs) fun E σ H ⟨s, q⟩ => ⟨s, fun v H1 e1 r1 => q _ hp _ _ e1 (s.mono e1)⟩
theorem i_pass (hp : P (.nx ρ)) : PS X (.Pass pos) (sD X.K W ρ P) := ps_wk ps_pass fun E σ H ⟨s, q⟩ => q _ hp σ H (Same.refl H) s
theorem i_cont (hp : P (.ct ρ)) : PS X (.Continue pos) (sD X.K W ρ P) := ps_wk ps_continue fun E σ H ⟨s, q⟩ => q _ hp σ H (Same.refl H) s
theorem i_break (hp : P (.bk ρ)) : PS X (.Break pos) (sD X.K W ρ P) := ps_wk ps_break fun E σ H ⟨s, q⟩ => q _ hp σ H (Same.refl H) s
theorem i_if {k : Bool} {th el : List Stmt} (hc : PT X c (bD X.K ρ k)) (ha : k = true → PSs X th (sD X.K W ρ P)) (hb : k = false → PSs X el (sD X.K W ρ P)) : PS X (.If c th el pos) (sD X.K W ρ P) := by
  cases k with
  | true => exact ps_wk (ps_if hc (ha rfl) pss_never) fun E σ H ⟨s, q⟩ => ⟨s, fun H1 e1 => iteT ⟨s.mono e1, fun o po => (q o po).mono e1⟩⟩
  | false => exact ps_wk (ps_if hc pss_never (hb rfl)) fun E σ H ⟨s, q⟩ => ⟨s, fun H1 e1 => iteF ⟨s.mono e1, fun o po => (q o po).mono e1⟩⟩
theorem i_aug {i : Nat} {x : Str} {op : Operator} {pos' : Pos} {m n : Int} (g : Int → Int → Int) (hi0 : ρ[i]? = some (some (.int m))) (he : PE X e (tD X.K ρ (.int n))) (ho : PIp X op (ipI g)) (hp : P (.nx (ρ.set i (some (.int (g m n)))))) (hN : X.N.Nodup)
    (hi : X.N[i]? = some x := by rfl) (hx : Loc X.env.scope x := by first | exact Or.inl rfl | exact Or.inr rfl) (hf : X.fn x = true ∨ X.env.scope.names.lookup x = some .local := by first | exact .inl rfl | exact .inr rfl) :
    PS X (.AugAssign (.Name x pos') op e pos) (sD X.K W ρ P) :=
  ps_wk (ps_aug hN hi hx he ho hf) fun E σ H ⟨s, q⟩ => by
    obtain ⟨v, h1, h2⟩ := s.2 i _ hi0
    rw [h2.int_of] at h1
    refine ⟨_, h1, s, fun y H1 e1 r1 => ⟨m, n, rfl, r1.int_of, q _ hp _ _ e1 ((s.mono e1).set (.int _))⟩⟩

/-- an if whose ways meet: Jn is what they leave -/
def Jo (Jn : Env → Prop) (P : Out → Prop) : Out → Prop
  | .nx ρ => Jn ρ
  | .bk ρ => P (.bk ρ)
  | .ct ρ => P (.ct ρ)
  | .rt d => P (.rt d)
  | .ex C ρ => P (.ex C ρ)
theorem s_join (Jn : Env → Prop) (h : PS X st (sD X.K W ρ (Jo Jn P))) (hr : ∀ ρ', Jn ρ' → PSs X rest (sD X.K W ρ' P)) : PSs X (st :: rest) (sD X.K W ρ P) :=
  s_cons (ps_wk h fun E σ H ⟨s, q⟩ => ⟨s, fun o po => q o (by
    cases o with
    | nx ρ' => exact hr ρ' po
    | bk ρ' => exact po
    | ct ρ' => exact po
    | rt d => exact po
    | ex C ρ' => exact po)⟩)
/-! ### targets -/
def gD (K : PySem.W.Frag) (d : D) (f : Env → Env) : TG := fun v σ H Q => ∃ ρ, Rp K H v d ∧ Sd K H σ ρ ∧ ∀ σ', Sd K H σ' (f ρ) → Q σ' H
def gsD (K : PySem.W.Frag) (ds : List D) (f : Env → Env) : TGs := fun vs σ H Q => ∃ ρ, RpA K H vs ds ∧ Sd K H σ ρ ∧ ∀ σ', Sd K H σ' (f ρ) → Q σ' H
theorem g_name (i : Nat) {x : Str} (hN : X.N.Nodup) (hi : X.N[i]? = some x := by rfl) (hx : Loc X.env.scope x := by first | exact Or.inl rfl | exact Or.inr rfl)
    (hf : X.fn x = true ∨ X.env.scope.names.lookup x = some .local := by first | exact .inl rfl | exact .inr rfl) : PG X (.Name x pos) (gD X.K d fun ρ => ρ.set i (some d)) :=
  pg_wk (pg_name hN hi hx hf) fun v σ H Q ⟨ρ, r, s, q⟩ => q _ (s.set r)
theorem gs_nil : PGs X [] (gsD X.K [] id) := ⟨fun pins s σ H vs us Q I r ⟨ρ, ra, sd, q⟩ => by
  cases ra
  exact pgs_nil.run pins s σ H _ us Q I r ⟨rfl, q σ sd⟩⟩
theorem gs_cons {f g : Env → Env} (h1 : PG X e (gD X.K d f)) (h2 : PGs X es (gsD X.K ds g)) (hs : (assignEach (e :: es) X.env).map (·.2) = assign e X.env :: (assignEach es X.env).map (·.2) := by rfl) :
    PGs X (e :: es) (gsD X.K (d :: ds) fun ρ => g (f ρ)) := ⟨fun pins s σ H vs us Q I r ⟨ρ, ra, sd, q⟩ => by
  cases ra with
  | cons r1 r2 => exact (pgs_cons h1 h2 hs).run pins s σ H _ us Q I r ⟨_, _, rfl, ρ, r1, sd, fun σ' s1 => ⟨f ρ, r2, s1, q⟩⟩⟩
theorem g_tup {k : Nat} {f : Env → Env} (hc : X.calm = true) (h : PGs X es (gsD X.K ds f)) (hl : (assignEach es X.env).length = ds.length := by rfl) (hst : (assignEach es X.env).findIdx? (·.1) = none := by rfl) :
    PG X (.Tuple es k pos) (gD X.K (.tup ds) f) :=
  pg_wk (pg_tup hc h hl hst) fun v σ H Q ⟨ρ, r, s, q⟩ => by
    cases r with
    | tup hq ra => exact ⟨_, _, rfl, hq, ra.len, ρ, ra, s, q⟩
theorem i_asg {tg : Expr} {f : Env → Env} (he : PE X e (tD X.K ρ d)) (hg : PG X tg (gD X.K d f)) (hp : P (.nx (f ρ))) (hs : swapsWithSole [tg] e pos.line X.env = pure false := by rfl) (hw : swappedStores [tg] e X.env = pure none := by rfl)
    (h1 : (assignEach [tg] X.env).map (·.2) = [assign tg X.env] := by rfl) : PS X (.Assign [tg] e pos) (sD X.K W ρ P) :=
  ps_wk (ps_asg he hg hs hw h1) fun E σ H ⟨s, q⟩ => ⟨s, fun v H1 e1 r1 => ⟨ρ, r1, s.mono e1, fun σ' s' => q _ hp σ' H1 e1 s'⟩⟩

/-! ### what is walked -/
/-- J yields the data ds, while what is tracked in H stands -/
def Walk (K : PySem.W.Frag) (J : It) (H : Hp) (ds : List D) : Prop :=
  ∀ (i : Nat) (H' : Hp), Same H H' → (∀ d, ds[i]? = some d → J.go i H' ∧ ∀ x H2, J.yld i H' x H2 → Same H' H2 ∧ Rp K H2 x d) ∧ (ds.length ≤ i → J.stop i H')
def iD (K : PySem.W.Frag) (ρ : Env) (ds : List D) : TI := fun σ H R => Sd K H σ ρ ∧ ∀ J H', Same H H' → Walk K J H' ds → R J H'
theorem walk_l {K : PySem.W.Frag} {H : Hp} {a : Addr} {xs : List V} (h : SqL K H a xs) (r : RpA K H xs ds) : Walk K (Itl K a) H ds := fun i H' e => by
  have h' := e.seq h
  refine ⟨fun d hd => ?_, fun hl => ⟨xs, h', by rw [r.len]; exact hl⟩⟩
  obtain ⟨v, h1, h2⟩ := r.get hd
  refine ⟨⟨xs, v, h', h1⟩, fun x H2 y => ?_⟩
  obtain ⟨rfl, y⟩ := y
  have z := y xs h'
  rw [h1] at z
  cases z
  exact ⟨Same.refl _, h2.mono e⟩
theorem walk_t {K : PySem.W.Frag} {H : Hp} {a : Addr} {xs : List V} (h : SqT K H a xs) (r : RpA K H xs ds) : Walk K (Itt K a) H ds := fun i H' e => by
  have h' := same_t e h
  refine ⟨fun d hd => ?_, fun hl => ⟨xs, h', by rw [r.len]; exact hl⟩⟩
  obtain ⟨v, h1, h2⟩ := r.get hd
  refine ⟨⟨xs, v, h', h1⟩, fun x H2 y => ?_⟩
  obtain ⟨rfl, y⟩ := y
  have z := y xs h'
  rw [h1] at z
  cases z
  exact ⟨Same.refl _, h2.mono e⟩
def rngD (lo : Int) (n : Nat) : List D := (List.range n).map fun (i : Nat) => D.int (lo + i)
theorem rngD_len (lo : Int) (n : Nat) : (rngD lo n).length = n := by unfold rngD; simp
theorem rngD_get {lo : Int} {n i : Nat} {d : D} (h : (rngD lo n)[i]? = some d) : i < n ∧ d = .int (lo + i) := by
  unfold rngD at h
  rw [List.getElem?_map] at h
  rcases Nat.lt_or_ge i n with c | c
  · rw [List.getElem?_range c] at h
    exact ⟨c, (Option.some.inj h).symm⟩
  · rw [List.getElem?_eq_none (by simpa using c)] at h
    cases h
theorem walk_r {K : PySem.W.Frag} {H : Hp} {lo : Int} {n : Nat} : Walk K (Itr lo n) H (rngD lo n) := fun i H' e => by
  refine ⟨fun d hd => ?_, fun hl => by rw [rngD_len] at hl; exact hl⟩
  obtain ⟨h1, rfl⟩ := rngD_get hd
  refine ⟨h1, fun x H2 y => ?_⟩
  obtain ⟨rfl, rfl⟩ := y
  exact ⟨Same.refl _, .int _⟩
variable {tg : Expr}
theorem k_list (h : PE X e (tD X.K ρ (.lst ds))) : PI X tg e (iD X.K ρ ds) := pi_wk (pi_list h) fun σ H R ⟨s, q⟩ => ⟨s, fun v H1 e1 r1 => by
  cases r1 with
  | lst h r => exact ⟨_, rfl, ⟨_, h⟩, q _ H1 e1 (walk_l h r)⟩⟩
theorem k_tup (h : PE X e (tD X.K ρ (.tup ds))) : PI X tg e (iD X.K ρ ds) := pi_wk (pi_tup h) fun σ H R ⟨s, q⟩ => ⟨s, fun v H1 e1 r1 => by
  cases r1 with
  | tup h r => exact ⟨_, rfl, ⟨_, h⟩, q _ H1 e1 (walk_t h r)⟩⟩
theorem k_rng1 {p : Pos} {j : Int} (hm : X.mg "range" = none) (ha : PA X [a] (aD X.K ρ [.int j])) (h0 : -(2 ^ 62) ≤ j) (h1 : j < 2 ^ 62) (hg : Gl X "range" := by rfl) (hs : starEach [a] X.env = [(false, eval a X.env)] := by rfl) :
    PI X tg (.Call (.Name "range" p) [a] [] pos) (iD X.K ρ (rngD 0 j.toNat)) := pi_wk (pi_range1 hg hm ha hs) fun σ H R ⟨s, q⟩ => ⟨s, fun vs H1 e1 r1 => by
  obtain ⟨v, rfl, r⟩ := r1.one
  rw [r.int_of]
  exact ⟨j, rfl, h0, h1, q _ H1 e1 walk_r⟩⟩
theorem k_rng2 {p : Pos} {i j : Int} (hm : X.mg "range" = none) (ha : PA X [a, b] (aD X.K ρ [.int i, .int j])) (h : -(2 ^ 62) ≤ i ∧ i < 2 ^ 62 ∧ -(2 ^ 62) ≤ j ∧ j < 2 ^ 62) (hg : Gl X "range" := by rfl)
    (hs : starEach [a, b] X.env = [(false, eval a X.env), (false, eval b X.env)] := by rfl) (hs2 : starEach [b] X.env = [(false, eval b X.env)] := by rfl) :
    PI X tg (.Call (.Name "range" p) [a, b] [] pos) (iD X.K ρ (rngD i (j - i).toNat)) := pi_wk (pi_range2 hg hm ha hs hs2) fun σ H R ⟨s, q⟩ => ⟨s, fun vs H1 e1 r1 => by
  obtain ⟨v, w, rfl, r, r'⟩ := r1.two
  rw [r.int_of, r'.int_of]
  exact ⟨i, j, rfl, h, q _ H1 e1 walk_r⟩⟩
/-- the tuples that enumerate hands out -/
def enumD (ds : List D) : List D := (List.range ds.length).map fun (i : Nat) => D.tup [.int i, ds.getD i .non]
theorem enumD_len (ds : List D) : (enumD ds).length = ds.length := by unfold enumD; simp
theorem enumD_get {i : Nat} (h : (enumD ds)[i]? = some d) : ∃ x, ds[i]? = some x ∧ d = .tup [.int i, x] := by
  unfold enumD at h
  rw [List.getElem?_map] at h
  rcases Nat.lt_or_ge i ds.length with c | c
  · rw [List.getElem?_range c] at h
    refine ⟨ds[i], List.getElem?_eq_getElem c, ?_⟩
    have e := (Option.some.inj h).symm
    rw [e]
    show D.tup [D.int i, ds.getD i .non] = D.tup [D.int i, ds[i]]
    rw [List.getD_eq_getElem?_getD, List.getElem?_eq_getElem c]
    rfl
  · rw [List.getElem?_eq_none (by simpa using c)] at h
    cases h
theorem walk_e {K : PySem.W.Frag} {H : Hp} {a : Addr} {xs : List V} (h : SqL K H a xs) (r : RpA K H xs ds) : Walk K (Ite K a) H (enumD ds) := fun i H' e => by
  have h' := e.seq h
  refine ⟨fun d hd => ?_, fun hl => ⟨xs, h', by rw [r.len]; rw [enumD_len] at hl; exact hl⟩⟩
  obtain ⟨x0, hx, rfl⟩ := enumD_get hd
  obtain ⟨v, h1, h2⟩ := r.get hx
  refine ⟨⟨xs, v, h', h1⟩, fun x H2 y => ?_⟩
  obtain ⟨T, z, rfl, nT, rfl, y⟩ := y
  have q := y xs h'
  rw [h1] at q
  have qz : v = z := Option.some.inj q
  subst qz
  have e2 : Same H' (upd H' T (.tup [.int (i : Nat), v])) := same_new nT
  exact ⟨e2, .tup (.of upd_same) (.cons (.int _) (.cons ((h2.mono e).mono e2) .nil))⟩
theorem k_enum {p tpos : Pos} {elts : List Expr} {kk : Nat} (hm : X.mg "enumerate" = none) (ha : PA X [e] (aD X.K ρ [.lst ds])) (hg : Gl X "enumerate" := by rfl) (hs : starEach [e] X.env = [(false, eval e X.env)] := by rfl) :
    PI X (.Tuple elts kk tpos) (.Call (.Name "enumerate" p) [e] [] pos) (iD X.K ρ (enumD ds)) := pi_wk (pi_enum hg hm ha hs) fun σ H R ⟨s, q⟩ => ⟨s, fun vs H1 e1 r1 => by
  obtain ⟨v, rfl, r⟩ := r1.one
  cases r with
  | lst h r => exact ⟨_, _, rfl, h, q _ H1 e1 (walk_e h r)⟩⟩

/-! ### loops -/
/-- what a turn of a loop is to reach -/
def Lp (Iv : Env → Prop) (P : Out → Prop) : Out → Prop
  | .nx ρ => Iv ρ
  | .ct ρ => Iv ρ
  | .bk ρ => P (.nx ρ)
  | .rt d => P (.rt d)
  | .ex C ρ => P (.ex C ρ)
theorem lp_meets {K : PySem.W.Frag} {W : WX} {E : Ends} {H H1 : Hp} {Iv : Env → Prop} {N : L2.St → Hp → Prop} (q : ∀ o, P o → Meets K W E H o) (e1 : Same H H1) (hN : ∀ ρ', Iv ρ' → ∀ σ' H', Same H1 H' → Sd K H' σ' ρ' → N σ' H') :
    ∀ o, Lp Iv P o → Meets K W { E with nx := N, ct := N, bk := E.nx } H1 o := fun o po => by
  cases o with
  | nx ρ' => exact hN ρ' po
  | ct ρ' => exact hN ρ' po
  | bk ρ' => exact (q (.nx ρ') po).mono e1
  | rt d => exact (q (.rt d) po).mono e1
  | ex C ρ' => exact (q (.ex C ρ') po).mono e1
theorem i_for {iter : Expr} {f : D → Env → Env} (Iv : Nat → Env → Prop) (hp : PassesOwn (model X.prog X.w) X.A X.env X.xe) (hc : X.calm = true) (hi : PI X tg iter (iD X.K ρ ds)) (hg : ∀ d ∈ ds, PG X tg (gD X.K d (f d))) (h0 : Iv 0 ρ)
    (hs : ∀ (i : Nat) (d : D) (ρ' : Env), ds[i]? = some d → Iv i ρ' → PSs X body (sD X.K W (f d ρ') (Lp (Iv (i + 1)) P))) (hd : ∀ ρ', Iv ds.length ρ' → P (.nx ρ'))
    (hfs : ∀ x, foldedSetIterable iter X.env x = pure x := by intro _; rfl) : PS X (.For tg iter body [] pos) (sD X.K W ρ P) :=
  ps_wk (ps_for hp hc hi (pg_sup (t := fun d => gD X.K d (f d))) (pss_sup (t := fun (z : Env × (Out → Prop)) => sD X.K W z.1 z.2)) hfs) fun E σ H ⟨s, q⟩ => by
    refine ⟨s, fun J H1 e1 wk => ?_⟩
    refine ⟨fun i m σ' H' => m = ds.length - i ∧ i ≤ ds.length ∧ Same H1 H' ∧ ∃ ρ', Iv i ρ' ∧ Sd X.K H' σ' ρ', ⟨ds.length, rfl, Nat.zero_le _, Same.refl _, ρ, h0, s.mono e1⟩, ?_⟩
    rintro i m σ' H' ⟨rfl, hil, e2, ρ', hI, s'⟩
    obtain ⟨w1, w2⟩ := wk i H' e2
    by_cases hlt : i < ds.length
    · obtain ⟨go, yl⟩ := w1 ds[i] (List.getElem?_eq_getElem hlt)
      refine .inr ⟨go, fun σ2 H2 => Same H1 H2 ∧ ∃ ρ2, Iv (i + 1) ρ2 ∧ Sd X.K H2 σ2 ρ2, fun σ2 H2 ⟨a1, a2⟩ => ⟨ds.length - (i + 1), by omega, rfl, hlt, a1, a2⟩, fun x H3 y => ?_⟩
      obtain ⟨e3, r3⟩ := yl x H3 y
      refine ⟨ds[i], hg _ (List.getElem_mem hlt), ρ', r3, s'.mono e3, fun σ4 s4 => ?_⟩
      refine ⟨(f ds[i] ρ', Lp (Iv (i + 1)) P), hs i _ ρ' (List.getElem?_eq_getElem hlt) hI, s4, ?_⟩
      have e13 : Same H1 H3 := e2.trans e3
      exact lp_meets q (e1.trans e13) fun ρ5 h5 σ5 H5 e5 s5 => ⟨e13.trans e5, ρ5, h5, s5⟩
    · have hie : i = ds.length := by omega
      subst hie
      exact .inl ⟨w2 (Nat.le_refl _), q _ (hd ρ' hI) σ' H' (e1.trans e2) s'⟩
theorem i_while (Iv : Nat → Env → Prop) (m : Nat) (hp : PassesOwn (model X.prog X.w) X.A X.env X.xe) (h0 : Iv m ρ)
    (hs : ∀ (n : Nat) (ρ' : Env), Iv n ρ' → ∃ k, PT X c (bD X.K ρ' k) ∧ (k = true → PSs X body (sD X.K W ρ' (Lp (fun ρ2 => ∃ n', n' < n ∧ Iv n' ρ2) P))) ∧ (k = false → P (.nx ρ'))) : PS X (.While c body [] pos) (sD X.K W ρ P) :=
  ps_wk (ps_while hp (pt_sup (t := fun (z : Env × Bool) => bD X.K z.1 z.2)) (pss_sup (t := fun (z : Env × (Out → Prop)) => sD X.K W z.1 z.2))) fun E σ H ⟨s, q⟩ => by
    refine ⟨fun n σ' H' => Same H H' ∧ ∃ ρ', Iv n ρ' ∧ Sd X.K H' σ' ρ', ⟨m, Same.refl _, ρ, h0, s⟩, ?_⟩
    rintro n σ' H' ⟨e1, ρ', hI, s'⟩
    obtain ⟨k, hk, ht, hf⟩ := hs n ρ' hI
    refine ⟨(ρ', k), hk, s', fun H2 e2 => ?_⟩
    cases k with
    | true =>
      refine iteT ⟨fun σ3 H3 => Same H H3 ∧ ∃ ρ3, (∃ n', n' < n ∧ Iv n' ρ3) ∧ Sd X.K H3 σ3 ρ3, fun σ3 H3 ⟨a1, ρ3, ⟨n', a2, a3⟩, a4⟩ => ⟨n', a2, a1, ρ3, a3, a4⟩, ?_⟩
      refine ⟨(ρ', _), ht rfl, s'.mono e2, ?_⟩
      exact lp_meets q (e1.trans e2) fun ρ5 h5 σ5 H5 e5 s5 => ⟨(e1.trans e2).trans e5, ρ5, h5, s5⟩
    | false => exact iteF (q _ (hf rfl) σ' H2 (e1.trans e2) (s'.mono e2))
/-- forgetting what stands in some slots -/
def wipeD (ρ : Env) : List Nat → Env
  | [] => ρ
  | v :: vs => (wipeD ρ vs).set v none
theorem sd_wipe {K : PySem.W.Frag} {H : Hp} {σ : L2.St} : ∀ {vs : List Nat}, Sd K H σ ρ → Sd K H (wipe σ vs) (wipeD ρ vs)
  | [], s => s
  | v :: vs, s => (sd_wipe (vs := vs) s).none
theorem wipe_set {σ : L2.St} : ∀ {vs : List Nat} {σ2 : L2.St}, (∀ i, i ∉ vs → σ2[i]? = σ[i]?) → σ2.length = σ.length → wipe σ2 vs = wipe σ vs := fun {vs σ2} h hl => by
  apply List.ext_getElem?
  intro i
  by_cases hi : i ∈ vs
  · have z : ∀ (τ : L2.St) (l : List Nat), i ∈ l → (wipe τ l)[i]? = if i < τ.length then some none else none := by
      intro τ l
      induction l with
      | nil => intro h; cases h
      | cons v l ih =>
        intro h
        show ((wipe τ l).set v none)[i]? = _
        by_cases hv : v = i
        · subst hv
          by_cases hlt : v < τ.length
          · rw [List.getElem?_set_self (by rw [wipe_length]; exact hlt), if_pos hlt]
          · rw [List.getElem?_eq_none (by rw [List.length_set, wipe_length]; omega), if_neg hlt]
        · rw [List.getElem?_set_ne hv]
          refine ih ?_
          rcases List.mem_cons.mp h with q | q
          · exact absurd q.symm hv
          · exact q
    rw [z σ2 vs hi, z σ vs hi, hl]
  · rw [wipe_out hi, wipe_out hi]
    exact h i hi
theorem lc_read {iter : Expr} {g : TG} {te : TE} {vs : List Nat} {f : D → Env → Env} {rs : List D} {σ : L2.St} {H : Hp} {Q : VK} {K : PySem.W.Frag} (s : Sd K H σ ρ) (hlen : ds.length ≤ 100000) (hrs : rs.length = ds.length) (himm : immA rs = true)
    (hg : ∀ (d : D) (v : V) (H' : Hp) (Q' : L2.St → Hp → Prop), d ∈ ds → Sd K H' (wipe σ vs) (wipeD ρ vs) → Rp K H' v d → (∀ σ2, wipe σ2 vs = wipe σ vs → Sd K H' σ2 (f d (wipeD ρ vs)) → Q' σ2 H') → g v (wipe σ vs) H' Q')
    (hte : ∀ (j : Nat) (d r : D) (σ2 : L2.St) (H' : Hp) (Q' : VK), ds[j]? = some d → rs[j]? = some r → tD K (f d (wipeD ρ vs)) r σ2 H' Q' → te σ2 H' Q')
    (q : ∀ v H', Same H H' → Rp K H' v (.lst rs) → Q v H') : tLc (iD K ρ ds) g tYes te vs σ H Q := by
  refine ⟨s, fun J H1 e1 wk Dl hD => ?_⟩
  refine ⟨fun i m H' => m = ds.length - i ∧ i ≤ ds.length ∧ Same H1 H' ∧ ∃ acc, H' Dl = some (.lst acc) ∧ RpA K H' acc (rs.take i), ⟨ds.length, rfl, Nat.zero_le _, same_new hD, [], upd_same, by rw [List.take_zero]; exact .nil⟩, ?_⟩
  rintro i m H' ⟨rfl, hil, e2, acc, hacc, ra⟩
  obtain ⟨w1, w2⟩ := wk i H' e2
  by_cases hlt : i < ds.length
  · obtain ⟨go, yl⟩ := w1 ds[i] (List.getElem?_eq_getElem hlt)
    refine .inr ⟨go, fun H2 => Same H1 H2 ∧ ∃ acc, H2 Dl = some (.lst acc) ∧ RpA K H2 acc (rs.take (i + 1)), fun H2 ⟨a1, a2⟩ => ⟨ds.length - (i + 1), by omega, rfl, hlt, a1, a2⟩, fun x H3 y => ?_⟩
    obtain ⟨e3, r3⟩ := yl x H3 y
    have e03 : Same H H3 := (e1.trans e2).trans e3
    refine hg ds[i] x H3 _ (List.getElem_mem hlt) (sd_wipe (s.mono e03)) r3 fun σ2 hw s2 => ⟨hw, ?_⟩
    unfold tYes
    dsimp only
    rw [if_pos rfl]
    have hr : rs[i]? = some rs[i] := List.getElem?_eq_getElem (by omega)
    refine hte i ds[i] rs[i] σ2 H3 _ (List.getElem?_eq_getElem hlt) hr ⟨s2, fun yv H4 e4 r4 => ?_⟩
    have hD4 : H4 Dl = some (.lst acc) := e4 _ _ (e3 _ _ hacc)
    have hal : acc.length = i := by rw [ra.len, List.length_take, hrs]; omega
    refine ⟨acc, hD4, ?_, fun b o hb => ?_, acc ++ [yv], upd_same, ?_⟩
    · rw [hal]
      exact Nat.lt_of_lt_of_le hlt (le_line hlen)
    · rw [upd_ne (ne_of_none hb hD)]
      exact e4 _ _ (e3 _ _ (e2 _ _ hb))
    · rw [List.take_add_one, hr]
      have im : ∀ d ∈ rs, d.imm = true := by
        have z : ∀ l : List D, immA l = true → ∀ d ∈ l, d.imm = true := by
          intro l
          induction l with
          | nil => intro _ d hd; cases hd
          | cons a l ih =>
            intro h d hd
            have m := Bool.and_eq_true_iff.mp h
            rcases List.mem_cons.mp hd with c | c
            · rw [c]; exact m.1
            · exact ih m.2 d c
        exact z rs himm
      refine RpA.app (RpA.upd hD4 (immA_of fun d hd => im d (List.mem_of_mem_take hd)) ((ra.mono e3).mono e4)) ?_
      exact RpA.upd hD4 (immA_of fun d hd => im d (by rcases List.mem_cons.mp hd with c | c <;> first | (rw [c]; exact List.getElem_mem _) | cases c)) (.cons r4 .nil)
  · have hie : i = ds.length := by omega
    subst hie
    rw [List.take_of_length_le (by omega)] at ra
    exact .inl ⟨w2 (Nat.le_refl _), q _ H' (e1.trans e2) (.lst (.of hacc) ra)⟩
theorem blk_sup {α : Type} {sc : Scope} {t : α → TE} : ∀ (s : Shared) (H : Hp) (C : Addr) (cl : List (Str × Addr)) (fp : List Addr), PE (X.blk s H sc (compEnvC sc cl C X.env) fp) e
    (fun σ H Q => ∃ z, (∀ (s : Shared) (H : Hp) (C : Addr) (cl : List (Str × Addr)) (fp : List Addr), PE (X.blk s H sc (compEnvC sc cl C X.env) fp) e (t z)) ∧ t z σ H Q) :=
  fun s0 H0 C cl fp => ⟨fun pins s σ H Q I ⟨_, h, q⟩ => (h s0 H0 C cl fp).run pins s σ H Q I q⟩
/-- [e for x in iter], x in slot i -/
theorem x_lc1 {iter elt : Expr} {x : Str} {p : Pos} {sc : Scope} (i : Nat) (rs : List D) (hc : X.calm = true) (hN : X.N.Nodup) (hi : PI X (.Name x p) iter (iD X.K ρ ds)) (ok : BlkOk X.N X.env.scope sc [(x, i)])
    (hg : ∀ (s : Shared) (H : Hp) (C : Addr) (cl : List (Str × Addr)) (fp : List Addr), PG (X.blk s H sc (compEnvC sc cl C X.env) fp) (.Name x p) (gName i))
    (he : ∀ (j : Nat) (d r : D), ds[j]? = some d → rs[j]? = some r → ∀ (s : Shared) (H : Hp) (C : Addr) (cl : List (Str × Addr)) (fp : List Addr), PE (X.blk s H sc (compEnvC sc cl C X.env) fp) elt (tD X.K ((wipeD ρ [i]).set i (some d)) r))
    (hlen : ds.length ≤ 100000) (hrs : rs.length = ds.length) (himm : immA rs = true) (hs : ∀ x, foldedSetIterable iter X.env x = pure x := by intro _; rfl) : PE X (.ListComp elt [⟨.Name x p, iter, [], 0⟩] sc pos) (tD X.K ρ (.lst rs)) :=
  pe_wk (pe_lc (own := [(x, i)]) hc hN hi ok hg (fun _ _ _ _ _ => pts_nil) (blk_sup (t := fun (z : Env × D) => tD X.K z.1 z.2)) hs) fun σ H Q ⟨s, q⟩ => by
    refine lc_read (iter := iter) (f := fun d ρ' => ρ'.set i (some d)) s hlen hrs himm (fun d v H' Q' hd s' r k => k _ ?_ (s'.set r)) (fun j d r σ2 H' Q' h1 h2 h3 => ⟨(_, r), he j d r h1 h2, h3⟩) q
    refine wipe_set (fun m hm => ?_) (by rw [List.length_set, wipe_length])
    rw [List.getElem?_set_ne (fun z => hm (by rw [← z]; exact List.mem_cons_self ..)), wipe_out hm]
/-- [e for x, y in iter], x in slot i, y in slot j -/
theorem x_lc2 {iter elt : Expr} {x y : Str} {p p2 tp : Pos} {kk : Nat} {sc : Scope} (i j : Nat) (hij : i ≠ j) (rs : List D) (hc : X.calm = true) (hN : X.N.Nodup) (hi : PI X (.Tuple [.Name x p, .Name y p2] kk tp) iter (iD X.K ρ ds)) (ok : BlkOk X.N X.env.scope sc [(x, i), (y, j)])
    (hg : ∀ (s : Shared) (H : Hp) (C : Addr) (cl : List (Str × Addr)) (fp : List Addr), PG (X.blk s H sc (compEnvC sc cl C X.env) fp) (.Tuple [.Name x p, .Name y p2] kk tp) (gTup X.K 2 (gCons (gName i) (gCons (gName j) gNil))))
    (hpair : ∀ d ∈ ds, ∃ a b, d = .tup [a, b])
    (he : ∀ (m : Nat) (a b r : D), ds[m]? = some (.tup [a, b]) → rs[m]? = some r → ∀ (s : Shared) (H : Hp) (C : Addr) (cl : List (Str × Addr)) (fp : List Addr), PE (X.blk s H sc (compEnvC sc cl C X.env) fp) elt (tD X.K (((wipeD ρ [i, j]).set i (some a)).set j (some b)) r))
    (hlen : ds.length ≤ 100000) (hrs : rs.length = ds.length) (himm : immA rs = true) (hs : ∀ x, foldedSetIterable iter X.env x = pure x := by intro _; rfl) : PE X (.ListComp elt [⟨.Tuple [.Name x p, .Name y p2] kk tp, iter, [], 0⟩] sc pos) (tD X.K ρ (.lst rs)) :=
  pe_wk (pe_lc (own := [(x, i), (y, j)]) hc hN hi ok hg (fun _ _ _ _ _ => pts_nil) (blk_sup (t := fun (z : Env × D) => tD X.K z.1 z.2)) hs) fun σ H Q ⟨s, q⟩ => by
    refine lc_read (iter := iter) (f := fun d ρ' => match d with
      | .tup [a, b] => (ρ'.set i (some a)).set j (some b)
      | _ => ρ') s hlen hrs himm (fun d v H' Q' hd s' r k => ?_) (fun m d r σ2 H' Q' h1 h2 h3 => ?_) q
    · obtain ⟨a, b, rfl⟩ := hpair d hd
      cases r with
      | tup hq ra =>
        obtain ⟨v1, v2, rfl, r1, r2⟩ := ra.two
        refine ⟨_, _, rfl, hq, rfl, v1, [v2], rfl, v2, [], rfl, rfl, k _ ?_ ((s'.set r1).set r2)⟩
        refine wipe_set (fun m hm => ?_) (by rw [List.length_set, List.length_set, wipe_length])
        rw [List.getElem?_set_ne (fun z => hm (by rw [← z]; simp)), List.getElem?_set_ne (fun z => hm (by rw [← z]; simp)), wipe_out hm]
    · obtain ⟨a, b, rfl⟩ := hpair d (List.mem_of_getElem? h1)
      exact ⟨(_, r), he m a b r h1 h2, h3⟩

/-! ### calls of the text's own defs -/
/-- how a call ends; nw: a new list -/
inductive Res where
  | ok (d : D) | nw (ds : List D) | er (C : Addr)
def ResM (K : PySem.W.Frag) (H : Hp) (Q : VK) (E : XK) : Res → Prop
  | .ok d => ∀ v H', Same H H' → Rp K H' v d → Q v H'
  | .nw ds => ∀ l vs H', Same H H' → H l = none → H' l = some (.lst vs) → RpA K H' vs ds → Q (.ref l) H'
  | .er C => ∀ H', Same H H' → E (.ref C) none H'
/-- the promise by a relation of the arguments' data and the end -/
def spR (K : PySem.W.Frag) (R : List D → Res → Prop) : Sp := fun vs H Q E => ∃ ds r, R ds r ∧ RpA K H vs ds ∧ ResM K H Q E r
/-- the def that the module's name x holds keeps R; df: the defaults that a call fills up -/
structure FnD (P : Program) (w : World) (K : PySem.W.Frag) (mg : Str → Option Value) (base : Heap) (n : Nat) (x : Str) (df : List D) (R : List D → Res → Prop) : Prop where
  ex : ∃ (f : Addr) (fd : FuncData) (ps : List Str) (dv : List V) (du : List Value), FnOk P w K mg base (L2.CX P w) n f fd ps (spR K R) ∧ mg x = some (.ref f) ∧ PySem.W.keepIn K (.ref f) = true ∧ Binds K fd ps du ∧ Vals dv du ∧ ∀ H, RpA K H dv df
variable {n k : Nat} {x : Str} {df : List D} {R : List D → Res → Prop} {p : Pos}
theorem x_call (F : FnD X.prog X.w X.K X.mg X.base n x df R) (hr : Room k X.A) (ha : PA X (e :: es) (aD X.K ρ ds)) (hR : R (ds ++ df) (.ok d)) (hk : n ≤ k := by decide) (hg : Gl X x := by rfl)
    (hdb : (x == ("__debug__" : Str)) = false := by decide) (he : starEach (e :: es) X.env = (false, eval e X.env) :: starEach es X.env := by rfl) (hpl : (backTo pos (starEach es X.env)).any (·.1) = false := by rfl) :
    PE X (.Call (.Name x p) (e :: es) [] pos) (tD X.K ρ d) := by
  obtain ⟨f, fd, ps, dv, du, F, hm, hkp, hb, hd, hdf⟩ := F.ex
  refine pe_wk (pe_call F (hr.mono hk) hg hm hkp hb hd passL ha hdb he hpl) fun σ H Q ⟨s, q⟩ => ⟨s, fun vs H1 e1 r1 => ?_⟩
  exact ⟨_, _, hR, r1.app (hdf H1), fun v H2 e2 r2 => q v H2 (e1.trans e2) r2⟩
theorem x_callN (F : FnD X.prog X.w X.K X.mg X.base n x df R) (hr : Room k X.A) (ha : PA X (e :: es) (aD X.K ρ ds)) {rs : List D} (hR : R (ds ++ df) (.nw rs)) (hk : n ≤ k := by decide) (hg : Gl X x := by rfl)
    (hdb : (x == ("__debug__" : Str)) = false := by decide) (he : starEach (e :: es) X.env = (false, eval e X.env) :: starEach es X.env := by rfl) (hpl : (backTo pos (starEach es X.env)).any (·.1) = false := by rfl) :
    PE X (.Call (.Name x p) (e :: es) [] pos) (tD X.K ρ (.lst rs)) := by
  obtain ⟨f, fd, ps, dv, du, F, hm, hkp, hb, hd, hdf⟩ := F.ex
  refine pe_wk (pe_call F (hr.mono hk) hg hm hkp hb hd passL ha hdb he hpl) fun σ H Q ⟨s, q⟩ => ⟨s, fun vs H1 e1 r1 => ?_⟩
  exact ⟨_, _, hR, r1.app (hdf H1), fun l vs' H2 e2 _ h2 r2 => q _ H2 (e1.trans e2) (.lst (.of h2) r2)⟩
/-- f(..) as a statement that raises -/
theorem i_callX {pos2 : Pos} {C : Addr} (F : FnD X.prog X.w X.K X.mg X.base n x [] R) (hr : Room k X.A) (tk : Takes X W) (ha : PA X (e :: es) (aD X.K ρ ds)) (hR : R ds (.er C)) (hp : P (.ex C ρ)) (hk : n ≤ k := by decide) (hg : Gl X x := by rfl)
    (hs : ∀ q, swapsWith (.Call (.Name x p) (e :: es) [] pos) none q X.env = pure false := by intro _; rfl)
    (hdb : (x == ("__debug__" : Str)) = false := by decide) (he : starEach (e :: es) X.env = (false, eval e X.env) :: starEach es X.env := by rfl) (hpl : (backTo pos (starEach es X.env)).any (·.1) = false := by rfl) :
    PS X (.Expr (.Call (.Name x p) (e :: es) [] pos) pos2) (sD X.K W ρ P) := by
  obtain ⟨f, fd, ps, dv, du, F, hm, hkp, hb, hd, hdf⟩ := F.ex
  have e0 : dv = [] := by
    cases hdf (fun _ => none)
    rfl
  subst e0
  have e1 : du = [] := by cases hd; rfl
  subst e1
  refine ps_wk (ps_expr (pe_callS F (hr.mono hk) hg hm hkp hb (fun σ => passAt tk σ) ha hdb he hpl) (hs _)) fun E σ H ⟨s, q⟩ => ⟨s, fun vs H1 e1 r1 => ?_⟩
  exact ⟨_, _, hR, r1, fun H2 e2 => q _ hp σ H2 (e1.trans e2) (s.mono (e1.trans e2))⟩
/-- return f(..), which raises -/
theorem i_retX {pos2 : Pos} {C : Addr} (F : FnD X.prog X.w X.K X.mg X.base n x [] R) (hr : Room k X.A) (tk : Takes X W) (ha : PA X (e :: es) (aD X.K ρ ds)) (hR : R ds (.er C)) (hp : P (.ex C ρ)) (hk : n ≤ k := by decide) (hg : Gl X x := by rfl)
    (hdb : (x == ("__debug__" : Str)) = false := by decide) (he : starEach (e :: es) X.env = (false, eval e X.env) :: starEach es X.env := by rfl) (hpl : (backTo pos (starEach es X.env)).any (·.1) = false := by rfl) :
    PS X (.Return (some (.Call (.Name x p) (e :: es) [] pos)) pos2) (sD X.K W ρ P) := by
  obtain ⟨f, fd, ps, dv, du, F, hm, hkp, hb, hd, hdf⟩ := F.ex
  have e0 : dv = [] := by
    cases hdf (fun _ => none)
    rfl
  subst e0
  have e1 : du = [] := by cases hd; rfl
  subst e1
  refine ps_wk (ps_ret (pe_callS F (hr.mono hk) hg hm hkp hb (fun σ => passAt tk σ) ha hdb he hpl)) fun E σ H ⟨s, q⟩ => ⟨s, fun vs H1 e1 r1 => ?_⟩
  exact ⟨_, _, hR, r1, fun H2 e2 => q _ hp σ H2 (e1.trans e2) (s.mono (e1.trans e2))⟩
/-- raise C('..') -/
theorem i_raise {C : Addr} {bmB : List Value} {B newId initId : String} {x m : Str} {j : Nat} {p p2 pos2 : Pos} (F : ExcBaseFacts B newId initId bmB) (q : PySem.W.excIn X.K C bmB newId = true) (gC : X.mg x = some (.ref C)) (kC : PySem.W.keepIn X.K (.ref C) = true)
    (r : Raises X (.ref C)) (hc : X.calm = true) (tk : Takes X W) (hp : P (.ex C ρ)) (hg : Gl X x := by rfl) (hdb : (x == ("__debug__" : Str)) = false := by decide) :
    PS X (.Raise (some (.Call (.Name x p) [.Constant (.str m) j p2] [] pos)) none pos2) (sD X.K W ρ P) :=
  ps_wk (ps_raise hc tk (pmk_own F q gC kC r hg hdb)) fun E σ H ⟨s, q⟩ => q _ hp σ H (Same.refl H) s

/-! ### a def's body -/
abbrev WE1 (E : XK) : WX := fun cls d _ H => E cls d H
def OutR : Res → Out → Prop
  | .ok d, .nx _ => d = .non
  | .ok d, .rt d' => d' = d
  | .er C, .ex C' _ => C' = C
  | _, _ => False
def envOf (N : List Str) (ds : List D) : Env := ds.map some ++ List.replicate (N.length - ds.length) none
end
section
variable {P : Program} {w : World} {K : PySem.W.Frag} {mg : Str → Option Value} {base : Heap} {x qual : Str} {st : Stmt} {f : Addr} {fd : FuncData} {N ps : List Str} {k : Nat} {R : List D → Res → Prop}
theorem body_read {ds : List D} {r : Res} {Po : Out → Prop} {vs : List V} {H : Hp} {Q : VK} {E : XK} (hv : RpA K H vs ds) (hq : ResM K H Q E r) (hP : ∀ o, Po o → OutR r o) : sD K (WE1 E) (envOf N ds) Po { nx := fun _ H' => Q .non H', rt := Q } (L2.start N vs) H := by
  refine ⟨sd_start hv, fun o ho => ?_⟩
  have hr := hP o ho
  cases o with
  | nx ρ =>
    cases r with
    | ok d => cases hr; exact fun σ' H' e _ => hq _ H' e .non
    | nw _ => cases hr
    | er _ => cases hr
  | bk ρ => cases r <;> cases hr
  | ct ρ => cases r <;> cases hr
  | rt d =>
    cases r with
    | ok d' => cases hr; exact fun v H' e r => hq v H' e r
    | nw _ => cases hr
    | er _ => cases hr
  | ex C ρ =>
    cases r with
    | ok _ => cases hr
    | nw _ => cases hr
    | er C' => cases hr; exact fun σ' H' e _ => hq H' e
theorem fnOk (F : Fun K x qual st f fd) (S : FnScope N ps (defScope st)) (hl : ∀ ds r, R ds r → ds.length = ps.length)
    (hbody : ∀ (cdv : Value) (A : Around) (outer : List PySem.Env) (s : Shared) (H : Hp) (E : XK) (ds : List D) (r : Res), Room k (A.deeper (envOfC qual (defScope st) s.heap.objs.size f cdv)) → R ds r →
      PSs (cxOf (L2.CX P w) P w K mg base N qual (defScope st) f cdv A outer s H E) (defBody st) (sD K (WE1 E) (envOf N ds) (OutR r))) : FnOk P w K mg base (L2.CX P w) (k + 1) f fd ps (spR K R) :=
  F.okX S (fun vs H Q E ⟨ds, r, hR, hv, _⟩ => hv.len.trans (hl ds r hR)) fun cdv A outer s H vs Q E hr ⟨ds, r, hR, hv, hq⟩ => ⟨_, hbody cdv A outer s H E ds r hr hR, body_read hv hq fun _ h => h⟩
/-- THE RULE for a def without defaults -/
theorem fnD (F : Fun K x qual st f fd) (S : FnScope N ps (defScope st)) (hm : mg x = some (.ref f)) (hb : Binds K fd ps []) (hl : ∀ ds r, R ds r → ds.length = ps.length)
    (hbody : ∀ (cdv : Value) (A : Around) (outer : List PySem.Env) (s : Shared) (H : Hp) (E : XK) (ds : List D) (r : Res), Room k (A.deeper (envOfC qual (defScope st) s.heap.objs.size f cdv)) → R ds r →
      PSs (cxOf (L2.CX P w) P w K mg base N qual (defScope st) f cdv A outer s H E) (defBody st) (sD K (WE1 E) (envOf N ds) (OutR r))) : FnD P w K mg base (k + 1) x [] R := by
  exact ⟨f, fd, ps, [], [], fnOk F S hl hbody, hm, F.kp, hb, .nil, fun _ => .nil⟩
theorem FnD.mono {n m : Nat} {df : List D} (F : FnD P w K mg base n x df R) (h : n ≤ m) : FnD P w K mg base m x df R := by
  obtain ⟨f, fd, ps, dv, du, F, a⟩ := F.ex
  exact ⟨f, fd, ps, dv, du, F.mono h, a⟩
end
end Gd

set_option Elab.async false
set_option linter.all false
set_option maxRecDepth 100000
set_option maxHeartbeats 4000000
/-! G2: built-ins by data. -/
namespace Gd
open PySem PySem.Spec PyProof.Rows L2
/-- the built-in class of a piece of data -/
def tyN : D → Option String
  | .non => some "NoneType"
  | .bl _ => some "bool"
  | .int _ => some "int"
  | .str _ => some "str"
  | .tup _ => some "tuple"
  | .lst _ => some "list"
  | .dct => some "dict"
  | .exc _ => none
theorem Rp.ty {K : PySem.W.Frag} {H : Hp} {v : V} {d : D} {t : String} (h : Rp K H v d) (e : tyN d = some t) : TyX K H v (.type t) := by
  cases h with
  | non => cases e; exact .base .non
  | bl b => cases e; exact .base (.bl b)
  | int i => cases e; exact .base (.int i)
  | str x => cases e; exact .base (.str x)
  | tup h _ =>
    cases e
    rcases h with (h | ⟨o, h⟩) | ⟨o, its, n, h, hc, _⟩
    · exact .base (.tup h)
    · exact .fTuple h
    · exact .kTuple h hc
  | lst h _ =>
    cases e
    rcases h with (h | ⟨o, h⟩) | ⟨o, its, n, h, hc, _⟩
    · exact .base (.lst h)
    · exact .base (.frz h)
    · exact .kList h hc
  | dct h => cases e; exact .base (.dK h)
  | exc h => cases e
section
variable {X : Cx} {W : WX} {e a b c : Expr} {es : List Expr} {pos p p2 : Pos} {ρ : Env} {d d1 d2 d3 : D} {ds : List D} {i j : Int}
/-- isinstance(e, T), T a built-in class -/
theorem x_isi {T : Str} {Tn t : String} {k : Bool} (he : PE X e (tD X.K ρ d)) (ht : tyN d = some t) (hk : kitB t Tn = some k) (hm : X.mg "isinstance" = none) (hT : X.mg T = none) (hv : bootBuiltins T = some (.type Tn))
    (hg : Gl X "isinstance" := by rfl) (hgT : Gl X T := by rfl) (hn : T ≠ "__name__" := by decide) (hdb : (T == ("__debug__" : Str)) = false := by decide)
    (hs : starEach [e, .Name T p2] X.env = (false, eval e X.env) :: starEach [.Name T p2] X.env := by rfl) (hpl : (backTo pos (starEach [.Name T p2] X.env)).any (·.1) = false := by rfl)
    (hs2 : starEach [.Name T p2] X.env = (false, eval (.Name T p2) X.env) :: starEach [] X.env := by rfl) :
    PE X (.Call (.Name "isinstance" p) [e, .Name T p2] [] pos) (tD X.K ρ (.bl k)) :=
  pe_wk (pe_callB call_isi hg hm (by decide +kernel) (pa_cons he (pa_cons (pe_bltn (v := .ty Tn) hgT hT hv rfl hn hdb) pa_nil hs2) hs) (by decide) (by decide) hs hpl) fun σ H Q ⟨s, q⟩ =>
    ⟨s, fun v H1 e1 r1 => ⟨v, .ty Tn, .type t, .type Tn, k, rfl, .ty Tn, r1.ty ht, kit_ty hk, q _ H1 e1 (.bl k)⟩⟩
/-- a built-in function of one thing -/
theorem x_len {n : Int} (he : PE X e (tD X.K ρ d)) (hm : X.mg "len" = none) (hd : (∃ ds, d = .tup ds ∧ (ds.length : Int) = n) ∨ (∃ ds, d = .lst ds ∧ (ds.length : Int) = n) ∨ (∃ z, d = .str z ∧ z.length ≤ sizeLine ∧ (z.length : Int) = n))
    (hg : Gl X "len" := by rfl) (hs : starEach [e] X.env = (false, eval e X.env) :: starEach [] X.env := by rfl) (hpl : (backTo pos (starEach [] X.env)).any (·.1) = false := by rfl) :
    PE X (.Call (.Name "len" p) [e] [] pos) (tD X.K ρ (.int n)) :=
  pe_wk (pe_callB call_len hg hm PySem.boot_len (pa_cons he pa_nil hs) (by decide) (by decide) hs hpl) fun σ H Q ⟨s, q⟩ => ⟨s, fun v H1 e1 r1 => by
    rcases hd with ⟨ds, rfl, hl⟩ | ⟨ds, rfl, hl⟩ | ⟨z, rfl, h1, hl⟩
    · cases r1 with
      | tup h r => exact ⟨_, _, rfl, .inr ⟨_, h, rfl⟩, by rw [r.len, hl]; exact q _ H1 e1 (.int n)⟩
    · cases r1 with
      | lst h r => exact ⟨_, _, rfl, .inl ⟨_, h, rfl⟩, by rw [r.len, hl]; exact q _ H1 e1 (.int n)⟩
    · cases r1
      exact ⟨_, _, rfl, ⟨h1, rfl⟩, by rw [hl]; exact q _ H1 e1 (.int n)⟩⟩
theorem x_lenT {n : Int} (he : PE X e (tD X.K ρ (.tup ds))) (hm : X.mg "len" = none) (hl : (ds.length : Int) = n := by rfl)
    (hg : Gl X "len" := by rfl) (hs : starEach [e] X.env = (false, eval e X.env) :: starEach [] X.env := by rfl) (hpl : (backTo pos (starEach [] X.env)).any (·.1) = false := by rfl) :
    PE X (.Call (.Name "len" p) [e] [] pos) (tD X.K ρ (.int n)) := x_len he hm (.inl ⟨ds, rfl, hl⟩) hg hs hpl
theorem x_lenL {n : Int} (he : PE X e (tD X.K ρ (.lst ds))) (hm : X.mg "len" = none) (hl : (ds.length : Int) = n := by rfl)
    (hg : Gl X "len" := by rfl) (hs : starEach [e] X.env = (false, eval e X.env) :: starEach [] X.env := by rfl) (hpl : (backTo pos (starEach [] X.env)).any (·.1) = false := by rfl) :
    PE X (.Call (.Name "len" p) [e] [] pos) (tD X.K ρ (.int n)) := x_len he hm (.inr (.inl ⟨ds, rfl, hl⟩)) hg hs hpl
theorem x_all {bs : List Bool} (he : PE X e (tD X.K ρ (.lst (bs.map .bl)))) (hc : X.calm = true) (hm : X.mg "all" = none)
    (hg : Gl X "all" := by rfl) (hs : starEach [e] X.env = (false, eval e X.env) :: starEach [] X.env := by rfl) (hpl : (backTo pos (starEach [] X.env)).any (·.1) = false := by rfl) :
    PE X (.Call (.Name "all" p) [e] [] pos) (tD X.K ρ (.bl (bs.all id))) :=
  pe_wk (pe_callB (cr_all hc) hg hm (by decide +kernel) (pa_cons he pa_nil hs) (by decide) (by decide) hs hpl) fun σ H Q ⟨s, q⟩ => ⟨s, fun v H1 e1 r1 => by
    cases r1 with
    | lst h r => exact ⟨_, bs, rfl, by rw [← r.bls_of]; exact h, q _ H1 e1 (.bl _)⟩⟩
theorem x_sum {ns : List Int} (he : PE X e (tD X.K ρ (.lst (ns.map .int)))) (hc : X.calm = true) (hm : X.mg "sum" = none)
    (hg : Gl X "sum" := by rfl) (hs : starEach [e] X.env = (false, eval e X.env) :: starEach [] X.env := by rfl) (hpl : (backTo pos (starEach [] X.env)).any (·.1) = false := by rfl) :
    PE X (.Call (.Name "sum" p) [e] [] pos) (tD X.K ρ (.int ns.sum)) :=
  pe_wk (pe_callB (cr_sum hc) hg hm (by decide +kernel) (pa_cons he pa_nil hs) (by decide) (by decide) hs hpl) fun σ H Q ⟨s, q⟩ => ⟨s, fun v H1 e1 r1 => by
    cases r1 with
    | lst h r => exact ⟨_, ns, rfl, by rw [← r.ints_of]; exact h, q _ H1 e1 (.int _)⟩⟩
theorem x_min2 (ha : PA X [a, b] (aD X.K ρ [.int i, .int j])) (hc : X.calm = true) (hm : X.mg "min" = none)
    (hg : Gl X "min" := by rfl) (hs : starEach [a, b] X.env = (false, eval a X.env) :: starEach [b] X.env := by rfl) (hpl : (backTo pos (starEach [b] X.env)).any (·.1) = false := by rfl) :
    PE X (.Call (.Name "min" p) [a, b] [] pos) (tD X.K ρ (.int (if j < i then j else i))) :=
  pe_wk (pe_callB (call_min2 hc) hg hm (by decide +kernel) ha (by decide) (by decide) hs hpl) fun σ H Q ⟨s, q⟩ => ⟨s, fun vs H1 e1 r1 => by
    obtain ⟨v, w, rfl, r, r'⟩ := r1.two
    rw [r.int_of, r'.int_of]
    exact ⟨i, j, rfl, q _ H1 e1 (.int _)⟩⟩
/-- tuple(e), e a list -/
theorem x_tupL (he : PE X e (tD X.K ρ (.lst ds))) (hm : X.mg "tuple" = none)
    (hg : Gl X "tuple" := by rfl) (hs : starEach [e] X.env = (false, eval e X.env) :: starEach [] X.env := by rfl) (hpl : (backTo pos (starEach [] X.env)).any (·.1) = false := by rfl) :
    PE X (.Call (.Name "tuple" p) [e] [] pos) (tD X.K ρ (.tup ds)) :=
  pe_wk (pe_callTy call_tuple_of hg hm (by decide +kernel) (pa_cons he pa_nil hs) (by decide) (by decide) hs hpl) fun σ H Q ⟨s, q⟩ => ⟨s, fun v H1 e1 r1 => by
    cases r1 with
    | lst h r => exact ⟨_, _, rfl, .inl ⟨h, fun l hl => q _ _ (e1.trans (same_new hl)) (.tup (.of upd_same) (r.mono (same_new hl)))⟩⟩⟩
/-- list(e), e a list -/
theorem x_lstL (he : PE X e (tD X.K ρ (.lst ds))) (hm : X.mg "list" = none)
    (hg : Gl X "list" := by rfl) (hs : starEach [e] X.env = (false, eval e X.env) :: starEach [] X.env := by rfl) (hpl : (backTo pos (starEach [] X.env)).any (·.1) = false := by rfl) :
    PE X (.Call (.Name "list" p) [e] [] pos) (tD X.K ρ (.lst ds)) :=
  pe_wk (pe_callTy call_list_of hg hm (by decide +kernel) (pa_cons he pa_nil hs) (by decide) (by decide) hs hpl) fun σ H Q ⟨s, q⟩ => ⟨s, fun v H1 e1 r1 => by
    cases r1 with
    | lst h r => exact ⟨_, _, rfl, .inl h, fun l hl => q _ _ (e1.trans (same_new hl)) (.lst (.of upd_same) (r.mono (same_new hl)))⟩⟩
/-- e[:k] -/
theorem cut_to {α : Type} (xs : List α) (k : Nat) : (xs.drop (HT.sIx xs.length 0 none)).take (HT.sIx xs.length xs.length (some (k : Int)) - HT.sIx xs.length 0 none) = xs.take k := by
  rw [HT.sIx_none, HT.sIx_nat, List.drop_zero, Nat.sub_zero, ← List.take_take, List.take_length]
theorem x_cutTo (k : Nat) (he : PE X e (tD X.K ρ (.lst ds))) (hk : PE X b (tD X.K ρ (.int (k : Int)))) : PE X (.Subscript e (.Slice none (some b) none p2) pos) (tD X.K ρ (.lst (ds.take k))) :=
  pe_wk (pe_slice sl_list he po_none (po_some hk)) fun σ H Q ⟨s, q⟩ => ⟨s, fun v H1 e1 r1 => ⟨s.mono e1, fun w H2 e2 r2 => ⟨(k : Int), r2.int_of, by
    cases r1.mono e2 with
    | @lst _ xs _ h r =>
      refine ⟨_, _, rfl, h, fun l hl => ?_⟩
      have z : cutV xs none (some (k : Int)) = List.take k xs := cut_to xs k
      refine q _ _ ((e1.trans e2).trans (same_new hl)) (.lst (.of upd_same) ?_)
      rw [z]
      exact (r.take k).mono (same_new hl)⟩⟩⟩
/-- list + list, whatever they stand as -/
def rCatL (K : PySem.W.Frag) : R2 := fun x y H Q => ∃ l b xs zs, x = .ref l ∧ y = .ref b ∧ SqL K H l xs ∧ SqL K H b zs ∧ xs.length + zs.length ≤ sizeLine ∧ ∀ p, H p = none → Q (.ref p) (upd H p (.lst (xs ++ zs)))
theorem op_catL : OpR X (binaryOp .Add) (rCatL X.K) := by
  intro pins s σ H x y v u Q I rx ry h
  obtain ⟨l, b, xs, zs, rfl, rfl, hH, hB, hz, q⟩ := h
  cases rx
  cases ry
  obtain ⟨its, r, ⟨⟨c1, d1, t1, s1⟩, n1, g1, k1, m1, w1⟩, _⟩ := I.list hH
  obtain ⟨its2, r2, ⟨⟨c2, d2, t2, s2⟩, n2, g2, k2, m2, w2⟩, _⟩ := I.list hB
  simp only at k1 m1 w1 k2 m2 w2
  subst k1 m1 w1 k2 m2 w2
  have l1 := r.length
  have l2 := r2.length
  refine concat_meets ⟨_, g1, rfl⟩ ⟨_, g2, rfl⟩ noFill_list_add seq_list_add PySem.F.slot_list_add PySem.F.entry_list_add (PySem.F.args_list_add_2 _ _) (PyProof.Rows.list_addW l b its.toArray its2.toArray n1 n2 none none s1 s2 (by rw [List.size_toArray, List.size_toArray]; omega)) ⟨g1, g2, ?_⟩
  have ea : its.toArray ++ its2.toArray = (its ++ its2).toArray := by simp
  rw [ea]
  exact ⟨.ref _, _, I.lnew (t' := s.toks) (r.append r2) (by rw [List.length_append]; omega), rfl, q _ I.fresh⟩
theorem o_catL {es : List D} (h : ds.length + es.length ≤ 100000) : OpD X (binaryOp .Add) (.lst ds) (.lst es) (.lst (ds ++ es)) := opD_of op_catL fun x y H Q r1 r2 q => by
  cases r1 with
  | lst h1 s1 =>
    cases r2 with
    | lst h2 s2 => exact ⟨_, _, _, _, rfl, rfl, h1, h2, by rw [s1.len, s2.len]; exact le_line h, fun p hp => q _ _ (same_new hp) (.lst (.of upd_same) ((s1.app s2).mono (same_new hp)))⟩
/-- x in (1, 2, 3), ints -/
theorem inV_ints (n : Int) : ∀ ns : List Int, inV (.int n) (ns.map V.int) = ns.contains n
  | [] => rfl
  | m :: r => by
    have ih := inV_ints n r
    show (eqV (.int m) (.int n) || inV (.int n) (r.map V.int)) = (n == m || r.contains n)
    rw [ih]
    have z : eqV (.int m) (.int n) = (n == m) := by
      show (m == n) = (n == m)
      exact Bool.beq_comm
    rw [z]
theorem o_inT {n : Int} {ns : List Int} : OpD X (compareOp .In) (.int n) (.tup (ns.map .int)) (.bl (ns.contains n)) := opD_of op_in_seq fun x y H Q r1 r2 q => by
  cases r1
  cases r2 with
  | tup h r =>
    have z := r.ints_of
    subst z
    refine ⟨_, _, rfl, .inr h, rfl, ?_, ?_⟩
    · rw [List.all_map]
      exact List.all_eq_true.mpr fun _ _ => rfl
    · rw [if_neg Bool.false_ne_true, inV_ints]
      exact q _ H (Same.refl H) (.bl _)
end
end Gd

set_option Elab.async false
set_option linter.all false
set_option maxRecDepth 100000
set_option maxHeartbeats 4000000
/-! G3: points, bounds of numbers, some more rules. -/
namespace Gd
open PySem PySem.Spec PyProof.Rows L2
abbrev pt (a b : Int) : D := .tup [.int a, .int b]
/-! ### bounds -/
def Bd (n : Nat) (i : Int) : Prop := i.natAbs < 2 ^ n
theorem Bd.mono {n m : Nat} {i : Int} (h : Bd n i) (hn : n ≤ m) : Bd m i := Nat.lt_of_lt_of_le h (Nat.pow_le_pow_right (by decide) hn)
theorem Bd.mul {n m : Nat} {i j : Int} (h : Bd n i) (k : Bd m j) : Bd (n + m) (i * j) := wide_lt h k
theorem two_pow_succ (n : Nat) : 2 ^ (n + 1) = 2 ^ n + 2 ^ n := by rw [Nat.pow_succ, Nat.mul_two]
theorem Bd.add {n : Nat} {i j : Int} (h : Bd n i) (k : Bd n j) : Bd (n + 1) (i + j) := by
  unfold Bd at *
  have := two_pow_succ n
  have := Int.natAbs_add_le i j
  omega
theorem Bd.neg {n : Nat} {i : Int} (h : Bd n i) : Bd n (-i) := by
  unfold Bd at *
  rw [Int.natAbs_neg]
  exact h
theorem Bd.sub {n : Nat} {i j : Int} (h : Bd n i) (k : Bd n j) : Bd (n + 1) (i - j) := by
  rw [Int.sub_eq_add_neg]
  exact h.add k.neg
theorem Bd.mod {n : Nat} {i j : Int} (hj : 0 < j) (h : Bd n j) : Bd n (i % j) := by
  unfold Bd at *
  have h1 := Int.emod_nonneg i (by omega : j ≠ 0)
  have h2 := Int.emod_lt_of_pos i hj
  omega
theorem Bd.div {n : Nat} {i j : Int} (hj : 0 < j) (h : Bd n i) : Bd n (i / j) := by
  unfold Bd at *
  refine Nat.lt_of_le_of_lt ?_ h
  have := Int.natAbs_ediv_le_natAbs i j
  omega
theorem Bd.of_le {n : Nat} {i : Int} (m : Nat) (h : i.natAbs ≤ m) (hm : m < 2 ^ n) : Bd n i := Nat.lt_of_le_of_lt h hm
/-- the goal-driven forms -/
theorem Bd.mul' {n : Nat} {i j : Int} (h : Bd (n / 2) i) (k : Bd (n / 2) j) : Bd n (i * j) := (Bd.mul h k).mono (by omega)
theorem Bd.add' {n : Nat} {i j : Int} (h : Bd (n - 1) i) (k : Bd (n - 1) j) (hn : 0 < n) : Bd n (i + j) := (Bd.add h k).mono (by omega)
theorem Bd.sub' {n : Nat} {i j : Int} (h : Bd (n - 1) i) (k : Bd (n - 1) j) (hn : 0 < n) : Bd n (i - j) := (Bd.sub h k).mono (by omega)
theorem Bd.lit {n : Nat} {i : Int} (h : i.natAbs < 2 ^ 200) (hn : 200 ≤ n) : Bd n i := Bd.mono (n := 200) h hn
theorem mulW {i j : Int} (h : Bd 450000 i) (k : Bd 450000 j) : CMulW i j := wide_mul h k (by decide) (by decide) (by decide)
theorem divW {i j : Int} (h0 : 0 < j) (h : Bd 8000 j) : CDivW i j := wide_div h0 h (by decide) (by decide)
local macro_rules | `(tactic| walk_at "bnd") => `(tactic| first
  | exact Bd.mono (by assumption) (by decide)
  | exact Bd.lit (by decide) (by decide)
  | (refine Bd.mul' ?_ ?_ <;> walk_at "bnd")
  | (refine Bd.add' ?_ ?_ (by decide) <;> walk_at "bnd")
  | (refine Bd.sub' ?_ ?_ (by decide) <;> walk_at "bnd")
  | (refine Bd.mod (by decide) ?_ <;> walk_at "bnd")
  | (refine Bd.div (by decide) ?_ <;> walk_at "bnd")
  | (refine Bd.neg ?_ <;> walk_at "bnd"))
example (a b c d : Int) (ha : Bd 134 a) (hb : Bd 134 b) (hc : Bd 134 c) (hd : Bd 134 d) : Bd 400000 (a * c - b * d + 3) := by walk_at "bnd"
section
variable {X : Cx} {W : WX} {e a b c : Expr} {es : List Expr} {pos p p2 : Pos} {ρ : Env} {d d1 d2 d3 : D} {ds : List D} {i j : Int} {k : Nat}
theorem x_ix0 {m : Nat} (ha : PE X a (tD X.K ρ (.tup (d :: ds)))) : PE X (.Subscript a (.Constant (.int 0) m p) pos) (tD X.K ρ d) := x_ixT (i := 0) ha x_int (by
  show ((if (0 : Int) ≤ 0 then (if (0 : Int) < ((d :: ds).length : Int) then some (0 : Int).toNat else none) else _) : Option Nat).bind (fun j => (d :: ds)[j]?) = some d
  rw [if_pos (by decide), if_pos (by rw [List.length_cons]; omega)]
  rfl)
theorem x_ix1 {m : Nat} (ha : PE X a (tD X.K ρ (.tup (d1 :: d :: ds)))) : PE X (.Subscript a (.Constant (.int 1) m p) pos) (tD X.K ρ d) := x_ixT (i := 1) ha x_int (by
  show ((if (0 : Int) ≤ 1 then (if (1 : Int) < ((d1 :: d :: ds).length : Int) then some (1 : Int).toNat else none) else _) : Option Nat).bind (fun j => (d1 :: d :: ds)[j]?) = some d
  rw [if_pos (by decide), if_pos (by rw [List.length_cons, List.length_cons]; omega)]
  rfl)
theorem x_neg (ha : PE X a (tD X.K ρ (.int i))) : PE X (.UnaryOp .USub a pos) (tD X.K ρ (.int (-i))) :=
  pe_wk (pe_un un_neg ha) fun σ H Q ⟨s, q⟩ => ⟨s, fun v H1 e1 r1 => ⟨i, r1.int_of, q _ H1 e1 (.int _)⟩⟩
/-- a module's name that holds data -/
structure GlD (K : PySem.W.Frag) (mg : Str → Option Value) (x : Str) (d : D) : Prop where
  ex : ∃ v u, mg x = some u ∧ RelV v u ∧ ∀ H, Rp K H v d
theorem x_glob {x : Str} (G : GlD X.K X.mg x d) (hg : Gl X x := by rfl) (hd : (x == ("__debug__" : Str)) = false := by decide) : PE X (.Name x pos) (tD X.K ρ d) := by
  obtain ⟨v, u, hm, r, h⟩ := G.ex
  exact pe_wk (pe_glob hg hm r hd) fun σ H Q ⟨s, q⟩ => q v H (Same.refl H) (h H)
theorem x_andF (ha : PE X a (tD X.K ρ (.bl false))) : PE X (.BoolOp .And (a :: b :: es) pos) (tD X.K ρ (.bl false)) := x_and (m := false) ha fun h => nomatch h
theorem x_andT {m : Bool} (ha : PE X a (tD X.K ρ (.bl true))) (hb : PE X (.BoolOp .And (b :: es) pos) (tD X.K ρ (.bl m))) : PE X (.BoolOp .And (a :: b :: es) pos) (tD X.K ρ (.bl m)) := x_and (k := true) ha fun _ => hb
theorem w_orT (ha : PT X a (bD X.K ρ true)) : PW X (.BoolOp .Or (a :: b :: es) pos) (bD X.K ρ true) := w_or (m := true) ha fun h => nomatch h
theorem w_orF {m : Bool} (ha : PT X a (bD X.K ρ false)) (hb : PW X (.BoolOp .Or (b :: es) pos) (bD X.K ρ m)) : PW X (.BoolOp .Or (a :: b :: es) pos) (bD X.K ρ m) := w_or (k := false) ha fun _ => hb
theorem w_andF (ha : PT X a (bD X.K ρ false)) : PW X (.BoolOp .And (a :: b :: es) pos) (bD X.K ρ false) := w_and (m := false) ha fun h => nomatch h
theorem w_andT {m : Bool} (ha : PT X a (bD X.K ρ true)) (hb : PW X (.BoolOp .And (b :: es) pos) (bD X.K ρ m)) : PW X (.BoolOp .And (a :: b :: es) pos) (bD X.K ρ m) := w_and (k := true) ha fun _ => hb
theorem i_ifT {th el : List Stmt} {P : Out → Prop} (hc : PT X c (bD X.K ρ true)) (ha : PSs X th (sD X.K W ρ P)) : PS X (.If c th el pos) (sD X.K W ρ P) := i_if hc (fun _ => ha) fun h => nomatch h
theorem i_ifF {th el : List Stmt} {P : Out → Prop} (hc : PT X c (bD X.K ρ false)) (hb : PSs X el (sD X.K W ρ P)) : PS X (.If c th el pos) (sD X.K W ρ P) := i_if hc (fun h => nomatch h) fun _ => hb
theorem x_ifT {e1 e2 : Expr} (hc : PT X c (bD X.K ρ true)) (ha : PE X e1 (tD X.K ρ d)) : PE X (.IfExp c e1 e2 pos) (tD X.K ρ d) := x_if hc (fun _ => ha) fun h => nomatch h
theorem x_ifF {e1 e2 : Expr} (hc : PT X c (bD X.K ρ false)) (hb : PE X e2 (tD X.K ρ d)) : PE X (.IfExp c e1 e2 pos) (tD X.K ρ d) := x_if hc (fun h => nomatch h) fun _ => hb
theorem pe_to {d' : D} (h : PE X e (tD X.K ρ d)) (hd : d = d') : PE X e (tD X.K ρ d') := hd ▸ h
theorem pt_to {k k' : Bool} (h : PT X e (bD X.K ρ k)) (hd : k = k') : PT X e (bD X.K ρ k') := hd ▸ h
/-! ### equal data -/
theorem eqD_pt (a b c d : Int) : eqD (pt a b) (pt c d) = (decide (a = c) && decide (b = d)) := by
  show (a == c && (b == d && true)) = _
  rw [Bool.and_true]
  rfl
theorem o_eqP {c d : Int} {n : Nat} (hu : Room n X.A) : OpD X (compareOp .Eq) (pt i j) (pt c d) (.bl (decide (i = c) && decide (j = d))) := by
  rw [← eqD_pt]
  exact o_eq hu rfl rfl
theorem o_neP {c d : Int} {n : Nat} (hu : Room n X.A) : OpD X (compareOp .NotEq) (pt i j) (pt c d) (.bl (!(decide (i = c) && decide (j = d)))) := by
  rw [← eqD_pt]
  exact o_ne hu rfl rfl
end
theorem neT {a b c d : Int} (h1 : a = c) (h2 : b = d) : (!(decide (a = c) && decide (b = d))) = false := by rw [decide_eq_true h1, decide_eq_true h2]; rfl
theorem eqT {a b c d : Int} (h1 : a = c) (h2 : b = d) : (decide (a = c) && decide (b = d)) = true := by rw [decide_eq_true h1, decide_eq_true h2]; rfl
/-- built-in names that no module of these programs binds -/
structure Bl (mg : Str → Option Value) : Prop where
  isinstance : mg "isinstance" = none
  int : mg "int" = none
  bool : mg "bool" = none
  tuple : mg "tuple" = none
  list : mg "list" = none
  len : mg "len" = none
  all : mg "all" = none
  sum : mg "sum" = none
  range : mg "range" = none
  enumerate : mg "enumerate" = none
  min : mg "min" = none
  max : mg "max" = none
  sorted : mg "sorted" = none
  set : mg "set" = none
  valueError : mg "ValueError" = none
/-- an own class of error over ValueError, without anything of its own -/
structure EcD (K : PySem.W.Frag) (mg : Str → Option Value) (x : Str) (C : Addr) : Prop where
  g : mg x = some (.ref C)
  x : PySem.W.excIn K C [.type "ValueError", .type "Exception", .type "BaseException", .type "object"] "ValueError.__new__" = true
  k : PySem.W.keepIn K (.ref C) = true
  b : PySem.W.subIn K (.ref C) (.type "BaseException") = some true
  t : PySem.W.typeIn K (.ref C) = some (.type "type")
/-- no exception within -/
def D.isE : D → Bool
  | .exc _ => true
  | _ => false
def D.noE : D → Bool
  | .exc _ => false
  | .tup [a, b] => !a.isE && !b.isE
  | _ => true
theorem noE_two {a b : D} (h : (D.tup [a, b]).noE = true) : a.isE = false ∧ b.isE = false := by
  have h' : (!a.isE && !b.isE) = true := h
  rw [Bool.and_eq_true] at h'
  exact ⟨by simpa using h'.1, by simpa using h'.2⟩
def isNumD : D → Bool
  | .int _ => true
  | _ => false
def isPtD : D → Bool
  | .tup [a, b] => isNumD a && isNumD b
  | _ => false
theorem isPtD_pt {d : D} (h : isPtD d = true) : ∃ a b, d = pt a b := by
  unfold isPtD at h
  split at h
  · rename_i a b
    cases a <;> cases b <;> first | exact ⟨_, _, rfl⟩ | cases h
  · cases h
/-! ### lists by a function of the place -/
def tab {α : Type} (n : Nat) (f : Nat → α) : List α := (List.range n).map f
theorem tab_len {α : Type} (n : Nat) (f : Nat → α) : (tab n f).length = n := by unfold tab; simp
theorem tab_get {α : Type} {n i : Nat} {f : Nat → α} {x : α} (h : (tab n f)[i]? = some x) : i < n ∧ x = f i := by
  unfold tab at h
  rw [List.getElem?_map] at h
  rcases Nat.lt_or_ge i n with c | c
  · rw [List.getElem?_range c] at h
    exact ⟨c, (Option.some.inj h).symm⟩
  · rw [List.getElem?_eq_none (by simpa using c)] at h
    cases h
theorem tab_map {α β : Type} (n : Nat) (f : Nat → α) (g : α → β) : (tab n f).map g = tab n fun i => g (f i) := by unfold tab; rw [List.map_map]; rfl
theorem tab_succ {α : Type} (n : Nat) (f : Nat → α) : tab (n + 1) f = tab n f ++ [f n] := by unfold tab; rw [List.range_succ, List.map_append]; rfl
theorem tab_sum_succ (n : Nat) (f : Nat → Int) : (tab (n + 1) f).sum = (tab n f).sum + f n := by rw [tab_succ, List.sum_append]; simp
theorem mem_tab {α : Type} {n : Nat} {f : Nat → α} {x : α} (h : x ∈ tab n f) : ∃ i, i < n ∧ x = f i := by
  unfold tab at h
  obtain ⟨i, h1, h2⟩ := List.mem_map.mp h
  exact ⟨i, List.mem_range.mp h1, h2.symm⟩
theorem immA_tab {n : Nat} {f : Nat → D} (h : ∀ i, (f i).imm = true) : immA (tab n f) = true := immA_of fun d hd => by
  obtain ⟨i, _, rfl⟩ := mem_tab hd
  exact h i
theorem enum_pair {ds : List D} : ∀ d ∈ enumD ds, ∃ a b, d = .tup [a, b] := fun d hd => by
  obtain ⟨i, _, rfl⟩ := mem_tab (f := fun (i : Nat) => D.tup [.int i, ds.getD i .non]) hd
  exact ⟨_, _, rfl⟩
theorem enum_ints {ns : List Int} {m : Nat} {a b : D} (h : (enumD (ns.map D.int))[m]? = some (.tup [a, b])) : m < ns.length ∧ a = .int m ∧ b = .int (ns.getD m 0) := by
  obtain ⟨x, h1, h2⟩ := enumD_get h
  rw [List.getElem?_map] at h1
  injection h2 with h2
  injection h2 with h3 h4
  injection h4 with h4 _
  rcases Nat.lt_or_ge m ns.length with c | c
  · rw [List.getElem?_eq_getElem c] at h1
    refine ⟨c, h3, ?_⟩
    rw [h4, List.getD_eq_getElem?_getD, List.getElem?_eq_getElem c]
    exact (Option.some.inj h1).symm
  · rw [List.getElem?_eq_none c] at h1
    cases h1
/-- a, b = a pair: a in slot i, b in slot j -/
def pairF (i j : Nat) : D → Gd.Env → Gd.Env
  | .tup [a, b], ρ => (ρ.set i (some a)).set j (some b)
  | _, ρ => ρ
theorem g_pair {X : Cx} {x y : Str} {p p2 tp : Pos} {kk : Nat} {d : D} (i j : Nat) (hN : X.N.Nodup) (hc : X.calm = true) (hd : ∃ a b, d = .tup [a, b]) (hi : X.N[i]? = some x := by rfl) (hj : X.N[j]? = some y := by rfl)
    (hx : Loc X.env.scope x := by first | exact Or.inl rfl | exact Or.inr rfl) (hy : Loc X.env.scope y := by first | exact Or.inl rfl | exact Or.inr rfl)
    (hf : X.fn x = true ∨ X.env.scope.names.lookup x = some .local := by first | exact .inl rfl | exact .inr rfl) (hf2 : X.fn y = true ∨ X.env.scope.names.lookup y = some .local := by first | exact .inl rfl | exact .inr rfl) :
    PG X (.Tuple [.Name x p, .Name y p2] kk tp) (gD X.K d (pairF i j d)) := by
  obtain ⟨a, b, rfl⟩ := hd
  have h1 : PG X (.Name x p) (gD X.K a fun ρ => ρ.set i (some a)) := g_name i hN hi hx hf
  have h2 : PG X (.Name y p2) (gD X.K b fun ρ => ρ.set j (some b)) := g_name j hN hj hy hf2
  have h3 := gs_cons h1 (gs_cons h2 (gs_nil (X := X)) rfl) rfl
  exact g_tup hc h3 rfl rfl
/-! ### the laws' own draws -/
def mixed (n k : Int) : Int := (n % 2147483647 + 7919 * k * k + 31 * k) * 48271 % 2147483647 * (69621 + 2 * k) % 2147483629
theorem mixed_r (n k : Int) : 0 ≤ mixed n k ∧ mixed n k < 2147483629 := ⟨Int.emod_nonneg _ (by decide), Int.emod_lt_of_pos _ (by decide)⟩
theorem mixed_bd (n k : Int) : Bd 31 (mixed n k) := by
  have := mixed_r n k
  exact Bd.of_le 2147483629 (by omega) (by decide)
def coord (n : Int) : Int :=
  if n % 6 < 2 then n / 6 % 21 - 10
  else if n % 6 = 2 then n / 6 % 2001 - 1000
  else n * (1000000000000000000000000000000000000000 + 7) * (n + 3) % (2 * 10000000000000000000000000000000000000000 + 1) - 10000000000000000000000000000000000000000
theorem coord_bd (n : Int) : Bd 134 (coord n) := by
  refine Bd.of_le 10000000000000000000000000000000000000000 ?_ (by decide)
  unfold coord
  split
  · have h1 := Int.emod_nonneg (n / 6) (by decide : (21 : Int) ≠ 0)
    have h2 := Int.emod_lt_of_pos (n / 6) (by decide : (0 : Int) < 21)
    omega
  · split
    · have h1 := Int.emod_nonneg (n / 6) (by decide : (2001 : Int) ≠ 0)
      have h2 := Int.emod_lt_of_pos (n / 6) (by decide : (0 : Int) < 2001)
      omega
    · have h1 := Int.emod_nonneg (n * (1000000000000000000000000000000000000000 + 7) * (n + 3)) (by decide : (2 * 10000000000000000000000000000000000000000 + 1 : Int) ≠ 0)
      have h2 := Int.emod_lt_of_pos (n * (1000000000000000000000000000000000000000 + 7) * (n + 3)) (by decide : (0 : Int) < 2 * 10000000000000000000000000000000000000000 + 1)
      generalize n * (1000000000000000000000000000000000000000 + 7) * (n + 3) % (2 * 10000000000000000000000000000000000000000 + 1) = z at *
      omega
def px (ns : List Int) (i : Nat) : Int := coord (mixed (mixed (ns.getD i 0) i) 1)
def py (ns : List Int) (i : Nat) : Int := coord (mixed (mixed (ns.getD i 0) i) 2)
abbrev lawPt (n : Int) : D := pt (coord (mixed n 1)) (coord (mixed n 2))
theorem emod_lt {i j : Int} (h : 0 < j) : 0 ≤ i % j ∧ i % j < j := ⟨Int.emod_nonneg i (by omega), Int.emod_lt_of_pos i h⟩
end Gd

set_option Elab.async false
set_option linter.all false
set_option maxRecDepth 100000
set_option maxHeartbeats 4000000
/-! G4: turns. -/
namespace Gd
open PySem PySem.Spec PyProof.Rows L2
abbrev ptP (p : Int × Int) : D := pt p.1 p.2
def rot1 (p : Int × Int) : Int × Int := (0 - p.2, p.1)
def rotN : Nat → Int × Int → Int × Int
  | 0, p => p
  | n + 1, p => rot1 (rotN n p)
def isUp (p : Int × Int) : Bool := (decide (p.1 = 0) && decide (p.2 = 0)) || (decide (0 < p.1) && decide (0 ≤ p.2))
def upK (p : Int × Int) : Nat := if isUp p = true then 0 else if isUp (rotN 1 p) = true then 1 else if isUp (rotN 2 p) = true then 2 else 3
def upP (p : Int × Int) : Int × Int := rotN (upK p) p
theorem isUp_iff (a b : Int) : isUp (a, b) = true ↔ (a = 0 ∧ b = 0) ∨ (0 < a ∧ 0 ≤ b) := by
  unfold isUp
  simp
theorem isUp_not (a b : Int) : isUp (a, b) = false ↔ ¬ ((a = 0 ∧ b = 0) ∨ (0 < a ∧ 0 ≤ b)) := by
  rw [← isUp_iff, Bool.not_eq_true]
theorem rot_2 (p : Int × Int) : rotN 2 p = (0 - p.1, 0 - p.2) := rfl
theorem rot_3 (p : Int × Int) : rotN 3 p = (0 - (0 - p.2), 0 - p.1) := rfl
theorem rot_4 (p : Int × Int) : rotN 4 p = p := by
  obtain ⟨a, b⟩ := p
  show (0 - (0 - a), 0 - (0 - b)) = (a, b)
  have h1 : 0 - (0 - a) = a := by omega
  have h2 : 0 - (0 - b) = b := by omega
  rw [h1, h2]
theorem rot_add (p : Int × Int) : ∀ m n : Nat, rotN m (rotN n p) = rotN (m + n) p
  | 0, n => by rw [Nat.zero_add]; rfl
  | m + 1, n => by
    rw [Nat.add_right_comm]
    show rot1 (rotN m (rotN n p)) = rot1 (rotN (m + n) p)
    rw [rot_add p m n]
theorem rot_m4 (p : Int × Int) : ∀ n : Nat, rotN (n + 4) p = rotN n p := fun n => by rw [← rot_add, rot_4]
theorem rot_mod (p : Int × Int) (n : Nat) : rotN (n % 4) p = rotN n p := by
  have h : ∀ k m : Nat, rotN (m + 4 * k) p = rotN m p := by
    intro k
    induction k with
    | zero => intro m; rfl
    | succ k ih =>
      intro m
      rw [Nat.mul_succ, ← Nat.add_assoc, rot_m4, ih]
  have e := Nat.mod_add_div n 4
  rw [← h (n / 4) (n % 4), e]
theorem upK_lt (p : Int × Int) : upK p < 4 := by
  unfold upK
  split
  · decide
  · split
    · decide
    · split <;> decide
theorem up_at (p : Int × Int) : isUp (rotN (upK p) p) = true := by
  obtain ⟨a, b⟩ := p
  unfold upK
  split
  · rename_i h; exact h
  · rename_i h0
    split
    · rename_i h; exact h
    · rename_i h1
      split
      · rename_i h; exact h
      · rename_i h2
        rw [rot_3, isUp_iff]
        rw [rot_2, isUp_iff] at h2
        have h1' : ¬ isUp (0 - b, a) = true := h1
        rw [isUp_iff] at h0 h1'
        dsimp only at h2 ⊢
        omega
theorem up_lt {p : Int × Int} {k : Nat} (h : k < upK p) : isUp (rotN k p) = false := by
  unfold upK at h
  by_cases h0 : isUp p = true
  · rw [if_pos h0] at h; omega
  · rw [if_neg h0] at h
    by_cases h1 : isUp (rotN 1 p) = true
    · rw [if_pos h1] at h
      have e : k = 0 := by omega
      subst e
      exact Bool.eq_false_iff.mpr h0
    · rw [if_neg h1] at h
      by_cases h2 : isUp (rotN 2 p) = true
      · rw [if_pos h2] at h
        have e : k = 0 ∨ k = 1 := by omega
        rcases e with e | e
        · subst e; exact Bool.eq_false_iff.mpr h0
        · subst e; exact Bool.eq_false_iff.mpr h1
      · rw [if_neg h2] at h
        have e : k = 0 ∨ k = 1 ∨ k = 2 := by omega
        rcases e with e | e | e
        · subst e; exact Bool.eq_false_iff.mpr h0
        · subst e; exact Bool.eq_false_iff.mpr h1
        · subst e; exact Bool.eq_false_iff.mpr h2
theorem up_two {p q : Int × Int} {k : Nat} (hk : k < 4) (hq : q = rotN k p) (h1 : isUp p = true) (h2 : isUp q = true) : q = p := by
  obtain ⟨a, b⟩ := p
  rw [isUp_iff] at h1
  have e : k = 0 ∨ k = 1 ∨ k = 2 ∨ k = 3 := by omega
  rcases e with e | e | e | e <;> subst e
  · exact hq
  · have hq' : q = (0 - b, a) := hq
    subst hq'
    rw [isUp_iff] at h2
    have : a = 0 := by omega
    have : b = 0 := by omega
    subst_vars
    rfl
  · have hq' : q = (0 - a, 0 - b) := hq
    subst hq'
    rw [isUp_iff] at h2
    have : a = 0 := by omega
    have : b = 0 := by omega
    subst_vars
    rfl
  · have hq' : q = (0 - (0 - b), 0 - a) := hq
    subst hq'
    rw [isUp_iff] at h2
    have : a = 0 := by omega
    have : b = 0 := by omega
    subst_vars
    rfl
theorem upP_of {p : Int × Int} {k : Nat} (h : isUp (rotN k p) = true) : upP p = rotN k p := by
  have h4 := upK_lt p
  have e : rotN k p = rotN ((k + (4 - upK p)) % 4) (upP p) := by
    unfold upP
    rw [rot_add]
    rw [← rot_mod p (_ + upK p), Nat.mod_add_mod, show k + (4 - upK p) + upK p = k + 4 by omega, rot_mod, rot_m4]
  exact (up_two (Nat.mod_lt _ (by decide)) e (up_at p) h).symm
theorem upP_rot (p : Int × Int) (k : Nat) : upP (rotN k p) = upP p := by
  have h := up_at (rotN k p)
  rw [rot_add] at h
  rw [upP_of h]
  unfold upP
  rw [rot_add]
theorem upP_up {p : Int × Int} (h : isUp p = true) : upK p = 0 ∧ upP p = p := by
  have e : upK p = 0 := by
    unfold upK
    rw [if_pos h]
  refine ⟨e, ?_⟩
  unfold upP
  rw [e]
  rfl
theorem isUp_upP (p : Int × Int) : isUp (upP p) = true := up_at p
/-- bounds under turns -/
theorem rot1_bd {n : Nat} {p : Int × Int} (h1 : Bd n p.1) (h2 : Bd n p.2) : Bd n (rot1 p).1 ∧ Bd n (rot1 p).2 := by
  refine ⟨?_, h1⟩
  show Bd n (0 - p.2)
  rw [Int.zero_sub]
  exact h2.neg
theorem rotN_bd {n : Nat} {p : Int × Int} (h1 : Bd n p.1) (h2 : Bd n p.2) : ∀ k, Bd n (rotN k p).1 ∧ Bd n (rotN k p).2
  | 0 => ⟨h1, h2⟩
  | k + 1 => let ⟨a, b⟩ := rotN_bd h1 h2 k; rot1_bd a b
section
variable {P : Program} {w : World} {K : PySem.W.Frag} {mg : Str → Option Value} {base : Heap} {x qual : Str} {st : Stmt} {f : Addr} {fd : FuncData} {N ps : List Str} {k : Nat} {R : List D → Res → Prop}
theorem glD_pt {c : Str} {a : Addr} {dd : Option Addr} {n : Nat} {sl : Array (Option Value)} {i j : Int} {u v : Tok} (h : mg c = some (.ref a)) (l : K.lookup a = some ⟨.type "tuple", dd, .seq [.int i u, .int j v].toArray n, sl⟩) : GlD K mg c (pt i j) :=
  ⟨.ref a, .ref a, h, rfl, fun H => .tup (xs := [.int i, .int j]) (.inr ⟨_, _, n, l, rfl, rfl, by show 2 ≤ sizeLine; decide, .cons ⟨u, rfl⟩ (.cons ⟨v, rfl⟩ .nil)⟩) (.cons (.int i) (.cons (.int j) .nil))⟩
theorem glD_int {c : Str} {i : Int} {u : Tok} (h : mg c = some (.int i u)) : GlD K mg c (.int i) := ⟨.int i, .int i u, h, ⟨u, rfl⟩, fun H => .int i⟩
/-- a def with one default, an int, as it stands -/
theorem fun_mkD {oc : Value} {od an : Option Addr} {osl : Array (Option Value)} {dV kV doc pm cdv ct : Value} {td : Addr} {tt : Tok} {to : Value} {tn : Nat} {tx : Option Addr} {ts : Array (Option Value)} {i : Int}
    (l : K.lookup f = some ⟨oc, od, .func (PySem.W.fnOf x qual (defArgs st) (defBody st) (defScope st) dV kV doc pm an cdv ct), osl⟩) (c : PySem.W.codeIn K cdv qual = true) (kp : PySem.W.keepIn K (.ref f) = true)
    (d : dV = .ref td) (e : K.lookup td = some ⟨to, tx, .seq [.int i tt].toArray tn, ts⟩) : FunD K x qual (defArgs st) (defBody st) (defScope st) [V.int i] [] f (PySem.W.fnOf x qual (defArgs st) (defBody st) (defScope st) dV kV doc pm an cdv ct) :=
  ⟨⟨oc, od, dV, kV, doc, pm, an, cdv, ct, osl, rfl, l, c, .inr ⟨fun z => (nomatch z), td, _, [.int i tt], tn, d, e, rfl, .cons ⟨_, rfl⟩ .nil⟩, .inl rfl⟩, kp⟩
/-- THE RULE for a def of two parameters, the second with a default: called with both, called with one -/
theorem fnD1 {i : Int} (F : FunD K x qual (defArgs st) (defBody st) (defScope st) [V.int i] [] f fd) (S : FnScope N ps (defScope st)) (hm : mg x = some (.ref f)) (hps : ps.length = 2) (hl : ∀ ds r, R ds r → ds.length = ps.length)
    (hb1 : ∀ (T : Addr) (kV doc pm : Value) (an : Option Addr) (cdv ct : Value) (us its : List Value), us.length = 1 → its.length = 1 →
      ∃ k, bindArgs (PySem.W.fnOf x qual (defArgs st) (defBody st) (defScope st) (.ref T) kV doc pm an cdv ct) ⟨us, []⟩ = seqItems? (.ref T) >>= k ∧ k (some its.toArray) = pure (ps.zip (us ++ its.drop 0)))
    (hb2 : ∀ (T : Addr) (kV doc pm : Value) (an : Option Addr) (cdv ct : Value) (us its : List Value), us.length = 2 → its.length = 1 →
      ∃ k, bindArgs (PySem.W.fnOf x qual (defArgs st) (defBody st) (defScope st) (.ref T) kV doc pm an cdv ct) ⟨us, []⟩ = seqItems? (.ref T) >>= k ∧ k (some its.toArray) = pure (ps.zip (us ++ its.drop 1)))
    (hbody : ∀ (cdv : Value) (A : Around) (outer : List PySem.Env) (s : Shared) (H : Hp) (E : XK) (ds : List D) (r : Res), Room k (A.deeper (envOfC qual (defScope st) s.heap.objs.size f cdv)) → R ds r →
      PSs (cxOf (L2.CX P w) P w K mg base N qual (defScope st) f cdv A outer s H E) (defBody st) (sD K (WE1 E) (envOf N ds) (OutR r))) : FnD P w K mg base (k + 1) x [] R ∧ FnD P w K mg base (k + 1) x [.int i] R := by
  have G : FnOk P w K mg base (L2.CX P w) (k + 1) f fd ps (spR K R) :=
    F.ok S (fun vs H Q E ⟨ds, r, hR, hv, _⟩ => hv.len.trans (hl ds r hR)) fun cdv A outer s H vs Q E hr ⟨ds, r, hR, hv, hq⟩ => ⟨_, hbody cdv A outer s H E ds r hr hR, body_read hv hq fun _ h => h⟩
  obtain ⟨d1, v1, b1⟩ := F.binds1 1 0 (fun z => nomatch z) (by rw [hps]; rfl) hb1
  obtain ⟨d2, v2, b2⟩ := F.binds1 2 1 (fun z => nomatch z) (by rw [hps]; rfl) hb2
  have e2 : d2 = [] := by
    have v2' : Vals [] d2 := v2
    cases v2'
    rfl
  subst e2
  exact ⟨⟨f, fd, ps, [], [], G, hm, F.kp, b2, .nil, fun _ => .nil⟩, ⟨f, fd, ps, _, _, G, hm, F.kp, b1, v1, fun H => .cons (.int i) .nil⟩⟩
end
/-- the cells of (script + [0])[:63] -/
def cells (n : Nat) (ns : List Int) : List Int := (ns ++ [0]).take n
theorem cells_len (n : Nat) (ns : List Int) : (cells n ns).length = min n (ns.length + 1) := by unfold cells; simp
theorem cells_map (n : Nat) (ns : List Int) : (ns.map D.int ++ [D.int 0]).take n = (cells n ns).map D.int := by
  unfold cells
  rw [List.map_take, List.map_append]
  rfl
end Gd

set_option Elab.async false
set_option linter.all false
set_option maxRecDepth 100000
set_option maxHeartbeats 4000000
/-! M5: whole points of the plane: plain mathematics, no program. -/
namespace Gd
abbrev Z2 := Int × Int
def mulP (a b : Z2) : Z2 := (a.1 * b.1 - a.2 * b.2, a.1 * b.2 + a.2 * b.1)
def addP (a b : Z2) : Z2 := (a.1 + b.1, a.2 + b.2)
def nrm (a : Z2) : Int := a.1 * a.1 + a.2 * a.2
def conj (a : Z2) : Z2 := (a.1, 0 - a.2)
def near (a b : Int) : Int := (2 * a + b) / (2 * b)
def quo (p d : Z2) : Z2 := (near (mulP p (conj d)).1 (nrm d), near (mulP p (conj d)).2 (nrm d))
def subm (o f t : Z2) : Z2 := (o.1 - (mulP f t).1, o.2 - (mulP f t).2)
def Dv (d p : Z2) : Prop := ∃ q, p = mulP d q
theorem z2_ext {a b : Z2} (h1 : a.1 = b.1) (h2 : a.2 = b.2) : a = b := by
  obtain ⟨a1, a2⟩ := a
  obtain ⟨b1, b2⟩ := b
  dsimp only at h1 h2
  rw [h1, h2]
theorem sq_nn (x : Int) : 0 ≤ x * x := by
  rcases Int.le_total 0 x with h | h
  · exact Int.mul_nonneg h h
  · exact Int.mul_nonneg_of_nonpos_of_nonpos h h
theorem sq_zero {x : Int} (h : x * x = 0) : x = 0 := by
  rcases Int.mul_eq_zero.mp h with h | h <;> exact h
theorem nrm_nn (a : Z2) : 0 ≤ nrm a := Int.add_nonneg (sq_nn _) (sq_nn _)
theorem nrm_zero {a : Z2} : nrm a = 0 ↔ a = (0, 0) := by
  constructor
  · intro h
    have h1 := sq_nn a.1
    have h2 := sq_nn a.2
    unfold nrm at h
    exact z2_ext (sq_zero (by omega)) (sq_zero (by omega))
  · rintro rfl
    rfl
theorem nrm_pos {a : Z2} (h : a ≠ (0, 0)) : 0 < nrm a := by
  have h1 := nrm_nn a
  have h2 : nrm a ≠ 0 := fun z => h (nrm_zero.mp z)
  omega
theorem mulP_comm (a b : Z2) : mulP a b = mulP b a := by
  unfold mulP
  apply z2_ext <;> (dsimp only; grind)
theorem mulP_assoc (a b c : Z2) : mulP (mulP a b) c = mulP a (mulP b c) := by
  unfold mulP
  apply z2_ext <;> (dsimp only; grind)
theorem mulP_one (a : Z2) : mulP a (1, 0) = a := by
  unfold mulP
  apply z2_ext <;> (dsimp only; grind)
theorem one_mulP (a : Z2) : mulP (1, 0) a = a := by rw [mulP_comm, mulP_one]
theorem mulP_zero (a : Z2) : mulP a (0, 0) = (0, 0) := by
  unfold mulP
  apply z2_ext <;> (dsimp only; grind)
theorem zero_mulP (a : Z2) : mulP (0, 0) a = (0, 0) := by rw [mulP_comm, mulP_zero]
theorem mulP_add (a b c : Z2) : mulP a (addP b c) = addP (mulP a b) (mulP a c) := by
  unfold mulP addP
  apply z2_ext <;> (dsimp only; grind)
theorem nrm_mul (a b : Z2) : nrm (mulP a b) = nrm a * nrm b := by
  unfold nrm mulP
  dsimp only
  grind
theorem nrm_conj (a : Z2) : nrm (conj a) = nrm a := by
  unfold nrm conj
  dsimp only
  grind
theorem mul_conj (a : Z2) : mulP a (conj a) = (nrm a, 0) := by
  unfold nrm mulP conj
  apply z2_ext <;> (dsimp only; grind)
theorem scal_mul (n : Int) (q : Z2) : mulP (n, 0) q = (n * q.1, n * q.2) := by
  unfold mulP
  apply z2_ext <;> (dsimp only; grind)
theorem scal_inj {n : Int} {p q : Z2} (hn : n ≠ 0) (h : mulP (n, 0) p = mulP (n, 0) q) : p = q := by
  rw [scal_mul, scal_mul] at h
  injection h with h1 h2
  exact z2_ext (Int.eq_of_mul_eq_mul_left hn h1) (Int.eq_of_mul_eq_mul_left hn h2)
theorem mulP_cancel {d p q : Z2} (hd : d ≠ (0, 0)) (h : mulP d p = mulP d q) : p = q := by
  have h1 : mulP (conj d) (mulP d p) = mulP (conj d) (mulP d q) := by rw [h]
  rw [← mulP_assoc, ← mulP_assoc, mulP_comm (conj d) d, mul_conj] at h1
  exact scal_inj (fun z => hd (nrm_zero.mp z)) h1
theorem mulP_eq_zero {a b : Z2} (h : mulP a b = (0, 0)) : a = (0, 0) ∨ b = (0, 0) := by
  by_cases ha : a = (0, 0)
  · exact .inl ha
  · exact .inr (mulP_cancel ha (h.trans (mulP_zero a).symm))
/-- dividing by whole numbers -/
theorem near_spec {a b : Int} (hb : 0 < b) : 0 - b ≤ 2 * (a - near a b * b) ∧ 2 * (a - near a b * b) < b := by
  unfold near
  have h1 := Int.ediv_mul_le (2 * a + b) (show 2 * b ≠ 0 by omega)
  have h2 := Int.lt_ediv_add_one_mul_self (2 * a + b) (show 0 < 2 * b by omega)
  generalize (2 * a + b) / (2 * b) = q at *
  have e1 : q * (2 * b) = 2 * (q * b) := by grind
  have e2 : (q + 1) * (2 * b) = 2 * (q * b) + 2 * b := by grind
  rw [e1] at h1
  rw [e2] at h2
  generalize q * b = z at *
  omega
theorem near_mul {q b : Int} (hb : 0 < b) : near (b * q) b = q := by
  unfold near
  have e : 2 * (b * q) + b = b + (2 * b) * q := by grind
  rw [e, Int.add_mul_ediv_left _ _ (by omega : 2 * b ≠ 0)]
  have : b / (2 * b) = 0 := Int.ediv_eq_zero_of_lt (by omega) (by omega)
  omega
theorem quo_mul {d q : Z2} (hd : d ≠ (0, 0)) : quo (mulP d q) d = q := by
  have e : mulP (mulP d q) (conj d) = (nrm d * q.1, nrm d * q.2) := by rw [mulP_comm d q, mulP_assoc, mul_conj, mulP_comm, scal_mul]
  unfold quo
  rw [e]
  exact z2_ext (near_mul (nrm_pos hd)) (near_mul (nrm_pos hd))
theorem subm_zero {o f t : Z2} : subm o f t = (0, 0) ↔ o = mulP f t := by
  unfold subm
  constructor
  · intro h
    injection h with h1 h2
    exact z2_ext (by omega) (by omega)
  · rintro rfl
    exact z2_ext (Int.sub_self _) (Int.sub_self _)
/-- whether d goes into p, as the program has it -/
def goesB (d p : Z2) : Bool := if d = (0, 0) then decide (p = (0, 0)) else decide (subm p (quo p d) d = (0, 0))
theorem goesB_iff (d p : Z2) : goesB d p = true ↔ Dv d p := by
  unfold goesB
  by_cases hd : d = (0, 0)
  · rw [if_pos hd, decide_eq_true_iff]
    subst hd
    constructor
    · rintro rfl
      exact ⟨(0, 0), rfl⟩
    · rintro ⟨q, rfl⟩
      exact zero_mulP q
  · rw [if_neg hd, decide_eq_true_iff, subm_zero]
    constructor
    · intro h
      exact ⟨quo p d, by rw [mulP_comm]; exact h⟩
    · rintro ⟨q, rfl⟩
      rw [quo_mul hd, mulP_comm]
theorem dv_exact {d p : Z2} (hd : d ≠ (0, 0)) : Dv d p ↔ ((mulP p (conj d)).1 % nrm d = 0 ∧ (mulP p (conj d)).2 % nrm d = 0) := by
  constructor
  · rintro ⟨q, rfl⟩
    have e : mulP (mulP d q) (conj d) = (nrm d * q.1, nrm d * q.2) := by rw [mulP_comm d q, mulP_assoc, mul_conj, mulP_comm, scal_mul]
    rw [e]
    exact ⟨Int.mul_emod_right _ _, Int.mul_emod_right _ _⟩
  · rintro ⟨h1, h2⟩
    obtain ⟨a, ha⟩ := Int.dvd_of_emod_eq_zero h1
    obtain ⟨b, hb⟩ := Int.dvd_of_emod_eq_zero h2
    refine ⟨(a, b), ?_⟩
    have hn : nrm d ≠ 0 := fun z => hd (nrm_zero.mp z)
    refine scal_inj hn ?_
    have e1 : mulP (mulP p (conj d)) d = mulP (nrm d, 0) p := by rw [mulP_assoc, mulP_comm (conj d) d, mul_conj, mulP_comm]
    have e2 : mulP p (conj d) = mulP (nrm d, 0) (a, b) := by rw [scal_mul]; exact z2_ext ha hb
    rw [← e1, e2, mulP_assoc, mulP_comm (a, b) d]
/-- the rest of a division -/
theorem sq_le {x n : Int} (h1 : 0 - n ≤ x) (h2 : x ≤ n) : x * x ≤ n * n := by
  have h : 0 ≤ (n - x) * (n + x) := Int.mul_nonneg (by omega) (by omega)
  have e : (n - x) * (n + x) = n * n - x * x := by grind
  omega
theorem rest_nrm {p d : Z2} (hd : d ≠ (0, 0)) : 2 * nrm (subm p (quo p d) d) ≤ nrm d := by
  have hn := nrm_pos hd
  have n1 := near_spec (a := (mulP p (conj d)).1) hn
  have n2 := near_spec (a := (mulP p (conj d)).2) hn
  have e : mulP (subm p (quo p d) d) (conj d) = ((mulP p (conj d)).1 - near (mulP p (conj d)).1 (nrm d) * nrm d, (mulP p (conj d)).2 - near (mulP p (conj d)).2 (nrm d) * nrm d) := by
    show mulP (subm p (near (mulP p (conj d)).1 (nrm d), near (mulP p (conj d)).2 (nrm d)) d) (conj d) = _
    generalize near (mulP p (conj d)).1 (nrm d) = q1
    generalize near (mulP p (conj d)).2 (nrm d) = q2
    unfold subm mulP conj nrm
    apply z2_ext <;> (dsimp only; grind)
  have e2 := nrm_mul (subm p (quo p d) d) (conj d)
  rw [e, nrm_conj] at e2
  generalize (mulP p (conj d)).1 - near (mulP p (conj d)).1 (nrm d) * nrm d = x at *
  generalize (mulP p (conj d)).2 - near (mulP p (conj d)).2 (nrm d) * nrm d = y at *
  generalize nrm (subm p (quo p d) d) = r at *
  generalize nrm d = n at *
  unfold nrm at e2
  dsimp only at e2
  have s1 := sq_le (x := 2 * x) (n := n) (by omega) (by omega)
  have s2 := sq_le (x := 2 * y) (n := n) (by omega) (by omega)
  have e3 : 2 * x * (2 * x) + 2 * y * (2 * y) = 4 * (x * x + y * y) := by grind
  have e4 : n * (2 * r) ≤ n * n := by
    have e5 : n * (2 * r) = 2 * (r * n) := by grind
    generalize r * n = z at *
    generalize n * n = z2 at *
    generalize x * x + y * y = z3 at *
    omega
  exact Int.le_of_mul_le_mul_left e4 hn
theorem rest_lt {p d : Z2} (hd : d ≠ (0, 0)) : nrm (subm p (quo p d) d) < nrm d := by
  have h1 := rest_nrm (p := p) hd
  have h2 := nrm_pos hd
  have h3 := nrm_nn (subm p (quo p d) d)
  omega
end Gd

set_option Elab.async false
set_option linter.all false
set_option maxRecDepth 100000
set_option maxHeartbeats 4000000
/-! G5: dividing: bounds; equal points. -/
namespace Gd
open PySem PySem.Spec PyProof.Rows L2
/-- a point's numbers below 2 ^ n -/
def BdP (n : Nat) (p : Z2) : Prop := Bd n p.1 ∧ Bd n p.2
theorem BdP.mono {n m : Nat} {p : Z2} (h : BdP n p) (hn : n ≤ m) : BdP m p := ⟨h.1.mono hn, h.2.mono hn⟩
theorem BdP.mul {n m : Nat} {p q : Z2} (h : BdP n p) (k : BdP m q) : BdP (n + m + 1) (mulP p q) := ⟨(h.1.mul k.1).sub (h.2.mul k.2), (h.1.mul k.2).add (h.2.mul k.1)⟩
theorem BdP.nrmB {n : Nat} {p : Z2} (h : BdP n p) : Bd (n + n + 1) (nrm p) := (h.1.mul h.1).add (h.2.mul h.2)
theorem BdP.conjB {n : Nat} {p : Z2} (h : BdP n p) : BdP n (conj p) := ⟨h.1, by show Bd n (0 - p.2); rw [Int.zero_sub]; exact h.2.neg⟩
theorem Bd.near {n : Nat} {a b : Int} (ha : Bd n a) (hb : Bd n b) (h0 : 0 < b) : Bd (n + 2) (near a b) := by
  unfold Gd.near
  have h1 : Bd (n + 1) (2 * a) := by
    have e : 2 * a = a + a := by omega
    rw [e]
    exact ha.add ha
  exact Bd.div (by omega) (h1.add (hb.mono (Nat.le_succ n)))
theorem BdP.quoB {n m : Nat} {p d : Z2} (h : BdP n p) (k : BdP m d) (hd : d ≠ (0, 0)) (hm : m ≤ n) : BdP (n + m + 3) (quo p d) := by
  have e := h.mul k.conjB
  have f : Bd (n + m + 1) (nrm d) := k.nrmB.mono (by omega)
  exact ⟨e.1.near f (nrm_pos hd), e.2.near f (nrm_pos hd)⟩
theorem BdP.quoB' {n m k : Nat} {p d : Z2} (h : BdP n p) (hk : BdP m d) (hd : d ≠ (0, 0)) (h1 : n + m + 3 ≤ k) (h2 : m + m + 3 ≤ k) : BdP k (quo p d) := by
  have e := h.mul hk.conjB
  have f := hk.nrmB
  rcases Nat.le_total m n with c | c
  · exact (h.quoB hk hd c).mono h1
  · have h' := h.mono c
    exact (h'.quoB hk hd (Nat.le_refl m)).mono h2
theorem BdP.submB {n m k : Nat} {o f t : Z2} (ho : BdP n o) (hf : BdP m f) (ht : BdP k t) (h : n ≤ m + k + 1) : BdP (m + k + 2) (subm o f t) := by
  have e := hf.mul ht
  have o' := ho.mono h
  exact ⟨o'.1.sub e.1, o'.2.sub e.2⟩
theorem ptP_ne {p : Z2} (h : p ≠ (0, 0)) : (decide (p.1 = 0) && decide (p.2 = 0)) = false := by
  cases e : (decide (p.1 = 0) && decide (p.2 = 0)) with
  | false => rfl
  | true =>
    rw [Bool.and_eq_true, decide_eq_true_iff, decide_eq_true_iff] at e
    exact absurd (z2_ext e.1 e.2) h
theorem dec_zero (p : Z2) : (decide (p.1 = 0) && decide (p.2 = 0)) = decide (p = (0, 0)) := by
  by_cases h : p = (0, 0)
  · rw [decide_eq_true h]
    subst h
    rfl
  · rw [decide_eq_false h, ptP_ne h]
end Gd

set_option Elab.async false
set_option linter.all false
set_option maxRecDepth 100000
set_option maxHeartbeats 4000000
/-! G6: an error that a try catches and keeps in a name: from then on a tracked object (D.exc). -/
namespace Gd
open PySem PySem.Spec PyProof.Rows L2
section
variable {X : Cx} {pins : List (Addr × Obj)} {σ : L2.St} {H : Hp} {sI s' : Shared} {B : Heap}
/-- the state without the error, carried to a heap where it stands, the error tracked -/
theorem landT {a C : Addr} {oe : Obj} {vs : Array Value} (J : Inv X pins σ H sI) (nb : ∀ b o, sI.heap.get? b = some o → b ∉ frs X.stack → B.get? b = some o) (st : B.StaysIn s'.heap) (up : sI.heap.UpToSlots s'.heap)
    (os : s'.os = sI.os) (ag : AllBare s'.gens) (ha : s'.heap.get? a = some oe) (hz : Zc (.ref C) none oe) (hd : oe.data = .fields vs) (na : H a = none) (hB : B.get? a = none) (hnf : a ∉ frs X.stack) :
    Inv X pins σ (upd H a (ExcT C a)) s' := by
  have hI : sI.heap.get? a = none := by
    cases e : sI.heap.get? a with
    | none => rfl
    | some o =>
      have z := nb a o e hnf
      rw [hB] at z
      cases z
  have nea : ∀ b o, sI.heap.get? b = some o → b ≠ a := fun b o e z => by
    rw [z, hI] at e
    cases e
  have slotF : ∀ b ∈ frs X.stack, ∀ o, sI.heap.get? b = some o → ∃ sl, s'.heap.get? b = some { o with slots := sl } := fun b hb o e => by
    obtain ⟨_, o2, e2, h2⟩ := J.stack.mem hb
    have e3 : o = o2 := Option.some.inj (e.symm.trans e2)
    subst e3
    exact up b o e h2
  have U : Un (frs X.stack) [] H (upd H a (ExcT C a)) sI.heap s'.heap := by
    constructor
    · intro b o e _ hb _
      exact st b o (nb b o e hb)
    · intro b o e _ hb _
      exact slotF b hb o e
    · intro b o e n _
      rw [upd_ne (nea b o e)]
      exact n
    · intro b o e _
      by_cases hb : b ∈ frs X.stack
      · obtain ⟨sl, q⟩ := slotF b hb o e
        exact ⟨_, q⟩
      · exact ⟨o, st b o (nb b o e hb)⟩
    · intro b xs e
      rw [upd_ne (ne_of_none e na)]
      exact e
    · intro b o u e
      rw [upd_ne (ne_of_none e na)]
      exact e
    · intro b ps e
      exact ⟨#[], by rw [upd_ne (ne_of_none e na), e]; simp⟩
  have hk : HOk X.prog X.w (upd H a (ExcT C a)) s'.heap := by
    have h0 : HOk X.prog X.w H s'.heap := (J.inGround nb).kept st
    intro b o e
    by_cases hb : b = a
    · subst hb
      rw [upd_same] at e
      cases e
      exact ⟨⟨oe, vs, ha, hz.1, hz.2, hd⟩, ⟨oe, ha⟩, fun h1 h2 ⟨o1, v1, q1, q2⟩ k => ⟨o1, v1, k o1 q1, q2⟩⟩
    · rw [upd_ne hb] at e
      refine (h0 b o e).stay (fun c v _ q => q) (fun c q => ?_) fun c xs q => ?_
      · rw [upd_ne (ne_of_none q na)]; exact q
      · rw [upd_ne (ne_of_none q na)]; exact q
  exact J.call' os U hk ag fun _ z => nomatch z
theorem suite0 {a : Addr} (I : Inv X pins σ H sI) : Inv (X.suite a (X.pn ++ pins)) [] σ H sI := by
  obtain ⟨h1, h2, h3, h4, h5, h6, h7, h8, h9, h10, h11⟩ := I
  exact ⟨h1.suite _ _, h2, h3, h4, h5, h6, h7, h8, fun p hp => h9 p (by rw [List.append_nil] at hp; exact hp), h10, h11⟩
theorem unsuite0 {a : Addr} {pn : List (Addr × Obj)} (I : Inv (X.suite a (X.pn ++ pins)) pn σ H sI) (ok : X.Ok) : Inv X pins σ H sI := by
  obtain ⟨h1, h2, h3, h4, h5, h6, h7, h8, h9, h10, h11⟩ := I
  exact ⟨ok, h2, h3, h4, h5, h6, h7, h8, fun p hp => h9 p (List.mem_append_left _ hp), h10, h11⟩
end
section
variable {X : Cx} {W : WX} {ρ : Env} {P : Out → Prop} {x n y : Str} {body : List Stmt} {np py pn pa pos' pos : Pos} {c : Value}
/-- what the body of such a try is to reach: i the slot that keeps the error, j the clause's own name -/
def Tr (K : PySem.W.Frag) (c : Value) (i j : Nat) (P : Out → Prop) : Out → Prop
  | .nx ρ => P (.nx ρ)
  | .bk ρ => P (.bk ρ)
  | .ct ρ => P (.ct ρ)
  | .rt d => P (.rt d)
  | .ex C ρ => PySem.W.exmOne K (.ref C) c = some true ∧ P (.nx (((ρ.set j (some (.exc C))).set i (some (.exc C))).set j none))
theorem i_tryKeep (i j : Nat) (hs : X.stack = X.env :: X.outer) (hf : X.env.frame = some X.env.locals) (hN : X.N.Nodup) (hj : X.N[j]? = some n) (hln : X.env.kindOf n = some .local) (hi : X.N[i]? = some y) (hly : X.env.scope.names.lookup y = some .local) (hc : Names X x c)
    (hb : ∀ (W1 : WX) (pn1 : List (Addr × Obj)) (xe : Value → Shared → Prop), Takes (X.tr pn1 xe) W1 → PassesOwn (model X.prog X.w) X.A X.env xe → PSs (X.tr pn1 xe) body (sD X.K W1 ρ (Tr X.K c i j P)))
    (hsw : swapsWith (.Name n pn) (some (.Name y py)) pa.line X.env = pure false := by rfl) (hdb1 : (n == ("__debug__" : Str)) = false := by decide) (hcd1 : (n == ("__classdict__" : Str)) = false := by decide) :
    PS X (.Try body [.ExceptHandler (some (.Name x np)) (some n) [.Assign [.Name y py] (.Name n pn) pa] pos'] [] [] pos) (sD X.K W ρ P) := by
  refine ⟨fun pins s σ H E I hw => ?_⟩
  obtain ⟨sd, q⟩ := hw
  have ok := I.ok
  have hfr : X.A.frames = some (X.env :: X.outer) := by rw [ok.frames, hs]
  let hd : ExceptHandler := .ExceptHandler (some (.Name x np)) (some n) [.Assign [.Name y py] (.Name n pn) pa] pos'
  let Wt : WX := fun cls d σ1 H1 => ∃ C ρ1, cls = .ref C ∧ d = none ∧ Sd X.K H1 σ1 ρ1 ∧ Same H H1 ∧ Tr X.K c i j P (.ex C ρ1)
  let xe1 : Value → Shared → Prop := fun e1 t1 => wpAny (model X.prog X.w) X.A (noteFrame e1 X.env) (fun _ t2 => wpAny (model X.prog X.w) X.A (setFlight e1 none) (fun _ t3 =>
    wpAny (model X.prog X.w) X.A (handleBy e1 X.env [hd]) (SP X pins E) X.xe t3) X.xe t2) X.xe t1
  refine wpAny_Try_except ?_
  have tk : Takes (X.tr (X.pn ++ pins) xe1) Wt := by
    intro u s' xx
    obtain ⟨a, B, sI, pins1, σ1, H1, cls, d, rfl, J1, nb, up, sky, na, os, ag, C, ρ1, rfl, rfl, sd1, e1, hx, hP⟩ := xx
    have J : Inv X pins σ1 H1 sI := J1.ofTry ok
    have sky1 : Sky B (X.env :: X.outer) a (Zc (.ref C) none) X.env.locals s'.heap := by rw [← hs]; exact sky
    show wpAny (model X.prog X.w) X.A (noteFrame (.ref a) X.env) _ _ _
    refine Sky.land Zc.steady hfr hf sky1 fun h3 fl3 up3 => ?_
    obtain ⟨oe3, vs3, he3, hz3, hd3⟩ := fl3.there
    have hB : B.get? a = none := fl3.2.1
    have hnf : a ∉ frs X.stack := fun hm => by
      rw [hs] at hm
      obtain ⟨_, o2, e2, h2⟩ := fl3.2.2.1.mem hm
      have e3 : oe3 = o2 := Option.some.inj (he3.symm.trans e2)
      subst e3
      exact h2 _ hd3
    have J3 : Inv X pins σ1 (upd H1 a (ExcT C a)) { s' with heap := h3 } := landT J nb fl3.1 (up.trans up3) os ag he3 hz3 hd3 na hB hnf
    have S3 := suite0 (a := a) J3
    refine wpAny_handleBy_cons (codeAny_handlers_test ?_) (by intro z; cases z)
    have LT : PySem.W.Looks (model X.prog X.w) h3 (typeOf (.ref a)) (.ref C) := fun A Q E s k z => wpAny_typeOf_ref (k _ _ he3) (by rw [hz3.1]; exact z)
    have LM := PySem.W.exm_one (M := model X.prog X.w) J3.kIn LT hx
    have test : ∀ {Q : Value → Shared → Prop} {E1 : Value → Shared → Prop}, Q c { s' with heap := h3 } → wpAny (model X.prog X.w) (X.A.mark (some (.ref a))) (eval (.Name x np) X.env) Q E1 { s' with heap := h3 } := by
      intro Q E1 z
      obtain ⟨hg, hdb, hm | ⟨hm, hv, hnn⟩⟩ := hc
      · exact ld_glob S3 hg hm z hdb
      · exact ld_blt S3 hg hm hv z hnn hdb
    refine test (LM.here ?_)
    refine codeAny_handlers_suite_as ?_
    refine HandSPX.lands_againZ fl3 fun h4 fl4 up4 => ?_
    obtain ⟨oe4, vs4, he4, hz4, hd4⟩ := fl4.there
    have J4 : Inv X pins σ1 (upd H1 a (ExcT C a)) { s' with heap := h4 } := landT J nb fl4.1 ((up.trans up3).trans up4) os ag he4 hz4 hd4 na hB hnf
    have S4 := suite0 (a := a) J4
    have r4 : Rp X.K (upd H1 a (ExcT C a)) (.ref a) (.exc C) := .exc upd_same
    have sd4 : Sd X.K (upd H1 a (ExcT C a)) σ1 ρ1 := sd1.mono (same_new na)
    refine store_ok (X := X.suite a (X.pn ++ pins)) (v := .ref a) S4 hN hj (.inl hln) rfl (fun s5 S5 => ?_) (.inr hln)
    have hjl : j < ρ1.length := by
      rw [← sd1.1, J.len]
      exact (List.getElem?_eq_some_iff.mp hj).1
    have pst : PSs (X.suite a (X.pn ++ pins)) [.Assign [.Name y py] (.Name n pn) pa] (sD X.K W (ρ1.set j (some (.exc C))) (fun o => o = .nx ((ρ1.set j (some (.exc C))).set i (some (.exc C))))) :=
      pss_one (i_set (X := X.suite a (X.pn ++ pins)) (i := i) (x_var (X := X.suite a (X.pn ++ pins)) (d := .exc C) j (by rw [List.getElem?_set_self hjl]) hj (.inl hln) hdb1 hcd1) rfl hN hi (.inl hly) hsw (.inr hly))
    refine wpAny_mono (pst.run [] s5 _ _ { nx := fun σ' H' => ∃ σ2, σ' = σ2 ∧ Same H H' ∧ Sd X.K H' σ' ((ρ1.set j (some (.exc C))).set i (some (.exc C))), rt := fun _ _ => False } S5 ⟨sd4.set r4, fun o ho => ?_⟩) (fun f s6 hsp => ?_) fun _ _ z => False.elim z
    · subst ho
      exact fun σ' H' e' z => ⟨σ', rfl, (e1.trans (same_new na)).trans e', z⟩
    · cases f with
      | next =>
        obtain ⟨σ6, H6, S6, σ2, _, e6, z6⟩ := hsp
        refine gone_ok (unsuite0 S6 ok) hN hj hln fun s7 J7 => ?_
        exact ⟨_, _, J7, q _ hP _ _ e6 z6.none⟩
      | brk => obtain ⟨_, _, _, z⟩ := hsp; exact z.elim
      | cont => obtain ⟨_, _, _, z⟩ := hsp; exact z.elim
      | ret u => obtain ⟨_, _, _, _, _, z⟩ := hsp; exact z.elim
  refine wpAny_mono ((hb Wt (X.pn ++ pins) xe1 tk PassesOwn.looking).run [] s σ H E (I.toTry _) ⟨sd, fun o ho => ?_⟩) (fun f s1 hsp => ?_) (fun e s1 he => he)
  · cases o with
    | nx ρ1 => exact q _ ho
    | bk ρ1 => exact q _ ho
    | ct ρ1 => exact q _ ho
    | rt d => exact q _ ho
    | ex C ρ1 => exact fun σ1 H1 e1 s1 => ⟨C, ρ1, rfl, rfl, s1, e1, ho⟩
  · cases f with
    | next =>
      obtain ⟨σ1, H1, J1, z⟩ := hsp
      exact wpAny_execs_nil ⟨σ1, H1, J1.ofTry ok, z⟩
    | brk =>
      obtain ⟨σ1, H1, J1, z⟩ := hsp
      exact ⟨σ1, H1, J1.ofTry ok, z⟩
    | cont =>
      obtain ⟨σ1, H1, J1, z⟩ := hsp
      exact ⟨σ1, H1, J1.ofTry ok, z⟩
    | ret u =>
      obtain ⟨v, σ1, H1, J1, r1, z⟩ := hsp
      exact ⟨v, σ1, H1, J1.ofTry ok, r1, z⟩
end
/-! ### isinstance of a kept error -/
def rIsX (K : PySem.W.Frag) : List V → Hp → VK → Prop := fun xs H Q => ∃ (a C : Addr) (c : V) (cv : Value) (k : Bool), xs = [.ref a, c] ∧ H a = some (ExcT C a) ∧ ExcC K C ∧ ClsV c cv ∧ PySem.W.kitOne K (.ref C) cv = some k ∧ Q (.bl k) H
section
variable {X : Cx}
theorem call_isX : CallR X (.builtin "isinstance") (rIsX X.K) := by
  intro pins s σ H xs us Q I r h
  obtain ⟨a, C, c, cv, k, rfl, hH, hx, hc, e, q⟩ := h
  obtain ⟨u1, u2, rfl, r1, r2⟩ := vals2 r
  cases (show u1 = Value.ref a from r1)
  have e2 := hc.eq r2
  subst e2
  obtain ⟨⟨oe, vs, hg, h1, h2, h3⟩, _, _⟩ := I.hok a _ hH
  have J : PySem.W.InstAt s.heap a oe C none := by
    obtain ⟨oc, od, oda, osl⟩ := oe
    dsimp only at h1 h2 h3
    subst h1 h2 h3
    exact ⟨hg, rfl, rfl, trivial⟩
  exact PySem.W.kia_one (PySem.W.handS_kitx_exc hx.hg hx.hk hx.hs hx.hd hx.ha hx.hn hx.ht hx.hm) I.kIn J e (fun z => nomatch z) fun tk => ⟨.bl k, H, I.tok tk, rfl, q⟩
variable {W : WX} {e o : Expr} {pos p p2 apos : Pos} {ρ : Env} {d : D} {C C2 : Addr} {T : Str} {k : Bool}
/-- isinstance(e, C2), both of the text's own classes -/
theorem x_isXX (he : PE X e (tD X.K ρ (.exc C))) (hx : ExcC X.K C) (hk : PySem.W.kitOne X.K (.ref C) (.ref C2) = some k) (hm : X.mg "isinstance" = none) (hT : X.mg T = some (.ref C2))
    (hg : Gl X "isinstance" := by rfl) (hgT : Gl X T := by rfl) (hdb : (T == ("__debug__" : Str)) = false := by decide)
    (hs : starEach [e, .Name T p2] X.env = (false, eval e X.env) :: starEach [.Name T p2] X.env := by rfl) (hpl : (backTo pos (starEach [.Name T p2] X.env)).any (·.1) = false := by rfl)
    (hs2 : starEach [.Name T p2] X.env = (false, eval (.Name T p2) X.env) :: starEach [] X.env := by rfl) : PE X (.Call (.Name "isinstance" p) [e, .Name T p2] [] pos) (tD X.K ρ (.bl k)) :=
  pe_wk (pe_callB call_isX hg hm (by decide +kernel) (pa_cons he (pa_cons (pe_glob (v := .ref C2) hgT hT rfl hdb) pa_nil hs2) hs) (by decide) (by decide) hs hpl) fun σ H Q ⟨s, q⟩ =>
    ⟨s, fun v H1 e1 r1 => by
      cases r1 with
      | @exc a _ h => exact ⟨a, C, .ref C2, .ref C2, k, rfl, h, hx, .own C2, hk, q _ H1 e1 (.bl k)⟩⟩
/-- isinstance(e, T), T a built-in class -/
theorem x_isXT {Tn : String} (he : PE X e (tD X.K ρ (.exc C))) (hx : ExcC X.K C) (hk : PySem.W.kitOne X.K (.ref C) (.type Tn) = some k) (hm : X.mg "isinstance" = none) (hT : X.mg T = none) (hv : bootBuiltins T = some (.type Tn))
    (hg : Gl X "isinstance" := by rfl) (hgT : Gl X T := by rfl) (hn : T ≠ "__name__" := by decide) (hdb : (T == ("__debug__" : Str)) = false := by decide)
    (hs : starEach [e, .Name T p2] X.env = (false, eval e X.env) :: starEach [.Name T p2] X.env := by rfl) (hpl : (backTo pos (starEach [.Name T p2] X.env)).any (·.1) = false := by rfl)
    (hs2 : starEach [.Name T p2] X.env = (false, eval (.Name T p2) X.env) :: starEach [] X.env := by rfl) : PE X (.Call (.Name "isinstance" p) [e, .Name T p2] [] pos) (tD X.K ρ (.bl k)) :=
  pe_wk (pe_callB call_isX hg hm (by decide +kernel) (pa_cons he (pa_cons (pe_bltn (v := .ty Tn) hgT hT hv rfl hn hdb) pa_nil hs2) hs) (by decide) (by decide) hs hpl) fun σ H Q ⟨s, q⟩ =>
    ⟨s, fun v H1 e1 r1 => by
      cases r1 with
      | @exc a _ h => exact ⟨a, C, .ty Tn, .type Tn, k, rfl, h, hx, .ty Tn, hk, q _ H1 e1 (.bl k)⟩⟩
/-- isinstance(e, C2), e plain data, C2 an own class -/
theorem x_isDX {t : String} (he : PE X e (tD X.K ρ d)) (ht : tyN d = some t) (hk : PySem.W.kitOne X.K (.type t) (.ref C2) = some k) (hm : X.mg "isinstance" = none) (hT : X.mg T = some (.ref C2))
    (hg : Gl X "isinstance" := by rfl) (hgT : Gl X T := by rfl) (hdb : (T == ("__debug__" : Str)) = false := by decide)
    (hs : starEach [e, .Name T p2] X.env = (false, eval e X.env) :: starEach [.Name T p2] X.env := by rfl) (hpl : (backTo pos (starEach [.Name T p2] X.env)).any (·.1) = false := by rfl)
    (hs2 : starEach [.Name T p2] X.env = (false, eval (.Name T p2) X.env) :: starEach [] X.env := by rfl) : PE X (.Call (.Name "isinstance" p) [e, .Name T p2] [] pos) (tD X.K ρ (.bl k)) :=
  pe_wk (pe_callB call_isi hg hm (by decide +kernel) (pa_cons he (pa_cons (pe_glob (v := .ref C2) hgT hT rfl hdb) pa_nil hs2) hs) (by decide) (by decide) hs hpl) fun σ H Q ⟨s, q⟩ =>
    ⟨s, fun v H1 e1 r1 => ⟨v, .ref C2, .type t, .ref C2, k, rfl, .own C2, r1.ty ht, hk, q _ H1 e1 (.bl k)⟩⟩
/-! ### count, index of a list of truths -/
theorem cntU {x : V} : ∀ {xs : List V} {us : List Value}, Vals xs us → xs.all flatV = true → us.countP (eqU x) = xs.countP fun y => eqV y x
  | _, _, .nil, _ => rfl
  | y :: xs, u :: us, .cons r t, f => by
    rw [List.all_cons, Bool.and_eq_true] at f
    rw [List.countP_cons, List.countP_cons, eqU_of r f.1, cntU t f.2]
def rCntF (K : PySem.W.Frag) : V → List V → Hp → VK → Prop := fun x xs H Q => ∃ (p : Addr) (ys : List V) (y : V), x = .ref p ∧ xs = [y] ∧ SqL K H p ys ∧ flatV y = true ∧ ys.all flatV = true ∧ Q (.int (ys.countP fun z => eqV z y : Nat)) H
theorem mt_countF : MtR X "list.count" (rCntF X.K) := by
  intro pins s σ H x xs v us Q I rx rxs h
  obtain ⟨p, ys, y, rfl, rfl, hs, fy, fys, q⟩ := h
  cases rx
  obtain ⟨u, rfl, ru⟩ := rxs.one
  obtain ⟨its, rv, ⟨⟨cls, dd, data, sl⟩, n, ho, hc, hdn, hd⟩, hlen⟩ := I.list hs
  simp only at hc hd
  subst hc hd
  refine call_meets PySem.F.slot_list_count ⟨_, ho, rfl⟩ PySem.F.entry_list_count (PySem.F.args_list_count_2 _ _) (SeqAt.list_countAt p its.toArray n dd sl u (eqU y)) ⟨ho, fun z hz => mem_eqAt ru fy rv fys z (by simpa using hz), ?_⟩
  have ec : its.toArray.toList.countP (eqU y) = ys.countP fun z => eqV z y := cntU rv fys
  refine ⟨.int (ys.countP fun z => eqV z y : Nat), H, I.tok _, ⟨s.toks, ?_⟩, q⟩
  show Value.int ((its.toArray.toList.countP (eqU y) : Nat) : Int) s.toks = _
  rw [ec]
theorem flat_bls (bs : List Bool) : (bs.map V.bl).all flatV = true := by
  rw [List.all_map]
  exact List.all_eq_true.mpr fun _ _ => rfl
theorem x_count {bs : List Bool} {j : Nat} {n : Int} (ho : PE X o (tD X.K ρ (.lst (bs.map .bl)))) (hn : (((bs.map V.bl).countP fun z => eqV z (.bl true) : Nat) : Int) = n) (hbase : attributeBase o "count" X.env (eval o X.env) = eval o X.env := by rfl)
    (hfew : ((backTo pos (starEach [.Constant (.bool true) j p] X.env)).all (fun x => !x.1) && (backToKw pos (keywordEach [] X.env)).all (fun x => x.1.isSome)
      && decide (([.Constant (.bool true) j p] : List Expr).length + ([] : List Keyword).length + (if ([] : List Keyword).isEmpty then 0 else 1) < 30)) = true := by rfl)
    (hline : (apos.endLine == pos.line) = true := by rfl) : PE X (.Call (.Attribute o "count" apos) [.Constant (.bool true) j p] [] pos) (tD X.K ρ (.int n)) :=
  pe_wk (pe_bm PySem.F.plainAttrs_list PySem.F.slot_list_count PySem.F.type_list_count mt_countF ho (pa_cons pe_bl pa_nil) hbase hfew hline) fun σ H Q ⟨s, q⟩ => ⟨s, fun v H1 e1 r1 => by
    cases r1 with
    | lst h r =>
      have z := r.bls_of
      subst z
      exact ⟨.inl ⟨rfl, _, h⟩, _, _, .bl true, rfl, rfl, h, rfl, flat_bls bs, by rw [hn]; exact q _ H1 e1 (.int n)⟩⟩
theorem x_index {bs : List Bool} {j m : Nat} (ho : PE X o (tD X.K ρ (.lst (bs.map .bl)))) (h1 : bs[m]? = some true) (h2 : ∀ i, i < m → bs[i]? = some false) (hbase : attributeBase o "index" X.env (eval o X.env) = eval o X.env := by rfl)
    (hfew : ((backTo pos (starEach [.Constant (.bool true) j p] X.env)).all (fun x => !x.1) && (backToKw pos (keywordEach [] X.env)).all (fun x => x.1.isSome)
      && decide (([.Constant (.bool true) j p] : List Expr).length + ([] : List Keyword).length + (if ([] : List Keyword).isEmpty then 0 else 1) < 30)) = true := by rfl)
    (hline : (apos.endLine == pos.line) = true := by rfl) : PE X (.Call (.Attribute o "index" apos) [.Constant (.bool true) j p] [] pos) (tD X.K ρ (.int m)) :=
  pe_wk (pe_bm PySem.F.plainAttrs_list PySem.F.slot_list_index PySem.F.type_list_index mt_index ho (pa_cons pe_bl pa_nil) hbase hfew hline) fun σ H Q ⟨s, q⟩ => ⟨s, fun v H1 e1 r1 => by
    cases r1 with
    | lst h r =>
      have z := r.bls_of
      subst z
      refine ⟨.inl ⟨rfl, _, h⟩, _, _, .bl true, m, .bl true, rfl, rfl, h, rfl, flat_bls bs, by rw [List.getElem?_map, h1]; rfl, rfl, fun i z hi hz => ?_, q _ H1 e1 (.int _)⟩
      rw [List.getElem?_map, h2 i hi] at hz
      cases hz
      rfl⟩
end
/-- the four classes of errors, as the text has made them -/
structure Err4 (K : PySem.W.Frag) (mg : Str → Option Value) (Cb Cp Cn Cq : Addr) : Prop where
  gb : mg "PointError" = some (.ref Cb)
  gp : mg "NoPoint" = some (.ref Cp)
  gn : mg "NoNumber" = some (.ref Cn)
  gq : mg "NoQuotient" = some (.ref Cq)
  xp : ExcC K Cp
  xn : ExcC K Cn
  xq : ExcC K Cq
  bp : PySem.W.exmOne K (.ref Cp) (.ref Cb) = some true
  bn : PySem.W.exmOne K (.ref Cn) (.ref Cb) = some true
  bq : PySem.W.exmOne K (.ref Cq) (.ref Cb) = some true
  pp : PySem.W.kitOne K (.ref Cp) (.ref Cp) = some true
  pn : PySem.W.kitOne K (.ref Cp) (.ref Cn) = some false
  pq : PySem.W.kitOne K (.ref Cp) (.ref Cq) = some false
  np : PySem.W.kitOne K (.ref Cn) (.ref Cp) = some false
  nn : PySem.W.kitOne K (.ref Cn) (.ref Cn) = some true
  nq : PySem.W.kitOne K (.ref Cn) (.ref Cq) = some false
  qp : PySem.W.kitOne K (.ref Cq) (.ref Cp) = some false
  qn : PySem.W.kitOne K (.ref Cq) (.ref Cn) = some false
  qq : PySem.W.kitOne K (.ref Cq) (.ref Cq) = some true
  pv : PySem.W.kitOne K (.ref Cp) (.type "ValueError") = some true
  nv : PySem.W.kitOne K (.ref Cn) (.type "ValueError") = some true
  qv : PySem.W.kitOne K (.ref Cq) (.type "ValueError") = some true
  op : PySem.W.kitOne K (.type "NoneType") (.ref Cp) = some false
  on : PySem.W.kitOne K (.type "NoneType") (.ref Cn) = some false
  oq : PySem.W.kitOne K (.type "NoneType") (.ref Cq) = some false
theorem kit_self {K : PySem.W.Frag} {C : Addr} : PySem.W.kitOne K (.ref C) (.ref C) = some true := by
  unfold PySem.W.kitOne
  rw [if_pos (by simp)]
theorem kit_ref {K : PySem.W.Frag} {C : Addr} {t : Value} {b : Bool} (h : PySem.W.isClsIn K C = true) (ht : PySem.W.typeIn K (.ref C) = some (.type "type")) (hs : PySem.W.subIn K t (.ref C) = some b) (hne : (t == .ref C) = false) : PySem.W.kitOne K t (.ref C) = some b := by
  unfold PySem.W.kitOne
  rw [hne, if_neg Bool.false_ne_true]
  show (if ((PySem.W.clsIn K C).isSome && PySem.W.typeIn K (.ref C) == some (.type "type")) = true then PySem.W.subIn K t (.ref C) else none) = some b
  have h' : (PySem.W.clsIn K C).isSome = true := h
  rw [h', ht, if_pos (by rfl)]
  exact hs
theorem kit_ve {K : PySem.W.Frag} {C : Addr} {b : Bool} (hs : PySem.W.subIn K (.ref C) (.type "ValueError") = some b) : PySem.W.kitOne K (.ref C) (.type "ValueError") = some b := by
  unfold PySem.W.kitOne
  rw [if_neg (by intro z; cases (beq_iff_eq.mp z))]
  show (if PySem.W.kitMeta "ValueError" = true then PySem.W.subIn K (.ref C) (.type "ValueError") else none) = some b
  rw [if_pos (by decide +kernel)]
  exact hs
end Gd

set_option Elab.async false
set_option linter.all false
set_option maxRecDepth 100000
set_option maxHeartbeats 4000000
set_option exponentiation.threshold 2000
/-! M6: the greatest common part: plain mathematics. -/
namespace Gd
open PySem PySem.Spec PyProof.Rows L2
abbrev Z6 := Z2 × Z2 × Z2
abbrev d6 (h : Z6) : D := .tup [ptP h.1, ptP h.2.1, ptP h.2.2]
def subm3 (h : Z6) (q : Z2) (n : Z6) : Z6 := (subm h.1 q n.1, subm h.2.1 q n.2.1, subm h.2.2 q n.2.2)
def eucl : Nat → Z6 → Z6 → Z6
  | 0, h, _ => h
  | k + 1, h, n => if n.1 = (0, 0) then h else eucl k n (subm3 h (quo h.1 n.1) n)
def rot3 (k : Nat) (h : Z6) : Z6 := (rotN k h.1, rotN k h.2.1, rotN k h.2.2)
def grt0 (a b : Z2) : Z6 := eucl 600 (a, (1, 0), (0, 0)) (b, (0, 0), (1, 0))
def grt (a b : Z2) : Z6 := rot3 (upK (grt0 a b).1) (grt0 a b)
theorem eucl_end {k : Nat} {h n : Z6} (e : n.1 = (0, 0)) : eucl k h n = h := by
  cases k with
  | zero => rfl
  | succ k =>
    unfold eucl
    rw [if_pos e]
theorem nrm_bd {p : Z2} {n : Nat} (h : BdP n p) : nrm p < 2 ^ (n + n + 1) := by
  have e : (nrm p).natAbs < 2 ^ (n + n + 1) := h.nrmB
  have p0 := nrm_nn p
  have e2 : ((nrm p).natAbs : Int) < ((2 ^ (n + n + 1) : Nat) : Int) := Int.ofNat_lt.mpr e
  rw [Int.natCast_pow] at e2
  generalize (n + n + 1) = k at *
  have : ((2 : Nat) : Int) ^ k = (2 : Int) ^ k := rfl
  omega
theorem bd_sq {x : Int} {n : Nat} (h : x * x < ((2 ^ (n + n) : Nat) : Int)) : Bd n x := by
  unfold Bd
  apply Nat.lt_of_not_le
  intro c
  have h1 : 2 ^ n * 2 ^ n ≤ x.natAbs * x.natAbs := Nat.mul_le_mul c c
  rw [← Nat.pow_add, ← Int.natAbs_mul] at h1
  have h2 : ((x * x).natAbs : Int) = x * x := Int.natAbs_of_nonneg (sq_nn x)
  have h3 : ((2 ^ (n + n) : Nat) : Int) ≤ ((x * x).natAbs : Int) := Int.ofNat_le.mpr h1
  rw [h2] at h3
  exact absurd h (Int.not_lt.mpr h3)
theorem bdP_nrm {p : Z2} {n : Nat} (h : nrm p < ((2 ^ (n + n) : Nat) : Int)) : BdP n p := by
  have h1 := sq_nn p.1
  have h2 := sq_nn p.2
  unfold nrm at h
  constructor
  · exact bd_sq (by omega)
  · exact bd_sq (by omega)
/-! divisors -/
theorem Dv.refl (a : Z2) : Dv a a := ⟨(1, 0), (mulP_one a).symm⟩
theorem Dv.zero (a : Z2) : Dv a (0, 0) := ⟨(0, 0), (mulP_zero a).symm⟩
theorem Dv.trans {a b c : Z2} (h : Dv a b) (k : Dv b c) : Dv a c := by
  obtain ⟨q, rfl⟩ := h
  obtain ⟨r, rfl⟩ := k
  exact ⟨mulP q r, mulP_assoc ..⟩
theorem Dv.mulR {a b : Z2} (h : Dv a b) (c : Z2) : Dv a (mulP b c) := h.trans ⟨c, rfl⟩
theorem Dv.add {a b c : Z2} (h : Dv a b) (k : Dv a c) : Dv a (addP b c) := by
  obtain ⟨q, rfl⟩ := h
  obtain ⟨r, rfl⟩ := k
  exact ⟨addP q r, (mulP_add ..).symm⟩
theorem Dv.subm {a o f t : Z2} (h : Dv a o) (k : Dv a t) : Dv a (subm o f t) := by
  obtain ⟨q, rfl⟩ := h
  obtain ⟨r, rfl⟩ := k
  refine ⟨(q.1 - (mulP f r).1, q.2 - (mulP f r).2), ?_⟩
  unfold Gd.subm mulP
  apply z2_ext <;> (dsimp only; grind)
theorem subm_back (o f t : Z2) : addP (subm o f t) (mulP f t) = o := by
  unfold subm addP
  apply z2_ext <;> (dsimp only; omega)
theorem rot1_mul (p : Z2) : rot1 p = mulP (0, 1) p := by
  unfold rot1 mulP
  apply z2_ext <;> (dsimp only; omega)
theorem rotN_mul (k : Nat) (p q : Z2) : rotN k (mulP p q) = mulP p (rotN k q) := by
  induction k with
  | zero => rfl
  | succ k ih =>
    show rot1 (rotN k (mulP p q)) = mulP p (rot1 (rotN k q))
    rw [ih, rot1_mul, rot1_mul, ← mulP_assoc, ← mulP_assoc, mulP_comm (0, 1) p]
theorem rotN_add (k : Nat) (p q : Z2) : rotN k (addP p q) = addP (rotN k p) (rotN k q) := by
  induction k with
  | zero => rfl
  | succ k ih =>
    show rot1 (rotN k (addP p q)) = addP (rot1 (rotN k p)) (rot1 (rotN k q))
    rw [ih, rot1_mul, rot1_mul, rot1_mul, mulP_add]
theorem rotN_unit (k : Nat) (p : Z2) : rotN k p = mulP p (rotN k (1, 0)) := by rw [← rotN_mul, mulP_one]
theorem dv_rot (k : Nat) (p : Z2) : Dv p (rotN k p) := ⟨rotN k (1, 0), rotN_unit k p⟩
theorem dv_rot' (k : Nat) (p : Z2) : Dv (rotN k p) p := by
  have h := dv_rot (4 - k % 4) (rotN k p)
  rw [rot_add, ← rot_mod p (4 - k % 4 + k)] at h
  have e : (4 - k % 4 + k) % 4 = 0 := by omega
  rw [e] at h
  exact h
theorem nrm_rot (k : Nat) (p : Z2) : nrm (rotN k p) = nrm p := by
  induction k with
  | zero => rfl
  | succ k ih =>
    rw [← ih]
    show nrm (rot1 (rotN k p)) = nrm (rotN k p)
    unfold nrm rot1
    dsimp only
    grind
theorem unit_rot {q : Z2} (h : nrm q = 1) : ∃ k, k < 4 ∧ q = rotN k (1, 0) := by
  obtain ⟨a, b⟩ := q
  unfold nrm at h
  dsimp only at h
  have ha := sq_nn a
  have hb := sq_nn b
  have ab : ∀ x : Int, x * x ≤ 1 → -1 ≤ x ∧ x ≤ 1 := by
    intro x hx
    constructor
    · apply Int.not_lt.mp
      intro c
      have : 0 < (0 - x - 1) * (0 - x + 1) := Int.mul_pos (by omega) (by omega)
      have e : (0 - x - 1) * (0 - x + 1) = x * x - 1 := by grind
      omega
    · apply Int.not_lt.mp
      intro c
      have : 0 < (x - 1) * (x + 1) := Int.mul_pos (by omega) (by omega)
      have e : (x - 1) * (x + 1) = x * x - 1 := by grind
      omega
  obtain ⟨a1, a2⟩ := ab a (by omega)
  obtain ⟨b1, b2⟩ := ab b (by omega)
  have ea : a = -1 ∨ a = 0 ∨ a = 1 := by omega
  have eb : b = -1 ∨ b = 0 ∨ b = 1 := by omega
  rcases ea with rfl | rfl | rfl <;> rcases eb with rfl | rfl | rfl <;> first
    | (exfalso; revert h; decide)
    | exact ⟨0, by decide, by decide⟩
    | exact ⟨1, by decide, by decide⟩
    | exact ⟨2, by decide, by decide⟩
    | exact ⟨3, by decide, by decide⟩
theorem mul_one_of {a b : Int} (ha : 0 ≤ a) (hb : 0 ≤ b) (h : a * b = 1) : a = 1 := by
  have a0 : a ≠ 0 := by
    rintro rfl
    rw [Int.zero_mul] at h
    cases h
  have b0 : b ≠ 0 := by
    rintro rfl
    rw [Int.mul_zero] at h
    cases h
  have h1 : 0 ≤ (b - 1) * a := Int.mul_nonneg (by omega) (by omega)
  have e : (b - 1) * a = a * b - a := by grind
  omega
/-- two points that divide each other are turns of each other -/
theorem assoc_rot {a b : Z2} (h : Dv a b) (k : Dv b a) : ∃ n, n < 4 ∧ b = rotN n a := by
  by_cases ha : a = (0, 0)
  · subst ha
    obtain ⟨q, rfl⟩ := h
    exact ⟨0, by decide, zero_mulP q⟩
  · obtain ⟨q, rfl⟩ := h
    obtain ⟨r, hr⟩ := k
    rw [mulP_assoc] at hr
    have e : (1, 0) = mulP q r := mulP_cancel ha ((mulP_one a).trans hr)
    have en : nrm q * nrm r = 1 := by rw [← nrm_mul, ← e]; rfl
    obtain ⟨n, hn, e2⟩ := unit_rot (mul_one_of (nrm_nn q) (nrm_nn r) en)
    exact ⟨n, hn, by rw [e2, ← rotN_unit]⟩
theorem assoc_up {a b : Z2} (h : Dv a b) (k : Dv b a) (ua : isUp a = true) (ub : isUp b = true) : b = a := by
  obtain ⟨n, hn, e⟩ := assoc_rot h k
  exact up_two hn e ua ub
/-! Euclid's way -/
structure EI (one other : Z2) (n : Nat) (h nx : Z6) : Prop where
  a : nrm h.1 < ((2 ^ 600 : Nat) : Int)
  b : nrm nx.1 < ((2 ^ n : Nat) : Int)
  nn : n ≤ 600
  c1 : BdP (605 * (600 - n) + 2) h.2.1
  c2 : BdP (605 * (600 - n) + 2) h.2.2
  c3 : BdP (605 * (600 - n) + 2) nx.2.1
  c4 : BdP (605 * (600 - n) + 2) nx.2.2
  d : h.1 = addP (mulP one h.2.1) (mulP other h.2.2)
  e : nx.1 = addP (mulP one nx.2.1) (mulP other nx.2.2)
  f : ∀ c, (Dv c h.1 ∧ Dv c nx.1) ↔ (Dv c one ∧ Dv c other)
theorem lin_subm {one other x1 x2 q y1 y2 : Z2} : subm (addP (mulP one x1) (mulP other x2)) q (addP (mulP one y1) (mulP other y2)) = addP (mulP one (subm x1 q y1)) (mulP other (subm x2 q y2)) := by
  unfold subm addP mulP
  apply z2_ext <;> (dsimp only; grind)
theorem pow_le_600 {n : Nat} (h : n ≤ 600) : ((2 ^ n : Nat) : Int) ≤ ((2 ^ 600 : Nat) : Int) := Int.ofNat_le.mpr (Nat.pow_le_pow_right (by decide) h)
theorem EI.h300 {one other : Z2} {n : Nat} {h nx : Z6} (I : EI one other n h nx) : BdP 300 h.1 := bdP_nrm (n := 300) I.a
theorem EI.n300 {one other : Z2} {n : Nat} {h nx : Z6} (I : EI one other n h nx) : BdP 300 nx.1 := bdP_nrm (n := 300) (Int.lt_of_lt_of_le I.b (pow_le_600 I.nn))
theorem EI.q603 {one other : Z2} {n : Nat} {h nx : Z6} (I : EI one other n h nx) (hn : nx.1 ≠ (0, 0)) : BdP 603 (quo h.1 nx.1) := I.h300.quoB' I.n300 hn (by decide) (by decide)
theorem EI.step {one other : Z2} {n : Nat} {h nx : Z6} (I : EI one other n h nx) (hn : nx.1 ≠ (0, 0)) : ∃ k, n = k + 1 ∧ EI one other k nx (subm3 h (quo h.1 nx.1) nx) := by
  have hp := nrm_pos hn
  have hr := rest_nrm (p := h.1) hn
  have q3 := I.q603 hn
  cases n with
  | zero =>
    have e : ((2 ^ 0 : Nat) : Int) = 1 := rfl
    have b := I.b
    rw [e] at b
    omega
  | succ k =>
    have hk := I.nn
    have hb := I.b
    have e2 : ((2 ^ (k + 1) : Nat) : Int) = 2 * ((2 ^ k : Nat) : Int) := by rw [Nat.pow_succ, Nat.mul_comm, Int.natCast_mul]; rfl
    have en : 605 * (600 - k) + 2 = 605 * (600 - (k + 1)) + 2 + 605 := by omega
    have hs : ∀ {x y : Z2}, BdP (605 * (600 - (k + 1)) + 2) x → BdP (605 * (600 - (k + 1)) + 2) y → BdP (605 * (600 - k) + 2) (subm x (quo h.1 nx.1) y) := by
      intro x y hx hy
      exact (hx.submB q3 hy (by omega)).mono (by omega)
    refine ⟨k, rfl, ?_⟩
    exact {
      a := Int.lt_of_lt_of_le I.b (pow_le_600 I.nn)
      b := by
        show nrm (subm h.1 (quo h.1 nx.1) nx.1) < _
        rw [e2] at hb
        omega
      nn := by omega
      c1 := I.c3.mono (by omega)
      c2 := I.c4.mono (by omega)
      c3 := hs I.c1 I.c3
      c4 := hs I.c2 I.c4
      d := I.e
      e := by
        show subm h.1 (quo h.1 nx.1) nx.1 = _
        have e3 : subm h.1 (quo h.1 nx.1) nx.1 = subm (addP (mulP one h.2.1) (mulP other h.2.2)) (quo h.1 nx.1) (addP (mulP one nx.2.1) (mulP other nx.2.2)) := by rw [← I.d, ← I.e]
        rw [e3]
        exact lin_subm
      f := fun c => by
        rw [← I.f c]
        constructor
        · rintro ⟨h1, h2⟩
          refine ⟨?_, h1⟩
          have e4 := (show Dv c (subm h.1 (quo h.1 nx.1) nx.1) from h2).add (show Dv c (mulP (quo h.1 nx.1) nx.1) by rw [mulP_comm]; exact h1.mulR _)
          rw [subm_back] at e4
          exact e4
        · rintro ⟨h1, h2⟩
          exact ⟨h2, h1.subm h2⟩ }
theorem EI.stop {one other : Z2} : ∀ {n : Nat} {h nx : Z6}, EI one other n h nx → ∃ nx', nx'.1 = (0, 0) ∧ EI one other 0 (eucl n h nx) nx'
  | 0, h, nx, I => by
    by_cases hn : nx.1 = (0, 0)
    · exact ⟨nx, hn, I⟩
    · obtain ⟨k, e, _⟩ := I.step hn
      cases e
  | n + 1, h, nx, I => by
    by_cases hn : nx.1 = (0, 0)
    · rw [eucl_end hn]
      have hz : nrm nx.1 = 0 := by rw [hn]; rfl
      refine ⟨nx, hn, I.a, by rw [hz]; decide, by omega, I.c1.mono (by omega), I.c2.mono (by omega), I.c3.mono (by omega), I.c4.mono (by omega), I.d, I.e, I.f⟩
    · obtain ⟨k, e, J⟩ := I.step hn
      cases e
      unfold eucl
      rw [if_neg hn]
      exact J.stop
theorem EI.start {one other : Z2} (h1 : BdP 299 one) (h2 : BdP 299 other) : EI one other 600 (one, (1, 0), (0, 0)) (other, (0, 0), (1, 0)) := by
  have z : ∀ {p : Z2}, BdP 299 p → nrm p < ((2 ^ 600 : Nat) : Int) := fun {p} h => by
    have e := nrm_bd h
    rw [Int.natCast_pow]
    exact Int.lt_of_lt_of_le e (by decide +kernel)
  have b1 : BdP (605 * (600 - 600) + 2) (1, 0) := ⟨by unfold Bd; decide, by unfold Bd; decide⟩
  have b0 : BdP (605 * (600 - 600) + 2) (0, 0) := ⟨by unfold Bd; decide, by unfold Bd; decide⟩
  exact {
    a := z h1
    b := z h2
    nn := Nat.le_refl _
    c1 := b1
    c2 := b0
    c3 := b0
    c4 := b1
    d := by
      show one = addP (mulP one (1, 0)) (mulP other (0, 0))
      rw [mulP_one, mulP_zero]
      exact z2_ext (Int.add_zero _).symm (Int.add_zero _).symm
    e := by
      show other = addP (mulP one (0, 0)) (mulP other (1, 0))
      rw [mulP_one, mulP_zero]
      exact z2_ext (Int.zero_add _).symm (Int.zero_add _).symm
    f := fun c => Iff.rfl }
/-- what the told part is -/
structure Gcd (one other : Z2) (g : Z6) : Prop where
  lin : g.1 = addP (mulP one g.2.1) (mulP other g.2.2)
  up : isUp g.1 = true
  l : Dv g.1 one
  r : Dv g.1 other
  b : BdP 300 g.1
  b1 : BdP 370000 g.2.1
  b2 : BdP 370000 g.2.2
theorem Gcd.all {one other : Z2} {g : Z6} (G : Gcd one other g) {c : Z2} (h1 : Dv c one) (h2 : Dv c other) : Dv c g.1 := by
  rw [G.lin]
  exact (h1.mulR _).add (h2.mulR _)
theorem Gcd.uniq {one other one' other' : Z2} {g g' : Z6} (G : Gcd one other g) (G' : Gcd one' other' g') (h1 : Dv g.1 one') (h2 : Dv g.1 other') (h3 : Dv g'.1 one) (h4 : Dv g'.1 other) : g.1 = g'.1 :=
  assoc_up (G.all h3 h4) (G'.all h1 h2) G'.up G.up
theorem rotN_bdP {n k : Nat} {p : Z2} (h : BdP n p) : BdP n (rotN k p) := rotN_bd h.1 h.2 k
theorem grt_gcd {one other : Z2} (h1 : BdP 299 one) (h2 : BdP 299 other) : Gcd one other (grt one other) := by
  obtain ⟨nx, hz, I⟩ := (EI.start h1 h2).stop
  have I' : EI one other 0 (grt0 one other) nx := I
  have e := I'.f (grt0 one other).1
  have hd := e.mp ⟨Dv.refl _, by rw [hz]; exact Dv.zero _⟩
  exact {
    lin := by
      show rotN _ (grt0 one other).1 = addP (mulP one (rotN _ (grt0 one other).2.1)) (mulP other (rotN _ (grt0 one other).2.2))
      rw [← rotN_mul, ← rotN_mul, ← rotN_add, ← I'.d]
    up := up_at _
    l := (dv_rot' _ _).trans hd.1
    r := (dv_rot' _ _).trans hd.2
    b := rotN_bdP I'.h300
    b1 := rotN_bdP (I'.c1.mono (by decide))
    b2 := rotN_bdP (I'.c2.mono (by decide)) }
/-- a point of the first cell, or one made lesser -/
def lesserP (p : Z2) (k : Int) : Z2 := if k = 0 then p else (p.1 % 2000001 - 1000000, p.2 % 2000001 - 1000000)
theorem lesser_bd {p : Z2} {k : Int} (h : BdP 134 p) : BdP 134 (lesserP p k) := by
  unfold lesserP
  split
  · exact h
  · have h1 := emod_lt (i := p.1) (j := 2000001) (by decide)
    have h2 := emod_lt (i := p.2) (j := 2000001) (by decide)
    exact ⟨Bd.of_le 1000000 (by show (p.1 % 2000001 - 1000000).natAbs ≤ 1000000; omega) (by decide), Bd.of_le 1000000 (by show (p.2 % 2000001 - 1000000).natAbs ≤ 1000000; omega) (by decide)⟩
theorem grt_zero {x y a : Z2} {g : Z6} (G : Gcd x y g) (h1 : Dv a x) (h2 : Dv a y) (h3 : Dv g.1 a) : g.1 = upP a :=
  (assoc_up (h3.trans (dv_rot _ _)) ((dv_rot' _ _).trans (G.all h1 h2)) G.up (isUp_upP a)).symm
end Gd

namespace Tw
open PySem PySem.Spec PyProof.Rows L2 Gd
local macro_rules | `(tactic| walk_at "bnd") => `(tactic| first
  | exact Bd.mono (by assumption) (by decide)
  | exact Bd.lit (by decide) (by decide)
  | (refine Bd.mul' ?_ ?_ <;> walk_at "bnd")
  | (refine Bd.add' ?_ ?_ (by decide) <;> walk_at "bnd")
  | (refine Bd.sub' ?_ ?_ (by decide) <;> walk_at "bnd")
  | (refine Bd.mod (by decide) ?_ <;> walk_at "bnd")
  | (refine Bd.div (by decide) ?_ <;> walk_at "bnd")
  | (refine Bd.neg ?_ <;> walk_at "bnd"))
def top (i : Nat) : Stmt := PySem.Challenge.pw_twosquares_k06_whole_common_parts.main.body.getD i (.Pass ⟨0, 0, 0, 0⟩)
abbrev s_is_number : Stmt := top 6
abbrev n_is_number : List Str := ["thing"]
theorem sc_is_number : FnScope n_is_number ["thing"] (defScope s_is_number) := ⟨rfl, rfl, rfl, by decide +kernel, rfl, by decide +kernel, by decide +kernel⟩
theorem b_is_number {K : PySem.W.Frag} {f : Addr} {fd : FuncData} (F : Fun K "is_number" "is_number" s_is_number f fd) : Binds K fd ["thing"] [] := F.binds (ps := ["thing"]) fun _ _ _ _ _ _ us hl => match us, hl with | [_], _ => rfl
abbrev s_is_point : Stmt := top 7
abbrev n_is_point : List Str := ["thing"]
theorem sc_is_point : FnScope n_is_point ["thing"] (defScope s_is_point) := ⟨rfl, rfl, rfl, by decide +kernel, rfl, by decide +kernel, by decide +kernel⟩
theorem b_is_point {K : PySem.W.Frag} {f : Addr} {fd : FuncData} (F : Fun K "is_point" "is_point" s_is_point f fd) : Binds K fd ["thing"] [] := F.binds (ps := ["thing"]) fun _ _ _ _ _ _ us hl => match us, hl with | [_], _ => rfl
abbrev s_need_point : Stmt := top 8
abbrev n_need_point : List Str := ["thing"]
theorem sc_need_point : FnScope n_need_point ["thing"] (defScope s_need_point) := ⟨rfl, rfl, rfl, by decide +kernel, rfl, by decide +kernel, by decide +kernel⟩
theorem b_need_point {K : PySem.W.Frag} {f : Addr} {fd : FuncData} (F : Fun K "need_point" "need_point" s_need_point f fd) : Binds K fd ["thing"] [] := F.binds (ps := ["thing"]) fun _ _ _ _ _ _ us hl => match us, hl with | [_], _ => rfl
abbrev s_added : Stmt := top 9
abbrev n_added : List Str := ["one", "other"]
theorem sc_added : FnScope n_added ["one", "other"] (defScope s_added) := ⟨rfl, rfl, rfl, by decide +kernel, rfl, by decide +kernel, by decide +kernel⟩
theorem b_added {K : PySem.W.Frag} {f : Addr} {fd : FuncData} (F : Fun K "added" "added" s_added f fd) : Binds K fd ["one", "other"] [] := F.binds (ps := ["one", "other"]) fun _ _ _ _ _ _ us hl => match us, hl with | [_, _], _ => rfl
abbrev s_multiplied : Stmt := top 10
abbrev n_multiplied : List Str := ["one", "other"]
theorem sc_multiplied : FnScope n_multiplied ["one", "other"] (defScope s_multiplied) := ⟨rfl, rfl, rfl, by decide +kernel, rfl, by decide +kernel, by decide +kernel⟩
theorem b_multiplied {K : PySem.W.Frag} {f : Addr} {fd : FuncData} (F : Fun K "multiplied" "multiplied" s_multiplied f fd) : Binds K fd ["one", "other"] [] := F.binds (ps := ["one", "other"]) fun _ _ _ _ _ _ us hl => match us, hl with | [_, _], _ => rfl
abbrev s_length_of : Stmt := top 11
abbrev n_length_of : List Str := ["point"]
theorem sc_length_of : FnScope n_length_of ["point"] (defScope s_length_of) := ⟨rfl, rfl, rfl, by decide +kernel, rfl, by decide +kernel, by decide +kernel⟩
theorem b_length_of {K : PySem.W.Frag} {f : Addr} {fd : FuncData} (F : Fun K "length_of" "length_of" s_length_of f fd) : Binds K fd ["point"] [] := F.binds (ps := ["point"]) fun _ _ _ _ _ _ us hl => match us, hl with | [_], _ => rfl
abbrev s_quartered : Stmt := top 12
abbrev n_quartered : List Str := ["point", "quarters", "turn"]
theorem sc_quartered : FnScope n_quartered ["point", "quarters"] (defScope s_quartered) := ⟨rfl, rfl, rfl, by decide +kernel, rfl, by decide +kernel, by decide +kernel⟩
theorem b_quartered {K : PySem.W.Frag} {f : Addr} {fd : FuncData} (F : Fun K "quartered" "quartered" s_quartered f fd) : Binds K fd ["point", "quarters"] [] := F.binds (ps := ["point", "quarters"]) fun _ _ _ _ _ _ us hl => match us, hl with | [_, _], _ => rfl
abbrev s_raised : Stmt := top 13
abbrev n_raised : List Str := ["point", "quarters"]
theorem sc_raised : FnScope n_raised ["point"] (defScope s_raised) := ⟨rfl, rfl, rfl, by decide +kernel, rfl, by decide +kernel, by decide +kernel⟩
theorem b_raised {K : PySem.W.Frag} {f : Addr} {fd : FuncData} (F : Fun K "raised" "raised" s_raised f fd) : Binds K fd ["point"] [] := F.binds (ps := ["point"]) fun _ _ _ _ _ _ us hl => match us, hl with | [_], _ => rfl
abbrev s_plus : Stmt := top 14
abbrev n_plus : List Str := ["one", "other"]
theorem sc_plus : FnScope n_plus ["one", "other"] (defScope s_plus) := ⟨rfl, rfl, rfl, by decide +kernel, rfl, by decide +kernel, by decide +kernel⟩
theorem b_plus {K : PySem.W.Frag} {f : Addr} {fd : FuncData} (F : Fun K "plus" "plus" s_plus f fd) : Binds K fd ["one", "other"] [] := F.binds (ps := ["one", "other"]) fun _ _ _ _ _ _ us hl => match us, hl with | [_, _], _ => rfl
abbrev s_times : Stmt := top 15
abbrev n_times : List Str := ["one", "other"]
theorem sc_times : FnScope n_times ["one", "other"] (defScope s_times) := ⟨rfl, rfl, rfl, by decide +kernel, rfl, by decide +kernel, by decide +kernel⟩
theorem b_times {K : PySem.W.Frag} {f : Addr} {fd : FuncData} (F : Fun K "times" "times" s_times f fd) : Binds K fd ["one", "other"] [] := F.binds (ps := ["one", "other"]) fun _ _ _ _ _ _ us hl => match us, hl with | [_, _], _ => rfl
abbrev s_turned : Stmt := top 16
abbrev n_turned : List Str := ["point", "quarters"]
theorem sc_turned : FnScope n_turned ["point", "quarters"] (defScope s_turned) := ⟨rfl, rfl, rfl, by decide +kernel, rfl, by decide +kernel, by decide +kernel⟩
abbrev s_upright : Stmt := top 17
abbrev n_upright : List Str := ["point"]
theorem sc_upright : FnScope n_upright ["point"] (defScope s_upright) := ⟨rfl, rfl, rfl, by decide +kernel, rfl, by decide +kernel, by decide +kernel⟩
theorem b_upright {K : PySem.W.Frag} {f : Addr} {fd : FuncData} (F : Fun K "upright" "upright" s_upright f fd) : Binds K fd ["point"] [] := F.binds (ps := ["point"]) fun _ _ _ _ _ _ us hl => match us, hl with | [_], _ => rfl
abbrev s_nearest : Stmt := top 19
abbrev n_nearest : List Str := ["above", "below"]
theorem sc_nearest : FnScope n_nearest ["above", "below"] (defScope s_nearest) := ⟨rfl, rfl, rfl, by decide +kernel, rfl, by decide +kernel, by decide +kernel⟩
theorem b_nearest {K : PySem.W.Frag} {f : Addr} {fd : FuncData} (F : Fun K "nearest" "nearest" s_nearest f fd) : Binds K fd ["above", "below"] [] := F.binds (ps := ["above", "below"]) fun _ _ _ _ _ _ us hl => match us, hl with | [_, _], _ => rfl
abbrev s_quotient_of : Stmt := top 20
abbrev n_quotient_of : List Str := ["point", "divisor", "exact", "size"]
theorem sc_quotient_of : FnScope n_quotient_of ["point", "divisor"] (defScope s_quotient_of) := ⟨rfl, rfl, rfl, by decide +kernel, rfl, by decide +kernel, by decide +kernel⟩
theorem b_quotient_of {K : PySem.W.Frag} {f : Addr} {fd : FuncData} (F : Fun K "quotient_of" "quotient_of" s_quotient_of f fd) : Binds K fd ["point", "divisor"] [] := F.binds (ps := ["point", "divisor"]) fun _ _ _ _ _ _ us hl => match us, hl with | [_, _], _ => rfl
abbrev s_less : Stmt := top 21
abbrev n_less : List Str := ["one", "factor", "other", "product"]
theorem sc_less : FnScope n_less ["one", "factor", "other"] (defScope s_less) := ⟨rfl, rfl, rfl, by decide +kernel, rfl, by decide +kernel, by decide +kernel⟩
theorem b_less {K : PySem.W.Frag} {f : Addr} {fd : FuncData} (F : Fun K "less" "less" s_less f fd) : Binds K fd ["one", "factor", "other"] [] := F.binds (ps := ["one", "factor", "other"]) fun _ _ _ _ _ _ us hl => match us, hl with | [_, _, _], _ => rfl
abbrev s_goes_into : Stmt := top 22
abbrev n_goes_into : List Str := ["divisor", "point"]
theorem sc_goes_into : FnScope n_goes_into ["divisor", "point"] (defScope s_goes_into) := ⟨rfl, rfl, rfl, by decide +kernel, rfl, by decide +kernel, by decide +kernel⟩
theorem b_goes_into {K : PySem.W.Frag} {f : Addr} {fd : FuncData} (F : Fun K "goes_into" "goes_into" s_goes_into f fd) : Binds K fd ["divisor", "point"] [] := F.binds (ps := ["divisor", "point"]) fun _ _ _ _ _ _ us hl => match us, hl with | [_, _], _ => rfl
abbrev s_divides : Stmt := top 23
abbrev n_divides : List Str := ["divisor", "point"]
theorem sc_divides : FnScope n_divides ["divisor", "point"] (defScope s_divides) := ⟨rfl, rfl, rfl, by decide +kernel, rfl, by decide +kernel, by decide +kernel⟩
theorem b_divides {K : PySem.W.Frag} {f : Addr} {fd : FuncData} (F : Fun K "divides" "divides" s_divides f fd) : Binds K fd ["divisor", "point"] [] := F.binds (ps := ["divisor", "point"]) fun _ _ _ _ _ _ us hl => match us, hl with | [_, _], _ => rfl
abbrev s_greatest : Stmt := top 24
abbrev n_greatest : List Str := ["one", "other", "here", "next_one", "quotient", "left", "quarters", "k", "point"]
theorem sc_greatest : FnScope n_greatest ["one", "other"] (defScope s_greatest) := ⟨rfl, rfl, rfl, by decide +kernel, rfl, by decide +kernel, by decide +kernel⟩
theorem b_greatest {K : PySem.W.Frag} {f : Addr} {fd : FuncData} (F : Fun K "greatest" "greatest" s_greatest f fd) : Binds K fd ["one", "other"] [] := F.binds (ps := ["one", "other"]) fun _ _ _ _ _ _ us hl => match us, hl with | [_, _], _ => rfl
abbrev s_common : Stmt := top 25
abbrev n_common : List Str := ["one", "other"]
theorem sc_common : FnScope n_common ["one", "other"] (defScope s_common) := ⟨rfl, rfl, rfl, by decide +kernel, rfl, by decide +kernel, by decide +kernel⟩
theorem b_common {K : PySem.W.Frag} {f : Addr} {fd : FuncData} (F : Fun K "common" "common" s_common f fd) : Binds K fd ["one", "other"] [] := F.binds (ps := ["one", "other"]) fun _ _ _ _ _ _ us hl => match us, hl with | [_, _], _ => rfl
abbrev s__law_mixed : Stmt := top 27
abbrev n__law_mixed : List Str := ["_law_number_here", "_law_k"]
theorem sc__law_mixed : FnScope n__law_mixed ["_law_number_here", "_law_k"] (defScope s__law_mixed) := ⟨rfl, rfl, rfl, by decide +kernel, rfl, by decide +kernel, by decide +kernel⟩
theorem b__law_mixed {K : PySem.W.Frag} {f : Addr} {fd : FuncData} (F : Fun K "_law_mixed" "_law_mixed" s__law_mixed f fd) : Binds K fd ["_law_number_here", "_law_k"] [] := F.binds (ps := ["_law_number_here", "_law_k"]) fun _ _ _ _ _ _ us hl => match us, hl with | [_, _], _ => rfl
abbrev s__law_number : Stmt := top 28
abbrev n__law_number : List Str := ["_law_script", "_law_k"]
theorem sc__law_number : FnScope n__law_number ["_law_script", "_law_k"] (defScope s__law_number) := ⟨rfl, rfl, rfl, by decide +kernel, rfl, by decide +kernel, by decide +kernel⟩
theorem b__law_number {K : PySem.W.Frag} {f : Addr} {fd : FuncData} (F : Fun K "_law_number" "_law_number" s__law_number f fd) : Binds K fd ["_law_script", "_law_k"] [] := F.binds (ps := ["_law_script", "_law_k"]) fun _ _ _ _ _ _ us hl => match us, hl with | [_, _], _ => rfl
abbrev s__law_coord : Stmt := top 29
abbrev n__law_coord : List Str := ["_law_number_here", "_law_kind"]
theorem sc__law_coord : FnScope n__law_coord ["_law_number_here"] (defScope s__law_coord) := ⟨rfl, rfl, rfl, by decide +kernel, rfl, by decide +kernel, by decide +kernel⟩
theorem b__law_coord {K : PySem.W.Frag} {f : Addr} {fd : FuncData} (F : Fun K "_law_coord" "_law_coord" s__law_coord f fd) : Binds K fd ["_law_number_here"] [] := F.binds (ps := ["_law_number_here"]) fun _ _ _ _ _ _ us hl => match us, hl with | [_], _ => rfl
abbrev s__law_point : Stmt := top 30
abbrev n__law_point : List Str := ["_law_number_here"]
theorem sc__law_point : FnScope n__law_point ["_law_number_here"] (defScope s__law_point) := ⟨rfl, rfl, rfl, by decide +kernel, rfl, by decide +kernel, by decide +kernel⟩
theorem b__law_point {K : PySem.W.Frag} {f : Addr} {fd : FuncData} (F : Fun K "_law_point" "_law_point" s__law_point f fd) : Binds K fd ["_law_number_here"] [] := F.binds (ps := ["_law_number_here"]) fun _ _ _ _ _ _ us hl => match us, hl with | [_], _ => rfl
abbrev s__law_points : Stmt := top 31
abbrev n__law_points : List Str := ["_law_script", "_law_k", "_law_cell"]
theorem sc__law_points : FnScope n__law_points ["_law_script"] (defScope s__law_points) := ⟨rfl, rfl, rfl, by decide +kernel, rfl, by decide +kernel, by decide +kernel⟩
theorem b__law_points {K : PySem.W.Frag} {f : Addr} {fd : FuncData} (F : Fun K "_law_points" "_law_points" s__law_points f fd) : Binds K fd ["_law_script"] [] := F.binds (ps := ["_law_script"]) fun _ _ _ _ _ _ us hl => match us, hl with | [_], _ => rfl
abbrev s__law_is_point : Stmt := top 32
abbrev n__law_is_point : List Str := ["_law_found", "_law_due", "_law_one"]
theorem sc__law_is_point : FnScope n__law_is_point ["_law_found", "_law_due"] (defScope s__law_is_point) := ⟨rfl, rfl, rfl, by decide +kernel, rfl, by decide +kernel, by decide +kernel⟩
theorem b__law_is_point {K : PySem.W.Frag} {f : Addr} {fd : FuncData} (F : Fun K "_law_is_point" "_law_is_point" s__law_is_point f fd) : Binds K fd ["_law_found", "_law_due"] [] := F.binds (ps := ["_law_found", "_law_due"]) fun _ _ _ _ _ _ us hl => match us, hl with | [_, _], _ => rfl
abbrev s__law_whole : Stmt := top 33
abbrev n__law_whole : List Str := ["_law_found", "_law_due"]
theorem sc__law_whole : FnScope n__law_whole ["_law_found", "_law_due"] (defScope s__law_whole) := ⟨rfl, rfl, rfl, by decide +kernel, rfl, by decide +kernel, by decide +kernel⟩
theorem b__law_whole {K : PySem.W.Frag} {f : Addr} {fd : FuncData} (F : Fun K "_law_whole" "_law_whole" s__law_whole f fd) : Binds K fd ["_law_found", "_law_due"] [] := F.binds (ps := ["_law_found", "_law_due"]) fun _ _ _ _ _ _ us hl => match us, hl with | [_, _], _ => rfl
abbrev s__law_lesser : Stmt := top 34
abbrev n__law_lesser : List Str := ["_law_point_here", "_law_k"]
theorem sc__law_lesser : FnScope n__law_lesser ["_law_point_here", "_law_k"] (defScope s__law_lesser) := ⟨rfl, rfl, rfl, by decide +kernel, rfl, by decide +kernel, by decide +kernel⟩
theorem b__law_lesser {K : PySem.W.Frag} {f : Addr} {fd : FuncData} (F : Fun K "_law_lesser" "_law_lesser" s__law_lesser f fd) : Binds K fd ["_law_point_here", "_law_k"] [] := F.binds (ps := ["_law_point_here", "_law_k"]) fun _ _ _ _ _ _ us hl => match us, hl with | [_, _], _ => rfl
abbrev s__law_good : Stmt := top 35
abbrev n__law_good : List Str := ["_law_one", "_law_other", "_law_third", "_law_found", "_law_part", "_law_first", "_law_second", "_law_point_here"]
theorem sc__law_good : FnScope n__law_good ["_law_one", "_law_other", "_law_third"] (defScope s__law_good) := ⟨rfl, rfl, rfl, by decide +kernel, rfl, by decide +kernel, by decide +kernel⟩
theorem b__law_good {K : PySem.W.Frag} {f : Addr} {fd : FuncData} (F : Fun K "_law_good" "_law_good" s__law_good f fd) : Binds K fd ["_law_one", "_law_other", "_law_third"] [] := F.binds (ps := ["_law_one", "_law_other", "_law_third"]) fun _ _ _ _ _ _ us hl => match us, hl with | [_, _, _], _ => rfl
abbrev s_law : Stmt := top 36
abbrev n_law : List Str := ["_law_script", "_law_k", "_law_cell", "_law_number_here", "_law_third", "_law_one", "_law_other"]
theorem sc_law : FnScope n_law ["_law_script"] (defScope s_law) := ⟨rfl, rfl, rfl, by decide +kernel, rfl, by decide +kernel, by decide +kernel⟩
theorem b_law {K : PySem.W.Frag} {f : Addr} {fd : FuncData} (F : Fun K "law" "law" s_law f fd) : Binds K fd ["_law_script"] [] := F.binds (ps := ["_law_script"]) fun _ _ _ _ _ _ us hl => match us, hl with | [_], _ => rfl
section
variable {P : Program} {w : World} {K : PySem.W.Frag} {mg : Str → Option Value} {base : Heap} {f : Addr} {fd : FuncData}
/-! ### points.py -/
inductive R_is_number : List D → Res → Prop
  | mk (d : D) (h : d.isE = false) : R_is_number [d] (.ok (.bl (isNumD d)))
theorem ok_is_number (T : Bl mg) (F : Fun K "is_number" "is_number" s_is_number f fd) (hm : mg "is_number" = some (.ref f)) : FnD P w K mg base 1 "is_number" [] R_is_number := by
  refine fnD F sc_is_number hm (b_is_number F) (fun ds r h => by cases h; rfl) fun cdv A outer s H E ds r hr h => ?_
  cases h with
  | mk d hd =>
  refine s_one (i_ret (d := .bl (isNumD d)) ?_ rfl)
  cases d with
  | exc _ => cases hd
  | int i => exact x_andT (x_isi (Tn := "int") (k := true) (x_var 0) rfl (by decide +kernel) T.isinstance T.int (by decide +kernel)) (x_one (x_notV (k := false) (x_isi (Tn := "bool") (x_var 0) rfl (by decide +kernel) T.isinstance T.bool (by decide +kernel))))
  | bl i => exact x_andT (x_isi (Tn := "int") (k := true) (x_var 0) rfl (by decide +kernel) T.isinstance T.int (by decide +kernel)) (x_one (x_notV (k := true) (x_isi (Tn := "bool") (x_var 0) rfl (by decide +kernel) T.isinstance T.bool (by decide +kernel))))
  | non => exact x_andF (x_isi (Tn := "int") (x_var 0) rfl (by decide +kernel) T.isinstance T.int (by decide +kernel))
  | str z => exact x_andF (x_isi (Tn := "int") (x_var 0) rfl (by decide +kernel) T.isinstance T.int (by decide +kernel))
  | tup z => exact x_andF (x_isi (Tn := "int") (x_var 0) rfl (by decide +kernel) T.isinstance T.int (by decide +kernel))
  | lst z => exact x_andF (x_isi (Tn := "int") (x_var 0) rfl (by decide +kernel) T.isinstance T.int (by decide +kernel))
  | dct => exact x_andF (x_isi (Tn := "int") (x_var 0) rfl (by decide +kernel) T.isinstance T.int (by decide +kernel))
inductive R_is_point : List D → Res → Prop
  | mk (d : D) (h : d.noE = true) : R_is_point [d] (.ok (.bl (isPtD d)))
theorem ok_is_point (T : Bl mg) (F_is_number : FnD P w K mg base 1 "is_number" [] R_is_number) (F : Fun K "is_point" "is_point" s_is_point f fd) (hm : mg "is_point" = some (.ref f)) : FnD P w K mg base 2 "is_point" [] R_is_point := by
  refine fnD F sc_is_point hm (b_is_point F) (fun ds r h => by cases h; rfl) fun cdv A outer s H E ds r hr h => ?_
  cases h with
  | mk d hd =>
  refine s_one (i_ret (d := .bl (isPtD d)) ?_ rfl)
  cases d with
  | exc _ => cases hd
  | int i => exact x_andF (x_isi (Tn := "tuple") (x_var 0) rfl (by decide +kernel) T.isinstance T.tuple (by decide +kernel))
  | bl i => exact x_andF (x_isi (Tn := "tuple") (x_var 0) rfl (by decide +kernel) T.isinstance T.tuple (by decide +kernel))
  | non => exact x_andF (x_isi (Tn := "tuple") (x_var 0) rfl (by decide +kernel) T.isinstance T.tuple (by decide +kernel))
  | str z => exact x_andF (x_isi (Tn := "tuple") (x_var 0) rfl (by decide +kernel) T.isinstance T.tuple (by decide +kernel))
  | lst z => exact x_andF (x_isi (Tn := "tuple") (x_var 0) rfl (by decide +kernel) T.isinstance T.tuple (by decide +kernel))
  | dct => exact x_andF (x_isi (Tn := "tuple") (x_var 0) rfl (by decide +kernel) T.isinstance T.tuple (by decide +kernel))
  | tup ds =>
    refine x_andT (x_isi (Tn := "tuple") (k := true) (x_var 0) rfl (by decide +kernel) T.isinstance T.tuple (by decide +kernel)) ?_
    match ds, hd with
    | [], _ => exact x_andF (pe_to (x_cmp (x_lenT (x_var 0) T.len) x_int o_eqI) rfl)
    | [_], _ => exact x_andF (pe_to (x_cmp (x_lenT (x_var 0) T.len) x_int o_eqI) rfl)
    | [a, b], hd =>
      have h1 : a.isE = false ∧ b.isE = false := noE_two hd
      refine x_andT (pe_to (x_cmp (x_lenT (n := 2) (x_var 0) T.len) x_int o_eqI) rfl) ?_
      exact x_and (x_call F_is_number hr (args_cons (x_ix0 (x_var 0)) args_nil) (.mk a h1.1)) fun _ => x_one (x_call F_is_number hr (args_cons (x_ix1 (x_var 0)) args_nil) (.mk b h1.2))
    | a :: b :: c :: r, _ => exact x_andF (pe_to (x_cmp (x_lenT (x_var 0) T.len) x_int o_eqI) (by
        have z : ¬ (((a :: b :: c :: r).length : Int) = 2) := by rw [List.length_cons, List.length_cons, List.length_cons]; omega
        rw [decide_eq_false z]))
inductive R_need_point (C : Addr) : List D → Res → Prop
  | mk (a b : Int) : R_need_point C [pt a b] (.ok .non)
  | no (d : D) (h : d.noE = true) (h2 : isPtD d = false) : R_need_point C [d] (.er C)
theorem ok_need_point {C : Addr} (X_NoPoint : EcD K mg "NoPoint" C) (F_is_point : FnD P w K mg base 2 "is_point" [] R_is_point) (F : Fun K "need_point" "need_point" s_need_point f fd) (hm : mg "need_point" = some (.ref f)) :
    FnD P w K mg base 3 "need_point" [] (R_need_point C) := by
  refine fnD F sc_need_point hm (b_need_point F) (fun ds r h => by cases h <;> rfl) fun cdv A outer s H E ds r hr h => ?_
  cases h with
  | mk a b => exact s_one (i_ifF (pt_to (y_not (y_val (x_call F_is_point hr (args_cons (x_var 0) args_nil) (.mk (pt a b) rfl)))) rfl) (s_nil rfl))
  | no d hd h2 =>
    refine s_one (i_ifT (pt_to (y_not (y_val (x_call F_is_point hr (args_cons (x_var 0) args_nil) (.mk d hd)))) (by rw [h2]; rfl)) (s_one ?_))
    exact i_raise PySem.F.excBase_ValueError X_NoPoint.x X_NoPoint.g X_NoPoint.k (raises_own X_NoPoint.b X_NoPoint.t) rfl (takes_of rfl rfl rfl rfl) rfl
inductive R_added : List D → Res → Prop
  | mk (a b c d : Int) : R_added [pt a b, pt c d] (.ok (pt (a + c) (b + d)))
theorem ok_added (F : Fun K "added" "added" s_added f fd) (hm : mg "added" = some (.ref f)) : FnD P w K mg base 1 "added" [] R_added := by
  refine fnD F sc_added hm (b_added F) (fun ds r h => by cases h; rfl) fun cdv A outer s H E ds r hr h => ?_
  cases h with
  | mk a b c d => exact s_one (i_ret (x_tup (args_cons (x_op (x_ix0 (x_var 0)) (x_ix0 (x_var 1)) o_add) (args_cons (x_op (x_ix1 (x_var 0)) (x_ix1 (x_var 1)) o_add) args_nil))) rfl)
inductive R_multiplied : List D → Res → Prop
  | mk (a b c d : Int) (ha : Bd 450000 a) (hb : Bd 450000 b) (hc : Bd 450000 c) (hd : Bd 450000 d) : R_multiplied [pt a b, pt c d] (.ok (pt (a * c - b * d) (a * d + b * c)))
theorem ok_multiplied (F : Fun K "multiplied" "multiplied" s_multiplied f fd) (hm : mg "multiplied" = some (.ref f)) : FnD P w K mg base 1 "multiplied" [] R_multiplied := by
  refine fnD F sc_multiplied hm (b_multiplied F) (fun ds r h => by cases h; rfl) fun cdv A outer s H E ds r hr h => ?_
  cases h with
  | mk a b c d ha hb hc hd =>
    exact s_one (i_ret (x_tup (args_cons (x_op (x_op (x_ix0 (x_var 0)) (x_ix0 (x_var 1)) (o_mul (mulW ha hc))) (x_op (x_ix1 (x_var 0)) (x_ix1 (x_var 1)) (o_mul (mulW hb hd))) o_sub)
      (args_cons (x_op (x_op (x_ix0 (x_var 0)) (x_ix1 (x_var 1)) (o_mul (mulW ha hd))) (x_op (x_ix1 (x_var 0)) (x_ix0 (x_var 1)) (o_mul (mulW hb hc))) o_add) args_nil))) rfl)
inductive R_length_of : List D → Res → Prop
  | mk (a b : Int) (ha : Bd 450000 a) (hb : Bd 450000 b) : R_length_of [pt a b] (.ok (.int (a * a + b * b)))
theorem ok_length_of (F : Fun K "length_of" "length_of" s_length_of f fd) (hm : mg "length_of" = some (.ref f)) : FnD P w K mg base 1 "length_of" [] R_length_of := by
  refine fnD F sc_length_of hm (b_length_of F) (fun ds r h => by cases h; rfl) fun cdv A outer s H E ds r hr h => ?_
  cases h with
  | mk a b ha hb => exact s_one (i_ret (x_op (x_op (x_ix0 (x_var 0)) (x_ix0 (x_var 0)) (o_mul (mulW ha ha))) (x_op (x_ix1 (x_var 0)) (x_ix1 (x_var 0)) (o_mul (mulW hb hb))) o_add) rfl)
inductive R_plus : List D → Res → Prop
  | mk (a b c d : Int) : R_plus [pt a b, pt c d] (.ok (pt (a + c) (b + d)))
theorem ok_plus {C : Addr} (F_need_point : FnD P w K mg base 3 "need_point" [] (R_need_point C)) (F_added : FnD P w K mg base 1 "added" [] R_added) (F : Fun K "plus" "plus" s_plus f fd) (hm : mg "plus" = some (.ref f)) :
    FnD P w K mg base 4 "plus" [] R_plus := by
  refine fnD F sc_plus hm (b_plus F) (fun ds r h => by cases h; rfl) fun cdv A outer s H E ds r hr h => ?_
  cases h with
  | mk a b c d =>
    refine s_cons (i_expr (x_call F_need_point hr (args_cons (x_var 0) args_nil) (.mk a b)) ?_)
    refine s_cons (i_expr (x_call F_need_point hr (args_cons (x_var 1) args_nil) (.mk c d)) ?_)
    exact s_one (i_ret (x_call F_added hr (args_cons (x_var 0) (args_cons (x_var 1) args_nil)) (.mk ..)) rfl)
inductive R_times : List D → Res → Prop
  | mk (a b c d : Int) (ha : Bd 450000 a) (hb : Bd 450000 b) (hc : Bd 450000 c) (hd : Bd 450000 d) : R_times [pt a b, pt c d] (.ok (pt (a * c - b * d) (a * d + b * c)))
theorem ok_times {C : Addr} (F_need_point : FnD P w K mg base 3 "need_point" [] (R_need_point C)) (F_multiplied : FnD P w K mg base 1 "multiplied" [] R_multiplied) (F : Fun K "times" "times" s_times f fd) (hm : mg "times" = some (.ref f)) :
    FnD P w K mg base 4 "times" [] R_times := by
  refine fnD F sc_times hm (b_times F) (fun ds r h => by cases h; rfl) fun cdv A outer s H E ds r hr h => ?_
  cases h with
  | mk a b c d ha hb hc hd =>
    refine s_cons (i_expr (x_call F_need_point hr (args_cons (x_var 0) args_nil) (.mk a b)) ?_)
    refine s_cons (i_expr (x_call F_need_point hr (args_cons (x_var 1) args_nil) (.mk c d)) ?_)
    exact s_one (i_ret (x_call F_multiplied hr (args_cons (x_var 0) (args_cons (x_var 1) args_nil)) (.mk a b c d ha hb hc hd)) rfl)
/-! ### turns -/
inductive R_quartered : List D → Res → Prop
  | mk (p : Int × Int) (q : Int) : R_quartered [ptP p, .int q] (.ok (ptP (rotN (q % 4).toNat p)))
theorem ok_quartered (T : Bl mg) (F : Fun K "quartered" "quartered" s_quartered f fd) (hm : mg "quartered" = some (.ref f)) : FnD P w K mg base 1 "quartered" [] R_quartered := by
  refine fnD F sc_quartered hm (b_quartered F) (fun ds r h => by cases h; rfl) fun cdv A outer s H E ds r hr h => ?_
  cases h with
  | mk p q =>
    have nd := sc_quartered.nd
    have h1 := emod_lt (i := q) (j := 4) (by decide)
    refine s_cons (i_for (f := fun d ρ => ρ.set 2 (some d)) (fun i ρ => ∃ x, ρ = [some (ptP (rotN i p)), some (.int q), x]) (passes_of rfl) rfl (k_rng1 T.range (args_cons (x_op (x_var 1) x_int (o_mod (by decide))) args_nil) (by omega) (by omega)) (fun d _ => g_name 2 nd) ⟨none, rfl⟩ ?_ ?_)
    · rintro i d ρ' hd ⟨x, rfl⟩
      refine s_one (i_set (i := 0) (x_tup (args_cons (x_op x_int (x_ix1 (x_var 0)) o_sub) (args_cons (x_ix0 (x_var 0)) args_nil))) ?_ nd)
      exact ⟨some d, rfl⟩
    · rintro ρ' ⟨x, rfl⟩
      rw [rngD_len]
      exact s_one (i_ret (x_var 0) rfl)
inductive R_raised : List D → Res → Prop
  | mk (p : Int × Int) : R_raised [ptP p] (.ok (.tup [.int (upK p), ptP (upP p)]))
theorem ok_raised (G_NOTHING : GlD K mg "NOTHING" (pt 0 0)) (F_quartered : FnD P w K mg base 1 "quartered" [] R_quartered) (F : Fun K "raised" "raised" s_raised f fd) (hm : mg "raised" = some (.ref f)) : FnD P w K mg base 2 "raised" [] R_raised := by
  refine fnD F sc_raised hm (b_raised F) (fun ds r h => by cases h; rfl) fun cdv A outer s H E ds r hr h => ?_
  cases h with
  | mk p =>
    have nd := sc_raised.nd
    refine s_cons (i_set (i := 1) x_int ?_ nd)
    refine s_cons (i_while (fun n ρ => ∃ k : Nat, k ≤ upK p ∧ n = upK p - k ∧ ρ = [some (ptP (rotN k p)), some (.int k)]) (upK p) (passes_of rfl) ⟨0, Nat.zero_le _, rfl, rfl⟩ ?_)
    rintro n ρ' ⟨k, hk, rfl, rfl⟩
    refine ⟨!isUp (rotN k p), pt_to (y_w (w_and (y_cmp (x_var 0) (x_glob G_NOTHING) (o_neP hr)) fun _ => (w_and1 (y_not (y_w (w_and (y_cmp (x_ix0 (x_var 0)) x_int o_gt) fun _ => (w_and1 (y_cmp (x_ix1 (x_var 0)) x_int o_ge)))))))) ?_, fun h => ?_, fun h => ?_⟩
    · unfold isUp
      rw [Bool.not_or]
    · have hlt : k < upK p := by
        rcases Nat.lt_or_ge k (upK p) with c | c
        · exact c
        · have e : k = upK p := by omega
          rw [e, up_at] at h
          cases h
      refine s_cons (i_set (i := 0) (x_call F_quartered hr (args_cons (x_var 0) (args_cons x_int args_nil)) (.mk ..)) ?_ nd)
      refine s_one (i_aug (i := 1) (fun i j => i + j) rfl x_int ip_add ?_ nd)
      exact ⟨upK p - (k + 1), by omega, k + 1, hlt, rfl, rfl⟩
    · have he : k = upK p := by
        rcases Nat.lt_or_ge k (upK p) with c | c
        · rw [up_lt c] at h
          cases h
        · omega
      subst he
      exact s_one (i_ret (x_tup (args_cons (x_var 1) (args_cons (x_var 0) args_nil))) rfl)
inductive R_turned (C C2 : Addr) : List D → Res → Prop
  | mk (p : Int × Int) (q : Int) : R_turned C C2 [ptP p, .int q] (.ok (ptP (rotN (q % 4).toNat p)))
  | no (d e : D) (h : d.noE = true) (h2 : isPtD d = false) : R_turned C C2 [d, e] (.er C)
  | no2 (p : Int × Int) (e : D) (h : e.isE = false) (h2 : isNumD e = false) : R_turned C C2 [ptP p, e] (.er C2)
theorem ok_turned {C C2 : Addr} (X_NoNumber : EcD K mg "NoNumber" C2) (F_need_point : FnD P w K mg base 3 "need_point" [] (R_need_point C)) (F_is_number : FnD P w K mg base 1 "is_number" [] R_is_number) (F_quartered : FnD P w K mg base 1 "quartered" [] R_quartered)
    (F : FunD K "turned" "turned" (defArgs s_turned) (defBody s_turned) (defScope s_turned) [V.int 1] [] f fd) (hm : mg "turned" = some (.ref f)) : FnD P w K mg base 4 "turned" [] (R_turned C C2) ∧ FnD P w K mg base 4 "turned" [.int 1] (R_turned C C2) := by
  refine fnD1 F sc_turned hm rfl (fun ds r h => by cases h <;> rfl) (fun T kV doc pm an cdv ct us its h1 h2 => match us, its, h1, h2 with | [_], [_], _, _ => ⟨_, rfl, rfl⟩)
    (fun T kV doc pm an cdv ct us its h1 h2 => match us, its, h1, h2 with | [_, _], [_], _, _ => ⟨_, rfl, rfl⟩) fun cdv A outer s H E ds r hr h => ?_
  cases h with
  | mk p q =>
    refine s_cons (i_expr (x_call F_need_point hr (args_cons (x_var 0) args_nil) (.mk ..)) ?_)
    refine s_cons (i_ifF (y_not (k := true) (y_val (x_call F_is_number hr (args_cons (x_var 1) args_nil) (.mk (.int q) rfl)))) (s_nil ?_))
    exact s_one (i_ret (x_call F_quartered hr (args_cons (x_var 0) (args_cons (x_var 1) args_nil)) (.mk ..)) rfl)
  | no d e h h2 => refine s_cons ?_; exact i_callX F_need_point hr (takes_of rfl rfl rfl rfl) (args_cons (x_var 0) args_nil) (R_need_point.no d h h2) rfl
  | no2 p e h h2 =>
    refine s_cons (i_expr (x_call F_need_point hr (args_cons (x_var 0) args_nil) (.mk ..)) ?_)
    refine s_cons (i_ifT (pt_to (y_not (y_val (x_call F_is_number hr (args_cons (x_var 1) args_nil) (.mk e h)))) (by rw [h2]; rfl)) (s_one ?_))
    exact i_raise PySem.F.excBase_ValueError X_NoNumber.x X_NoNumber.g X_NoNumber.k (raises_own X_NoNumber.b X_NoNumber.t) rfl (takes_of rfl rfl rfl rfl) rfl
inductive R_upright (C : Addr) : List D → Res → Prop
  | mk (p : Int × Int) : R_upright C [ptP p] (.ok (.tup [.int (upK p), ptP (upP p)]))
  | no (d : D) (h : d.noE = true) (h2 : isPtD d = false) : R_upright C [d] (.er C)
theorem ok_upright {C : Addr} (F_need_point : FnD P w K mg base 3 "need_point" [] (R_need_point C)) (F_raised : FnD P w K mg base 2 "raised" [] R_raised) (F : Fun K "upright" "upright" s_upright f fd) (hm : mg "upright" = some (.ref f)) : FnD P w K mg base 4 "upright" [] (R_upright C) := by
  refine fnD F sc_upright hm (b_upright F) (fun ds r h => by cases h <;> rfl) fun cdv A outer s H E ds r hr h => ?_
  cases h with
  | mk p =>
    refine s_cons (i_expr (x_call F_need_point hr (args_cons (x_var 0) args_nil) (.mk ..)) ?_)
    exact s_one (i_ret (x_call F_raised hr (args_cons (x_var 0) args_nil) (.mk ..)) rfl)
  | no d h h2 => refine s_cons ?_; exact i_callX F_need_point hr (takes_of rfl rfl rfl rfl) (args_cons (x_var 0) args_nil) (R_need_point.no d h h2) rfl
/-! ### the law's draws -/
inductive R__law_mixed : List D → Res → Prop
  | mk (n k : Int) (hk : Bd 1000 k) : R__law_mixed [.int n, .int k] (.ok (.int (mixed n k)))
theorem ok__law_mixed (F : Fun K "_law_mixed" "_law_mixed" s__law_mixed f fd) (hm : mg "_law_mixed" = some (.ref f)) : FnD P w K mg base 1 "_law_mixed" [] R__law_mixed := by
  refine fnD F sc__law_mixed hm (b__law_mixed F) (fun ds r h => by cases h; rfl) fun cdv A outer s H E ds r hr h => ?_
  cases h with
  | mk n k hk =>
    refine s_cons (i_set (i := 0) (x_op (x_op (x_op (x_op (x_op (x_var 0) x_int (o_mod (by decide))) (x_op (x_op x_int (x_var 1) (o_mul (mulW (by walk_at "bnd") (by walk_at "bnd")))) (x_var 1) (o_mul (mulW (by walk_at "bnd") (by walk_at "bnd")))) o_add)
      (x_op x_int (x_var 1) (o_mul (mulW (by walk_at "bnd") (by walk_at "bnd")))) o_add) x_int (o_mul (mulW (by walk_at "bnd") (by walk_at "bnd")))) x_int (o_mod (by decide))) ?_ sc__law_mixed.nd)
    exact s_one (i_ret (x_op (x_op (x_var 0) (x_op x_int (x_op x_int (x_var 1) (o_mul (mulW (by walk_at "bnd") (by walk_at "bnd")))) o_add) (o_mul (mulW (by walk_at "bnd") (by walk_at "bnd")))) x_int (o_mod (by decide))) rfl)
inductive R__law_coord : List D → Res → Prop
  | mk (n : Int) (h : Bd 1000 n) : R__law_coord [.int n] (.ok (.int (coord n)))
theorem ok__law_coord (F : Fun K "_law_coord" "_law_coord" s__law_coord f fd) (hm : mg "_law_coord" = some (.ref f)) : FnD P w K mg base 1 "_law_coord" [] R__law_coord := by
  refine fnD F sc__law_coord hm (b__law_coord F) (fun ds r h => by cases h; rfl) fun cdv A outer s H E ds r hr h => ?_
  cases h with
  | mk n hn =>
    refine s_cons (i_set (i := 1) (x_op (x_var 0) x_int (o_mod (by decide))) ?_ sc__law_coord.nd)
    refine s_cons (i_if (y_cmp (x_var 1) x_int o_lt) (fun h => ?_) (fun h => ?_))
    · refine s_one (i_ret (x_op (x_op (x_op (x_var 0) x_int (o_fdiv (divW (by decide) (by walk_at "bnd")))) x_int (o_mod (by decide))) x_int o_sub) ?_)
      have h1 := of_decide_eq_true h
      show D.int _ = D.int (coord n)
      unfold coord
      rw [if_pos h1]
    · have h1 := of_decide_eq_false h
      refine s_nil ?_
      refine s_cons (i_if (y_cmp (x_var 1) x_int o_eqI) (fun h => ?_) (fun h => ?_))
      · refine s_one (i_ret (x_op (x_op (x_op (x_var 0) x_int (o_fdiv (divW (by decide) (by walk_at "bnd")))) x_int (o_mod (by decide))) x_int o_sub) ?_)
        have h2 := of_decide_eq_true h
        show D.int _ = D.int (coord n)
        unfold coord
        rw [if_neg h1, if_pos h2]
      · have h2 := of_decide_eq_false h
        refine s_nil ?_
        refine s_one (i_ret (x_op (x_op (x_op (x_op (x_var 0) (x_op (x_op x_int x_int (o_pow ⟨by decide, by decide, by decide⟩ (by decide +kernel : _ = (1000000000000000000000000000000000000000 : Int)))) x_int o_add) (o_mul (mulW (by walk_at "bnd") (by walk_at "bnd")))) (x_op (x_var 0) x_int o_add) (o_mul (mulW (by walk_at "bnd") (by walk_at "bnd"))))
          (x_op (x_op x_int (x_op x_int x_int (o_pow ⟨by decide, by decide, by decide⟩ (by decide +kernel : _ = (10000000000000000000000000000000000000000 : Int)))) (o_mul (mulW (by walk_at "bnd") (by walk_at "bnd")))) x_int o_add) (o_mod (by decide)))
          (x_op x_int x_int (o_pow ⟨by decide, by decide, by decide⟩ (by decide +kernel : _ = (10000000000000000000000000000000000000000 : Int)))) o_sub) ?_)
        show D.int _ = D.int (coord n)
        unfold coord
        rw [if_neg h1, if_neg h2]
inductive R__law_point : List D → Res → Prop
  | mk (n : Int) : R__law_point [.int n] (.ok (lawPt n))
theorem ok__law_point (F__law_mixed : FnD P w K mg base 1 "_law_mixed" [] R__law_mixed) (F__law_coord : FnD P w K mg base 1 "_law_coord" [] R__law_coord) (F : Fun K "_law_point" "_law_point" s__law_point f fd) (hm : mg "_law_point" = some (.ref f)) :
    FnD P w K mg base 2 "_law_point" [] R__law_point := by
  refine fnD F sc__law_point hm (b__law_point F) (fun ds r h => by cases h; rfl) fun cdv A outer s H E ds r hr h => ?_
  cases h with
  | mk n =>
    have b1 := mixed_bd n 1
    have b2 := mixed_bd n 2
    exact s_one (i_ret (x_tup (args_cons (x_call F__law_coord hr (args_cons (x_call F__law_mixed hr (args_cons (x_var 0) (args_cons x_int args_nil)) (.mk n 1 (by walk_at "bnd"))) args_nil) (.mk _ (by walk_at "bnd")))
      (args_cons (x_call F__law_coord hr (args_cons (x_call F__law_mixed hr (args_cons (x_var 0) (args_cons x_int args_nil)) (.mk n 2 (by walk_at "bnd"))) args_nil) (.mk _ (by walk_at "bnd"))) args_nil))) rfl)
inductive R__law_is_point : List D → Res → Prop
  | mk (a b c d : Int) (h1 : a = c) (h2 : b = d) : R__law_is_point [pt a b, pt c d] (.ok (.bl true))
theorem ok__law_is_point (T : Bl mg) (F : Fun K "_law_is_point" "_law_is_point" s__law_is_point f fd) (hm : mg "_law_is_point" = some (.ref f)) : FnD P w K mg base 1 "_law_is_point" [] R__law_is_point := by
  refine fnD F sc__law_is_point hm (b__law_is_point F) (fun ds r h => by cases h; rfl) fun cdv A outer s H E ds r hr h => ?_
  cases h with
  | mk a b c d h1 h2 =>
    subst h1 h2
    refine s_cons (i_ifF (y_w (w_orF (y_not (k := true) (y_val (x_isi (Tn := "tuple") (x_var 0) rfl (by decide +kernel) T.isinstance T.tuple (by decide +kernel)))) (w_or1 (pt_to (y_cmp (x_var 0) (x_var 1) (o_neP hr)) ?_)))) ?_)
    · rw [decide_eq_true rfl, decide_eq_true rfl]; rfl
    · refine s_nil ?_
      refine s_one (i_ret (x_all (bs := [true, true]) (x_lc1 (ds := [.int a, .int b]) 2 [.bl true, .bl true] rfl sc__law_is_point.nd (k_tup (x_var 0)) (blkOk_by (N := n__law_is_point) (sc := defScope s__law_is_point) (by decide +kernel)) (fun _ _ _ _ _ => pg_name (i := 2) sc__law_is_point.nd rfl (Or.inl rfl)) (fun j d r hd hr' _ _ _ _ _ => ?_) (by show 2 ≤ 100000; decide) rfl rfl) rfl T.all) rfl)
      have h1 : ∃ i, d = .int i := by
        match j, hd with
        | 0, hd => exact ⟨_, (Option.some.inj hd).symm⟩
        | 1, hd => exact ⟨_, (Option.some.inj hd).symm⟩
        | j + 2, hd => cases hd
      have h2 : r = .bl true := by
        match j, hr' with
        | 0, hd => exact (Option.some.inj hd).symm
        | 1, hd => exact (Option.some.inj hd).symm
        | j + 2, hd => cases hd
      obtain ⟨i, rfl⟩ := h1
      subst h2
      exact x_andT (x_isi (Tn := "int") (k := true) (x_var 2) rfl (by decide +kernel) T.isinstance T.int (by decide +kernel)) (x_one (x_notV (k := false) (x_isi (Tn := "bool") (x_var 2) rfl (by decide +kernel) T.isinstance T.bool (by decide +kernel))))
inductive R__law_whole : List D → Res → Prop
  | mk (a b : Int) (h : a = b) : R__law_whole [.int a, .int b] (.ok (.bl true))
theorem ok__law_whole (T : Bl mg) (F : Fun K "_law_whole" "_law_whole" s__law_whole f fd) (hm : mg "_law_whole" = some (.ref f)) : FnD P w K mg base 1 "_law_whole" [] R__law_whole := by
  refine fnD F sc__law_whole hm (b__law_whole F) (fun ds r h => by cases h; rfl) fun cdv A outer s H E ds r hr h => ?_
  cases h with
  | mk a b h1 =>
    subst h1
    exact s_one (i_ret (x_andT (x_isi (Tn := "int") (k := true) (x_var 0) rfl (by decide +kernel) T.isinstance T.int (by decide +kernel)) (x_andT (x_notV (k := false) (x_isi (Tn := "bool") (x_var 0) rfl (by decide +kernel) T.isinstance T.bool (by decide +kernel)))
      (x_one (pe_to (x_cmp (x_var 0) (x_var 1) o_eqI) (by rw [decide_eq_true rfl]))))) rfl)
/-! ### dividing.py -/
inductive R_nearest : List D → Res → Prop
  | mk (a b : Int) (h0 : 0 < b) (ha : Bd 400000 a) (hb : Bd 7900 b) : R_nearest [.int a, .int b] (.ok (.int (near a b)))
theorem ok_nearest (F : Fun K "nearest" "nearest" s_nearest f fd) (hm : mg "nearest" = some (.ref f)) : FnD P w K mg base 1 "nearest" [] R_nearest := by
  refine fnD F sc_nearest hm (b_nearest F) (fun ds r h => by cases h; rfl) fun cdv A outer s H E ds r hr h => ?_
  cases h with
  | mk a b h0 ha hb =>
    have h2 : Bd 7901 (2 * b) := by
      have e : 2 * b = b + b := by omega
      rw [e]
      exact hb.add hb
    exact s_one (i_ret (x_op (x_op (x_op x_int (x_var 0) (o_mul (mulW (by walk_at "bnd") (by walk_at "bnd")))) (x_var 1) o_add) (x_op x_int (x_var 1) (o_mul (mulW (by walk_at "bnd") (by walk_at "bnd")))) (o_fdiv (divW (by omega) (h2.mono (by decide))))) rfl)
inductive R_quotient_of : List D → Res → Prop
  | mk (p d : Z2) (hd : d ≠ (0, 0)) (h1 : BdP 300000 p) (h2 : BdP 3900 d) : R_quotient_of [ptP p, ptP d] (.ok (ptP (quo p d)))
theorem ok_quotient_of (F_multiplied : FnD P w K mg base 1 "multiplied" [] R_multiplied) (F_length_of : FnD P w K mg base 1 "length_of" [] R_length_of) (F_nearest : FnD P w K mg base 1 "nearest" [] R_nearest) (F : Fun K "quotient_of" "quotient_of" s_quotient_of f fd) (hm : mg "quotient_of" = some (.ref f)) :
    FnD P w K mg base 2 "quotient_of" [] R_quotient_of := by
  refine fnD F sc_quotient_of hm (b_quotient_of F) (fun ds r h => by cases h; rfl) fun cdv A outer s H E ds r hr h => ?_
  cases h with
  | mk p d hd h1 h2 =>
    have nd := sc_quotient_of.nd
    have hc := h2.conjB
    have e := h1.mul hc
    refine s_cons (i_set (i := 2) (x_call F_multiplied hr (args_cons (x_var 0) (args_cons (x_tup (args_cons (x_ix0 (x_var 1)) (args_cons (x_op x_int (x_ix1 (x_var 1)) o_sub) args_nil))) args_nil)) (.mk p.1 p.2 d.1 (0 - d.2) (h1.1.mono (by decide)) (h1.2.mono (by decide)) (hc.1.mono (by decide)) (hc.2.mono (by decide)))) ?_ nd)
    refine s_cons (i_set (i := 3) (x_call F_length_of hr (args_cons (x_var 1) args_nil) (.mk d.1 d.2 (h2.1.mono (by decide)) (h2.2.mono (by decide)))) ?_ nd)
    exact s_one (i_ret (x_tup (args_cons (x_call F_nearest hr (args_cons (x_ix0 (x_var 2)) (args_cons (x_var 3) args_nil)) (.mk _ _ (nrm_pos hd) (e.1.mono (by decide)) (h2.nrmB.mono (by decide))))
      (args_cons (x_call F_nearest hr (args_cons (x_ix1 (x_var 2)) (args_cons (x_var 3) args_nil)) (.mk _ _ (nrm_pos hd) (e.2.mono (by decide)) (h2.nrmB.mono (by decide)))) args_nil))) rfl)
inductive R_less : List D → Res → Prop
  | mk (o q t : Z2) (h1 : BdP 450000 q) (h2 : BdP 450000 t) : R_less [ptP o, ptP q, ptP t] (.ok (ptP (subm o q t)))
theorem ok_less (F_multiplied : FnD P w K mg base 1 "multiplied" [] R_multiplied) (F : Fun K "less" "less" s_less f fd) (hm : mg "less" = some (.ref f)) : FnD P w K mg base 2 "less" [] R_less := by
  refine fnD F sc_less hm (b_less F) (fun ds r h => by cases h; rfl) fun cdv A outer s H E ds r hr h => ?_
  cases h with
  | mk o q t h1 h2 =>
    have nd := sc_less.nd
    refine s_cons (i_set (i := 3) (x_call F_multiplied hr (args_cons (x_var 1) (args_cons (x_var 2) args_nil)) (.mk _ _ _ _ h1.1 h1.2 h2.1 h2.2)) ?_ nd)
    exact s_one (i_ret (x_tup (args_cons (x_op (x_ix0 (x_var 0)) (x_ix0 (x_var 3)) o_sub) (args_cons (x_op (x_ix1 (x_var 0)) (x_ix1 (x_var 3)) o_sub) args_nil))) rfl)
inductive R_goes_into : List D → Res → Prop
  | mk (d p : Z2) (h1 : BdP 3900 d) (h2 : BdP 300000 p) : R_goes_into [ptP d, ptP p] (.ok (.bl (goesB d p)))
theorem ok_goes_into (G_NOTHING : GlD K mg "NOTHING" (pt 0 0)) (F_less : FnD P w K mg base 2 "less" [] R_less) (F_quotient_of : FnD P w K mg base 2 "quotient_of" [] R_quotient_of) (F : Fun K "goes_into" "goes_into" s_goes_into f fd) (hm : mg "goes_into" = some (.ref f)) :
    FnD P w K mg base 3 "goes_into" [] R_goes_into := by
  refine fnD F sc_goes_into hm (b_goes_into F) (fun ds r h => by cases h; rfl) fun cdv A outer s H E ds r hr h => ?_
  cases h with
  | mk d p h1 h2 =>
    refine s_cons (i_if (y_cmp (x_var 0) (x_glob G_NOTHING) (o_eqP hr)) (fun h => ?_) (fun h => ?_))
    · rw [dec_zero] at h
      have hd := of_decide_eq_true h
      refine s_one (i_ret (x_cmp (x_var 1) (x_glob G_NOTHING) (o_eqP hr)) ?_)
      show D.bl _ = D.bl (goesB d p)
      rw [dec_zero]
      unfold goesB
      rw [if_pos hd]
    · rw [dec_zero] at h
      have hd := of_decide_eq_false h
      have hq : BdP 303903 (quo p d) := h2.quoB' h1 hd (by decide) (by decide)
      refine s_nil (s_one (i_ret (x_cmp (x_call F_less hr (args_cons (x_var 1) (args_cons (x_call F_quotient_of hr (args_cons (x_var 1) (args_cons (x_var 0) args_nil)) (.mk p d hd h2 h1)) (args_cons (x_var 0) args_nil))) (.mk p (quo p d) d (hq.mono (by decide)) (h1.mono (by decide)))) (x_glob G_NOTHING) (o_eqP hr)) ?_))
      show D.bl _ = D.bl (goesB d p)
      rw [dec_zero]
      unfold goesB
      rw [if_neg hd]
inductive R_divides (C : Addr) : List D → Res → Prop
  | mk (d p : Z2) (h1 : BdP 3900 d) (h2 : BdP 300000 p) : R_divides C [ptP d, ptP p] (.ok (.bl (goesB d p)))
  | no (d e : D) (h : d.noE = true) (h2 : isPtD d = false) : R_divides C [d, e] (.er C)
  | no2 (p : Z2) (e : D) (h : e.noE = true) (h2 : isPtD e = false) : R_divides C [ptP p, e] (.er C)
theorem ok_divides {C : Addr} (F_need_point : FnD P w K mg base 3 "need_point" [] (R_need_point C)) (F_goes_into : FnD P w K mg base 3 "goes_into" [] R_goes_into) (F : Fun K "divides" "divides" s_divides f fd) (hm : mg "divides" = some (.ref f)) : FnD P w K mg base 4 "divides" [] (R_divides C) := by
  refine fnD F sc_divides hm (b_divides F) (fun ds r h => by cases h <;> rfl) fun cdv A outer s H E ds r hr h => ?_
  cases h with
  | mk d p h1 h2 =>
    refine s_cons (i_expr (x_call F_need_point hr (args_cons (x_var 0) args_nil) (.mk d.1 d.2)) ?_)
    refine s_cons (i_expr (x_call F_need_point hr (args_cons (x_var 1) args_nil) (.mk p.1 p.2)) ?_)
    exact s_one (i_ret (x_call F_goes_into hr (args_cons (x_var 0) (args_cons (x_var 1) args_nil)) (.mk d p h1 h2)) rfl)
  | no d e h h2 => refine s_cons ?_; exact i_callX F_need_point hr (takes_of rfl rfl rfl rfl) (args_cons (x_var 0) args_nil) (R_need_point.no d h h2) rfl
  | no2 p e h h2 =>
    refine s_cons (i_expr (x_call F_need_point hr (args_cons (x_var 0) args_nil) (.mk p.1 p.2)) ?_)
    refine s_cons ?_; exact i_callX F_need_point hr (takes_of rfl rfl rfl rfl) (args_cons (x_var 1) args_nil) (R_need_point.no e h h2) rfl
/-! ### the greatest common part -/
inductive R_greatest : List D → Res → Prop
  | mk (a b : Z2) (h1 : BdP 299 a) (h2 : BdP 299 b) : R_greatest [ptP a, ptP b] (.ok (d6 (grt a b)))
theorem ok_greatest (T : Bl mg) (G_NOTHING : GlD K mg "NOTHING" (pt 0 0)) (F_quotient_of : FnD P w K mg base 2 "quotient_of" [] R_quotient_of) (F_less : FnD P w K mg base 2 "less" [] R_less) (F_raised : FnD P w K mg base 2 "raised" [] R_raised)
    (F_quartered : FnD P w K mg base 1 "quartered" [] R_quartered) (F : Fun K "greatest" "greatest" s_greatest f fd) (hm : mg "greatest" = some (.ref f)) : FnD P w K mg base 3 "greatest" [] R_greatest := by
  refine fnD F sc_greatest hm (b_greatest F) (fun ds r h => by cases h; rfl) fun cdv A outer s H E ds r hr h => ?_
  cases h with
  | mk a b h1 h2 =>
    have nd := sc_greatest.nd
    refine s_cons (i_set (i := 2) (x_tup (args_cons (x_var 0) (args_cons (x_tup (args_cons x_int (args_cons x_int args_nil))) (args_cons (x_glob G_NOTHING) args_nil)))) ?_ nd)
    refine s_cons (i_set (i := 3) (x_tup (args_cons (x_var 1) (args_cons (x_glob G_NOTHING) (args_cons (x_tup (args_cons x_int (args_cons x_int args_nil))) args_nil)))) ?_ nd)
    refine s_cons (i_while (fun n ρ => ∃ h nx x4 x5 x6 x7 x8, EI a b n h nx ∧ eucl n h nx = grt0 a b ∧ ρ = [some (ptP a), some (ptP b), some (d6 h), some (d6 nx), x4, x5, x6, x7, x8]) 600 (passes_of rfl)
      ⟨(a, (1, 0), (0, 0)), (b, (0, 0), (1, 0)), none, none, none, none, none, .start h1 h2, rfl, rfl⟩ ?_)
    rintro n ρ' ⟨h, nx, x4, x5, x6, x7, x8, I, he, rfl⟩
    refine ⟨!decide (nx.1 = (0, 0)), pt_to (y_cmp (x_ix0 (x_var 3)) (x_glob G_NOTHING) (o_neP hr)) (by rw [dec_zero]), fun hc => ?_, fun hc => ?_⟩
    · have hn : nx.1 ≠ (0, 0) := by
        rw [Bool.not_eq_true'] at hc
        exact of_decide_eq_false hc
      obtain ⟨k, rfl, J⟩ := I.step hn
      have e2 : eucl k nx (subm3 h (quo h.1 nx.1) nx) = grt0 a b := by
        rw [← he]
        show _ = if nx.1 = (0, 0) then h else eucl k nx (subm3 h (quo h.1 nx.1) nx)
        rw [if_neg hn]
      have q3 := (I.q603 hn).mono (show 603 ≤ 450000 by decide)
      have hk := I.nn
      refine s_cons (i_set (i := 4) (x_call F_quotient_of hr (args_cons (x_ix0 (x_var 2)) (args_cons (x_ix0 (x_var 3)) args_nil)) (.mk h.1 nx.1 hn (I.h300.mono (by decide)) (I.n300.mono (by decide)))) ?_ nd)
      refine s_cons (i_set (i := 5) (x_tupL (x_lc1 (ds := rngD 0 3) 7 [ptP (subm h.1 (quo h.1 nx.1) nx.1), ptP (subm h.2.1 (quo h.1 nx.1) nx.2.1), ptP (subm h.2.2 (quo h.1 nx.1) nx.2.2)] rfl nd (k_rng1 T.range (args_cons x_int args_nil) (by decide) (by decide)) (blkOk_by (N := n_greatest) (sc := defScope s_greatest) (by decide +kernel))
        (fun _ _ _ _ _ => pg_name (i := 7) nd rfl (Or.inl rfl)) (fun j d r hd hr' _ _ _ _ _ => ?_) (by rw [rngD_len]; decide) (by rw [rngD_len]; rfl) rfl) T.tuple) ?_ nd)
      · obtain ⟨hj, rfl⟩ := rngD_get hd
        have hj' : j = 0 ∨ j = 1 ∨ j = 2 := by omega
        have B1 := (I.n300).mono (show 300 ≤ 450000 by decide)
        have B2 := (I.c3).mono (show 605 * (600 - (k + 1)) + 2 ≤ 450000 by omega)
        have B3 := (I.c4).mono (show 605 * (600 - (k + 1)) + 2 ≤ 450000 by omega)
        rcases hj' with rfl | rfl | rfl
        · obtain rfl := Option.some.inj hr'
          exact x_call F_less hr (args_cons (x_ixT (x_var 2) (x_var 7) rfl) (args_cons (x_var 4) (args_cons (x_ixT (x_var 3) (x_var 7) rfl) args_nil))) (.mk h.1 (quo h.1 nx.1) nx.1 q3 B1)
        · obtain rfl := Option.some.inj hr'
          exact x_call F_less hr (args_cons (x_ixT (x_var 2) (x_var 7) rfl) (args_cons (x_var 4) (args_cons (x_ixT (x_var 3) (x_var 7) rfl) args_nil))) (.mk h.2.1 (quo h.1 nx.1) nx.2.1 q3 B2)
        · obtain rfl := Option.some.inj hr'
          exact x_call F_less hr (args_cons (x_ixT (x_var 2) (x_var 7) rfl) (args_cons (x_var 4) (args_cons (x_ixT (x_var 3) (x_var 7) rfl) args_nil))) (.mk h.2.2 (quo h.1 nx.1) nx.2.2 q3 B3)
      refine s_cons (i_set (i := 2) (x_var 3) ?_ nd)
      refine s_one (i_set (i := 3) (x_var 5) ?_ nd)
      exact ⟨k, Nat.lt_succ_self k, nx, subm3 h (quo h.1 nx.1) nx, _, _, _, _, _, J, e2, rfl⟩
    · have hn : nx.1 = (0, 0) := by
        rw [Bool.not_eq_false'] at hc
        exact of_decide_eq_true hc
      rw [eucl_end hn] at he
      subst he
      refine s_cons (i_set (i := 6) (x_ix0 (x_call F_raised hr (args_cons (x_ix0 (x_var 2)) args_nil) (.mk (grt0 a b).1))) ?_ nd)
      refine s_one (i_ret (x_tupL (x_lc1 (ds := [ptP (grt0 a b).1, ptP (grt0 a b).2.1, ptP (grt0 a b).2.2]) 8 [ptP (grt a b).1, ptP (grt a b).2.1, ptP (grt a b).2.2] rfl nd (k_tup (x_var 2)) (blkOk_by (N := n_greatest) (sc := defScope s_greatest) (by decide +kernel))
        (fun _ _ _ _ _ => pg_name (i := 8) nd rfl (Or.inl rfl)) (fun j d r hd hr' _ _ _ _ _ => ?_) (by show 3 ≤ 100000; decide) rfl rfl) T.tuple) rfl)
      have z : ∃ p : Z2, d = ptP p ∧ r = ptP (rotN (upK (grt0 a b).1) p) := by
        match j, hd, hr' with
        | 0, hd, hr' => exact ⟨_, (Option.some.inj hd).symm, (Option.some.inj hr').symm⟩
        | 1, hd, hr' => exact ⟨_, (Option.some.inj hd).symm, (Option.some.inj hr').symm⟩
        | 2, hd, hr' => exact ⟨_, (Option.some.inj hd).symm, (Option.some.inj hr').symm⟩
        | j + 3, hd, hr' => cases hd
      obtain ⟨p, rfl, rfl⟩ := z
      have hu := upK_lt (grt0 a b).1
      have em : ((upK (grt0 a b).1 : Int) % 4).toNat = upK (grt0 a b).1 := by omega
      have rq := R_quartered.mk p (upK (grt0 a b).1 : Int)
      rw [em] at rq
      exact x_call F_quartered hr (args_cons (x_var 8) (args_cons (x_var 6) args_nil)) rq
inductive R_common (C : Addr) : List D → Res → Prop
  | mk (a b : Z2) (h1 : BdP 299 a) (h2 : BdP 299 b) : R_common C [ptP a, ptP b] (.ok (d6 (grt a b)))
  | no (d e : D) (h : d.noE = true) (h2 : isPtD d = false) : R_common C [d, e] (.er C)
  | no2 (p : Z2) (e : D) (h : e.noE = true) (h2 : isPtD e = false) : R_common C [ptP p, e] (.er C)
theorem ok_common {C : Addr} (F_need_point : FnD P w K mg base 3 "need_point" [] (R_need_point C)) (F_greatest : FnD P w K mg base 3 "greatest" [] R_greatest) (F : Fun K "common" "common" s_common f fd) (hm : mg "common" = some (.ref f)) : FnD P w K mg base 4 "common" [] (R_common C) := by
  refine fnD F sc_common hm (b_common F) (fun ds r h => by cases h <;> rfl) fun cdv A outer s H E ds r hr h => ?_
  cases h with
  | mk a b h1 h2 =>
    refine s_cons (i_expr (x_call F_need_point hr (args_cons (x_var 0) args_nil) (.mk a.1 a.2)) ?_)
    refine s_cons (i_expr (x_call F_need_point hr (args_cons (x_var 1) args_nil) (.mk b.1 b.2)) ?_)
    exact s_one (i_ret (x_call F_greatest hr (args_cons (x_var 0) (args_cons (x_var 1) args_nil)) (.mk a b h1 h2)) rfl)
  | no d e h h2 => refine s_cons ?_; exact i_callX F_need_point hr (takes_of rfl rfl rfl rfl) (args_cons (x_var 0) args_nil) (R_need_point.no d h h2) rfl
  | no2 p e h h2 =>
    refine s_cons (i_expr (x_call F_need_point hr (args_cons (x_var 0) args_nil) (.mk p.1 p.2)) ?_)
    refine s_cons ?_; exact i_callX F_need_point hr (takes_of rfl rfl rfl rfl) (args_cons (x_var 1) args_nil) (R_need_point.no e h h2) rfl
inductive R__law_lesser : List D → Res → Prop
  | mk (p : Z2) (k : Int) : R__law_lesser [ptP p, .int k] (.ok (ptP (lesserP p k)))
theorem ok__law_lesser (F : Fun K "_law_lesser" "_law_lesser" s__law_lesser f fd) (hm : mg "_law_lesser" = some (.ref f)) : FnD P w K mg base 1 "_law_lesser" [] R__law_lesser := by
  refine fnD F sc__law_lesser hm (b__law_lesser F) (fun ds r h => by cases h; rfl) fun cdv A outer s H E ds r hr h => ?_
  cases h with
  | mk p k =>
    refine s_cons (i_if (y_cmp (x_var 1) x_int o_eqI) (fun h => ?_) (fun h => ?_))
    · refine s_one (i_ret (x_var 0) ?_)
      show ptP p = ptP (lesserP p k)
      unfold lesserP
      rw [if_pos (of_decide_eq_true h)]
    · refine s_nil (s_one (i_ret (x_tup (args_cons (x_op (x_op (x_ix0 (x_var 0)) x_int (o_mod (by decide))) x_int o_sub) (args_cons (x_op (x_op (x_ix1 (x_var 0)) x_int (o_mod (by decide))) x_int o_sub) args_nil))) ?_))
      show ptP (p.1 % 2000001 - 1000000, p.2 % 2000001 - 1000000) = ptP (lesserP p k)
      unfold lesserP
      rw [if_neg (of_decide_eq_false h)]
inductive R__law_good : List D → Res → Prop
  | mk (a b c : Z2) (h1 : BdP 299 a) (h2 : BdP 299 b) (h3 : BdP 299 c) (d1 : Dv c a) (d2 : Dv c b) : R__law_good [ptP a, ptP b, ptP c] (.ok (.bl true))
theorem ok__law_good {C C2 : Addr} (T : Bl mg) (F_common : FnD P w K mg base 4 "common" [] (R_common C)) (F_plus : FnD P w K mg base 4 "plus" [] R_plus) (F_times : FnD P w K mg base 4 "times" [] R_times) (F_upright : FnD P w K mg base 4 "upright" [] (R_upright C))
    (F_divides : FnD P w K mg base 4 "divides" [] (R_divides C)) (F_turned : FnD P w K mg base 4 "turned" [] (R_turned C C2) ∧ FnD P w K mg base 4 "turned" [.int 1] (R_turned C C2)) (F__law_is_point : FnD P w K mg base 1 "_law_is_point" [] R__law_is_point)
    (F : Fun K "_law_good" "_law_good" s__law_good f fd) (hm : mg "_law_good" = some (.ref f)) : FnD P w K mg base 5 "_law_good" [] R__law_good := by
  refine fnD F sc__law_good hm (b__law_good F) (fun ds r h => by cases h; rfl) fun cdv A outer s H E ds r hr h => ?_
  cases h with
  | mk a b c h1 h2 h3 d1 d2 =>
    have nd := sc__law_good.nd
    have G := grt_gcd h1 h2
    have G2 := grt_gcd h2 h1
    have G3 := grt_gcd (rotN_bdP (k := ((1 : Int) % 4).toNat) h1) (rotN_bdP (k := ((2 : Int) % 4).toNat) h2)
    have e2 : (grt b a).1 = (grt a b).1 := G2.uniq G G2.r G2.l G.r G.l
    have e3 : (grt (rotN ((1 : Int) % 4).toNat a) (rotN ((2 : Int) % 4).toNat b)).1 = (grt a b).1 :=
      G3.uniq G (G3.l.trans (dv_rot' _ _)) (G3.r.trans (dv_rot' _ _)) (G.l.trans (dv_rot _ _)) (G.r.trans (dv_rot _ _))
    have d3 := G.all d1 d2
    have hl := G.lin
    obtain ⟨u1, u2⟩ := upP_up G.up
    have ru := R_upright.mk (C := C) (grt a b).1
    rw [u1, u2] at ru
    refine s_cons (i_set (i := 3) (x_call F_common hr (args_cons (x_var 0) (args_cons (x_var 1) args_nil)) (.mk a b h1 h2)) ?_ nd)
    have b0 := G.b
    have b1 := G.b1
    have b2 := G.b2
    have p1 := G.l
    have p2 := G.r
    generalize grt a b = g at *
    refine s_cons (i_ifF (y_w (w_orF (y_not (k := true) (y_val (x_isi (Tn := "tuple") (x_var 3) rfl (by decide +kernel) T.isinstance T.tuple (by decide +kernel)))) (w_or1 (pt_to (y_cmp (x_lenT (n := 3) (x_var 3) T.len) x_int o_neI) rfl)))) (s_nil ?_))
    refine s_cons (i_asg (x_var 3) (g_tup rfl (gs_cons (g_name 4 nd) (gs_cons (g_name 5 nd) (gs_cons (g_name 6 nd) gs_nil)))) ?_)
    refine s_env (ρ' := [some (ptP a), some (ptP b), some (ptP c), some (d6 g), some (ptP g.1), some (ptP g.2.1), some (ptP g.2.2), none]) rfl ?_
    refine s_cons (i_ifF (y_not (k := true) (y_val (x_all (bs := [true, true, true]) (x_lc1 (ds := [ptP g.1, ptP g.2.1, ptP g.2.2]) 7 [.bl true, .bl true, .bl true] rfl nd (k_tup (x_var 3)) (blkOk_by (N := n__law_good) (sc := defScope s__law_good) (by decide +kernel))
      (fun _ _ _ _ _ => pg_name (i := 7) nd rfl (Or.inl rfl)) (fun j d r hd hr' _ _ _ _ _ => ?_) (by show 3 ≤ 100000; decide) rfl rfl) rfl T.all))) (s_nil ?_))
    · have z : ∃ p : Z2, d = ptP p ∧ r = .bl true := by
        match j, hd, hr' with
        | 0, hd, hr' => exact ⟨_, (Option.some.inj hd).symm, (Option.some.inj hr').symm⟩
        | 1, hd, hr' => exact ⟨_, (Option.some.inj hd).symm, (Option.some.inj hr').symm⟩
        | 2, hd, hr' => exact ⟨_, (Option.some.inj hd).symm, (Option.some.inj hr').symm⟩
        | j + 3, hd, hr' => cases hd
      obtain ⟨p, rfl, rfl⟩ := z
      exact x_andT (x_call F__law_is_point hr (args_cons (x_var 7) (args_cons (x_var 7) args_nil)) (.mk p.1 p.2 _ _ rfl rfl)) (x_one (pe_to (x_cmp (x_lenT (n := 2) (x_var 7) T.len) x_int o_eqI) rfl))
    refine s_cons (i_ifF (y_w (w_orF (pt_to (y_cmp (x_call F_plus hr (args_cons (x_call F_times hr (args_cons (x_var 0) (args_cons (x_var 5) args_nil)) (.mk a.1 a.2 g.2.1.1 g.2.1.2 (h1.1.mono (by decide)) (h1.2.mono (by decide)) (b1.1.mono (by decide)) (b1.2.mono (by decide))))
      (args_cons (x_call F_times hr (args_cons (x_var 1) (args_cons (x_var 6) args_nil)) (.mk b.1 b.2 g.2.2.1 g.2.2.2 (h2.1.mono (by decide)) (h2.2.mono (by decide)) (b2.1.mono (by decide)) (b2.2.mono (by decide)))) args_nil)) (.mk ..)) (x_var 4) (o_neP hr)) (neT ?_ ?_))
      (w_or1 (pt_to (y_cmp (x_call F_upright hr (args_cons (x_var 4) args_nil) ru) (x_tup (args_cons x_int (args_cons (x_var 4) args_nil))) (o_ne hr rfl rfl)) ?_)))) (s_nil ?_))
    · exact (congrArg Prod.fst hl).symm
    · exact (congrArg Prod.snd hl).symm
    · show (!(((0 : Int) == 0) && (((g.1.1 == g.1.1) && ((g.1.2 == g.1.2) && true)) && true))) = false
      rw [beq_self_eq_true, beq_self_eq_true, beq_self_eq_true]
      rfl
    refine s_cons (i_ifF (y_w (w_orF (y_not (k := true) (pt_to (y_val (x_call F_divides hr (args_cons (x_var 4) (args_cons (x_var 0) args_nil)) (.mk g.1 a (b0.mono (by decide)) (h1.mono (by decide))))) ((goesB_iff _ _).mpr p1)))
      (w_orF (y_not (k := true) (pt_to (y_val (x_call F_divides hr (args_cons (x_var 4) (args_cons (x_var 1) args_nil)) (.mk g.1 b (b0.mono (by decide)) (h2.mono (by decide))))) ((goesB_iff _ _).mpr p2)))
        (w_or1 (y_not (k := true) (pt_to (y_val (x_call F_divides hr (args_cons (x_var 2) (args_cons (x_var 4) args_nil)) (.mk c g.1 (h3.mono (by decide)) (b0.mono (by decide))))) ((goesB_iff _ _).mpr d3))))))) (s_nil ?_))
    refine s_one (i_ret (x_andT (pe_to (x_cmp (x_ix0 (x_call F_common hr (args_cons (x_var 1) (args_cons (x_var 0) args_nil)) (.mk b a h2 h1))) (x_var 4) (o_eqP hr)) ?_) (x_one (pe_to (x_cmp (x_ix0 (x_call F_common hr (args_cons (x_call F_turned.2 hr (args_cons (x_var 0) args_nil) (.mk a 1)) (args_cons (x_call F_turned.1 hr (args_cons (x_var 1) (args_cons x_int args_nil)) (.mk b 2)) args_nil))
      (.mk _ _ (rotN_bdP h1) (rotN_bdP h2)))) (x_var 4) (o_eqP hr)) ?_))) rfl)
    · rw [eqT (congrArg Prod.fst e2) (congrArg Prod.snd e2)]
    · rw [eqT (congrArg Prod.fst e3) (congrArg Prod.snd e3)]
/-! ### the law -/
inductive R_law : List D → Res → Prop
  | mk (ns : List Int) (h : ns.length ≤ 63) : R_law [.lst (ns.map .int)] (.ok (.bl true))
theorem ok_law {C : Addr} (T : Bl mg) (F_common : FnD P w K mg base 4 "common" [] (R_common C)) (F_times : FnD P w K mg base 4 "times" [] R_times) (F_upright : FnD P w K mg base 4 "upright" [] (R_upright C)) (F__law_mixed : FnD P w K mg base 1 "_law_mixed" [] R__law_mixed)
    (F__law_point : FnD P w K mg base 2 "_law_point" [] R__law_point) (F__law_lesser : FnD P w K mg base 1 "_law_lesser" [] R__law_lesser) (F__law_good : FnD P w K mg base 5 "_law_good" [] R__law_good) (F : Fun K "law" "law" s_law f fd) : FnOk P w K mg base (L2.CX P w) 6 f fd ["_law_script"] (spR K R_law) := by
  refine fnOk F sc_law (fun ds r h => by cases h; rfl) fun cdv A outer s H E ds r hr h => ?_
  cases h with
  | mk ns hl =>
    have nd := sc_law.nd
    have bz : BdP 299 ((0, 0) : Z2) := BdP.mono (n := 1) ⟨Bd.of_le 0 (by decide) (by decide), Bd.of_le 0 (by decide) (by decide)⟩ (by decide)
    refine s_cons (i_for (ds := enumD ((cells 8 ns).map .int)) (f := pairF 1 2) (fun i ρ => ∃ x1 x2 x3 x4 x5 x6, ρ = [some (.lst (ns.map .int)), x1, x2, x3, x4, x5, x6]) (passes_of rfl) rfl
      (k_enum T.enumerate (args_cons (pe_to (x_cutTo 8 (x_op (x_var 0) (x_lst (args_cons x_int args_nil)) (o_catL (by rw [List.length_map]; show ns.length + 1 ≤ 100000; omega))) x_int) (by rw [cells_map])) args_nil))
      (fun d hd => g_pair 1 2 nd rfl (enum_pair d hd)) ?_ ?_ ?_)
    · exact ⟨none, none, none, none, none, none, rfl⟩
    · rintro i d ρ' hd ⟨x1, x2, x3, x4, x5, x6, rfl⟩
      obtain ⟨a0, b0, rfl⟩ := enum_pair d (List.mem_of_getElem? hd)
      obtain ⟨hlt, rfl, rfl⟩ := enum_ints hd
      rw [cells_len] at hlt
      have bi : Bd 200 (i : Int) := Bd.of_le 63 (by omega) (by decide)
      generalize (cells 8 ns).getD i 0 = c
      refine s_env (ρ' := [some (.lst (ns.map .int)), some (.int i), some (.int c), x3, x4, x5, x6]) rfl ?_
      refine s_cons (i_set (i := 3) (x_call F__law_mixed hr (args_cons (x_var 2) (args_cons (x_op x_int (x_var 1) o_add) args_nil)) (.mk _ _ (by walk_at "bnd"))) ?_ nd)
      have L : ∀ n : Int, BdP 134 (lesserP (coord (mixed n 1), coord (mixed n 2)) i) := fun n => lesser_bd ⟨coord_bd _, coord_bd _⟩
      refine s_cons (i_set (i := 4) (x_call F__law_lesser hr (args_cons (x_call F__law_point hr (args_cons (x_call F__law_mixed hr (args_cons (x_var 2) (args_cons (x_op x_int (x_var 1) o_add) args_nil)) (.mk _ _ (by walk_at "bnd"))) args_nil) (.mk _)) (args_cons (x_var 1) args_nil)) (.mk (coord (mixed (mixed c (140 + i)) 1), coord (mixed (mixed c (140 + i)) 2)) i)) ?_ nd)
      have bn := mixed_bd c (70 + i)
      refine s_env (ρ' := [some (.lst (ns.map .int)), some (.int i), some (.int c), some (.int (mixed c (70 + i))), some (ptP (lesserP (coord (mixed (mixed c (140 + i)) 1), coord (mixed (mixed c (140 + i)) 2)) i)), x5, x6]) rfl ?_
      have bt := L (mixed c (140 + i))
      generalize lesserP (coord (mixed (mixed c (140 + i)) 1), coord (mixed (mixed c (140 + i)) 2)) i = t0 at *
      generalize mixed c (70 + i) = n at *
      refine s_join (fun ρ => ∃ t : Z2, BdP 134 t ∧ ρ = [some (.lst (ns.map .int)), some (.int i), some (.int c), some (.int n), some (ptP t), x5, x6]) ?_ ?_
      · refine i_if (y_cmp (x_op (x_var 3) x_int (o_mod (by decide))) x_int o_eqI) (fun h => ?_) (fun h => s_nil ⟨t0, bt, rfl⟩)
        have h1 := emod_lt (i := n / 3) (j := 9) (by decide)
        have h2 := emod_lt (i := n / 27) (j := 9) (by decide)
        exact s_one (i_set (i := 4) (x_tup (args_cons (x_op (x_op (x_op (x_var 3) x_int (o_fdiv (divW (by decide) (by walk_at "bnd")))) x_int (o_mod (by decide))) x_int o_sub) (args_cons (x_op (x_op (x_op (x_var 3) x_int (o_fdiv (divW (by decide) (by walk_at "bnd")))) x_int (o_mod (by decide))) x_int o_sub) args_nil)))
          ⟨(n / 3 % 9 - 4, n / 27 % 9 - 4), ⟨Bd.of_le 9 (by show (n / 3 % 9 - 4).natAbs ≤ 9; omega) (by decide), Bd.of_le 9 (by show (n / 27 % 9 - 4).natAbs ≤ 9; omega) (by decide)⟩, rfl⟩ nd)
      · rintro ρ' ⟨t, bt, rfl⟩
        have bp := L (mixed c i)
        have bq := L n
        refine s_cons (i_set (i := 5) (x_call F_times hr (args_cons (x_var 4) (args_cons (x_call F__law_lesser hr (args_cons (x_call F__law_point hr (args_cons (x_call F__law_mixed hr (args_cons (x_var 2) (args_cons (x_var 1) args_nil)) (.mk _ _ (by walk_at "bnd"))) args_nil) (.mk _)) (args_cons (x_var 1) args_nil)) (.mk (coord (mixed (mixed c i) 1), coord (mixed (mixed c i) 2)) i)) args_nil))
          (.mk t.1 t.2 _ _ (bt.1.mono (by decide)) (bt.2.mono (by decide)) (bp.1.mono (by decide)) (bp.2.mono (by decide)))) ?_ nd)
        refine s_cons (i_set (i := 6) (x_call F_times hr (args_cons (x_var 4) (args_cons (x_call F__law_lesser hr (args_cons (x_call F__law_point hr (args_cons (x_var 3) args_nil) (.mk _)) (args_cons (x_var 1) args_nil)) (.mk (coord (mixed n 1), coord (mixed n 2)) i)) args_nil))
          (.mk t.1 t.2 _ _ (bt.1.mono (by decide)) (bt.2.mono (by decide)) (bq.1.mono (by decide)) (bq.2.mono (by decide)))) ?_ nd)
        generalize lesserP (coord (mixed (mixed c i) 1), coord (mixed (mixed c i) 2)) i = p0 at *
        generalize lesserP (coord (mixed n 1), coord (mixed n 2)) i = q0 at *
        refine s_env (ρ' := [some (.lst (ns.map .int)), some (.int i), some (.int c), some (.int n), some (ptP t), some (ptP (mulP t p0)), some (ptP (mulP t q0))]) rfl ?_
        have ba := (bt.mul bp).mono (show 134 + 134 + 1 ≤ 299 by decide)
        have bb := (bt.mul bq).mono (show 134 + 134 + 1 ≤ 299 by decide)
        have va : Dv t (mulP t p0) := ⟨p0, rfl⟩
        have vb : Dv t (mulP t q0) := ⟨q0, rfl⟩
        generalize mulP t p0 = a0 at *
        generalize mulP t q0 = b at *
        refine s_join (fun ρ => ∃ a : Z2, BdP 299 a ∧ Dv t a ∧ ρ = [some (.lst (ns.map .int)), some (.int i), some (.int c), some (.int n), some (ptP t), some (ptP a), some (ptP b)]) ?_ ?_
        · refine i_if (y_cmp (x_op (x_var 3) x_int (o_mod (by decide))) x_int o_eqI) (fun h => ?_) (fun h => s_nil ⟨a0, ba, va, rfl⟩)
          exact s_one (i_set (i := 5) (x_tup (args_cons x_int (args_cons x_int args_nil))) ⟨(0, 0), bz, .zero _, rfl⟩ nd)
        · rintro ρ' ⟨a, ba, va, rfl⟩
          refine s_cons (i_ifF (y_not (k := true) (y_val (x_call F__law_good hr (args_cons (x_var 5) (args_cons (x_var 6) (args_cons (x_var 4) args_nil))) (.mk a b t ba bb (bt.mono (by decide)) va vb)))) (s_nil ?_))
          have e1 : (grt a (0, 0)).1 = upP a := grt_zero (grt_gcd ba bz) (.refl _) (.zero _) (grt_gcd ba bz).l
          have e2 : (grt (0, 0) b).1 = upP b := grt_zero (grt_gcd bz bb) (.zero _) (.refl _) (grt_gcd bz bb).r
          refine s_one (i_ifF (y_w (w_orF (pt_to (y_cmp (x_ix0 (x_call F_common hr (args_cons (x_var 5) (args_cons (x_tup (args_cons x_int (args_cons x_int args_nil))) args_nil)) (.mk a (0, 0) ba bz))) (x_ix1 (x_call F_upright hr (args_cons (x_var 5) args_nil) (.mk a))) (o_neP hr)) (neT (congrArg Prod.fst e1) (congrArg Prod.snd e1)))
            (w_or1 (pt_to (y_cmp (x_ix0 (x_call F_common hr (args_cons (x_tup (args_cons x_int (args_cons x_int args_nil))) (args_cons (x_var 6) args_nil)) (.mk (0, 0) b bz bb))) (x_ix1 (x_call F_upright hr (args_cons (x_var 6) args_nil) (.mk b))) (o_neP hr)) (neT (congrArg Prod.fst e2) (congrArg Prod.snd e2)))))) (s_nil ⟨_, _, _, _, _, _, rfl⟩))
    · rintro ρ' ⟨x1, x2, x3, x4, x5, x6, rfl⟩
      have e : (grt (0, 0) (0, 0)).1 = (0, 0) := by
        rw [(grt_gcd bz bz).lin, zero_mulP, zero_mulP]
        rfl
      refine s_one (i_ret (pe_to (x_cmp (x_ix0 (x_call F_common hr (args_cons (x_tup (args_cons x_int (args_cons x_int args_nil))) (args_cons (x_tup (args_cons x_int (args_cons x_int args_nil))) args_nil)) (.mk (0, 0) (0, 0) bz bz))) (x_tup (args_cons x_int (args_cons x_int args_nil))) (o_eqP hr)) ?_) rfl)
      rw [eqT (congrArg Prod.fst e) (congrArg Prod.snd e)]
end
theorem all_mk {l : PySem.W.OpenLaw} {w : World} {K : PySem.W.Frag} {h : Heap} {mg : Str → Option Value} {fa : Addr} (X : K.In h) (G : h.Ns mainGlobals mg) (hfa : mg "law" = some (.ref fa))
    {f0 : Addr} {od0 an0 : Option Addr} {sl0 : Array (Option Value)} {oc0 kV0 dc0 pm0 cd0 ct0 : Value}
    (a0 : PySem.W.nsIn K mainGlobals "is_number" = some (some (.ref f0))) (l0 : K.lookup f0 = some ⟨oc0, od0, .func (PySem.W.fnOf "is_number" "is_number" (defArgs s_is_number) (defBody s_is_number) (defScope s_is_number) .none kV0 dc0 pm0 an0 cd0 ct0), sl0⟩) (c0 : PySem.W.codeIn K cd0 "is_number" = true) (k0 : PySem.W.keepIn K (.ref f0) = true)
    {f1 : Addr} {od1 an1 : Option Addr} {sl1 : Array (Option Value)} {oc1 kV1 dc1 pm1 cd1 ct1 : Value}
    (a1 : PySem.W.nsIn K mainGlobals "is_point" = some (some (.ref f1))) (l1 : K.lookup f1 = some ⟨oc1, od1, .func (PySem.W.fnOf "is_point" "is_point" (defArgs s_is_point) (defBody s_is_point) (defScope s_is_point) .none kV1 dc1 pm1 an1 cd1 ct1), sl1⟩) (c1 : PySem.W.codeIn K cd1 "is_point" = true) (k1 : PySem.W.keepIn K (.ref f1) = true)
    {f2 : Addr} {od2 an2 : Option Addr} {sl2 : Array (Option Value)} {oc2 kV2 dc2 pm2 cd2 ct2 : Value}
    (a2 : PySem.W.nsIn K mainGlobals "need_point" = some (some (.ref f2))) (l2 : K.lookup f2 = some ⟨oc2, od2, .func (PySem.W.fnOf "need_point" "need_point" (defArgs s_need_point) (defBody s_need_point) (defScope s_need_point) .none kV2 dc2 pm2 an2 cd2 ct2), sl2⟩) (c2 : PySem.W.codeIn K cd2 "need_point" = true) (k2 : PySem.W.keepIn K (.ref f2) = true)
    {f3 : Addr} {od3 an3 : Option Addr} {sl3 : Array (Option Value)} {oc3 kV3 dc3 pm3 cd3 ct3 : Value}
    (a3 : PySem.W.nsIn K mainGlobals "added" = some (some (.ref f3))) (l3 : K.lookup f3 = some ⟨oc3, od3, .func (PySem.W.fnOf "added" "added" (defArgs s_added) (defBody s_added) (defScope s_added) .none kV3 dc3 pm3 an3 cd3 ct3), sl3⟩) (c3 : PySem.W.codeIn K cd3 "added" = true) (k3 : PySem.W.keepIn K (.ref f3) = true)
    {f4 : Addr} {od4 an4 : Option Addr} {sl4 : Array (Option Value)} {oc4 kV4 dc4 pm4 cd4 ct4 : Value}
    (a4 : PySem.W.nsIn K mainGlobals "multiplied" = some (some (.ref f4))) (l4 : K.lookup f4 = some ⟨oc4, od4, .func (PySem.W.fnOf "multiplied" "multiplied" (defArgs s_multiplied) (defBody s_multiplied) (defScope s_multiplied) .none kV4 dc4 pm4 an4 cd4 ct4), sl4⟩) (c4 : PySem.W.codeIn K cd4 "multiplied" = true) (k4 : PySem.W.keepIn K (.ref f4) = true)
    {f5 : Addr} {od5 an5 : Option Addr} {sl5 : Array (Option Value)} {oc5 kV5 dc5 pm5 cd5 ct5 : Value}
    (a5 : PySem.W.nsIn K mainGlobals "length_of" = some (some (.ref f5))) (l5 : K.lookup f5 = some ⟨oc5, od5, .func (PySem.W.fnOf "length_of" "length_of" (defArgs s_length_of) (defBody s_length_of) (defScope s_length_of) .none kV5 dc5 pm5 an5 cd5 ct5), sl5⟩) (c5 : PySem.W.codeIn K cd5 "length_of" = true) (k5 : PySem.W.keepIn K (.ref f5) = true)
    {f6 : Addr} {od6 an6 : Option Addr} {sl6 : Array (Option Value)} {oc6 kV6 dc6 pm6 cd6 ct6 : Value}
    (a6 : PySem.W.nsIn K mainGlobals "quartered" = some (some (.ref f6))) (l6 : K.lookup f6 = some ⟨oc6, od6, .func (PySem.W.fnOf "quartered" "quartered" (defArgs s_quartered) (defBody s_quartered) (defScope s_quartered) .none kV6 dc6 pm6 an6 cd6 ct6), sl6⟩) (c6 : PySem.W.codeIn K cd6 "quartered" = true) (k6 : PySem.W.keepIn K (.ref f6) = true)
    {f7 : Addr} {od7 an7 : Option Addr} {sl7 : Array (Option Value)} {oc7 kV7 dc7 pm7 cd7 ct7 : Value}
    (a7 : PySem.W.nsIn K mainGlobals "raised" = some (some (.ref f7))) (l7 : K.lookup f7 = some ⟨oc7, od7, .func (PySem.W.fnOf "raised" "raised" (defArgs s_raised) (defBody s_raised) (defScope s_raised) .none kV7 dc7 pm7 an7 cd7 ct7), sl7⟩) (c7 : PySem.W.codeIn K cd7 "raised" = true) (k7 : PySem.W.keepIn K (.ref f7) = true)
    {f8 : Addr} {od8 an8 : Option Addr} {sl8 : Array (Option Value)} {oc8 kV8 dc8 pm8 cd8 ct8 : Value}
    (a8 : PySem.W.nsIn K mainGlobals "plus" = some (some (.ref f8))) (l8 : K.lookup f8 = some ⟨oc8, od8, .func (PySem.W.fnOf "plus" "plus" (defArgs s_plus) (defBody s_plus) (defScope s_plus) .none kV8 dc8 pm8 an8 cd8 ct8), sl8⟩) (c8 : PySem.W.codeIn K cd8 "plus" = true) (k8 : PySem.W.keepIn K (.ref f8) = true)
    {f9 : Addr} {od9 an9 : Option Addr} {sl9 : Array (Option Value)} {oc9 kV9 dc9 pm9 cd9 ct9 : Value}
    (a9 : PySem.W.nsIn K mainGlobals "times" = some (some (.ref f9))) (l9 : K.lookup f9 = some ⟨oc9, od9, .func (PySem.W.fnOf "times" "times" (defArgs s_times) (defBody s_times) (defScope s_times) .none kV9 dc9 pm9 an9 cd9 ct9), sl9⟩) (c9 : PySem.W.codeIn K cd9 "times" = true) (k9 : PySem.W.keepIn K (.ref f9) = true)
    {f10 : Addr} {od10 an10 : Option Addr} {sl10 : Array (Option Value)} {oc10 kV10 dc10 pm10 cd10 ct10 dv10 : Value}
    (a10 : PySem.W.nsIn K mainGlobals "turned" = some (some (.ref f10))) (l10 : K.lookup f10 = some ⟨oc10, od10, .func (PySem.W.fnOf "turned" "turned" (defArgs s_turned) (defBody s_turned) (defScope s_turned) dv10 kV10 dc10 pm10 an10 cd10 ct10), sl10⟩) (c10 : PySem.W.codeIn K cd10 "turned" = true) (k10 : PySem.W.keepIn K (.ref f10) = true)
    {td10 : Addr} {tt10 : Tok} {to10 : Value} {tn10 : Nat} {tx10 : Option Addr} {ts10 : Array (Option Value)} (d10 : dv10 = .ref td10) (e10 : K.lookup td10 = some ⟨to10, tx10, .seq [.int 1 tt10].toArray tn10, ts10⟩)
    {f11 : Addr} {od11 an11 : Option Addr} {sl11 : Array (Option Value)} {oc11 kV11 dc11 pm11 cd11 ct11 : Value}
    (a11 : PySem.W.nsIn K mainGlobals "upright" = some (some (.ref f11))) (l11 : K.lookup f11 = some ⟨oc11, od11, .func (PySem.W.fnOf "upright" "upright" (defArgs s_upright) (defBody s_upright) (defScope s_upright) .none kV11 dc11 pm11 an11 cd11 ct11), sl11⟩) (c11 : PySem.W.codeIn K cd11 "upright" = true) (k11 : PySem.W.keepIn K (.ref f11) = true)
    {f12 : Addr} {od12 an12 : Option Addr} {sl12 : Array (Option Value)} {oc12 kV12 dc12 pm12 cd12 ct12 : Value}
    (a12 : PySem.W.nsIn K mainGlobals "nearest" = some (some (.ref f12))) (l12 : K.lookup f12 = some ⟨oc12, od12, .func (PySem.W.fnOf "nearest" "nearest" (defArgs s_nearest) (defBody s_nearest) (defScope s_nearest) .none kV12 dc12 pm12 an12 cd12 ct12), sl12⟩) (c12 : PySem.W.codeIn K cd12 "nearest" = true) (k12 : PySem.W.keepIn K (.ref f12) = true)
    {f13 : Addr} {od13 an13 : Option Addr} {sl13 : Array (Option Value)} {oc13 kV13 dc13 pm13 cd13 ct13 : Value}
    (a13 : PySem.W.nsIn K mainGlobals "quotient_of" = some (some (.ref f13))) (l13 : K.lookup f13 = some ⟨oc13, od13, .func (PySem.W.fnOf "quotient_of" "quotient_of" (defArgs s_quotient_of) (defBody s_quotient_of) (defScope s_quotient_of) .none kV13 dc13 pm13 an13 cd13 ct13), sl13⟩) (c13 : PySem.W.codeIn K cd13 "quotient_of" = true) (k13 : PySem.W.keepIn K (.ref f13) = true)
    {f14 : Addr} {od14 an14 : Option Addr} {sl14 : Array (Option Value)} {oc14 kV14 dc14 pm14 cd14 ct14 : Value}
    (a14 : PySem.W.nsIn K mainGlobals "less" = some (some (.ref f14))) (l14 : K.lookup f14 = some ⟨oc14, od14, .func (PySem.W.fnOf "less" "less" (defArgs s_less) (defBody s_less) (defScope s_less) .none kV14 dc14 pm14 an14 cd14 ct14), sl14⟩) (c14 : PySem.W.codeIn K cd14 "less" = true) (k14 : PySem.W.keepIn K (.ref f14) = true)
    {f15 : Addr} {od15 an15 : Option Addr} {sl15 : Array (Option Value)} {oc15 kV15 dc15 pm15 cd15 ct15 : Value}
    (a15 : PySem.W.nsIn K mainGlobals "goes_into" = some (some (.ref f15))) (l15 : K.lookup f15 = some ⟨oc15, od15, .func (PySem.W.fnOf "goes_into" "goes_into" (defArgs s_goes_into) (defBody s_goes_into) (defScope s_goes_into) .none kV15 dc15 pm15 an15 cd15 ct15), sl15⟩) (c15 : PySem.W.codeIn K cd15 "goes_into" = true) (k15 : PySem.W.keepIn K (.ref f15) = true)
    {f16 : Addr} {od16 an16 : Option Addr} {sl16 : Array (Option Value)} {oc16 kV16 dc16 pm16 cd16 ct16 : Value}
    (a16 : PySem.W.nsIn K mainGlobals "divides" = some (some (.ref f16))) (l16 : K.lookup f16 = some ⟨oc16, od16, .func (PySem.W.fnOf "divides" "divides" (defArgs s_divides) (defBody s_divides) (defScope s_divides) .none kV16 dc16 pm16 an16 cd16 ct16), sl16⟩) (c16 : PySem.W.codeIn K cd16 "divides" = true) (k16 : PySem.W.keepIn K (.ref f16) = true)
    {f17 : Addr} {od17 an17 : Option Addr} {sl17 : Array (Option Value)} {oc17 kV17 dc17 pm17 cd17 ct17 : Value}
    (a17 : PySem.W.nsIn K mainGlobals "greatest" = some (some (.ref f17))) (l17 : K.lookup f17 = some ⟨oc17, od17, .func (PySem.W.fnOf "greatest" "greatest" (defArgs s_greatest) (defBody s_greatest) (defScope s_greatest) .none kV17 dc17 pm17 an17 cd17 ct17), sl17⟩) (c17 : PySem.W.codeIn K cd17 "greatest" = true) (k17 : PySem.W.keepIn K (.ref f17) = true)
    {f18 : Addr} {od18 an18 : Option Addr} {sl18 : Array (Option Value)} {oc18 kV18 dc18 pm18 cd18 ct18 : Value}
    (a18 : PySem.W.nsIn K mainGlobals "common" = some (some (.ref f18))) (l18 : K.lookup f18 = some ⟨oc18, od18, .func (PySem.W.fnOf "common" "common" (defArgs s_common) (defBody s_common) (defScope s_common) .none kV18 dc18 pm18 an18 cd18 ct18), sl18⟩) (c18 : PySem.W.codeIn K cd18 "common" = true) (k18 : PySem.W.keepIn K (.ref f18) = true)
    {f19 : Addr} {od19 an19 : Option Addr} {sl19 : Array (Option Value)} {oc19 kV19 dc19 pm19 cd19 ct19 : Value}
    (a19 : PySem.W.nsIn K mainGlobals "_law_mixed" = some (some (.ref f19))) (l19 : K.lookup f19 = some ⟨oc19, od19, .func (PySem.W.fnOf "_law_mixed" "_law_mixed" (defArgs s__law_mixed) (defBody s__law_mixed) (defScope s__law_mixed) .none kV19 dc19 pm19 an19 cd19 ct19), sl19⟩) (c19 : PySem.W.codeIn K cd19 "_law_mixed" = true) (k19 : PySem.W.keepIn K (.ref f19) = true)
    {f20 : Addr} {od20 an20 : Option Addr} {sl20 : Array (Option Value)} {oc20 kV20 dc20 pm20 cd20 ct20 : Value}
    (a20 : PySem.W.nsIn K mainGlobals "_law_coord" = some (some (.ref f20))) (l20 : K.lookup f20 = some ⟨oc20, od20, .func (PySem.W.fnOf "_law_coord" "_law_coord" (defArgs s__law_coord) (defBody s__law_coord) (defScope s__law_coord) .none kV20 dc20 pm20 an20 cd20 ct20), sl20⟩) (c20 : PySem.W.codeIn K cd20 "_law_coord" = true) (k20 : PySem.W.keepIn K (.ref f20) = true)
    {f21 : Addr} {od21 an21 : Option Addr} {sl21 : Array (Option Value)} {oc21 kV21 dc21 pm21 cd21 ct21 : Value}
    (a21 : PySem.W.nsIn K mainGlobals "_law_point" = some (some (.ref f21))) (l21 : K.lookup f21 = some ⟨oc21, od21, .func (PySem.W.fnOf "_law_point" "_law_point" (defArgs s__law_point) (defBody s__law_point) (defScope s__law_point) .none kV21 dc21 pm21 an21 cd21 ct21), sl21⟩) (c21 : PySem.W.codeIn K cd21 "_law_point" = true) (k21 : PySem.W.keepIn K (.ref f21) = true)
    {f22 : Addr} {od22 an22 : Option Addr} {sl22 : Array (Option Value)} {oc22 kV22 dc22 pm22 cd22 ct22 : Value}
    (a22 : PySem.W.nsIn K mainGlobals "_law_is_point" = some (some (.ref f22))) (l22 : K.lookup f22 = some ⟨oc22, od22, .func (PySem.W.fnOf "_law_is_point" "_law_is_point" (defArgs s__law_is_point) (defBody s__law_is_point) (defScope s__law_is_point) .none kV22 dc22 pm22 an22 cd22 ct22), sl22⟩) (c22 : PySem.W.codeIn K cd22 "_law_is_point" = true) (k22 : PySem.W.keepIn K (.ref f22) = true)
    {f23 : Addr} {od23 an23 : Option Addr} {sl23 : Array (Option Value)} {oc23 kV23 dc23 pm23 cd23 ct23 : Value}
    (a23 : PySem.W.nsIn K mainGlobals "_law_lesser" = some (some (.ref f23))) (l23 : K.lookup f23 = some ⟨oc23, od23, .func (PySem.W.fnOf "_law_lesser" "_law_lesser" (defArgs s__law_lesser) (defBody s__law_lesser) (defScope s__law_lesser) .none kV23 dc23 pm23 an23 cd23 ct23), sl23⟩) (c23 : PySem.W.codeIn K cd23 "_law_lesser" = true) (k23 : PySem.W.keepIn K (.ref f23) = true)
    {f24 : Addr} {od24 an24 : Option Addr} {sl24 : Array (Option Value)} {oc24 kV24 dc24 pm24 cd24 ct24 : Value}
    (a24 : PySem.W.nsIn K mainGlobals "_law_good" = some (some (.ref f24))) (l24 : K.lookup f24 = some ⟨oc24, od24, .func (PySem.W.fnOf "_law_good" "_law_good" (defArgs s__law_good) (defBody s__law_good) (defScope s__law_good) .none kV24 dc24 pm24 an24 cd24 ct24), sl24⟩) (c24 : PySem.W.codeIn K cd24 "_law_good" = true) (k24 : PySem.W.keepIn K (.ref f24) = true)
    {f25 : Addr} {od25 an25 : Option Addr} {sl25 : Array (Option Value)} {oc25 kV25 dc25 pm25 cd25 ct25 : Value}
    (a25 : PySem.W.nsIn K mainGlobals "law" = some (some (.ref f25))) (l25 : K.lookup f25 = some ⟨oc25, od25, .func (PySem.W.fnOf "law" "law" (defArgs s_law) (defBody s_law) (defScope s_law) .none kV25 dc25 pm25 an25 cd25 ct25), sl25⟩) (c25 : PySem.W.codeIn K cd25 "law" = true) (k25 : PySem.W.keepIn K (.ref f25) = true)
    {C0 : Addr} (xa0 : PySem.W.nsIn K mainGlobals "PointError" = some (some (.ref C0))) (xx0 : PySem.W.excIn K C0 [.type "ValueError", .type "Exception", .type "BaseException", .type "object"] "ValueError.__new__" = true) (xk0 : PySem.W.keepIn K (.ref C0) = true) (xb0 : PySem.W.subIn K (.ref C0) (.type "BaseException") = some true) (xt0 : PySem.W.typeIn K (.ref C0) = some (.type "type"))
    {C1 : Addr} (xa1 : PySem.W.nsIn K mainGlobals "NoPoint" = some (some (.ref C1))) (xx1 : PySem.W.excIn K C1 [.type "ValueError", .type "Exception", .type "BaseException", .type "object"] "ValueError.__new__" = true) (xk1 : PySem.W.keepIn K (.ref C1) = true) (xb1 : PySem.W.subIn K (.ref C1) (.type "BaseException") = some true) (xt1 : PySem.W.typeIn K (.ref C1) = some (.type "type"))
    {C2 : Addr} (xa2 : PySem.W.nsIn K mainGlobals "NoNumber" = some (some (.ref C2))) (xx2 : PySem.W.excIn K C2 [.type "ValueError", .type "Exception", .type "BaseException", .type "object"] "ValueError.__new__" = true) (xk2 : PySem.W.keepIn K (.ref C2) = true) (xb2 : PySem.W.subIn K (.ref C2) (.type "BaseException") = some true) (xt2 : PySem.W.typeIn K (.ref C2) = some (.type "type"))
    {gt0 : Addr} {gd0 : Option Addr} {gn0 : Nat} {gs0 : Array (Option Value)} {gu0 gv0 : Tok} (ga0 : PySem.W.nsIn K mainGlobals "NOTHING" = some (some (.ref gt0))) (gl0 : K.lookup gt0 = some ⟨.type "tuple", gd0, .seq [.int 0 gu0, .int 0 gv0].toArray gn0, gs0⟩)
    (z0 : PySem.W.nsIn K mainGlobals "isinstance" = some none)
    (z1 : PySem.W.nsIn K mainGlobals "int" = some none)
    (z2 : PySem.W.nsIn K mainGlobals "bool" = some none)
    (z3 : PySem.W.nsIn K mainGlobals "tuple" = some none)
    (z4 : PySem.W.nsIn K mainGlobals "list" = some none)
    (z5 : PySem.W.nsIn K mainGlobals "len" = some none)
    (z6 : PySem.W.nsIn K mainGlobals "all" = some none)
    (z7 : PySem.W.nsIn K mainGlobals "sum" = some none)
    (z8 : PySem.W.nsIn K mainGlobals "range" = some none)
    (z9 : PySem.W.nsIn K mainGlobals "enumerate" = some none)
    (z10 : PySem.W.nsIn K mainGlobals "min" = some none)
    (z11 : PySem.W.nsIn K mainGlobals "max" = some none)
    (z12 : PySem.W.nsIn K mainGlobals "sorted" = some none)
    (z13 : PySem.W.nsIn K mainGlobals "set" = some none)
    (z14 : PySem.W.nsIn K mainGlobals "ValueError" = some none)
    : ∃ fd : FuncData, (∀ (s : Shared) (v : Value), BindsTo s fd ⟨[v], []⟩ [("_law_script", v)]) ∧ ∀ base : Heap, K.In base → base.Ns mainGlobals mg → FnOk l.prog w K mg base (L2.CX l.prog w) 6 fa fd ["_law_script"] (spR K R_law) := by
  have e := hfa.symm.trans (PySem.W.mg_of X G a25)
  cases e
  have T : Bl mg := ⟨PySem.W.mg_none_of X G z0, PySem.W.mg_none_of X G z1, PySem.W.mg_none_of X G z2, PySem.W.mg_none_of X G z3, PySem.W.mg_none_of X G z4, PySem.W.mg_none_of X G z5, PySem.W.mg_none_of X G z6, PySem.W.mg_none_of X G z7, PySem.W.mg_none_of X G z8, PySem.W.mg_none_of X G z9, PySem.W.mg_none_of X G z10, PySem.W.mg_none_of X G z11, PySem.W.mg_none_of X G z12, PySem.W.mg_none_of X G z13, PySem.W.mg_none_of X G z14⟩
  have X_PointError : EcD K mg "PointError" C0 := ⟨PySem.W.mg_of X G xa0, xx0, xk0, xb0, xt0⟩
  have X_NoPoint : EcD K mg "NoPoint" C1 := ⟨PySem.W.mg_of X G xa1, xx1, xk1, xb1, xt1⟩
  have X_NoNumber : EcD K mg "NoNumber" C2 := ⟨PySem.W.mg_of X G xa2, xx2, xk2, xb2, xt2⟩
  have G_NOTHING : GlD K mg "NOTHING" (pt 0 0) := glD_pt (PySem.W.mg_of X G ga0) gl0
  have D_is_number := fun_mk (st := s_is_number) l0 c0 k0
  have D_is_point := fun_mk (st := s_is_point) l1 c1 k1
  have D_need_point := fun_mk (st := s_need_point) l2 c2 k2
  have D_added := fun_mk (st := s_added) l3 c3 k3
  have D_multiplied := fun_mk (st := s_multiplied) l4 c4 k4
  have D_length_of := fun_mk (st := s_length_of) l5 c5 k5
  have D_quartered := fun_mk (st := s_quartered) l6 c6 k6
  have D_raised := fun_mk (st := s_raised) l7 c7 k7
  have D_plus := fun_mk (st := s_plus) l8 c8 k8
  have D_times := fun_mk (st := s_times) l9 c9 k9
  have D_turned := fun_mkD (st := s_turned) l10 c10 k10 d10 e10
  have D_upright := fun_mk (st := s_upright) l11 c11 k11
  have D_nearest := fun_mk (st := s_nearest) l12 c12 k12
  have D_quotient_of := fun_mk (st := s_quotient_of) l13 c13 k13
  have D_less := fun_mk (st := s_less) l14 c14 k14
  have D_goes_into := fun_mk (st := s_goes_into) l15 c15 k15
  have D_divides := fun_mk (st := s_divides) l16 c16 k16
  have D_greatest := fun_mk (st := s_greatest) l17 c17 k17
  have D_common := fun_mk (st := s_common) l18 c18 k18
  have D__law_mixed := fun_mk (st := s__law_mixed) l19 c19 k19
  have D__law_coord := fun_mk (st := s__law_coord) l20 c20 k20
  have D__law_point := fun_mk (st := s__law_point) l21 c21 k21
  have D__law_is_point := fun_mk (st := s__law_is_point) l22 c22 k22
  have D__law_lesser := fun_mk (st := s__law_lesser) l23 c23 k23
  have D__law_good := fun_mk (st := s__law_good) l24 c24 k24
  have D_law := fun_mk (st := s_law) l25 c25 k25
  refine ⟨PySem.W.fnOf "law" "law" (defArgs s_law) (defBody s_law) (defScope s_law) .none kV25 dc25 pm25 an25 cd25 ct25, fun s v => .of_eq rfl, fun base _ _ => ?_⟩
  have F_is_number := ok_is_number (P := l.prog) (w := w) (base := base) (T := T) D_is_number (PySem.W.mg_of X G a0)
  have F_is_point := ok_is_point (P := l.prog) (w := w) (base := base) (T := T) (F_is_number := F_is_number) D_is_point (PySem.W.mg_of X G a1)
  have F_need_point := ok_need_point (P := l.prog) (w := w) (base := base) (X_NoPoint := X_NoPoint) (F_is_point := F_is_point) D_need_point (PySem.W.mg_of X G a2)
  have F_added := ok_added (P := l.prog) (w := w) (base := base)  D_added (PySem.W.mg_of X G a3)
  have F_multiplied := ok_multiplied (P := l.prog) (w := w) (base := base)  D_multiplied (PySem.W.mg_of X G a4)
  have F_length_of := ok_length_of (P := l.prog) (w := w) (base := base)  D_length_of (PySem.W.mg_of X G a5)
  have F_quartered := ok_quartered (P := l.prog) (w := w) (base := base) (T := T) D_quartered (PySem.W.mg_of X G a6)
  have F_raised := ok_raised (P := l.prog) (w := w) (base := base) (G_NOTHING := G_NOTHING) (F_quartered := F_quartered) D_raised (PySem.W.mg_of X G a7)
  have F_plus := ok_plus (P := l.prog) (w := w) (base := base) (F_need_point := F_need_point) (F_added := F_added) D_plus (PySem.W.mg_of X G a8)
  have F_times := ok_times (P := l.prog) (w := w) (base := base) (F_need_point := F_need_point) (F_multiplied := F_multiplied) D_times (PySem.W.mg_of X G a9)
  have F_turned := ok_turned (P := l.prog) (w := w) (base := base) (X_NoNumber := X_NoNumber) (F_need_point := F_need_point) (F_is_number := F_is_number) (F_quartered := F_quartered) D_turned (PySem.W.mg_of X G a10)
  have F_upright := ok_upright (P := l.prog) (w := w) (base := base) (F_need_point := F_need_point) (F_raised := F_raised) D_upright (PySem.W.mg_of X G a11)
  have F_nearest := ok_nearest (P := l.prog) (w := w) (base := base)  D_nearest (PySem.W.mg_of X G a12)
  have F_quotient_of := ok_quotient_of (P := l.prog) (w := w) (base := base) (F_multiplied := F_multiplied) (F_length_of := F_length_of) (F_nearest := F_nearest) D_quotient_of (PySem.W.mg_of X G a13)
  have F_less := ok_less (P := l.prog) (w := w) (base := base) (F_multiplied := F_multiplied) D_less (PySem.W.mg_of X G a14)
  have F_goes_into := ok_goes_into (P := l.prog) (w := w) (base := base) (G_NOTHING := G_NOTHING) (F_less := F_less) (F_quotient_of := F_quotient_of) D_goes_into (PySem.W.mg_of X G a15)
  have F_divides := ok_divides (P := l.prog) (w := w) (base := base) (F_need_point := F_need_point) (F_goes_into := F_goes_into) D_divides (PySem.W.mg_of X G a16)
  have F_greatest := ok_greatest (P := l.prog) (w := w) (base := base) (T := T) (G_NOTHING := G_NOTHING) (F_quotient_of := F_quotient_of) (F_less := F_less) (F_raised := F_raised) (F_quartered := F_quartered) D_greatest (PySem.W.mg_of X G a17)
  have F_common := ok_common (P := l.prog) (w := w) (base := base) (F_need_point := F_need_point) (F_greatest := F_greatest) D_common (PySem.W.mg_of X G a18)
  have F__law_mixed := ok__law_mixed (P := l.prog) (w := w) (base := base)  D__law_mixed (PySem.W.mg_of X G a19)
  have F__law_coord := ok__law_coord (P := l.prog) (w := w) (base := base)  D__law_coord (PySem.W.mg_of X G a20)
  have F__law_point := ok__law_point (P := l.prog) (w := w) (base := base) (F__law_mixed := F__law_mixed) (F__law_coord := F__law_coord) D__law_point (PySem.W.mg_of X G a21)
  have F__law_is_point := ok__law_is_point (P := l.prog) (w := w) (base := base) (T := T) D__law_is_point (PySem.W.mg_of X G a22)
  have F__law_lesser := ok__law_lesser (P := l.prog) (w := w) (base := base)  D__law_lesser (PySem.W.mg_of X G a23)
  have F__law_good := ok__law_good (P := l.prog) (w := w) (base := base) (T := T) (F_common := F_common) (F_plus := F_plus) (F_times := F_times) (F_upright := F_upright) (F_divides := F_divides) (F_turned := F_turned) (F__law_is_point := F__law_is_point) D__law_good (PySem.W.mg_of X G a24)
  exact ok_law (P := l.prog) (w := w) (base := base) (T := T) (F_common := F_common) (F_times := F_times) (F_upright := F_upright) (F__law_mixed := F__law_mixed) (F__law_point := F__law_point) (F__law_lesser := F__law_lesser) (F__law_good := F__law_good) D_law
end Tw
open PySem PySem.W PyProof.Rows
set_option maxRecDepth 100000 in
set_option maxHeartbeats 0 in
theorem PySem.Challenge.cw_twosquares_k06_whole_common_parts_holds : PySem.Challenge.rw_twosquares_k06_whole_common_parts.Holds := by
  w_on; o_law; k_head; (case hw => w_witness2)
  k_fill
  refine L2.walk_of (l := PySem.Challenge.rw_twosquares_k06_whole_common_parts) (n := 63) (k := 6) (x := "_law_script") (CX := fun w => L2.CX PySem.Challenge.pw_twosquares_k06_whole_common_parts w) (sp := fun w => Gd.spR _ Tw.R_law) rfl (by decide) rfl ⟨rfl, by decide, by decide⟩ (fun w h Y => PySem.W.kIn_of Y) ?F (fun _ _ a ns hl _ hS => ⟨[.lst (ns.map .int)], .ok (.bl true), .mk ns hl, .cons (.lst hS (Gd.RpA.ints ns)) .nil, fun v H' e r => r.bl_of⟩) (fun _ _ _ _ _ h => by obtain ⟨_, _, _, _, _, _, _, _, _, _, _, _, z⟩ := h; exact z)
  case F =>
    intro w mg fa h KX G hmg
    refine' Tw.all_mk (l := PySem.Challenge.rw_twosquares_k06_whole_common_parts) KX G hmg ?a0 ?l0 ?c0 ?k0 ?a1 ?l1 ?c1 ?k1 ?a2 ?l2 ?c2 ?k2 ?a3 ?l3 ?c3 ?k3 ?a4 ?l4 ?c4 ?k4 ?a5 ?l5 ?c5 ?k5 ?a6 ?l6 ?c6 ?k6 ?a7 ?l7 ?c7 ?k7 ?a8 ?l8 ?c8 ?k8 ?a9 ?l9 ?c9 ?k9 ?a10 ?l10 ?c10 ?k10 ?d10 ?e10 ?a11 ?l11 ?c11 ?k11 ?a12 ?l12 ?c12 ?k12 ?a13 ?l13 ?c13 ?k13 ?a14 ?l14 ?c14 ?k14 ?a15 ?l15 ?c15 ?k15 ?a16 ?l16 ?c16 ?k16 ?a17 ?l17 ?c17 ?k17 ?a18 ?l18 ?c18 ?k18 ?a19 ?l19 ?c19 ?k19 ?a20 ?l20 ?c20 ?k20 ?a21 ?l21 ?c21 ?k21 ?a22 ?l22 ?c22 ?k22 ?a23 ?l23 ?c23 ?k23 ?a24 ?l24 ?c24 ?k24 ?a25 ?l25 ?c25 ?k25 ?xa0 ?xx0 ?xk0 ?xb0 ?xt0 ?xa1 ?xx1 ?xk1 ?xb1 ?xt1 ?xa2 ?xx2 ?xk2 ?xb2 ?xt2 ?ga0 ?gl0 ?z0 ?z1 ?z2 ?z3 ?z4 ?z5 ?z6 ?z7 ?z8 ?z9 ?z10 ?z11 ?z12 ?z13 ?z14
    (case a0 => k_is)
    (case l0 => k_is)
    (case c0 => k_is)
    (case k0 => k_is)
    (case a1 => k_is)
    (case l1 => k_is)
    (case c1 => k_is)
    (case k1 => k_is)
    (case a2 => k_is)
    (case l2 => k_is)
    (case c2 => k_is)
    (case k2 => k_is)
    (case a3 => k_is)
    (case l3 => k_is)
    (case c3 => k_is)
    (case k3 => k_is)
    (case a4 => k_is)
    (case l4 => k_is)
    (case c4 => k_is)
    (case k4 => k_is)
    (case a5 => k_is)
    (case l5 => k_is)
    (case c5 => k_is)
    (case k5 => k_is)
    (case a6 => k_is)
    (case l6 => k_is)
    (case c6 => k_is)
    (case k6 => k_is)
    (case a7 => k_is)
    (case l7 => k_is)
    (case c7 => k_is)
    (case k7 => k_is)
    (case a8 => k_is)
    (case l8 => k_is)
    (case c8 => k_is)
    (case k8 => k_is)
    (case a9 => k_is)
    (case l9 => k_is)
    (case c9 => k_is)
    (case k9 => k_is)
    (case a10 => k_is)
    (case l10 => k_is)
    (case c10 => k_is)
    (case k10 => k_is)
    (case d10 => first | rfl | k_is)
    (case e10 => first | rfl | k_is)
    (case a11 => k_is)
    (case l11 => k_is)
    (case c11 => k_is)
    (case k11 => k_is)
    (case a12 => k_is)
    (case l12 => k_is)
    (case c12 => k_is)
    (case k12 => k_is)
    (case a13 => k_is)
    (case l13 => k_is)
    (case c13 => k_is)
    (case k13 => k_is)
    (case a14 => k_is)
    (case l14 => k_is)
    (case c14 => k_is)
    (case k14 => k_is)
    (case a15 => k_is)
    (case l15 => k_is)
    (case c15 => k_is)
    (case k15 => k_is)
    (case a16 => k_is)
    (case l16 => k_is)
    (case c16 => k_is)
    (case k16 => k_is)
    (case a17 => k_is)
    (case l17 => k_is)
    (case c17 => k_is)
    (case k17 => k_is)
    (case a18 => k_is)
    (case l18 => k_is)
    (case c18 => k_is)
    (case k18 => k_is)
    (case a19 => k_is)
    (case l19 => k_is)
    (case c19 => k_is)
    (case k19 => k_is)
    (case a20 => k_is)
    (case l20 => k_is)
    (case c20 => k_is)
    (case k20 => k_is)
    (case a21 => k_is)
    (case l21 => k_is)
    (case c21 => k_is)
    (case k21 => k_is)
    (case a22 => k_is)
    (case l22 => k_is)
    (case c22 => k_is)
    (case k22 => k_is)
    (case a23 => k_is)
    (case l23 => k_is)
    (case c23 => k_is)
    (case k23 => k_is)
    (case a24 => k_is)
    (case l24 => k_is)
    (case c24 => k_is)
    (case k24 => k_is)
    (case a25 => k_is)
    (case l25 => k_is)
    (case c25 => k_is)
    (case k25 => k_is)
    (case xa0 => k_is)
    (case xx0 => k_exc)
    (case xk0 => k_is)
    (case xb0 => k_is)
    (case xt0 => k_is)
    (case xa1 => k_is)
    (case xx1 => k_exc)
    (case xk1 => k_is)
    (case xb1 => k_is)
    (case xt1 => k_is)
    (case xa2 => k_is)
    (case xx2 => k_exc)
    (case xk2 => k_is)
    (case xb2 => k_is)
    (case xt2 => k_is)
    (case ga0 => k_is)
    (case gl0 => k_is)
    (case z0 => k_is)
    (case z1 => k_is)
    (case z2 => k_is)
    (case z3 => k_is)
    (case z4 => k_is)
    (case z5 => k_is)
    (case z6 => k_is)
    (case z7 => k_is)
    (case z8 => k_is)
    (case z9 => k_is)
    (case z10 => k_is)
    (case z11 => k_is)
    (case z12 => k_is)
    (case z13 => k_is)
    (case z14 => k_is)

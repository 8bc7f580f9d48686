import PyProof.Rows.All
import HandS.ForMost
import KE.GoesMore
import HandS.Deep
import HandS.IsInst
import HandS.Words
import HandS.WordsList
import HandS.Comp
import Wide.All
import OpenK.AllK
import Wide.FinOn
import PySem.Challenge.RW_memoryviews_k01_whole_programs
import HandS.DictComp
import HandS.More
import HandS.Style
import HandS.TupAny
import HandS.TupMul
set_option Elab.async false
set_option maxRecDepth 100000
/-! enumerate over a tuple -/
namespace G341
open PySem PySem.Spec PyProof.Rows L2

section made
open Sem (wp)
set_option maxHeartbeats 1000000 in
theorem made_enum {v : Value} {o : Obj} {J : Heap → Prop} (B : Begins v o J) :
    Meets (Builtin.«enumerate.__new__» ⟨[.type "enumerate", v], []⟩)
      (fun _ R s => J s.heap ∧ R (.ok (.ret (.ref (s.heap.push o).objs.size)))
        { s with heap := (s.heap.push o).push { cls := .type "enumerate",
                                                 data := .fields #[.none, .bool false, .ref s.heap.objs.size, rawInt 0, .none, .none] } }) := by
  refine .of_wp fun pr ww AA R st hh => ?_
  obtain ⟨hp, gl, dd, tt, os⟩ := st
  obtain ⟨hJ, hh⟩ := hh
  have su := sub_enumerate
  have it1 : ∀ {A1 : Around} {E1 : Value → Shared → Prop} {Q1 : Value → Shared → Prop},
      Q1 (.ref hp.objs.size) ⟨hp.push o, gl, dd, tt, os⟩ → wpAny (model pr ww) A1 (pyIter v) Q1 E1 ⟨hp, gl, dd, tt, os⟩ :=
    fun z => B.iter pr ww _ _ ⟨hp, gl, dd, tt, os⟩ _ hJ z
  wp_walk using it1
  refine wpAny_stack_any fun fr => wpAny_pure ?_
  split
  · rename_i cc _ _ _ _ _
    cases (cc == Value.type "enumerate") <;> (wp_walk using it1; exact ⟨_, rfl, hh⟩)
  · wp_walk using it1
    exact ⟨_, rfl, hh⟩

theorem begun_enum {pr : Program} {ww : World} {AA : Around} {E : Value → Shared → Prop} {s : Shared} {v : Value} {o : Obj} {J : Heap → Prop}
    {Q : Value → Shared → Prop} (B : Begins v o J) (hJ : J s.heap)
    (h : ∀ g : Heap, IsEnum g (s.heap.objs.size + 1) s.heap.objs.size 0 .none → g.get? s.heap.objs.size = some o →
      (∀ b x, s.heap.get? b = some x → g.get? b = some x) → Q (.ref (s.heap.objs.size + 1)) { s with heap := g }) :
    wpAny (model pr ww) AA (call (.type "enumerate") [v]) Q E s := by
  refine callType_new F.called_enumerate (by decide) (F.typeCall_enumerate_1 _) (F.newCall_enumerate_1 _)
    (fun ob => F.args_object_init_2 ob _) F.entry_enumerate_new (made_enum B) ⟨hJ, ?_⟩
  have sz : (s.heap.push o).objs.size = s.heap.objs.size + 1 := Heap.size_push ..
  have top := Heap.get?_push_size (s.heap.push o)
    (o := { cls := .type "enumerate", data := .fields #[.none, .bool false, .ref s.heap.objs.size, rawInt 0, .none, .none] }) rfl
  rw [sz] at top
  show _ ∧ _
  rw [sz]
  exact ⟨⟨_, top, rfl⟩, h _ top (Heap.get?_push_of_some _ (Heap.get?_push_size _ B.free))
    (fun b x z => Heap.get?_push_of_some _ (Heap.get?_push_of_some _ z))⟩
end made

/-- the tuple at a, each item in a new pair with its place -/
def ItE (K : PySem.W.Frag) (a : Addr) : It where
  go := fun i H => ∃ (xs : List V) (x : V), SqT K H a xs ∧ xs[i]? = some x
  yld := fun i H v H' => ∃ (T : Addr) (x : V), v = .ref T ∧ H T = none ∧ (H' = upd H T (.tup [.int (i : Nat), x])) ∧ (∀ ys : List V, SqT K H a ys → ys[i]? = some x)
  stop := fun i H => ∃ xs : List V, SqT K H a xs ∧ xs.length ≤ i

theorem turnE {P : Program} {w : World} {K : PySem.W.Frag} {es : List Expr} {n : Nat} {tp : Pos} (a e it : Addr) :
    Turn P w K (.Tuple es n tp) (ItE K a) [e, it] e
      (fun i h => (∃ old, IsEnum h e it ((i : Nat) : Int) old) ∧ h.IsTupleIter it a i ∧ e ≠ it) where
  mem := List.mem_cons_self ..
  obj := by
    rintro i h ⟨⟨old, he⟩, ⟨o, ho, hc, hd⟩, _⟩ b hb
    rcases List.mem_cons.mp hb with z | z
    · subst z
      exact ⟨_, he, fun v q => nomatch q⟩
    · rw [List.mem_singleton.mp z]
      exact ⟨o, ho, fun v q => by rw [hd] at q; cases q⟩
  keep := by
    rintro i h h' ⟨⟨old, he⟩, hi, ne⟩ k
    exact ⟨⟨old, k e (by simp) _ he⟩, hi.at (fun o q => k it (by simp) o q), ne⟩
  item := by
    intro X hP hw hK hc i pins s σ H E I hf st hg
    subst hP hw hK
    obtain ⟨⟨old, he⟩, hit, ne⟩ := st
    obtain ⟨xs, x, hq, hx⟩ := hg
    obtain ⟨its, rv, p, _⟩ := I.tuple hq
    obtain ⟨u, hu, ru⟩ := rv.get hx
    have el : e < s.heap.objs.size := Heap.lt_size he
    have il : it < s.heap.objs.size := by
      obtain ⟨_, q, _⟩ := id hit
      exact Heap.lt_size q
    have pT : s.heap.IsTuple a its.toArray := p
    have fe := (hf e (by simp)).1
    have fi := (hf it (by simp)).1
    have ai : a ≠ it := by
      intro z
      subst z
      obtain ⟨o1, q1, c1, _⟩ := id hit
      obtain ⟨o2, q2, c2, _⟩ := pT
      rw [q1] at q2
      cases q2
      rw [c1] at c2
      exact absurd c2 (by decide)
    have ae : e ∉ [it, a] := by
      intro z
      rcases List.mem_cons.mp z with z | z
      · exact ne z
      · have z := List.mem_singleton.mp z
        subst z
        obtain ⟨o2, q2, c2, _⟩ := pT
        rw [he] at q2
        cases q2
        exact absurd (show Value.type "enumerate" = Value.type "tuple" from c2) (by decide)
    refine wpAny_pyNext_enum_itemD (Draws.tuple (A := X.A.in1) (I.ok.hd hc) it a ai its.toArray) he ⟨hit, pT⟩
      (by
        have : i < its.length := (List.getElem?_eq_some_iff.mp hu).1
        simpa using this) ne ae fun y g tk hy ho hst hT hsz hk => ?_
    have eyu : y = u := by
      have h1 : its[i]? = some y := by simpa using hy
      rw [hu] at h1
      exact (Option.some.inj h1).symm
    subst eyu
    refine ⟨_, rfl, wpAny_letOwnedTupleGo_enum (s := { s with heap := g, toks := tk + 1 }) ho fun g2 he2 sb => ?_⟩
    have hT2 : g2.get? s.heap.objs.size = some { cls := .type "tuple", data := .seq #[.int i tk, y] } :=
      (sb.2 _ (Nat.ne_of_gt el)).trans hT
    have new : ObjOk X.prog X.w (upd H s.heap.objs.size (.tup [.int (i : Nat), x])) g2 s.heap.objs.size (.tup [.int (i : Nat), x]) :=
      ⟨by show 2 ≤ sizeLine; decide, [.int i tk, y], .cons ⟨_, rfl⟩ (.cons ru .nil), ⟨_, hT2, rfl, _, rfl⟩⟩
    have I1 : Inv X pins σ (upd H s.heap.objs.size (.tup [.int (i : Nat), x])) { s with heap := g2, toks := tk + 1 } :=
      I.turnedNew (ch := [e, it]) (fun b ob hb q =>
        (sb.2 b (fun z => hb (by simp [z]))).trans (hk b ob (fun z => hb (by simp [z])) (fun z => hb (by simp [z])) q)) hf (Nat.le_refl _) new
    refine ⟨.ref s.heap.objs.size, _, I1, rfl, ⟨_, x, rfl, I.hok.fresh (Nat.le_refl _), rfl, fun ys hy => by rw [I.tuple_inj hy hq]; exact hx⟩,
      ⟨⟨y, ?_⟩, hst.1.at (fun o q => (sb.2 it (Ne.symm ne)).trans q), ne⟩, fun b hb => ?_⟩
    · rw [show ((i + 1 : Nat) : Int) = (i : Int) + 1 by omega]
      exact he2
    · have lb : b < s.heap.objs.size := by
        rcases List.mem_cons.mp hb with z | z
        · rw [z]; exact el
        · rw [List.mem_singleton.mp z]; exact il
      rw [upd_ne (Nat.ne_of_lt lb)]
      exact (hf b hb).1
  done := by
    intro X hP hw hK hc i pins s σ H E I hf st hg
    subst hP hw hK
    obtain ⟨⟨old, he⟩, hit, ne⟩ := st
    obtain ⟨xs, hq, hx⟩ := hg
    obtain ⟨its, rv, p, _⟩ := I.tuple hq
    obtain ⟨f0, f1, f2, f3, f4, f5⟩ := hf it (by simp)
    have hl := rv.length
    have pT : s.heap.IsTuple a its.toArray := p
    have D : Draws X.prog X.w X.A.in1 it [it, a] i (fun _ _ => True) (fun j h => j = i ∧ h.IsTupleIter it a i ∧ h.IsTuple a its.toArray) :=
      { live := fun j h q => by
          obtain ⟨o, ho, _⟩ := q.2.1
          exact ⟨o, ho⟩
        frame := fun j h h' q k => ⟨q.1, q.2.1.at (fun o z => k it (by simp) o z), q.2.2.at (fun o z => k a (by simp) o z)⟩
        item := fun j s' Q' E' lt q _ => absurd q.1 (Nat.ne_of_lt lt)
        done := fun s' Q' E' q k => wpAny_nextOf_tuple_end (I.ok.hd hc) q.2.1 q.2.2 (by simp; omega) k }
    exact wpAny_pyNext_enum_endD D he ⟨rfl, hit, pT⟩ fun g eb => ⟨rfl, I.turned (t' := s.toks) (fun b o hb q => eb b o hb q) f0 f1 f3 f4 f5⟩
  self := fun A i s Q E st h => let ⟨⟨_, he⟩, _⟩ := st; wpAny_pyIter_enum he h

def iEnT (K : PySem.W.Frag) (ta : TA) : TI := fun σ H R => ta σ H fun vs H1 => ∃ (a : Addr) (xs : List V), vs = [.ref a] ∧ SqT K H1 a xs ∧ R (ItE K a) H1

theorem pi_enT {X : Cx} {e : Expr} {ta : TA} {p pos tp : Pos} {es : List Expr} {n : Nat} (hg : Gl X "enumerate") (hm : X.mg "enumerate" = none)
    (ha : PA X [e] ta) (hs : starEach [e] X.env = [(false, eval e X.env)] := by rfl) :
    PI X (.Tuple es n tp) (.Call (.Name "enumerate" p) [e] [] pos) (iEnT X.K ta) := by
  constructor
  intro pins s σ H R I h
  refine Call_ (ld_blt I hg hm boot_enumerate (PyProof.Rows.callWith_type1 (thn (ha.run pos pins s σ H _ I h) ?_) hs rfl))
  rintro us s1 ⟨vs, H1, I1, r1, a, xs, ex, hq, q⟩
  subst ex
  cases r1 with
  | cons r rr =>
  cases rr
  cases r
  obtain ⟨its, rv, p', _⟩ := I1.tuple hq
  refine begun_enum (begins_tuple a its.toArray) p' fun g he hit hk => wpAny_pyIter_enum he ?_
  have I2 : Inv X pins σ H1 { s1 with heap := g } := I1.kept (t' := s1.toks) hk
  refine ⟨s1.heap.objs.size + 1, [s1.heap.objs.size + 1, s1.heap.objs.size], _, _, H1, rfl, I2,
    turnE a (s1.heap.objs.size + 1) s1.heap.objs.size, ⟨⟨.none, he⟩, ⟨_, hit, rfl, rfl⟩, Nat.succ_ne_self _⟩, fun b hb => ?_, q⟩
  have hle : s1.heap.objs.size ≤ b := by
    rcases List.mem_cons.mp hb with z | z
    · rw [z]; exact Nat.le_add_right _ _
    · rw [List.mem_singleton.mp z]; exact Nat.le_refl _
  exact I1.fpOk hle (I1.hok.fresh hle)
end G341

set_option Elab.async false
set_option linter.all false
set_option maxRecDepth 100000
/-! data that stays, what isinstance says of it -/
namespace G341
open PySem PySem.Spec PyProof.Rows L2
variable {K : PySem.W.Frag} {H H' H1 : Hp}

theorem same_up {p : Addr} {o : HO} (h : H p = none) : Same H (upd H p o) := by
  intro b x e
  rw [upd_ne (ne_of_none e h)]
  exact e
theorem same_sqt {a : Addr} {xs : List V} (s : Same H H') (h : SqT K H a xs) : SqT K H' a xs := by
  rcases h with (h | ⟨o, h⟩) | h
  · exact .inl (.inl (s _ _ h))
  · exact .inl (.inr ⟨o, s _ _ h⟩)
  · exact .inr h
mutual
theorem dp_same (s : Same H H') : ∀ {v : V} {d : PyData}, Dp K H v d → Dp K H' v d
  | _, _, .non => .non
  | _, _, .bl b => .bl b
  | _, _, .int i => .int i
  | _, _, .str x => .str x
  | _, _, .lst q r => .lst (s.seq q) (dps_same s r)
  | _, _, .tup q r => .tup (same_sqt s q) (dps_same s r)
theorem dps_same (s : Same H H') : ∀ {v : List V} {d : List PyData}, DpAll K H v d → DpAll K H' v d
  | _, _, .nil => .nil
  | _, _, .cons q r => .cons (dp_same s q) (dps_same s r)
end
/-- the heap without what is at p -/
def cutH (p : Addr) (H : Hp) : Hp := fun b => if b = p then none else H b
theorem cut_sub (p : Addr) (H : Hp) : Same (cutH p H) H := by
  intro b o e
  unfold cutH at e
  by_cases h : b = p
  · rw [if_pos h] at e; cases e
  · rw [if_neg h] at e; exact e
theorem cut_mono {p : Addr} (s : Same H H') : Same (cutH p H) (cutH p H') := by
  intro b o e
  unfold cutH at e ⊢
  by_cases h : b = p
  · rw [if_pos h] at e; cases e
  · rw [if_neg h] at e ⊢; exact s _ _ e
theorem cut_up {p : Addr} {o : HO} : cutH p (upd H p o) = cutH p H := by
  funext b
  unfold cutH
  by_cases h : b = p
  · rw [if_pos h, if_pos h]
  · rw [if_neg h, if_neg h, upd_ne h]
theorem cut_at {p a : Addr} (h : a ≠ p) : cutH p H a = H a := by
  unfold cutH
  rw [if_neg h]

/-! ### lists of data -/
theorem dps_len : ∀ {vs : List V} {ds : List PyData}, DpAll K H vs ds → vs.length = ds.length
  | _, _, .nil => rfl
  | _, _, .cons _ r => congrArg (· + 1) (dps_len r)
theorem dps_get : ∀ {vs : List V} {ds : List PyData} {i : Nat} {v : V}, DpAll K H vs ds → vs[i]? = some v → ∃ d, ds[i]? = some d ∧ Dp K H v d
  | _, _, _, _, .nil, e => by simp at e
  | _, _, 0, _, .cons q r, e => by
    rw [List.getElem?_cons_zero] at e
    cases e
    exact ⟨_, rfl, q⟩
  | _, _, i + 1, _, .cons q r, e => by
    rw [List.getElem?_cons_succ] at e
    obtain ⟨d, h1, h2⟩ := dps_get r e
    exact ⟨d, by rw [List.getElem?_cons_succ]; exact h1, h2⟩
theorem dps_app : ∀ {vs us : List V} {ds es : List PyData}, DpAll K H vs ds → DpAll K H us es → DpAll K H (vs ++ us) (ds ++ es)
  | _, _, _, _, .nil, r => r
  | _, _, _, _, .cons q r, z => .cons q (dps_app r z)
theorem dps_take : ∀ {vs : List V} {ds : List PyData} (n : Nat), DpAll K H vs ds → DpAll K H (vs.take n) (ds.take n)
  | _, _, 0, _ => .nil
  | _, _, _ + 1, .nil => .nil
  | _, _, n + 1, .cons q r => .cons q (dps_take n r)
theorem dps_drop : ∀ {vs : List V} {ds : List PyData} (n : Nat), DpAll K H vs ds → DpAll K H (vs.drop n) (ds.drop n)
  | _, _, 0, h => h
  | _, _, _ + 1, .nil => .nil
  | _, _, n + 1, .cons _ r => dps_drop n r

/-! ### isinstance -/
def tyD : PyData → String
  | .none => "NoneType"
  | .bool _ => "bool"
  | .int _ => "int"
  | .str _ => "str"
  | .tuple _ => "tuple"
  | .list _ => "list"
  | _ => "dict"
theorem ty_dp {v : V} {d : PyData} (h : Dp K H v d) : TyX K H v (.type (tyD d)) := by
  cases h with
  | non => exact .base .non
  | bl b => exact .base (.bl b)
  | int i => exact .base (.int i)
  | str x => exact .base (.str x)
  | lst q r =>
    rcases q with (z | ⟨ob, z⟩) | ⟨ob, its, m', hk, hc, _⟩
    · exact .base (.lst z)
    · exact .base (.frz z)
    · exact .kList hk hc
  | tup q r =>
    rcases q with (q | ⟨ob, q⟩) | ⟨ob, its, m, hk, hc, _⟩
    · exact .base (.tup q)
    · exact .fTuple q
    · exact .kTuple hk hc
def isD (d : PyData) (t : String) : Bool := tyD d == t || (tyD d == "bool" && t == "int")
theorem isi_tab : ∀ u ∈ ["NoneType", "bool", "int", "str", "tuple", "list"], ∀ t ∈ ["int", "bool", "str", "tuple"], kitB u t = some (u == t || (u == "bool" && t == "int")) := by decide +kernel
theorem ty_mem {v : V} {d : PyData} (h : Dp K H v d) : tyD d ∈ ["NoneType", "bool", "int", "str", "tuple", "list"] := by
  cases h <;> simp [tyD]
theorem isi_r {v : V} {d : PyData} {t : String} {Q : V → Hp → Prop} (h : Dp K H v d) (ht : t ∈ ["int", "bool", "str", "tuple"]) (q : Q (.bl (isD d t)) H) : rIsi K [v, .ty t] H Q :=
  ⟨v, .ty t, .type (tyD d), .type t, isD d t, rfl, .ty _, ty_dp h, kit_ty (isi_tab _ (ty_mem h) t ht), q⟩
section
variable {X : Cx} {pos p p' : Pos} {e : Expr} {te : TE} {T : Str}
/-- isinstance(e, T) over data -/
def tIs (K : PySem.W.Frag) (t : String) (te : TE) : TE := fun σ H Q => te σ H fun v H1 => rIsi K [v, .ty t] H1 Q
theorem pe_is {t : String} (ht : t ∈ ["int", "bool", "str", "tuple"]) (hg : Gl X "isinstance") (hm : X.mg "isinstance" = none) (hgT : Gl X T) (hmT : X.mg T = none) (hvT : bootBuiltins T = some (.type t))
    (he : PE X e te) (hnT : T ≠ "__name__" := by decide) (hdT : (T == ("__debug__" : Str)) = false := by decide) (hs : starEach [e, .Name T p'] X.env = (false, eval e X.env) :: starEach [.Name T p'] X.env := by rfl) (hs2 : starEach [.Name T p'] X.env = (false, eval (.Name T p') X.env) :: starEach [] X.env := by rfl)
    (hpl : (backTo pos (starEach [.Name T p'] X.env)).any (·.1) = false := by rfl) :
    PE X (.Call (.Name "isinstance" p) [e, .Name T p'] [] pos) (tIs X.K t te) :=
  pe_callB (pos := pos) (p := p) call_isi hg hm boot_isinstance (pa_cons he (pa_cons (pe_bltn (pos := p') (v := .ty t) hgT hmT hvT rfl hnT hdT) pa_nil hs2) hs) (by decide) (by decide) hs hpl
theorem ps_dead {st : Stmt} : PS X st (fun _ _ _ => False) := ⟨fun _ _ _ _ _ _ h => h.elim⟩
end
end G341

set_option Elab.async false
set_option linter.all false
set_option maxRecDepth 100000
/-! a comprehension over a tuple whose items come one by one, by a plain function -/
namespace G341
open PySem PySem.Spec PyProof.Rows L2
variable {K : PySem.W.Frag}
theorem lc_tup {σ : L2.St} {H : Hp} {Q : VK} {g : TG} {te : TE} {vs : List Nat} {a : Addr} {xs : List V} (hq : SqT K H a xs) (hl : xs.length < sizeLine) (f : Nat → V)
    (step : ∀ (i : Nat) (x : V) (H3 : Hp) (C : VK), xs[i]? = some x → Same H H3 → (∀ H4, Same H3 H4 → C (f i) H4) → g x (wipe σ vs) H3 fun σ2 H2 => wipe σ2 vs = wipe σ vs ∧ te σ2 H2 C)
    (fin : ∀ D H', Same H H' → H' D = some (.lst ((List.range xs.length).map f)) → Q (.ref D) H') :
    ∀ D, H D = none → ∃ W : Nat → Nat → Hp → Prop, (∃ m, W 0 m (upd H D (.lst []))) ∧ ∀ i m H, W i m H →
      ((Itt K a).stop i H ∧ Q (.ref D) H) ∨ ((Itt K a).go i H ∧ ∃ Nx : Hp → Prop, (∀ H', Nx H' → ∃ m', m' < m ∧ W (i + 1) m' H') ∧ ∀ x H', (Itt K a).yld i H x H' → g x (wipe σ vs) H' fun σ2 H2 => wipe σ2 vs = wipe σ vs ∧ tYes σ2 H2 fun b H3 =>
        if b = true then te σ2 H3 fun y H4 => ∃ acc, H4 D = some (.lst acc) ∧ acc.length < sizeLine ∧ Nx (upd H4 D (.lst (acc ++ [y]))) else Nx H3) := by
  intro D hD
  refine ⟨fun i m H' => m = xs.length - i ∧ i ≤ xs.length ∧ Same H H' ∧ H' D = some (.lst ((List.range i).map f)), ⟨xs.length, rfl, Nat.zero_le _, same_up hD, by rw [upd_same]; rfl⟩, ?_⟩
  rintro i m H3 ⟨em, hi, s3, d3⟩
  have hq3 := same_sqt (K := K) s3 hq
  by_cases lt : i < xs.length
  · refine .inr ⟨⟨xs, xs[i], hq3, List.getElem?_eq_getElem lt⟩, fun H' => Same H H' ∧ H' D = some (.lst ((List.range (i + 1)).map f)), fun H' ⟨s', d'⟩ => ⟨xs.length - (i + 1), by omega, rfl, lt, s', d'⟩, ?_⟩
    rintro x H' ⟨eH, hx⟩
    rw [eH]
    refine step i x H3 _ (hx xs hq3) s3 fun H4 s4 => ?_
    refine ⟨_, s4 _ _ d3, by rw [List.length_map, List.length_range]; omega, fun b o e => ?_, ?_⟩
    · rw [upd_ne (ne_of_none e hD)]
      exact s4 _ _ (s3 _ _ e)
    · rw [upd_same, List.range_succ, List.map_append]
      rfl
  · have ei : i = xs.length := by omega
    subst ei
    exact .inl ⟨⟨xs, hq3, Nat.le_refl _⟩, fin D H3 s3 d3⟩
theorem lc_tupV {σ : L2.St} {H : Hp} {Q : VK} {g : TG} {te : TE} {vs : List Nat} {n : Nat} {a : Addr} {xs : List V} (hv : σ[n]? = some (some (.ref a))) (hq : SqT K H a xs) (hl : xs.length < sizeLine) (f : Nat → V)
    (step : ∀ (i : Nat) (x : V) (H3 : Hp) (C : VK), xs[i]? = some x → Same H H3 → (∀ H4, Same H3 H4 → C (f i) H4) → g x (wipe σ vs) H3 fun σ2 H2 => wipe σ2 vs = wipe σ vs ∧ te σ2 H2 C)
    (fin : ∀ D H', Same H H' → H' D = some (.lst ((List.range xs.length).map f)) → Q (.ref D) H') : tLc (iTup K (tVar n)) g tYes te vs σ H Q :=
  ⟨_, hv, a, rfl, ⟨_, hq⟩, lc_tup hq hl f step fin⟩
end G341

set_option Elab.async false
set_option linter.all false
set_option maxRecDepth 100000
/-! a comprehension of two clauses over a tuple of tuples -/
namespace G341
open PySem PySem.Spec PyProof.Rows L2
variable {K : PySem.W.Frag}
/-- what a walk over the tuple at b does: at each turn one item, in the form R -/
structure Wlk (K : PySem.W.Frag) (J : Addr → It) (R : Nat → V → V → Hp → Prop) : Prop where
  go : ∀ b ys i H, SqT K H b ys → i < ys.length → (J b).go i H
  stop : ∀ b ys i H, SqT K H b ys → ys.length ≤ i → (J b).stop i H
  yld : ∀ b ys i H x H', SqT K H b ys → (J b).yld i H x H' → Same H H' ∧ ∃ y, ys[i]? = some y ∧ R i x y H'
theorem wlk_tup : Wlk K (Itt K) (fun _ x y _ => x = y) where
  go := fun b ys i H h lt => ⟨ys, ys[i], h, List.getElem?_eq_getElem lt⟩
  stop := fun b ys i H h le => ⟨ys, h, le⟩
  yld := fun b ys i H x H' h z => ⟨by rw [z.1]; exact Same.refl _, x, z.2 ys h, rfl⟩
theorem wlk_en : Wlk K (ItE K) (fun i x y H' => ∃ T, x = .ref T ∧ H' T = some (.tup [.int (i : Nat), y])) where
  go := fun b ys i H h lt => ⟨ys, ys[i], h, List.getElem?_eq_getElem lt⟩
  stop := fun b ys i H h le => ⟨ys, h, le⟩
  yld := fun b ys i H x H' h z => by
    obtain ⟨T, y, rfl, hT, rfl, hy⟩ := z
    exact ⟨same_up hT, y, hy ys h, T, rfl, upd_same⟩
def catF (f : Nat → Nat → V) (n : Nat → Nat) : Nat → List V
  | 0 => []
  | i + 1 => catF f n i ++ (List.range (n i)).map (f i)
theorem lc2_tup {J : Addr → It} {R : Nat → V → V → Hp → Prop} (WJ : Wlk K J R) {σ : L2.St} {H : Hp} {Q : VK} {k : Nat} {g1 : TG} {wi1 : TI} {te : TE} {vs vs1 : List Nat} {a : Addr} {xs : List V} (hq : SqT K H a xs)
    (ys : Nat → List V) (bs : Nat → Addr) (hb : ∀ i < xs.length, SqT K H (bs i) (ys i)) (f : Nat → Nat → V)
    (hl2 : ∀ i < xs.length, ∀ j < (ys i).length, (catF f (fun i => (ys i).length) i).length + j < sizeLine)
    (hw : ∀ x : V, wipe ((wipe σ vs).set k (some x)) vs = wipe σ vs)
    (out : ∀ (i : Nat) (x : V) (H3 : Hp) (C : It → Hp → Prop), xs[i]? = some x → Same H H3 → C (J (bs i)) H3 → wi1 ((wipe σ vs).set k (some x)) H3 C)
    (step : ∀ (i j : Nat) (x z y : V) (H5 : Hp) (C : VK), xs[i]? = some x → (ys i)[j]? = some y → Same H H5 → R j z y H5 → (∀ H6, Same H5 H6 → C (f i j) H6) →
      g1 z (wipe ((wipe σ vs).set k (some x)) vs1) H5 fun σ3 H5 => wipe σ3 vs1 = wipe ((wipe σ vs).set k (some x)) vs1 ∧ te σ3 H5 C)
    (fin : ∀ D H', Same H H' → H' D = some (.lst (catF f (fun i => (ys i).length) xs.length)) → Q (.ref D) H') :
    ∀ D, H D = none → ∃ W : Nat → Nat → Hp → Prop, (∃ m, W 0 m (upd H D (.lst []))) ∧ ∀ i m H, W i m H →
      ((Itt K a).stop i H ∧ Q (.ref D) H) ∨ ((Itt K a).go i H ∧ ∃ Nx : Hp → Prop, (∀ H', Nx H' → ∃ m', m' < m ∧ W (i + 1) m' H') ∧ ∀ x H', (Itt K a).yld i H x H' → gName k x (wipe σ vs) H' fun σ2 H2 => wipe σ2 vs = wipe σ vs ∧ tYes σ2 H2 fun b H3 =>
        if b = true then wi1 σ2 H3 fun J1 H4 => ∃ W1 : Nat → Nat → Hp → Prop, (∃ m, W1 0 m H4) ∧ ∀ j k H, W1 j k H →
          (J1.stop j H ∧ Nx H) ∨ (J1.go j H ∧ ∃ Nx1 : Hp → Prop, (∀ H', Nx1 H' → ∃ k', k' < k ∧ W1 (j + 1) k' H') ∧ ∀ x H', J1.yld j H x H' → g1 x (wipe σ2 vs1) H' fun σ3 H5 => wipe σ3 vs1 = wipe σ2 vs1 ∧ tYes σ3 H5 fun b H6 =>
            if b = true then te σ3 H6 fun y H7 => ∃ acc, H7 D = some (.lst acc) ∧ acc.length < sizeLine ∧ Nx1 (upd H7 D (.lst (acc ++ [y]))) else Nx1 H6)
        else Nx H3) := by
  intro D hD
  refine ⟨fun i m H' => m = xs.length - i ∧ i ≤ xs.length ∧ Same H H' ∧ H' D = some (.lst (catF f (fun i => (ys i).length) i)), ⟨xs.length, rfl, Nat.zero_le _, same_up hD, upd_same⟩, ?_⟩
  rintro i m H3 ⟨em, hi, s3, d3⟩
  have hq3 := same_sqt (K := K) s3 hq
  by_cases lt : i < xs.length
  · refine .inr ⟨⟨xs, xs[i], hq3, List.getElem?_eq_getElem lt⟩, fun H' => Same H H' ∧ H' D = some (.lst (catF f (fun i => (ys i).length) (i + 1))), fun H' ⟨s', d'⟩ => ⟨xs.length - (i + 1), by omega, rfl, lt, s', d'⟩, ?_⟩
    rintro x H' ⟨eH, hx⟩
    rw [eH]
    have hx := hx xs hq3
    refine ⟨hw x, out i x H3 _ hx s3 ?_⟩
    refine ⟨fun j k H' => k = (ys i).length - j ∧ j ≤ (ys i).length ∧ Same H H' ∧ H' D = some (.lst (catF f (fun i => (ys i).length) i ++ (List.range j).map (f i))), ⟨(ys i).length, rfl, Nat.zero_le _, s3, by rw [d3]; simp⟩, ?_⟩
    rintro j k' H4 ⟨ek, hj, s4, d4⟩
    have hb4 := same_sqt (K := K) s4 (hb i lt)
    by_cases lj : j < (ys i).length
    · refine .inr ⟨WJ.go _ _ j H4 hb4 lj, fun H' => Same H H' ∧ H' D = some (.lst (catF f (fun i => (ys i).length) i ++ (List.range (j + 1)).map (f i))), fun H' ⟨s', d'⟩ => ⟨(ys i).length - (j + 1), by omega, rfl, lj, s', d'⟩, ?_⟩
      intro z H5 hz
      obtain ⟨s5, y, hy, r5⟩ := WJ.yld _ _ j H4 z H5 hb4 hz
      refine step i j x z y H5 _ hx hy (s4.trans s5) r5 fun H6 s6 => ?_
      refine ⟨_, s6 _ _ (s5 _ _ d4), by rw [List.length_append, List.length_map, List.length_range]; exact hl2 i lt j lj, fun b o e => ?_, ?_⟩
      · rw [upd_ne (ne_of_none e hD)]
        exact s6 _ _ (s5 _ _ (s4 _ _ e))
      · rw [upd_same, List.range_succ, List.map_append, List.append_assoc]
        rfl
    · have ej : j = (ys i).length := by omega
      subst ej
      exact .inl ⟨WJ.stop _ _ _ H4 hb4 (Nat.le_refl _), s4, d4⟩
  · have ei : i = xs.length := by omega
    subst ei
    exact .inl ⟨⟨xs, hq3, Nat.le_refl _⟩, fin D H3 s3 d3⟩
end G341

set_option Elab.async false
set_option linter.all false
set_option maxRecDepth 100000
/-! the text by places, numbers, rows -/
namespace G341
open PySem PySem.Spec PyProof.Rows L2

def tx (i : Nat) : Stmt := PySem.Challenge.pw_memoryviews_k01_whole_programs.main.body.getD i (.Pass ⟨0, 0, 0, 0⟩)
/-- a def of the text, as the top has left it -/
structure Df (K : PySem.W.Frag) (mg : Str → Option Value) (nm : Str) (st : Stmt) (ps : List Str) (f : Addr) (fd : FuncData) : Prop where
  F : Fun K nm nm st f fd
  b : Binds K fd ps []
  g : mg nm = some (.ref f)
/-- the built-in names, the numbers of the top -/
structure Bn (mg : Str → Option Value) : Prop where
  isi : mg "isinstance" = none
  int : mg "int" = none
  bool : mg "bool" = none
  str : mg "str" = none
  tuple : mg "tuple" = none
  list : mg "list" = none
  len : mg "len" = none
  all : mg "all" = none
  enum : mg "enumerate" = none
  sorted : mg "sorted" = none
  range : mg "range" = none
  abs : mg "abs" = none
  hands : ∃ t, mg "MOST_HANDS" = some (.int 4 t)
  rows : ∃ t, mg "MOST_ROWS" = some (.int 16 t)
  places : ∃ t, mg "PLACES" = some (.int 4 t)
  values : ∃ t, mg "VALUES" = some (.int 4 t)
  regs : ∃ t, mg "REGISTERS" = some (.int 3 t)

theorem ift {c : Bool} {a b : Prop} (e : c = true) (h : a) : if c = true then a else b := by rw [if_pos e]; exact h
theorem iff_ {c : Bool} {a b : Prop} (e : c = false) (h : b) : if c = true then a else b := by
  rw [if_neg (by rw [e]; exact Bool.false_ne_true)]
  exact h
def numD : PyData → Int → Int → Bool
  | .int n, lo, hi => decide (lo ≤ n) && decide (n ≤ hi)
  | _, _, _ => false
def spNum (K : PySem.W.Frag) : Sp := fun vs H Q _ => ∃ (v : V) (d : PyData) (lo hi : Int), vs = [v, .int lo, .int hi] ∧ Dp K H v d ∧ Q (.bl (numD d lo hi)) H
def spOne (K : PySem.W.Frag) (hi : Int) : Sp := fun vs H Q _ => ∃ (v : V) (d : PyData), vs = [v] ∧ Dp K H v d ∧ Q (.bl (numD d 0 hi)) H

section
variable {P : Program} {w : World} {K : PySem.W.Frag} {mg : Str → Option Value} {base : Heap}
theorem sc9 : FnScope ["thing", "least", "most"] ["thing", "least", "most"] (defScope (tx 9)) := ⟨rfl, rfl, rfl, by decide +kernel, rfl, by decide +kernel, by decide +kernel⟩
theorem ok_num {f : Addr} {fd : FuncData} (F : Df K mg "is_number" (tx 9) ["thing", "least", "most"] f fd) (B : Bn mg) : FnOk P w K mg base CX0 1 f fd ["thing", "least", "most"] (spNum K) := by
  refine F.F.ok sc9 (fun vs H Q E h => ?_) (fun cdv A outer s H vs Q E hr h => ?_)
  · obtain ⟨v, d, lo, hi, rfl, _⟩ := h
    rfl
  · obtain ⟨v, d, lo, hi, rfl, hd, q⟩ := h
    refine ⟨_, pss_one (ps_ret (pe_and (pe_is (t := "int") (by decide) rfl B.isi rfl B.int (by decide +kernel) (pv 0))
      (pe_and (pe_not (pe_is (t := "bool") (by decide) rfl B.isi rfl B.bool (by decide +kernel) (pv 0))) (pe_one (pe_chain op_le op_le (pv 1) (pv 0) (pv 2)))))), ?_⟩
    refine ⟨v, rfl, isi_r hd (by decide) ⟨_, rfl, ?_⟩⟩
    cases hd with
    | int n =>
      refine ift (by simp [isD, tyD]) ⟨_, rfl, isi_r (.int n) (by decide) ⟨_, rfl, _, rfl, ?_⟩⟩
      refine ift (by simp [isD, tyD]) ⟨_, rfl, _, rfl, lo, n, rfl, rfl, _, rfl, ?_⟩
      replace q : Q (.bl (decide (lo ≤ n) && decide (n ≤ hi))) H := q
      by_cases e : lo ≤ n
      · rw [decide_eq_true e] at q
        exact ift (decide_eq_true e) ⟨_, rfl, n, hi, rfl, rfl, q⟩
      · rw [decide_eq_false e] at q
        exact iff_ (decide_eq_false e) q
    | bl b =>
      refine ift (by simp [isD, tyD]) ⟨_, rfl, isi_r (.bl b) (by decide) ⟨_, rfl, _, rfl, ?_⟩⟩
      exact iff_ (by simp [isD, tyD]) q
    | non => exact iff_ (by simp [isD, tyD]) q
    | str x => exact iff_ (by simp [isD, tyD]) q
    | lst a b => exact iff_ (by simp [isD, tyD]) q
    | tup a b => exact iff_ (by simp [isD, tyD]) q
theorem sc10 : FnScope ["thing"] ["thing"] (defScope (tx 10)) := ⟨rfl, rfl, rfl, by decide +kernel, rfl, by decide +kernel, by decide +kernel⟩
theorem sc11 : FnScope ["thing"] ["thing"] (defScope (tx 11)) := ⟨rfl, rfl, rfl, by decide +kernel, rfl, by decide +kernel, by decide +kernel⟩
theorem sc12 : FnScope ["thing"] ["thing"] (defScope (tx 12)) := ⟨rfl, rfl, rfl, by decide +kernel, rfl, by decide +kernel, by decide +kernel⟩
theorem ok_place {f g : Addr} {fd gd : FuncData} (F : Df K mg "is_place" (tx 10) ["thing"] f fd) (N : Df K mg "is_number" (tx 9) ["thing", "least", "most"] g gd) (B : Bn mg) : FnOk P w K mg base CX0 2 f fd ["thing"] (spOne K 3) := by
  have G : FnOk P w K mg base CX0 1 g gd ["thing", "least", "most"] (spNum K) := ok_num N B
  refine F.F.ok sc10 (fun vs H Q E h => ?_) (fun cdv A outer s H vs Q E hr h => ?_)
  · obtain ⟨v, d, rfl, _⟩ := h
    rfl
  · obtain ⟨v, d, rfl, hd, q⟩ := h
    obtain ⟨t, et⟩ := B.places
    refine ⟨_, pss_one (ps_ret (pe_call G (hr.mono (by decide)) (by rfl) N.g N.F.kp N.b .nil pass0 (pa_cons (pv 0) (pa_cons pe_int (pa_cons (pe_op op_sub (pe_glob (v := .int 4) rfl et ⟨t, rfl⟩) pe_int) pa_nil))))), ?_⟩
    exact ⟨v, rfl, 4, 1, rfl, rfl, v, d, 0, 3, rfl, hd, q⟩
theorem ok_value {f g : Addr} {fd gd : FuncData} (F : Df K mg "is_value" (tx 11) ["thing"] f fd) (N : Df K mg "is_number" (tx 9) ["thing", "least", "most"] g gd) (B : Bn mg) : FnOk P w K mg base CX0 2 f fd ["thing"] (spOne K 3) := by
  have G : FnOk P w K mg base CX0 1 g gd ["thing", "least", "most"] (spNum K) := ok_num N B
  refine F.F.ok sc11 (fun vs H Q E h => ?_) (fun cdv A outer s H vs Q E hr h => ?_)
  · obtain ⟨v, d, rfl, _⟩ := h
    rfl
  · obtain ⟨v, d, rfl, hd, q⟩ := h
    obtain ⟨t, et⟩ := B.values
    refine ⟨_, pss_one (ps_ret (pe_call G (hr.mono (by decide)) (by rfl) N.g N.F.kp N.b .nil pass0 (pa_cons (pv 0) (pa_cons pe_int (pa_cons (pe_op op_sub (pe_glob (v := .int 4) rfl et ⟨t, rfl⟩) pe_int) pa_nil))))), ?_⟩
    exact ⟨v, rfl, 4, 1, rfl, rfl, v, d, 0, 3, rfl, hd, q⟩
theorem ok_reg {f g : Addr} {fd gd : FuncData} (F : Df K mg "is_register" (tx 12) ["thing"] f fd) (N : Df K mg "is_number" (tx 9) ["thing", "least", "most"] g gd) (B : Bn mg) : FnOk P w K mg base CX0 2 f fd ["thing"] (spOne K 2) := by
  have G : FnOk P w K mg base CX0 1 g gd ["thing", "least", "most"] (spNum K) := ok_num N B
  refine F.F.ok sc12 (fun vs H Q E h => ?_) (fun cdv A outer s H vs Q E hr h => ?_)
  · obtain ⟨v, d, rfl, _⟩ := h
    rfl
  · obtain ⟨v, d, rfl, hd, q⟩ := h
    obtain ⟨t, et⟩ := B.regs
    refine ⟨_, pss_one (ps_ret (pe_call G (hr.mono (by decide)) (by rfl) N.g N.F.kp N.b .nil pass0 (pa_cons (pv 0) (pa_cons pe_int (pa_cons (pe_op op_sub (pe_glob (v := .int 3) rfl et ⟨t, rfl⟩) pe_int) pa_nil))))), ?_⟩
    exact ⟨v, rfl, 3, 1, rfl, rfl, v, d, 0, 2, rfl, hd, q⟩
end
end G341

set_option Elab.async false
set_option linter.all false
set_option maxRecDepth 100000
/-! rows -/
namespace G341
open PySem PySem.Spec PyProof.Rows L2
def gD (r : List PyData) (i : Nat) : PyData := r.getD i .none
def wordD (w : Str) (r : List PyData) (rest : Int) : Bool :=
    if w = "fence" then decide (r.length = 0)
    else if w = "put" then decide (r.length = 2) && (numD (gD r 0) 0 3 && numD (gD r 1) 0 3)
    else if w = "give" then decide (r.length = 2) && (numD (gD r 0) 0 3 && numD (gD r 1) 0 2)
    else if w = "get" then decide (r.length = 2) && (numD (gD r 0) 0 2 && numD (gD r 1) 0 3)
    else if w = "swap" then decide (r.length = 3) && (numD (gD r 0) 0 2 && (numD (gD r 1) 0 3 && numD (gD r 2) 0 3))
    else if w = "only" then decide (r.length = 3) && (numD (gD r 0) 0 2 && (numD (gD r 1) 0 3 && numD (gD r 2) 1 rest))
    else false
def rowD : PyData → Int → Bool
  | .tuple (.str w :: r), rest => wordD w r rest
  | _, _ => false
theorem rowD_fence (r : List PyData) (z : Int) : rowD (.tuple (.str "fence" :: r)) z = decide (r.length = 0) := by
  show wordD _ _ _ = _
  unfold wordD
  rw [if_pos rfl]
theorem rowD_put (r : List PyData) (z : Int) : rowD (.tuple (.str "put" :: r)) z = (decide (r.length = 2) && (numD (gD r 0) 0 3 && numD (gD r 1) 0 3)) := by
  show wordD _ _ _ = _
  unfold wordD
  rw [if_neg (by decide +kernel), if_pos rfl]
theorem rowD_give (r : List PyData) (z : Int) : rowD (.tuple (.str "give" :: r)) z = (decide (r.length = 2) && (numD (gD r 0) 0 3 && numD (gD r 1) 0 2)) := by
  show wordD _ _ _ = _
  unfold wordD
  rw [if_neg (by decide +kernel), if_neg (by decide +kernel), if_pos rfl]
theorem rowD_get (r : List PyData) (z : Int) : rowD (.tuple (.str "get" :: r)) z = (decide (r.length = 2) && (numD (gD r 0) 0 2 && numD (gD r 1) 0 3)) := by
  show wordD _ _ _ = _
  unfold wordD
  rw [if_neg (by decide +kernel), if_neg (by decide +kernel), if_neg (by decide +kernel), if_pos rfl]
theorem rowD_swap (r : List PyData) (z : Int) : rowD (.tuple (.str "swap" :: r)) z = (decide (r.length = 3) && (numD (gD r 0) 0 2 && (numD (gD r 1) 0 3 && numD (gD r 2) 0 3))) := by
  show wordD _ _ _ = _
  unfold wordD
  rw [if_neg (by decide +kernel), if_neg (by decide +kernel), if_neg (by decide +kernel), if_neg (by decide +kernel), if_pos rfl]
theorem rowD_only (r : List PyData) (z : Int) : rowD (.tuple (.str "only" :: r)) z = (decide (r.length = 3) && (numD (gD r 0) 0 2 && (numD (gD r 1) 0 3 && numD (gD r 2) 1 z))) := by
  show wordD _ _ _ = _
  unfold wordD
  rw [if_neg (by decide +kernel), if_neg (by decide +kernel), if_neg (by decide +kernel), if_neg (by decide +kernel), if_neg (by decide +kernel), if_pos rfl]
theorem rowD_none {x : Str} {r : List PyData} {z : Int} (e1 : ¬ x = ("fence" : Str)) (e2 : ¬ x = ("put" : Str)) (e3 : ¬ x = ("give" : Str)) (e4 : ¬ x = ("get" : Str)) (e5 : ¬ x = ("swap" : Str)) (e6 : ¬ x = ("only" : Str)) : rowD (.tuple (.str x :: r)) z = false := by
  show wordD _ _ _ = _
  unfold wordD
  rw [if_neg e1, if_neg e2, if_neg e3, if_neg e4, if_neg e5, if_neg e6]
theorem dps_two {K : PySem.W.Frag} {H : Hp} {vs : List V} {ds : List PyData} (h : DpAll K H vs ds) (l : ds.length = 2) : ∃ v1 v2 d1 d2, vs = [v1, v2] ∧ ds = [d1, d2] ∧ Dp K H v1 d1 ∧ Dp K H v2 d2 := by
  match ds, l, h with
  | [_, _], _, .cons h1 (.cons h2 .nil) => exact ⟨_, _, _, _, rfl, rfl, h1, h2⟩
theorem dps_three {K : PySem.W.Frag} {H : Hp} {vs : List V} {ds : List PyData} (h : DpAll K H vs ds) (l : ds.length = 3) : ∃ v1 v2 v3 d1 d2 d3, vs = [v1, v2, v3] ∧ ds = [d1, d2, d3] ∧ Dp K H v1 d1 ∧ Dp K H v2 d2 ∧ Dp K H v3 d3 := by
  match ds, l, h with
  | [_, _, _], _, .cons h1 (.cons h2 (.cons h3 .nil)) => exact ⟨_, _, _, _, _, _, rfl, rfl, h1, h2, h3⟩
theorem and_go {b c : Bool} {Q : V → Hp → Prop} {H : Hp} {A : Prop} (z : Q (.bl (b && c)) H) (k : Q (.bl c) H → A) : if b = true then A else Q (.bl false) H := by
  cases b with
  | true => exact ift rfl (k z)
  | false => exact iff_ rfl z
def spRow (K : PySem.W.Frag) : Sp := fun vs H Q _ => ∃ (v : V) (d : PyData) (rest : Int), vs = [v, .int rest] ∧ Dp K H v d ∧ SeqAt.shaped d = true ∧ ∀ H', Same H H' → Q (.bl (rowD d rest)) H'
section
variable {P : Program} {w : World} {K : PySem.W.Frag} {mg : Str → Option Value} {base : Heap}
theorem sc13 : FnScope ["thing", "rest", "word", "many"] ["thing", "rest"] (defScope (tx 13)) := ⟨rfl, rfl, rfl, by decide +kernel, rfl, by decide +kernel, by decide +kernel⟩
theorem rowD_no {d : PyData} {r : Int} (h : isD d "tuple" = false) : rowD d r = false := by
  cases d <;> first | rfl | (simp [isD, tyD] at h)
theorem ok_row {f fn fp fv fr : Addr} {fd dn dp dv dr : FuncData} (F : Df K mg "is_row" (tx 13) ["thing", "rest"] f fd) (N : Df K mg "is_number" (tx 9) ["thing", "least", "most"] fn dn)
    (NP : Df K mg "is_place" (tx 10) ["thing"] fp dp) (NV : Df K mg "is_value" (tx 11) ["thing"] fv dv) (NR : Df K mg "is_register" (tx 12) ["thing"] fr dr) (B : Bn mg) : FnOk P w K mg base CX0 3 f fd ["thing", "rest"] (spRow K) := by
  have GN : FnOk P w K mg base CX0 1 fn dn ["thing", "least", "most"] (spNum K) := ok_num N B
  have GP : FnOk P w K mg base CX0 2 fp dp ["thing"] (spOne K 3) := ok_place NP N B
  have GV : FnOk P w K mg base CX0 2 fv dv ["thing"] (spOne K 3) := ok_value NV N B
  have GR : FnOk P w K mg base CX0 2 fr dr ["thing"] (spOne K 2) := ok_reg NR N B
  refine F.F.ok sc13 (fun vs H Q E h => ?_) (fun cdv A outer s H vs Q E hr h => ?_)
  · obtain ⟨v, d, rest, rfl, _⟩ := h
    rfl
  · obtain ⟨v, d, rest, rfl, hd, sh, q⟩ := h
    have ru := hr.units
    have r1 : Room 1 _ := hr.mono (by decide)
    refine ⟨_, pss_cons (ps_if (PW.pt (pw_or (pt_not (pt_val (pe_is (t := "tuple") (by decide) rfl B.isi rfl B.tuple (by decide +kernel) (pv 0))))
        (pw_or (pt_cmpR (op_eqD ru) (pv 0) (pe_tup pa_nil) (nomark _))
        (pw_or1 (pt_not (pt_val (pe_is (t := "str") (by decide) rfl B.isi rfl B.str (by decide +kernel) (pe_ix ix_tup (pv 0) pe_int (fun _ _ => rfl))))))))) (pss_one (ps_ret pe_bl)) pss_nil)
      (pss_cons (ps_par (i := 2) (j := 3) rfl sc13.nd rfl rfl (by decide) rfl rfl (pa_cons (pe_ix ix_tup (pv 0) pe_int (fun _ _ => rfl)) (pa_cons (pe_callB call_len_seq (by rfl) B.len PySem.boot_len (pa_cons (pv 0) pa_nil)) pa_nil)) rfl)
      (pss_cons (ps_if (pt_cmpR op_eq (pv 2) pe_str (nomark _)) (pss_one (ps_ret (pe_cmpR op_eq (pv 3) pe_int (nomark _)))) pss_nil)
      (pss_cons (ps_if (pt_cmpR op_eq (pv 2) pe_str (nomark _)) (pss_one (ps_ret (pe_and (pe_cmpR op_eq (pv 3) pe_int (nomark _))
        (pe_and (pe_call GP (hr.mono (by decide)) (by rfl) NP.g NP.F.kp NP.b .nil pass0 (pa_cons (pe_ix ix_tup (pv 0) pe_int (fun _ _ => rfl)) pa_nil))
          (pe_one (pe_call GV (hr.mono (by decide)) (by rfl) NV.g NV.F.kp NV.b .nil pass0 (pa_cons (pe_ix ix_tup (pv 0) pe_int (fun _ _ => rfl)) pa_nil))))))) pss_nil)
      (pss_cons (ps_if (pt_cmpR op_eq (pv 2) pe_str (nomark _)) (pss_one (ps_ret (pe_and (pe_cmpR op_eq (pv 3) pe_int (nomark _))
        (pe_and (pe_call GP (hr.mono (by decide)) (by rfl) NP.g NP.F.kp NP.b .nil pass0 (pa_cons (pe_ix ix_tup (pv 0) pe_int (fun _ _ => rfl)) pa_nil))
          (pe_one (pe_call GR (hr.mono (by decide)) (by rfl) NR.g NR.F.kp NR.b .nil pass0 (pa_cons (pe_ix ix_tup (pv 0) pe_int (fun _ _ => rfl)) pa_nil))))))) pss_nil)
      (pss_cons (ps_if (pt_cmpR op_eq (pv 2) pe_str (nomark _)) (pss_one (ps_ret (pe_and (pe_cmpR op_eq (pv 3) pe_int (nomark _))
        (pe_and (pe_call GR (hr.mono (by decide)) (by rfl) NR.g NR.F.kp NR.b .nil pass0 (pa_cons (pe_ix ix_tup (pv 0) pe_int (fun _ _ => rfl)) pa_nil))
          (pe_one (pe_call GP (hr.mono (by decide)) (by rfl) NP.g NP.F.kp NP.b .nil pass0 (pa_cons (pe_ix ix_tup (pv 0) pe_int (fun _ _ => rfl)) pa_nil))))))) pss_nil)
      (pss_cons (ps_if (pt_cmpR op_eq (pv 2) pe_str (nomark _)) (pss_one (ps_ret (pe_and (pe_cmpR op_eq (pv 3) pe_int (nomark _))
        (pe_and (pe_call GR (hr.mono (by decide)) (by rfl) NR.g NR.F.kp NR.b .nil pass0 (pa_cons (pe_ix ix_tup (pv 0) pe_int (fun _ _ => rfl)) pa_nil))
          (pe_and (pe_call GP (hr.mono (by decide)) (by rfl) NP.g NP.F.kp NP.b .nil pass0 (pa_cons (pe_ix ix_tup (pv 0) pe_int (fun _ _ => rfl)) pa_nil))
          (pe_one (pe_call GV (hr.mono (by decide)) (by rfl) NV.g NV.F.kp NV.b .nil pass0 (pa_cons (pe_ix ix_tup (pv 0) pe_int (fun _ _ => rfl)) pa_nil)))))))) pss_nil)
      (pss_cons (ps_if (PW.pt (pw_or (pt_cmpR op_ne (pv 2) pe_str (nomark _)) (pw_or1 (pt_cmpR op_ne (pv 3) pe_int (nomark _))))) (pss_one (ps_ret pe_bl)) pss_nil)
      (pss_one (ps_ret (pe_and (pe_call GR (hr.mono (by decide)) (by rfl) NR.g NR.F.kp NR.b .nil pass0 (pa_cons (pe_ix ix_tup (pv 0) pe_int (fun _ _ => rfl)) pa_nil))
          (pe_and (pe_call GV (hr.mono (by decide)) (by rfl) NV.g NV.F.kp NV.b .nil pass0 (pa_cons (pe_ix ix_tup (pv 0) pe_int (fun _ _ => rfl)) pa_nil))
          (pe_one (pe_call GN (hr.mono (by decide)) (by rfl) N.g N.F.kp N.b .nil pass0 (pa_cons (pe_ix ix_tup (pv 0) pe_int (fun _ _ => rfl)) (pa_cons pe_int (pa_cons (pv 1) pa_nil)))))))))))))))), ?_⟩
    cases ht : isD d "tuple" with
    | false =>
      refine ⟨v, rfl, isi_r hd (by decide) ⟨_, rfl, ift (by rw [ht]; rfl) (ift rfl ?_)⟩⟩
      have z := q H (Same.refl H)
      rw [rowD_no ht] at z
      exact z
    | true =>
      cases hd with
      | tup hq hds =>
        rename_i a vs ds
        refine ⟨_, rfl, isi_r (.tup hq hds) (by decide) ⟨_, rfl, iff_ (by simp [isD, tyD]) ⟨_, rfl, Nat.zero_le _, fun p hp => ?_⟩⟩⟩
        have s1 : Same H (upd H p (.tup [])) := same_up hp
        refine ⟨.tuple ds, .tuple [], .tup (same_sqt s1 hq) (dps_same s1 hds), .tup (.inl (.inl upd_same)) .nil, sh, by decide +kernel, _, rfl, ?_⟩
        cases hds with
        | nil =>
          refine ift (by simp [PyData.eqv, PyData.eqvAll]) (ift rfl ?_)
          exact q _ s1
        | cons h0 hr' =>
          rename_i v0 vr d0 dr
          refine iff_ (by simp [PyData.eqv, PyData.eqvAll]) ?_
          have hq1 := same_sqt (K := K) s1 hq
          refine ⟨_, rfl, a, v0 :: vr, 0, v0, rfl, rfl, hq1, atI_nat (j := 0) rfl, isi_r (dp_same s1 h0) (by decide) ⟨_, rfl, ?_⟩⟩
          cases h0 with
          | str x =>
            refine iff_ (by simp [isD, tyD]) ?_
            refine ⟨_, rfl, a, _, 0, _, rfl, rfl, hq1, atI_nat (j := 0) rfl, ?_⟩
            refine ⟨_, rfl, a, _, rfl, .inr hq1, _, _, rfl, ?_⟩
            have hr1 := dps_same s1 hr'
            have ln := dps_len hr1
            have zq := q _ s1
            generalize (upd H p (.tup [])) = H1 at *
            have lq : ∀ k : Nat, decide (V.int (((V.str x :: vr).length : Nat) : Int) = V.int ((k + 1 : Nat) : Int)) = decide (dr.length = k) := by
              intro k
              apply decide_eq_decide.mpr
              rw [V.int.injEq, List.length_cons, ln]
              omega
            have xq : ∀ y : Str, decide (V.str x = V.str y) = decide (x = y) := by
              intro y
              apply decide_eq_decide.mpr
              rw [V.str.injEq]
            -- fence
            refine ⟨_, rfl, rfl, _, rfl, ?_⟩
            by_cases e1 : x = ("fence" : Str)
            · subst e1
              refine ift (by rw [xq]; exact decide_eq_true rfl) ⟨_, rfl, rfl, ?_⟩
              rw [rowD_fence, ← lq 0] at zq
              exact zq
            refine iff_ (by rw [xq]; exact decide_eq_false e1) ?_
            refine ⟨_, rfl, rfl, _, rfl, ?_⟩
            by_cases e2 : x = ("put" : Str)
            · subst e2
              refine ift (by rw [xq]; exact decide_eq_true rfl) ⟨_, rfl, rfl, _, rfl, ?_⟩
              rw [rowD_put] at zq
              by_cases l : dr.length = 2
              · refine ift ((lq 2).trans (decide_eq_true l)) ?_
                rw [decide_eq_true l] at zq
                obtain ⟨v1, v2, d1, d2, rfl, rfl, h1, h2⟩ := dps_two hr1 l
                refine ⟨_, rfl, a, _, 1, _, rfl, rfl, hq1, atI_nat (j := 1) rfl, _, _, rfl, h1, _, rfl, and_go zq fun zq => ?_⟩
                exact ⟨_, rfl, a, _, 2, _, rfl, rfl, hq1, atI_nat (j := 2) rfl, _, _, rfl, h2, zq⟩
              · refine iff_ ((lq 2).trans (decide_eq_false l)) ?_
                rw [decide_eq_false l] at zq
                exact zq
            refine iff_ (by rw [xq]; exact decide_eq_false e2) ?_
            refine ⟨_, rfl, rfl, _, rfl, ?_⟩
            by_cases e3 : x = ("give" : Str)
            · subst e3
              refine ift (by rw [xq]; exact decide_eq_true rfl) ⟨_, rfl, rfl, _, rfl, ?_⟩
              rw [rowD_give] at zq
              by_cases l : dr.length = 2
              · refine ift ((lq 2).trans (decide_eq_true l)) ?_
                rw [decide_eq_true l] at zq
                obtain ⟨v1, v2, d1, d2, rfl, rfl, h1, h2⟩ := dps_two hr1 l
                refine ⟨_, rfl, a, _, 1, _, rfl, rfl, hq1, atI_nat (j := 1) rfl, _, _, rfl, h1, _, rfl, and_go zq fun zq => ?_⟩
                exact ⟨_, rfl, a, _, 2, _, rfl, rfl, hq1, atI_nat (j := 2) rfl, _, _, rfl, h2, zq⟩
              · refine iff_ ((lq 2).trans (decide_eq_false l)) ?_
                rw [decide_eq_false l] at zq
                exact zq
            refine iff_ (by rw [xq]; exact decide_eq_false e3) ?_
            refine ⟨_, rfl, rfl, _, rfl, ?_⟩
            by_cases e4 : x = ("get" : Str)
            · subst e4
              refine ift (by rw [xq]; exact decide_eq_true rfl) ⟨_, rfl, rfl, _, rfl, ?_⟩
              rw [rowD_get] at zq
              by_cases l : dr.length = 2
              · refine ift ((lq 2).trans (decide_eq_true l)) ?_
                rw [decide_eq_true l] at zq
                obtain ⟨v1, v2, d1, d2, rfl, rfl, h1, h2⟩ := dps_two hr1 l
                refine ⟨_, rfl, a, _, 1, _, rfl, rfl, hq1, atI_nat (j := 1) rfl, _, _, rfl, h1, _, rfl, and_go zq fun zq => ?_⟩
                exact ⟨_, rfl, a, _, 2, _, rfl, rfl, hq1, atI_nat (j := 2) rfl, _, _, rfl, h2, zq⟩
              · refine iff_ ((lq 2).trans (decide_eq_false l)) ?_
                rw [decide_eq_false l] at zq
                exact zq
            refine iff_ (by rw [xq]; exact decide_eq_false e4) ?_
            refine ⟨_, rfl, rfl, _, rfl, ?_⟩
            by_cases e5 : x = ("swap" : Str)
            · subst e5
              refine ift (by rw [xq]; exact decide_eq_true rfl) ⟨_, rfl, rfl, _, rfl, ?_⟩
              rw [rowD_swap] at zq
              by_cases l : dr.length = 3
              · refine ift ((lq 3).trans (decide_eq_true l)) ?_
                rw [decide_eq_true l] at zq
                obtain ⟨v1, v2, v3, d1, d2, d3, rfl, rfl, h1, h2, h3⟩ := dps_three hr1 l
                refine ⟨_, rfl, a, _, 1, _, rfl, rfl, hq1, atI_nat (j := 1) rfl, _, _, rfl, h1, _, rfl, and_go zq fun zq => ?_⟩
                refine ⟨_, rfl, a, _, 2, _, rfl, rfl, hq1, atI_nat (j := 2) rfl, _, _, rfl, h2, _, rfl, and_go zq fun zq => ?_⟩
                exact ⟨_, rfl, a, _, 3, _, rfl, rfl, hq1, atI_nat (j := 3) rfl, _, _, rfl, h3, zq⟩
              · refine iff_ ((lq 3).trans (decide_eq_false l)) ?_
                rw [decide_eq_false l] at zq
                exact zq
            refine iff_ (by rw [xq]; exact decide_eq_false e5) ?_
            refine ⟨_, rfl, rfl, _, rfl, ?_⟩
            by_cases e6 : x = ("only" : Str)
            · subst e6
              refine iff_ (by rw [xq, decide_eq_true rfl]; rfl) ⟨_, rfl, rfl, _, rfl, ?_⟩
              rw [rowD_only] at zq
              by_cases l : dr.length = 3
              · refine iff_ (congrArg not ((lq 3).trans (decide_eq_true l))) ?_
                rw [decide_eq_true l] at zq
                obtain ⟨v1, v2, v3, d1, d2, d3, rfl, rfl, h1, h2, h3⟩ := dps_three hr1 l
                refine ⟨_, rfl, a, _, 1, _, rfl, rfl, hq1, atI_nat (j := 1) rfl, _, _, rfl, h1, _, rfl, and_go zq fun zq => ?_⟩
                refine ⟨_, rfl, a, _, 2, _, rfl, rfl, hq1, atI_nat (j := 2) rfl, _, _, rfl, h2, _, rfl, and_go zq fun zq => ?_⟩
                exact ⟨_, rfl, a, _, 3, _, rfl, rfl, hq1, atI_nat (j := 3) rfl, _, rfl, _, _, _, _, rfl, h3, zq⟩
              · refine ift (congrArg not ((lq 3).trans (decide_eq_false l))) ?_
                rw [decide_eq_false l] at zq
                exact zq
            refine ift (by rw [xq, decide_eq_false e6]; rfl) (ift rfl ?_)
            rw [rowD_none e1 e2 e3 e4 e5 e6] at zq
            exact zq
          | _ =>
            refine ift (by simp [isD, tyD]) ?_
            exact q _ s1
      | _ => simp [isD, tyD] at ht
end
end G341

set_option Elab.async false
set_option linter.all false
set_option maxRecDepth 100000
/-! comprehensions with a filter, over anything whose items are known -/
namespace G341
open PySem PySem.Spec PyProof.Rows L2
variable {K : PySem.W.Frag}
/-- a walk of n turns whose items are known as long as H stays -/
structure Wk1 (J : It) (H : Hp) (n : Nat) (val : Nat → V) : Prop where
  go : ∀ i H', Same H H' → i < n → J.go i H'
  stop : ∀ H', Same H H' → J.stop n H'
  yld : ∀ i H' x H'', Same H H' → i < n → J.yld i H' x H'' → H'' = H' ∧ x = val i
theorem wk_tup {H : Hp} {a : Addr} {xs : List V} (h : SqT K H a xs) : Wk1 (Itt K a) H xs.length (fun i => xs.getD i .non) where
  go := fun i H' s lt => ⟨xs, xs[i], same_sqt s h, List.getElem?_eq_getElem lt⟩
  stop := fun H' s => ⟨xs, same_sqt s h, Nat.le_refl _⟩
  yld := fun i H' x H'' s lt z => ⟨z.1, by
    have e := z.2 xs (same_sqt s h)
    rw [List.getD_eq_getElem?_getD, e]
    rfl⟩
theorem wk_lst {H : Hp} {a : Addr} {xs : List V} (h : SqL K H a xs) : Wk1 (Itl K a) H xs.length (fun i => xs.getD i .non) where
  go := fun i H' s lt => ⟨xs, xs[i], s.seq h, List.getElem?_eq_getElem lt⟩
  stop := fun H' s => ⟨xs, s.seq h, Nat.le_refl _⟩
  yld := fun i H' x H'' s lt z => ⟨z.1, by
    have e := z.2 xs (s.seq h)
    rw [List.getD_eq_getElem?_getD, e]
    rfl⟩
theorem wk_rng {H : Hp} {n : Nat} : Wk1 (Itr 0 n) H n (fun i => .int (i : Nat)) where
  go := fun i H' s lt => lt
  stop := fun H' s => Nat.le_refl n
  yld := fun i H' x H'' s lt z => ⟨z.1, by rw [z.2, Int.zero_add]⟩
/-- what a filter leaves -/
def fltF (f : Nat → Option V) : Nat → List V
  | 0 => []
  | i + 1 => fltF f i ++ (f i).toList
theorem flt_len (f : Nat → Option V) : ∀ n, (fltF f n).length ≤ n
  | 0 => Nat.le_refl 0
  | n + 1 => by
    show (fltF f n ++ (f n).toList).length ≤ n + 1
    rw [List.length_append]
    have h := flt_len f n
    cases f n <;> simp <;> omega
def OnF (C : VK) (C2 : Hp → Prop) (H3 : Hp) : Option V → Prop
  | some y => ∀ H4, Same H3 H4 → C y H4
  | none => ∀ H4, Same H3 H4 → C2 H4
theorem lc_flt {J : It} {σ : L2.St} {H : Hp} {Q : VK} {g : TG} {tt : TT} {te : TE} {vs : List Nat} {n : Nat} {val : Nat → V} (wj : Wk1 J H n val) (hl : n < sizeLine) (f : Nat → Option V)
    (step : ∀ (i : Nat) (H3 : Hp) (C : VK) (C2 : Hp → Prop), i < n → Same H H3 → OnF C C2 H3 (f i) → g (val i) (wipe σ vs) H3 fun σ2 H2 => wipe σ2 vs = wipe σ vs ∧ tt σ2 H2 fun b H4 => if b = true then te σ2 H4 C else C2 H4)
    (fin : ∀ D H', H D = none → Same H H' → H' D = some (.lst (fltF f n)) → Q (.ref D) H') :
    ∀ D, H D = none → ∃ W : Nat → Nat → Hp → Prop, (∃ m, W 0 m (upd H D (.lst []))) ∧ ∀ i m H, W i m H →
      (J.stop i H ∧ Q (.ref D) H) ∨ (J.go i H ∧ ∃ Nx : Hp → Prop, (∀ H', Nx H' → ∃ m', m' < m ∧ W (i + 1) m' H') ∧ ∀ x H', J.yld i H x H' → g x (wipe σ vs) H' fun σ2 H2 => wipe σ2 vs = wipe σ vs ∧ tt σ2 H2 fun b H3 =>
        if b = true then te σ2 H3 fun y H4 => ∃ acc, H4 D = some (.lst acc) ∧ acc.length < sizeLine ∧ Nx (upd H4 D (.lst (acc ++ [y]))) else Nx H3) := by
  intro D hD
  refine ⟨fun i m H' => m = n - i ∧ i ≤ n ∧ Same H H' ∧ H' D = some (.lst (fltF f i)), ⟨n, rfl, Nat.zero_le _, same_up hD, by rw [upd_same]; rfl⟩, ?_⟩
  rintro i m H3 ⟨em, hi, s3, d3⟩
  by_cases lt : i < n
  · refine .inr ⟨wj.go i H3 s3 lt, fun H' => Same H H' ∧ H' D = some (.lst (fltF f (i + 1))), fun H' ⟨s', d'⟩ => ⟨n - (i + 1), by omega, rfl, lt, s', d'⟩, ?_⟩
    intro x H' hy
    obtain ⟨eH, ex⟩ := wj.yld i H3 x H' s3 lt hy
    rw [eH, ex]
    refine step i H3 _ _ lt s3 ?_
    cases ef : f i with
    | none =>
      intro H4 s4
      refine ⟨s3.trans s4, ?_⟩
      rw [s4 _ _ d3]
      show _ = some (HO.lst (fltF f i ++ (f i).toList))
      rw [ef]
      simp
    | some y =>
      intro H4 s4
      refine ⟨_, s4 _ _ d3, Nat.lt_of_le_of_lt (flt_len f i) (Nat.lt_of_le_of_lt hi hl), fun b o e => ?_, ?_⟩
      · rw [upd_ne (ne_of_none e hD)]
        exact s4 _ _ (s3 _ _ e)
      · rw [upd_same]
        show _ = some (HO.lst (fltF f i ++ (f i).toList))
        rw [ef]
        rfl
  · have ei : i = n := by omega
    subst ei
    exact .inl ⟨wj.stop H3 s3, fin D H3 hD s3 d3⟩
theorem lc2_tupV {J : Addr → It} {R : Nat → V → V → Hp → Prop} (WJ : Wlk K J R) {σ : L2.St} {H : Hp} {Q : VK} {k n : Nat} {g1 : TG} {wi1 : TI} {te : TE} {vs vs1 : List Nat} {a : Addr} {xs : List V} (hv : σ[n]? = some (some (.ref a))) (hq : SqT K H a xs)
    (ys : Nat → List V) (bs : Nat → Addr) (hb : ∀ i < xs.length, SqT K H (bs i) (ys i)) (f : Nat → Nat → V)
    (hl2 : ∀ i < xs.length, ∀ j < (ys i).length, (catF f (fun i => (ys i).length) i).length + j < sizeLine)
    (hw : ∀ x : V, wipe ((wipe σ vs).set k (some x)) vs = wipe σ vs)
    (out : ∀ (i : Nat) (x : V) (H3 : Hp) (C : It → Hp → Prop), xs[i]? = some x → Same H H3 → C (J (bs i)) H3 → wi1 ((wipe σ vs).set k (some x)) H3 C)
    (step : ∀ (i j : Nat) (x z y : V) (H5 : Hp) (C : VK), xs[i]? = some x → (ys i)[j]? = some y → Same H H5 → R j z y H5 → (∀ H6, Same H5 H6 → C (f i j) H6) →
      g1 z (wipe ((wipe σ vs).set k (some x)) vs1) H5 fun σ3 H5 => wipe σ3 vs1 = wipe ((wipe σ vs).set k (some x)) vs1 ∧ te σ3 H5 C)
    (fin : ∀ D H', Same H H' → H' D = some (.lst (catF f (fun i => (ys i).length) xs.length)) → Q (.ref D) H') :
    tLc2 (iTup K (tVar n)) (gName k) tYes wi1 g1 tYes te vs vs1 σ H Q :=
  ⟨_, hv, a, rfl, ⟨_, hq⟩, lc2_tup WJ hq ys bs hb f hl2 hw out step fin⟩
end G341

set_option Elab.async false
set_option linter.all false
set_option maxRecDepth 100000
/-! programs -/
namespace G341
open PySem PySem.Spec PyProof.Rows L2
/-- rows of a hand, from the place at on, of many rows -/
def rowsD : List PyData → Int → Bool
  | [], _ => true
  | d :: r, n => rowD d n && rowsD r (n - 1)
def handD : PyData → Bool
  | .tuple rs => decide (rs.length ≤ 16)
  | _ => false
def handR : PyData → Bool
  | .tuple rs => rowsD rs ((rs.length : Int) - 1)
  | _ => false
def progD : PyData → Bool
  | .tuple hs => decide (1 ≤ hs.length) && decide (hs.length ≤ 4) && hs.all handD && hs.all handR
  | _ => false
def subs : PyData → List PyData
  | .tuple ds => ds
  | _ => []
theorem lay_mem : ∀ {ds : List PyData} {i : Nat} {d : PyData}, PyData.canLayAll0 ds = true → ds[i]? = some d → d.canLay0 = true
  | [], _, _, _, e => by simp at e
  | x :: r, 0, d, h, e => by
    rw [List.getElem?_cons_zero] at e
    cases e
    unfold PyData.canLayAll0 at h
    exact (Bool.and_eq_true_iff.mp h).1
  | x :: r, i + 1, d, h, e => by
    rw [List.getElem?_cons_succ] at e
    unfold PyData.canLayAll0 at h
    exact lay_mem (Bool.and_eq_true_iff.mp h).2 e
theorem dep_mem : ∀ {ds : List PyData} {i : Nat} {d : PyData}, ds[i]? = some d → d.depth ≤ PyData.depthAll ds
  | [], _, _, e => by simp at e
  | x :: r, 0, d, e => by
    rw [List.getElem?_cons_zero] at e
    cases e
    unfold PyData.depthAll
    exact Nat.le_max_left _ _
  | x :: r, i + 1, d, e => by
    rw [List.getElem?_cons_succ] at e
    unfold PyData.depthAll
    exact Nat.le_trans (dep_mem e) (Nat.le_max_right _ _)
theorem shaped_mem {ds : List PyData} {i : Nat} {d : PyData} (h : SeqAt.shaped (.tuple ds) = true) (e : ds[i]? = some d) : SeqAt.shaped d = true := by
  have h1 := SeqAt.canLay_of_shaped h
  have h2 := SeqAt.depth_of_shaped h
  unfold PyData.canLay0 at h1
  unfold PyData.depth at h2
  have h3 := dep_mem e
  unfold SeqAt.shaped
  rw [lay_mem h1 e, decide_eq_true (show d.depth ≤ 64 by omega)]
  rfl
theorem map_getD {α β : Type} (F : α → β) (z : α) : ∀ ds : List α, (List.range ds.length).map (fun i => F (ds.getD i z)) = ds.map F := by
  intro ds
  apply List.ext_getElem?
  intro i
  rw [List.getElem?_map, List.getElem?_map]
  by_cases h : i < ds.length
  · rw [List.getElem?_range h, List.getElem?_eq_getElem h]
    simp [List.getD_eq_getElem?_getD, List.getElem?_eq_getElem h]
  · rw [List.getElem?_eq_none (by simpa using h), List.getElem?_eq_none (by simpa using h)]
    rfl
/-- one row of a hand, by its place -/
def rwF (rs : List PyData) (j : Nat) : Bool := rowD (rs.getD j .none) ((rs.length : Int) - 1 - (j : Nat))
theorem rowsD_eq : ∀ (rs : List PyData) (n : Int), rowsD rs n = (List.range rs.length).all fun j => rowD (rs.getD j .none) (n - (j : Nat))
  | [], _ => rfl
  | d :: r, n => by
    show (rowD d n && rowsD r (n - 1)) = _
    rw [rowsD_eq r (n - 1), List.length_cons, List.range_succ_eq_map, List.all_cons, List.all_map]
    have e1 : n - ((0 : Nat) : Int) = n := by omega
    congr 1
    · rw [e1]; rfl
    · congr 1
      funext j
      show _ = rowD ((d :: r).getD (j + 1) .none) (n - ((j + 1 : Nat) : Int))
      rw [show n - ((j + 1 : Nat) : Int) = n - 1 - (j : Nat) by omega]
      rfl
theorem cat_all {f : Nat → Nat → V} {n : Nat → Nat} {ds : List PyData} (hf : ∀ i j, f i j = .bl (rwF (subs (ds.getD i .none)) j)) (hn : ∀ i, i < ds.length → n i = (subs (ds.getD i .none)).length)
    (hh : ∀ i, i < ds.length → ∃ rs, ds.getD i .none = .tuple rs) : ∀ m, m ≤ ds.length → ∃ bs : List Bool, catF f n m = bs.map V.bl ∧ bs.all id = (ds.take m).all handR
  | 0, _ => ⟨[], rfl, by simp⟩
  | m + 1, h => by
    obtain ⟨bs, e1, e2⟩ := cat_all hf hn hh m (by omega)
    refine ⟨bs ++ (List.range (n m)).map (rwF (subs (ds.getD m .none))), ?_, ?_⟩
    · show catF f n m ++ (List.range (n m)).map (f m) = _
      rw [e1, List.map_append, List.map_map]
      congr 2
      funext j
      exact hf m j
    · have lt : m < ds.length := by omega
      rw [List.all_append, e2, List.take_add_one, List.all_append, List.getElem?_eq_getElem lt]
      congr 1
      obtain ⟨rs, er⟩ := hh m lt
      have eg : ds[m] = .tuple rs := by
        rw [List.getD_eq_getElem?_getD, List.getElem?_eq_getElem lt] at er
        exact er
      rw [hn m lt, er, eg]
      simp only [Option.toList_some, List.all_cons, List.all_nil, Bool.and_true, List.all_map]
      show _ = rowsD rs ((rs.length : Int) - 1)
      rw [rowsD_eq]
      rfl
theorem cat_len {f : Nat → Nat → V} {n : Nat → Nat} {c : Nat} : ∀ m, (∀ i, i < m → n i ≤ c) → (catF f n m).length ≤ m * c
  | 0, _ => Nat.zero_le _
  | m + 1, h => by
    show (catF f n m ++ (List.range (n m)).map (f m)).length ≤ _
    rw [List.length_append, List.length_map, List.length_range, Nat.succ_mul]
    have h1 := cat_len (f := f) m fun i hi => h i (by omega)
    have h2 := h m (Nat.lt_succ_self m)
    omega
theorem progD_t {hs : List PyData} : progD (.tuple hs) = (decide (1 ≤ hs.length) && decide (hs.length ≤ 4) && hs.all handD && hs.all handR) := rfl
theorem progD_no {d : PyData} (h : isD d "tuple" = false) : progD d = false := by
  cases d <;> first | rfl | (simp [isD, tyD] at h)
section
variable {P : Program} {w : World} {K : PySem.W.Frag} {mg : Str → Option Value} {base : Heap}
theorem sc14 : FnScope ["thing", "hand", "at", "row"] ["thing"] (defScope (tx 14)) := ⟨rfl, rfl, rfl, by decide +kernel, rfl, by decide +kernel, by decide +kernel⟩
def spProg (K : PySem.W.Frag) : Sp := fun vs H Q _ => ∃ (v : V) (d : PyData), vs = [v] ∧ Dp K H v d ∧ SeqAt.shaped d = true ∧ ∀ H', Same H H' → Q (.bl (progD d)) H'
theorem ok_prog {f fw : Addr} {fd dw : FuncData} (F : Df K mg "is_program" (tx 14) ["thing"] f fd) (W : Df K mg "is_row" (tx 13) ["thing", "rest"] fw dw)
    (GW : FnOk P w K mg base CX0 3 fw dw ["thing", "rest"] (spRow K)) (B : Bn mg) : FnOk P w K mg base CX0 4 f fd ["thing"] (spProg K) := by
  refine F.F.ok sc14 (fun vs H Q E h => ?_) (fun cdv A outer s H vs Q E hr h => ?_)
  · obtain ⟨v, d, rfl, _⟩ := h
    rfl
  · obtain ⟨v, d, rfl, hd, sh, q⟩ := h
    obtain ⟨t1, et1⟩ := B.hands
    obtain ⟨t2, et2⟩ := B.rows
    refine ⟨_, pss_cons (ps_if (PW.pt (pw_or (pt_not (pt_val (pe_is (t := "tuple") (by decide) rfl B.isi rfl B.tuple (by decide +kernel) (pv 0))))
        (pw_or1 (pt_not (pt_chain op_le op_le pe_int (pe_callB call_len_seq (by rfl) B.len PySem.boot_len (pa_cons (pv 0) pa_nil)) (pe_glob (v := .int 4) rfl et1 ⟨t1, rfl⟩)))))) (pss_one (ps_ret pe_bl)) pss_nil)
      (pss_cons (ps_if (pt_not (pt_val (pe_callB (cr_all rfl) (by rfl) B.all PyProof.Rows.boot_all (pa_cons
          (pe_lc (own := [("hand", 1)]) (te := tAndV (tIs K "tuple" (tVar 1)) (tOp (rI0 fun i j => .bl (decide (i ≤ j))) (tCB (fun xs H Q => ∃ p ys, xs = [V.ref p] ∧ (SqL K H p ys ∨ SqT K H p ys) ∧ Q (.int ys.length) H) (tCons (tVar 1) tNil)) (tC (.int 16)))) (g := gName 1) (tt := tYes) rfl sc14.nd (pi_tup (pv 0)) (blkOk_by (N := ["thing", "hand", "at", "row"]) (sc := defScope (tx 14)) (by decide +kernel)) (fun _ _ _ _ _ => pg_name (i := 1) sc14.nd rfl (Or.inl rfl)) (fun _ _ _ _ _ => pts_nil)
            (fun _ _ _ _ _ => by
              refine pe_and ?_ (pe_one ?_)
              · exact pe_is (t := "tuple") (by decide) rfl B.isi rfl B.tuple (by decide +kernel) (pv 1)
              · exact pe_cmpR op_le (pe_callB call_len_seq (by rfl) B.len PySem.boot_len (pa_cons (pv 1) pa_nil)) (pe_glob (v := .int 16) rfl et2 ⟨t2, rfl⟩) (nomark _))) pa_nil)))) (pss_one (ps_ret pe_bl)) pss_nil)
      (pss_one (ps_ret (pe_callB (cr_all rfl) (by rfl) B.all PyProof.Rows.boot_all (pa_cons
          (pe_lc2 (own := [("hand", 1), ("at", 2), ("row", 3)]) (vs1 := [2, 3]) (wi1 := iEnT K (tCons (tVar 1) tNil)) (g1 := gTup K 2 (gCons (gName 2) (gCons (gName 3) gNil))) (te := tCall (spRow K) [] E0 (tCons (tVar 3) (tCons (tOp (rI0 fun i j => .int (i - j)) (tOp (rI0 fun i j => .int (i - j)) (tCB (fun xs H Q => ∃ p ys, xs = [V.ref p] ∧ (SqL K H p ys ∨ SqT K H p ys) ∧ Q (.int ys.length) H) (tCons (tVar 1) tNil)) (tC (.int 1))) (tVar 2)) tNil))) (g := gName 1) (tt := tYes) (tt1 := tYes) rfl sc14.nd (pi_tup (pv 0)) (blkOk_by (N := ["thing", "hand", "at", "row"]) (sc := defScope (tx 14)) (by decide +kernel)) (by decide) (fun _ _ _ _ _ => pg_name (i := 1) sc14.nd rfl (Or.inl rfl)) (fun _ _ _ _ _ => pts_nil)
            (fun _ _ _ _ _ => by exact pi_enT rfl B.enum (pa_cons (pv 1) pa_nil)) (fun _ _ _ _ _ => by exact pg_tup rfl (pgs_cons (pg_name (i := 2) sc14.nd rfl (.inl rfl)) (pgs_cons (pg_name (i := 3) sc14.nd rfl (.inl rfl)) pgs_nil))) (fun _ _ _ _ _ => pts_nil)
            (fun _ _ _ _ _ => by exact pe_call GW (hr.mono (by decide)) (by rfl) W.g W.F.kp W.b .nil pass0 (pa_cons (pv 3) (pa_cons (pe_op op_sub (pe_op op_sub (pe_callB call_len_seq (by rfl) B.len PySem.boot_len (pa_cons (pv 1) pa_nil)) pe_int) (pv 2)) pa_nil)))) pa_nil))))), ?_⟩
    cases ht : isD d "tuple" with
    | false =>
      refine ⟨v, rfl, isi_r hd (by decide) ⟨_, rfl, ift (by rw [ht]; rfl) (ift rfl ?_)⟩⟩
      have z := q H (Same.refl H)
      rw [progD_no ht] at z
      exact z
    | true =>
      cases hd with
      | tup hq hds =>
        rename_i a vs ds
        have ln := dps_len hds
        refine ⟨_, rfl, isi_r (.tup hq hds) (by decide) ⟨_, rfl, iff_ (by simp [isD, tyD]) ?_⟩⟩
        refine ⟨_, rfl, a, vs, rfl, .inr hq, 1, _, rfl, rfl, _, rfl, ?_⟩
        have no : progD (.tuple ds) = false → Q (.bl false) H := fun e => by
          have z := q H (Same.refl H)
          rw [e] at z
          exact z
        by_cases l1 : 1 ≤ vs.length
        · refine ift (decide_eq_true (by omega)) ⟨_, _, rfl, rfl, _, rfl, ?_⟩
          by_cases l2 : vs.length ≤ 4
          · refine iff_ (congrArg not (decide_eq_true (by omega))) ?_
            dsimp only [tNext, tSeq, tIfS, tNot, tB, tCB, tCons]
            refine lc_tupV (by rfl) hq (Nat.lt_of_le_of_lt l2 (by decide)) (fun i => .bl (handD (ds.getD i .none))) ?_ ?_
            · intro i x H3 C hx s3 c
              obtain ⟨d, ed, hd⟩ := dps_get hds hx
              have eg : ds.getD i .none = d := by
                rw [List.getD_eq_getElem?_getD, ed]
                rfl
              have c := c H3 (Same.refl _)
              rw [eg] at c
              have hd3 := dp_same s3 hd
              refine ⟨by rfl, ?_⟩
              refine ⟨x, rfl, isi_r hd3 (by decide) ⟨_, rfl, ?_⟩⟩
              cases hd3 with
              | tup hq3 hr3 =>
                rename_i b2 xs2 ds2
                refine ift (by simp [isD, tyD]) ⟨_, rfl, _, _, rfl, .inr hq3, _, _, rfl, rfl, ?_⟩
                rw [dps_len hr3]
                show C (.bl (decide ((ds2.length : Int) ≤ 16))) H3
                rw [show decide ((ds2.length : Int) ≤ 16) = handD (.tuple ds2) from decide_eq_decide.mpr (by omega)]
                exact c
              | non => exact iff_ (by simp [isD, tyD]) c
              | bl b => exact iff_ (by simp [isD, tyD]) c
              | int b => exact iff_ (by simp [isD, tyD]) c
              | str b => exact iff_ (by simp [isD, tyD]) c
              | lst a b => exact iff_ (by simp [isD, tyD]) c
            · intro D H1 s1 hD
              refine ⟨D, ds.map handD, rfl, .inl (.inl ?_), ?_⟩
              · rw [hD, ln, ← map_getD handD .none ds, List.map_map]
                rfl
              rw [List.all_map]
              cases eh : ds.all (id ∘ handD) with
              | false =>
                refine ⟨_, rfl, ift rfl ?_⟩
                have z := q H1 s1
                rw [progD_t, show ds.all handD = false from eh] at z
                simp only [Bool.and_false, Bool.false_and] at z
                exact z
              | true =>
                have eh : ds.all handD = true := eh
                refine ⟨_, rfl, iff_ rfl ?_⟩
                have hand : ∀ i, i < ds.length → ∃ rs, ds.getD i .none = .tuple rs ∧ rs.length ≤ 16 := by
                  intro i hi
                  have z := List.all_eq_true.mp eh ds[i] (List.getElem_mem hi)
                  rw [List.getD_eq_getElem?_getD, List.getElem?_eq_getElem hi]
                  generalize ds[i] = d at z
                  cases d with
                  | tuple rs => exact ⟨rs, rfl, of_decide_eq_true z⟩
                  | _ => cases z
                have ch : ∀ i, ∃ t : Addr × List V, i < vs.length → vs[i]? = some (.ref t.1) ∧ SqT K H t.1 t.2 ∧ DpAll K H t.2 (subs (ds.getD i .none)) := by
                  intro i
                  by_cases hi : i < vs.length
                  · obtain ⟨d, ed, hd⟩ := dps_get hds (List.getElem?_eq_getElem hi)
                    obtain ⟨rs, er, _⟩ := hand i (by omega)
                    have eg : ds.getD i .none = d := by
                      rw [List.getD_eq_getElem?_getD, ed]
                      rfl
                    rw [er] at eg
                    subst eg
                    cases hv : vs[i] with
                    | ref b =>
                      rw [hv] at hd
                      cases hd with
                      | tup hqb hrb =>
                        refine ⟨(b, _), fun _ => ⟨by rw [List.getElem?_eq_getElem hi, hv], hqb, ?_⟩⟩
                        rw [er]
                        exact hrb
                    | _ => rw [hv] at hd; cases hd
                  · exact ⟨(0, []), fun h => absurd h hi⟩
                obtain ⟨t, ht⟩ : ∃ t : Nat → Addr × List V, ∀ i, i < vs.length → vs[i]? = some (.ref (t i).1) ∧ SqT K H (t i).1 (t i).2 ∧ DpAll K H (t i).2 (subs (ds.getD i .none)) := ⟨fun i => Classical.choose (ch i), fun i => Classical.choose_spec (ch i)⟩
                have tl : ∀ i, i < vs.length → (t i).2.length = (subs (ds.getD i .none)).length := fun i hi => dps_len (ht i hi).2.2
                have tl16 : ∀ i, i < vs.length → (t i).2.length ≤ 16 := fun i hi => by
                  rw [tl i hi]
                  obtain ⟨rs, er, lr⟩ := hand i (by omega)
                  rw [er]
                  exact lr
                dsimp only [tRet, tCB, tCons, List.map]
                refine lc2_tupV (K := K) (wlk_en (K := K)) (by rfl) (same_sqt s1 hq) (fun i => (t i).2) (fun i => (t i).1) (fun i hi => same_sqt s1 (ht i hi).2.1) (fun i j => .bl (rwF (subs (ds.getD i .none)) j)) ?_ (fun _ => by rfl) ?_ ?_ ?_
                · intro i hi j hj
                  have z := cat_len (f := fun i j => .bl (rwF (subs (ds.getD i .none)) j)) (n := fun i => (t i).2.length) (c := 16) i fun k hk => tl16 k (by omega)
                  have z2 := tl16 i hi
                  have z3 : sizeLine = sizeLine := rfl
                  rw [sizeLine_eq]
                  omega
                · intro i x H3 C hx s3 c
                  have hi : i < vs.length := (List.getElem?_eq_some_iff.mp hx).1
                  have hx2 := (ht i hi).1
                  rw [hx] at hx2
                  cases hx2
                  exact ⟨_, rfl, _, _, rfl, same_sqt (s1.trans s3) (ht i hi).2.1, c⟩
                · intro i j x z y H5 C hx hy s5 r5 c
                  obtain ⟨T, rfl, hT⟩ := r5
                  have hi : i < vs.length := (List.getElem?_eq_some_iff.mp hx).1
                  obtain ⟨hx2, hqi, hri⟩ := ht i hi
                  rw [hx] at hx2
                  cases hx2
                  obtain ⟨d, ed, hd⟩ := dps_get hri hy
                  have s15 := s1.trans s5
                  have shi : SeqAt.shaped d = true := by
                    obtain ⟨rs, er, _⟩ := hand i (by omega)
                    have eds : ds[i]? = some (.tuple rs) := by
                      rw [List.getD_eq_getElem?_getD] at er
                      cases eo : ds[i]? with
                      | none => rw [eo] at er; cases er
                      | some o => rw [eo] at er; exact congrArg some er
                    rw [er] at ed
                    exact shaped_mem (shaped_mem sh eds) ed
                  refine ⟨T, _, rfl, .inl (.inl hT), rfl, _, _, rfl, _, _, rfl, rfl, by rfl, ?_⟩
                  refine ⟨_, rfl, _, rfl, _, _, rfl, .inr (same_sqt s15 hqi), _, 1, rfl, rfl, _, rfl, _, _, rfl, rfl, ?_⟩
                  refine ⟨_, d, _, rfl, dp_same s15 hd, shi, fun H6 s6 => ?_⟩
                  have z := c H6 s6
                  unfold rwF at z
                  rw [List.getD_eq_getElem?_getD, ed] at z
                  rw [tl i hi]
                  exact z
                · intro D H' s' hD'
                  obtain ⟨bs, e1, e2⟩ := cat_all (f := fun i j => .bl (rwF (subs (ds.getD i .none)) j)) (n := fun i => (t i).2.length) (ds := ds) (fun _ _ => rfl) (fun i hi => tl i (by omega)) (fun i hi => (hand i hi).imp fun _ h => h.1) ds.length (Nat.le_refl _)
                  rw [ln, e1] at hD'
                  refine ⟨D, bs, rfl, .inl (.inl hD'), ?_⟩
                  have z := q H' (s1.trans s')
                  rw [List.take_length] at e2
                  rw [progD_t, eh, ← e2, decide_eq_true (show 1 ≤ ds.length by omega), decide_eq_true (show ds.length ≤ 4 by omega)] at z
                  exact z
          · refine ift (congrArg not (decide_eq_false (by omega))) (no ?_)
            rw [progD_t]
            rw [decide_eq_false (show ¬ ds.length ≤ 4 by omega)]
            simp
        · refine iff_ (decide_eq_false (by omega)) ⟨_, rfl, ift rfl (no ?_)⟩
          rw [progD_t]
          rw [decide_eq_false (show ¬ 1 ≤ ds.length by omega)]
          simp
      | _ => simp [isD, tyD] at ht
end
end G341

set_option Elab.async false
set_option linter.all false
set_option maxRecDepth 100000
/-! rows turned round; the place of a row; check_program -/
namespace G341
open PySem PySem.Spec PyProof.Rows L2
inductive RowC : PyData → Int → Prop
  | fence {n : Int} : RowC (.tuple [.str "fence"]) n
  | put {n : Int} (p v : Int) (h : (0 ≤ p ∧ p ≤ 3) ∧ (0 ≤ v ∧ v ≤ 3)) : RowC (.tuple [.str "put", .int p, .int v]) n
  | give {n : Int} (p v : Int) (h : (0 ≤ p ∧ p ≤ 3) ∧ (0 ≤ v ∧ v ≤ 2)) : RowC (.tuple [.str "give", .int p, .int v]) n
  | get {n : Int} (v p : Int) (h : (0 ≤ v ∧ v ≤ 2) ∧ (0 ≤ p ∧ p ≤ 3)) : RowC (.tuple [.str "get", .int v, .int p]) n
  | swap {n : Int} (r p v : Int) (h : (0 ≤ r ∧ r ≤ 2) ∧ (0 ≤ p ∧ p ≤ 3) ∧ (0 ≤ v ∧ v ≤ 3)) : RowC (.tuple [.str "swap", .int r, .int p, .int v]) n
  | only {n : Int} (r v k : Int) (h : (0 ≤ r ∧ r ≤ 2) ∧ (0 ≤ v ∧ v ≤ 3) ∧ (1 ≤ k ∧ k ≤ n)) : RowC (.tuple [.str "only", .int r, .int v, .int k]) n
theorem num_in {d : PyData} {a b : Int} (h : numD d a b = true) : ∃ n, d = .int n ∧ a ≤ n ∧ n ≤ b := by
  cases d with
  | int n =>
    have z : (decide (a ≤ n) && decide (n ≤ b)) = true := h
    rw [Bool.and_eq_true] at z
    exact ⟨n, rfl, of_decide_eq_true z.1, of_decide_eq_true z.2⟩
  | _ => cases h
theorem num_to {n a b : Int} (h : a ≤ n ∧ n ≤ b) : numD (.int n) a b = true := by
  show (decide (a ≤ n) && decide (n ≤ b)) = true
  rw [decide_eq_true h.1, decide_eq_true h.2]
  rfl
theorem two_in {r : List PyData} {a b c d : Int} (h : (decide (r.length = 2) && (numD (gD r 0) a b && numD (gD r 1) c d)) = true) : ∃ x y, r = [.int x, .int y] ∧ (a ≤ x ∧ x ≤ b) ∧ (c ≤ y ∧ y ≤ d) := by
  rw [Bool.and_eq_true, Bool.and_eq_true] at h
  obtain ⟨l, h1, h2⟩ := h
  match r, of_decide_eq_true l, h1, h2 with
  | [u, v], _, h1, h2 =>
    obtain ⟨x, rfl, hx⟩ := num_in (d := u) h1
    obtain ⟨y, rfl, hy⟩ := num_in (d := v) h2
    exact ⟨x, y, rfl, hx, hy⟩
theorem three_in {r : List PyData} {a b c d e f : Int} (h : (decide (r.length = 3) && (numD (gD r 0) a b && (numD (gD r 1) c d && numD (gD r 2) e f))) = true) : ∃ x y z, r = [.int x, .int y, .int z] ∧ (a ≤ x ∧ x ≤ b) ∧ (c ≤ y ∧ y ≤ d) ∧ (e ≤ z ∧ z ≤ f) := by
  rw [Bool.and_eq_true, Bool.and_eq_true, Bool.and_eq_true] at h
  obtain ⟨l, h1, h2, h3⟩ := h
  match r, of_decide_eq_true l, h1, h2, h3 with
  | [u, v, w], _, h1, h2, h3 =>
    obtain ⟨x, rfl, hx⟩ := num_in (d := u) h1
    obtain ⟨y, rfl, hy⟩ := num_in (d := v) h2
    obtain ⟨z, rfl, hz⟩ := num_in (d := w) h3
    exact ⟨x, y, z, rfl, hx, hy, hz⟩
theorem row_in {d : PyData} {n : Int} (h : rowD d n = true) : RowC d n := by
  match d, h with
  | .tuple (.str w :: r), h =>
    by_cases e1 : w = ("fence" : Str)
    · subst e1
      rw [rowD_fence] at h
      match r, of_decide_eq_true h with
      | [], _ => exact .fence
    by_cases e2 : w = ("put" : Str)
    · subst e2
      rw [rowD_put] at h
      obtain ⟨x, y, rfl, h'⟩ := two_in h
      exact .put x y h'
    by_cases e3 : w = ("give" : Str)
    · subst e3
      rw [rowD_give] at h
      obtain ⟨x, y, rfl, h'⟩ := two_in h
      exact .give x y h'
    by_cases e4 : w = ("get" : Str)
    · subst e4
      rw [rowD_get] at h
      obtain ⟨x, y, rfl, h'⟩ := two_in h
      exact .get x y h'
    by_cases e5 : w = ("swap" : Str)
    · subst e5
      rw [rowD_swap] at h
      obtain ⟨x, y, z, rfl, h'⟩ := three_in h
      exact .swap x y z h'
    by_cases e6 : w = ("only" : Str)
    · subst e6
      rw [rowD_only] at h
      obtain ⟨x, y, z, rfl, h'⟩ := three_in h
      exact .only x y z h'
    rw [rowD_none e1 e2 e3 e4 e5 e6] at h
    cases h
theorem row_to {d : PyData} {n : Int} (h : RowC d n) : rowD d n = true := by
  cases h with
  | fence => rw [rowD_fence]; rfl
  | put p v h => rw [rowD_put]; show (numD _ _ _ && numD _ _ _) = true; rw [show gD [PyData.int p, PyData.int v] 0 = .int p from rfl, show gD [PyData.int p, PyData.int v] 1 = .int v from rfl, num_to h.1, num_to h.2]; rfl
  | give p v h => rw [rowD_give]; show (numD _ _ _ && numD _ _ _) = true; rw [show gD [PyData.int p, PyData.int v] 0 = .int p from rfl, show gD [PyData.int p, PyData.int v] 1 = .int v from rfl, num_to h.1, num_to h.2]; rfl
  | get p v h => rw [rowD_get]; show (numD _ _ _ && numD _ _ _) = true; rw [show gD [PyData.int p, PyData.int v] 0 = .int p from rfl, show gD [PyData.int p, PyData.int v] 1 = .int v from rfl, num_to h.1, num_to h.2]; rfl
  | swap r p v h => rw [rowD_swap]; show (numD _ _ _ && (numD _ _ _ && numD _ _ _)) = true; rw [show gD [PyData.int r, PyData.int p, PyData.int v] 0 = .int r from rfl, show gD [PyData.int r, PyData.int p, PyData.int v] 1 = .int p from rfl, show gD [PyData.int r, PyData.int p, PyData.int v] 2 = .int v from rfl, num_to h.1, num_to h.2.1, num_to h.2.2]; rfl
  | only r p v h => rw [rowD_only]; show (numD _ _ _ && (numD _ _ _ && numD _ _ _)) = true; rw [show gD [PyData.int r, PyData.int p, PyData.int v] 0 = .int r from rfl, show gD [PyData.int r, PyData.int p, PyData.int v] 1 = .int p from rfl, show gD [PyData.int r, PyData.int p, PyData.int v] 2 = .int v from rfl, num_to h.1, num_to h.2.1, num_to h.2.2]; rfl
def numOf : PyData → Option Int
  | .int n => some n
  | _ => none
/-- the place of a row -/
def plW (w : Str) (r : List PyData) : Option Int := if w = "put" ∨ w = "give" then numOf (gD r 0) else if w = "get" ∨ w = "swap" then numOf (gD r 1) else none
def plD : PyData → Option Int
  | .tuple (.str w :: r) => plW w r
  | _ => none
def plV (d : PyData) : V := match plD d with
  | some n => .int n
  | none => .non
theorem pd_fence : plD (.tuple [.str "fence"]) = none := by
  show plW _ _ = _
  unfold plW
  rw [if_neg (by decide +kernel), if_neg (by decide +kernel)]
theorem pl_fence : plV (.tuple [.str "fence"]) = .non := by
  unfold plV
  rw [pd_fence]
theorem pd_put {p v : Int} : plD (.tuple [.str "put", .int p, .int v]) = some p := by
  show plW _ _ = _
  unfold plW
  rw [if_pos (by decide +kernel)]
  rfl
theorem pl_put {p v : Int} : plV (.tuple [.str "put", .int p, .int v]) = .int p := by
  unfold plV
  rw [pd_put]
theorem pd_give {p v : Int} : plD (.tuple [.str "give", .int p, .int v]) = some p := by
  show plW _ _ = _
  unfold plW
  rw [if_pos (by decide +kernel)]
  rfl
theorem pl_give {p v : Int} : plV (.tuple [.str "give", .int p, .int v]) = .int p := by
  unfold plV
  rw [pd_give]
theorem pd_get {p v : Int} : plD (.tuple [.str "get", .int v, .int p]) = some p := by
  show plW _ _ = _
  unfold plW
  rw [if_neg (by decide +kernel), if_pos (by decide +kernel)]
  rfl
theorem pl_get {p v : Int} : plV (.tuple [.str "get", .int v, .int p]) = .int p := by
  unfold plV
  rw [pd_get]
theorem pd_swap {r p v : Int} : plD (.tuple [.str "swap", .int r, .int p, .int v]) = some p := by
  show plW _ _ = _
  unfold plW
  rw [if_neg (by decide +kernel), if_pos (by decide +kernel)]
  rfl
theorem pl_swap {r p v : Int} : plV (.tuple [.str "swap", .int r, .int p, .int v]) = .int p := by
  unfold plV
  rw [pd_swap]
theorem pd_only {r p v : Int} : plD (.tuple [.str "only", .int r, .int p, .int v]) = none := by
  show plW _ _ = _
  unfold plW
  rw [if_neg (by decide +kernel), if_neg (by decide +kernel)]
theorem pl_only {r p v : Int} : plV (.tuple [.str "only", .int r, .int p, .int v]) = .non := by
  unfold plV
  rw [pd_only]
theorem in_f1 : inV (.str "fence") [.str "put", .str "give"] = false := by decide +kernel
theorem in_f2 : inV (.str "fence") [.str "get", .str "swap"] = false := by decide +kernel
theorem in_p1 : inV (.str "put") [.str "put", .str "give"] = true := by decide +kernel
theorem in_i1 : inV (.str "give") [.str "put", .str "give"] = true := by decide +kernel
theorem in_g1 : inV (.str "get") [.str "put", .str "give"] = false := by decide +kernel
theorem in_g2 : inV (.str "get") [.str "get", .str "swap"] = true := by decide +kernel
theorem in_s1 : inV (.str "swap") [.str "put", .str "give"] = false := by decide +kernel
theorem in_s2 : inV (.str "swap") [.str "get", .str "swap"] = true := by decide +kernel
theorem in_o1 : inV (.str "only") [.str "put", .str "give"] = false := by decide +kernel
theorem in_o2 : inV (.str "only") [.str "get", .str "swap"] = false := by decide +kernel
theorem dps_c {K : PySem.W.Frag} {H : Hp} {vs : List V} {d : PyData} {ds : List PyData} (h : DpAll K H vs (d :: ds)) : ∃ v vr, vs = v :: vr ∧ Dp K H v d ∧ DpAll K H vr ds := by
  cases h with
  | cons a b => exact ⟨_, _, rfl, a, b⟩
theorem dp_str {K : PySem.W.Frag} {H : Hp} {v : V} {x : Str} (h : Dp K H v (.str x)) : v = .str x := by
  cases h
  rfl
theorem dp_int {K : PySem.W.Frag} {H : Hp} {v : V} {x : Int} (h : Dp K H v (.int x)) : v = .int x := by
  cases h
  rfl
def spPlace (K : PySem.W.Frag) : Sp := fun vs H Q _ => ∃ (v : V) (d : PyData) (n : Int), vs = [v] ∧ Dp K H v d ∧ rowD d n = true ∧ ∀ H', Same H H' → Q (plV d) H'
def spCheck (K : PySem.W.Frag) : Sp := fun vs H Q _ => ∃ (v : V) (d : PyData), vs = [v] ∧ Dp K H v d ∧ SeqAt.shaped d = true ∧ progD d = true ∧ ∀ H', Same H H' → Q .non H'
section
variable {P : Program} {w : World} {K : PySem.W.Frag} {mg : Str → Option Value} {base : Heap}
theorem sc15 : FnScope ["program"] ["program"] (defScope (tx 15)) := ⟨rfl, rfl, rfl, by decide +kernel, rfl, by decide +kernel, by decide +kernel⟩
theorem sc16 : FnScope ["row"] ["row"] (defScope (tx 16)) := ⟨rfl, rfl, rfl, by decide +kernel, rfl, by decide +kernel, by decide +kernel⟩
theorem ok_check {f fp : Addr} {fd dp : FuncData} (F : Df K mg "check_program" (tx 15) ["program"] f fd) (W : Df K mg "is_program" (tx 14) ["thing"] fp dp)
    (GW : FnOk P w K mg base CX0 4 fp dp ["thing"] (spProg K)) : FnOk P w K mg base CX0 5 f fd ["program"] (spCheck K) := by
  refine F.F.ok sc15 (fun vs H Q E h => ?_) (fun cdv A outer s H vs Q E hr h => ?_)
  · obtain ⟨v, d, rfl, _⟩ := h
    rfl
  · obtain ⟨v, d, rfl, hd, sh, hp, q⟩ := h
    refine ⟨_, pss_one (ps_if (pt_not (pt_val (pe_call GW (hr.mono (by decide)) (by rfl) W.g W.F.kp W.b .nil pass0 (pa_cons (pv 0) pa_nil)))) (pss_one ps_dead) pss_nil), ?_⟩
    refine ⟨_, rfl, _, d, rfl, hd, sh, fun H' s' => ⟨_, rfl, iff_ (by rw [hp]; rfl) (q H' s')⟩⟩
theorem ok_placeOf {f : Addr} {fd : FuncData} (F : Df K mg "place_of" (tx 16) ["row"] f fd) : FnOk P w K mg base CX0 1 f fd ["row"] (spPlace K) := by
  refine F.F.ok sc16 (fun vs H Q E h => ?_) (fun cdv A outer s H vs Q E hr h => ?_)
  · obtain ⟨v, d, n, rfl, _⟩ := h
    rfl
  · obtain ⟨v, d, n, rfl, hd, hrow, q⟩ := h
    refine ⟨_, pss_cons (ps_if (pt_cmpR op_in_seq (pe_ix ix_tup (pv 0) pe_int (fun _ _ => rfl)) (pe_tup (pa_cons pe_str (pa_cons pe_str pa_nil))) rfl) (pss_one (ps_ret (pe_ix ix_tup (pv 0) pe_int (fun _ _ => rfl)))) pss_nil)
      (pss_one (ps_ret (pe_ifExp (pt_cmpR op_in_seq (pe_ix ix_tup (pv 0) pe_int (fun _ _ => rfl)) (pe_tup (pa_cons pe_str (pa_cons pe_str pa_nil))) rfl) (pe_ix ix_tup (pv 0) pe_int (fun _ _ => rfl)) pe_non))), ?_⟩
    have hc := row_in hrow
    cases hd with
    | tup hq hds =>
      rename_i a vs ds
      have key : ∃ (x : Str) (vr : List V), vs = .str x :: vr ∧ ((inV (.str x) [.str "put", .str "give"] = true ∧ vr[0]? = some (plV (.tuple ds))) ∨ (inV (.str x) [.str "put", .str "give"] = false ∧ ((inV (.str x) [.str "get", .str "swap"] = true ∧ vr[1]? = some (plV (.tuple ds))) ∨ (inV (.str x) [.str "get", .str "swap"] = false ∧ plV (.tuple ds) = .non)))) := by
        cases hc with
        | fence =>
          obtain ⟨v0, vr, rfl, h0, hr⟩ := dps_c hds
          cases dp_str h0
          exact ⟨_, _, rfl, .inr ⟨in_f1, .inr ⟨in_f2, pl_fence⟩⟩⟩
        | put p v h =>
          obtain ⟨v0, vr, rfl, h0, hr⟩ := dps_c hds
          obtain ⟨v1, vr1, rfl, h1, hr1⟩ := dps_c hr
          cases dp_str h0
          cases dp_int h1
          exact ⟨_, _, rfl, .inl ⟨in_p1, by rw [pl_put]; rfl⟩⟩
        | give p v h =>
          obtain ⟨v0, vr, rfl, h0, hr⟩ := dps_c hds
          obtain ⟨v1, vr1, rfl, h1, hr1⟩ := dps_c hr
          cases dp_str h0
          cases dp_int h1
          exact ⟨_, _, rfl, .inl ⟨in_i1, by rw [pl_give]; rfl⟩⟩
        | get v p h =>
          obtain ⟨v0, vr, rfl, h0, hr⟩ := dps_c hds
          obtain ⟨v1, vr1, rfl, h1, hr1⟩ := dps_c hr
          obtain ⟨v2, vr2, rfl, h2, hr2⟩ := dps_c hr1
          cases dp_str h0
          cases dp_int h2
          exact ⟨_, _, rfl, .inr ⟨in_g1, .inl ⟨in_g2, by rw [pl_get]; rfl⟩⟩⟩
        | swap r p v h =>
          obtain ⟨v0, vr, rfl, h0, hr⟩ := dps_c hds
          obtain ⟨v1, vr1, rfl, h1, hr1⟩ := dps_c hr
          obtain ⟨v2, vr2, rfl, h2, hr2⟩ := dps_c hr1
          cases dp_str h0
          cases dp_int h2
          exact ⟨_, _, rfl, .inr ⟨in_s1, .inl ⟨in_s2, by rw [pl_swap]; rfl⟩⟩⟩
        | only r p v h =>
          obtain ⟨v0, vr, rfl, h0, hr⟩ := dps_c hds
          cases dp_str h0
          exact ⟨_, _, rfl, .inr ⟨in_o1, .inr ⟨in_o2, pl_only⟩⟩⟩
      obtain ⟨x, vr, rfl, key⟩ := key
      refine ⟨_, rfl, a, _, 0, _, rfl, rfl, hq, atI_nat (j := 0) rfl, ?_⟩
      refine ⟨by decide, fun p hp => ?_⟩
      have s1 : Same H (upd H p (.tup [.str "put", .str "give"])) := same_up hp
      refine ⟨p, _, rfl, .inr (.inl (.inl upd_same)), rfl, rfl, _, rfl, ?_⟩
      rcases key with ⟨e1, e2⟩ | ⟨e1, key⟩
      · refine ift e1 ⟨_, rfl, a, _, 1, _, rfl, rfl, same_sqt s1 hq, atI_nat (j := 1) e2, q _ s1⟩
      refine iff_ e1 ⟨_, rfl, a, _, 0, _, rfl, rfl, same_sqt s1 hq, atI_nat (j := 0) rfl, by decide, fun p2 hp2 => ?_⟩
      have s2 := s1.trans (same_up (o := .tup [.str "get", .str "swap"]) hp2)
      refine ⟨p2, _, rfl, .inr (.inl (.inl upd_same)), rfl, rfl, _, rfl, ?_⟩
      rcases key with ⟨e3, e4⟩ | ⟨e3, e4⟩
      · refine ift e3 ⟨_, rfl, a, _, 2, _, rfl, rfl, same_sqt s2 hq, atI_nat (j := 2) e4, q _ s2⟩
      · refine iff_ e3 ?_
        have z := q _ s2
        rw [e4] at z
        exact z
    | _ => cases hc
end
end G341

set_option Elab.async false
set_option linter.all false
set_option maxRecDepth 100000
/-! places_of -/
namespace G341
open PySem PySem.Spec PyProof.Rows L2
variable {K : PySem.W.Frag}
/-! ### a dict comprehension with a filter, all values True -/
def dkF (f : Nat → Option Int) : Nat → List Int
  | 0 => []
  | i + 1 => match f i with
    | none => dkF f i
    | some k => if k ∈ dkF f i then dkF f i else dkF f i ++ [k]
def kvT (l : List Int) : List (Key × V) := l.map fun k => (Sum.inl k, V.bl true)
theorem dk_some {f : Nat → Option Int} {i : Nat} {k : Int} (e : f i = some k) : dkF f (i + 1) = if k ∈ dkF f i then dkF f i else dkF f i ++ [k] := by
  show (match f i with
    | none => dkF f i
    | some k => if k ∈ dkF f i then dkF f i else dkF f i ++ [k]) = _
  rw [e]
theorem dk_none {f : Nat → Option Int} {i : Nat} (e : f i = none) : dkF f (i + 1) = dkF f i := by
  show (match f i with
    | none => dkF f i
    | some k => if k ∈ dkF f i then dkF f i else dkF f i ++ [k]) = _
  rw [e]
theorem dk_len (f : Nat → Option Int) : ∀ n, (dkF f n).length ≤ n
  | 0 => Nat.le_refl 0
  | n + 1 => by
    have h := dk_len f n
    cases e : f n with
    | none => rw [dk_none e]; omega
    | some k =>
      rw [dk_some e]
      by_cases m : k ∈ dkF f n
      · rw [if_pos m]; omega
      · rw [if_neg m, List.length_append, List.length_singleton]; omega
theorem dk_nodup (f : Nat → Option Int) : ∀ n, (dkF f n).Nodup
  | 0 => List.nodup_nil
  | n + 1 => by
    have h := dk_nodup f n
    cases e : f n with
    | none => rw [dk_none e]; exact h
    | some k =>
      rw [dk_some e]
      by_cases m : k ∈ dkF f n
      · rw [if_pos m]; exact h
      · rw [if_neg m]
        refine List.nodup_append.mpr ⟨h, by simp, ?_⟩
        intro a ha b hb
        rw [List.mem_singleton] at hb
        subst hb
        intro e
        subst e
        exact m ha
theorem dk_mem (f : Nat → Option Int) (k : Int) : ∀ n, k ∈ dkF f n ↔ ∃ i, i < n ∧ f i = some k
  | 0 => by
    constructor
    · intro h; cases h
    · rintro ⟨i, h, _⟩; cases h
  | n + 1 => by
    have ih := dk_mem f k n
    have sp : (∃ i, i < n + 1 ∧ f i = some k) ↔ ((∃ i, i < n ∧ f i = some k) ∨ f n = some k) := by
      constructor
      · rintro ⟨i, h, e⟩
        by_cases l : i < n
        · exact .inl ⟨i, l, e⟩
        · have : i = n := by omega
          subst this
          exact .inr e
      · rintro (⟨i, h, e⟩ | e)
        · exact ⟨i, by omega, e⟩
        · exact ⟨n, Nat.lt_succ_self n, e⟩
    rw [sp, ← ih]
    cases e : f n with
    | none => rw [dk_none e]; simp
    | some j =>
      rw [dk_some e]
      by_cases m : j ∈ dkF f n
      · rw [if_pos m]
        constructor
        · exact .inl
        · rintro (h | h)
          · exact h
          · cases h; exact m
      · rw [if_neg m, List.mem_append, List.mem_singleton, Option.some.injEq]
        constructor
        · rintro (h | h)
          · exact .inl h
          · exact .inr h.symm
        · rintro (h | h)
          · exact .inl h
          · exact .inr h.symm
theorem put_kv (l : List Int) (k : Int) : putK (kvT l) (Sum.inl k) (V.bl true) = kvT (if k ∈ l then l else l ++ [k]) := by
  have ha : ((kvT l).any fun kv => decide (kv.1 = (Sum.inl k : Key))) = decide (k ∈ l) := by
    unfold kvT
    rw [List.any_map]
    apply Bool.eq_iff_iff.mpr
    rw [List.any_eq_true, decide_eq_true_iff]
    constructor
    · rintro ⟨x, hx, e⟩
      have e : (Sum.inl x : Key) = Sum.inl k := of_decide_eq_true e
      cases e
      exact hx
    · intro h
      exact ⟨k, h, decide_eq_true rfl⟩
  unfold putK
  rw [ha]
  by_cases m : k ∈ l
  · rw [if_pos (decide_eq_true m), if_pos m]
    unfold kvT
    rw [List.map_map]
    apply List.map_congr_left
    intro x _
    show (if (Sum.inl x : Key) = Sum.inl k then ((Sum.inl x : Key), V.bl true) else ((Sum.inl x : Key), V.bl true)) = _
    rw [ite_self]
  · rw [if_neg (by rw [decide_eq_false m]; exact Bool.false_ne_true), if_neg m]
    unfold kvT
    rw [List.map_append]
    rfl
def OnK (C : V → V → Hp → Prop) (C2 : Hp → Prop) (H3 : Hp) : Option Int → Prop
  | some y => ∀ H4, Same H3 H4 → C (.int y) (.bl true) H4
  | none => ∀ H4, Same H3 H4 → C2 H4
theorem dc_flt {J : It} {σ : L2.St} {H : Hp} {Q : VK} {g : TG} {tt : TT} {tk tv : TE} {vs : List Nat} {n : Nat} {val : Nat → V} (wj : Wk1 J H n val) (hl : n < sizeLine) (f : Nat → Option Int)
    (step : ∀ (i : Nat) (H3 : Hp) (C : V → V → Hp → Prop) (C2 : Hp → Prop), i < n → Same H H3 → OnK C C2 H3 (f i) → g (val i) (wipe σ vs) H3 fun σ2 H2 => wipe σ2 vs = wipe σ vs ∧ tt σ2 H2 fun b H4 => if b = true then tk σ2 H4 fun y H5 => tv σ2 H5 fun z H6 => C y z H6 else C2 H4)
    (fin : ∀ D H', H D = none → Same H H' → H' D = some (.dK (kvT (dkF f n))) → Q (.ref D) H') :
    ∀ D, H D = none → ∃ W : Nat → Nat → Hp → Prop, (∃ m, W 0 m (upd H D (.dK []))) ∧ ∀ i m H, W i m H →
      (J.stop i H ∧ Q (.ref D) H) ∨ (J.go i H ∧ ∃ Nx : Hp → Prop, (∀ H', Nx H' → ∃ m', m' < m ∧ W (i + 1) m' H') ∧ ∀ x H', J.yld i H x H' → g x (wipe σ vs) H' fun σ2 H2 => wipe σ2 vs = wipe σ vs ∧ tt σ2 H2 fun b H3 =>
        if b = true then tk σ2 H3 fun y H4 => tv σ2 H4 fun z H5 => ∃ kvs k, y = kV k ∧ H5 D = some (.dK kvs) ∧ kvs.length < sizeLine ∧ Nx (upd H5 D (.dK (putK kvs k z))) else Nx H3) := by
  intro D hD
  refine ⟨fun i m H' => m = n - i ∧ i ≤ n ∧ Same H H' ∧ H' D = some (.dK (kvT (dkF f i))), ⟨n, rfl, Nat.zero_le _, same_up hD, by rw [upd_same]; rfl⟩, ?_⟩
  rintro i m H3 ⟨em, hi, s3, d3⟩
  by_cases lt : i < n
  · refine .inr ⟨wj.go i H3 s3 lt, fun H' => Same H H' ∧ H' D = some (.dK (kvT (dkF f (i + 1)))), fun H' ⟨s', d'⟩ => ⟨n - (i + 1), by omega, rfl, lt, s', d'⟩, ?_⟩
    intro x H' hy
    obtain ⟨eH, ex⟩ := wj.yld i H3 x H' s3 lt hy
    rw [eH, ex]
    refine step i H3 _ _ lt s3 ?_
    cases ef : f i with
    | none =>
      intro H4 s4
      refine ⟨s3.trans s4, ?_⟩
      rw [s4 _ _ d3, dk_none ef]
    | some y =>
      intro H4 s4
      refine ⟨_, Sum.inl y, rfl, s4 _ _ d3, ?_, fun b o e => ?_, ?_⟩
      · unfold kvT
        rw [List.length_map]
        exact Nat.lt_of_le_of_lt (dk_len f i) (Nat.lt_of_le_of_lt hi hl)
      · rw [upd_ne (ne_of_none e hD)]
        exact s4 _ _ (s3 _ _ e)
      · rw [upd_same, put_kv, dk_some ef]
  · have ei : i = n := by omega
    subst ei
    exact .inl ⟨wj.stop H3 s3, fin D H3 hD s3 d3⟩
theorem dc_fltV {J : It} {wi : TI} {σ : L2.St} {H : Hp} {Q : VK} {g : TG} {tt : TT} {tk tv : TE} {vs : List Nat} {n : Nat} {val : Nat → V} (wj : Wk1 J H n val) (hw : ∀ C : It → Hp → Prop, C J H → wi σ H C) (hl : n < sizeLine) (f : Nat → Option Int)
    (step : ∀ (i : Nat) (H3 : Hp) (C : V → V → Hp → Prop) (C2 : Hp → Prop), i < n → Same H H3 → OnK C C2 H3 (f i) → g (val i) (wipe σ vs) H3 fun σ2 H2 => wipe σ2 vs = wipe σ vs ∧ tt σ2 H2 fun b H4 => if b = true then tk σ2 H4 fun y H5 => tv σ2 H5 fun z H6 => C y z H6 else C2 H4)
    (fin : ∀ D H', H D = none → Same H H' → H' D = some (.dK (kvT (dkF f n))) → Q (.ref D) H') : tDc wi g tt tk tv vs σ H Q := hw _ (dc_flt wj hl f step fin)
theorem lc_fltV {J : It} {wi : TI} {σ : L2.St} {H : Hp} {Q : VK} {g : TG} {tt : TT} {te : TE} {vs : List Nat} {n : Nat} {val : Nat → V} (wj : Wk1 J H n val) (hw : ∀ C : It → Hp → Prop, C J H → wi σ H C) (hl : n < sizeLine) (f : Nat → Option V)
    (step : ∀ (i : Nat) (H3 : Hp) (C : VK) (C2 : Hp → Prop), i < n → Same H H3 → OnF C C2 H3 (f i) → g (val i) (wipe σ vs) H3 fun σ2 H2 => wipe σ2 vs = wipe σ vs ∧ tt σ2 H2 fun b H4 => if b = true then te σ2 H4 C else C2 H4)
    (fin : ∀ D H', H D = none → Same H H' → H' D = some (.lst (fltF f n)) → Q (.ref D) H') : tLc wi g tt te vs σ H Q := hw _ (lc_flt wj hl f step fin)
/-! ### strictly ascending lists -/
theorem asc_eq : ∀ {l m : List Int}, l.Pairwise (· < ·) → m.Pairwise (· < ·) → (∀ x, x ∈ l ↔ x ∈ m) → l = m
  | [], [], _, _, _ => rfl
  | [], b :: m, _, _, h => absurd ((h b).mpr List.mem_cons_self) (by simp)
  | a :: l, [], _, _, h => absurd ((h a).mp List.mem_cons_self) (by simp)
  | a :: l, b :: m, h1, h2, h => by
    rw [List.pairwise_cons] at h1 h2
    have e : a = b := by
      rcases List.mem_cons.mp ((h a).mp List.mem_cons_self) with e | e
      · exact e
      · rcases List.mem_cons.mp ((h b).mpr List.mem_cons_self) with e' | e'
        · exact e'.symm
        · have z1 := h2.1 a e
          have z2 := h1.1 b e'
          omega
    subst e
    rw [asc_eq h1.2 h2.2 fun x => ?_]
    constructor
    · intro hx
      rcases List.mem_cons.mp ((h x).mp (List.mem_cons_of_mem _ hx)) with e | e
      · have := h1.1 x hx; omega
      · exact e
    · intro hx
      rcases List.mem_cons.mp ((h x).mpr (List.mem_cons_of_mem _ hx)) with e | e
      · have := h2.1 x hx; omega
      · exact e
/-! ### all rows of a program, their places -/
def rowsOf (d : PyData) : List PyData := (subs d).flatMap subs
theorem cat_map {F : PyData → V} {ds : List PyData} {n : Nat → Nat} (hn : ∀ i, i < ds.length → n i = (subs (ds.getD i .none)).length) : ∀ m, m ≤ ds.length →
    catF (fun i j => F ((subs (ds.getD i .none)).getD j .none)) n m = ((ds.take m).flatMap subs).map F
  | 0, _ => by simp [catF]
  | m + 1, h => by
    have lt : m < ds.length := by omega
    have ih := cat_map (F := F) hn m (by omega)
    show catF _ n m ++ (List.range (n m)).map (fun j => F ((subs (ds.getD m .none)).getD j .none)) = _
    rw [ih, hn m lt, map_getD F, List.take_add_one, List.getElem?_eq_getElem lt, List.flatMap_append, List.map_append]
    congr 2
    rw [List.getD_eq_getElem?_getD, List.getElem?_eq_getElem lt]
    simp
def plcF (d : PyData) (i : Nat) : Option V := if V.int (i : Nat) ∈ (rowsOf d).map plV then some (.int (i : Nat)) else none
/-- the places of a program, ascending -/
def plcs (d : PyData) : List V := fltF (plcF d) 4
theorem plV_in {d : PyData} {n k : Int} (h : RowC d n) (e : plV d = .int k) : 0 ≤ k ∧ k ≤ 3 := by
  cases h with
  | fence => rw [pl_fence] at e; cases e
  | put p v h => rw [pl_put] at e; cases e; exact h.1
  | give p v h => rw [pl_give] at e; cases e; exact h.1
  | get v p h => rw [pl_get] at e; cases e; exact h.2
  | swap r p v h => rw [pl_swap] at e; cases e; exact h.2.1
  | only r v k h => rw [pl_only] at e; cases e
theorem flt_mem {d : PyData} : ∀ (n : Nat), ∃ zs : List Int, fltF (plcF d) n = zs.map V.int ∧ zs.Pairwise (· < ·) ∧ ∀ x, x ∈ zs ↔ (0 ≤ x ∧ x < (n : Nat) ∧ V.int x ∈ (rowsOf d).map plV)
  | 0 => ⟨[], rfl, List.Pairwise.nil, fun x => by simp; omega⟩
  | n + 1 => by
    obtain ⟨zs, e, p, m⟩ := flt_mem (d := d) n
    by_cases h : V.int ((n : Nat) : Int) ∈ (rowsOf d).map plV
    · refine ⟨zs ++ [(n : Int)], ?_, ?_, ?_⟩
      · show fltF (plcF d) n ++ (plcF d n).toList = _
        unfold plcF
        rw [if_pos h, List.map_append, ← e]
        rfl
      · refine List.pairwise_append.mpr ⟨p, by simp, fun a ha b hb => ?_⟩
        rw [List.mem_singleton] at hb
        have := ((m a).mp ha).2.1
        omega
      · intro x
        rw [List.mem_append, List.mem_singleton, m x]
        constructor
        · rintro (z | rfl)
          · exact ⟨z.1, by omega, z.2.2⟩
          · exact ⟨by omega, by omega, h⟩
        · rintro ⟨z1, z2, z3⟩
          by_cases l : x < (n : Nat)
          · exact .inl ⟨z1, l, z3⟩
          · exact .inr (by omega)
    · refine ⟨zs, ?_, p, ?_⟩
      · show fltF (plcF d) n ++ (plcF d n).toList = _
        rw [e, show plcF d n = none from if_neg h]
        simp
      · intro x
        rw [m x]
        constructor
        · rintro ⟨z1, z2, z3⟩
          exact ⟨z1, by omega, z3⟩
        · rintro ⟨z1, z2, z3⟩
          refine ⟨z1, ?_, z3⟩
          by_cases l : x = (n : Nat)
          · subst l; exact absurd z3 h
          · omega
theorem plcs_eq {d : PyData} {ys ks : List Int} (hr : ∀ r ∈ rowsOf d, ∃ n, RowC r n) (hp : ys.Perm ks) (ha : ys.Pairwise (· ≤ ·)) (hn : ks.Nodup) (hk : ∀ k, k ∈ ks ↔ V.int k ∈ (rowsOf d).map plV) : ys.map V.int = plcs d := by
  obtain ⟨zs, e, p, m⟩ := flt_mem (d := d) 4
  unfold plcs
  rw [e]
  congr 1
  refine asc_eq ?_ p fun x => ?_
  · have hny : ys.Nodup := hp.nodup_iff.mpr hn
    refine (List.Pairwise.and ha hny).imp fun {a b} h => ?_
    have h1 := h.1
    have h2 := h.2
    omega
  · rw [hp.mem_iff, hk x, m x]
    constructor
    · intro h
      obtain ⟨r, hr', er⟩ := List.mem_map.mp h
      obtain ⟨n, hc⟩ := hr r hr'
      have z := plV_in hc er
      exact ⟨z.1, by omega, h⟩
    · exact fun h => h.2.2
end G341

set_option Elab.async false
set_option linter.all false
set_option maxRecDepth 100000
/-! places_of, the walk -/
namespace G341
open PySem PySem.Spec PyProof.Rows L2
def spPlaces (K : PySem.W.Frag) : Sp := fun vs H Q _ => ∃ (v : V) (d : PyData), vs = [v] ∧ Dp K H v d ∧ SeqAt.shaped d = true ∧ progD d = true ∧ ∀ q H', Same H H' → H' q = some (.lst (plcs d)) → Q (.ref q) H'
theorem prog_hands {d : PyData} (h : progD d = true) : ∃ hs, d = .tuple hs ∧ 1 ≤ hs.length ∧ hs.length ≤ 4 ∧ (∀ i, i < hs.length → ∃ rs, hs.getD i .none = .tuple rs ∧ rs.length ≤ 16 ∧ ∀ j, j < rs.length → RowC (rs.getD j .none) ((rs.length : Int) - 1 - (j : Nat))) := by
  cases d with
  | tuple hs =>
    rw [progD_t, Bool.and_eq_true, Bool.and_eq_true, Bool.and_eq_true] at h
    obtain ⟨⟨⟨h1, h2⟩, h3⟩, h4⟩ := h
    refine ⟨hs, rfl, of_decide_eq_true h1, of_decide_eq_true h2, fun i hi => ?_⟩
    have z := List.all_eq_true.mp h3 hs[i] (List.getElem_mem hi)
    have y := List.all_eq_true.mp h4 hs[i] (List.getElem_mem hi)
    rw [List.getD_eq_getElem?_getD, List.getElem?_eq_getElem hi]
    generalize hs[i] = d at z y
    cases d with
    | tuple rs =>
      refine ⟨rs, rfl, of_decide_eq_true z, fun j hj => ?_⟩
      have y : rowsD rs ((rs.length : Int) - 1) = true := y
      rw [rowsD_eq] at y
      exact row_in (List.all_eq_true.mp y j (List.mem_range.mpr hj))
    | _ => cases z
  | _ => cases h
theorem prog_rows {d : PyData} (h : progD d = true) : ∀ r ∈ rowsOf d, ∃ n, RowC r n := by
  intro r hr
  obtain ⟨hs, rfl, _, _, hh⟩ := prog_hands h
  obtain ⟨u, hu, hr⟩ := List.mem_flatMap.mp hr
  obtain ⟨i, hi, e⟩ := List.getElem_of_mem hu
  have hi : i < hs.length := hi
  have e : hs[i] = u := e
  obtain ⟨rs, er, _, hj⟩ := hh i hi
  rw [List.getD_eq_getElem?_getD, List.getElem?_eq_getElem hi] at er
  have er : hs[i] = .tuple rs := er
  rw [← e, er] at hr
  have hr : r ∈ rs := hr
  obtain ⟨j, hj', e2⟩ := List.getElem_of_mem hr
  have z := hj j hj'
  rw [List.getD_eq_getElem?_getD, List.getElem?_eq_getElem hj'] at z
  have z : RowC rs[j] _ := z
  rw [e2] at z
  exact ⟨_, z⟩
theorem keys_len {d : PyData} {ks : List Int} (hr : ∀ r ∈ rowsOf d, ∃ n, RowC r n) (hn : ks.Nodup) (hk : ∀ k, k ∈ ks ↔ V.int k ∈ (rowsOf d).map plV) : ks.length ≤ 4 := by
  obtain ⟨zs, e, p, m⟩ := flt_mem (d := d) 4
  have hz : zs.length ≤ 4 := by
    have z := flt_len (plcF d) 4
    rw [e, List.length_map] at z
    exact z
  have zn : zs.Nodup := p.imp fun {a b} h => by omega
  have pm : ks.Perm zs := (List.perm_ext_iff_of_nodup hn zn).mpr fun x => by
    rw [hk x, m x]
    constructor
    · intro h
      obtain ⟨r, hr', er⟩ := List.mem_map.mp h
      obtain ⟨n, hc⟩ := hr r hr'
      have z := plV_in hc er
      exact ⟨z.1, by omega, h⟩
    · exact fun h => h.2.2
  rw [pm.length_eq]
  exact hz
theorem hands_at {K : PySem.W.Frag} {H : Hp} {vs : List V} {ds : List PyData} (hds : DpAll K H vs ds) (hand : ∀ i, i < ds.length → ∃ rs, ds.getD i .none = .tuple rs) :
    ∃ t : Nat → Addr × List V, ∀ i, i < vs.length → vs[i]? = some (.ref (t i).1) ∧ SqT K H (t i).1 (t i).2 ∧ DpAll K H (t i).2 (subs (ds.getD i .none)) := by
  have ln := dps_len hds
  have ch : ∀ i, ∃ t : Addr × List V, i < vs.length → vs[i]? = some (.ref t.1) ∧ SqT K H t.1 t.2 ∧ DpAll K H t.2 (subs (ds.getD i .none)) := by
    intro i
    by_cases hi : i < vs.length
    · obtain ⟨d, ed, hd⟩ := dps_get hds (List.getElem?_eq_getElem hi)
      obtain ⟨rs, er⟩ := hand i (by omega)
      have eg : ds.getD i .none = d := by
        rw [List.getD_eq_getElem?_getD, ed]
        rfl
      rw [er] at eg
      subst eg
      cases hv : vs[i] with
      | ref b =>
        rw [hv] at hd
        cases hd with
        | tup hqb hrb =>
          refine ⟨(b, _), fun _ => ⟨by rw [List.getElem?_eq_getElem hi, hv], hqb, ?_⟩⟩
          rw [er]
          exact hrb
      | _ => rw [hv] at hd; cases hd
    · exact ⟨(0, []), fun h => absurd h hi⟩
  exact ⟨fun i => Classical.choose (ch i), fun i => Classical.choose_spec (ch i)⟩
section
variable {P : Program} {w : World} {K : PySem.W.Frag} {mg : Str → Option Value} {base : Heap}
theorem sc17 : FnScope ["program", "found", "hand", "row", "place"] ["program"] (defScope (tx 17)) := ⟨rfl, rfl, rfl, by decide +kernel, rfl, by decide +kernel, by decide +kernel⟩
theorem ok_places {f fc fp : Addr} {fd dc dp : FuncData} (F : Df K mg "places_of" (tx 17) ["program"] f fd) (C : Df K mg "check_program" (tx 15) ["program"] fc dc) (L : Df K mg "place_of" (tx 16) ["row"] fp dp)
    (GC : FnOk P w K mg base CX0 5 fc dc ["program"] (spCheck K)) (GL : FnOk P w K mg base CX0 1 fp dp ["row"] (spPlace K)) (B : Bn mg) : FnOk P w K mg base CX0 6 f fd ["program"] (spPlaces K) := by
  refine F.F.ok sc17 (fun vs H Q E h => ?_) (fun cdv A outer s H vs Q E hr h => ?_)
  · obtain ⟨v, d, rfl, _⟩ := h
    rfl
  · obtain ⟨v, d, rfl, hd, sh, hp, q⟩ := h
    refine ⟨_, pss_cons (ps_expr (pe_call GC (hr.mono (by decide)) (by rfl) C.g C.F.kp C.b .nil pass0 (pa_cons (pv 0) pa_nil)))
      (pss_cons (ps_setLc2 (i := 1) (own := [("hand", 2), ("row", 3)]) (vs1 := [3]) (wi1 := iTup K (tVar 2)) (g1 := gName 3) (te := tCall (spPlace K) [] E0 (tCons (tVar 3) tNil)) (g := gName 2) (tt := tYes) (tt1 := tYes) rfl sc17.nd rfl rfl rfl (pi_tup (pv 0)) (blkOk_by (N := ["program", "found", "hand", "row", "place"]) (sc := defScope (tx 17)) (by decide +kernel)) (by decide)
          (fun _ _ _ _ _ => pg_name (i := 2) sc17.nd rfl (Or.inl rfl)) (fun _ _ _ _ _ => pts_nil) (fun _ _ _ _ _ => by exact pi_tup (pv 2)) (fun _ _ _ _ _ => by exact pg_name (i := 3) sc17.nd rfl (.inl rfl)) (fun _ _ _ _ _ => pts_nil)
          (fun _ _ _ _ _ => by exact pe_call GL (hr.mono (by decide)) (by rfl) L.g L.F.kp L.b .nil pass0 (pa_cons (pv 3) pa_nil)))
      (pss_one (ps_ret (pe_callB (call_sortedDI rfl) (by rfl) B.sorted (by decide +kernel) (pa_cons
        (pe_dc (own := [("place", 4)]) (g := gName 4) (tt := tB (tNotN (tVar 4))) (tk := tVar 4) (tv := tC (.bl true)) rfl sc17.nd (pi_list (pv 1)) (blkOk_by (N := ["program", "found", "hand", "row", "place"]) (sc := defScope (tx 17)) (by decide +kernel))
          (fun _ _ _ _ _ => pg_name (i := 4) sc17.nd rfl (Or.inl rfl)) (fun _ _ _ _ _ => by exact pts_one (pt_cmp (pc_notN (pv 4)))) (fun _ _ _ _ _ => by exact pv 4) (fun _ _ _ _ _ => by exact pe_bl)) pa_nil))))), ?_⟩
    refine ⟨_, rfl, _, _, rfl, hd, sh, hp, fun H1 s1 => ?_⟩
    have hrows := prog_rows hp
    obtain ⟨ds, rfl, l1, l2, hand⟩ := prog_hands hp
    cases hd with
    | tup hq hds =>
      rename_i a vs
      have ln := dps_len hds
      obtain ⟨t, ht⟩ := hands_at hds fun i hi => (hand i hi).imp fun _ h => h.1
      have tl : ∀ i, i < vs.length → (t i).2.length = (subs (ds.getD i .none)).length := fun i hi => dps_len (ht i hi).2.2
      have tl16 : ∀ i, i < vs.length → (t i).2.length ≤ 16 := fun i hi => by
        rw [tl i hi]
        obtain ⟨rs, er, lr, _⟩ := hand i (by omega)
        rw [er]
        exact lr
      have hcat := cat_map (F := plV) (ds := ds) (n := fun i => (t i).2.length) (fun i hi => tl i (by omega)) ds.length (Nat.le_refl _)
      rw [List.take_length] at hcat
      have hcl := cat_len (f := fun i j => plV ((subs (ds.getD i .none)).getD j .none)) (n := fun i => (t i).2.length) (c := 16) ds.length fun k hk => tl16 k (by omega)
      rw [hcat] at hcl
      dsimp only [tSeq, tAsg, List.map]
      refine lc2_tupV (K := K) (wlk_tup (K := K)) (by rfl) (same_sqt s1 hq) (fun i => (t i).2) (fun i => (t i).1) (fun i hi => same_sqt s1 (ht i hi).2.1) (fun i j => plV ((subs (ds.getD i .none)).getD j .none)) ?_ (fun _ => by rfl) ?_ ?_ ?_
      · intro i hi j hj
        have z := cat_len (f := fun i j => plV ((subs (ds.getD i .none)).getD j .none)) (n := fun i => (t i).2.length) (c := 16) i fun k hk => tl16 k (by omega)
        have z2 := tl16 i hi
        rw [sizeLine_eq]
        omega
      · intro i x H3 C hx s3 c
        have hi : i < vs.length := (List.getElem?_eq_some_iff.mp hx).1
        have hx2 := (ht i hi).1
        rw [hx] at hx2
        cases hx2
        exact ⟨_, rfl, _, rfl, ⟨_, same_sqt (s1.trans s3) (ht i hi).2.1⟩, c⟩
      · intro i j x z y H5 C hx hy s5 r5 c
        subst r5
        have hi : i < vs.length := (List.getElem?_eq_some_iff.mp hx).1
        obtain ⟨hx2, hqi, hri⟩ := ht i hi
        obtain ⟨d, ed, hd⟩ := dps_get hri hy
        have s15 := s1.trans s5
        obtain ⟨rs, er, _, hj⟩ := hand i (by omega)
        have eg : (subs (ds.getD i .none)).getD j .none = d := by
          rw [List.getD_eq_getElem?_getD, ed]
          rfl
        have ej : j < rs.length := by
          rw [er] at ed
          exact (List.getElem?_eq_some_iff.mp ed).1
        have rc := hj j ej
        rw [er] at eg
        rw [show rs.getD j .none = d from eg] at rc
        refine ⟨by rfl, _, rfl, _, d, _, rfl, dp_same s15 hd, row_to rc, fun H6 s6 => ?_⟩
        have z := c H6 s6
        rw [er, show (subs (.tuple rs)).getD j .none = d from eg] at z
        exact z
      · intro D H2 s2 hD
        rw [ln, hcat] at hD
        have eR : rowsOf (.tuple ds) = ds.flatMap subs := rfl
        have hlen : ((ds.flatMap subs).map plV).length < sizeLine := by rw [sizeLine_eq]; omega
        generalize hF : (fun i => match ((ds.flatMap subs).map plV).getD i .non with
          | .int k => some k
          | _ => none) = fK
        have hfK : ∀ i, fK i = (match ((ds.flatMap subs).map plV).getD i .non with
          | .int k => some k
          | _ => none) := fun i => by rw [← hF]
        have hkm : ∀ k, k ∈ dkF fK ((ds.flatMap subs).map plV).length ↔ V.int k ∈ (rowsOf (.tuple ds)).map plV := by
          intro k
          rw [dk_mem, eR]
          constructor
          · rintro ⟨i, hi, e⟩
            rw [hfK, List.getD_eq_getElem?_getD, List.getElem?_eq_getElem hi] at e
            have hm := List.getElem_mem hi
            revert e hm
            generalize ((ds.flatMap subs).map plV)[i] = y
            intro e hm
            cases y with
            | int z => cases e; exact hm
            | _ => cases e
          · intro h
            obtain ⟨i, hi, e⟩ := List.getElem_of_mem h
            refine ⟨i, hi, ?_⟩
            rw [hfK, List.getD_eq_getElem?_getD, List.getElem?_eq_getElem hi, e]
            rfl
        dsimp only [gName, tRet, tCB, tCons]
        refine dc_fltV (wk_lst (K := K) (.inl (.inl hD))) (fun C c => ⟨_, rfl, D, rfl, ⟨_, .inl (.inl hD)⟩, c⟩) hlen fK ?_ ?_
        · intro i H3 C C2 hi s3 on
          refine ⟨by rfl, ?_⟩
          rw [hfK] at on
          revert on
          generalize hy : ((ds.flatMap subs).map plV).getD i .non = y
          intro on
          have hm : y ∈ (ds.flatMap subs).map plV := by
            rw [List.getD_eq_getElem?_getD, List.getElem?_eq_getElem hi] at hy
            rw [← hy]
            exact List.getElem_mem hi
          obtain ⟨r, hr1, er⟩ := List.mem_map.mp hm
          have hyc : (∃ k, y = .int k) ∨ y = .non := by
            rw [← er]
            unfold plV
            cases plD r with
            | none => exact .inr rfl
            | some k => exact .inl ⟨k, rfl⟩
          rcases hyc with ⟨k, rfl⟩ | rfl
          · exact ⟨_, rfl, _, rfl, ift rfl ⟨_, rfl, on H3 (Same.refl _)⟩⟩
          · exact ⟨_, rfl, _, rfl, iff_ rfl (on H3 (Same.refl _))⟩
        · intro D2 H3 n2 s3 hD3
          have hnd := dk_nodup fK ((ds.flatMap subs).map plV).length
          refine ⟨D2, _, dkF fK ((ds.flatMap subs).map plV).length, rfl, .inl hD3, ?_, Nat.lt_of_le_of_lt (keys_len hrows hnd hkm) (by decide), fun ys p hpm hpw hfr => ?_⟩
          · unfold kvT
            rw [List.map_map]
            rfl
          refine q p _ (((s1.trans s2).trans s3).trans (same_up hfr)) ?_
          rw [upd_same, plcs_eq hrows hpm hpw hnd hkm]
end
end G341

set_option Elab.async false
set_option linter.all false
set_option maxRecDepth 100000
/-! drawn numbers -/
namespace G341
open PySem PySem.Spec PyProof.Rows L2
/-- the list of the draws stands at p: the script's list at A, and how many were drawn -/
def Drw (p A : Addr) (H : Hp) : Prop := ∃ c : Int, H p = some (.lst [.ref A, .int c])
def Scr (K : PySem.W.Frag) (p A : Addr) (H : Hp) : Prop := Drw p A H ∧ ∃ ns : List Int, ns.length ≤ 63 ∧ SqL K (cutH p H) A (ns.map V.int)
/-- all but the draws stays -/
def Wd (p A : Addr) (H H' : Hp) : Prop := Same (cutH p H) (cutH p H') ∧ Drw p A H'
section
variable {K : PySem.W.Frag} {p A : Addr} {H H1 H2 : Hp}
theorem Wd.trans (h : Wd p A H H1) (h' : Wd p A H1 H2) : Wd p A H H2 := ⟨h.1.trans h'.1, h'.2⟩
theorem Scr.go (h : Scr K p A H) (w : Wd p A H H1) : Scr K p A H1 := by
  obtain ⟨_, ns, l, s⟩ := h
  exact ⟨w.2, ns, l, w.1.seq s⟩
theorem Scr.same (h : Scr K p A H) (s : Same H H1) : Wd p A H H1 := by
  obtain ⟨⟨c, e⟩, _⟩ := h
  exact ⟨cut_mono s, c, s _ _ e⟩
theorem Drw.same (h : Drw p A H) (s : Same H H1) : Wd p A H H1 := by
  obtain ⟨c, e⟩ := h
  exact ⟨cut_mono s, c, s _ _ e⟩
theorem Wd.refl (h : Drw p A H) : Wd p A H H := ⟨Same.refl _, h⟩
/-- a new thing is none of the draws -/
theorem Drw.ne {q : Addr} (h : Drw p A H) (n : H q = none) : q ≠ p := by
  obtain ⟨c, e⟩ := h
  intro z
  rw [z, e] at n
  cases n
end
def spNumb (K : PySem.W.Frag) : Sp := fun vs H Q _ => ∃ (a : Addr) (ns : List Int) (i : Int), vs = [.ref a, .int i] ∧ ns.length ≤ 63 ∧ SqL K H a (ns.map V.int) ∧ ∀ n H', Same H H' → Q (.int n) H'
def spTake (K : PySem.W.Frag) : Sp := fun vs H Q _ => ∃ (p A : Addr) (m : Int), vs = [.ref p, .int m] ∧ 0 < m ∧ Scr K p A H ∧ ∀ v H', 0 ≤ v → v < m → Wd p A H H' → Q (.int v) H'
def spPick (K : PySem.W.Frag) : Sp := fun vs H Q _ => ∃ (p A l : Addr) (xs : List V), vs = [.ref p, .ref l] ∧ 0 < xs.length ∧ SqL K (cutH p H) l xs ∧ Scr K p A H ∧ ∀ (i : Nat) x H', xs[i]? = some x → Wd p A H H' → Q x H'
theorem dps_ints {K : PySem.W.Frag} {H : Hp} : ∀ ns : List Int, DpAll K H (ns.map V.int) (ns.map PyData.int)
  | [] => .nil
  | n :: r => .cons (.int n) (dps_ints r)
theorem lay_ints : ∀ ns : List Int, PyData.canLayAll0 (ns.map PyData.int) = true
  | [] => by simp [PyData.canLayAll0]
  | n :: r => by simp [PyData.canLayAll0, PyData.canLay0, lay_ints r]
theorem dep_ints : ∀ ns : List Int, PyData.depthAll (ns.map PyData.int) = 0
  | [] => by simp [PyData.depthAll]
  | n :: r => by simp [PyData.depthAll, PyData.depth, dep_ints r]
theorem shaped_ints (ns : List Int) : SeqAt.shaped (.list (ns.map PyData.int)) = true := by
  unfold SeqAt.shaped PyData.canLay0 PyData.depth
  rw [lay_ints, dep_ints]
  rfl
section
variable {X : Cx}
theorem get_list : PGet X (rIxL X.K) := by
  intro pins s σ H o i ov iv Q I ro ri h
  obtain ⟨p, xs, k, z, rfl, rfl, hq, he, q⟩ := h
  cases ro
  obtain ⟨t, rfl⟩ := ri
  obtain ⟨its, r, pl, hz⟩ := I.list hq
  obtain ⟨j, h1, h2, h3, h4, h5⟩ := atI_get he
  obtain ⟨w, ew, rw'⟩ := r.get h2
  have hl := r.length
  have hn := line63
  have fin : EP X pins σ Q w s := ⟨z, H, I, rw', q⟩
  by_cases h0 : 0 ≤ k
  · have hj : k.toNat = j := by
      rw [seqIndex_of h0 h5] at h1
      exact Option.some.inj h1
    exact wpAny_getItem_list pl.isList h0 (by omega) (by rw [hj]; simpa using ew) fin
  · have hj : (k + (its.toArray.size : Int)).toNat = j := by
      rw [seqIndex_neg (by omega) h4] at h1
      rw [List.size_toArray, ← hl]
      exact Option.some.inj h1
    exact wpAny_getItem_list_neg pl.isList (by omega) (by rw [List.size_toArray] <;> omega) (by omega) (by rw [hj]; simpa using ew) fin
end
section
variable {P : Program} {w : World} {K : PySem.W.Frag} {mg : Str → Option Value} {base : Heap}
theorem sc19 : FnScope ["_law_script", "_law_index", "_law_cell", "_law_blend"] ["_law_script", "_law_index"] (defScope (tx 19)) := ⟨rfl, rfl, rfl, by decide +kernel, rfl, by decide +kernel, by decide +kernel⟩
theorem ok_numb {f : Addr} {fd : FuncData} (F : Df K mg "_law_number" (tx 19) ["_law_script", "_law_index"] f fd) (B : Bn mg) : FnOk P w K mg base CX0 1 f fd ["_law_script", "_law_index"] (spNumb K) := by
  refine F.F.ok sc19 (fun vs H Q E h => ?_) (fun cdv A outer s H vs Q E hr h => ?_)
  · obtain ⟨a, ns, i, rfl, _⟩ := h
    rfl
  · obtain ⟨a, ns, i, rfl, hl, hs, q⟩ := h
    have ru := hr.units
    refine ⟨_, pss_cons (ps_if (pt_cmpR (op_eqD ru) (pv 0) (pe_lst pa_nil) (nomark _)) (pss_one (ps_ret (pe_callTy call_int1 (by rfl) B.int PyProof.Rows.boot_int (pa_cons (pe_op op_mod (pe_op op_add (pe_op op_mul (pv 1) pe_int) pe_int) pe_int) pa_nil)))) pss_nil)
      (pss_cons (ps_set (i := 2) sc19.nd rfl (Or.inl rfl) (pe_ix ix_list (pv 0) (pe_op op_mod (pv 1) (pe_callB call_len_seq (by rfl) B.len PySem.boot_len (pa_cons (pv 0) pa_nil))) (fun _ _ => rfl)))
      (pss_cons (ps_if (pt_cmpR op_ge (pe_callB call_abs (by rfl) B.abs (by decide +kernel) (pa_cons (pv 2) pa_nil)) (pe_op op_pow pe_int pe_int) (nomark _)) (pss_one (ps_set (i := 2) sc19.nd rfl (Or.inl rfl) (pe_op op_mod (pv 2) (pe_op op_pow pe_int pe_int)))) pss_nil)
      (pss_cons (ps_set (i := 3) sc19.nd rfl (Or.inl rfl) (pe_op op_mod (pe_op op_add (pe_op op_mul (pe_op op_add (pv 2) (pe_op op_mul pe_int (pv 1))) pe_int) (pe_op op_mul pe_int (pe_callB call_len_seq (by rfl) B.len PySem.boot_len (pa_cons (pv 0) pa_nil)))) pe_int))
      (pss_one (ps_ret (pe_callTy call_int1 (by rfl) B.int PyProof.Rows.boot_int (pa_cons (pe_op op_mod (pe_op op_add (pe_op op_mul (pe_op op_mod (pe_op op_mul (pv 3) pe_int) pe_int) pe_int) (pv 1)) pe_int) pa_nil))))))), ?_⟩
    refine ⟨_, rfl, Nat.zero_le _, fun p hp => ?_⟩
    have s1 : Same H (upd H p (.lst [])) := same_up hp
    have hs1 : SqL K _ a (ns.map V.int) := s1.seq hs
    have e1 : (upd H p (.lst [])) p = some (.lst []) := upd_same
    generalize upd H p (.lst []) = H1 at s1 hs1 e1
    refine ⟨.list (ns.map .int), .list [], .lst hs1 (dps_ints ns), .lst (.inl (.inl e1)) .nil, shaped_ints ns, shaped_ints [], _, rfl, ?_⟩
    cases ns with
    | nil =>
      refine ift (by simp [PyData.eqv, PyData.eqvAll]) ?_
      exact ⟨_, rfl, _, _, rfl, rfl, .inr ⟨by decide, by decide⟩, _, _, rfl, rfl, _, _, rfl, rfl, (by show (0 : Int) < _; decide), .inl ⟨_, rfl, q _ _ s1⟩⟩
    | cons n0 nr =>
      refine iff_ (by simp [PyData.eqv, PyData.eqvAll]) ?_
      have hpos : (0 : Int) < ((((n0 :: nr).map V.int).length : Nat) : Int) := by
        rw [List.length_map, List.length_cons]
        omega
      obtain ⟨j, hj⟩ : ∃ j : Nat, i % ((((n0 :: nr).map V.int).length : Nat) : Int) = (j : Int) := ⟨_, (Int.toNat_of_nonneg (Int.emod_nonneg _ (by omega))).symm⟩
      have jl : j < (n0 :: nr).length := by
        have z := Int.emod_lt_of_pos i hpos
        rw [hj, List.length_map] at z
        omega
      have hat : atI ((n0 :: nr).map V.int) (i % ((((n0 :: nr).map V.int).length : Nat) : Int)) = some (.int ((n0 :: nr)[j])) := by
        rw [hj]
        refine atI_nat ?_
        rw [List.getElem?_map, List.getElem?_eq_getElem jl]
        rfl
      generalize (n0 :: nr)[j] = c at hat
      refine ⟨_, rfl, _, rfl, _, rfl, a, _, rfl, .inl hs1, _, _, rfl, rfl, hpos, a, _, _, _, rfl, rfl, hs1, hat, ?_⟩
      refine ⟨_, rfl, _, rfl, _, _, rfl, rfl, ⟨by decide, by decide, by decide⟩, _, _, rfl, rfl, _, rfl, ?_⟩
      refine ite2 (fun _ => ?_) (fun _ => ?_)
      · refine ⟨_, rfl, _, _, rfl, rfl, ⟨by decide, by decide, by decide⟩, _, _, rfl, rfl, (by show (0 : Int) < _; decide), ?_⟩
        refine ⟨_, rfl, _, rfl, _, _, rfl, rfl, .inl ⟨by decide, by decide⟩, _, _, rfl, rfl, _, _, rfl, rfl, .inr ⟨by decide, by decide⟩, _, rfl, a, _, rfl, .inl hs1, _, _, rfl, rfl, .inl ⟨by decide, by decide⟩, _, _, rfl, rfl, _, _, rfl, rfl, (by show (0 : Int) < _; decide), ?_⟩
        exact ⟨_, rfl, _, _, rfl, rfl, .inr ⟨by decide, by decide⟩, _, _, rfl, rfl, (by show (0 : Int) < _; decide), _, _, rfl, rfl, .inr ⟨by decide, by decide⟩, _, rfl, _, _, rfl, rfl, _, _, rfl, rfl, (by show (0 : Int) < _; decide), .inl ⟨_, rfl, q _ _ s1⟩⟩
      · refine ⟨_, rfl, _, rfl, _, _, rfl, rfl, .inl ⟨by decide, by decide⟩, _, _, rfl, rfl, _, _, rfl, rfl, .inr ⟨by decide, by decide⟩, _, rfl, a, _, rfl, .inl hs1, _, _, rfl, rfl, .inl ⟨by decide, by decide⟩, _, _, rfl, rfl, _, _, rfl, rfl, (by show (0 : Int) < _; decide), ?_⟩
        exact ⟨_, rfl, _, _, rfl, rfl, .inr ⟨by decide, by decide⟩, _, _, rfl, rfl, (by show (0 : Int) < _; decide), _, _, rfl, rfl, .inr ⟨by decide, by decide⟩, _, rfl, _, _, rfl, rfl, _, _, rfl, rfl, (by show (0 : Int) < _; decide), .inl ⟨_, rfl, q _ _ s1⟩⟩
theorem sc20 : FnScope ["_law_draw", "_law_many"] ["_law_draw", "_law_many"] (defScope (tx 20)) := ⟨rfl, rfl, rfl, by decide +kernel, rfl, by decide +kernel, by decide +kernel⟩
theorem ok_take {f fn : Addr} {fd dn : FuncData} (F : Df K mg "_law_take" (tx 20) ["_law_draw", "_law_many"] f fd) (N : Df K mg "_law_number" (tx 19) ["_law_script", "_law_index"] fn dn) (B : Bn mg) : FnOk P w K mg base CX0 2 f fd ["_law_draw", "_law_many"] (spTake K) := by
  have GN : FnOk P w K mg base CX0 1 fn dn ["_law_script", "_law_index"] (spNumb K) := ok_numb N B
  refine F.F.ok sc20 (fun vs H Q E h => ?_) (fun cdv A outer s H vs Q E hr h => ?_)
  · obtain ⟨p, A, m, rfl, _⟩ := h
    rfl
  · obtain ⟨p, A, m, rfl, hm, hs, q⟩ := h
    refine ⟨_, pss_cons (ps_augS (pv 0) pe_int get_list pe_int ip_add set_list)
      (pss_one (ps_ret (pe_op op_mod (pe_callTy call_int1 (by rfl) B.int PyProof.Rows.boot_int (pa_cons (pe_call GN (hr.mono (by decide)) (by rfl) N.g N.F.kp N.b .nil pass0 (pa_cons (pe_ix ix_list (pv 0) pe_int (fun _ _ => rfl)) (pa_cons (pe_callTy call_int1 (by rfl) B.int PyProof.Rows.boot_int (pa_cons (pe_ix ix_list (pv 0) pe_int (fun _ _ => rfl)) pa_nil)) pa_nil))) pa_nil)) (pv 1)))), ?_⟩
    obtain ⟨⟨c, hc⟩, ns, hl, hsq⟩ := id hs
    refine ⟨_, rfl, p, _, _, _, rfl, rfl, .inl (.inl hc), atI_nat (j := 1) rfl, _, _, rfl, rfl, p, _, _, 1, rfl, rfl, hc, by rfl, ?_⟩
    generalize hH : upd H p (HO.lst ([V.ref A, V.int c].set 1 (V.int ((fun i j => i + j) c 1)))) = H1
    have hc1 : H1 p = some (.lst [.ref A, .int (c + 1)]) := by rw [← hH]; exact upd_same
    have w1 : Wd p A H H1 := ⟨by rw [← hH, cut_up]; exact Same.refl _, c + 1, hc1⟩
    have hs1 : SqL K H1 A (ns.map V.int) := (cut_sub p H1).seq (w1.1.seq hsq)
    refine ⟨_, rfl, p, _, _, _, rfl, rfl, .inl (.inl hc1), atI_nat (j := 0) rfl, _, rfl, p, _, _, _, rfl, rfl, .inl (.inl hc1), atI_nat (j := 1) rfl, .inl ⟨_, rfl, ?_⟩⟩
    refine ⟨A, ns, _, rfl, hl, hs1, fun n H2 s2 => .inl ⟨_, rfl, _, rfl, _, _, rfl, rfl, hm, ?_⟩⟩
    exact q _ _ (Int.emod_nonneg _ (by omega)) (Int.emod_lt_of_pos _ hm) (w1.trans (w1.2.same s2))
theorem sc21 : FnScope ["_law_draw", "_law_items"] ["_law_draw", "_law_items"] (defScope (tx 21)) := ⟨rfl, rfl, rfl, by decide +kernel, rfl, by decide +kernel, by decide +kernel⟩
theorem ok_pick {f fn : Addr} {fd dn : FuncData} (F : Df K mg "_law_pick" (tx 21) ["_law_draw", "_law_items"] f fd) (N : Df K mg "_law_take" (tx 20) ["_law_draw", "_law_many"] fn dn) (GN : FnOk P w K mg base CX0 2 fn dn ["_law_draw", "_law_many"] (spTake K)) (B : Bn mg) : FnOk P w K mg base CX0 3 f fd ["_law_draw", "_law_items"] (spPick K) := by
  refine F.F.ok sc21 (fun vs H Q E h => ?_) (fun cdv A outer s H vs Q E hr h => ?_)
  · obtain ⟨p, A, l, xs, rfl, _⟩ := h
    rfl
  · obtain ⟨p, A, l, xs, rfl, hx, hq, hs, q⟩ := h
    refine ⟨_, pss_one (ps_ret (pe_ix ix_list (pv 1) (pe_call GN (hr.mono (by decide)) (by rfl) N.g N.F.kp N.b .nil pass0 (pa_cons (pv 0) (pa_cons (pe_callB call_len_seq (by rfl) B.len PySem.boot_len (pa_cons (pv 1) pa_nil)) pa_nil))) (fun _ _ => rfl))), ?_⟩
    refine ⟨_, rfl, _, rfl, _, rfl, l, xs, rfl, .inl ((cut_sub p H).seq hq), p, A, _, rfl, by omega, hs, fun v H1 h0 h1 w1 => ?_⟩
    obtain ⟨j, rfl⟩ : ∃ j : Nat, v = (j : Int) := ⟨v.toNat, by omega⟩
    have jl : j < xs.length := by omega
    exact ⟨l, xs, _, xs[j], rfl, rfl, (cut_sub p H1).seq (w1.1.seq hq), atI_nat (List.getElem?_eq_getElem jl), q j _ _ (List.getElem?_eq_getElem jl) w1⟩
end
end G341

set_option Elab.async false
set_option linter.all false
set_option maxRecDepth 100000
/-! drawn rows -/
namespace G341
open PySem PySem.Spec PyProof.Rows L2
section
variable {K : PySem.W.Frag} {p A : Addr} {H H1 H2 : Hp}
theorem cut_new {q : Addr} {o : HO} (n : q ≠ p) : cutH p (upd H q o) q = some o := by
  rw [cut_at n, upd_same]
theorem tup_new {q : Addr} {vs : List V} {ds : List PyData} (w : Drw p A H) (n : H q = none) (h : DpAll K (cutH p H) vs ds) : Dp K (cutH p (upd H q (.tup vs))) (.ref q) (.tuple ds) :=
  .tup (.inl (.inl (cut_new (w.ne n)))) (dps_same (cut_mono (same_up n)) h)
theorem lst_new {q : Addr} {vs : List V} {ds : List PyData} (w : Drw p A H) (n : H q = none) (h : DpAll K (cutH p H) vs ds) : Dp K (cutH p (upd H q (.lst vs))) (.ref q) (.list ds) :=
  .lst (.inl (.inl (cut_new (w.ne n)))) (dps_same (cut_mono (same_up n)) h)
end
def wordsV : List V := [.str "put", .str "get", .str "give", .str "swap", .str "fence", .str "only"]
def spRowL (K : PySem.W.Frag) : Sp := fun vs H Q _ => ∃ (p A wl : Addr) (rest : Int), vs = [.ref p, .int rest, .int 4, .ref wl] ∧ 0 ≤ rest ∧ SqL K (cutH p H) wl wordsV ∧ Scr K p A H ∧
  ∀ v d H', Wd p A H H' → Dp K (cutH p H') v d → RowC d rest → Q v H'
theorem word_in {i : Nat} {x : V} (h : wordsV[i]? = some x) : x = .str "put" ∨ x = .str "get" ∨ x = .str "give" ∨ x = .str "swap" ∨ x = .str "fence" ∨ x = .str "only" := by
  have z := List.mem_of_getElem? h
  unfold wordsV at z
  rw [List.mem_cons, List.mem_cons, List.mem_cons, List.mem_cons, List.mem_cons, List.mem_cons] at z
  rcases z with z | z | z | z | z | z | z
  · exact .inl z
  · exact .inr (.inl z)
  · exact .inr (.inr (.inl z))
  · exact .inr (.inr (.inr (.inl z)))
  · exact .inr (.inr (.inr (.inr (.inl z))))
  · exact .inr (.inr (.inr (.inr (.inr z))))
  · cases z
section
variable {P : Program} {w : World} {K : PySem.W.Frag} {mg : Str → Option Value} {base : Heap}
theorem sc22 : FnScope ["_law_draw", "_law_rest", "_law_places", "_law_words", "_law_word", "_law_place", "_law_register", "_law_value"] ["_law_draw", "_law_rest", "_law_places", "_law_words"] (defScope (tx 22)) := ⟨rfl, rfl, rfl, by decide +kernel, rfl, by decide +kernel, by decide +kernel⟩
theorem ok_rowL {f fp ft : Addr} {fd dp dt : FuncData} (F : Df K mg "_law_row" (tx 22) ["_law_draw", "_law_rest", "_law_places", "_law_words"] f fd) (N : Df K mg "_law_pick" (tx 21) ["_law_draw", "_law_items"] fp dp) (T : Df K mg "_law_take" (tx 20) ["_law_draw", "_law_many"] ft dt)
    (GN : FnOk P w K mg base CX0 3 fp dp ["_law_draw", "_law_items"] (spPick K)) (GT : FnOk P w K mg base CX0 2 ft dt ["_law_draw", "_law_many"] (spTake K)) : FnOk P w K mg base CX0 4 f fd ["_law_draw", "_law_rest", "_law_places", "_law_words"] (spRowL K) := by
  refine F.F.ok sc22 (fun vs H Q E h => ?_) (fun cdv A outer s H vs Q E hr h => ?_)
  · obtain ⟨p, A, wl, rest, rfl, _⟩ := h
    rfl
  · obtain ⟨p, A, wl, rest, rfl, hrest, hq, hs, q⟩ := h
    refine ⟨_, pss_cons (ps_set (i := 4) sc22.nd rfl (Or.inl rfl) (pe_call GN (hr.mono (by decide)) (by rfl) N.g N.F.kp N.b .nil pass0 (pa_cons (pv 0) (pa_cons (pv 3) pa_nil))))
      (pss_cons (ps_par3 (i := 5) (j := 6) (l := 7) rfl sc22.nd rfl rfl rfl (by decide) (by decide) (by decide) rfl rfl rfl
        (pa_cons (pe_call GT (hr.mono (by decide)) (by rfl) T.g T.F.kp T.b .nil pass0 (pa_cons (pv 0) (pa_cons (pv 2) pa_nil))) (pa_cons (pe_call GT (hr.mono (by decide)) (by rfl) T.g T.F.kp T.b .nil pass0 (pa_cons (pv 0) (pa_cons pe_int pa_nil))) (pa_cons (pe_op op_add pe_int (pe_call GT (hr.mono (by decide)) (by rfl) T.g T.F.kp T.b .nil pass0 (pa_cons (pv 0) (pa_cons pe_int pa_nil)))) pa_nil))) rfl)
      (pss_cons (ps_if (pt_cmpR op_eq (pv 4) pe_str (nomark _)) (pss_one (ps_ret (pe_tup (pa_cons pe_str (pa_cons (pv 5) (pa_cons (pv 7) pa_nil)))))) pss_nil)
      (pss_cons (ps_if (pt_cmpR op_eq (pv 4) pe_str (nomark _)) (pss_one (ps_ret (pe_tup (pa_cons pe_str (pa_cons (pv 5) (pa_cons (pv 6) pa_nil)))))) pss_nil)
      (pss_cons (ps_if (pt_cmpR op_eq (pv 4) pe_str (nomark _)) (pss_one (ps_ret (pe_tup (pa_cons pe_str (pa_cons (pv 6) (pa_cons (pv 5) pa_nil)))))) pss_nil)
      (pss_cons (ps_if (pt_cmpR op_eq (pv 4) pe_str (nomark _)) (pss_one (ps_ret (pe_tup (pa_cons pe_str (pa_cons (pv 6) (pa_cons (pv 5) (pa_cons (pv 7) pa_nil))))))) pss_nil)
      (pss_cons (ps_if (PW.pt (pw_and (pt_cmpR op_eq (pv 4) pe_str (nomark _)) (pw_and1 (pt_cmpR op_gt (pv 1) pe_int (nomark _))))) (pss_one (ps_ret (pe_tup (pa_cons pe_str (pa_cons (pv 6) (pa_cons (pe_call GT (hr.mono (by decide)) (by rfl) T.g T.F.kp T.b .nil pass0 (pa_cons (pv 0) (pa_cons pe_int pa_nil))) (pa_cons (pe_op op_add pe_int (pe_call GT (hr.mono (by decide)) (by rfl) T.g T.F.kp T.b .nil pass0 (pa_cons (pv 0) (pa_cons (pv 1) pa_nil)))) pa_nil))))))) pss_nil)
      (pss_one (ps_ret (pe_tup (pa_cons pe_str pa_nil)))))))))), ?_⟩
    refine ⟨_, rfl, _, rfl, p, A, wl, wordsV, rfl, by decide, hq, hs, fun i x H1 hx w1 => ?_⟩
    have s1 := hs.go w1
    refine ⟨_, rfl, _, rfl, p, A, 4, rfl, by decide, s1, fun pl H2 a1 a2 w2 => ?_⟩
    have s2 := s1.go w2
    refine ⟨_, rfl, p, A, 2, rfl, by decide, s2, fun rg H3 b1 b2 w3 => ?_⟩
    have s3 := s2.go w3
    refine ⟨_, rfl, p, A, 2, rfl, by decide, s3, fun vl H4 c1 c2 w4 => ⟨_, _, rfl, rfl, _, _, _, rfl, ?_⟩⟩
    have w5 := ((w1.trans w2).trans w3).trans w4
    have s5 := hs.go w5
    have dw := s5.1
    clear w1 w2 w3 w4 s1 s2 s3
    rcases word_in hx with rfl | rfl | rfl | rfl | rfl | rfl
    · refine ⟨_, rfl, rfl, _, rfl, ift (by decide +kernel) ⟨_, rfl, _, rfl, (by show (3 : Nat) ≤ sizeLine; decide), fun z hz => ?_⟩⟩
      exact q _ _ _ (w5.trans (dw.same (same_up hz))) (tup_new dw hz (.cons (.str _) (.cons (.int _) (.cons (.int _) .nil)))) (.put _ _ ⟨⟨a1, by omega⟩, by omega, by omega⟩)
    · refine ⟨_, rfl, rfl, _, rfl, iff_ (by decide +kernel) ⟨_, rfl, rfl, _, rfl, iff_ (by decide +kernel) ⟨_, rfl, rfl, _, rfl, ift (by decide +kernel) ⟨_, rfl, _, rfl, (by show (3 : Nat) ≤ sizeLine; decide), fun z hz => ?_⟩⟩⟩⟩
      exact q _ _ _ (w5.trans (dw.same (same_up hz))) (tup_new dw hz (.cons (.str _) (.cons (.int _) (.cons (.int _) .nil)))) (.get _ _ ⟨⟨b1, by omega⟩, a1, by omega⟩)
    · refine ⟨_, rfl, rfl, _, rfl, iff_ (by decide +kernel) ⟨_, rfl, rfl, _, rfl, ift (by decide +kernel) ⟨_, rfl, _, rfl, (by show (3 : Nat) ≤ sizeLine; decide), fun z hz => ?_⟩⟩⟩
      exact q _ _ _ (w5.trans (dw.same (same_up hz))) (tup_new dw hz (.cons (.str _) (.cons (.int _) (.cons (.int _) .nil)))) (.give _ _ ⟨⟨a1, by omega⟩, b1, by omega⟩)
    · refine ⟨_, rfl, rfl, _, rfl, iff_ (by decide +kernel) ⟨_, rfl, rfl, _, rfl, iff_ (by decide +kernel) ⟨_, rfl, rfl, _, rfl, iff_ (by decide +kernel) ⟨_, rfl, rfl, _, rfl, ift (by decide +kernel) ⟨_, rfl, _, rfl, _, rfl, (by show (4 : Nat) ≤ sizeLine; decide), fun z hz => ?_⟩⟩⟩⟩⟩
      exact q _ _ _ (w5.trans (dw.same (same_up hz))) (tup_new dw hz (.cons (.str _) (.cons (.int _) (.cons (.int _) (.cons (.int _) .nil))))) (.swap _ _ _ ⟨⟨b1, by omega⟩, ⟨a1, by omega⟩, by omega, by omega⟩)
    · refine ⟨_, rfl, rfl, _, rfl, iff_ (by decide +kernel) ⟨_, rfl, rfl, _, rfl, iff_ (by decide +kernel) ⟨_, rfl, rfl, _, rfl, iff_ (by decide +kernel) ⟨_, rfl, rfl, _, rfl, iff_ (by decide +kernel) ⟨_, rfl, rfl, _, rfl, iff_ (by decide +kernel) ⟨(by show (1 : Nat) ≤ sizeLine; decide), fun z hz => ?_⟩⟩⟩⟩⟩⟩
      exact q _ _ _ (w5.trans (dw.same (same_up hz))) (tup_new dw hz (.cons (.str _) .nil)) .fence
    · refine ⟨_, rfl, rfl, _, rfl, iff_ (by decide +kernel) ⟨_, rfl, rfl, _, rfl, iff_ (by decide +kernel) ⟨_, rfl, rfl, _, rfl, iff_ (by decide +kernel) ⟨_, rfl, rfl, _, rfl, iff_ (by decide +kernel) ?_⟩⟩⟩⟩
      refine ⟨_, rfl, rfl, _, rfl, ift (by decide +kernel) ?_⟩
      refine ⟨_, rfl, _, _, rfl, rfl, _, rfl, ?_⟩
      by_cases r0 : 0 < rest
      · refine ift (decide_eq_true r0) ?_
        refine ⟨_, rfl, _, rfl, p, A, 2, rfl, by decide, s5, fun v2 H6 d1 d2 w6 => ?_⟩
        have s6 := s5.go w6
        refine ⟨_, rfl, _, rfl, p, A, rest, rfl, r0, s6, fun k H7 e1 e2 w7 => ⟨_, _, rfl, rfl, (by show (4 : Nat) ≤ sizeLine; decide), fun z hz => ?_⟩⟩
        have w8 := (w5.trans w6).trans w7
        have dw8 := w8.2
        exact q _ _ _ (w8.trans (dw8.same (same_up hz))) (tup_new dw8 hz (.cons (.str _) (.cons (.int _) (.cons (.int _) (.cons (.int _) .nil))))) (.only _ _ _ ⟨⟨b1, by omega⟩, ⟨d1, by omega⟩, by omega, by omega⟩)
      · refine iff_ (decide_eq_false r0) ?_
        refine ⟨(by show (1 : Nat) ≤ sizeLine; decide), fun z hz => ?_⟩
        exact q _ _ _ (w5.trans (dw.same (same_up hz))) (tup_new dw hz (.cons (.str _) .nil)) .fence
end
end G341

set_option Elab.async false
set_option linter.all false
set_option maxRecDepth 100000
/-! comprehensions that draw; drawn programs -/
namespace G341
open PySem PySem.Spec PyProof.Rows L2
mutual
/-- no list within -/
def noL : PyData → Bool
  | .list _ => false
  | .tuple ds => noLs ds
  | .dict _ => false
  | _ => true
def noLs : List PyData → Bool
  | [] => true
  | d :: r => noL d && noLs r
end
section
variable {K : PySem.W.Frag} {p A : Addr} {H H1 H2 : Hp}
theorem sqt_setl {D a : Addr} {acc acc' xs : List V} (hD : H D = some (.lst acc)) (h : SqT K H a xs) : SqT K (upd H D (.lst acc')) a xs := by
  rcases h with (h | ⟨o, h⟩) | h
  · exact .inl (.inl (by rw [upd_ne (ne_of h hD (by intro q; cases q))]; exact h))
  · exact .inl (.inr ⟨o, by rw [upd_ne (ne_of h hD (by intro q; cases q))]; exact h⟩)
  · exact .inr h
mutual
theorem dp_setl {D : Addr} {acc acc' : List V} (hD : H D = some (.lst acc)) : ∀ {v : V} {d : PyData}, Dp K H v d → noL d = true → Dp K (upd H D (.lst acc')) v d
  | _, _, .non, _ => .non
  | _, _, .bl b, _ => .bl b
  | _, _, .int i, _ => .int i
  | _, _, .str x, _ => .str x
  | _, _, .lst q r, n => by simp [noL] at n
  | _, _, .tup q r, n => .tup (sqt_setl hD q) (dps_setl hD r (by simpa [noL] using n))
theorem dps_setl {D : Addr} {acc acc' : List V} (hD : H D = some (.lst acc)) : ∀ {v : List V} {d : List PyData}, DpAll K H v d → noLs d = true → DpAll K (upd H D (.lst acc')) v d
  | _, _, .nil, _ => .nil
  | _, _, .cons q r, n => by
    simp only [noLs, Bool.and_eq_true] at n
    exact .cons (dp_setl hD q n.1) (dps_setl hD r n.2)
end
theorem cut_upd {D : Addr} {o : HO} (n : D ≠ p) : cutH p (upd H D o) = upd (cutH p H) D o := by
  funext b
  unfold cutH
  by_cases h : b = p
  · subst h
    rw [if_pos rfl, upd_ne (Ne.symm n), if_pos rfl]
  · rw [if_neg h]
    by_cases e : b = D
    · subst e
      rw [upd_same, upd_same]
    · rw [upd_ne e, upd_ne e, if_neg h]
theorem collect {K : PySem.W.Frag} {H : Hp} : ∀ {ys : List V} {T : Nat → PyData → Prop}, (∀ k y, ys[k]? = some y → ∃ d, Dp K H y d ∧ noL d = true ∧ T k d) → ∃ ds, DpAll K H ys ds ∧ noLs ds = true ∧ ∀ k d, ds[k]? = some d → T k d
  | [], T, _ => ⟨[], .nil, by simp [noLs], fun k d e => by simp at e⟩
  | y :: r, T, h => by
    obtain ⟨d, h1, h2, h3⟩ := h 0 y rfl
    obtain ⟨ds, g1, g2, g3⟩ := collect (ys := r) (T := fun k => T (k + 1)) fun k z e => h (k + 1) z (by rw [List.getElem?_cons_succ]; exact e)
    refine ⟨d :: ds, .cons h1 g1, by simp [noLs, h2, g2], fun k e he => ?_⟩
    cases k with
    | zero => rw [List.getElem?_cons_zero] at he; cases he; exact h3
    | succ k => rw [List.getElem?_cons_succ] at he; exact g3 k e he
/-- a walk of n turns whose items are known as long as all but the draws stays -/
structure Wk2 (J : It) (p A : Addr) (H : Hp) (n : Nat) (val : Nat → V) : Prop where
  go : ∀ i H', Wd p A H H' → i < n → J.go i H'
  stop : ∀ H', Wd p A H H' → J.stop n H'
  yld : ∀ i H' x H'', Wd p A H H' → i < n → J.yld i H' x H'' → H'' = H' ∧ x = val i
theorem wk2_tup {a : Addr} {xs : List V} (h : SqT K (cutH p H) a xs) : Wk2 (Itt K a) p A H xs.length (fun i => xs.getD i .non) where
  go := fun i H' s lt => ⟨xs, xs[i], same_sqt (cut_sub p H') (same_sqt s.1 h), List.getElem?_eq_getElem lt⟩
  stop := fun H' s => ⟨xs, same_sqt (cut_sub p H') (same_sqt s.1 h), Nat.le_refl _⟩
  yld := fun i H' x H'' s lt z => ⟨z.1, by
    have e := z.2 xs (same_sqt (cut_sub p H') (same_sqt s.1 h))
    rw [List.getD_eq_getElem?_getD, e]
    rfl⟩
theorem wk2_rng {n : Nat} : Wk2 (Itr 0 n) p A H n (fun i => .int (i : Nat)) where
  go := fun i H' s lt => lt
  stop := fun H' s => Nat.le_refl n
  yld := fun i H' x H'' s lt z => ⟨z.1, by rw [z.2, Int.zero_add]⟩
theorem wd_upd {D : Addr} {o : HO} (w : Wd p A H H1) (hD : H D = none) (h0 : Drw p A H) : Wd p A H (upd H1 D o) := by
  have n : D ≠ p := h0.ne hD
  obtain ⟨s, c, e⟩ := w
  refine ⟨?_, c, by rw [upd_ne (Ne.symm n)]; exact e⟩
  rw [cut_upd n]
  intro b x hb
  have hbD : b ≠ D := by
    intro z
    subst z
    rw [cut_at n, hD] at hb
    cases hb
  rw [upd_ne hbD]
  exact s _ _ hb
/-- items are data without a list, the k-th one as T k says -/
theorem lc_drw {J : It} {wi : TI} {σ : L2.St} {Q : VK} {g : TG} {te : TE} {vs : List Nat} {n : Nat} {val : Nat → V} (wj : Wk2 J p A H n val) (hw : ∀ C : It → Hp → Prop, C J H → wi σ H C) (hl : n < sizeLine) (h0 : Drw p A H) (T : Nat → PyData → Prop)
    (step : ∀ (i : Nat) (H3 : Hp) (C : VK), i < n → Wd p A H H3 → (∀ y d H4, Wd p A H3 H4 → Dp K (cutH p H4) y d → noL d = true → T i d → C y H4) → g (val i) (wipe σ vs) H3 fun σ2 H2 => wipe σ2 vs = wipe σ vs ∧ te σ2 H2 C)
    (fin : ∀ D ys ds H', Wd p A H H' → D ≠ p → H' D = some (.lst ys) → ys.length = n → DpAll K (cutH p H') ys ds → noLs ds = true → (∀ k d, ds[k]? = some d → T k d) → Q (.ref D) H') :
    tLc wi g tYes te vs σ H Q := by
  refine hw _ fun D hD => ?_
  have nD : D ≠ p := h0.ne hD
  refine ⟨fun i m H' => m = n - i ∧ i ≤ n ∧ Wd p A H H' ∧ ∃ acc, H' D = some (.lst acc) ∧ acc.length = i ∧ ∀ k y, acc[k]? = some y → ∃ d, Dp K (cutH p H') y d ∧ noL d = true ∧ T k d,
    ⟨n, rfl, Nat.zero_le _, wd_upd (Wd.refl h0) hD h0, [], upd_same, rfl, fun k y e => by simp at e⟩, ?_⟩
  rintro i m H3 ⟨em, hi, w3, acc, d3, al, ag⟩
  by_cases lt : i < n
  · refine .inr ⟨wj.go i H3 w3 lt, fun H' => Wd p A H H' ∧ ∃ acc, H' D = some (.lst acc) ∧ acc.length = i + 1 ∧ ∀ k y, acc[k]? = some y → ∃ d, Dp K (cutH p H') y d ∧ noL d = true ∧ T k d, fun H' ⟨s', d'⟩ => ⟨n - (i + 1), by omega, rfl, lt, s', d'⟩, ?_⟩
    intro x H' hy
    obtain ⟨eH, ex⟩ := wj.yld i H3 x H' w3 lt hy
    rw [eH, ex]
    refine step i H3 _ lt w3 fun y d H4 w4 hyd hno ht => ?_
    have c3 : cutH p H3 D = some (.lst acc) := by rw [cut_at nD]; exact d3
    have c4 : cutH p H4 D = some (.lst acc) := w4.1 _ _ c3
    have d4 : H4 D = some (.lst acc) := by rw [cut_at nD] at c4; exact c4
    refine ⟨acc, d4, by omega, wd_upd (w3.trans w4) hD h0, acc ++ [y], upd_same, by rw [List.length_append, al]; rfl, fun k z e => ?_⟩
    rw [cut_upd nD]
    by_cases kl : k < acc.length
    · rw [List.getElem?_append_left kl] at e
      obtain ⟨d', q1, q2, q3⟩ := ag k z e
      exact ⟨d', dp_setl c4 (dp_same w4.1 q1) q2, q2, q3⟩
    · rw [List.getElem?_append_right (by omega)] at e
      have : k - acc.length = 0 := by
        by_cases h : k - acc.length = 0
        · exact h
        · obtain ⟨u, hu⟩ : ∃ u, k - acc.length = u + 1 := ⟨k - acc.length - 1, by omega⟩
          rw [hu] at e
          simp at e
      rw [this] at e
      cases e
      have ek : k = i := by omega
      subst ek
      exact ⟨d, dp_setl c4 hyd hno, hno, ht⟩
  · have ei : i = n := by omega
    subst ei
    obtain ⟨ds, q1, q2, q3⟩ := collect ag
    exact .inl ⟨wj.stop H3 w3, fin D acc ds H3 w3 nD d3 al q1 q2 q3⟩
end
/-- a hand as it is drawn -/
def HandC (d : PyData) : Prop := ∃ rs, d = .tuple rs ∧ rs.length ≤ 4 ∧ ∀ (j : Nat) (r : PyData), rs[j]? = some r → RowC r ((rs.length : Int) - 1 - (j : Nat))
def ProgC (d : PyData) : Prop := ∃ hs, d = .tuple hs ∧ noLs hs = true ∧ 1 ≤ hs.length ∧ hs.length ≤ 4 ∧ ∀ (k : Nat) (h : PyData), hs[k]? = some h → HandC h
def SizesC (ms : List Int) : Prop := 1 ≤ ms.length ∧ ms.length ≤ 4 ∧ ∀ m ∈ ms, 0 ≤ m ∧ m ≤ 4
theorem row_noL {d : PyData} {n : Int} (h : RowC d n) : noL d = true := by
  cases h <;> simp [noL, noLs]
def spProgL (K : PySem.W.Frag) : Sp := fun vs H Q _ => ∃ (p A t wl : Addr) (ms : List Int), vs = [.ref p, .ref t, .int 4, .ref wl] ∧ SizesC ms ∧ SqT K (cutH p H) t (ms.map V.int) ∧ SqL K (cutH p H) wl wordsV ∧ Scr K p A H ∧
  ∀ v d H', Wd p A H H' → Dp K (cutH p H') v d → ProgC d → Q v H'
def cs23 : Scope := match defBody (tx 23) with
  | [.Return (some (.Call _ [.ListComp _ _ sc _] _ _)) _] => sc
  | _ => defScope (tx 23)
section
variable {P : Program} {w : World} {K : PySem.W.Frag} {mg : Str → Option Value} {base : Heap}
abbrev N23 : List Str := ["_law_draw", "_law_sizes_here", "_law_places", "_law_words", "_law_many", "_law_at"]
theorem sc23 : FnScope N23 ["_law_draw", "_law_sizes_here", "_law_places", "_law_words"] (defScope (tx 23)) := ⟨rfl, rfl, rfl, by decide +kernel, rfl, by decide +kernel, by decide +kernel⟩
theorem ok_progL {f fr : Addr} {fd dr : FuncData} (F : Df K mg "_law_program" (tx 23) ["_law_draw", "_law_sizes_here", "_law_places", "_law_words"] f fd) (R : Df K mg "_law_row" (tx 22) ["_law_draw", "_law_rest", "_law_places", "_law_words"] fr dr)
    (GR : FnOk P w K mg base CX0 4 fr dr ["_law_draw", "_law_rest", "_law_places", "_law_words"] (spRowL K)) (B : Bn mg) : FnOk P w K mg base CX0 5 f fd ["_law_draw", "_law_sizes_here", "_law_places", "_law_words"] (spProgL K) := by
  refine F.F.ok sc23 (fun vs H Q E h => ?_) (fun cdv A outer s H vs Q E hr h => ?_)
  · obtain ⟨p, A, t, wl, ms, rfl, _⟩ := h
    rfl
  · obtain ⟨p, A, t, wl, ms, rfl, hms, hsz, hw, hs, q⟩ := h
    refine ⟨_, pss_one (ps_ret (pe_callTy call_tuple_of (by rfl) B.tuple PyProof.Rows.boot_tuple (pa_cons
      (pe_lc (own := [("_law_many", 4)]) (g := gName 4) (tt := tYes)
        (te := tCB (fun xs H Q => ∃ p ys, xs = [.ref p] ∧ ((SqL K H p ys ∧ ∀ l, H l = none → Q (.ref l) (upd H l (.tup ys))) ∨ (SqT K H p ys ∧ Q (.ref p) H))) (tCons (tLc (iRng1 (tCons (tVar 4) tNil)) (gName 5) tYes
          (tCall (spRowL K) [] E0 (tCons (tVar 0) (tCons (tOp (rI0 fun i j => .int (i - j)) (tOp (rI0 fun i j => .int (i - j)) (tVar 4) (tC (.int 1))) (tVar 5)) (tCons (tVar 2) (tCons (tVar 3) tNil))))) [5]) tNil))
        rfl sc23.nd (pi_tup (pv 1)) (blkOk_by (N := N23) (sc := defScope (tx 23)) (by decide +kernel)) (fun _ _ _ _ _ => pg_name (i := 4) sc23.nd rfl (Or.inr rfl)) (fun _ _ _ _ _ => pts_nil)
        (fun _ _ _ _ _ => by
          refine pe_callTy call_tuple_of (by rfl) B.tuple PyProof.Rows.boot_tuple (pa_cons ?_ pa_nil)
          refine pe_lc (own := [("_law_at", 5)]) rfl sc23.nd (pi_range1 rfl B.range (pa_cons (pv 4) pa_nil)) (blkOk_by (N := N23) (sc := relS cs23 (defScope (tx 23))) (by decide +kernel)) (fun _ _ _ _ _ => pg_name (i := 5) sc23.nd rfl (Or.inl rfl)) (fun _ _ _ _ _ => pts_nil) ?_
          intro _ _ _ _ _
          exact pe_call GR (hr.mono (by decide)) (by rfl) R.g R.F.kp R.b .nil pass0 (pa_cons (pv 0) (pa_cons (pe_op op_sub (pe_op op_sub (pv 4) pe_int) (pv 5)) (pa_cons (pv 2) (pa_cons (pv 3) pa_nil)))))) pa_nil))), ?_⟩
    obtain ⟨m1, m2, m3⟩ := id hms
    dsimp only [tRet, tCB, tCons, List.map]
    refine lc_drw (K := K) (wk2_tup hsz) (fun C c => ⟨_, rfl, t, rfl, ⟨_, same_sqt (cut_sub p H) hsz⟩, c⟩) (by rw [List.length_map, sizeLine_eq]; omega) hs.1 (fun _ d => HandC d) ?_ ?_
    · intro i H3 C hi w3 c
      rw [List.length_map] at hi
      have ev : (ms.map V.int).getD i .non = .int ms[i] := by
        rw [List.getD_eq_getElem?_getD, List.getElem?_map, List.getElem?_eq_getElem hi]
        rfl
      have hm := m3 ms[i] (List.getElem_mem hi)
      show gName 4 ((ms.map V.int).getD i .non) _ _ _
      rw [ev]
      generalize ms[i] = m at hm
      refine ⟨by rfl, ?_⟩
      dsimp only [tCB, tCons]
      have s3 := hs.go w3
      refine lc_drw (K := K) (wk2_rng (n := m.toNat)) (fun C c => ⟨_, rfl, m, rfl, by omega, by omega, c⟩) (by rw [sizeLine_eq]; omega) w3.2 (fun k d => RowC d (m - 1 - (k : Nat))) ?_ ?_
      · intro j H4 C4 hj w4 c4
        refine ⟨by rfl, _, rfl, _, rfl, m, 1, rfl, rfl, _, rfl, _, _, rfl, rfl, _, rfl, _, rfl, p, A, wl, _, rfl, by omega, (w3.trans w4).1.seq hw, s3.go w4, fun v d H' w' hd hc => ?_⟩
        exact c4 v d H' w' hd (row_noL hc) hc
      · intro D ys ds H' w' nD hD hl hds hno hT
        refine ⟨D, ys, rfl, .inl ⟨.inl (.inl hD), fun l hl' => ?_⟩⟩
        have ld := dps_len hds
        refine c _ _ _ (w'.trans (w'.2.same (same_up hl'))) (tup_new w'.2 hl' hds) (by simpa [noL] using hno) ⟨ds, rfl, by omega, fun j r e => ?_⟩
        have z := hT j r e
        rw [show (m : Int) = ((ds.length : Nat) : Int) by omega] at z
        exact z
    · intro D ys ds H' w' nD hD hl hds hno hT
      refine ⟨D, ys, rfl, .inl ⟨.inl (.inl hD), fun l hl' => ?_⟩⟩
      have ld := dps_len hds
      rw [List.length_map] at hl
      exact q _ _ _ (w'.trans (w'.2.same (same_up hl'))) (tup_new w'.2 hl' hds) ⟨ds, rfl, hno, by omega, by omega, hT⟩
end
end G341

set_option Elab.async false
set_option linter.all false
set_option maxRecDepth 100000
/-! constants as data; sizes; bent programs -/
namespace G341
open PySem PySem.Spec PyProof.Rows L2
section
variable {X : Cx} {K : PySem.W.Frag} {p : Addr}
theorem pe_imp {e : Expr} {te te' : TE} (h : PE X e te) (i : ∀ σ H Q, te' σ H Q → te σ H Q) : PE X e te' := ⟨fun pins s σ H Q I z => h.run pins s σ H Q I (i σ H Q z)⟩
theorem pa_imp {es : List Expr} {te te' : TA} (h : PA X es te) (i : ∀ σ H Q, te' σ H Q → te σ H Q) : PA X es te' := ⟨fun pos pins s σ H Q I z => h.run pos pins s σ H Q I (i σ H Q z)⟩
/-- the value is some new data -/
def tDat (K : PySem.W.Frag) (p : Addr) (d : PyData) : TE := fun _ H Q => (∃ A, Drw p A H) ∧ ∀ v H', Same H H' → Dp K (cutH p H') v d → Q v H'
def tDats (K : PySem.W.Frag) (p : Addr) (ds : List PyData) : TA := fun _ H Q => (∃ A, Drw p A H) ∧ ∀ vs H', Same H H' → DpAll K (cutH p H') vs ds → Q vs H'
theorem pd_str {x j pos} : PE X (.Constant (.str x) j pos) (tDat K p (.str x)) := pe_imp pe_str fun _ H _ h => h.2 _ H (Same.refl _) (.str _)
theorem pd_int {x j pos} : PE X (.Constant (.int x) j pos) (tDat K p (.int x)) := pe_imp pe_int fun _ H _ h => h.2 _ H (Same.refl _) (.int _)
theorem pd_bl {x j pos} : PE X (.Constant (.bool x) j pos) (tDat K p (.bool x)) := pe_imp pe_bl fun _ H _ h => h.2 _ H (Same.refl _) (.bl _)
theorem pd_non {j pos} : PE X (.Constant .none j pos) (tDat K p .none) := pe_imp pe_non fun _ H _ h => h.2 _ H (Same.refl _) .non
theorem pd_neg {x j pos pos2} : PE X (.UnaryOp .USub (.Constant (.int x) j pos) pos2) (tDat K p (.int (-x))) := pe_imp (pe_un un_neg pe_int) fun _ H _ h => ⟨x, rfl, h.2 _ H (Same.refl _) (.int _)⟩
theorem pds_nil : PA X [] (tDats K p []) := pa_imp pa_nil fun _ H _ h => h.2 _ H (Same.refl _) .nil
theorem Drw.up {A : Addr} {H H' : Hp} (h : Drw p A H) (s : Same H H') : Drw p A H' := (h.same s).2
theorem pds_cons {e : Expr} {es : List Expr} {d : PyData} {ds : List PyData} (ha : PE X e (tDat K p d)) (hr : PA X es (tDats K p ds)) (hs : starEach (e :: es) X.env = (false, eval e X.env) :: starEach es X.env) : PA X (e :: es) (tDats K p (d :: ds)) :=
  pa_imp (pa_cons ha hr hs) fun _ H _ h => ⟨h.1, fun v H1 s1 hv => ⟨h.1.imp fun _ z => z.up s1, fun vs H2 s2 hvs => h.2 _ H2 (s1.trans s2) (.cons (dp_same (cut_mono s2) hv) hvs)⟩⟩
theorem pd_tup {es : List Expr} {ds : List PyData} {k pos} (h : PA X es (tDats K p ds)) (l : ds.length ≤ 1000) : PE X (.Tuple es k pos) (tDat K p (.tuple ds)) :=
  pe_imp (pe_tup h) fun _ H Q ⟨⟨A, a⟩, q⟩ => ⟨⟨A, a⟩, fun vs H1 s1 hvs => ⟨by rw [dps_len hvs, sizeLine_eq]; omega, fun z hz => q _ _ (s1.trans (same_up hz)) (tup_new (a.up s1) hz hvs)⟩⟩
theorem pd_lst {es : List Expr} {ds : List PyData} {pos} (h : PA X es (tDats K p ds)) (l : ds.length ≤ 1000) : PE X (.List es pos) (tDat K p (.list ds)) :=
  pe_imp (pe_lst h) fun _ H Q ⟨⟨A, a⟩, q⟩ => ⟨⟨A, a⟩, fun vs H1 s1 hvs => ⟨by rw [dps_len hvs, sizeLine_eq]; omega, fun z hz => q _ _ (s1.trans (same_up hz)) (lst_new (a.up s1) hz hvs)⟩⟩
end
/-! ### sizes -/
def szL : List (List Int) := [[2, 2], [3, 2], [2, 3], [3, 3], [1, 2, 2], [2, 1, 2], [1, 1, 2], [1, 1, 1, 1], [4, 1], [0, 3], [4], [2, 2, 1]]
def szD (ms : List Int) : PyData := .tuple (ms.map .int)
theorem sz_ok : ∀ ms ∈ szL, SizesC ms := by
  have h : (szL.all fun ms => decide (1 ≤ ms.length) && decide (ms.length ≤ 4) && ms.all fun m => decide (0 ≤ m) && decide (m ≤ 4)) = true := by decide
  intro ms hm
  have z := List.all_eq_true.mp h ms hm
  rw [Bool.and_eq_true, Bool.and_eq_true, List.all_eq_true] at z
  refine ⟨of_decide_eq_true z.1.1, of_decide_eq_true z.1.2, fun m hm => ?_⟩
  have y := z.2 m hm
  rw [Bool.and_eq_true] at y
  exact ⟨of_decide_eq_true y.1, of_decide_eq_true y.2⟩
theorem ints_dp {K : PySem.W.Frag} {H : Hp} : ∀ {ns : List Int} {xs : List V}, DpAll K H xs (ns.map PyData.int) → xs = ns.map V.int
  | [], _, .nil => rfl
  | _ :: _, _, .cons (.int _) r => congrArg _ (ints_dp r)
def spSizes (K : PySem.W.Frag) : Sp := fun vs H Q _ => ∃ (p A : Addr), vs = [.ref p] ∧ Scr K p A H ∧ ∀ t ms H', Wd p A H H' → SizesC ms → SqT K (cutH p H') t (ms.map V.int) → Q (.ref t) H'
section
variable {P : Program} {w : World} {K : PySem.W.Frag} {mg : Str → Option Value} {base : Heap}
theorem sc24 : FnScope ["_law_draw"] ["_law_draw"] (defScope (tx 24)) := ⟨rfl, rfl, rfl, by decide +kernel, rfl, by decide +kernel, by decide +kernel⟩
theorem ok_sizes {f fp : Addr} {fd dp : FuncData} (F : Df K mg "_law_sizes" (tx 24) ["_law_draw"] f fd) (N : Df K mg "_law_pick" (tx 21) ["_law_draw", "_law_items"] fp dp) (GN : FnOk P w K mg base CX0 3 fp dp ["_law_draw", "_law_items"] (spPick K)) : FnOk P w K mg base CX0 4 f fd ["_law_draw"] (spSizes K) := by
  refine F.F.ok sc24 (fun vs H Q E h => ?_) (fun cdv A outer s H vs Q E hr h => ?_)
  · obtain ⟨p, A, rfl, _⟩ := h
    rfl
  · obtain ⟨p, A, rfl, hs, q⟩ := h
    refine ⟨_, pss_one (ps_ret (pe_call GN (hr.mono (by decide)) (by rfl) N.g N.F.kp N.b .nil pass0 (pa_cons (pv 0) (pa_cons (pd_lst (K := K) (p := p) (pds_cons (pd_tup (pds_cons pd_int (pds_cons pd_int pds_nil rfl) rfl) (by decide)) (pds_cons (pd_tup (pds_cons pd_int (pds_cons pd_int pds_nil rfl) rfl) (by decide)) (pds_cons (pd_tup (pds_cons pd_int (pds_cons pd_int pds_nil rfl) rfl) (by decide)) (pds_cons (pd_tup (pds_cons pd_int (pds_cons pd_int pds_nil rfl) rfl) (by decide)) (pds_cons (pd_tup (pds_cons pd_int (pds_cons pd_int (pds_cons pd_int pds_nil rfl) rfl) rfl) (by decide)) (pds_cons (pd_tup (pds_cons pd_int (pds_cons pd_int (pds_cons pd_int pds_nil rfl) rfl) rfl) (by decide)) (pds_cons (pd_tup (pds_cons pd_int (pds_cons pd_int (pds_cons pd_int pds_nil rfl) rfl) rfl) (by decide)) (pds_cons (pd_tup (pds_cons pd_int (pds_cons pd_int (pds_cons pd_int (pds_cons pd_int pds_nil rfl) rfl) rfl) rfl) (by decide)) (pds_cons (pd_tup (pds_cons pd_int (pds_cons pd_int pds_nil rfl) rfl) (by decide)) (pds_cons (pd_tup (pds_cons pd_int (pds_cons pd_int pds_nil rfl) rfl) (by decide)) (pds_cons (pd_tup (pds_cons pd_int pds_nil rfl) (by decide)) (pds_cons (pd_tup (pds_cons pd_int (pds_cons pd_int (pds_cons pd_int pds_nil rfl) rfl) rfl) (by decide)) pds_nil rfl) rfl) rfl) rfl) rfl) rfl) rfl) rfl) rfl) rfl) rfl) rfl) (by decide)) pa_nil)))), ?_⟩
    refine ⟨_, rfl, ⟨A, hs.1⟩, fun v H1 s1 hv => ?_⟩
    have w1 := hs.same s1
    cases hv with
    | lst hq hds =>
      rename_i l xs
      refine ⟨p, A, l, xs, rfl, by rw [dps_len hds]; decide, hq, hs.go w1, fun i x H2 hx w2 => ?_⟩
      obtain ⟨d, ed, hd⟩ := dps_get hds hx
      have ed : (szL.map szD)[i]? = some d := ed
      rw [List.getElem?_map] at ed
      cases e : szL[i]? with
      | none => rw [e] at ed; cases ed
      | some ms =>
        rw [e] at ed
        cases ed
        cases hd with
        | tup hq2 hd2 =>
          have z := ints_dp hd2
          subst z
          exact q _ ms _ (w1.trans w2) (sz_ok ms (List.mem_of_getElem? e)) (same_sqt w2.1 hq2)
end
end G341

set_option Elab.async false
set_option linter.all false
set_option maxRecDepth 100000
/-! bent programs -/
namespace G341
open PySem PySem.Spec PyProof.Rows L2
/-! ### shapes -/
def Shp (k : Nat) (d : PyData) : Prop := d.canLay0 = true ∧ d.depth ≤ k
theorem shp_all {k : Nat} : ∀ {ds : List PyData}, (∀ d ∈ ds, Shp k d) → PyData.canLayAll0 ds = true ∧ PyData.depthAll ds ≤ k
  | [], _ => ⟨by simp [PyData.canLayAll0], by simp [PyData.depthAll]⟩
  | d :: r, h => by
    have h1 := h d List.mem_cons_self
    have h2 := shp_all (ds := r) fun e he => h e (List.mem_cons_of_mem _ he)
    refine ⟨?_, ?_⟩
    · unfold PyData.canLayAll0
      rw [h1.1, h2.1]
      rfl
    · unfold PyData.depthAll
      have := h1.2
      have := h2.2
      omega
theorem shp_tup {k : Nat} {ds : List PyData} (h : ∀ d ∈ ds, Shp k d) : Shp (k + 1) (.tuple ds) := by
  have z := shp_all h
  refine ⟨?_, ?_⟩
  · unfold PyData.canLay0
    exact z.1
  · unfold PyData.depth
    have := z.2
    omega
theorem shp_shaped {k : Nat} {d : PyData} (h : Shp k d) (l : k ≤ 64) : SeqAt.shaped d = true := by
  unfold SeqAt.shaped
  rw [h.1, decide_eq_true (Nat.le_trans h.2 l)]
  rfl
def shpB (k : Nat) (d : PyData) : Bool := d.canLay0 && decide (d.depth ≤ k)
theorem shp_of {k : Nat} {d : PyData} (h : shpB k d = true) : Shp k d := by
  unfold shpB at h
  rw [Bool.and_eq_true] at h
  exact ⟨h.1, of_decide_eq_true h.2⟩
theorem shp_str {x : Str} (h : PyData.strOk x = true) {k : Nat} : Shp k (.str x) := ⟨by unfold PyData.canLay0; exact h, by unfold PyData.depth; omega⟩
theorem shp_int {x : Int} {k : Nat} : Shp k (.int x) := ⟨by unfold PyData.canLay0; rfl, by unfold PyData.depth; omega⟩
theorem row_shp {d : PyData} {n : Int} (h : RowC d n) : Shp 1 d := by
  cases h with
  | fence =>
    refine shp_tup (k := 0) fun d hd => ?_
    rw [List.mem_singleton] at hd
    subst hd
    exact shp_str (by decide +kernel)
  | put p v h =>
    refine shp_tup (k := 0) fun d hd => ?_
    rw [List.mem_cons, List.mem_cons, List.mem_singleton] at hd
    rcases hd with rfl | rfl | rfl
    · exact shp_str (by decide +kernel)
    · exact shp_int
    · exact shp_int
  | give p v h =>
    refine shp_tup (k := 0) fun d hd => ?_
    rw [List.mem_cons, List.mem_cons, List.mem_singleton] at hd
    rcases hd with rfl | rfl | rfl
    · exact shp_str (by decide +kernel)
    · exact shp_int
    · exact shp_int
  | get p v h =>
    refine shp_tup (k := 0) fun d hd => ?_
    rw [List.mem_cons, List.mem_cons, List.mem_singleton] at hd
    rcases hd with rfl | rfl | rfl
    · exact shp_str (by decide +kernel)
    · exact shp_int
    · exact shp_int
  | swap r p v h =>
    refine shp_tup (k := 0) fun d hd => ?_
    rw [List.mem_cons, List.mem_cons, List.mem_cons, List.mem_singleton] at hd
    rcases hd with rfl | rfl | rfl | rfl
    · exact shp_str (by decide +kernel)
    · exact shp_int
    · exact shp_int
    · exact shp_int
  | only r p v h =>
    refine shp_tup (k := 0) fun d hd => ?_
    rw [List.mem_cons, List.mem_cons, List.mem_cons, List.mem_singleton] at hd
    rcases hd with rfl | rfl | rfl | rfl
    · exact shp_str (by decide +kernel)
    · exact shp_int
    · exact shp_int
    · exact shp_int
theorem hand_shp {d : PyData} (h : HandC d) : Shp 2 d := by
  obtain ⟨rs, rfl, _, hr⟩ := h
  refine shp_tup fun r hm => ?_
  obtain ⟨j, hj, e⟩ := List.getElem_of_mem hm
  exact row_shp (hr j r (by rw [List.getElem?_eq_getElem hj, e]))
theorem prog_shp {d : PyData} (h : ProgC d) : Shp 3 d := by
  obtain ⟨hs, rfl, _, _, _, hr⟩ := h
  refine shp_tup fun r hm => ?_
  obtain ⟨j, hj, e⟩ := List.getElem_of_mem hm
  exact hand_shp (hr j r (by rw [List.getElem?_eq_getElem hj, e]))
theorem prog_to {d : PyData} (h : ProgC d) : progD d = true := by
  obtain ⟨hs, rfl, _, l1, l2, hr⟩ := h
  rw [progD_t, decide_eq_true l1, decide_eq_true l2, Bool.true_and, Bool.true_and, Bool.and_eq_true, List.all_eq_true, List.all_eq_true]
  refine ⟨fun u hu => ?_, fun u hu => ?_⟩
  · obtain ⟨j, hj, e⟩ := List.getElem_of_mem hu
    obtain ⟨rs, rfl, l, _⟩ := hr j u (by rw [List.getElem?_eq_getElem hj, e])
    exact decide_eq_true (Nat.le_trans l (by decide))
  · obtain ⟨j, hj, e⟩ := List.getElem_of_mem hu
    obtain ⟨rs, rfl, l, hrow⟩ := hr j u (by rw [List.getElem?_eq_getElem hj, e])
    show rowsD rs _ = true
    rw [rowsD_eq, List.all_eq_true]
    intro k hk
    have hk := List.mem_range.mp hk
    refine row_to ?_
    rw [List.getD_eq_getElem?_getD, List.getElem?_eq_getElem hk]
    exact hrow k _ (List.getElem?_eq_getElem hk)
/-! ### rows that are none -/
def bnL1 : List PyData := [.tuple [.str "put", .int 4, .int 1], .tuple [.str "put", .int 0, .int 4], .tuple [.str "put", .int (-1), .int 0], .tuple [.str "put", .int 0, .bool true], .tuple [.str "put", .int 0], .tuple [.str "give", .int 0, .int 3], .tuple [.str "get", .int 3, .int 0], .tuple [.str "get", .int 0, .int 4], .tuple [.str "swap", .int 0, .int 0], .tuple [.str "swap", .int 0, .int 0, .int 4]]
def bnL2 : List PyData := [.tuple [.str "fence", .int 1], .tuple [.str "only", .int 0, .int 1, .int 0], .tuple [.str "only", .int 0, .int 4, .int 1], .tuple [.str "only", .int 0, .int 1, .int 17], .tuple [.str "jump", .int 0], .tuple [], .list [.str "put", .int 0, .int 1], .str "fence", .none, .tuple [.str "put", .none, .int 1], .tuple [.int 1, .int 0, .int 0]]
theorem bn_bad : ∀ d ∈ bnL1 ++ bnL2, ∀ n : Nat, n ≤ 16 → rowD d (n : Int) = false := by
  have h : ((bnL1 ++ bnL2).all fun d => (List.range 17).all fun n => !rowD d (n : Nat)) = true := by decide +kernel
  intro d hd n hn
  have z := List.all_eq_true.mp (List.all_eq_true.mp h d hd) n (List.mem_range.mpr (by omega))
  simpa using z
theorem bn_shp : ∀ d ∈ bnL1 ++ bnL2, Shp 1 d := by
  have h : ((bnL1 ++ bnL2).all (shpB 1)) = true := by decide +kernel
  intro d hd
  exact shp_of (List.all_eq_true.mp h d hd)
/-- a row put in -/
def bentD (hs rs : List PyData) (k a : Nat) (r : PyData) : PyData := .tuple (hs.take k ++ [.tuple (rs.take a ++ [r] ++ rs.drop a)] ++ hs.drop (k + 1))
theorem bent_bad {hs rs : List PyData} {k a : Nat} {r : PyData} (hr : r ∈ bnL1 ++ bnL2) (ha : a ≤ rs.length) (hl : rs.length ≤ 4) : progD (bentD hs rs k a r) = false := by
  have hb : handR (.tuple (rs.take a ++ [r] ++ rs.drop a)) = false := by
    show rowsD _ _ = false
    rw [rowsD_eq]
    apply Bool.eq_false_iff.mpr
    intro z
    have len : (rs.take a ++ [r] ++ rs.drop a).length = rs.length + 1 := by
      rw [List.length_append, List.length_append, List.length_take, List.length_drop, List.length_singleton]
      omega
    have y := List.all_eq_true.mp z a (List.mem_range.mpr (by rw [len]; omega))
    have lt : (rs.take a).length = a := by rw [List.length_take]; omega
    have eg : (rs.take a ++ [r] ++ rs.drop a).getD a .none = r := by
      rw [List.getD_eq_getElem?_getD, List.append_assoc, List.getElem?_append_right (by omega), lt, Nat.sub_self]
      rfl
    rw [eg, len, show ((rs.length + 1 : Nat) : Int) - 1 - (a : Nat) = ((rs.length - a : Nat) : Int) by omega, bn_bad r hr _ (by omega)] at y
    cases y
  unfold bentD
  rw [progD_t]
  have hz : (hs.take k ++ [PyData.tuple (rs.take a ++ [r] ++ rs.drop a)] ++ hs.drop (k + 1)).all handR = false := by
    simp only [List.all_append (xs := hs.take k ++ [PyData.tuple (rs.take a ++ [r] ++ rs.drop a)]), List.all_append (xs := hs.take k), List.all_cons, hb, Bool.false_and, Bool.and_false]
  rw [hz, Bool.and_false]
theorem bent_shp {hs rs : List PyData} {k a : Nat} {r : PyData} (hr : r ∈ bnL1 ++ bnL2) (h1 : ∀ d ∈ hs, Shp 2 d) (h2 : ∀ d ∈ rs, Shp 1 d) : Shp 3 (bentD hs rs k a r) := by
  refine shp_tup fun d hd => ?_
  rw [List.mem_append, List.mem_append, List.mem_singleton] at hd
  rcases hd with (hd | rfl) | hd
  · exact h1 d (List.mem_of_mem_take hd)
  · refine shp_tup fun e he => ?_
    rw [List.mem_append, List.mem_append, List.mem_singleton] at he
    rcases he with (he | rfl) | he
    · exact h2 e (List.mem_of_mem_take he)
    · exact bn_shp _ hr
    · exact h2 e (List.mem_of_mem_drop he)
  · exact h1 d (List.mem_of_mem_drop hd)
end G341

set_option Elab.async false
set_option linter.all false
set_option maxRecDepth 100000
/-! bent programs, the walk -/
namespace G341
open PySem PySem.Spec PyProof.Rows L2
section
variable {K : PySem.W.Frag} {H : Hp} {Q : VK}
theorem catA_dat {x y : V} {ds es : List PyData} (hx : Dp K H x (.tuple ds)) (hy : Dp K H y (.tuple es)) (l : ds.length + es.length ≤ 1000) (q : ∀ v H', Same H H' → Dp K H' v (.tuple (ds ++ es)) → Q v H') : rCatA K x y H Q := by
  cases hx with
  | tup qx rx =>
    cases hy with
    | tup qy ry =>
      rename_i a xs b ys
      have l1 := dps_len rx
      have l2 := dps_len ry
      refine ⟨a, b, xs, ys, rfl, rfl, qx, qy, by rw [sizeLine_eq]; omega, fun e => ?_, fun _ e => ?_, fun _ _ p hp => ?_⟩
      · subst e
        cases rx
        exact q _ H (Same.refl _) (.tup qy ry)
      · subst e
        cases ry
        rw [List.append_nil] at q
        exact q _ H (Same.refl _) (.tup qx rx)
      · exact q _ _ (same_up hp) (.tup (.inl (.inl upd_same)) (dps_same (same_up hp) (dps_app rx ry)))
theorem slT_dat {x : V} {ds : List PyData} {k : Nat} (hx : Dp K H x (.tuple ds)) (hk : k ≤ ds.length) (q : ∀ v H', Same H H' → Dp K H' v (.tuple (ds.take k)) → Q v H') : rSlA K x none (some (k : Int)) H Q := by
  cases hx with
  | tup qx rx =>
    rename_i a xs
    have l1 := dps_len rx
    refine ⟨a, xs, rfl, qx, fun ⟨_, e⟩ => ?_, fun _ p hp => ?_⟩
    · rw [HT.sIx_nat] at e
      have ek : k = ds.length := by omega
      subst ek
      rw [List.take_length] at q
      exact q _ H (Same.refl _) (.tup qx rx)
    · have e : cutV xs none (some (k : Int)) = xs.take k := by
        unfold cutV
        rw [HT.sIx_nat, HT.sIx_none]
        rw [Nat.min_eq_left (by omega)]
        simp
      rw [e]
      exact q _ _ (same_up hp) (.tup (.inl (.inl upd_same)) (dps_same (same_up hp) (dps_take k rx)))
theorem slD_dat {x : V} {ds : List PyData} {k : Nat} (hx : Dp K H x (.tuple ds)) (hk : k ≤ ds.length) (q : ∀ v H', Same H H' → Dp K H' v (.tuple (ds.drop k)) → Q v H') : rSlA K x (some (k : Int)) none H Q := by
  cases hx with
  | tup qx rx =>
    rename_i a xs
    have l1 := dps_len rx
    refine ⟨a, xs, rfl, qx, fun ⟨e, _⟩ => ?_, fun _ p hp => ?_⟩
    · rw [HT.sIx_nat] at e
      have ek : k = 0 ∨ xs.length = 0 := by omega
      have ez : ds.drop k = ds := by
        rcases ek with rfl | ek
        · rfl
        · rw [List.eq_nil_of_length_eq_zero (l := ds) (by omega)]
          simp
      rw [ez] at q
      exact q _ H (Same.refl _) (.tup qx rx)
    · have e : cutV xs (some (k : Int)) none = xs.drop k := by
        unfold cutV
        rw [HT.sIx_nat, HT.sIx_none]
        rw [Nat.min_eq_left (by omega)]
        rw [List.take_of_length_le (by rw [List.length_drop]; omega)]
      rw [e]
      exact q _ _ (same_up hp) (.tup (.inl (.inl upd_same)) (dps_same (same_up hp) (dps_drop k rx)))
theorem slD_datN {σ : L2.St} {x : V} {ds : List PyData} {k : Nat} (hx : Dp K H x (.tuple ds)) (hk : k ≤ ds.length) (q : ∀ v H', Same H H' → Dp K H' v (.tuple (ds.drop k)) → Q v H') : tNoPart σ H fun u H3 => rSlA K x (some (k : Int)) u H3 Q := slD_dat hx hk q
end
def spBent (K : PySem.W.Frag) : Sp := fun vs H Q _ => ∃ (p A : Addr) (v : V) (d : PyData), vs = [.ref p, v] ∧ ProgC d ∧ Dp K (cutH p H) v d ∧ Scr K p A H ∧
  ∀ u e H', Wd p A H H' → Dp K H' u e → progD e = false → SeqAt.shaped e = true → Q u H'
section
variable {P : Program} {w : World} {K : PySem.W.Frag} {mg : Str → Option Value} {base : Heap}
theorem sc25 : FnScope ["_law_draw", "_law_program_here", "_law_bent_here", "_law_row_here", "_law_hand", "_law_rows", "_law_at"] ["_law_draw", "_law_program_here"] (defScope (tx 25)) := ⟨rfl, rfl, rfl, by decide +kernel, rfl, by decide +kernel, by decide +kernel⟩
theorem ok_bent {f fp ft : Addr} {fd dp dt : FuncData} (F : Df K mg "_law_bent" (tx 25) ["_law_draw", "_law_program_here"] f fd) (N : Df K mg "_law_pick" (tx 21) ["_law_draw", "_law_items"] fp dp) (T : Df K mg "_law_take" (tx 20) ["_law_draw", "_law_many"] ft dt)
    (GN : FnOk P w K mg base CX0 3 fp dp ["_law_draw", "_law_items"] (spPick K)) (GT : FnOk P w K mg base CX0 2 ft dt ["_law_draw", "_law_many"] (spTake K)) (B : Bn mg) : FnOk P w K mg base CX0 4 f fd ["_law_draw", "_law_program_here"] (spBent K) := by
  refine F.F.ok sc25 (fun vs H Q E h => ?_) (fun cdv A outer s H vs Q E hr h => ?_)
  · obtain ⟨p, A, v, d, rfl, _⟩ := h
    rfl
  · obtain ⟨p, A, v, d, rfl, hp, hd, hs, q⟩ := h
    refine ⟨_, pss_cons (ps_set (i := 2) sc25.nd rfl (Or.inl rfl) (pe_lst (t := tDats K p bnL1) (pds_cons (pd_tup (pds_cons pd_str (pds_cons pd_int (pds_cons pd_int pds_nil rfl) rfl) rfl) (by decide)) (pds_cons (pd_tup (pds_cons pd_str (pds_cons pd_int (pds_cons pd_int pds_nil rfl) rfl) rfl) (by decide)) (pds_cons (pd_tup (pds_cons pd_str (pds_cons pd_neg (pds_cons pd_int pds_nil rfl) rfl) rfl) (by decide)) (pds_cons (pd_tup (pds_cons pd_str (pds_cons pd_int (pds_cons pd_bl pds_nil rfl) rfl) rfl) (by decide)) (pds_cons (pd_tup (pds_cons pd_str (pds_cons pd_int pds_nil rfl) rfl) (by decide)) (pds_cons (pd_tup (pds_cons pd_str (pds_cons pd_int (pds_cons pd_int pds_nil rfl) rfl) rfl) (by decide)) (pds_cons (pd_tup (pds_cons pd_str (pds_cons pd_int (pds_cons pd_int pds_nil rfl) rfl) rfl) (by decide)) (pds_cons (pd_tup (pds_cons pd_str (pds_cons pd_int (pds_cons pd_int pds_nil rfl) rfl) rfl) (by decide)) (pds_cons (pd_tup (pds_cons pd_str (pds_cons pd_int (pds_cons pd_int pds_nil rfl) rfl) rfl) (by decide)) (pds_cons (pd_tup (pds_cons pd_str (pds_cons pd_int (pds_cons pd_int (pds_cons pd_int pds_nil rfl) rfl) rfl) rfl) (by decide)) pds_nil rfl) rfl) rfl) rfl) rfl) rfl) rfl) rfl) rfl) rfl)))
      (pss_cons (ps_set (i := 2) sc25.nd rfl (Or.inl rfl) (pe_op op_cat (pv 2) (pe_lst (t := tDats K p bnL2) (pds_cons (pd_tup (pds_cons pd_str (pds_cons pd_int pds_nil rfl) rfl) (by decide)) (pds_cons (pd_tup (pds_cons pd_str (pds_cons pd_int (pds_cons pd_int (pds_cons pd_int pds_nil rfl) rfl) rfl) rfl) (by decide)) (pds_cons (pd_tup (pds_cons pd_str (pds_cons pd_int (pds_cons pd_int (pds_cons pd_int pds_nil rfl) rfl) rfl) rfl) (by decide)) (pds_cons (pd_tup (pds_cons pd_str (pds_cons pd_int (pds_cons pd_int (pds_cons pd_int pds_nil rfl) rfl) rfl) rfl) (by decide)) (pds_cons (pd_tup (pds_cons pd_str (pds_cons pd_int pds_nil rfl) rfl) (by decide)) (pds_cons (pd_tup pds_nil (by decide)) (pds_cons (pd_lst (pds_cons pd_str (pds_cons pd_int (pds_cons pd_int pds_nil rfl) rfl) rfl) (by decide)) (pds_cons pd_str (pds_cons pd_non (pds_cons (pd_tup (pds_cons pd_str (pds_cons pd_non (pds_cons pd_int pds_nil rfl) rfl) rfl) (by decide)) (pds_cons (pd_tup (pds_cons pd_int (pds_cons pd_int (pds_cons pd_int pds_nil rfl) rfl) rfl) (by decide)) pds_nil rfl) rfl) rfl) rfl) rfl) rfl) rfl) rfl) rfl) rfl) rfl))))
      (pss_cons (ps_par (i := 3) (j := 4) rfl sc25.nd rfl rfl (by decide) rfl rfl (pa_cons (pe_call GN (hr.mono (by decide)) (by rfl) N.g N.F.kp N.b .nil pass0 (pa_cons (pv 0) (pa_cons (pv 2) pa_nil))) (pa_cons (pe_call GT (hr.mono (by decide)) (by rfl) T.g T.F.kp T.b .nil pass0 (pa_cons (pv 0) (pa_cons (pe_callB call_len_seq (by rfl) B.len PySem.boot_len (pa_cons (pv 1) pa_nil)) pa_nil))) pa_nil)) rfl)
      (pss_cons (ps_set (i := 5) sc25.nd rfl (Or.inl rfl) (pe_ix ix_tup (pv 1) (pv 4) (fun _ _ => rfl)))
      (pss_cons (ps_set (i := 6) sc25.nd rfl (Or.inl rfl) (pe_call GT (hr.mono (by decide)) (by rfl) T.g T.F.kp T.b .nil pass0 (pa_cons (pv 0) (pa_cons (pe_op op_add (pe_callB call_len_seq (by rfl) B.len PySem.boot_len (pa_cons (pv 5) pa_nil)) pe_int) pa_nil))))
      (pss_one (ps_ret (pe_op op_catA (pe_op op_catA (pe_slice sl_tupA (pv 1) po_none (po_some (pv 4))) (pe_tup (pa_cons (pe_op op_catA (pe_op op_catA (pe_slice sl_tupA (pv 5) po_none (po_some (pv 6))) (pe_tup (pa_cons (pv 3) pa_nil))) (pe_slice sl_tupA (pv 5) (po_some (pv 6)) po_none)) pa_nil))) (pe_slice sl_tupA (pv 1) (po_some (pe_op op_add (pv 4) pe_int)) po_none)))))))), ?_⟩
    refine ⟨⟨A, hs.1⟩, fun xs1 H1 s1 hx1 => ⟨by rw [dps_len hx1, sizeLine_eq]; decide, fun l1 hl1 => ?_⟩⟩
    have s2 := s1.trans (same_up (o := .lst xs1) hl1)
    have c2 : (upd H1 l1 (.lst xs1)) l1 = some (.lst xs1) := upd_same
    have hx2 := dps_same (cut_mono (p := p) (same_up (o := .lst xs1) hl1)) hx1
    generalize upd H1 l1 (.lst xs1) = H2 at s2 c2 hx2
    refine ⟨_, rfl, ⟨A, hs.1.up s2⟩, fun xs2 H3 s3 hx3 => ⟨by rw [dps_len hx3, sizeLine_eq]; decide, fun l2 hl2 => ?_⟩⟩
    have s4 := s3.trans (same_up (o := .lst xs2) hl2)
    have c4 : (upd H3 l2 (.lst xs2)) l2 = some (.lst xs2) := upd_same
    have hx4 := dps_same (cut_mono (p := p) (same_up (o := .lst xs2) hl2)) hx3
    generalize upd H3 l2 (.lst xs2) = H4 at s4 c4 hx4
    refine ⟨l1, l2, xs1, xs2, rfl, rfl, s4 _ _ c2, c4, by rw [dps_len hx1, dps_len hx3, sizeLine_eq]; decide, fun l3 hl3 => ?_⟩
    have dw4 : Drw p A H4 := hs.1.up (s2.trans s4)
    have w5 : Wd p A H (upd H4 l3 (.lst (xs1 ++ xs2))) := hs.1.same ((s2.trans s4).trans (same_up hl3))
    have c5 : cutH p (upd H4 l3 (.lst (xs1 ++ xs2))) l3 = some (.lst (xs1 ++ xs2)) := cut_new (dw4.ne hl3)
    have hx5 := dps_same (cut_mono (p := p) (same_up (o := .lst (xs1 ++ xs2)) hl3)) (dps_app (dps_same (cut_mono s4) hx2) hx4)
    have s5 := hs.go w5
    generalize upd H4 l3 (.lst (xs1 ++ xs2)) = H5 at w5 c5 hx5 s5
    have len5 := dps_len hx5
    refine ⟨_, rfl, _, rfl, p, A, l3, xs1 ++ xs2, rfl, by rw [len5]; decide, .inl (.inl c5), s5, fun i x H6 hx w6 => ?_⟩
    obtain ⟨r, er, hr6⟩ := dps_get hx5 hx
    have hr6 := dp_same w6.1 hr6
    have hmem : r ∈ bnL1 ++ bnL2 := List.mem_of_getElem? er
    have w06 := w5.trans w6
    have s6 := s5.go w6
    obtain ⟨ds, rfl, hno, n1, n4, hh⟩ := id hp
    cases hd with
    | tup hqv hdv =>
      rename_i a vs
      have ln := dps_len hdv
      have hq6 : SqT K H6 a vs := same_sqt (cut_sub p H6) (same_sqt w06.1 hqv)
      refine ⟨_, rfl, _, rfl, a, vs, rfl, .inr hq6, p, A, _, rfl, by omega, s6, fun k H7 k0 k1 w7 => ⟨_, _, rfl, ?_⟩⟩
      obtain ⟨k, rfl⟩ : ∃ k' : Nat, k = (k' : Int) := ⟨k.toNat, by omega⟩
      have kl : k < vs.length := by omega
      obtain ⟨hdat, ek, hdk⟩ := dps_get hdv (List.getElem?_eq_getElem kl)
      have w07 := w06.trans w7
      have s7 := s6.go w7
      obtain ⟨rs, rfl, rl, hrow⟩ := hh k _ ek
      have hdk7 := dp_same w07.1 hdk
      have hq7 : SqT K H7 a vs := same_sqt (cut_sub p H7) (same_sqt w07.1 hqv)
      refine ⟨_, rfl, _, rfl, a, vs, _, vs[k], rfl, rfl, hq7, atI_nat (List.getElem?_eq_getElem kl), ?_⟩
      generalize hvk : vs[k] = vk at hdk7
      cases hdk7 with
      | tup hqk hdk7 =>
        rename_i b ys
        have lk := dps_len hdk7
        have hqk7 : SqT K H7 b ys := same_sqt (cut_sub p H7) hqk
        refine ⟨_, rfl, _, rfl, b, ys, rfl, .inr hqk7, _, _, rfl, rfl, p, A, _, rfl, by omega, s7, fun at_ H8 a0 a1 w8 => ?_⟩
        obtain ⟨at_, rfl⟩ : ∃ k' : Nat, at_ = (k' : Int) := ⟨at_.toNat, by omega⟩
        have w08 := w07.trans w8
        have P8 : Dp K H8 (.ref a) (.tuple ds) := dp_same (cut_sub p H8) (dp_same w08.1 (.tup hqv hdv))
        have R8 : Dp K H8 (.ref b) (.tuple rs) := dp_same (cut_sub p H8) (dp_same w8.1 (.tup hqk hdk7))
        have X8 : Dp K H8 x r := dp_same (cut_sub p H8) (dp_same (w7.trans w8).1 hr6)
        refine ⟨_, rfl, _, rfl, _, rfl, slT_dat P8 (by omega) fun v1 H9 s9 d9 => ?_⟩
        refine ⟨_, rfl, _, rfl, _, rfl, slT_dat (dp_same s9 R8) (by omega) fun v2 H10 s10 d10 => ?_⟩
        refine ⟨_, rfl, by show (1 : Nat) ≤ sizeLine; decide, fun z hz => ?_⟩
        have s11 := same_up (o := .tup [x]) hz
        have s8b := (s9.trans s10).trans s11
        refine catA_dat (dp_same s11 d10) (.tup (.inl (.inl upd_same)) (.cons (dp_same s8b X8) .nil)) (by rw [List.length_take, List.length_singleton]; omega) fun v3 H12 s12 d12 => ?_
        have s8c := s8b.trans s12
        refine ⟨_, rfl, _, rfl, _, rfl, slD_datN (dp_same s8c R8) (by omega) fun v4 H13 s13 d13 => ?_⟩
        refine catA_dat (dp_same s13 d12) d13 (by rw [List.length_append, List.length_take, List.length_singleton, List.length_drop]; omega) fun v5 H14 s14 d14 => ?_
        refine ⟨by show (1 : Nat) ≤ sizeLine; decide, fun z2 hz2 => ?_⟩
        have s15 := same_up (o := .tup [v5]) hz2
        have s9b := (((((s10.trans s11).trans s12).trans s13).trans s14).trans s15)
        refine catA_dat (dp_same s9b d9) (.tup (.inl (.inl upd_same)) (.cons (dp_same s15 d14) .nil)) (by rw [List.length_take, List.length_singleton]; omega) fun v6 H16 s16 d16 => ?_
        have s8d := (s9.trans s9b).trans s16
        refine ⟨_, rfl, _, rfl, _, _, rfl, rfl, ((k + 1 : Nat) : Int), by show V.int ((k : Int) + 1) = _; rw [Int.natCast_add]; rfl, slD_datN (dp_same s8d P8) (by omega) fun v7 H17 s17 d17 => ?_⟩
        refine catA_dat (dp_same s17 d16) d17 (by rw [List.length_append, List.length_take, List.length_singleton, List.length_drop]; omega) fun v8 H18 s18 d18 => ?_
        refine q _ (bentD ds rs k at_ r) _ (w08.trans (w08.2.same ((s8d.trans s17).trans s18))) d18 (bent_bad hmem (by omega) rl) (shp_shaped (bent_shp hmem (fun d hd => ?_) fun d hd => ?_) (by decide))
        · obtain ⟨j, hj, e⟩ := List.getElem_of_mem hd
          exact hand_shp (hh j d (by rw [List.getElem?_eq_getElem hj, e]))
        · obtain ⟨j, hj, e⟩ := List.getElem_of_mem hd
          exact row_shp (hrow j d (by rw [List.getElem?_eq_getElem hj, e]))
end
end G341

set_option Elab.async false
set_option linter.all false
set_option maxRecDepth 100000
set_option maxHeartbeats 4000000
/-! t * 1 is t -/
namespace G341
open PySem PySem.Spec PyProof.Rows L2
theorem mul_once (l : Addr) (its : Array Value) (n : Nat) (dd : Option Addr) (sl : Array (Option Value)) (u : Tok) :
    Meets (Builtin.«tuple.__mul__» ⟨[.ref l, .int 1 u], []⟩) (fun _ R s => s.heap.get? l = some { cls := .type "tuple", dict := dd, data := .seq its n, slots := sl } ∧ R (.ok (.ret (.ref l))) s) :=
  .of_wp fun prog w A R s h => by
    obtain ⟨hp, g, d, tk, os⟩ := s
    obtain ⟨hl, h⟩ := h
    have f1 := AutoSeq1.idx_int
    have c1 : (its.isEmpty || (1 : Int) == 1) = true := by simp
    wp_walk using wpAny_loadPart' hl
    exact ⟨_, rfl, h⟩
section
variable {X : Cx}
def rOne (K : PySem.W.Frag) : R2 := fun x y H Q => ∃ l xs, x = .ref l ∧ y = .int 1 ∧ SqT K H l xs ∧ Q (.ref l) H
theorem op_one : OpR X (binaryOp .Mult) (rOne X.K) := by
  intro pins s σ H x y v u Q I rx ry h
  obtain ⟨l, xs, rfl, rfl, hT, q⟩ := h
  cases rx
  obtain ⟨t, rfl⟩ := ry
  obtain ⟨its, r, ⟨⟨cls, dd, data, sl⟩, ho, hc, n, hd⟩, hs⟩ := I.tuple hT
  cases (show cls = _ from hc)
  cases (show data = _ from hd)
  refine wpAny_binaryOp_repeat_ref (T := "tuple") (U := "int") (by decide) ⟨_, ho, rfl⟩ (fun s' => typeIs_int s' 1 t) noFill_tuple_mul F.fills_int_mul F.slot_int_rmul repeat_tuple F.slot_int_index.lookup ?_
  refine call_meets F.slot_int_rmul (typeIs_int s 1 t) F.entry_int_rmul (F.args_int_rmul_2 _ _) (int_rmul_tuple 1 t l its.toArray n dd sl) ⟨ho, rfl, ⟨_, ho, rfl⟩, ?_⟩
  exact call_meets F.slot_tuple_mul ⟨_, ho, rfl⟩ F.entry_tuple_mul (F.args_tuple_mul_2 _ _) (mul_once l its.toArray n dd sl t) ⟨ho, .ref l, H, I, rfl, q⟩
end
end G341

set_option Elab.async false
set_option linter.all false
set_option maxRecDepth 100000
/-! plain parts of the law -/
namespace G341
open PySem PySem.Spec PyProof.Rows L2
theorem cut_none {p : Addr} {H : Hp} (h : H p = none) : cutH p H = H := by
  funext b
  unfold cutH
  by_cases e : b = p
  · rw [if_pos e, e, h]
  · rw [if_neg e]
/-- some new data, whatever list the draws are kept in -/
def tAny (K : PySem.W.Frag) (d : PyData) : TE := fun σ H Q => ∃ p, tDat K p d σ H Q
theorem pd_any {X : Cx} {K : PySem.W.Frag} {e : Expr} {d : PyData} (h : ∀ p, PE X e (tDat K p d)) : PE X e (tAny K d) := ⟨fun pins s σ H Q I ⟨p, z⟩ => (h p).run pins s σ H Q I z⟩
theorem any_dat {K : PySem.W.Frag} {d : PyData} {p A : Addr} {σ : L2.St} {H : Hp} {Q : VK} (a : Drw p A H) (q : ∀ v H', Same H H' → Dp K H' v d → Q v H') : tAny K d σ H Q :=
  ⟨p, ⟨A, a⟩, fun v H' s' hv => q v H' s' (dp_same (cut_sub p H') hv)⟩
theorem eqv_ints : ∀ zs : List Int, PyData.eqvAll (zs.map PyData.int) (zs.map PyData.int) = true
  | [] => by simp [PyData.eqvAll]
  | z :: r => by simp [PyData.eqvAll, PyData.eqv, eqv_ints r]
theorem eqv_lints (zs : List Int) : PyData.eqv (.list (zs.map PyData.int)) (.list (zs.map PyData.int)) = true := by
  unfold PyData.eqv
  exact eqv_ints zs
theorem flat_len : ∀ {l : List PyData}, (∀ d ∈ l, (subs d).length ≤ 4) → (l.flatMap subs).length ≤ l.length * 4
  | [], _ => Nat.le_refl 0
  | d :: r, h => by
    rw [List.flatMap_cons, List.length_append, List.length_cons, Nat.succ_mul]
    have h1 := h d List.mem_cons_self
    have h2 := flat_len (l := r) fun e he => h e (List.mem_cons_of_mem _ he)
    omega
theorem nin_f : inV (.str "fence") [.str "fence", .str "only"] = true := by decide +kernel
theorem nin_o : inV (.str "only") [.str "fence", .str "only"] = true := by decide +kernel
theorem nin_p : inV (.str "put") [.str "fence", .str "only"] = false := by decide +kernel
theorem nin_i : inV (.str "give") [.str "fence", .str "only"] = false := by decide +kernel
theorem nin_g : inV (.str "get") [.str "fence", .str "only"] = false := by decide +kernel
theorem nin_s : inV (.str "swap") [.str "fence", .str "only"] = false := by decide +kernel
/-- what the law reads of a row -/
theorem row_key {K : PySem.W.Frag} {H : Hp} {v : V} {d : PyData} {n : Int} (hc : RowC d n) (hd : Dp K H v d) : ∃ (b : Addr) (x : Str) (vr : List V), v = .ref b ∧ SqT K H b (.str x :: vr) ∧
    ((inV (.str x) [.str "fence", .str "only"] = true ∧ plD d = none) ∨ (inV (.str x) [.str "fence", .str "only"] = false ∧ ∃ k, plD d = some k ∧ ((inV (.str x) [.str "put", .str "give"] = true ∧ vr[0]? = some (.int k)) ∨ (inV (.str x) [.str "put", .str "give"] = false ∧ vr[1]? = some (.int k))))) := by
  cases hd with
  | tup hq hds =>
    rename_i b vs ds
    cases hc with
    | fence =>
      obtain ⟨v0, vr, rfl, h0, hr⟩ := dps_c hds
      cases dp_str h0
      exact ⟨b, _, vr, rfl, hq, .inl ⟨nin_f, pd_fence⟩⟩
    | only r p v h =>
      obtain ⟨v0, vr, rfl, h0, hr⟩ := dps_c hds
      cases dp_str h0
      exact ⟨b, _, vr, rfl, hq, .inl ⟨nin_o, pd_only⟩⟩
    | put p v h =>
      obtain ⟨v0, vr, rfl, h0, hr⟩ := dps_c hds
      obtain ⟨v1, vr1, rfl, h1, hr1⟩ := dps_c hr
      cases dp_str h0
      cases dp_int h1
      exact ⟨b, _, _, rfl, hq, .inr ⟨nin_p, p, pd_put, .inl ⟨in_p1, rfl⟩⟩⟩
    | give p v h =>
      obtain ⟨v0, vr, rfl, h0, hr⟩ := dps_c hds
      obtain ⟨v1, vr1, rfl, h1, hr1⟩ := dps_c hr
      cases dp_str h0
      cases dp_int h1
      exact ⟨b, _, _, rfl, hq, .inr ⟨nin_i, p, pd_give, .inl ⟨in_i1, rfl⟩⟩⟩
    | get v p h =>
      obtain ⟨v0, vr, rfl, h0, hr⟩ := dps_c hds
      obtain ⟨v1, vr1, rfl, h1, hr1⟩ := dps_c hr
      obtain ⟨v2, vr2, rfl, h2, hr2⟩ := dps_c hr1
      cases dp_str h0
      cases dp_int h2
      exact ⟨b, _, _, rfl, hq, .inr ⟨nin_g, p, pd_get, .inr ⟨in_g1, rfl⟩⟩⟩
    | swap r p v h =>
      obtain ⟨v0, vr, rfl, h0, hr⟩ := dps_c hds
      obtain ⟨v1, vr1, rfl, h1, hr1⟩ := dps_c hr
      obtain ⟨v2, vr2, rfl, h2, hr2⟩ := dps_c hr1
      cases dp_str h0
      cases dp_int h2
      exact ⟨b, _, _, rfl, hq, .inr ⟨nin_s, p, pd_swap, .inr ⟨in_s1, rfl⟩⟩⟩
  | _ => cases hc
/-- the law's own list of places -/
def lpF (rows : List PyData) (i : Nat) : Option V := match plD (rows.getD i .none) with
  | some k => some (.int k)
  | none => none
theorem lp_mem {rows : List PyData} {x : V} : ∀ n, n ≤ rows.length → (x ∈ fltF (lpF rows) n ↔ ∃ i k, i < n ∧ plD (rows.getD i .none) = some k ∧ x = .int k)
  | 0, _ => by
    constructor
    · intro h; cases h
    · rintro ⟨i, k, h, _⟩; cases h
  | n + 1, h => by
    have ih := lp_mem (rows := rows) (x := x) n (by omega)
    show x ∈ fltF (lpF rows) n ++ (lpF rows n).toList ↔ _
    rw [List.mem_append, ih]
    unfold lpF
    constructor
    · rintro (⟨i, k, hi, e1, e2⟩ | hm)
      · exact ⟨i, k, by omega, e1, e2⟩
      · cases e : plD (rows.getD n .none) with
        | none => rw [e] at hm; cases hm
        | some k =>
          rw [e] at hm
          exact ⟨n, k, Nat.lt_succ_self n, e, by simpa using hm⟩
    · rintro ⟨i, k, hi, e1, e2⟩
      by_cases hin : i < n
      · exact .inl ⟨i, k, hin, e1, e2⟩
      · have : i = n := by omega
        subst this
        rw [e1, e2]
        exact .inr (by simp)
theorem lp_int {rows : List PyData} (k : Int) : V.int k ∈ fltF (lpF rows) rows.length ↔ V.int k ∈ rows.map plV := by
  rw [lp_mem rows.length (Nat.le_refl _), List.mem_map]
  constructor
  · rintro ⟨i, j, hi, e1, e2⟩
    cases e2
    refine ⟨rows[i], List.getElem_mem hi, ?_⟩
    rw [List.getD_eq_getElem?_getD, List.getElem?_eq_getElem hi] at e1
    unfold plV
    rw [show plD rows[i] = some k from e1]
  · rintro ⟨d, hd, e⟩
    obtain ⟨i, hi, ed⟩ := List.getElem_of_mem hd
    refine ⟨i, k, hi, ?_, rfl⟩
    rw [List.getD_eq_getElem?_getD, List.getElem?_eq_getElem hi, ed]
    unfold plV at e
    show plD d = some k
    cases ep : plD d with
    | none => rw [ep] at e; cases e
    | some j => rw [ep] at e; cases e; rfl
theorem lp_flat {rows : List PyData} : (fltF (lpF rows) rows.length).all flatV = true := by
  rw [List.all_eq_true]
  intro x hx
  obtain ⟨i, k, _, _, rfl⟩ := (lp_mem rows.length (Nat.le_refl _)).mp hx
  rfl
theorem lp_in {rows : List PyData} (k : Int) : inV (.int k) (fltF (lpF rows) rows.length) = decide (V.int k ∈ rows.map plV) := by
  rw [Bool.eq_iff_iff, decide_eq_true_iff, ← lp_int]
  unfold inV
  rw [List.any_eq_true]
  constructor
  · rintro ⟨x, hx, e⟩
    obtain ⟨i, j, _, _, rfl⟩ := (lp_mem rows.length (Nat.le_refl _)).mp hx
    have e : j = k := by simpa [eqV] using e
    rw [← e]
    exact hx
  · intro h
    exact ⟨_, h, by simp [eqV]⟩
end G341

set_option Elab.async false
set_option linter.all false
set_option maxRecDepth 100000
/-! the law's fixed programs -/
namespace G341
open PySem PySem.Spec PyProof.Rows L2
def fRow : PyData := .tuple [.str "fence"]
def fHand : PyData := .tuple [fRow]
def repD (n : Nat) (ds : List PyData) : PyData := .tuple (List.replicate n ds).flatten
def wrongs : List PyData := [.tuple [], .none, .list [fHand], .tuple [.list [fRow]], repD (5 : Int).toNat [fRow], .tuple [.tuple [.str "fence"]], .tuple [repD (17 : Int).toNat [fRow]],
  .tuple [.tuple [.tuple [.str "only", .int 0, .int 0, .int 1]]], .str "fence", .tuple [.tuple [.tuple [.str "only", .int 0, .int 0, .int 2], .tuple [.str "fence"]]]]
theorem wr_bad : ∀ d ∈ wrongs, progD d = false ∧ SeqAt.shaped d = true := by
  have h : (wrongs.all fun d => !progD d && SeqAt.shaped d) = true := by decide +kernel
  intro d hd
  have z := List.all_eq_true.mp h d hd
  rw [Bool.and_eq_true] at z
  exact ⟨by simpa using z.1, z.2⟩
theorem g1 : progD (.tuple [.tuple []]) = true ∧ SeqAt.shaped (.tuple [.tuple []]) = true := by decide +kernel
theorem g2 : progD (repD (4 : Int).toNat [repD (16 : Int).toNat [fRow]]) = true ∧ SeqAt.shaped (repD (4 : Int).toNat [repD (16 : Int).toNat [fRow]]) = true := by decide +kernel
theorem g3 : progD (.tuple [.tuple [.tuple [.str "only", .int 0, .int 0, .int 1], .tuple [.str "fence"]]]) = true ∧ SeqAt.shaped (.tuple [.tuple [.tuple [.str "only", .int 0, .int 0, .int 1], .tuple [.str "fence"]]]) = true := by decide +kernel
theorem g4 : plcs (.tuple [.tuple []]) = [] := by decide +kernel
theorem dps_rep {K : PySem.W.Frag} {H : Hp} {vs : List V} {ds : List PyData} (h : DpAll K H vs ds) : ∀ n, DpAll K H (List.replicate n vs).flatten (List.replicate n ds).flatten
  | 0 => .nil
  | n + 1 => by
    rw [List.replicate_succ, List.replicate_succ, List.flatten_cons, List.flatten_cons]
    exact dps_app h (dps_rep h n)
end G341

set_option Elab.async false
set_option linter.all false
set_option maxRecDepth 100000
/-! the law -/
namespace G341
open PySem PySem.Spec PyProof.Rows L2
def spLaw (K : PySem.W.Frag) : Sp := fun vs H Q _ => ∃ (a : Addr) (ns : List Int), vs = [.ref a] ∧ SqL K H a (ns.map V.int) ∧ ns.length ≤ 63 ∧ ∀ H', Q (.bl true) H'
section
variable {P : Program} {w : World} {K : PySem.W.Frag} {mg : Str → Option Value} {base : Heap}
abbrev N26 : List Str := ["_law_script", "_law_draw", "_law_turn", "_law_program_here", "_law_rows", "_law_hand", "_law_places", "_law_fence", "_law_wrong", "_law_row_here", "_law_place"]
theorem sc26 : FnScope N26 ["_law_script"] (defScope (tx 26)) := ⟨rfl, rfl, rfl, by decide +kernel, rfl, by decide +kernel, by decide +kernel⟩
theorem ok_law {f fp fl fm fz fb : Addr} {fd dp dl dm dz db : FuncData} (F : Df K mg "law" (tx 26) ["_law_script"] f fd) (DP : Df K mg "is_program" (tx 14) ["thing"] fp dp) (DL : Df K mg "places_of" (tx 17) ["program"] fl dl)
    (DM : Df K mg "_law_program" (tx 23) ["_law_draw", "_law_sizes_here", "_law_places", "_law_words"] fm dm) (DZ : Df K mg "_law_sizes" (tx 24) ["_law_draw"] fz dz) (DB : Df K mg "_law_bent" (tx 25) ["_law_draw", "_law_program_here"] fb db)
    (GP : FnOk P w K mg base CX0 4 fp dp ["thing"] (spProg K)) (GL : FnOk P w K mg base CX0 6 fl dl ["program"] (spPlaces K)) (GM : FnOk P w K mg base CX0 5 fm dm ["_law_draw", "_law_sizes_here", "_law_places", "_law_words"] (spProgL K))
    (GZ : FnOk P w K mg base CX0 4 fz dz ["_law_draw"] (spSizes K)) (GB : FnOk P w K mg base CX0 4 fb db ["_law_draw", "_law_program_here"] (spBent K)) (B : Bn mg) : FnOk P w K mg base CX0 7 f fd ["_law_script"] (spLaw K) := by
  refine F.F.ok sc26 (fun vs H Q E h => ?_) (fun cdv A outer s H vs Q E hr h => ?_)
  · obtain ⟨a, ns, rfl, _⟩ := h
    rfl
  · obtain ⟨a, ns, rfl, hS, hlen, q⟩ := h
    have ru := hr.units
    refine ⟨_, (pss_cons (ps_set (i := 1) sc26.nd rfl (Or.inl rfl) (pe_lst (pa_cons (pv 0) (pa_cons pe_int pa_nil))))
      (pss_cons (ps_for PassesOwn.never rfl (pi_range1 rfl B.range (pa_cons pe_int pa_nil)) (pg_name (i := 2) sc26.nd rfl (Or.inl rfl)) (pss_cons (ps_set (i := 3) sc26.nd rfl (Or.inl rfl) (pe_call GM (hr.mono (by decide)) (by rfl) DM.g DM.F.kp DM.b .nil pass0 (pa_cons (pv 1) (pa_cons (pe_call GZ (hr.mono (by decide)) (by rfl) DZ.g DZ.F.kp DZ.b .nil pass0 (pa_cons (pv 1) pa_nil)) (pa_cons pe_int (pa_cons (pe_lst (pa_cons pe_str (pa_cons pe_str (pa_cons pe_str (pa_cons pe_str (pa_cons pe_str (pa_cons pe_str pa_nil))))))) pa_nil))))))
      (pss_cons (ps_set (i := 4) sc26.nd rfl (Or.inl rfl) (pe_lst pa_nil))
      (pss_cons (ps_for PassesOwn.never rfl (pi_tup (pv 3)) (pg_name (i := 5) sc26.nd rfl (Or.inl rfl)) (pss_one (ps_set (i := 4) sc26.nd rfl (Or.inl rfl) (pe_op op_cat (pv 4) (pe_callTy call_list_of (by rfl) B.list PyProof.Rows.boot_list (pa_cons (pv 5) pa_nil))))))
      (pss_cons (ps_set (i := 6) sc26.nd rfl (Or.inr rfl) (pe_lc (own := [("_law_row_here", 9)]) (g := gName 9) (tt := tTest (tOp (rIn K true) (tOp (rIxT K) (tVar 9) (tC (.int 0))) (tTup (tCons (tC (.str "fence")) (tCons (tC (.str "only")) tNil))))) (te := tIf (tTest (tOp (rIn K false) (tOp (rIxT K) (tVar 9) (tC (.int 0))) (tTup (tCons (tC (.str "put")) (tCons (tC (.str "give")) tNil))))) (tOp (rIxT K) (tVar 9) (tC (.int 1))) (tOp (rIxT K) (tVar 9) (tC (.int 2)))) rfl sc26.nd (pi_list (pv 4)) (blkOk_by (N := N26) (sc := defScope (tx 26)) (by decide +kernel)) (fun _ _ _ _ _ => pg_name (i := 9) sc26.nd rfl (Or.inl rfl)) (fun _ _ _ _ _ => by exact pts_one (pt_cmpR op_notIn_seq (pe_ix ix_tup (pv 9) pe_int (fun _ _ => rfl)) (pe_tup (pa_cons pe_str (pa_cons pe_str pa_nil))) rfl))
          (fun _ _ _ _ _ => by exact pe_ifExp (pt_cmpR op_in_seq (pe_ix ix_tup (pv 9) pe_int (fun _ _ => rfl)) (pe_tup (pa_cons pe_str (pa_cons pe_str pa_nil))) rfl) (pe_ix ix_tup (pv 9) pe_int (fun _ _ => rfl)) (pe_ix ix_tup (pv 9) pe_int (fun _ _ => rfl)))))
      (pss_cons (ps_if (PW.pt (pw_or (pt_not (pt_val (pe_call GP (hr.mono (by decide)) (by rfl) DP.g DP.F.kp DP.b .nil pass0 (pa_cons (pv 3) pa_nil)))) (pw_or1 (pt_cmpR (op_neD ru) (pe_call GL (hr.mono (by decide)) (by rfl) DL.g DL.F.kp DL.b .nil pass0 (pa_cons (pv 3) pa_nil)) (pe_lc (own := [("_law_place", 10)]) (g := gName 10) (tt := tTest (tOp (rIn K false) (tVar 10) (tVar 6))) (te := tVar 10) rfl sc26.nd (pi_range1 rfl B.range (pa_cons pe_int pa_nil)) (blkOk_by (N := N26) (sc := defScope (tx 26)) (by decide +kernel)) (fun _ _ _ _ _ => pg_name (i := 10) sc26.nd rfl (Or.inl rfl)) (fun _ _ _ _ _ => by exact pts_one (pt_cmpR op_in_seq (pv 10) (pv 6) rfl)) (fun _ _ _ _ _ => by exact pv 10)) (nomark _))))) (pss_one (ps_ret pe_bl)) pss_nil)
      (pss_one (ps_if (pt_val (pe_call GP (hr.mono (by decide)) (by rfl) DP.g DP.F.kp DP.b .nil pass0 (pa_cons (pe_call GB (hr.mono (by decide)) (by rfl) DB.g DB.F.kp DB.b .nil pass0 (pa_cons (pv 1) (pa_cons (pv 3) pa_nil))) pa_nil))) (pss_one (ps_ret pe_bl)) pss_nil))))))))
      (pss_cons (ps_set (i := 7) sc26.nd rfl (Or.inl rfl) (pd_any (K := K) fun _ => (pd_tup (pds_cons (pd_tup (pds_cons pd_str pds_nil rfl) (by decide)) pds_nil rfl) (by decide))))
      (pss_cons (ps_for PassesOwn.never rfl (pi_tup (pe_tup (pa_cons (pe_tup pa_nil) (pa_cons pe_non (pa_cons (pe_lst (pa_cons (pv 7) pa_nil)) (pa_cons (pe_tup (pa_cons (pe_callTy call_list_of (by rfl) B.list PyProof.Rows.boot_list (pa_cons (pv 7) pa_nil)) pa_nil)) (pa_cons (pe_op op_repT (pv 7) pe_int) (pa_cons (pe_tup (pa_cons (pe_op op_one (pe_tup (pa_cons pe_str pa_nil)) pe_int) pa_nil)) (pa_cons (pe_tup (pa_cons (pe_op op_repT (pv 7) pe_int) pa_nil)) (pa_cons (pd_any (K := K) fun _ => (pd_tup (pds_cons (pd_tup (pds_cons (pd_tup (pds_cons pd_str (pds_cons pd_int (pds_cons pd_int (pds_cons pd_int pds_nil rfl) rfl) rfl) rfl) (by decide)) pds_nil rfl) (by decide)) pds_nil rfl) (by decide))) (pa_cons pe_str (pa_cons (pd_any (K := K) fun _ => (pd_tup (pds_cons (pd_tup (pds_cons (pd_tup (pds_cons pd_str (pds_cons pd_int (pds_cons pd_int (pds_cons pd_int pds_nil rfl) rfl) rfl) rfl) (by decide)) (pds_cons (pd_tup (pds_cons pd_str pds_nil rfl) (by decide)) pds_nil rfl) rfl) (by decide)) pds_nil rfl) (by decide))) pa_nil)))))))))))) (pg_name (i := 8) sc26.nd rfl (Or.inl rfl)) (pss_one (ps_if (pt_val (pe_call GP (hr.mono (by decide)) (by rfl) DP.g DP.F.kp DP.b .nil pass0 (pa_cons (pv 8) pa_nil))) (pss_one (ps_ret pe_bl)) pss_nil)))
      (pss_one (ps_ret (pe_and (pe_call GP (hr.mono (by decide)) (by rfl) DP.g DP.F.kp DP.b .nil pass0 (pa_cons (pd_any (K := K) fun _ => (pd_tup (pds_cons (pd_tup pds_nil (by decide)) pds_nil rfl) (by decide))) pa_nil)) (pe_and (pe_call GP (hr.mono (by decide)) (by rfl) DP.g DP.F.kp DP.b .nil pass0 (pa_cons (pe_op op_repT (pe_tup (pa_cons (pe_op op_repT (pv 7) pe_int) pa_nil)) pe_int) pa_nil)) (pe_and (pe_call GP (hr.mono (by decide)) (by rfl) DP.g DP.F.kp DP.b .nil pass0 (pa_cons (pd_any (K := K) fun _ => (pd_tup (pds_cons (pd_tup (pds_cons (pd_tup (pds_cons pd_str (pds_cons pd_int (pds_cons pd_int (pds_cons pd_int pds_nil rfl) rfl) rfl) rfl) (by decide)) (pds_cons (pd_tup (pds_cons pd_str pds_nil rfl) (by decide)) pds_nil rfl) rfl) (by decide)) pds_nil rfl) (by decide))) pa_nil)) (pe_one (pe_cmpR (op_eqD ru) (pe_call GL (hr.mono (by decide)) (by rfl) DL.g DL.F.kp DL.b .nil pass0 (pa_cons (pd_any (K := K) fun _ => (pd_tup (pds_cons (pd_tup pds_nil (by decide)) pds_nil rfl) (by decide))) pa_nil)) (pe_lst pa_nil) (nomark _)))))))))))), ?_⟩
    refine ⟨_, rfl, by show (2 : Nat) ≤ sizeLine; decide, fun p np => ?_⟩
    have sc0 : Scr K p a (upd H p (.lst [.ref a, .int 0])) := ⟨⟨0, upd_same⟩, ns, hlen, by rw [cut_up, cut_none np]; exact hS⟩
    generalize upd H p (.lst [.ref a, .int 0]) = H0 at sc0
    refine ⟨3, rfl, by decide, by decide, for_range (n := 3) (fun i σ H' => ∃ a2 a3 a4 a5 a6 : Option V, σ = [some (.ref a), some (.ref p), a2, a3, a4, a5, a6, none, none, none, none] ∧ Scr K p a H')
      ⟨none, none, none, none, none, rfl, sc0⟩ ?_ ?_⟩
    · rintro i σ H1 hi ⟨a2, a3, a4, a5, a6, rfl, sc1⟩
      refine ⟨_, rfl, _, rfl, p, a, rfl, sc1, fun t ms H2 w2 hms ht => ?_⟩
      have sc2 := sc1.go w2
      refine ⟨by show (6 : Nat) ≤ sizeLine; decide, fun wl hwl => ?_⟩
      have nwl := sc2.1.ne hwl
      have s2 := same_up (o := .lst wordsV) hwl
      refine ⟨p, a, t, wl, ms, rfl, hms, same_sqt (cut_mono s2) ht, .inl (.inl (cut_new nwl)), sc2.go (sc2.same s2), fun v d H3 w3 hd hp => ?_⟩
      have sc3 := (sc2.go (sc2.same s2)).go w3
      obtain ⟨ds, rfl, hno, n1, n4, hh⟩ := id hp
      have hpd := prog_to hp
      have hsh := shp_shaped (prog_shp hp) (by decide)
      have hd3 := dp_same (cut_sub p H3) hd
      cases hd3 with
      | tup hqv hdv =>
        rename_i pa vs
        have ln := dps_len hdv
        obtain ⟨tt, ht2⟩ := hands_at hdv fun i hi => by
          obtain ⟨rs, e, _⟩ := hh i ds[i] (List.getElem?_eq_getElem hi)
          exact ⟨rs, by rw [List.getD_eq_getElem?_getD, List.getElem?_eq_getElem hi]; exact e⟩
        have sub4 : ∀ d ∈ ds, (subs d).length ≤ 4 := fun d hd => by
          obtain ⟨j, hj, e⟩ := List.getElem_of_mem hd
          obtain ⟨rs, er, l4, _⟩ := hh j d (by rw [List.getElem?_eq_getElem hj, e])
          rw [er]
          exact l4
        -- rows = []
        refine ⟨Nat.zero_le _, fun l0 hl0 => ?_⟩
        -- for hand in program
        refine ⟨_, rfl, pa, rfl, ⟨_, same_sqt (same_up hl0) hqv⟩, for_tup (K := K) (a := pa) (xs := vs) (fun i σ H' => ∃ (b5 : Option V) (l : Addr) (xs : List V), σ = [some (.ref a), some (.ref p), some (.int (0 + (_ : Nat))), some (.ref pa), some (.ref l), b5, a6, none, none, none, none] ∧ Same H3 H' ∧ H' l = some (.lst xs) ∧ DpAll K H' xs ((ds.take i).flatMap subs))
          ⟨_, l0, [], rfl, same_up hl0, upd_same, by rw [List.take_zero]; exact .nil⟩ (fun i σ H' _ ⟨_, _, _, _, s', _⟩ => same_sqt s' hqv) ?_ ?_⟩
        · rintro k x σ H4 hx ⟨b5, l, xs, rfl, s4, hl, hxs⟩
          have hk : k < vs.length := (List.getElem?_eq_some_iff.mp hx).1
          obtain ⟨hx2, hqk, hdk⟩ := ht2 k hk
          rw [hx] at hx2
          cases hx2
          have hqk4 := same_sqt (K := K) s4 hqk
          have lx := dps_len hxs
          have ly := dps_len hdk
          have lf := flat_len (l := ds.take k) fun d hd => sub4 d (List.mem_of_mem_take hd)
          have lk : (subs (ds.getD k .none)).length ≤ 4 := by
            rw [List.getD_eq_getElem?_getD, List.getElem?_eq_getElem (by omega : k < ds.length)]
            exact sub4 _ (List.getElem_mem _)
          rw [List.length_take] at lf
          refine ⟨_, rfl, _, rfl, _, _, rfl, .inr hqk4, fun l2 hl2 => ?_⟩
          have s5 := same_up (o := .lst (tt k).2) hl2
          refine ⟨l, l2, xs, (tt k).2, rfl, rfl, s5 _ _ hl, upd_same, by rw [sizeLine_eq]; omega, fun l3 hl3 => ?_⟩
          have s6 := s5.trans (same_up (o := .lst (xs ++ (tt k).2)) hl3)
          refine ⟨_, l3, _, rfl, s4.trans s6, upd_same, ?_⟩
          have hkd : k < ds.length := by omega
          rw [List.take_add_one, List.getElem?_eq_getElem hkd, List.flatMap_append]
          refine dps_app (dps_same s6 hxs) ?_
          rw [List.getD_eq_getElem?_getD, List.getElem?_eq_getElem hkd] at hdk
          simpa using dps_same (s4.trans s6) hdk
        · rintro σ H4 ⟨b5, l, xs, rfl, s4, hl, hxs⟩
          rw [ln, List.take_length] at hxs
          have hrows := prog_rows hpd
          have lx := dps_len hxs
          have lf := flat_len sub4
          have hR : rowsOf (.tuple ds) = ds.flatMap subs := rfl
          dsimp only [tSeq, tAsg, List.map]
          refine lc_fltV (wk_lst (K := K) (.inl (.inl hl))) (fun C c => ⟨_, rfl, l, rfl, ⟨_, .inl (.inl hl)⟩, c⟩) (by rw [sizeLine_eq]; omega) (lpF (ds.flatMap subs)) ?_ ?_
          · intro k H5 C C2 hk s5 on
            show gName 9 (xs.getD k .non) _ _ _
            rw [List.getD_eq_getElem?_getD, List.getElem?_eq_getElem hk]
            obtain ⟨r, er, hr5⟩ := dps_get hxs (List.getElem?_eq_getElem hk)
            obtain ⟨n, rc⟩ := hrows r (List.mem_of_getElem? er)
            obtain ⟨b, x, vr, ev, hqb, key⟩ := row_key rc (dp_same s5 hr5)
            rw [ev]
            unfold lpF at on
            rw [List.getD_eq_getElem?_getD, er] at on
            refine ⟨by rfl, ?_⟩
            refine ⟨_, rfl, b, _, 0, _, rfl, rfl, hqb, atI_nat (j := 0) rfl, by show (2 : Nat) ≤ sizeLine; decide, fun z hz => ?_⟩
            have s6 := same_up (o := .tup [.str "fence", .str "only"]) hz
            refine ⟨z, _, rfl, .inr (.inl (.inl upd_same)), rfl, rfl, _, rfl, ?_⟩
            rcases key with ⟨e1, e2⟩ | ⟨e1, j, e2, key⟩
            · refine iff_ (by rw [if_pos rfl, e1]; rfl) ?_
              rw [show plD ((some r).getD .none) = none from e2] at on
              exact on _ s6
            · refine ift (by rw [if_pos rfl, e1]; rfl) ?_
              rw [show plD ((some r).getD .none) = some j from e2] at on
              have hqb6 := same_sqt (K := K) s6 hqb
              refine ⟨_, rfl, b, _, 0, _, rfl, rfl, hqb6, atI_nat (j := 0) rfl, by show (2 : Nat) ≤ sizeLine; decide, fun z2 hz2 => ?_⟩
              have s7 := s6.trans (same_up (o := .tup [.str "put", .str "give"]) hz2)
              have hqb7 := same_sqt (K := K) s7 hqb
              refine ⟨z2, _, rfl, .inr (.inl (.inl upd_same)), rfl, rfl, _, rfl, ?_⟩
              rcases key with ⟨e3, e4⟩ | ⟨e3, e4⟩
              · exact ift e3 ⟨_, rfl, b, _, 1, _, rfl, rfl, hqb7, atI_nat (j := 1) e4, on _ s7⟩
              · exact iff_ e3 ⟨_, rfl, b, _, 2, _, rfl, rfl, hqb7, atI_nat (j := 2) e4, on _ s7⟩
          · intro D H5 nD s5 hD
            rw [lx] at hD
            have P5 : Dp K H5 (.ref pa) (.tuple ds) := dp_same (s4.trans s5) (.tup hqv hdv)
            refine ⟨_, rfl, _, _, rfl, P5, hsh, fun H6 s6 => ⟨_, rfl, iff_ (by rw [hpd]; rfl) ?_⟩⟩
            refine ⟨_, rfl, _, _, rfl, dp_same s6 P5, hsh, hpd, fun qa H7 s7 hqa => ?_⟩
            have hD7 := s7 _ _ (s6 _ _ hD)
            refine lc_fltV (wk_rng (n := 4)) (fun C c => ⟨4, rfl, by decide, by decide, c⟩) (by decide) (plcF (.tuple ds)) ?_ ?_
            · intro k H8 C C2 hk s8 on
              refine ⟨by rfl, _, rfl, _, rfl, D, _, rfl, .inl (.inl (.inl (s8 _ _ hD7))), rfl, lp_flat, _, rfl, ?_⟩
              unfold plcF at on
              by_cases hm : V.int ((k : Nat) : Int) ∈ (rowsOf (.tuple ds)).map plV
              · rw [if_pos hm] at on
                exact ift (by rw [if_neg (by decide), lp_in]; exact decide_eq_true hm) ⟨_, rfl, on _ (Same.refl _)⟩
              · rw [if_neg hm] at on
                exact iff_ (by rw [if_neg (by decide), lp_in]; exact decide_eq_false hm) (on _ (Same.refl _))
            · intro D2 H8 nD2 s8 hD2
              obtain ⟨zs, ez, _, _⟩ := flt_mem (d := .tuple ds) 4
              have hqa8 : H8 qa = some (.lst (zs.map V.int)) := by rw [← ez]; exact s8 _ _ hqa
              rw [ez] at hD2
              refine ⟨.list (zs.map .int), .list (zs.map .int), .lst (.inl (.inl hqa8)) (dps_ints zs), .lst (.inl (.inl hD2)) (dps_ints zs), shaped_ints zs, shaped_ints zs, _, rfl, iff_ (by rw [eqv_lints]; rfl) ?_⟩
              have s38 := (((s4.trans s5).trans s6).trans s7).trans s8
              refine ⟨_, rfl, _, rfl, p, a, _, _, rfl, hp, dp_same (cut_mono s38) hd, sc3.go (sc3.same s38), fun u e H9 w9 hu hbad hsh9 => ?_⟩
              have sc9 := (sc3.go (sc3.same s38)).go w9
              exact ⟨_, _, rfl, hu, hsh9, fun H10 s10 => ⟨_, rfl, iff_ hbad ⟨_, _, _, _, _, rfl, sc9.go (sc9.same s10)⟩⟩⟩
    · rintro σ H1 ⟨a2, a3, a4, a5, a6, rfl, sc1⟩
      refine any_dat sc1.1 fun vf H2 s2 hvf => ?_
      have dr2 := sc1.1.up s2
      cases hvf with
      | tup hqf hdf =>
        rename_i fa fvs
        obtain ⟨hv, fr, rfl, hh, hnil⟩ := dps_c hdf
        cases hnil
        have F2 : Dp K H2 (.ref fa) fHand := .tup hqf hdf
        have hh : Dp K H2 hv fRow := hh
        -- ()
        refine ⟨Nat.zero_le _, fun z1 h1 => ?_⟩
        have s3 := same_up (o := .tup []) h1
        have d1 : Dp K (upd H2 z1 (.tup [])) (.ref z1) (.tuple []) := .tup (.inl (.inl upd_same)) .nil
        generalize upd H2 z1 (.tup []) = H3 at s3 d1
        -- [fence]
        refine ⟨_, rfl, by show (1 : Nat) ≤ sizeLine; decide, fun z3 h3 => ?_⟩
        have s4 := same_up (o := .lst [.ref fa]) h3
        have d3 : Dp K (upd H3 z3 (.lst [.ref fa])) (.ref z3) (.list [fHand]) := .lst (.inl (.inl upd_same)) (.cons (dp_same (s3.trans s4) F2) .nil)
        generalize upd H3 z3 (.lst [.ref fa]) = H4 at s4 d3
        have s24 := s3.trans s4
        -- (list(fence),)
        refine ⟨_, rfl, fa, [hv], rfl, .inr (same_sqt s24 hqf), fun l4 hl4 => ?_⟩
        have s5 := same_up (o := .lst [hv]) hl4
        have d4l : Dp K (upd H4 l4 (.lst [hv])) (.ref l4) (.list [fRow]) := .lst (.inl (.inl upd_same)) (.cons (dp_same (s24.trans s5) hh) .nil)
        generalize upd H4 l4 (.lst [hv]) = H5 at s5 d4l
        refine ⟨by show (1 : Nat) ≤ sizeLine; decide, fun z4 h4 => ?_⟩
        have s6 := same_up (o := .tup [.ref l4]) h4
        have d4 : Dp K (upd H5 z4 (.tup [.ref l4])) (.ref z4) (.tuple [.list [fRow]]) := .tup (.inl (.inl upd_same)) (.cons (dp_same s6 d4l) .nil)
        generalize upd H5 z4 (.tup [.ref l4]) = H6 at s6 d4
        have s26 := (s24.trans s5).trans s6
        -- fence * 5
        refine ⟨_, rfl, fa, 5, [hv], rfl, rfl, same_sqt s26 hqf, by simp, by decide, by decide, by show (1 : Nat) ≤ 1000; decide, fun z5 h5 => ?_⟩
        have s7 := same_up (o := .tup (List.replicate (5 : Int).toNat [hv]).flatten) h5
        have d5 : Dp K (upd H6 z5 (.tup (List.replicate (5 : Int).toNat [hv]).flatten)) (.ref z5) (repD (5 : Int).toNat [fRow]) := .tup (.inl (.inl upd_same)) (dps_rep (.cons (dp_same (s26.trans s7) hh) .nil) _)
        generalize upd H6 z5 (.tup (List.replicate (5 : Int).toNat [hv]).flatten) = H7 at s7 d5
        have s27 := s26.trans s7
        -- (("fence",) * 1,)
        refine ⟨by show (1 : Nat) ≤ sizeLine; decide, fun z6 h6 => ?_⟩
        have s8 := same_up (o := .tup [.str "fence"]) h6
        have c6 : (upd H7 z6 (.tup [.str "fence"])) z6 = some (.tup [.str "fence"]) := upd_same
        generalize upd H7 z6 (.tup [.str "fence"]) = H8 at s8 c6
        refine ⟨z6, _, rfl, rfl, .inl (.inl c6), by show (1 : Nat) ≤ sizeLine; decide, fun z7 h7 => ?_⟩
        have s9 := same_up (o := .tup [.ref z6]) h7
        have d6 : Dp K (upd H8 z7 (.tup [.ref z6])) (.ref z7) (.tuple [.tuple [.str "fence"]]) := .tup (.inl (.inl upd_same)) (.cons (.tup (.inl (.inl (s9 _ _ c6))) (.cons (.str _) .nil)) .nil)
        generalize upd H8 z7 (.tup [.ref z6]) = H9 at s9 d6
        have s29 := (s27.trans s8).trans s9
        -- (fence * 17,)
        refine ⟨_, rfl, fa, 17, [hv], rfl, rfl, same_sqt s29 hqf, by simp, by decide, by decide, by show (1 : Nat) ≤ 1000; decide, fun z8 h8 => ?_⟩
        have s10 := same_up (o := .tup (List.replicate (17 : Int).toNat [hv]).flatten) h8
        have d7r : Dp K (upd H9 z8 (.tup (List.replicate (17 : Int).toNat [hv]).flatten)) (.ref z8) (repD (17 : Int).toNat [fRow]) := .tup (.inl (.inl upd_same)) (dps_rep (.cons (dp_same (s29.trans s10) hh) .nil) _)
        generalize upd H9 z8 (.tup (List.replicate (17 : Int).toNat [hv]).flatten) = H10 at s10 d7r
        refine ⟨by show (1 : Nat) ≤ sizeLine; decide, fun z9 h9 => ?_⟩
        have s11 := same_up (o := .tup [.ref z8]) h9
        have d7 : Dp K (upd H10 z9 (.tup [.ref z8])) (.ref z9) (.tuple [repD (17 : Int).toNat [fRow]]) := .tup (.inl (.inl upd_same)) (.cons (dp_same s11 d7r) .nil)
        generalize upd H10 z9 (.tup [.ref z8]) = H11 at s11 d7
        have s211 := (s29.trans s10).trans s11
        refine any_dat (dr2.up s211) fun v8 H12 s12 d8 => ?_
        have s212 := s211.trans s12
        refine any_dat (dr2.up s212) fun v10 H13 s13 d10 => ?_
        have s213 := s212.trans s13
        refine ⟨by show (10 : Nat) ≤ sizeLine; decide, fun zw hw => ?_⟩
        have s14 := same_up (o := .tup [.ref z1, .non, .ref z3, .ref z4, .ref z5, .ref z7, .ref z9, v8, .str "fence", v10]) hw
        have t13 := s13.trans s14
        have t12 := s12.trans t13
        have t11 := s11.trans t12
        have t10 := s10.trans t11
        have t9 := s9.trans t10
        have t7 := s8.trans t9
        have t6 := s7.trans t7
        have t5 := s6.trans t6
        have t4 := s5.trans t5
        have t3 := s4.trans t4
        have t2 := s3.trans t3
        have wall : DpAll K (upd H13 zw (.tup [.ref z1, .non, .ref z3, .ref z4, .ref z5, .ref z7, .ref z9, v8, .str "fence", v10])) [.ref z1, .non, .ref z3, .ref z4, .ref z5, .ref z7, .ref z9, v8, .str "fence", v10] wrongs :=
          .cons (dp_same t3 d1) (.cons .non (.cons (dp_same t4 d3) (.cons (dp_same t6 d4) (.cons (dp_same t7 d5) (.cons (dp_same t10 d6) (.cons (dp_same t12 d7) (.cons (dp_same t13 d8) (.cons (.str _) (.cons (dp_same s14 d10) .nil)))))))))
        have cw : (upd H13 zw (.tup [.ref z1, .non, .ref z3, .ref z4, .ref z5, .ref z7, .ref z9, v8, .str "fence", v10])) zw = some (.tup [.ref z1, .non, .ref z3, .ref z4, .ref z5, .ref z7, .ref z9, v8, .str "fence", v10]) := upd_same
        generalize upd H13 zw (.tup [.ref z1, .non, .ref z3, .ref z4, .ref z5, .ref z7, .ref z9, v8, .str "fence", v10]) = H14 at t2 wall cw
        refine ⟨zw, rfl, ⟨_, .inl (.inl cw)⟩, for_tup (K := K) (a := zw) (fun i σ H' => ∃ b8 : Option V, σ = [some (.ref a), some (.ref p), a2, a3, a4, a5, a6, some (.ref fa), b8, none, none] ∧ Same H14 H')
          ⟨_, rfl, Same.refl _⟩ (fun i σ H' _ ⟨_, _, s'⟩ => .inl (.inl (s' _ _ cw))) ?_ ?_⟩
        · rintro k x σ H15 hx ⟨b8, rfl, s15⟩
          obtain ⟨d, ed, hd⟩ := dps_get wall hx
          obtain ⟨e1, e2⟩ := wr_bad d (List.mem_of_getElem? ed)
          exact ⟨_, rfl, _, d, rfl, dp_same s15 hd, e2, fun H16 s16 => ⟨_, rfl, iff_ e1 ⟨_, rfl, s15.trans s16⟩⟩⟩
        · rintro σ H15 ⟨b8, rfl, s15⟩
          have t15 := t2.trans s15
          refine any_dat (dr2.up t15) fun u1 H16 s16 e1 => ?_
          refine ⟨_, _, rfl, e1, g1.2, fun H17 s17 => ⟨_, rfl, ift g1.1 ?_⟩⟩
          have t17 := (t15.trans s16).trans s17
          refine ⟨_, rfl, fa, 16, [hv], rfl, rfl, same_sqt t17 hqf, by simp, by decide, by decide, by show (1 : Nat) ≤ 1000; decide, fun z10 h10 => ?_⟩
          have s18 := same_up (o := .tup (List.replicate (16 : Int).toNat [hv]).flatten) h10
          have e2 : Dp K (upd H17 z10 (.tup (List.replicate (16 : Int).toNat [hv]).flatten)) (.ref z10) (repD (16 : Int).toNat [fRow]) := .tup (.inl (.inl upd_same)) (dps_rep (.cons (dp_same (t17.trans s18) hh) .nil) _)
          generalize upd H17 z10 (.tup (List.replicate (16 : Int).toNat [hv]).flatten) = H18 at s18 e2
          refine ⟨by show (1 : Nat) ≤ sizeLine; decide, fun z11 h11 => ?_⟩
          have s19 := same_up (o := .tup [.ref z10]) h11
          have c11 : (upd H18 z11 (.tup [.ref z10])) z11 = some (.tup [.ref z10]) := upd_same
          generalize upd H18 z11 (.tup [.ref z10]) = H19 at s19 c11
          refine ⟨z11, 4, [.ref z10], rfl, rfl, .inl (.inl c11), by simp, by decide, by decide, by show (1 : Nat) ≤ 1000; decide, fun z12 h12 => ?_⟩
          have s20 := same_up (o := .tup (List.replicate (4 : Int).toNat [.ref z10]).flatten) h12
          have e3 : Dp K (upd H19 z12 (.tup (List.replicate (4 : Int).toNat [.ref z10]).flatten)) (.ref z12) (repD (4 : Int).toNat [repD (16 : Int).toNat [fRow]]) := .tup (.inl (.inl upd_same)) (dps_rep (.cons (dp_same (s19.trans s20) e2) .nil) _)
          refine ⟨_, _, rfl, e3, g2.2, fun H21 s21 => ⟨_, rfl, ift g2.1 ?_⟩⟩
          have t21 := (((t17.trans s18).trans s19).trans s20).trans s21
          refine any_dat (dr2.up t21) fun u4 H22 s22 e4 => ?_
          refine ⟨_, _, rfl, e4, g3.2, fun H23 s23 => ⟨_, rfl, ift g3.1 ?_⟩⟩
          have t23 := (t21.trans s22).trans s23
          refine any_dat (dr2.up t23) fun u5 H24 s24 e5 => ?_
          refine ⟨_, _, rfl, e5, g1.2, g1.1, fun qa H25 s25 hqa => ⟨Nat.zero_le _, fun z13 h13 => ?_⟩⟩
          rw [g4] at hqa
          have s26 := same_up (o := .lst []) h13
          exact ⟨.list [], .list [], .lst (.inl (.inl (s26 _ _ hqa))) .nil, .lst (.inl (.inl upd_same)) .nil, shaped_ints [], shaped_ints [], by rw [show PyData.eqv (.list []) (.list []) = true from eqv_lints []]; exact q _⟩
end
end G341

set_option Elab.async false
set_option linter.all false
set_option maxRecDepth 100000
/-! the head and the end -/
namespace G341
open PySem PySem.Spec PyProof.Rows L2
theorem df_mk {K : PySem.W.Frag} {h : Heap} {mg : Str → Option Value} {nm : Str} {st : Stmt} {ps : List Str} {f : Addr} {oc : Value} {od an : Option Addr} {osl : Array (Option Value)} {kV doc pm cdv ct : Value} (X : K.In h) (G : h.Ns mainGlobals mg)
    (a : PySem.W.nsIn K mainGlobals nm = some (some (.ref f))) (l : K.lookup f = some ⟨oc, od, .func (PySem.W.fnOf nm nm (defArgs st) (defBody st) (defScope st) .none kV doc pm an cdv ct), osl⟩) (c : PySem.W.codeIn K cdv nm = true) (k : PySem.W.keepIn K (.ref f) = true)
    (b : Binds K (PySem.W.fnOf nm nm (defArgs st) (defBody st) (defScope st) .none kV doc pm an cdv ct) ps []) : Df K mg nm st ps f (PySem.W.fnOf nm nm (defArgs st) (defBody st) (defScope st) .none kV doc pm an cdv ct) :=
  ⟨fun_mk (st := st) l c k, b, PySem.W.mg_of X G a⟩
theorem all_mk {l : PySem.W.OpenLaw} {w : World} {K : PySem.W.Frag} {h : Heap} {mg : Str → Option Value} {fa : Addr} (X : K.In h) (G : h.Ns mainGlobals mg) (hfa : mg "law" = some (.ref fa))
    {f9 f10 f11 f12 f13 f14 f15 f16 f17 f19 f20 f21 f22 f23 f24 f25 f26 : Addr} {od9 an9 od10 an10 od11 an11 od12 an12 od13 an13 od14 an14 od15 an15 od16 an16 od17 an17 od19 an19 od20 an20 od21 an21 od22 an22 od23 an23 od24 an24 od25 an25 od26 an26 : Option Addr} {sl9 sl10 sl11 sl12 sl13 sl14 sl15 sl16 sl17 sl19 sl20 sl21 sl22 sl23 sl24 sl25 sl26 : Array (Option Value)} {oc9 kV9 dc9 pm9 cd9 ct9 oc10 kV10 dc10 pm10 cd10 ct10 oc11 kV11 dc11 pm11 cd11 ct11 oc12 kV12 dc12 pm12 cd12 ct12 oc13 kV13 dc13 pm13 cd13 ct13 oc14 kV14 dc14 pm14 cd14 ct14 oc15 kV15 dc15 pm15 cd15 ct15 oc16 kV16 dc16 pm16 cd16 ct16 oc17 kV17 dc17 pm17 cd17 ct17 oc19 kV19 dc19 pm19 cd19 ct19 oc20 kV20 dc20 pm20 cd20 ct20 oc21 kV21 dc21 pm21 cd21 ct21 oc22 kV22 dc22 pm22 cd22 ct22 oc23 kV23 dc23 pm23 cd23 ct23 oc24 kV24 dc24 pm24 cd24 ct24 oc25 kV25 dc25 pm25 cd25 ct25 oc26 kV26 dc26 pm26 cd26 ct26 : Value}
    (a9 : PySem.W.nsIn K mainGlobals "is_number" = some (some (.ref f9))) (l9 : K.lookup f9 = some ⟨oc9, od9, .func (PySem.W.fnOf "is_number" "is_number" (defArgs (tx 9)) (defBody (tx 9)) (defScope (tx 9)) .none kV9 dc9 pm9 an9 cd9 ct9), sl9⟩) (c9 : PySem.W.codeIn K cd9 "is_number" = true) (k9 : PySem.W.keepIn K (.ref f9) = true)
    (a10 : PySem.W.nsIn K mainGlobals "is_place" = some (some (.ref f10))) (l10 : K.lookup f10 = some ⟨oc10, od10, .func (PySem.W.fnOf "is_place" "is_place" (defArgs (tx 10)) (defBody (tx 10)) (defScope (tx 10)) .none kV10 dc10 pm10 an10 cd10 ct10), sl10⟩) (c10 : PySem.W.codeIn K cd10 "is_place" = true) (k10 : PySem.W.keepIn K (.ref f10) = true)
    (a11 : PySem.W.nsIn K mainGlobals "is_value" = some (some (.ref f11))) (l11 : K.lookup f11 = some ⟨oc11, od11, .func (PySem.W.fnOf "is_value" "is_value" (defArgs (tx 11)) (defBody (tx 11)) (defScope (tx 11)) .none kV11 dc11 pm11 an11 cd11 ct11), sl11⟩) (c11 : PySem.W.codeIn K cd11 "is_value" = true) (k11 : PySem.W.keepIn K (.ref f11) = true)
    (a12 : PySem.W.nsIn K mainGlobals "is_register" = some (some (.ref f12))) (l12 : K.lookup f12 = some ⟨oc12, od12, .func (PySem.W.fnOf "is_register" "is_register" (defArgs (tx 12)) (defBody (tx 12)) (defScope (tx 12)) .none kV12 dc12 pm12 an12 cd12 ct12), sl12⟩) (c12 : PySem.W.codeIn K cd12 "is_register" = true) (k12 : PySem.W.keepIn K (.ref f12) = true)
    (a13 : PySem.W.nsIn K mainGlobals "is_row" = some (some (.ref f13))) (l13 : K.lookup f13 = some ⟨oc13, od13, .func (PySem.W.fnOf "is_row" "is_row" (defArgs (tx 13)) (defBody (tx 13)) (defScope (tx 13)) .none kV13 dc13 pm13 an13 cd13 ct13), sl13⟩) (c13 : PySem.W.codeIn K cd13 "is_row" = true) (k13 : PySem.W.keepIn K (.ref f13) = true)
    (a14 : PySem.W.nsIn K mainGlobals "is_program" = some (some (.ref f14))) (l14 : K.lookup f14 = some ⟨oc14, od14, .func (PySem.W.fnOf "is_program" "is_program" (defArgs (tx 14)) (defBody (tx 14)) (defScope (tx 14)) .none kV14 dc14 pm14 an14 cd14 ct14), sl14⟩) (c14 : PySem.W.codeIn K cd14 "is_program" = true) (k14 : PySem.W.keepIn K (.ref f14) = true)
    (a15 : PySem.W.nsIn K mainGlobals "check_program" = some (some (.ref f15))) (l15 : K.lookup f15 = some ⟨oc15, od15, .func (PySem.W.fnOf "check_program" "check_program" (defArgs (tx 15)) (defBody (tx 15)) (defScope (tx 15)) .none kV15 dc15 pm15 an15 cd15 ct15), sl15⟩) (c15 : PySem.W.codeIn K cd15 "check_program" = true) (k15 : PySem.W.keepIn K (.ref f15) = true)
    (a16 : PySem.W.nsIn K mainGlobals "place_of" = some (some (.ref f16))) (l16 : K.lookup f16 = some ⟨oc16, od16, .func (PySem.W.fnOf "place_of" "place_of" (defArgs (tx 16)) (defBody (tx 16)) (defScope (tx 16)) .none kV16 dc16 pm16 an16 cd16 ct16), sl16⟩) (c16 : PySem.W.codeIn K cd16 "place_of" = true) (k16 : PySem.W.keepIn K (.ref f16) = true)
    (a17 : PySem.W.nsIn K mainGlobals "places_of" = some (some (.ref f17))) (l17 : K.lookup f17 = some ⟨oc17, od17, .func (PySem.W.fnOf "places_of" "places_of" (defArgs (tx 17)) (defBody (tx 17)) (defScope (tx 17)) .none kV17 dc17 pm17 an17 cd17 ct17), sl17⟩) (c17 : PySem.W.codeIn K cd17 "places_of" = true) (k17 : PySem.W.keepIn K (.ref f17) = true)
    (a19 : PySem.W.nsIn K mainGlobals "_law_number" = some (some (.ref f19))) (l19 : K.lookup f19 = some ⟨oc19, od19, .func (PySem.W.fnOf "_law_number" "_law_number" (defArgs (tx 19)) (defBody (tx 19)) (defScope (tx 19)) .none kV19 dc19 pm19 an19 cd19 ct19), sl19⟩) (c19 : PySem.W.codeIn K cd19 "_law_number" = true) (k19 : PySem.W.keepIn K (.ref f19) = true)
    (a20 : PySem.W.nsIn K mainGlobals "_law_take" = some (some (.ref f20))) (l20 : K.lookup f20 = some ⟨oc20, od20, .func (PySem.W.fnOf "_law_take" "_law_take" (defArgs (tx 20)) (defBody (tx 20)) (defScope (tx 20)) .none kV20 dc20 pm20 an20 cd20 ct20), sl20⟩) (c20 : PySem.W.codeIn K cd20 "_law_take" = true) (k20 : PySem.W.keepIn K (.ref f20) = true)
    (a21 : PySem.W.nsIn K mainGlobals "_law_pick" = some (some (.ref f21))) (l21 : K.lookup f21 = some ⟨oc21, od21, .func (PySem.W.fnOf "_law_pick" "_law_pick" (defArgs (tx 21)) (defBody (tx 21)) (defScope (tx 21)) .none kV21 dc21 pm21 an21 cd21 ct21), sl21⟩) (c21 : PySem.W.codeIn K cd21 "_law_pick" = true) (k21 : PySem.W.keepIn K (.ref f21) = true)
    (a22 : PySem.W.nsIn K mainGlobals "_law_row" = some (some (.ref f22))) (l22 : K.lookup f22 = some ⟨oc22, od22, .func (PySem.W.fnOf "_law_row" "_law_row" (defArgs (tx 22)) (defBody (tx 22)) (defScope (tx 22)) .none kV22 dc22 pm22 an22 cd22 ct22), sl22⟩) (c22 : PySem.W.codeIn K cd22 "_law_row" = true) (k22 : PySem.W.keepIn K (.ref f22) = true)
    (a23 : PySem.W.nsIn K mainGlobals "_law_program" = some (some (.ref f23))) (l23 : K.lookup f23 = some ⟨oc23, od23, .func (PySem.W.fnOf "_law_program" "_law_program" (defArgs (tx 23)) (defBody (tx 23)) (defScope (tx 23)) .none kV23 dc23 pm23 an23 cd23 ct23), sl23⟩) (c23 : PySem.W.codeIn K cd23 "_law_program" = true) (k23 : PySem.W.keepIn K (.ref f23) = true)
    (a24 : PySem.W.nsIn K mainGlobals "_law_sizes" = some (some (.ref f24))) (l24 : K.lookup f24 = some ⟨oc24, od24, .func (PySem.W.fnOf "_law_sizes" "_law_sizes" (defArgs (tx 24)) (defBody (tx 24)) (defScope (tx 24)) .none kV24 dc24 pm24 an24 cd24 ct24), sl24⟩) (c24 : PySem.W.codeIn K cd24 "_law_sizes" = true) (k24 : PySem.W.keepIn K (.ref f24) = true)
    (a25 : PySem.W.nsIn K mainGlobals "_law_bent" = some (some (.ref f25))) (l25 : K.lookup f25 = some ⟨oc25, od25, .func (PySem.W.fnOf "_law_bent" "_law_bent" (defArgs (tx 25)) (defBody (tx 25)) (defScope (tx 25)) .none kV25 dc25 pm25 an25 cd25 ct25), sl25⟩) (c25 : PySem.W.codeIn K cd25 "_law_bent" = true) (k25 : PySem.W.keepIn K (.ref f25) = true)
    (a26 : PySem.W.nsIn K mainGlobals "law" = some (some (.ref f26))) (l26 : K.lookup f26 = some ⟨oc26, od26, .func (PySem.W.fnOf "law" "law" (defArgs (tx 26)) (defBody (tx 26)) (defScope (tx 26)) .none kV26 dc26 pm26 an26 cd26 ct26), sl26⟩) (c26 : PySem.W.codeIn K cd26 "law" = true) (k26 : PySem.W.keepIn K (.ref f26) = true)
    (zisi : PySem.W.nsIn K mainGlobals "isinstance" = some none)
    (zint : PySem.W.nsIn K mainGlobals "int" = some none)
    (zbool : PySem.W.nsIn K mainGlobals "bool" = some none)
    (zstr : PySem.W.nsIn K mainGlobals "str" = some none)
    (ztuple : PySem.W.nsIn K mainGlobals "tuple" = some none)
    (zlist : PySem.W.nsIn K mainGlobals "list" = some none)
    (zlen : PySem.W.nsIn K mainGlobals "len" = some none)
    (zall : PySem.W.nsIn K mainGlobals "all" = some none)
    (zenum : PySem.W.nsIn K mainGlobals "enumerate" = some none)
    (zsorted : PySem.W.nsIn K mainGlobals "sorted" = some none)
    (zrange : PySem.W.nsIn K mainGlobals "range" = some none)
    (zabs : PySem.W.nsIn K mainGlobals "abs" = some none)
    {thands : Tok} (nhands : PySem.W.nsIn K mainGlobals "MOST_HANDS" = some (some (.int 4 thands)))
    {trows : Tok} (nrows : PySem.W.nsIn K mainGlobals "MOST_ROWS" = some (some (.int 16 trows)))
    {tplaces : Tok} (nplaces : PySem.W.nsIn K mainGlobals "PLACES" = some (some (.int 4 tplaces)))
    {tvalues : Tok} (nvalues : PySem.W.nsIn K mainGlobals "VALUES" = some (some (.int 4 tvalues)))
    {tregs : Tok} (nregs : PySem.W.nsIn K mainGlobals "REGISTERS" = some (some (.int 3 tregs))) :
    ∃ fd : FuncData, (∀ (s : Shared) (v : Value), BindsTo s fd ⟨[v], []⟩ [("_law_script", v)]) ∧ ∀ base : Heap, K.In base → base.Ns mainGlobals mg → FnOk l.prog w K mg base CX0 7 fa fd ["_law_script"] (spLaw K) := by
  cases hfa.symm.trans (PySem.W.mg_of X G a26)
  have B : Bn mg := ⟨PySem.W.mg_none_of X G zisi, PySem.W.mg_none_of X G zint, PySem.W.mg_none_of X G zbool, PySem.W.mg_none_of X G zstr, PySem.W.mg_none_of X G ztuple, PySem.W.mg_none_of X G zlist, PySem.W.mg_none_of X G zlen, PySem.W.mg_none_of X G zall, PySem.W.mg_none_of X G zenum, PySem.W.mg_none_of X G zsorted, PySem.W.mg_none_of X G zrange, PySem.W.mg_none_of X G zabs, ⟨_, PySem.W.mg_of X G nhands⟩, ⟨_, PySem.W.mg_of X G nrows⟩, ⟨_, PySem.W.mg_of X G nplaces⟩, ⟨_, PySem.W.mg_of X G nvalues⟩, ⟨_, PySem.W.mg_of X G nregs⟩⟩
  have D9 := df_mk (st := tx 9) (ps := ["thing", "least", "most"]) X G a9 l9 c9 k9 (Fun.binds (fun_mk (st := tx 9) l9 c9 k9) fun _ _ _ _ _ _ us hl => match us, hl with | [_, _, _], _ => rfl)
  have D10 := df_mk (st := tx 10) (ps := ["thing"]) X G a10 l10 c10 k10 (Fun.binds (fun_mk (st := tx 10) l10 c10 k10) fun _ _ _ _ _ _ us hl => match us, hl with | [_], _ => rfl)
  have D11 := df_mk (st := tx 11) (ps := ["thing"]) X G a11 l11 c11 k11 (Fun.binds (fun_mk (st := tx 11) l11 c11 k11) fun _ _ _ _ _ _ us hl => match us, hl with | [_], _ => rfl)
  have D12 := df_mk (st := tx 12) (ps := ["thing"]) X G a12 l12 c12 k12 (Fun.binds (fun_mk (st := tx 12) l12 c12 k12) fun _ _ _ _ _ _ us hl => match us, hl with | [_], _ => rfl)
  have D13 := df_mk (st := tx 13) (ps := ["thing", "rest"]) X G a13 l13 c13 k13 (Fun.binds (fun_mk (st := tx 13) l13 c13 k13) fun _ _ _ _ _ _ us hl => match us, hl with | [_, _], _ => rfl)
  have D14 := df_mk (st := tx 14) (ps := ["thing"]) X G a14 l14 c14 k14 (Fun.binds (fun_mk (st := tx 14) l14 c14 k14) fun _ _ _ _ _ _ us hl => match us, hl with | [_], _ => rfl)
  have D15 := df_mk (st := tx 15) (ps := ["program"]) X G a15 l15 c15 k15 (Fun.binds (fun_mk (st := tx 15) l15 c15 k15) fun _ _ _ _ _ _ us hl => match us, hl with | [_], _ => rfl)
  have D16 := df_mk (st := tx 16) (ps := ["row"]) X G a16 l16 c16 k16 (Fun.binds (fun_mk (st := tx 16) l16 c16 k16) fun _ _ _ _ _ _ us hl => match us, hl with | [_], _ => rfl)
  have D17 := df_mk (st := tx 17) (ps := ["program"]) X G a17 l17 c17 k17 (Fun.binds (fun_mk (st := tx 17) l17 c17 k17) fun _ _ _ _ _ _ us hl => match us, hl with | [_], _ => rfl)
  have D19 := df_mk (st := tx 19) (ps := ["_law_script", "_law_index"]) X G a19 l19 c19 k19 (Fun.binds (fun_mk (st := tx 19) l19 c19 k19) fun _ _ _ _ _ _ us hl => match us, hl with | [_, _], _ => rfl)
  have D20 := df_mk (st := tx 20) (ps := ["_law_draw", "_law_many"]) X G a20 l20 c20 k20 (Fun.binds (fun_mk (st := tx 20) l20 c20 k20) fun _ _ _ _ _ _ us hl => match us, hl with | [_, _], _ => rfl)
  have D21 := df_mk (st := tx 21) (ps := ["_law_draw", "_law_items"]) X G a21 l21 c21 k21 (Fun.binds (fun_mk (st := tx 21) l21 c21 k21) fun _ _ _ _ _ _ us hl => match us, hl with | [_, _], _ => rfl)
  have D22 := df_mk (st := tx 22) (ps := ["_law_draw", "_law_rest", "_law_places", "_law_words"]) X G a22 l22 c22 k22 (Fun.binds (fun_mk (st := tx 22) l22 c22 k22) fun _ _ _ _ _ _ us hl => match us, hl with | [_, _, _, _], _ => rfl)
  have D23 := df_mk (st := tx 23) (ps := ["_law_draw", "_law_sizes_here", "_law_places", "_law_words"]) X G a23 l23 c23 k23 (Fun.binds (fun_mk (st := tx 23) l23 c23 k23) fun _ _ _ _ _ _ us hl => match us, hl with | [_, _, _, _], _ => rfl)
  have D24 := df_mk (st := tx 24) (ps := ["_law_draw"]) X G a24 l24 c24 k24 (Fun.binds (fun_mk (st := tx 24) l24 c24 k24) fun _ _ _ _ _ _ us hl => match us, hl with | [_], _ => rfl)
  have D25 := df_mk (st := tx 25) (ps := ["_law_draw", "_law_program_here"]) X G a25 l25 c25 k25 (Fun.binds (fun_mk (st := tx 25) l25 c25 k25) fun _ _ _ _ _ _ us hl => match us, hl with | [_, _], _ => rfl)
  have D26 := df_mk (st := tx 26) (ps := ["_law_script"]) X G a26 l26 c26 k26 (Fun.binds (fun_mk (st := tx 26) l26 c26 k26) fun _ _ _ _ _ _ us hl => match us, hl with | [_], _ => rfl)
  refine ⟨PySem.W.fnOf "law" "law" (defArgs (tx 26)) (defBody (tx 26)) (defScope (tx 26)) .none kV26 dc26 pm26 an26 cd26 ct26, fun s v => .of_eq rfl, fun base _ _ => ?_⟩
  have GRow := ok_row (P := l.prog) (w := w) (base := base) D13 D9 D10 D11 D12 B
  have GProg := ok_prog D14 D13 GRow B
  have GTake := ok_take (P := l.prog) (w := w) (base := base) D20 D19 B
  have GPick := ok_pick D21 D20 GTake B
  exact ok_law D26 D14 D17 D23 D24 D25 GProg (ok_places D17 D15 D16 (ok_check D15 D14 GProg) (ok_placeOf D16) B) (ok_progL D23 D22 (ok_rowL D22 D21 D20 GPick GTake) B) (ok_sizes D24 D21 GPick) (ok_bent D25 D21 D20 GPick GTake B) B
theorem walk {l : PySem.W.OpenLaw} {q : Program} {loose : List Str} {XP : (Str → Option Value) → Heap → Prop} {YP : World → Heap → Prop} {d : DefRec} {K : Params → PySem.W.Frag} (hn : l.most = some 63) (hdf : d.params.defaults = [])
    (hY : ∀ (w : World) (h : Heap), YP w h → (K w.params).In h)
    (F : ∀ (w : World) (mg : Str → Option Value) (fa : Addr) (h : Heap), (K w.params).In h → h.Ns mainGlobals mg → mg d.name = some (.ref fa) →
      ∃ fd : FuncData, (∀ (s : Shared) (u : Value), BindsTo s fd ⟨[u], []⟩ [("_law_script", u)]) ∧ ∀ base : Heap, (K w.params).In base → base.Ns mainGlobals mg → FnOk l.prog w (K w.params) mg base CX0 7 fa fd ["_law_script"] (spLaw (K w.params))) :
    PySem.W.WalkO q loose XP YP l.row.toRowW d [] (fun f vs => PySem.call f vs) :=
  L2.walk_of (n := 63) (k := 7) (x := "_law_script") (CX := fun _ => CX0) (sp := fun w => spLaw (K w.params)) hn (by decide) hdf ⟨rfl, by decide, by decide⟩ hY F (fun _ _ a ns hl _ hS => ⟨a, ns, rfl, hS, hl, fun _ => rfl⟩) fun _ _ _ _ _ z => z
end G341

open PySem PySem.W PyProof.Rows in
set_option maxRecDepth 100000 in
set_option maxHeartbeats 0 in
theorem PySem.Challenge.cw_memoryviews_k01_whole_programs_holds : PySem.Challenge.rw_memoryviews_k01_whole_programs.Holds := by
  w_on; o_law; k_head; (case hw => w_witness2)
  k_fill
  refine G341.walk (l := PySem.Challenge.rw_memoryviews_k01_whole_programs) rfl rfl (fun w h Y => PySem.W.kIn_of Y) ?F
  case F =>
    intro w mg fa h KX G hmg
    refine' G341.all_mk KX G hmg ?a9 ?l9 ?c9 ?k9 ?a10 ?l10 ?c10 ?k10 ?a11 ?l11 ?c11 ?k11 ?a12 ?l12 ?c12 ?k12 ?a13 ?l13 ?c13 ?k13 ?a14 ?l14 ?c14 ?k14 ?a15 ?l15 ?c15 ?k15 ?a16 ?l16 ?c16 ?k16 ?a17 ?l17 ?c17 ?k17 ?a19 ?l19 ?c19 ?k19 ?a20 ?l20 ?c20 ?k20 ?a21 ?l21 ?c21 ?k21 ?a22 ?l22 ?c22 ?k22 ?a23 ?l23 ?c23 ?k23 ?a24 ?l24 ?c24 ?k24 ?a25 ?l25 ?c25 ?k25 ?a26 ?l26 ?c26 ?k26 ?zisi ?zint ?zbool ?zstr ?ztuple ?zlist ?zlen ?zall ?zenum ?zsorted ?zrange ?zabs ?nhands ?nrows ?nplaces ?nvalues ?nregs
    (case a9 => k_is)
    (case l9 => k_is)
    (case c9 => k_is)
    (case k9 => k_is)
    (case a10 => k_is)
    (case l10 => k_is)
    (case c10 => k_is)
    (case k10 => k_is)
    (case a11 => k_is)
    (case l11 => k_is)
    (case c11 => k_is)
    (case k11 => k_is)
    (case a12 => k_is)
    (case l12 => k_is)
    (case c12 => k_is)
    (case k12 => k_is)
    (case a13 => k_is)
    (case l13 => k_is)
    (case c13 => k_is)
    (case k13 => k_is)
    (case a14 => k_is)
    (case l14 => k_is)
    (case c14 => k_is)
    (case k14 => k_is)
    (case a15 => k_is)
    (case l15 => k_is)
    (case c15 => k_is)
    (case k15 => k_is)
    (case a16 => k_is)
    (case l16 => k_is)
    (case c16 => k_is)
    (case k16 => k_is)
    (case a17 => k_is)
    (case l17 => k_is)
    (case c17 => k_is)
    (case k17 => k_is)
    (case a19 => k_is)
    (case l19 => k_is)
    (case c19 => k_is)
    (case k19 => k_is)
    (case a20 => k_is)
    (case l20 => k_is)
    (case c20 => k_is)
    (case k20 => k_is)
    (case a21 => k_is)
    (case l21 => k_is)
    (case c21 => k_is)
    (case k21 => k_is)
    (case a22 => k_is)
    (case l22 => k_is)
    (case c22 => k_is)
    (case k22 => k_is)
    (case a23 => k_is)
    (case l23 => k_is)
    (case c23 => k_is)
    (case k23 => k_is)
    (case a24 => k_is)
    (case l24 => k_is)
    (case c24 => k_is)
    (case k24 => k_is)
    (case a25 => k_is)
    (case l25 => k_is)
    (case c25 => k_is)
    (case k25 => k_is)
    (case a26 => k_is)
    (case l26 => k_is)
    (case c26 => k_is)
    (case k26 => k_is)
    (case zisi => k_is)
    (case zint => k_is)
    (case zbool => k_is)
    (case zstr => k_is)
    (case ztuple => k_is)
    (case zlist => k_is)
    (case zlen => k_is)
    (case zall => k_is)
    (case zenum => k_is)
    (case zsorted => k_is)
    (case zrange => k_is)
    (case zabs => k_is)
    (case nhands => k_is)
    (case nrows => k_is)
    (case nplaces => k_is)
    (case nvalues => k_is)
    (case nregs => k_is)
#print axioms PySem.Challenge.cw_memoryviews_k01_whole_programs_holds


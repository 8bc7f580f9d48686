import PyProof.Rows.All
import HandS.ForMost
import KE.GoesMore
import HandS.Deep
import HandS.IsInst
import HandS.Words
import HandS.WordsList
import HandS.Comp
import Wide.All
import OpenK.AllK
import Wide.FinOn
import HandS.Exc
import KE.KExcSuper
import PySem.Challenge.RW_memoryviews_k48_whole_texts
import HandS.Text
import HandS.RaiseMore
import HandS.Codes
import HandS.TupAny
import HandS.Star
import HandS.WordsExc
import HandS.Lambda
import PyProof.StrLawsChain
import HandS.TupMul
import KE.RegKSuper
set_option Elab.async false
set_option maxRecDepth 100000
/-! enumerate over a tuple -/
namespace G341
open PySem PySem.Spec PyProof.Rows L2

section made
open Sem (wp)
set_option maxHeartbeats 1000000 in
theorem made_enum {v : Value} {o : Obj} {J : Heap → Prop} (B : Begins v o J) :
    Meets (Builtin.«enumerate.__new__» ⟨[.type "enumerate", v], []⟩)
      (fun _ R s => J s.heap ∧ R (.ok (.ret (.ref (s.heap.push o).objs.size)))
        { s with heap := (s.heap.push o).push { cls := .type "enumerate",
                                                 data := .fields #[.none, .bool false, .ref s.heap.objs.size, rawInt 0, .none, .none] } }) := by
  refine .of_wp fun pr ww AA R st hh => ?_
  obtain ⟨hp, gl, dd, tt, os⟩ := st
  obtain ⟨hJ, hh⟩ := hh
  have su := sub_enumerate
  have it1 : ∀ {A1 : Around} {E1 : Value → Shared → Prop} {Q1 : Value → Shared → Prop},
      Q1 (.ref hp.objs.size) ⟨hp.push o, gl, dd, tt, os⟩ → wpAny (model pr ww) A1 (pyIter v) Q1 E1 ⟨hp, gl, dd, tt, os⟩ :=
    fun z => B.iter pr ww _ _ ⟨hp, gl, dd, tt, os⟩ _ hJ z
  wp_walk using it1
  refine wpAny_stack_any fun fr => wpAny_pure ?_
  split
  · rename_i cc _ _ _ _ _
    cases (cc == Value.type "enumerate") <;> (wp_walk using it1; exact ⟨_, rfl, hh⟩)
  · wp_walk using it1
    exact ⟨_, rfl, hh⟩

theorem begun_enum {pr : Program} {ww : World} {AA : Around} {E : Value → Shared → Prop} {s : Shared} {v : Value} {o : Obj} {J : Heap → Prop}
    {Q : Value → Shared → Prop} (B : Begins v o J) (hJ : J s.heap)
    (h : ∀ g : Heap, IsEnum g (s.heap.objs.size + 1) s.heap.objs.size 0 .none → g.get? s.heap.objs.size = some o →
      (∀ b x, s.heap.get? b = some x → g.get? b = some x) → Q (.ref (s.heap.objs.size + 1)) { s with heap := g }) :
    wpAny (model pr ww) AA (call (.type "enumerate") [v]) Q E s := by
  refine callType_new F.called_enumerate (by decide) (F.typeCall_enumerate_1 _) (F.newCall_enumerate_1 _)
    (fun ob => F.args_object_init_2 ob _) F.entry_enumerate_new (made_enum B) ⟨hJ, ?_⟩
  have sz : (s.heap.push o).objs.size = s.heap.objs.size + 1 := Heap.size_push ..
  have top := Heap.get?_push_size (s.heap.push o)
    (o := { cls := .type "enumerate", data := .fields #[.none, .bool false, .ref s.heap.objs.size, rawInt 0, .none, .none] }) rfl
  rw [sz] at top
  show _ ∧ _
  rw [sz]
  exact ⟨⟨_, top, rfl⟩, h _ top (Heap.get?_push_of_some _ (Heap.get?_push_size _ B.free))
    (fun b x z => Heap.get?_push_of_some _ (Heap.get?_push_of_some _ z))⟩
end made

/-- the tuple at a, each item in a new pair with its place -/
def ItE (K : PySem.W.Frag) (a : Addr) : It where
  go := fun i H => ∃ (xs : List V) (x : V), SqT K H a xs ∧ xs[i]? = some x
  yld := fun i H v H' => ∃ (T : Addr) (x : V), v = .ref T ∧ H T = none ∧ (H' = upd H T (.tup [.int (i : Nat), x])) ∧ (∀ ys : List V, SqT K H a ys → ys[i]? = some x)
  stop := fun i H => ∃ xs : List V, SqT K H a xs ∧ xs.length ≤ i

theorem turnE {P : Program} {w : World} {K : PySem.W.Frag} {es : List Expr} {n : Nat} {tp : Pos} (a e it : Addr) :
    Turn P w K (.Tuple es n tp) (ItE K a) [e, it] e
      (fun i h => (∃ old, IsEnum h e it ((i : Nat) : Int) old) ∧ h.IsTupleIter it a i ∧ e ≠ it) where
  mem := List.mem_cons_self ..
  obj := by
    rintro i h ⟨⟨old, he⟩, ⟨o, ho, hc, hd⟩, _⟩ b hb
    rcases List.mem_cons.mp hb with z | z
    · subst z
      exact ⟨_, he, fun v q => nomatch q⟩
    · rw [List.mem_singleton.mp z]
      exact ⟨o, ho, fun v q => by rw [hd] at q; cases q⟩
  keep := by
    rintro i h h' ⟨⟨old, he⟩, hi, ne⟩ k
    exact ⟨⟨old, k e (by simp) _ he⟩, hi.at (fun o q => k it (by simp) o q), ne⟩
  item := by
    intro X hP hw hK hc i pins s σ H E I hf st hg
    subst hP hw hK
    obtain ⟨⟨old, he⟩, hit, ne⟩ := st
    obtain ⟨xs, x, hq, hx⟩ := hg
    obtain ⟨its, rv, p, _⟩ := I.tuple hq
    obtain ⟨u, hu, ru⟩ := rv.get hx
    have el : e < s.heap.objs.size := Heap.lt_size he
    have il : it < s.heap.objs.size := by
      obtain ⟨_, q, _⟩ := id hit
      exact Heap.lt_size q
    have pT : s.heap.IsTuple a its.toArray := p
    have fe := (hf e (by simp)).1
    have fi := (hf it (by simp)).1
    have ai : a ≠ it := by
      intro z
      subst z
      obtain ⟨o1, q1, c1, _⟩ := id hit
      obtain ⟨o2, q2, c2, _⟩ := pT
      rw [q1] at q2
      cases q2
      rw [c1] at c2
      exact absurd c2 (by decide)
    have ae : e ∉ [it, a] := by
      intro z
      rcases List.mem_cons.mp z with z | z
      · exact ne z
      · have z := List.mem_singleton.mp z
        subst z
        obtain ⟨o2, q2, c2, _⟩ := pT
        rw [he] at q2
        cases q2
        exact absurd (show Value.type "enumerate" = Value.type "tuple" from c2) (by decide)
    refine wpAny_pyNext_enum_itemD (Draws.tuple (A := X.A.in1) (I.ok.hd hc) it a ai its.toArray) he ⟨hit, pT⟩
      (by
        have : i < its.length := (List.getElem?_eq_some_iff.mp hu).1
        simpa using this) ne ae fun y g tk hy ho hst hT hsz hk => ?_
    have eyu : y = u := by
      have h1 : its[i]? = some y := by simpa using hy
      rw [hu] at h1
      exact (Option.some.inj h1).symm
    subst eyu
    refine ⟨_, rfl, wpAny_letOwnedTupleGo_enum (s := { s with heap := g, toks := tk + 1 }) ho fun g2 he2 sb => ?_⟩
    have hT2 : g2.get? s.heap.objs.size = some { cls := .type "tuple", data := .seq #[.int i tk, y] } :=
      (sb.2 _ (Nat.ne_of_gt el)).trans hT
    have new : ObjOk X.prog X.w (upd H s.heap.objs.size (.tup [.int (i : Nat), x])) g2 s.heap.objs.size (.tup [.int (i : Nat), x]) :=
      ⟨by show 2 ≤ sizeLine; decide, [.int i tk, y], .cons ⟨_, rfl⟩ (.cons ru .nil), ⟨_, hT2, rfl, _, rfl⟩⟩
    have I1 : Inv X pins σ (upd H s.heap.objs.size (.tup [.int (i : Nat), x])) { s with heap := g2, toks := tk + 1 } :=
      I.turnedNew (ch := [e, it]) (fun b ob hb q =>
        (sb.2 b (fun z => hb (by simp [z]))).trans (hk b ob (fun z => hb (by simp [z])) (fun z => hb (by simp [z])) q)) hf (Nat.le_refl _) new
    refine ⟨.ref s.heap.objs.size, _, I1, rfl, ⟨_, x, rfl, I.hok.fresh (Nat.le_refl _), rfl, fun ys hy => by rw [I.tuple_inj hy hq]; exact hx⟩,
      ⟨⟨y, ?_⟩, hst.1.at (fun o q => (sb.2 it (Ne.symm ne)).trans q), ne⟩, fun b hb => ?_⟩
    · rw [show ((i + 1 : Nat) : Int) = (i : Int) + 1 by omega]
      exact he2
    · have lb : b < s.heap.objs.size := by
        rcases List.mem_cons.mp hb with z | z
        · rw [z]; exact el
        · rw [List.mem_singleton.mp z]; exact il
      rw [upd_ne (Nat.ne_of_lt lb)]
      exact (hf b hb).1
  done := by
    intro X hP hw hK hc i pins s σ H E I hf st hg
    subst hP hw hK
    obtain ⟨⟨old, he⟩, hit, ne⟩ := st
    obtain ⟨xs, hq, hx⟩ := hg
    obtain ⟨its, rv, p, _⟩ := I.tuple hq
    obtain ⟨f0, f1, f2, f3, f4, f5⟩ := hf it (by simp)
    have hl := rv.length
    have pT : s.heap.IsTuple a its.toArray := p
    have D : Draws X.prog X.w X.A.in1 it [it, a] i (fun _ _ => True) (fun j h => j = i ∧ h.IsTupleIter it a i ∧ h.IsTuple a its.toArray) :=
      { live := fun j h q => by
          obtain ⟨o, ho, _⟩ := q.2.1
          exact ⟨o, ho⟩
        frame := fun j h h' q k => ⟨q.1, q.2.1.at (fun o z => k it (by simp) o z), q.2.2.at (fun o z => k a (by simp) o z)⟩
        item := fun j s' Q' E' lt q _ => absurd q.1 (Nat.ne_of_lt lt)
        done := fun s' Q' E' q k => wpAny_nextOf_tuple_end (I.ok.hd hc) q.2.1 q.2.2 (by simp; omega) k }
    exact wpAny_pyNext_enum_endD D he ⟨rfl, hit, pT⟩ fun g eb => ⟨rfl, I.turned (t' := s.toks) (fun b o hb q => eb b o hb q) f0 f1 f3 f4 f5⟩
  self := fun A i s Q E st h => let ⟨⟨_, he⟩, _⟩ := st; wpAny_pyIter_enum he h

def iEnT (K : PySem.W.Frag) (ta : TA) : TI := fun σ H R => ta σ H fun vs H1 => ∃ (a : Addr) (xs : List V), vs = [.ref a] ∧ SqT K H1 a xs ∧ R (ItE K a) H1

theorem pi_enT {X : Cx} {e : Expr} {ta : TA} {p pos tp : Pos} {es : List Expr} {n : Nat} (hg : Gl X "enumerate") (hm : X.mg "enumerate" = none)
    (ha : PA X [e] ta) (hs : starEach [e] X.env = [(false, eval e X.env)] := by rfl) :
    PI X (.Tuple es n tp) (.Call (.Name "enumerate" p) [e] [] pos) (iEnT X.K ta) := by
  constructor
  intro pins s σ H R I h
  refine Call_ (ld_blt I hg hm boot_enumerate (PyProof.Rows.callWith_type1 (thn (ha.run pos pins s σ H _ I h) ?_) hs rfl))
  rintro us s1 ⟨vs, H1, I1, r1, a, xs, ex, hq, q⟩
  subst ex
  cases r1 with
  | cons r rr =>
  cases rr
  cases r
  obtain ⟨its, rv, p', _⟩ := I1.tuple hq
  refine begun_enum (begins_tuple a its.toArray) p' fun g he hit hk => wpAny_pyIter_enum he ?_
  have I2 : Inv X pins σ H1 { s1 with heap := g } := I1.kept (t' := s1.toks) hk
  refine ⟨s1.heap.objs.size + 1, [s1.heap.objs.size + 1, s1.heap.objs.size], _, _, H1, rfl, I2,
    turnE a (s1.heap.objs.size + 1) s1.heap.objs.size, ⟨⟨.none, he⟩, ⟨_, hit, rfl, rfl⟩, Nat.succ_ne_self _⟩, fun b hb => ?_, q⟩
  have hle : s1.heap.objs.size ≤ b := by
    rcases List.mem_cons.mp hb with z | z
    · rw [z]; exact Nat.le_add_right _ _
    · rw [List.mem_singleton.mp z]; exact Nat.le_refl _
  exact I1.fpOk hle (I1.hok.fresh hle)
end G341

set_option Elab.async false
set_option linter.all false
set_option maxRecDepth 100000
/-! data that stays, what isinstance says of it -/
namespace G341
open PySem PySem.Spec PyProof.Rows L2
variable {K : PySem.W.Frag} {H H' H1 : Hp}

theorem same_up {p : Addr} {o : HO} (h : H p = none) : Same H (upd H p o) := by
  intro b x e
  rw [upd_ne (ne_of_none e h)]
  exact e
theorem same_sqt {a : Addr} {xs : List V} (s : Same H H') (h : SqT K H a xs) : SqT K H' a xs := by
  rcases h with (h | ⟨o, h⟩) | h
  · exact .inl (.inl (s _ _ h))
  · exact .inl (.inr ⟨o, s _ _ h⟩)
  · exact .inr h
mutual
theorem dp_same (s : Same H H') : ∀ {v : V} {d : PyData}, Dp K H v d → Dp K H' v d
  | _, _, .non => .non
  | _, _, .bl b => .bl b
  | _, _, .int i => .int i
  | _, _, .str x => .str x
  | _, _, .lst q r => .lst (s.seq q) (dps_same s r)
  | _, _, .tup q r => .tup (same_sqt s q) (dps_same s r)
theorem dps_same (s : Same H H') : ∀ {v : List V} {d : List PyData}, DpAll K H v d → DpAll K H' v d
  | _, _, .nil => .nil
  | _, _, .cons q r => .cons (dp_same s q) (dps_same s r)
end
/-- the heap without what is at p -/
def cutH (p : Addr) (H : Hp) : Hp := fun b => if b = p then none else H b
theorem cut_sub (p : Addr) (H : Hp) : Same (cutH p H) H := by
  intro b o e
  unfold cutH at e
  by_cases h : b = p
  · rw [if_pos h] at e; cases e
  · rw [if_neg h] at e; exact e
theorem cut_mono {p : Addr} (s : Same H H') : Same (cutH p H) (cutH p H') := by
  intro b o e
  unfold cutH at e ⊢
  by_cases h : b = p
  · rw [if_pos h] at e; cases e
  · rw [if_neg h] at e ⊢; exact s _ _ e
theorem cut_up {p : Addr} {o : HO} : cutH p (upd H p o) = cutH p H := by
  funext b
  unfold cutH
  by_cases h : b = p
  · rw [if_pos h, if_pos h]
  · rw [if_neg h, if_neg h, upd_ne h]
theorem cut_at {p a : Addr} (h : a ≠ p) : cutH p H a = H a := by
  unfold cutH
  rw [if_neg h]

/-! ### lists of data -/
theorem dps_len : ∀ {vs : List V} {ds : List PyData}, DpAll K H vs ds → vs.length = ds.length
  | _, _, .nil => rfl
  | _, _, .cons _ r => congrArg (· + 1) (dps_len r)
theorem dps_get : ∀ {vs : List V} {ds : List PyData} {i : Nat} {v : V}, DpAll K H vs ds → vs[i]? = some v → ∃ d, ds[i]? = some d ∧ Dp K H v d
  | _, _, _, _, .nil, e => by simp at e
  | _, _, 0, _, .cons q r, e => by
    rw [List.getElem?_cons_zero] at e
    cases e
    exact ⟨_, rfl, q⟩
  | _, _, i + 1, _, .cons q r, e => by
    rw [List.getElem?_cons_succ] at e
    obtain ⟨d, h1, h2⟩ := dps_get r e
    exact ⟨d, by rw [List.getElem?_cons_succ]; exact h1, h2⟩
theorem dps_app : ∀ {vs us : List V} {ds es : List PyData}, DpAll K H vs ds → DpAll K H us es → DpAll K H (vs ++ us) (ds ++ es)
  | _, _, _, _, .nil, r => r
  | _, _, _, _, .cons q r, z => .cons q (dps_app r z)
theorem dps_take : ∀ {vs : List V} {ds : List PyData} (n : Nat), DpAll K H vs ds → DpAll K H (vs.take n) (ds.take n)
  | _, _, 0, _ => .nil
  | _, _, _ + 1, .nil => .nil
  | _, _, n + 1, .cons q r => .cons q (dps_take n r)
theorem dps_drop : ∀ {vs : List V} {ds : List PyData} (n : Nat), DpAll K H vs ds → DpAll K H (vs.drop n) (ds.drop n)
  | _, _, 0, h => h
  | _, _, _ + 1, .nil => .nil
  | _, _, n + 1, .cons _ r => dps_drop n r

/-! ### isinstance -/
def tyD : PyData → String
  | .none => "NoneType"
  | .bool _ => "bool"
  | .int _ => "int"
  | .str _ => "str"
  | .tuple _ => "tuple"
  | .list _ => "list"
  | _ => "dict"
theorem ty_dp {v : V} {d : PyData} (h : Dp K H v d) : TyX K H v (.type (tyD d)) := by
  cases h with
  | non => exact .base .non
  | bl b => exact .base (.bl b)
  | int i => exact .base (.int i)
  | str x => exact .base (.str x)
  | lst q r =>
    rcases q with (z | ⟨ob, z⟩) | ⟨ob, its, m', hk, hc, _⟩
    · exact .base (.lst z)
    · exact .base (.frz z)
    · exact .kList hk hc
  | tup q r =>
    rcases q with (q | ⟨ob, q⟩) | ⟨ob, its, m, hk, hc, _⟩
    · exact .base (.tup q)
    · exact .fTuple q
    · exact .kTuple hk hc
def isD (d : PyData) (t : String) : Bool := tyD d == t || (tyD d == "bool" && t == "int")
theorem isi_tab : ∀ u ∈ ["NoneType", "bool", "int", "str", "tuple", "list"], ∀ t ∈ ["int", "bool", "str", "tuple"], kitB u t = some (u == t || (u == "bool" && t == "int")) := by decide +kernel
theorem ty_mem {v : V} {d : PyData} (h : Dp K H v d) : tyD d ∈ ["NoneType", "bool", "int", "str", "tuple", "list"] := by
  cases h <;> simp [tyD]
theorem isi_r {v : V} {d : PyData} {t : String} {Q : V → Hp → Prop} (h : Dp K H v d) (ht : t ∈ ["int", "bool", "str", "tuple"]) (q : Q (.bl (isD d t)) H) : rIsi K [v, .ty t] H Q :=
  ⟨v, .ty t, .type (tyD d), .type t, isD d t, rfl, .ty _, ty_dp h, kit_ty (isi_tab _ (ty_mem h) t ht), q⟩
section
variable {X : Cx} {pos p p' : Pos} {e : Expr} {te : TE} {T : Str}
/-- isinstance(e, T) over data -/
def tIs (K : PySem.W.Frag) (t : String) (te : TE) : TE := fun σ H Q => te σ H fun v H1 => rIsi K [v, .ty t] H1 Q
theorem pe_is {t : String} (ht : t ∈ ["int", "bool", "str", "tuple"]) (hg : Gl X "isinstance") (hm : X.mg "isinstance" = none) (hgT : Gl X T) (hmT : X.mg T = none) (hvT : bootBuiltins T = some (.type t))
    (he : PE X e te) (hnT : T ≠ "__name__" := by decide) (hdT : (T == ("__debug__" : Str)) = false := by decide) (hs : starEach [e, .Name T p'] X.env = (false, eval e X.env) :: starEach [.Name T p'] X.env := by rfl) (hs2 : starEach [.Name T p'] X.env = (false, eval (.Name T p') X.env) :: starEach [] X.env := by rfl)
    (hpl : (backTo pos (starEach [.Name T p'] X.env)).any (·.1) = false := by rfl) :
    PE X (.Call (.Name "isinstance" p) [e, .Name T p'] [] pos) (tIs X.K t te) :=
  pe_callB (pos := pos) (p := p) call_isi hg hm boot_isinstance (pa_cons he (pa_cons (pe_bltn (pos := p') (v := .ty t) hgT hmT hvT rfl hnT hdT) pa_nil hs2) hs) (by decide) (by decide) hs hpl
theorem ps_dead {st : Stmt} : PS X st (fun _ _ _ => False) := ⟨fun _ _ _ _ _ _ h => h.elim⟩
end
end G341

set_option Elab.async false
set_option linter.all false
set_option maxRecDepth 100000
/-! a comprehension over a tuple whose items come one by one, by a plain function -/
namespace G341
open PySem PySem.Spec PyProof.Rows L2
variable {K : PySem.W.Frag}
theorem lc_tup {σ : L2.St} {H : Hp} {Q : VK} {g : TG} {te : TE} {vs : List Nat} {a : Addr} {xs : List V} (hq : SqT K H a xs) (hl : xs.length < sizeLine) (f : Nat → V)
    (step : ∀ (i : Nat) (x : V) (H3 : Hp) (C : VK), xs[i]? = some x → Same H H3 → (∀ H4, Same H3 H4 → C (f i) H4) → g x (wipe σ vs) H3 fun σ2 H2 => wipe σ2 vs = wipe σ vs ∧ te σ2 H2 C)
    (fin : ∀ D H', Same H H' → H' D = some (.lst ((List.range xs.length).map f)) → Q (.ref D) H') :
    ∀ D, H D = none → ∃ W : Nat → Nat → Hp → Prop, (∃ m, W 0 m (upd H D (.lst []))) ∧ ∀ i m H, W i m H →
      ((Itt K a).stop i H ∧ Q (.ref D) H) ∨ ((Itt K a).go i H ∧ ∃ Nx : Hp → Prop, (∀ H', Nx H' → ∃ m', m' < m ∧ W (i + 1) m' H') ∧ ∀ x H', (Itt K a).yld i H x H' → g x (wipe σ vs) H' fun σ2 H2 => wipe σ2 vs = wipe σ vs ∧ tYes σ2 H2 fun b H3 =>
        if b = true then te σ2 H3 fun y H4 => ∃ acc, H4 D = some (.lst acc) ∧ acc.length < sizeLine ∧ Nx (upd H4 D (.lst (acc ++ [y]))) else Nx H3) := by
  intro D hD
  refine ⟨fun i m H' => m = xs.length - i ∧ i ≤ xs.length ∧ Same H H' ∧ H' D = some (.lst ((List.range i).map f)), ⟨xs.length, rfl, Nat.zero_le _, same_up hD, by rw [upd_same]; rfl⟩, ?_⟩
  rintro i m H3 ⟨em, hi, s3, d3⟩
  have hq3 := same_sqt (K := K) s3 hq
  by_cases lt : i < xs.length
  · refine .inr ⟨⟨xs, xs[i], hq3, List.getElem?_eq_getElem lt⟩, fun H' => Same H H' ∧ H' D = some (.lst ((List.range (i + 1)).map f)), fun H' ⟨s', d'⟩ => ⟨xs.length - (i + 1), by omega, rfl, lt, s', d'⟩, ?_⟩
    rintro x H' ⟨eH, hx⟩
    rw [eH]
    refine step i x H3 _ (hx xs hq3) s3 fun H4 s4 => ?_
    refine ⟨_, s4 _ _ d3, by rw [List.length_map, List.length_range]; omega, fun b o e => ?_, ?_⟩
    · rw [upd_ne (ne_of_none e hD)]
      exact s4 _ _ (s3 _ _ e)
    · rw [upd_same, List.range_succ, List.map_append]
      rfl
  · have ei : i = xs.length := by omega
    subst ei
    exact .inl ⟨⟨xs, hq3, Nat.le_refl _⟩, fin D H3 s3 d3⟩
theorem lc_tupV {σ : L2.St} {H : Hp} {Q : VK} {g : TG} {te : TE} {vs : List Nat} {n : Nat} {a : Addr} {xs : List V} (hv : σ[n]? = some (some (.ref a))) (hq : SqT K H a xs) (hl : xs.length < sizeLine) (f : Nat → V)
    (step : ∀ (i : Nat) (x : V) (H3 : Hp) (C : VK), xs[i]? = some x → Same H H3 → (∀ H4, Same H3 H4 → C (f i) H4) → g x (wipe σ vs) H3 fun σ2 H2 => wipe σ2 vs = wipe σ vs ∧ te σ2 H2 C)
    (fin : ∀ D H', Same H H' → H' D = some (.lst ((List.range xs.length).map f)) → Q (.ref D) H') : tLc (iTup K (tVar n)) g tYes te vs σ H Q :=
  ⟨_, hv, a, rfl, ⟨_, hq⟩, lc_tup hq hl f step fin⟩
end G341

set_option Elab.async false
set_option linter.all false
set_option maxRecDepth 100000
/-! a comprehension of two clauses over a tuple of tuples -/
namespace G341
open PySem PySem.Spec PyProof.Rows L2
variable {K : PySem.W.Frag}
/-- what a walk over the tuple at b does: at each turn one item, in the form R -/
structure Wlk (K : PySem.W.Frag) (J : Addr → It) (R : Nat → V → V → Hp → Prop) : Prop where
  go : ∀ b ys i H, SqT K H b ys → i < ys.length → (J b).go i H
  stop : ∀ b ys i H, SqT K H b ys → ys.length ≤ i → (J b).stop i H
  yld : ∀ b ys i H x H', SqT K H b ys → (J b).yld i H x H' → Same H H' ∧ ∃ y, ys[i]? = some y ∧ R i x y H'
theorem wlk_tup : Wlk K (Itt K) (fun _ x y _ => x = y) where
  go := fun b ys i H h lt => ⟨ys, ys[i], h, List.getElem?_eq_getElem lt⟩
  stop := fun b ys i H h le => ⟨ys, h, le⟩
  yld := fun b ys i H x H' h z => ⟨by rw [z.1]; exact Same.refl _, x, z.2 ys h, rfl⟩
theorem wlk_en : Wlk K (ItE K) (fun i x y H' => ∃ T, x = .ref T ∧ H' T = some (.tup [.int (i : Nat), y])) where
  go := fun b ys i H h lt => ⟨ys, ys[i], h, List.getElem?_eq_getElem lt⟩
  stop := fun b ys i H h le => ⟨ys, h, le⟩
  yld := fun b ys i H x H' h z => by
    obtain ⟨T, y, rfl, hT, rfl, hy⟩ := z
    exact ⟨same_up hT, y, hy ys h, T, rfl, upd_same⟩
def catF (f : Nat → Nat → V) (n : Nat → Nat) : Nat → List V
  | 0 => []
  | i + 1 => catF f n i ++ (List.range (n i)).map (f i)
theorem lc2_tup {J : Addr → It} {R : Nat → V → V → Hp → Prop} (WJ : Wlk K J R) {σ : L2.St} {H : Hp} {Q : VK} {k : Nat} {g1 : TG} {wi1 : TI} {te : TE} {vs vs1 : List Nat} {a : Addr} {xs : List V} (hq : SqT K H a xs)
    (ys : Nat → List V) (bs : Nat → Addr) (hb : ∀ i < xs.length, SqT K H (bs i) (ys i)) (f : Nat → Nat → V)
    (hl2 : ∀ i < xs.length, ∀ j < (ys i).length, (catF f (fun i => (ys i).length) i).length + j < sizeLine)
    (hw : ∀ x : V, wipe ((wipe σ vs).set k (some x)) vs = wipe σ vs)
    (out : ∀ (i : Nat) (x : V) (H3 : Hp) (C : It → Hp → Prop), xs[i]? = some x → Same H H3 → C (J (bs i)) H3 → wi1 ((wipe σ vs).set k (some x)) H3 C)
    (step : ∀ (i j : Nat) (x z y : V) (H5 : Hp) (C : VK), xs[i]? = some x → (ys i)[j]? = some y → Same H H5 → R j z y H5 → (∀ H6, Same H5 H6 → C (f i j) H6) →
      g1 z (wipe ((wipe σ vs).set k (some x)) vs1) H5 fun σ3 H5 => wipe σ3 vs1 = wipe ((wipe σ vs).set k (some x)) vs1 ∧ te σ3 H5 C)
    (fin : ∀ D H', Same H H' → H' D = some (.lst (catF f (fun i => (ys i).length) xs.length)) → Q (.ref D) H') :
    ∀ D, H D = none → ∃ W : Nat → Nat → Hp → Prop, (∃ m, W 0 m (upd H D (.lst []))) ∧ ∀ i m H, W i m H →
      ((Itt K a).stop i H ∧ Q (.ref D) H) ∨ ((Itt K a).go i H ∧ ∃ Nx : Hp → Prop, (∀ H', Nx H' → ∃ m', m' < m ∧ W (i + 1) m' H') ∧ ∀ x H', (Itt K a).yld i H x H' → gName k x (wipe σ vs) H' fun σ2 H2 => wipe σ2 vs = wipe σ vs ∧ tYes σ2 H2 fun b H3 =>
        if b = true then wi1 σ2 H3 fun J1 H4 => ∃ W1 : Nat → Nat → Hp → Prop, (∃ m, W1 0 m H4) ∧ ∀ j k H, W1 j k H →
          (J1.stop j H ∧ Nx H) ∨ (J1.go j H ∧ ∃ Nx1 : Hp → Prop, (∀ H', Nx1 H' → ∃ k', k' < k ∧ W1 (j + 1) k' H') ∧ ∀ x H', J1.yld j H x H' → g1 x (wipe σ2 vs1) H' fun σ3 H5 => wipe σ3 vs1 = wipe σ2 vs1 ∧ tYes σ3 H5 fun b H6 =>
            if b = true then te σ3 H6 fun y H7 => ∃ acc, H7 D = some (.lst acc) ∧ acc.length < sizeLine ∧ Nx1 (upd H7 D (.lst (acc ++ [y]))) else Nx1 H6)
        else Nx H3) := by
  intro D hD
  refine ⟨fun i m H' => m = xs.length - i ∧ i ≤ xs.length ∧ Same H H' ∧ H' D = some (.lst (catF f (fun i => (ys i).length) i)), ⟨xs.length, rfl, Nat.zero_le _, same_up hD, upd_same⟩, ?_⟩
  rintro i m H3 ⟨em, hi, s3, d3⟩
  have hq3 := same_sqt (K := K) s3 hq
  by_cases lt : i < xs.length
  · refine .inr ⟨⟨xs, xs[i], hq3, List.getElem?_eq_getElem lt⟩, fun H' => Same H H' ∧ H' D = some (.lst (catF f (fun i => (ys i).length) (i + 1))), fun H' ⟨s', d'⟩ => ⟨xs.length - (i + 1), by omega, rfl, lt, s', d'⟩, ?_⟩
    rintro x H' ⟨eH, hx⟩
    rw [eH]
    have hx := hx xs hq3
    refine ⟨hw x, out i x H3 _ hx s3 ?_⟩
    refine ⟨fun j k H' => k = (ys i).length - j ∧ j ≤ (ys i).length ∧ Same H H' ∧ H' D = some (.lst (catF f (fun i => (ys i).length) i ++ (List.range j).map (f i))), ⟨(ys i).length, rfl, Nat.zero_le _, s3, by rw [d3]; simp⟩, ?_⟩
    rintro j k' H4 ⟨ek, hj, s4, d4⟩
    have hb4 := same_sqt (K := K) s4 (hb i lt)
    by_cases lj : j < (ys i).length
    · refine .inr ⟨WJ.go _ _ j H4 hb4 lj, fun H' => Same H H' ∧ H' D = some (.lst (catF f (fun i => (ys i).length) i ++ (List.range (j + 1)).map (f i))), fun H' ⟨s', d'⟩ => ⟨(ys i).length - (j + 1), by omega, rfl, lj, s', d'⟩, ?_⟩
      intro z H5 hz
      obtain ⟨s5, y, hy, r5⟩ := WJ.yld _ _ j H4 z H5 hb4 hz
      refine step i j x z y H5 _ hx hy (s4.trans s5) r5 fun H6 s6 => ?_
      refine ⟨_, s6 _ _ (s5 _ _ d4), by rw [List.length_append, List.length_map, List.length_range]; exact hl2 i lt j lj, fun b o e => ?_, ?_⟩
      · rw [upd_ne (ne_of_none e hD)]
        exact s6 _ _ (s5 _ _ (s4 _ _ e))
      · rw [upd_same, List.range_succ, List.map_append, List.append_assoc]
        rfl
    · have ej : j = (ys i).length := by omega
      subst ej
      exact .inl ⟨WJ.stop _ _ _ H4 hb4 (Nat.le_refl _), s4, d4⟩
  · have ei : i = xs.length := by omega
    subst ei
    exact .inl ⟨⟨xs, hq3, Nat.le_refl _⟩, fin D H3 s3 d3⟩
end G341

set_option Elab.async false
set_option linter.all false
set_option maxRecDepth 100000
set_option maxHeartbeats 2000000
/-! the error of a text: its __init__ says super().__init__(..), then stores a field -/
namespace G341
open PySem PySem.W PySem.Calls PyProof.Rows PySem.HandSPX
def tx (i : Nat) : Stmt := PySem.Challenge.pw_memoryviews_k48_whole_texts.main.body.getD i (.Pass ⟨0, 0, 0, 0⟩)
abbrev sBad : Stmt := L2.inClass (tx 3) 0
/-- what the written part says of BadText, at C, of its __init__, at fI, of the cell of its __class__, at cc, of its code, at cda -/
structure BadTxt (prog : Program) (K : Frag) (mg : Str → Option Value) (C fI cc cda : Addr) : Prop where
  gC : mg "BadText" = some (.ref C)
  gS : mg "super" = none
  cls : ∃ nm q N bs bm sn sub ab col dd k0 k1 k2 k3 k5, K.lookup C = some (excClassObj nm q C N bs bm true sn sub ab col dd k0 k1 k2 k3 k5 "ValueError.__new__") ∧ refsVE bm = true
  sa : findIn K (.ref C) "__setattr__" = some (some (.builtin "object.__setattr__"))
  ga : findIn K (.ref C) "__getattribute__" = some (some (.builtin "BaseException.__getattribute__"))
  gg : findIn K (.ref C) "__getattr__" = some none
  noN : findIn K (.ref C) "index" = some none
  iC : findIn K (.ref C) "__init__" = some (some (.ref fI))
  tC : typeIn K (.ref fI) = some (.type "function")
  kC : keepIn K (.ref C) = true
  exC : subIn K (.ref C) (.type "BaseException") = some true
  veC : subIn K (.ref C) (.type "ValueError") = some true
  tyC : typeIn K (.ref C) = some (.type "type")
  hdC : hasDictIn K C = true
  te : exmOne K (.ref C) (.ref C) = some true
  self : mroIn K C (.ref C) = some true
  sup : ks_superIn K C C "__init__" = some (some (.builtin "ValueError.__init__"))
  opq : nsIn K cStatics "thirdparty.any" = some none
  top : (prog.main.scope.names.lookup ("super" : Str)).isSome = false
  fn : ∃ (oc : Value) (od : Option Addr) (doc pm : Value) (an : Option Addr) (ct : Value) (osl : Array (Option Value)),
    K.lookup fI = some ⟨oc, od, .func (ksFn "__init__" "BadText.__init__" (L2.defArgs sBad) (L2.defBody sBad) (L2.defScope sBad) .none .none doc pm an (.ref cda) ct cc), osl⟩ ∧ codeIn K (.ref cda) "BadText.__init__" = true
  cell : ∃ cl cld csl, K.lookup cc = some ⟨cl, cld, .cell (some (.ref C)), csl⟩
  code : ∃ ccl cdd vs ccs file tf, K.lookup cda = some ⟨ccl, cdd, .fields vs, ccs⟩ ∧ vs[2]? = some (.str file tf) ∧ ((prog.main.file : Str) == file) = true
/-- what __init__ leaves of a fresh error at x -/
structure BadEnd (h h' : Heap) (x C dx t1 : Addr) (v : Value) : Prop where
  keep : ∀ b o, b ≠ x → h.get? b = some o → h'.get? b = some o
  obj : h'.get? x = some { cls := .ref C, dict := some dx, data := .fields #[.ref t1, .none, .none, .none, .bool false, .none] }
  dbig : h.objs.size ≤ dx
  dne : dx ≠ x
  ns : h'.Ns1 dx (fun y => if y = "index" then some v else none)
theorem sB1 : ∀ y ∈ (L2.defScope sBad).names, y.2 ≠ .cell := by decide +kernel
theorem sB2 : (L2.defScope sBad).names.lookup ("self" : Str) = some .local := by decide +kernel
theorem sB3 : (L2.defScope sBad).names.lookup ("index" : Str) = some .local := by decide +kernel
theorem sB4 : (L2.defScope sBad).names.lookup ("super" : Str) = some .globalImplicit := by decide +kernel
theorem sB5 : (L2.defScope sBad).names.lookup ("__class__" : Str) = some .free := by decide +kernel
section
variable {prog : Program} {w : World} {A : Around} {E : Value → Shared → Prop} {R : Result → Shared → Prop} {s : Shared} {K : Frag} {mg : Str → Option Value} {C fI cc cda : Addr}
/-- the bound ValueError.__init__ called: the error's args are laid anew -/
theorem call_mw {h : Heap} {g : Array GenState} {d : Drawn} {t : Nat} {os : OsState} {nm q : Str} {N : Addr} {bs bm : List Value} {hdct : Bool} {sn : List Str} {sub : List Value} {ab : Bool} {col : Option Bool} {dd : Option Addr} {k0 k1 k2 k3 k5 : Option Value} {u e t0 : Addr} {rest : List Value} {Q : Value → Shared → Prop}
    (hC : h.get? C = some (excClassObj nm q C N bs bm hdct sn sub ab col dd k0 k1 k2 k3 k5 "ValueError.__new__")) (he : h.get? e = some (excO C t0)) (hu : h.get? u = some (kxs_mw "ValueError.__init__" e)) (hz : rest.length ≤ sizeLine)
    (hq : ∀ h' t1, (∀ b o, b ≠ e → h.get? b = some o → h'.get? b = some o) → h'.get? e = some (excO C t1) → Q .none ⟨h', g, d, t, os⟩) : wpAny (model prog w) A (call (.ref u) rest) Q E ⟨h, g, d, t, os⟩ := by
  have c1 : (Value.type "method-wrapper" == Value.type "method" || Value.type "method-wrapper" == Value.type "builtin_function_or_method" || Value.type "method-wrapper" == Value.type "method-wrapper") = true := by decide
  refine wpAny_call (codeAny_of_tree ?_)
  show wpAny _ _ (callAny (.ref u) ⟨rest, []⟩) _ _ _
  simp only [callAny]
  refine wpAny_bind (wpAny_load hu ?_)
  simp only [kxs_mw, c1, if_true]
  refine KFB.if_so (by decide) (wpAny_bind (check_bound_init F.excCall_ValueError hC he rfl (wpAny_bind (wpAny_pure (wpAny_pure ⟨Code.quiet_builtin _ (by decide +kernel), codeAny_builtin F.excBase_ValueError.initEntry ?_⟩)))))
  rw [Around.under_plainId F.excBase_ValueError.init.plain _]
  wp_walk
  refine hq _ h.objs.size (fun b o hb z => (Heap.get?_update_other _ _ (Ne.symm hb)).trans (Heap.get?_push_of_some _ z)) ?_
  rw [Heap.get?_update_self _ (Heap.get?_push_of_some _ he) rfl]
  rfl
theorem bad_init (T : BadTxt prog K mg C fI cc cda) {x t0 : Addr} {v : Value} (X : K.In s.heap) (hlim : s.heap.NoLimit) (G : s.heap.Ns mainGlobals mg) (Bt : ∃ mb, s.heap.Ns builtinsNs mb ∧ ∀ y : Str, y ≠ "__name__" → mb y = bootBuiltins y)
    (hx : s.heap.get? x = some (excO C t0)) (hnx : K.lookup x = none) (hroom : A.depth < recursionLimit)
    (hq : ∀ h' tk dx t1, BadEnd s.heap h' x C dx t1 v → R (.ok (.ret .none)) { s with heap := h', toks := tk }) :
    codeAny (model prog w) A (.call (.ref fI) ⟨[.ref x, v], []⟩) R s := by
  obtain ⟨oc, od, doc, pm, an, ct, osl, ho, hcd⟩ := T.fn
  refine ks_codeAny_call_defAt (binds := [("self", .ref x), ("index", v)]) hroom (X _ _ ho) rfl hlim (codeRec_of X hcd) rfl (BindsTo.of_eq (by first | rfl | with_unfolding_all rfl)) sB1 (fun y hy => ?_) (fun h₀ hns hk => ?_) rfl rfl rfl
  · rw [List.mem_cons, List.mem_singleton] at hy
    rcases hy with rfl | rfl
    · exact sB2
    · exact sB3
  obtain ⟨nm, q, N, bs, bm, sn, sub, ab, col, dd, k0, k1, k2, k3, k5, hC, hbm⟩ := T.cls
  obtain ⟨cl, cld, csl, hcell⟩ := T.cell
  obtain ⟨ccl, cdd, vs, ccs, file, tf, hcode, hvs, hfile⟩ := T.code
  obtain ⟨mb, hb1, hb2⟩ := Bt
  have X₀ : K.In h₀ := X.keeps hk
  have hx₀ := hk _ _ hx
  refine ks_wpAt_execs_cons (ks_wpAt_Expr_any (ks_wpAt_MethodCall ?_))
  refine ks_wpAt_super_base (fd := ksFn "__init__" "BadText.__init__" (L2.defArgs sBad) (L2.defBody sBad) (L2.defScope sBad) .none .none doc pm an (.ref cda) ct cc) sB4 sB5 (by decide +kernel) rfl (X₀ _ _ ho) rfl rfl rfl (X₀ _ _ hcode) rfl hvs hfile T.top ?_
  refine ks_loadName_global rfl sB4 (loadGlobal_builtin (G.keeps hk) T.gS (hb1.keeps hk) (hb2 "super" (by decide +kernel)) ⟨by decide +kernel, ?_⟩)
  refine wpAny_loadName_free rfl sB5 rfl ⟨_, X₀ _ _ hcell, rfl⟩ ?_
  refine wpAny_loadName_local rfl sB2 hns (by rfl) ?_
  have hcl : clsIn K C = some { name := nm, bases := bs, mro := .ref C :: bm, ns := N, qualname := q, hasDict := true, slotNames := sn, subclasses := sub, abstract := ab, collection := col, hasDel := false } := by unfold clsIn; rw [hC] <;> rfl
  have hsup := T.sup
  unfold ks_superIn at hsup
  rw [hcl] at hsup
  have hLx : s.heap.objs.size ≠ x := Nat.ne_of_gt (Heap.lt_size hx)
  obtain ⟨hp, g, dr, tk, os⟩ := s
  refine ks_wpAny_isType_cls (X₀ _ _ hC) rfl ⟨rfl, ?_⟩
  refine ks_wpAny_call_super (X₀ _ _ hC) rfl hx₀ rfl (fun c e => by cases e) (looks_mroIn X₀ T.self) fun h₁ hso kk₁ => ?_
  have X₁ : K.In h₁ := X₀.keeps kk₁
  have I₁ : InstAt h₁ x (excO C t0) C none := ⟨kk₁ _ _ hx₀, rfl, rfl, trivial⟩
  refine kxs_getMethod kxs_ValueError hso (looks_opaque X₁ T.opq) (fun A Q E s k q => wpAny_bind ((looks_clsIn X₁ hcl) A _ E s k (wpAny_pure q))) rfl X₁ hsup (I₁.type.andThen (looks_subIn X₁ T.veC)) (ks_ne X₁ I₁ hcl) (by decide +kernel) ?_
  refine kxs_callWith (i := "ValueError.__init__") (x := x) rfl (evalArgs_plain (spliced_cons (Constant_str (k := 0) (pos := ⟨9, 25, 9, 37⟩) (spliced_nil ?_))))
  have hu : (h₁.push (kxs_mw "ValueError.__init__" x)).get? h₁.objs.size = some (kxs_mw "ValueError.__init__" x) := Heap.get?_push_at rfl rfl
  have k₂ : ∀ b o, h₁.get? b = some o → (h₁.push (kxs_mw "ValueError.__init__" x)).get? b = some o := fun b o e => Heap.get?_push_of_some _ e
  refine ⟨hu, ?_⟩
  refine call_mw (k₂ _ _ (X₁ _ _ hC)) (k₂ _ _ (kk₁ _ _ hx₀)) hu (by show (1 : Nat) ≤ sizeLine; decide) fun h₃ t1 k₃ hx₃ => ?_
  -- self.index = index
  have kall : ∀ b o, b ≠ x → hp.get? b = some o → h₃.get? b = some o := fun b o hb e => k₃ b o hb (k₂ _ _ (kk₁ _ _ (hk _ _ e)))
  have X₃ : K.In h₃ := fun b o e => k₃ b o (fun z => by rw [z, hnx] at e; cases e) (k₂ _ _ (X₁ _ _ e))
  have hns₃ : h₃.Ns hp.objs.size fun y => List.lookup y [(("self" : Str), Value.ref x), (("index" : Str), v)].reverse := by
    obtain ⟨oL, es, ep, hL, r⟩ := hns
    exact ⟨oL, es, ep, k₃ _ _ hLx (k₂ _ _ (kk₁ _ _ hL)), r⟩
  show PySem.wpAt _ _ _ (execs _ _) _ _ _
  refine ks_wpAt_execs_cons (ks_wpAt_Assign_Attr (wpAt_of_wpAny (wpAny_Name (wpAny_loadName_local rfl sB3 hns₃ (by rfl) ?_) (by decide +kernel))))
  refine wpAny_Name (wpAny_loadName_local rfl sB2 hns₃ (by rfl) ?_) (by decide +kernel)
  refine set_plain X₃ (ox := excO C t1) (od := none) ⟨hx₃, rfl, rfl, trivial⟩ T.sa ?_
  refine exc_osa X₃ hx₃ hcl (show refsVE (.ref C :: bm) = true from hbm) rfl T.noN (fun h₄ tk₄ dx k₄ dn dne hx₄ hn₄ => ?_)
  show PySem.wpAt _ _ _ (execs _ _) _ _ _
  refine wpAt_of_wpAny (wpAny_execs_nil (hq h₄ tk₄ dx t1 ⟨fun b o hb e => k₄ b o hb (kall b o hb e), hx₄, Nat.le_of_lt (Nat.lt_of_lt_of_le hns₃.lt dn), dne, hn₄⟩))
/-- a made BadText -/
structure BadMade (h h' : Heap) (e C d : Addr) (v : Value) : Prop where
  keep : ∀ b o, h.get? b = some o → h'.get? b = some o
  new : h.objs.size ≤ e
  obj : ∃ oe vs, h'.get? e = some oe ∧ oe.cls = .ref C ∧ oe.dict = some d ∧ oe.data = .fields vs ∧ vs[1]? = some .none
  dbig : h.objs.size ≤ d
  dne : d ≠ e
  ns : h'.Ns1 d (fun y => if y = "index" then some v else none)
theorem bad_made (T : BadTxt prog K mg C fI cc cda) {v : Value} (X : K.In s.heap) (hlim : s.heap.NoLimit) (G : s.heap.Ns mainGlobals mg) (Bt : ∃ mb, s.heap.Ns builtinsNs mb ∧ ∀ y : Str, y ≠ "__name__" → mb y = bootBuiltins y) (hroom : A.depth + 1 < recursionLimit)
    (hq : ∀ h' tk e d, BadMade s.heap h' e C d v → R (.ok (.ret (.ref e))) { s with heap := h', toks := tk }) : codeAny (model prog w) A (.call (.ref C) ⟨[v], []⟩) R s := by
  obtain ⟨nm, q, N, bs, bm, sn, sub, ab, col, dd, k0, k1, k2, k3, k5, hC, hbm⟩ := T.cls
  obtain ⟨mb, hb1, hb2⟩ := Bt
  obtain ⟨hp, g, dr, tk, os⟩ := s
  have k : ∀ b o, hp.get? b = some o → ((hp.push (kdv_tup [v])).push (excO C hp.objs.size)).get? b = some o := fun b o e => Heap.get?_push_of_some _ (Heap.get?_push_of_some _ e)
  have at1 : ((hp.push (kdv_tup [v])).push (excO C hp.objs.size)).get? (hp.objs.size + 1) = some (excO C hp.objs.size) := by heap_get
  have free1 : K.lookup (hp.objs.size + 1) = none := by
    cases e : K.lookup (hp.objs.size + 1) with
    | none => rfl
    | some o =>
      have z := Heap.lt_size (X _ _ e)
      have z : hp.objs.size + 1 < hp.objs.size := z
      omega
  refine call_own F.excBase_ValueError (fun Y => refsVE_contains Y bm hbm) (X _ _ hC) (looks_findIn X T.iC) (fun self => bind_fn X self T.tC) (by show (1 : Nat) ≤ sizeLine; decide) ?_
  refine bad_init (s := ⟨(hp.push (kdv_tup [v])).push (excO C hp.objs.size), g, dr, tk, os⟩) T (X.keeps k) (hlim.keeps k) (G.keeps k) ⟨mb, hb1.keeps k, hb2⟩ at1 free1 hroom fun h' tk' dx t1 M => ?_
  have big : hp.objs.size + 1 + 1 ≤ dx := by
    have z := M.dbig
    rw [Heap.size_push, Heap.size_push] at z
    exact z
  refine ⟨rfl, hq h' tk' (hp.objs.size + 1) dx ⟨fun b o e => M.keep b o (fun z => ?_) (k b o e), Nat.le_succ _, ⟨_, _, M.obj, rfl, rfl, rfl, rfl⟩, by show hp.objs.size ≤ dx; omega, M.dne, M.ns⟩⟩
  have y : b < hp.objs.size := Heap.lt_size e
  rw [z] at y
  exact absurd y (Nat.not_lt_of_le (Nat.le_succ _))
end
end G341
namespace G341
open PySem PySem.Spec PyProof.Rows L2
theorem rel_index {v : V} {v' : Value} (r : RelV v v') (f : Str) : RelO (List.lookup f [(("index" : Str), v)]) (if f = "index" then some v' else none) := by
  by_cases e : f = "index"
  · subst e
    rw [if_pos rfl, show List.lookup ("index" : Str) [(("index" : Str), v)] = some v by simp [List.lookup]]
    exact r
  · have e' : (f == ("index" : Str)) = false := by simpa using e
    rw [if_neg e, show List.lookup f [(("index" : Str), v)] = none by simp [List.lookup, e']]
    trivial
section
variable {X : Cx} {C fI cc cda : Addr}
/-- BadText(e) -/
def tMkBad (C : Addr) (ta : TA) : L2.St → Hp → XK → Prop := fun σ H Q => ta σ H fun vs H1 => ∃ v, vs = [v] ∧ ∀ d, H1 d = none → Q (.ref C) (some d) (upd H1 d (.xd [(("index" : Str), v)]))
theorem pmk_bad {a : Expr} {ta : TA} {p pos : Pos} {k : Nat} (T : BadTxt X.prog X.K X.mg C fI cc cda) (hr : Room k X.A) (ha : PA X [a] ta) (hg : Gl X "BadText" := by rfl)
    (he : starEach (a :: []) X.env = (false, eval a X.env) :: starEach [] X.env := by rfl) (hpl : (backTo pos (starEach [] X.env)).any (·.1) = false := by rfl) : PMk X (.Call (.Name "BadText" p) [a] [] pos) (tMkBad C ta) := by
  intro pins s σ H Q I h
  refine wpAny_Call_Name_kw (ld_glob I hg T.gC (PySem.W.callWith_K (h₀ := X.base) I.ok.mod.kin T.kC (thn (ha.run pos pins s σ H _ I h) fun us s1 ⟨vs, H1, I1, r1, v, ev, q1⟩ => ⟨I1.kIn, ?_⟩) he hpl))
  subst ev
  obtain ⟨v', eu, rv⟩ := vals1 r1
  subst eu
  show wpAny _ _ (call (.ref C) [v']) _ _ _
  have hlim := I1.nolimit
  have hG : s1.heap.Ns mainGlobals X.mg := I1.mod.glob.keeps I1.bk
  have hB : ∃ mb, s1.heap.Ns builtinsNs mb ∧ ∀ y : Str, y ≠ "__name__" → mb y = bootBuiltins y := by
    obtain ⟨mb, h1, h2⟩ := I1.mod.blt
    exact ⟨mb, h1.keeps I1.bk, h2⟩
  obtain ⟨hp, g, dr, tk, os⟩ := s1
  refine wpAny_call (bad_made T I1.kIn hlim hG hB (by have := hr.dp; omega) fun h' tk' e d M => ?_)
  show MkP X pins σ Q (.ref e) ⟨h', g, dr, tk', os⟩
  obtain ⟨oe, fv, hoe, hc, hd, hdat, h1⟩ := M.obj
  obtain ⟨G', g1, g2⟩ := restrict h' fun b => decide (b ≠ e)
  have gk : ∀ b, b ≠ e → G'.get? b = h'.get? b := fun b hb => g1 b (decide_eq_true hb)
  have ge : G'.get? e = none := g2 e (by simp)
  have old : ∀ b o, hp.get? b = some o → G'.get? b = some o := fun b o z => (gk b (Nat.ne_of_lt (Nat.lt_of_lt_of_le (Heap.lt_size z) M.new))).trans (M.keep b o z)
  have ob : ObjOk X.prog X.w (upd H1 d (.xd [(("index" : Str), v)])) G' d (.xd [(("index" : Str), v)]) := ⟨_, M.ns.at (fun o z => (gk d M.dne).trans z), fun f => rel_index rv f⟩
  have J : Inv X pins σ (upd H1 d (.xd [(("index" : Str), v)])) ⟨G', g, dr, tk', os⟩ := I1.laid (t' := tk') old M.dbig ob
  refine ⟨e, oe, fv, ⟨G', g, dr, tk', os⟩, _, .ref C, some d, rfl, J, fun b o z => ?_, ge, hoe, ⟨hc, hd⟩, hdat, h1, ?_, rfl, I1.bare, raises_own T.exC T.tyC, q1 d (I1.hok.fresh M.dbig)⟩
  · by_cases hb : b = e
    · have z : G'.get? b = some o := z
      rw [hb, ge] at z
      cases z
    · exact (gk b hb).symm.trans z
  · rw [upd_ne (Ne.symm M.dne)]
    exact I1.hok.fresh M.new
/-- raise BadText(e) -/
def tRaiseBad (C : Addr) (W : WX) (ta : TA) : TS := fun _ σ H => tMkBad C ta σ H fun cls d H' => W cls d σ H'
theorem ps_raiseBad {a : Expr} {ta : TA} {W : WX} {p pos pos2 : Pos} {k : Nat} (hc : X.calm = true) (T : BadTxt X.prog X.K X.mg C fI cc cda) (hr : Room k X.A) (tk : Takes X W) (ha : PA X [a] ta) (hg : Gl X "BadText" := by rfl)
    (he : starEach (a :: []) X.env = (false, eval a X.env) :: starEach [] X.env := by rfl) (hpl : (backTo pos (starEach [] X.env)).any (·.1) = false := by rfl) :
    PS X (.Raise (some (.Call (.Name "BadText" p) [a] [] pos)) none pos2) (tRaiseBad C W ta) := ps_raise hc tk (pmk_bad T hr ha hg he hpl)
/-- error.index of the error that the suite holds -/
def tIndex (C : Addr) (a : Addr) (cls : Value) (d : Option Addr) (te : TE) : TE := fun σ H Q => te σ H fun x H1 => x = .ref a ∧ cls = .ref C ∧ ∃ (dd : Addr) (v : V), d = some dd ∧ H1 dd = some (.xd [(("index" : Str), v)]) ∧ Q v H1
theorem pe_index {a : Addr} {oe : Obj} {cls : Value} {d : Option Addr} {pn : List (Addr × Obj)} {e : Expr} {te : TE} {pos : Pos} (T : BadTxt X.prog X.K X.mg C fI cc cda) (hz : Zc cls d oe) (hf : ∃ vs, oe.data = .fields vs) (he : PE (X.suite a ((a, oe) :: pn)) e te)
    (hb : attributeBase e "index" X.env (eval e X.env) = eval e X.env := by rfl) : PE (X.suite a ((a, oe) :: pn)) (.Attribute e "index" pos) (tIndex C a cls d te) := by
  refine ⟨fun pins s σ H Q I h => ?_⟩
  refine attr_of hb (thn (he.run pins s σ H _ I h) fun u s1 ⟨x, H1, I1, rx, ex, ec, dd, v, ed, ea, q⟩ => ?_)
  subst ex ec ed
  cases rx
  obtain ⟨ha, _⟩ := I1.pin (a, oe) (List.mem_append_left _ List.mem_cons_self)
  obtain ⟨vs, hd⟩ := hf
  obtain ⟨mA, hns, hr⟩ := (show ObjOk X.prog X.w H1 s1.heap dd (.xd [(("index" : Str), v)]) from I1.hok dd _ ea)
  obtain ⟨od, ho, hl⟩ := lookIn_ns hns
  have l : List.lookup ("index" : Str) [(("index" : Str), v)] = some v := by simp [List.lookup]
  obtain ⟨u, hu, ru⟩ := RelO.some_of (v := v) (o := mA "index") (by rw [← l]; exact hr "index")
  have J : PySem.W.InstAt s1.heap a oe C (some od) := ⟨ha, hz.1, by unfold PySem.W.notCls; rw [hd] <;> rfl, by rw [hz.2]; exact ho⟩
  exact HandSPX.exc_get I1.kIn J T.ga T.gg T.exC (PySem.W.findObj_own T.hdC T.noN rfl (by rw [hl, hu])) (handed_of ru) ⟨v, H1, I1.tok _, ru, q⟩
end
end G341

set_option Elab.async false
set_option linter.all false
set_option maxRecDepth 100000
/-! the text by places, numbers, rows -/
namespace G341
open PySem PySem.Spec PyProof.Rows L2

/-- a def of the text, as the top has left it -/
structure Df (K : PySem.W.Frag) (mg : Str → Option Value) (nm : Str) (st : Stmt) (ps : List Str) (f : Addr) (fd : FuncData) : Prop where
  F : Fun K nm nm st f fd
  b : Binds K fd ps []
  g : mg nm = some (.ref f)
/-- the built-in names, the numbers of the top -/
structure Bn (mg : Str → Option Value) : Prop where
  isi : mg "isinstance" = none
  int : mg "int" = none
  bool : mg "bool" = none
  str : mg "str" = none
  tuple : mg "tuple" = none
  list : mg "list" = none
  len : mg "len" = none
  all : mg "all" = none
  enum : mg "enumerate" = none
  sorted : mg "sorted" = none
  range : mg "range" = none
  abs : mg "abs" = none
  hands : ∃ t, mg "MOST_HANDS" = some (.int 4 t)
  rows : ∃ t, mg "MOST_ROWS" = some (.int 16 t)
  places : ∃ t, mg "PLACES" = some (.int 4 t)
  values : ∃ t, mg "VALUES" = some (.int 4 t)
  regs : ∃ t, mg "REGISTERS" = some (.int 3 t)

theorem ift {c : Bool} {a b : Prop} (e : c = true) (h : a) : if c = true then a else b := by rw [if_pos e]; exact h
theorem iff_ {c : Bool} {a b : Prop} (e : c = false) (h : b) : if c = true then a else b := by
  rw [if_neg (by rw [e]; exact Bool.false_ne_true)]
  exact h
def numD : PyData → Int → Int → Bool
  | .int n, lo, hi => decide (lo ≤ n) && decide (n ≤ hi)
  | _, _, _ => false
def spNum (K : PySem.W.Frag) : Sp := fun vs H Q _ => ∃ (v : V) (d : PyData) (lo hi : Int), vs = [v, .int lo, .int hi] ∧ Dp K H v d ∧ Q (.bl (numD d lo hi)) H
def spOne (K : PySem.W.Frag) (hi : Int) : Sp := fun vs H Q _ => ∃ (v : V) (d : PyData), vs = [v] ∧ Dp K H v d ∧ Q (.bl (numD d 0 hi)) H

section
variable {P : Program} {w : World} {K : PySem.W.Frag} {mg : Str → Option Value} {base : Heap}
theorem sc9 : FnScope ["thing", "least", "most"] ["thing", "least", "most"] (defScope (tx 10)) := ⟨rfl, rfl, rfl, by decide +kernel, rfl, by decide +kernel, by decide +kernel⟩
theorem ok_num {f : Addr} {fd : FuncData} (F : Df K mg "is_number" (tx 10) ["thing", "least", "most"] f fd) (B : Bn mg) : FnOk P w K mg base CX0 1 f fd ["thing", "least", "most"] (spNum K) := by
  refine F.F.ok sc9 (fun vs H Q E h => ?_) (fun cdv A outer s H vs Q E hr h => ?_)
  · obtain ⟨v, d, lo, hi, rfl, _⟩ := h
    rfl
  · obtain ⟨v, d, lo, hi, rfl, hd, q⟩ := h
    refine ⟨_, pss_one (ps_ret (pe_and (pe_is (t := "int") (by decide) rfl B.isi rfl B.int (by decide +kernel) (pv 0))
      (pe_and (pe_not (pe_is (t := "bool") (by decide) rfl B.isi rfl B.bool (by decide +kernel) (pv 0))) (pe_one (pe_chain op_le op_le (pv 1) (pv 0) (pv 2)))))), ?_⟩
    refine ⟨v, rfl, isi_r hd (by decide) ⟨_, rfl, ?_⟩⟩
    cases hd with
    | int n =>
      refine ift (by simp [isD, tyD]) ⟨_, rfl, isi_r (.int n) (by decide) ⟨_, rfl, _, rfl, ?_⟩⟩
      refine ift (by simp [isD, tyD]) ⟨_, rfl, _, rfl, lo, n, rfl, rfl, _, rfl, ?_⟩
      replace q : Q (.bl (decide (lo ≤ n) && decide (n ≤ hi))) H := q
      by_cases e : lo ≤ n
      · rw [decide_eq_true e] at q
        exact ift (decide_eq_true e) ⟨_, rfl, n, hi, rfl, rfl, q⟩
      · rw [decide_eq_false e] at q
        exact iff_ (decide_eq_false e) q
    | bl b =>
      refine ift (by simp [isD, tyD]) ⟨_, rfl, isi_r (.bl b) (by decide) ⟨_, rfl, _, rfl, ?_⟩⟩
      exact iff_ (by simp [isD, tyD]) q
    | non => exact iff_ (by simp [isD, tyD]) q
    | str x => exact iff_ (by simp [isD, tyD]) q
    | lst a b => exact iff_ (by simp [isD, tyD]) q
    | tup a b => exact iff_ (by simp [isD, tyD]) q
theorem sc10 : FnScope ["thing"] ["thing"] (defScope (tx 11)) := ⟨rfl, rfl, rfl, by decide +kernel, rfl, by decide +kernel, by decide +kernel⟩
theorem sc11 : FnScope ["thing"] ["thing"] (defScope (tx 12)) := ⟨rfl, rfl, rfl, by decide +kernel, rfl, by decide +kernel, by decide +kernel⟩
theorem sc12 : FnScope ["thing"] ["thing"] (defScope (tx 13)) := ⟨rfl, rfl, rfl, by decide +kernel, rfl, by decide +kernel, by decide +kernel⟩
theorem ok_place {f g : Addr} {fd gd : FuncData} (F : Df K mg "is_place" (tx 11) ["thing"] f fd) (N : Df K mg "is_number" (tx 10) ["thing", "least", "most"] g gd) (B : Bn mg) : FnOk P w K mg base CX0 2 f fd ["thing"] (spOne K 3) := by
  have G : FnOk P w K mg base CX0 1 g gd ["thing", "least", "most"] (spNum K) := ok_num N B
  refine F.F.ok sc10 (fun vs H Q E h => ?_) (fun cdv A outer s H vs Q E hr h => ?_)
  · obtain ⟨v, d, rfl, _⟩ := h
    rfl
  · obtain ⟨v, d, rfl, hd, q⟩ := h
    obtain ⟨t, et⟩ := B.places
    refine ⟨_, pss_one (ps_ret (pe_call G (hr.mono (by decide)) (by rfl) N.g N.F.kp N.b .nil pass0 (pa_cons (pv 0) (pa_cons pe_int (pa_cons (pe_op op_sub (pe_glob (v := .int 4) rfl et ⟨t, rfl⟩) pe_int) pa_nil))))), ?_⟩
    exact ⟨v, rfl, 4, 1, rfl, rfl, v, d, 0, 3, rfl, hd, q⟩
theorem ok_value {f g : Addr} {fd gd : FuncData} (F : Df K mg "is_value" (tx 12) ["thing"] f fd) (N : Df K mg "is_number" (tx 10) ["thing", "least", "most"] g gd) (B : Bn mg) : FnOk P w K mg base CX0 2 f fd ["thing"] (spOne K 3) := by
  have G : FnOk P w K mg base CX0 1 g gd ["thing", "least", "most"] (spNum K) := ok_num N B
  refine F.F.ok sc11 (fun vs H Q E h => ?_) (fun cdv A outer s H vs Q E hr h => ?_)
  · obtain ⟨v, d, rfl, _⟩ := h
    rfl
  · obtain ⟨v, d, rfl, hd, q⟩ := h
    obtain ⟨t, et⟩ := B.values
    refine ⟨_, pss_one (ps_ret (pe_call G (hr.mono (by decide)) (by rfl) N.g N.F.kp N.b .nil pass0 (pa_cons (pv 0) (pa_cons pe_int (pa_cons (pe_op op_sub (pe_glob (v := .int 4) rfl et ⟨t, rfl⟩) pe_int) pa_nil))))), ?_⟩
    exact ⟨v, rfl, 4, 1, rfl, rfl, v, d, 0, 3, rfl, hd, q⟩
theorem ok_reg {f g : Addr} {fd gd : FuncData} (F : Df K mg "is_register" (tx 13) ["thing"] f fd) (N : Df K mg "is_number" (tx 10) ["thing", "least", "most"] g gd) (B : Bn mg) : FnOk P w K mg base CX0 2 f fd ["thing"] (spOne K 2) := by
  have G : FnOk P w K mg base CX0 1 g gd ["thing", "least", "most"] (spNum K) := ok_num N B
  refine F.F.ok sc12 (fun vs H Q E h => ?_) (fun cdv A outer s H vs Q E hr h => ?_)
  · obtain ⟨v, d, rfl, _⟩ := h
    rfl
  · obtain ⟨v, d, rfl, hd, q⟩ := h
    obtain ⟨t, et⟩ := B.regs
    refine ⟨_, pss_one (ps_ret (pe_call G (hr.mono (by decide)) (by rfl) N.g N.F.kp N.b .nil pass0 (pa_cons (pv 0) (pa_cons pe_int (pa_cons (pe_op op_sub (pe_glob (v := .int 3) rfl et ⟨t, rfl⟩) pe_int) pa_nil))))), ?_⟩
    exact ⟨v, rfl, 3, 1, rfl, rfl, v, d, 0, 2, rfl, hd, q⟩
end
end G341

set_option Elab.async false
set_option linter.all false
set_option maxRecDepth 100000
/-! rows -/
namespace G341
open PySem PySem.Spec PyProof.Rows L2
def gD (r : List PyData) (i : Nat) : PyData := r.getD i .none
def wordD (w : Str) (r : List PyData) (rest : Int) : Bool :=
    if w = "fence" then decide (r.length = 0)
    else if w = "put" then decide (r.length = 2) && (numD (gD r 0) 0 3 && numD (gD r 1) 0 3)
    else if w = "give" then decide (r.length = 2) && (numD (gD r 0) 0 3 && numD (gD r 1) 0 2)
    else if w = "get" then decide (r.length = 2) && (numD (gD r 0) 0 2 && numD (gD r 1) 0 3)
    else if w = "swap" then decide (r.length = 3) && (numD (gD r 0) 0 2 && (numD (gD r 1) 0 3 && numD (gD r 2) 0 3))
    else if w = "only" then decide (r.length = 3) && (numD (gD r 0) 0 2 && (numD (gD r 1) 0 3 && numD (gD r 2) 1 rest))
    else false
def rowD : PyData → Int → Bool
  | .tuple (.str w :: r), rest => wordD w r rest
  | _, _ => false
theorem rowD_fence (r : List PyData) (z : Int) : rowD (.tuple (.str "fence" :: r)) z = decide (r.length = 0) := by
  show wordD _ _ _ = _
  unfold wordD
  rw [if_pos rfl]
theorem rowD_put (r : List PyData) (z : Int) : rowD (.tuple (.str "put" :: r)) z = (decide (r.length = 2) && (numD (gD r 0) 0 3 && numD (gD r 1) 0 3)) := by
  show wordD _ _ _ = _
  unfold wordD
  rw [if_neg (by decide +kernel), if_pos rfl]
theorem rowD_give (r : List PyData) (z : Int) : rowD (.tuple (.str "give" :: r)) z = (decide (r.length = 2) && (numD (gD r 0) 0 3 && numD (gD r 1) 0 2)) := by
  show wordD _ _ _ = _
  unfold wordD
  rw [if_neg (by decide +kernel), if_neg (by decide +kernel), if_pos rfl]
theorem rowD_get (r : List PyData) (z : Int) : rowD (.tuple (.str "get" :: r)) z = (decide (r.length = 2) && (numD (gD r 0) 0 2 && numD (gD r 1) 0 3)) := by
  show wordD _ _ _ = _
  unfold wordD
  rw [if_neg (by decide +kernel), if_neg (by decide +kernel), if_neg (by decide +kernel), if_pos rfl]
theorem rowD_swap (r : List PyData) (z : Int) : rowD (.tuple (.str "swap" :: r)) z = (decide (r.length = 3) && (numD (gD r 0) 0 2 && (numD (gD r 1) 0 3 && numD (gD r 2) 0 3))) := by
  show wordD _ _ _ = _
  unfold wordD
  rw [if_neg (by decide +kernel), if_neg (by decide +kernel), if_neg (by decide +kernel), if_neg (by decide +kernel), if_pos rfl]
theorem rowD_only (r : List PyData) (z : Int) : rowD (.tuple (.str "only" :: r)) z = (decide (r.length = 3) && (numD (gD r 0) 0 2 && (numD (gD r 1) 0 3 && numD (gD r 2) 1 z))) := by
  show wordD _ _ _ = _
  unfold wordD
  rw [if_neg (by decide +kernel), if_neg (by decide +kernel), if_neg (by decide +kernel), if_neg (by decide +kernel), if_neg (by decide +kernel), if_pos rfl]
theorem rowD_none {x : Str} {r : List PyData} {z : Int} (e1 : ¬ x = ("fence" : Str)) (e2 : ¬ x = ("put" : Str)) (e3 : ¬ x = ("give" : Str)) (e4 : ¬ x = ("get" : Str)) (e5 : ¬ x = ("swap" : Str)) (e6 : ¬ x = ("only" : Str)) : rowD (.tuple (.str x :: r)) z = false := by
  show wordD _ _ _ = _
  unfold wordD
  rw [if_neg e1, if_neg e2, if_neg e3, if_neg e4, if_neg e5, if_neg e6]
theorem dps_two {K : PySem.W.Frag} {H : Hp} {vs : List V} {ds : List PyData} (h : DpAll K H vs ds) (l : ds.length = 2) : ∃ v1 v2 d1 d2, vs = [v1, v2] ∧ ds = [d1, d2] ∧ Dp K H v1 d1 ∧ Dp K H v2 d2 := by
  match ds, l, h with
  | [_, _], _, .cons h1 (.cons h2 .nil) => exact ⟨_, _, _, _, rfl, rfl, h1, h2⟩
theorem dps_three {K : PySem.W.Frag} {H : Hp} {vs : List V} {ds : List PyData} (h : DpAll K H vs ds) (l : ds.length = 3) : ∃ v1 v2 v3 d1 d2 d3, vs = [v1, v2, v3] ∧ ds = [d1, d2, d3] ∧ Dp K H v1 d1 ∧ Dp K H v2 d2 ∧ Dp K H v3 d3 := by
  match ds, l, h with
  | [_, _, _], _, .cons h1 (.cons h2 (.cons h3 .nil)) => exact ⟨_, _, _, _, _, _, rfl, rfl, h1, h2, h3⟩
theorem and_go {b c : Bool} {Q : V → Hp → Prop} {H : Hp} {A : Prop} (z : Q (.bl (b && c)) H) (k : Q (.bl c) H → A) : if b = true then A else Q (.bl false) H := by
  cases b with
  | true => exact ift rfl (k z)
  | false => exact iff_ rfl z
def spRow (K : PySem.W.Frag) : Sp := fun vs H Q _ => ∃ (v : V) (d : PyData) (rest : Int), vs = [v, .int rest] ∧ Dp K H v d ∧ SeqAt.shaped d = true ∧ ∀ H', Same H H' → Q (.bl (rowD d rest)) H'
section
variable {P : Program} {w : World} {K : PySem.W.Frag} {mg : Str → Option Value} {base : Heap}
theorem sc13 : FnScope ["thing", "rest", "word", "many"] ["thing", "rest"] (defScope (tx 14)) := ⟨rfl, rfl, rfl, by decide +kernel, rfl, by decide +kernel, by decide +kernel⟩
theorem rowD_no {d : PyData} {r : Int} (h : isD d "tuple" = false) : rowD d r = false := by
  cases d <;> first | rfl | (simp [isD, tyD] at h)
theorem ok_row {f fn fp fv fr : Addr} {fd dn dp dv dr : FuncData} (F : Df K mg "is_row" (tx 14) ["thing", "rest"] f fd) (N : Df K mg "is_number" (tx 10) ["thing", "least", "most"] fn dn)
    (NP : Df K mg "is_place" (tx 11) ["thing"] fp dp) (NV : Df K mg "is_value" (tx 12) ["thing"] fv dv) (NR : Df K mg "is_register" (tx 13) ["thing"] fr dr) (B : Bn mg) : FnOk P w K mg base CX0 3 f fd ["thing", "rest"] (spRow K) := by
  have GN : FnOk P w K mg base CX0 1 fn dn ["thing", "least", "most"] (spNum K) := ok_num N B
  have GP : FnOk P w K mg base CX0 2 fp dp ["thing"] (spOne K 3) := ok_place NP N B
  have GV : FnOk P w K mg base CX0 2 fv dv ["thing"] (spOne K 3) := ok_value NV N B
  have GR : FnOk P w K mg base CX0 2 fr dr ["thing"] (spOne K 2) := ok_reg NR N B
  refine F.F.ok sc13 (fun vs H Q E h => ?_) (fun cdv A outer s H vs Q E hr h => ?_)
  · obtain ⟨v, d, rest, rfl, _⟩ := h
    rfl
  · obtain ⟨v, d, rest, rfl, hd, sh, q⟩ := h
    have ru := hr.units
    have r1 : Room 1 _ := hr.mono (by decide)
    refine ⟨_, pss_cons (ps_if (PW.pt (pw_or (pt_not (pt_val (pe_is (t := "tuple") (by decide) rfl B.isi rfl B.tuple (by decide +kernel) (pv 0))))
        (pw_or (pt_cmpR (op_eqD ru) (pv 0) (pe_tup pa_nil) (nomark _))
        (pw_or1 (pt_not (pt_val (pe_is (t := "str") (by decide) rfl B.isi rfl B.str (by decide +kernel) (pe_ix ix_tup (pv 0) pe_int (fun _ _ => rfl))))))))) (pss_one (ps_ret pe_bl)) pss_nil)
      (pss_cons (ps_par (i := 2) (j := 3) rfl sc13.nd rfl rfl (by decide) rfl rfl (pa_cons (pe_ix ix_tup (pv 0) pe_int (fun _ _ => rfl)) (pa_cons (pe_callB call_len_seq (by rfl) B.len PySem.boot_len (pa_cons (pv 0) pa_nil)) pa_nil)) rfl)
      (pss_cons (ps_if (pt_cmpR op_eq (pv 2) pe_str (nomark _)) (pss_one (ps_ret (pe_cmpR op_eq (pv 3) pe_int (nomark _)))) pss_nil)
      (pss_cons (ps_if (pt_cmpR op_eq (pv 2) pe_str (nomark _)) (pss_one (ps_ret (pe_and (pe_cmpR op_eq (pv 3) pe_int (nomark _))
        (pe_and (pe_call GP (hr.mono (by decide)) (by rfl) NP.g NP.F.kp NP.b .nil pass0 (pa_cons (pe_ix ix_tup (pv 0) pe_int (fun _ _ => rfl)) pa_nil))
          (pe_one (pe_call GV (hr.mono (by decide)) (by rfl) NV.g NV.F.kp NV.b .nil pass0 (pa_cons (pe_ix ix_tup (pv 0) pe_int (fun _ _ => rfl)) pa_nil))))))) pss_nil)
      (pss_cons (ps_if (pt_cmpR op_eq (pv 2) pe_str (nomark _)) (pss_one (ps_ret (pe_and (pe_cmpR op_eq (pv 3) pe_int (nomark _))
        (pe_and (pe_call GP (hr.mono (by decide)) (by rfl) NP.g NP.F.kp NP.b .nil pass0 (pa_cons (pe_ix ix_tup (pv 0) pe_int (fun _ _ => rfl)) pa_nil))
          (pe_one (pe_call GR (hr.mono (by decide)) (by rfl) NR.g NR.F.kp NR.b .nil pass0 (pa_cons (pe_ix ix_tup (pv 0) pe_int (fun _ _ => rfl)) pa_nil))))))) pss_nil)
      (pss_cons (ps_if (pt_cmpR op_eq (pv 2) pe_str (nomark _)) (pss_one (ps_ret (pe_and (pe_cmpR op_eq (pv 3) pe_int (nomark _))
        (pe_and (pe_call GR (hr.mono (by decide)) (by rfl) NR.g NR.F.kp NR.b .nil pass0 (pa_cons (pe_ix ix_tup (pv 0) pe_int (fun _ _ => rfl)) pa_nil))
          (pe_one (pe_call GP (hr.mono (by decide)) (by rfl) NP.g NP.F.kp NP.b .nil pass0 (pa_cons (pe_ix ix_tup (pv 0) pe_int (fun _ _ => rfl)) pa_nil))))))) pss_nil)
      (pss_cons (ps_if (pt_cmpR op_eq (pv 2) pe_str (nomark _)) (pss_one (ps_ret (pe_and (pe_cmpR op_eq (pv 3) pe_int (nomark _))
        (pe_and (pe_call GR (hr.mono (by decide)) (by rfl) NR.g NR.F.kp NR.b .nil pass0 (pa_cons (pe_ix ix_tup (pv 0) pe_int (fun _ _ => rfl)) pa_nil))
          (pe_and (pe_call GP (hr.mono (by decide)) (by rfl) NP.g NP.F.kp NP.b .nil pass0 (pa_cons (pe_ix ix_tup (pv 0) pe_int (fun _ _ => rfl)) pa_nil))
          (pe_one (pe_call GV (hr.mono (by decide)) (by rfl) NV.g NV.F.kp NV.b .nil pass0 (pa_cons (pe_ix ix_tup (pv 0) pe_int (fun _ _ => rfl)) pa_nil)))))))) pss_nil)
      (pss_cons (ps_if (PW.pt (pw_or (pt_cmpR op_ne (pv 2) pe_str (nomark _)) (pw_or1 (pt_cmpR op_ne (pv 3) pe_int (nomark _))))) (pss_one (ps_ret pe_bl)) pss_nil)
      (pss_one (ps_ret (pe_and (pe_call GR (hr.mono (by decide)) (by rfl) NR.g NR.F.kp NR.b .nil pass0 (pa_cons (pe_ix ix_tup (pv 0) pe_int (fun _ _ => rfl)) pa_nil))
          (pe_and (pe_call GV (hr.mono (by decide)) (by rfl) NV.g NV.F.kp NV.b .nil pass0 (pa_cons (pe_ix ix_tup (pv 0) pe_int (fun _ _ => rfl)) pa_nil))
          (pe_one (pe_call GN (hr.mono (by decide)) (by rfl) N.g N.F.kp N.b .nil pass0 (pa_cons (pe_ix ix_tup (pv 0) pe_int (fun _ _ => rfl)) (pa_cons pe_int (pa_cons (pv 1) pa_nil)))))))))))))))), ?_⟩
    cases ht : isD d "tuple" with
    | false =>
      refine ⟨v, rfl, isi_r hd (by decide) ⟨_, rfl, ift (by rw [ht]; rfl) (ift rfl ?_)⟩⟩
      have z := q H (Same.refl H)
      rw [rowD_no ht] at z
      exact z
    | true =>
      cases hd with
      | tup hq hds =>
        rename_i a vs ds
        refine ⟨_, rfl, isi_r (.tup hq hds) (by decide) ⟨_, rfl, iff_ (by simp [isD, tyD]) ⟨_, rfl, Nat.zero_le _, fun p hp => ?_⟩⟩⟩
        have s1 : Same H (upd H p (.tup [])) := same_up hp
        refine ⟨.tuple ds, .tuple [], .tup (same_sqt s1 hq) (dps_same s1 hds), .tup (.inl (.inl upd_same)) .nil, sh, by decide +kernel, _, rfl, ?_⟩
        cases hds with
        | nil =>
          refine ift (by simp [PyData.eqv, PyData.eqvAll]) (ift rfl ?_)
          exact q _ s1
        | cons h0 hr' =>
          rename_i v0 vr d0 dr
          refine iff_ (by simp [PyData.eqv, PyData.eqvAll]) ?_
          have hq1 := same_sqt (K := K) s1 hq
          refine ⟨_, rfl, a, v0 :: vr, 0, v0, rfl, rfl, hq1, atI_nat (j := 0) rfl, isi_r (dp_same s1 h0) (by decide) ⟨_, rfl, ?_⟩⟩
          cases h0 with
          | str x =>
            refine iff_ (by simp [isD, tyD]) ?_
            refine ⟨_, rfl, a, _, 0, _, rfl, rfl, hq1, atI_nat (j := 0) rfl, ?_⟩
            refine ⟨_, rfl, a, _, rfl, .inr hq1, _, _, rfl, ?_⟩
            have hr1 := dps_same s1 hr'
            have ln := dps_len hr1
            have zq := q _ s1
            generalize (upd H p (.tup [])) = H1 at *
            have lq : ∀ k : Nat, decide (V.int (((V.str x :: vr).length : Nat) : Int) = V.int ((k + 1 : Nat) : Int)) = decide (dr.length = k) := by
              intro k
              apply decide_eq_decide.mpr
              rw [V.int.injEq, List.length_cons, ln]
              omega
            have xq : ∀ y : Str, decide (V.str x = V.str y) = decide (x = y) := by
              intro y
              apply decide_eq_decide.mpr
              rw [V.str.injEq]
            -- fence
            refine ⟨_, rfl, rfl, _, rfl, ?_⟩
            by_cases e1 : x = ("fence" : Str)
            · subst e1
              refine ift (by rw [xq]; exact decide_eq_true rfl) ⟨_, rfl, rfl, ?_⟩
              rw [rowD_fence, ← lq 0] at zq
              exact zq
            refine iff_ (by rw [xq]; exact decide_eq_false e1) ?_
            refine ⟨_, rfl, rfl, _, rfl, ?_⟩
            by_cases e2 : x = ("put" : Str)
            · subst e2
              refine ift (by rw [xq]; exact decide_eq_true rfl) ⟨_, rfl, rfl, _, rfl, ?_⟩
              rw [rowD_put] at zq
              by_cases l : dr.length = 2
              · refine ift ((lq 2).trans (decide_eq_true l)) ?_
                rw [decide_eq_true l] at zq
                obtain ⟨v1, v2, d1, d2, rfl, rfl, h1, h2⟩ := dps_two hr1 l
                refine ⟨_, rfl, a, _, 1, _, rfl, rfl, hq1, atI_nat (j := 1) rfl, _, _, rfl, h1, _, rfl, and_go zq fun zq => ?_⟩
                exact ⟨_, rfl, a, _, 2, _, rfl, rfl, hq1, atI_nat (j := 2) rfl, _, _, rfl, h2, zq⟩
              · refine iff_ ((lq 2).trans (decide_eq_false l)) ?_
                rw [decide_eq_false l] at zq
                exact zq
            refine iff_ (by rw [xq]; exact decide_eq_false e2) ?_
            refine ⟨_, rfl, rfl, _, rfl, ?_⟩
            by_cases e3 : x = ("give" : Str)
            · subst e3
              refine ift (by rw [xq]; exact decide_eq_true rfl) ⟨_, rfl, rfl, _, rfl, ?_⟩
              rw [rowD_give] at zq
              by_cases l : dr.length = 2
              · refine ift ((lq 2).trans (decide_eq_true l)) ?_
                rw [decide_eq_true l] at zq
                obtain ⟨v1, v2, d1, d2, rfl, rfl, h1, h2⟩ := dps_two hr1 l
                refine ⟨_, rfl, a, _, 1, _, rfl, rfl, hq1, atI_nat (j := 1) rfl, _, _, rfl, h1, _, rfl, and_go zq fun zq => ?_⟩
                exact ⟨_, rfl, a, _, 2, _, rfl, rfl, hq1, atI_nat (j := 2) rfl, _, _, rfl, h2, zq⟩
              · refine iff_ ((lq 2).trans (decide_eq_false l)) ?_
                rw [decide_eq_false l] at zq
                exact zq
            refine iff_ (by rw [xq]; exact decide_eq_false e3) ?_
            refine ⟨_, rfl, rfl, _, rfl, ?_⟩
            by_cases e4 : x = ("get" : Str)
            · subst e4
              refine ift (by rw [xq]; exact decide_eq_true rfl) ⟨_, rfl, rfl, _, rfl, ?_⟩
              rw [rowD_get] at zq
              by_cases l : dr.length = 2
              · refine ift ((lq 2).trans (decide_eq_true l)) ?_
                rw [decide_eq_true l] at zq
                obtain ⟨v1, v2, d1, d2, rfl, rfl, h1, h2⟩ := dps_two hr1 l
                refine ⟨_, rfl, a, _, 1, _, rfl, rfl, hq1, atI_nat (j := 1) rfl, _, _, rfl, h1, _, rfl, and_go zq fun zq => ?_⟩
                exact ⟨_, rfl, a, _, 2, _, rfl, rfl, hq1, atI_nat (j := 2) rfl, _, _, rfl, h2, zq⟩
              · refine iff_ ((lq 2).trans (decide_eq_false l)) ?_
                rw [decide_eq_false l] at zq
                exact zq
            refine iff_ (by rw [xq]; exact decide_eq_false e4) ?_
            refine ⟨_, rfl, rfl, _, rfl, ?_⟩
            by_cases e5 : x = ("swap" : Str)
            · subst e5
              refine ift (by rw [xq]; exact decide_eq_true rfl) ⟨_, rfl, rfl, _, rfl, ?_⟩
              rw [rowD_swap] at zq
              by_cases l : dr.length = 3
              · refine ift ((lq 3).trans (decide_eq_true l)) ?_
                rw [decide_eq_true l] at zq
                obtain ⟨v1, v2, v3, d1, d2, d3, rfl, rfl, h1, h2, h3⟩ := dps_three hr1 l
                refine ⟨_, rfl, a, _, 1, _, rfl, rfl, hq1, atI_nat (j := 1) rfl, _, _, rfl, h1, _, rfl, and_go zq fun zq => ?_⟩
                refine ⟨_, rfl, a, _, 2, _, rfl, rfl, hq1, atI_nat (j := 2) rfl, _, _, rfl, h2, _, rfl, and_go zq fun zq => ?_⟩
                exact ⟨_, rfl, a, _, 3, _, rfl, rfl, hq1, atI_nat (j := 3) rfl, _, _, rfl, h3, zq⟩
              · refine iff_ ((lq 3).trans (decide_eq_false l)) ?_
                rw [decide_eq_false l] at zq
                exact zq
            refine iff_ (by rw [xq]; exact decide_eq_false e5) ?_
            refine ⟨_, rfl, rfl, _, rfl, ?_⟩
            by_cases e6 : x = ("only" : Str)
            · subst e6
              refine iff_ (by rw [xq, decide_eq_true rfl]; rfl) ⟨_, rfl, rfl, _, rfl, ?_⟩
              rw [rowD_only] at zq
              by_cases l : dr.length = 3
              · refine iff_ (congrArg not ((lq 3).trans (decide_eq_true l))) ?_
                rw [decide_eq_true l] at zq
                obtain ⟨v1, v2, v3, d1, d2, d3, rfl, rfl, h1, h2, h3⟩ := dps_three hr1 l
                refine ⟨_, rfl, a, _, 1, _, rfl, rfl, hq1, atI_nat (j := 1) rfl, _, _, rfl, h1, _, rfl, and_go zq fun zq => ?_⟩
                refine ⟨_, rfl, a, _, 2, _, rfl, rfl, hq1, atI_nat (j := 2) rfl, _, _, rfl, h2, _, rfl, and_go zq fun zq => ?_⟩
                exact ⟨_, rfl, a, _, 3, _, rfl, rfl, hq1, atI_nat (j := 3) rfl, _, rfl, _, _, _, _, rfl, h3, zq⟩
              · refine ift (congrArg not ((lq 3).trans (decide_eq_false l))) ?_
                rw [decide_eq_false l] at zq
                exact zq
            refine ift (by rw [xq, decide_eq_false e6]; rfl) (ift rfl ?_)
            rw [rowD_none e1 e2 e3 e4 e5 e6] at zq
            exact zq
          | _ =>
            refine ift (by simp [isD, tyD]) ?_
            exact q _ s1
      | _ => simp [isD, tyD] at ht
end
end G341

set_option Elab.async false
set_option linter.all false
set_option maxRecDepth 100000
/-! comprehensions with a filter, over anything whose items are known -/
namespace G341
open PySem PySem.Spec PyProof.Rows L2
variable {K : PySem.W.Frag}
/-- a walk of n turns whose items are known as long as H stays -/
structure Wk1 (J : It) (H : Hp) (n : Nat) (val : Nat → V) : Prop where
  go : ∀ i H', Same H H' → i < n → J.go i H'
  stop : ∀ H', Same H H' → J.stop n H'
  yld : ∀ i H' x H'', Same H H' → i < n → J.yld i H' x H'' → H'' = H' ∧ x = val i
theorem wk_tup {H : Hp} {a : Addr} {xs : List V} (h : SqT K H a xs) : Wk1 (Itt K a) H xs.length (fun i => xs.getD i .non) where
  go := fun i H' s lt => ⟨xs, xs[i], same_sqt s h, List.getElem?_eq_getElem lt⟩
  stop := fun H' s => ⟨xs, same_sqt s h, Nat.le_refl _⟩
  yld := fun i H' x H'' s lt z => ⟨z.1, by
    have e := z.2 xs (same_sqt s h)
    rw [List.getD_eq_getElem?_getD, e]
    rfl⟩
theorem wk_lst {H : Hp} {a : Addr} {xs : List V} (h : SqL K H a xs) : Wk1 (Itl K a) H xs.length (fun i => xs.getD i .non) where
  go := fun i H' s lt => ⟨xs, xs[i], s.seq h, List.getElem?_eq_getElem lt⟩
  stop := fun H' s => ⟨xs, s.seq h, Nat.le_refl _⟩
  yld := fun i H' x H'' s lt z => ⟨z.1, by
    have e := z.2 xs (s.seq h)
    rw [List.getD_eq_getElem?_getD, e]
    rfl⟩
theorem wk_rng {H : Hp} {n : Nat} : Wk1 (Itr 0 n) H n (fun i => .int (i : Nat)) where
  go := fun i H' s lt => lt
  stop := fun H' s => Nat.le_refl n
  yld := fun i H' x H'' s lt z => ⟨z.1, by rw [z.2, Int.zero_add]⟩
/-- what a filter leaves -/
def fltF (f : Nat → Option V) : Nat → List V
  | 0 => []
  | i + 1 => fltF f i ++ (f i).toList
theorem flt_len (f : Nat → Option V) : ∀ n, (fltF f n).length ≤ n
  | 0 => Nat.le_refl 0
  | n + 1 => by
    show (fltF f n ++ (f n).toList).length ≤ n + 1
    rw [List.length_append]
    have h := flt_len f n
    cases f n <;> simp <;> omega
def OnF (C : VK) (C2 : Hp → Prop) (H3 : Hp) : Option V → Prop
  | some y => ∀ H4, Same H3 H4 → C y H4
  | none => ∀ H4, Same H3 H4 → C2 H4
theorem lc_flt {J : It} {σ : L2.St} {H : Hp} {Q : VK} {g : TG} {tt : TT} {te : TE} {vs : List Nat} {n : Nat} {val : Nat → V} (wj : Wk1 J H n val) (hl : n < sizeLine) (f : Nat → Option V)
    (step : ∀ (i : Nat) (H3 : Hp) (C : VK) (C2 : Hp → Prop), i < n → Same H H3 → OnF C C2 H3 (f i) → g (val i) (wipe σ vs) H3 fun σ2 H2 => wipe σ2 vs = wipe σ vs ∧ tt σ2 H2 fun b H4 => if b = true then te σ2 H4 C else C2 H4)
    (fin : ∀ D H', H D = none → Same H H' → H' D = some (.lst (fltF f n)) → Q (.ref D) H') :
    ∀ D, H D = none → ∃ W : Nat → Nat → Hp → Prop, (∃ m, W 0 m (upd H D (.lst []))) ∧ ∀ i m H, W i m H →
      (J.stop i H ∧ Q (.ref D) H) ∨ (J.go i H ∧ ∃ Nx : Hp → Prop, (∀ H', Nx H' → ∃ m', m' < m ∧ W (i + 1) m' H') ∧ ∀ x H', J.yld i H x H' → g x (wipe σ vs) H' fun σ2 H2 => wipe σ2 vs = wipe σ vs ∧ tt σ2 H2 fun b H3 =>
        if b = true then te σ2 H3 fun y H4 => ∃ acc, H4 D = some (.lst acc) ∧ acc.length < sizeLine ∧ Nx (upd H4 D (.lst (acc ++ [y]))) else Nx H3) := by
  intro D hD
  refine ⟨fun i m H' => m = n - i ∧ i ≤ n ∧ Same H H' ∧ H' D = some (.lst (fltF f i)), ⟨n, rfl, Nat.zero_le _, same_up hD, by rw [upd_same]; rfl⟩, ?_⟩
  rintro i m H3 ⟨em, hi, s3, d3⟩
  by_cases lt : i < n
  · refine .inr ⟨wj.go i H3 s3 lt, fun H' => Same H H' ∧ H' D = some (.lst (fltF f (i + 1))), fun H' ⟨s', d'⟩ => ⟨n - (i + 1), by omega, rfl, lt, s', d'⟩, ?_⟩
    intro x H' hy
    obtain ⟨eH, ex⟩ := wj.yld i H3 x H' s3 lt hy
    rw [eH, ex]
    refine step i H3 _ _ lt s3 ?_
    cases ef : f i with
    | none =>
      intro H4 s4
      refine ⟨s3.trans s4, ?_⟩
      rw [s4 _ _ d3]
      show _ = some (HO.lst (fltF f i ++ (f i).toList))
      rw [ef]
      simp
    | some y =>
      intro H4 s4
      refine ⟨_, s4 _ _ d3, Nat.lt_of_le_of_lt (flt_len f i) (Nat.lt_of_le_of_lt hi hl), fun b o e => ?_, ?_⟩
      · rw [upd_ne (ne_of_none e hD)]
        exact s4 _ _ (s3 _ _ e)
      · rw [upd_same]
        show _ = some (HO.lst (fltF f i ++ (f i).toList))
        rw [ef]
        rfl
  · have ei : i = n := by omega
    subst ei
    exact .inl ⟨wj.stop H3 s3, fin D H3 hD s3 d3⟩
theorem lc2_tupV {J : Addr → It} {R : Nat → V → V → Hp → Prop} (WJ : Wlk K J R) {σ : L2.St} {H : Hp} {Q : VK} {k n : Nat} {g1 : TG} {wi1 : TI} {te : TE} {vs vs1 : List Nat} {a : Addr} {xs : List V} (hv : σ[n]? = some (some (.ref a))) (hq : SqT K H a xs)
    (ys : Nat → List V) (bs : Nat → Addr) (hb : ∀ i < xs.length, SqT K H (bs i) (ys i)) (f : Nat → Nat → V)
    (hl2 : ∀ i < xs.length, ∀ j < (ys i).length, (catF f (fun i => (ys i).length) i).length + j < sizeLine)
    (hw : ∀ x : V, wipe ((wipe σ vs).set k (some x)) vs = wipe σ vs)
    (out : ∀ (i : Nat) (x : V) (H3 : Hp) (C : It → Hp → Prop), xs[i]? = some x → Same H H3 → C (J (bs i)) H3 → wi1 ((wipe σ vs).set k (some x)) H3 C)
    (step : ∀ (i j : Nat) (x z y : V) (H5 : Hp) (C : VK), xs[i]? = some x → (ys i)[j]? = some y → Same H H5 → R j z y H5 → (∀ H6, Same H5 H6 → C (f i j) H6) →
      g1 z (wipe ((wipe σ vs).set k (some x)) vs1) H5 fun σ3 H5 => wipe σ3 vs1 = wipe ((wipe σ vs).set k (some x)) vs1 ∧ te σ3 H5 C)
    (fin : ∀ D H', Same H H' → H' D = some (.lst (catF f (fun i => (ys i).length) xs.length)) → Q (.ref D) H') :
    tLc2 (iTup K (tVar n)) (gName k) tYes wi1 g1 tYes te vs vs1 σ H Q :=
  ⟨_, hv, a, rfl, ⟨_, hq⟩, lc2_tup WJ hq ys bs hb f hl2 hw out step fin⟩
end G341

set_option Elab.async false
set_option linter.all false
set_option maxRecDepth 100000
/-! programs -/
namespace G341
open PySem PySem.Spec PyProof.Rows L2
/-- rows of a hand, from the place at on, of many rows -/
def rowsD : List PyData → Int → Bool
  | [], _ => true
  | d :: r, n => rowD d n && rowsD r (n - 1)
def handD : PyData → Bool
  | .tuple rs => decide (rs.length ≤ 16)
  | _ => false
def handR : PyData → Bool
  | .tuple rs => rowsD rs ((rs.length : Int) - 1)
  | _ => false
def progD : PyData → Bool
  | .tuple hs => decide (1 ≤ hs.length) && decide (hs.length ≤ 4) && hs.all handD && hs.all handR
  | _ => false
def subs : PyData → List PyData
  | .tuple ds => ds
  | _ => []
theorem lay_mem : ∀ {ds : List PyData} {i : Nat} {d : PyData}, PyData.canLayAll0 ds = true → ds[i]? = some d → d.canLay0 = true
  | [], _, _, _, e => by simp at e
  | x :: r, 0, d, h, e => by
    rw [List.getElem?_cons_zero] at e
    cases e
    unfold PyData.canLayAll0 at h
    exact (Bool.and_eq_true_iff.mp h).1
  | x :: r, i + 1, d, h, e => by
    rw [List.getElem?_cons_succ] at e
    unfold PyData.canLayAll0 at h
    exact lay_mem (Bool.and_eq_true_iff.mp h).2 e
theorem dep_mem : ∀ {ds : List PyData} {i : Nat} {d : PyData}, ds[i]? = some d → d.depth ≤ PyData.depthAll ds
  | [], _, _, e => by simp at e
  | x :: r, 0, d, e => by
    rw [List.getElem?_cons_zero] at e
    cases e
    unfold PyData.depthAll
    exact Nat.le_max_left _ _
  | x :: r, i + 1, d, e => by
    rw [List.getElem?_cons_succ] at e
    unfold PyData.depthAll
    exact Nat.le_trans (dep_mem e) (Nat.le_max_right _ _)
theorem shaped_mem {ds : List PyData} {i : Nat} {d : PyData} (h : SeqAt.shaped (.tuple ds) = true) (e : ds[i]? = some d) : SeqAt.shaped d = true := by
  have h1 := SeqAt.canLay_of_shaped h
  have h2 := SeqAt.depth_of_shaped h
  unfold PyData.canLay0 at h1
  unfold PyData.depth at h2
  have h3 := dep_mem e
  unfold SeqAt.shaped
  rw [lay_mem h1 e, decide_eq_true (show d.depth ≤ 64 by omega)]
  rfl
theorem map_getD {α β : Type} (F : α → β) (z : α) : ∀ ds : List α, (List.range ds.length).map (fun i => F (ds.getD i z)) = ds.map F := by
  intro ds
  apply List.ext_getElem?
  intro i
  rw [List.getElem?_map, List.getElem?_map]
  by_cases h : i < ds.length
  · rw [List.getElem?_range h, List.getElem?_eq_getElem h]
    simp [List.getD_eq_getElem?_getD, List.getElem?_eq_getElem h]
  · rw [List.getElem?_eq_none (by simpa using h), List.getElem?_eq_none (by simpa using h)]
    rfl
/-- one row of a hand, by its place -/
def rwF (rs : List PyData) (j : Nat) : Bool := rowD (rs.getD j .none) ((rs.length : Int) - 1 - (j : Nat))
theorem rowsD_eq : ∀ (rs : List PyData) (n : Int), rowsD rs n = (List.range rs.length).all fun j => rowD (rs.getD j .none) (n - (j : Nat))
  | [], _ => rfl
  | d :: r, n => by
    show (rowD d n && rowsD r (n - 1)) = _
    rw [rowsD_eq r (n - 1), List.length_cons, List.range_succ_eq_map, List.all_cons, List.all_map]
    have e1 : n - ((0 : Nat) : Int) = n := by omega
    congr 1
    · rw [e1]; rfl
    · congr 1
      funext j
      show _ = rowD ((d :: r).getD (j + 1) .none) (n - ((j + 1 : Nat) : Int))
      rw [show n - ((j + 1 : Nat) : Int) = n - 1 - (j : Nat) by omega]
      rfl
theorem cat_all {f : Nat → Nat → V} {n : Nat → Nat} {ds : List PyData} (hf : ∀ i j, f i j = .bl (rwF (subs (ds.getD i .none)) j)) (hn : ∀ i, i < ds.length → n i = (subs (ds.getD i .none)).length)
    (hh : ∀ i, i < ds.length → ∃ rs, ds.getD i .none = .tuple rs) : ∀ m, m ≤ ds.length → ∃ bs : List Bool, catF f n m = bs.map V.bl ∧ bs.all id = (ds.take m).all handR
  | 0, _ => ⟨[], rfl, by simp⟩
  | m + 1, h => by
    obtain ⟨bs, e1, e2⟩ := cat_all hf hn hh m (by omega)
    refine ⟨bs ++ (List.range (n m)).map (rwF (subs (ds.getD m .none))), ?_, ?_⟩
    · show catF f n m ++ (List.range (n m)).map (f m) = _
      rw [e1, List.map_append, List.map_map]
      congr 2
      funext j
      exact hf m j
    · have lt : m < ds.length := by omega
      rw [List.all_append, e2, List.take_add_one, List.all_append, List.getElem?_eq_getElem lt]
      congr 1
      obtain ⟨rs, er⟩ := hh m lt
      have eg : ds[m] = .tuple rs := by
        rw [List.getD_eq_getElem?_getD, List.getElem?_eq_getElem lt] at er
        exact er
      rw [hn m lt, er, eg]
      simp only [Option.toList_some, List.all_cons, List.all_nil, Bool.and_true, List.all_map]
      show _ = rowsD rs ((rs.length : Int) - 1)
      rw [rowsD_eq]
      rfl
theorem cat_len {f : Nat → Nat → V} {n : Nat → Nat} {c : Nat} : ∀ m, (∀ i, i < m → n i ≤ c) → (catF f n m).length ≤ m * c
  | 0, _ => Nat.zero_le _
  | m + 1, h => by
    show (catF f n m ++ (List.range (n m)).map (f m)).length ≤ _
    rw [List.length_append, List.length_map, List.length_range, Nat.succ_mul]
    have h1 := cat_len (f := f) m fun i hi => h i (by omega)
    have h2 := h m (Nat.lt_succ_self m)
    omega
theorem progD_t {hs : List PyData} : progD (.tuple hs) = (decide (1 ≤ hs.length) && decide (hs.length ≤ 4) && hs.all handD && hs.all handR) := rfl
theorem progD_no {d : PyData} (h : isD d "tuple" = false) : progD d = false := by
  cases d <;> first | rfl | (simp [isD, tyD] at h)
section
variable {P : Program} {w : World} {K : PySem.W.Frag} {mg : Str → Option Value} {base : Heap}
theorem sc14 : FnScope ["thing", "hand", "at", "row"] ["thing"] (defScope (tx 15)) := ⟨rfl, rfl, rfl, by decide +kernel, rfl, by decide +kernel, by decide +kernel⟩
def spProg (K : PySem.W.Frag) : Sp := fun vs H Q _ => ∃ (v : V) (d : PyData), vs = [v] ∧ Dp K H v d ∧ SeqAt.shaped d = true ∧ ∀ H', Same H H' → Q (.bl (progD d)) H'
theorem ok_prog {f fw : Addr} {fd dw : FuncData} (F : Df K mg "is_program" (tx 15) ["thing"] f fd) (W : Df K mg "is_row" (tx 14) ["thing", "rest"] fw dw)
    (GW : FnOk P w K mg base CX0 3 fw dw ["thing", "rest"] (spRow K)) (B : Bn mg) : FnOk P w K mg base CX0 4 f fd ["thing"] (spProg K) := by
  refine F.F.ok sc14 (fun vs H Q E h => ?_) (fun cdv A outer s H vs Q E hr h => ?_)
  · obtain ⟨v, d, rfl, _⟩ := h
    rfl
  · obtain ⟨v, d, rfl, hd, sh, q⟩ := h
    obtain ⟨t1, et1⟩ := B.hands
    obtain ⟨t2, et2⟩ := B.rows
    refine ⟨_, pss_cons (ps_if (PW.pt (pw_or (pt_not (pt_val (pe_is (t := "tuple") (by decide) rfl B.isi rfl B.tuple (by decide +kernel) (pv 0))))
        (pw_or1 (pt_not (pt_chain op_le op_le pe_int (pe_callB call_len_seq (by rfl) B.len PySem.boot_len (pa_cons (pv 0) pa_nil)) (pe_glob (v := .int 4) rfl et1 ⟨t1, rfl⟩)))))) (pss_one (ps_ret pe_bl)) pss_nil)
      (pss_cons (ps_if (pt_not (pt_val (pe_callB (cr_all rfl) (by rfl) B.all PyProof.Rows.boot_all (pa_cons
          (pe_lc (own := [("hand", 1)]) (te := tAndV (tIs K "tuple" (tVar 1)) (tOp (rI0 fun i j => .bl (decide (i ≤ j))) (tCB (fun xs H Q => ∃ p ys, xs = [V.ref p] ∧ (SqL K H p ys ∨ SqT K H p ys) ∧ Q (.int ys.length) H) (tCons (tVar 1) tNil)) (tC (.int 16)))) (g := gName 1) (tt := tYes) rfl sc14.nd (pi_tup (pv 0)) (blkOk_by (N := ["thing", "hand", "at", "row"]) (sc := defScope (tx 15)) (by decide +kernel)) (fun _ _ _ _ _ => pg_name (i := 1) sc14.nd rfl (Or.inl rfl)) (fun _ _ _ _ _ => pts_nil)
            (fun _ _ _ _ _ => by
              refine pe_and ?_ (pe_one ?_)
              · exact pe_is (t := "tuple") (by decide) rfl B.isi rfl B.tuple (by decide +kernel) (pv 1)
              · exact pe_cmpR op_le (pe_callB call_len_seq (by rfl) B.len PySem.boot_len (pa_cons (pv 1) pa_nil)) (pe_glob (v := .int 16) rfl et2 ⟨t2, rfl⟩) (nomark _))) pa_nil)))) (pss_one (ps_ret pe_bl)) pss_nil)
      (pss_one (ps_ret (pe_callB (cr_all rfl) (by rfl) B.all PyProof.Rows.boot_all (pa_cons
          (pe_lc2 (own := [("hand", 1), ("at", 2), ("row", 3)]) (vs1 := [2, 3]) (wi1 := iEnT K (tCons (tVar 1) tNil)) (g1 := gTup K 2 (gCons (gName 2) (gCons (gName 3) gNil))) (te := tCall (spRow K) [] E0 (tCons (tVar 3) (tCons (tOp (rI0 fun i j => .int (i - j)) (tOp (rI0 fun i j => .int (i - j)) (tCB (fun xs H Q => ∃ p ys, xs = [V.ref p] ∧ (SqL K H p ys ∨ SqT K H p ys) ∧ Q (.int ys.length) H) (tCons (tVar 1) tNil)) (tC (.int 1))) (tVar 2)) tNil))) (g := gName 1) (tt := tYes) (tt1 := tYes) rfl sc14.nd (pi_tup (pv 0)) (blkOk_by (N := ["thing", "hand", "at", "row"]) (sc := defScope (tx 15)) (by decide +kernel)) (by decide) (fun _ _ _ _ _ => pg_name (i := 1) sc14.nd rfl (Or.inl rfl)) (fun _ _ _ _ _ => pts_nil)
            (fun _ _ _ _ _ => by exact pi_enT rfl B.enum (pa_cons (pv 1) pa_nil)) (fun _ _ _ _ _ => by exact pg_tup rfl (pgs_cons (pg_name (i := 2) sc14.nd rfl (.inl rfl)) (pgs_cons (pg_name (i := 3) sc14.nd rfl (.inl rfl)) pgs_nil))) (fun _ _ _ _ _ => pts_nil)
            (fun _ _ _ _ _ => by exact pe_call GW (hr.mono (by decide)) (by rfl) W.g W.F.kp W.b .nil pass0 (pa_cons (pv 3) (pa_cons (pe_op op_sub (pe_op op_sub (pe_callB call_len_seq (by rfl) B.len PySem.boot_len (pa_cons (pv 1) pa_nil)) pe_int) (pv 2)) pa_nil)))) pa_nil))))), ?_⟩
    cases ht : isD d "tuple" with
    | false =>
      refine ⟨v, rfl, isi_r hd (by decide) ⟨_, rfl, ift (by rw [ht]; rfl) (ift rfl ?_)⟩⟩
      have z := q H (Same.refl H)
      rw [progD_no ht] at z
      exact z
    | true =>
      cases hd with
      | tup hq hds =>
        rename_i a vs ds
        have ln := dps_len hds
        refine ⟨_, rfl, isi_r (.tup hq hds) (by decide) ⟨_, rfl, iff_ (by simp [isD, tyD]) ?_⟩⟩
        refine ⟨_, rfl, a, vs, rfl, .inr hq, 1, _, rfl, rfl, _, rfl, ?_⟩
        have no : progD (.tuple ds) = false → Q (.bl false) H := fun e => by
          have z := q H (Same.refl H)
          rw [e] at z
          exact z
        by_cases l1 : 1 ≤ vs.length
        · refine ift (decide_eq_true (by omega)) ⟨_, _, rfl, rfl, _, rfl, ?_⟩
          by_cases l2 : vs.length ≤ 4
          · refine iff_ (congrArg not (decide_eq_true (by omega))) ?_
            dsimp only [tNext, tSeq, tIfS, tNot, tB, tCB, tCons]
            refine lc_tupV (by rfl) hq (Nat.lt_of_le_of_lt l2 (by decide)) (fun i => .bl (handD (ds.getD i .none))) ?_ ?_
            · intro i x H3 C hx s3 c
              obtain ⟨d, ed, hd⟩ := dps_get hds hx
              have eg : ds.getD i .none = d := by
                rw [List.getD_eq_getElem?_getD, ed]
                rfl
              have c := c H3 (Same.refl _)
              rw [eg] at c
              have hd3 := dp_same s3 hd
              refine ⟨by rfl, ?_⟩
              refine ⟨x, rfl, isi_r hd3 (by decide) ⟨_, rfl, ?_⟩⟩
              cases hd3 with
              | tup hq3 hr3 =>
                rename_i b2 xs2 ds2
                refine ift (by simp [isD, tyD]) ⟨_, rfl, _, _, rfl, .inr hq3, _, _, rfl, rfl, ?_⟩
                rw [dps_len hr3]
                show C (.bl (decide ((ds2.length : Int) ≤ 16))) H3
                rw [show decide ((ds2.length : Int) ≤ 16) = handD (.tuple ds2) from decide_eq_decide.mpr (by omega)]
                exact c
              | non => exact iff_ (by simp [isD, tyD]) c
              | bl b => exact iff_ (by simp [isD, tyD]) c
              | int b => exact iff_ (by simp [isD, tyD]) c
              | str b => exact iff_ (by simp [isD, tyD]) c
              | lst a b => exact iff_ (by simp [isD, tyD]) c
            · intro D H1 s1 hD
              refine ⟨D, ds.map handD, rfl, .inl (.inl ?_), ?_⟩
              · rw [hD, ln, ← map_getD handD .none ds, List.map_map]
                rfl
              rw [List.all_map]
              cases eh : ds.all (id ∘ handD) with
              | false =>
                refine ⟨_, rfl, ift rfl ?_⟩
                have z := q H1 s1
                rw [progD_t, show ds.all handD = false from eh] at z
                simp only [Bool.and_false, Bool.false_and] at z
                exact z
              | true =>
                have eh : ds.all handD = true := eh
                refine ⟨_, rfl, iff_ rfl ?_⟩
                have hand : ∀ i, i < ds.length → ∃ rs, ds.getD i .none = .tuple rs ∧ rs.length ≤ 16 := by
                  intro i hi
                  have z := List.all_eq_true.mp eh ds[i] (List.getElem_mem hi)
                  rw [List.getD_eq_getElem?_getD, List.getElem?_eq_getElem hi]
                  generalize ds[i] = d at z
                  cases d with
                  | tuple rs => exact ⟨rs, rfl, of_decide_eq_true z⟩
                  | _ => cases z
                have ch : ∀ i, ∃ t : Addr × List V, i < vs.length → vs[i]? = some (.ref t.1) ∧ SqT K H t.1 t.2 ∧ DpAll K H t.2 (subs (ds.getD i .none)) := by
                  intro i
                  by_cases hi : i < vs.length
                  · obtain ⟨d, ed, hd⟩ := dps_get hds (List.getElem?_eq_getElem hi)
                    obtain ⟨rs, er, _⟩ := hand i (by omega)
                    have eg : ds.getD i .none = d := by
                      rw [List.getD_eq_getElem?_getD, ed]
                      rfl
                    rw [er] at eg
                    subst eg
                    cases hv : vs[i] with
                    | ref b =>
                      rw [hv] at hd
                      cases hd with
                      | tup hqb hrb =>
                        refine ⟨(b, _), fun _ => ⟨by rw [List.getElem?_eq_getElem hi, hv], hqb, ?_⟩⟩
                        rw [er]
                        exact hrb
                    | _ => rw [hv] at hd; cases hd
                  · exact ⟨(0, []), fun h => absurd h hi⟩
                obtain ⟨t, ht⟩ : ∃ t : Nat → Addr × List V, ∀ i, i < vs.length → vs[i]? = some (.ref (t i).1) ∧ SqT K H (t i).1 (t i).2 ∧ DpAll K H (t i).2 (subs (ds.getD i .none)) := ⟨fun i => Classical.choose (ch i), fun i => Classical.choose_spec (ch i)⟩
                have tl : ∀ i, i < vs.length → (t i).2.length = (subs (ds.getD i .none)).length := fun i hi => dps_len (ht i hi).2.2
                have tl16 : ∀ i, i < vs.length → (t i).2.length ≤ 16 := fun i hi => by
                  rw [tl i hi]
                  obtain ⟨rs, er, lr⟩ := hand i (by omega)
                  rw [er]
                  exact lr
                dsimp only [tRet, tCB, tCons, List.map]
                refine lc2_tupV (K := K) (wlk_en (K := K)) (by rfl) (same_sqt s1 hq) (fun i => (t i).2) (fun i => (t i).1) (fun i hi => same_sqt s1 (ht i hi).2.1) (fun i j => .bl (rwF (subs (ds.getD i .none)) j)) ?_ (fun _ => by rfl) ?_ ?_ ?_
                · intro i hi j hj
                  have z := cat_len (f := fun i j => .bl (rwF (subs (ds.getD i .none)) j)) (n := fun i => (t i).2.length) (c := 16) i fun k hk => tl16 k (by omega)
                  have z2 := tl16 i hi
                  have z3 : sizeLine = sizeLine := rfl
                  rw [sizeLine_eq]
                  omega
                · intro i x H3 C hx s3 c
                  have hi : i < vs.length := (List.getElem?_eq_some_iff.mp hx).1
                  have hx2 := (ht i hi).1
                  rw [hx] at hx2
                  cases hx2
                  exact ⟨_, rfl, _, _, rfl, same_sqt (s1.trans s3) (ht i hi).2.1, c⟩
                · intro i j x z y H5 C hx hy s5 r5 c
                  obtain ⟨T, rfl, hT⟩ := r5
                  have hi : i < vs.length := (List.getElem?_eq_some_iff.mp hx).1
                  obtain ⟨hx2, hqi, hri⟩ := ht i hi
                  rw [hx] at hx2
                  cases hx2
                  obtain ⟨d, ed, hd⟩ := dps_get hri hy
                  have s15 := s1.trans s5
                  have shi : SeqAt.shaped d = true := by
                    obtain ⟨rs, er, _⟩ := hand i (by omega)
                    have eds : ds[i]? = some (.tuple rs) := by
                      rw [List.getD_eq_getElem?_getD] at er
                      cases eo : ds[i]? with
                      | none => rw [eo] at er; cases er
                      | some o => rw [eo] at er; exact congrArg some er
                    rw [er] at ed
                    exact shaped_mem (shaped_mem sh eds) ed
                  refine ⟨T, _, rfl, .inl (.inl hT), rfl, _, _, rfl, _, _, rfl, rfl, by rfl, ?_⟩
                  refine ⟨_, rfl, _, rfl, _, _, rfl, .inr (same_sqt s15 hqi), _, 1, rfl, rfl, _, rfl, _, _, rfl, rfl, ?_⟩
                  refine ⟨_, d, _, rfl, dp_same s15 hd, shi, fun H6 s6 => ?_⟩
                  have z := c H6 s6
                  unfold rwF at z
                  rw [List.getD_eq_getElem?_getD, ed] at z
                  rw [tl i hi]
                  exact z
                · intro D H' s' hD'
                  obtain ⟨bs, e1, e2⟩ := cat_all (f := fun i j => .bl (rwF (subs (ds.getD i .none)) j)) (n := fun i => (t i).2.length) (ds := ds) (fun _ _ => rfl) (fun i hi => tl i (by omega)) (fun i hi => (hand i hi).imp fun _ h => h.1) ds.length (Nat.le_refl _)
                  rw [ln, e1] at hD'
                  refine ⟨D, bs, rfl, .inl (.inl hD'), ?_⟩
                  have z := q H' (s1.trans s')
                  rw [List.take_length] at e2
                  rw [progD_t, eh, ← e2, decide_eq_true (show 1 ≤ ds.length by omega), decide_eq_true (show ds.length ≤ 4 by omega)] at z
                  exact z
          · refine ift (congrArg not (decide_eq_false (by omega))) (no ?_)
            rw [progD_t]
            rw [decide_eq_false (show ¬ ds.length ≤ 4 by omega)]
            simp
        · refine iff_ (decide_eq_false (by omega)) ⟨_, rfl, ift rfl (no ?_)⟩
          rw [progD_t]
          rw [decide_eq_false (show ¬ 1 ≤ ds.length by omega)]
          simp
      | _ => simp [isD, tyD] at ht
end
end G341

set_option Elab.async false
set_option linter.all false
set_option maxRecDepth 100000
/-! rows turned round; the place of a row; check_program -/
namespace G341
open PySem PySem.Spec PyProof.Rows L2
inductive RowC : PyData → Int → Prop
  | fence {n : Int} : RowC (.tuple [.str "fence"]) n
  | put {n : Int} (p v : Int) (h : (0 ≤ p ∧ p ≤ 3) ∧ (0 ≤ v ∧ v ≤ 3)) : RowC (.tuple [.str "put", .int p, .int v]) n
  | give {n : Int} (p v : Int) (h : (0 ≤ p ∧ p ≤ 3) ∧ (0 ≤ v ∧ v ≤ 2)) : RowC (.tuple [.str "give", .int p, .int v]) n
  | get {n : Int} (v p : Int) (h : (0 ≤ v ∧ v ≤ 2) ∧ (0 ≤ p ∧ p ≤ 3)) : RowC (.tuple [.str "get", .int v, .int p]) n
  | swap {n : Int} (r p v : Int) (h : (0 ≤ r ∧ r ≤ 2) ∧ (0 ≤ p ∧ p ≤ 3) ∧ (0 ≤ v ∧ v ≤ 3)) : RowC (.tuple [.str "swap", .int r, .int p, .int v]) n
  | only {n : Int} (r v k : Int) (h : (0 ≤ r ∧ r ≤ 2) ∧ (0 ≤ v ∧ v ≤ 3) ∧ (1 ≤ k ∧ k ≤ n)) : RowC (.tuple [.str "only", .int r, .int v, .int k]) n
theorem num_in {d : PyData} {a b : Int} (h : numD d a b = true) : ∃ n, d = .int n ∧ a ≤ n ∧ n ≤ b := by
  cases d with
  | int n =>
    have z : (decide (a ≤ n) && decide (n ≤ b)) = true := h
    rw [Bool.and_eq_true] at z
    exact ⟨n, rfl, of_decide_eq_true z.1, of_decide_eq_true z.2⟩
  | _ => cases h
theorem num_to {n a b : Int} (h : a ≤ n ∧ n ≤ b) : numD (.int n) a b = true := by
  show (decide (a ≤ n) && decide (n ≤ b)) = true
  rw [decide_eq_true h.1, decide_eq_true h.2]
  rfl
theorem two_in {r : List PyData} {a b c d : Int} (h : (decide (r.length = 2) && (numD (gD r 0) a b && numD (gD r 1) c d)) = true) : ∃ x y, r = [.int x, .int y] ∧ (a ≤ x ∧ x ≤ b) ∧ (c ≤ y ∧ y ≤ d) := by
  rw [Bool.and_eq_true, Bool.and_eq_true] at h
  obtain ⟨l, h1, h2⟩ := h
  match r, of_decide_eq_true l, h1, h2 with
  | [u, v], _, h1, h2 =>
    obtain ⟨x, rfl, hx⟩ := num_in (d := u) h1
    obtain ⟨y, rfl, hy⟩ := num_in (d := v) h2
    exact ⟨x, y, rfl, hx, hy⟩
theorem three_in {r : List PyData} {a b c d e f : Int} (h : (decide (r.length = 3) && (numD (gD r 0) a b && (numD (gD r 1) c d && numD (gD r 2) e f))) = true) : ∃ x y z, r = [.int x, .int y, .int z] ∧ (a ≤ x ∧ x ≤ b) ∧ (c ≤ y ∧ y ≤ d) ∧ (e ≤ z ∧ z ≤ f) := by
  rw [Bool.and_eq_true, Bool.and_eq_true, Bool.and_eq_true] at h
  obtain ⟨l, h1, h2, h3⟩ := h
  match r, of_decide_eq_true l, h1, h2, h3 with
  | [u, v, w], _, h1, h2, h3 =>
    obtain ⟨x, rfl, hx⟩ := num_in (d := u) h1
    obtain ⟨y, rfl, hy⟩ := num_in (d := v) h2
    obtain ⟨z, rfl, hz⟩ := num_in (d := w) h3
    exact ⟨x, y, z, rfl, hx, hy, hz⟩
theorem row_in {d : PyData} {n : Int} (h : rowD d n = true) : RowC d n := by
  match d, h with
  | .tuple (.str w :: r), h =>
    by_cases e1 : w = ("fence" : Str)
    · subst e1
      rw [rowD_fence] at h
      match r, of_decide_eq_true h with
      | [], _ => exact .fence
    by_cases e2 : w = ("put" : Str)
    · subst e2
      rw [rowD_put] at h
      obtain ⟨x, y, rfl, h'⟩ := two_in h
      exact .put x y h'
    by_cases e3 : w = ("give" : Str)
    · subst e3
      rw [rowD_give] at h
      obtain ⟨x, y, rfl, h'⟩ := two_in h
      exact .give x y h'
    by_cases e4 : w = ("get" : Str)
    · subst e4
      rw [rowD_get] at h
      obtain ⟨x, y, rfl, h'⟩ := two_in h
      exact .get x y h'
    by_cases e5 : w = ("swap" : Str)
    · subst e5
      rw [rowD_swap] at h
      obtain ⟨x, y, z, rfl, h'⟩ := three_in h
      exact .swap x y z h'
    by_cases e6 : w = ("only" : Str)
    · subst e6
      rw [rowD_only] at h
      obtain ⟨x, y, z, rfl, h'⟩ := three_in h
      exact .only x y z h'
    rw [rowD_none e1 e2 e3 e4 e5 e6] at h
    cases h
theorem row_to {d : PyData} {n : Int} (h : RowC d n) : rowD d n = true := by
  cases h with
  | fence => rw [rowD_fence]; rfl
  | put p v h => rw [rowD_put]; show (numD _ _ _ && numD _ _ _) = true; rw [show gD [PyData.int p, PyData.int v] 0 = .int p from rfl, show gD [PyData.int p, PyData.int v] 1 = .int v from rfl, num_to h.1, num_to h.2]; rfl
  | give p v h => rw [rowD_give]; show (numD _ _ _ && numD _ _ _) = true; rw [show gD [PyData.int p, PyData.int v] 0 = .int p from rfl, show gD [PyData.int p, PyData.int v] 1 = .int v from rfl, num_to h.1, num_to h.2]; rfl
  | get p v h => rw [rowD_get]; show (numD _ _ _ && numD _ _ _) = true; rw [show gD [PyData.int p, PyData.int v] 0 = .int p from rfl, show gD [PyData.int p, PyData.int v] 1 = .int v from rfl, num_to h.1, num_to h.2]; rfl
  | swap r p v h => rw [rowD_swap]; show (numD _ _ _ && (numD _ _ _ && numD _ _ _)) = true; rw [show gD [PyData.int r, PyData.int p, PyData.int v] 0 = .int r from rfl, show gD [PyData.int r, PyData.int p, PyData.int v] 1 = .int p from rfl, show gD [PyData.int r, PyData.int p, PyData.int v] 2 = .int v from rfl, num_to h.1, num_to h.2.1, num_to h.2.2]; rfl
  | only r p v h => rw [rowD_only]; show (numD _ _ _ && (numD _ _ _ && numD _ _ _)) = true; rw [show gD [PyData.int r, PyData.int p, PyData.int v] 0 = .int r from rfl, show gD [PyData.int r, PyData.int p, PyData.int v] 1 = .int p from rfl, show gD [PyData.int r, PyData.int p, PyData.int v] 2 = .int v from rfl, num_to h.1, num_to h.2.1, num_to h.2.2]; rfl
def numOf : PyData → Option Int
  | .int n => some n
  | _ => none
/-- the place of a row -/
def plW (w : Str) (r : List PyData) : Option Int := if w = "put" ∨ w = "give" then numOf (gD r 0) else if w = "get" ∨ w = "swap" then numOf (gD r 1) else none
def plD : PyData → Option Int
  | .tuple (.str w :: r) => plW w r
  | _ => none
def plV (d : PyData) : V := match plD d with
  | some n => .int n
  | none => .non
theorem pd_fence : plD (.tuple [.str "fence"]) = none := by
  show plW _ _ = _
  unfold plW
  rw [if_neg (by decide +kernel), if_neg (by decide +kernel)]
theorem pl_fence : plV (.tuple [.str "fence"]) = .non := by
  unfold plV
  rw [pd_fence]
theorem pd_put {p v : Int} : plD (.tuple [.str "put", .int p, .int v]) = some p := by
  show plW _ _ = _
  unfold plW
  rw [if_pos (by decide +kernel)]
  rfl
theorem pl_put {p v : Int} : plV (.tuple [.str "put", .int p, .int v]) = .int p := by
  unfold plV
  rw [pd_put]
theorem pd_give {p v : Int} : plD (.tuple [.str "give", .int p, .int v]) = some p := by
  show plW _ _ = _
  unfold plW
  rw [if_pos (by decide +kernel)]
  rfl
theorem pl_give {p v : Int} : plV (.tuple [.str "give", .int p, .int v]) = .int p := by
  unfold plV
  rw [pd_give]
theorem pd_get {p v : Int} : plD (.tuple [.str "get", .int v, .int p]) = some p := by
  show plW _ _ = _
  unfold plW
  rw [if_neg (by decide +kernel), if_pos (by decide +kernel)]
  rfl
theorem pl_get {p v : Int} : plV (.tuple [.str "get", .int v, .int p]) = .int p := by
  unfold plV
  rw [pd_get]
theorem pd_swap {r p v : Int} : plD (.tuple [.str "swap", .int r, .int p, .int v]) = some p := by
  show plW _ _ = _
  unfold plW
  rw [if_neg (by decide +kernel), if_pos (by decide +kernel)]
  rfl
theorem pl_swap {r p v : Int} : plV (.tuple [.str "swap", .int r, .int p, .int v]) = .int p := by
  unfold plV
  rw [pd_swap]
theorem pd_only {r p v : Int} : plD (.tuple [.str "only", .int r, .int p, .int v]) = none := by
  show plW _ _ = _
  unfold plW
  rw [if_neg (by decide +kernel), if_neg (by decide +kernel)]
theorem pl_only {r p v : Int} : plV (.tuple [.str "only", .int r, .int p, .int v]) = .non := by
  unfold plV
  rw [pd_only]
theorem in_f1 : inV (.str "fence") [.str "put", .str "give"] = false := by decide +kernel
theorem in_f2 : inV (.str "fence") [.str "get", .str "swap"] = false := by decide +kernel
theorem in_p1 : inV (.str "put") [.str "put", .str "give"] = true := by decide +kernel
theorem in_i1 : inV (.str "give") [.str "put", .str "give"] = true := by decide +kernel
theorem in_g1 : inV (.str "get") [.str "put", .str "give"] = false := by decide +kernel
theorem in_g2 : inV (.str "get") [.str "get", .str "swap"] = true := by decide +kernel
theorem in_s1 : inV (.str "swap") [.str "put", .str "give"] = false := by decide +kernel
theorem in_s2 : inV (.str "swap") [.str "get", .str "swap"] = true := by decide +kernel
theorem in_o1 : inV (.str "only") [.str "put", .str "give"] = false := by decide +kernel
theorem in_o2 : inV (.str "only") [.str "get", .str "swap"] = false := by decide +kernel
theorem dps_c {K : PySem.W.Frag} {H : Hp} {vs : List V} {d : PyData} {ds : List PyData} (h : DpAll K H vs (d :: ds)) : ∃ v vr, vs = v :: vr ∧ Dp K H v d ∧ DpAll K H vr ds := by
  cases h with
  | cons a b => exact ⟨_, _, rfl, a, b⟩
theorem dp_str {K : PySem.W.Frag} {H : Hp} {v : V} {x : Str} (h : Dp K H v (.str x)) : v = .str x := by
  cases h
  rfl
theorem dp_int {K : PySem.W.Frag} {H : Hp} {v : V} {x : Int} (h : Dp K H v (.int x)) : v = .int x := by
  cases h
  rfl
def spCheck (K : PySem.W.Frag) : Sp := fun vs H Q _ => ∃ (v : V) (d : PyData), vs = [v] ∧ Dp K H v d ∧ SeqAt.shaped d = true ∧ progD d = true ∧ ∀ H', Same H H' → Q .non H'
section
variable {P : Program} {w : World} {K : PySem.W.Frag} {mg : Str → Option Value} {base : Heap}
theorem sc15 : FnScope ["program"] ["program"] (defScope (tx 16)) := ⟨rfl, rfl, rfl, by decide +kernel, rfl, by decide +kernel, by decide +kernel⟩
theorem ok_check {f fp : Addr} {fd dp : FuncData} (F : Df K mg "check_program" (tx 16) ["program"] f fd) (W : Df K mg "is_program" (tx 15) ["thing"] fp dp)
    (GW : FnOk P w K mg base CX0 4 fp dp ["thing"] (spProg K)) : FnOk P w K mg base CX0 5 f fd ["program"] (spCheck K) := by
  refine F.F.ok sc15 (fun vs H Q E h => ?_) (fun cdv A outer s H vs Q E hr h => ?_)
  · obtain ⟨v, d, rfl, _⟩ := h
    rfl
  · obtain ⟨v, d, rfl, hd, sh, hp, q⟩ := h
    refine ⟨_, pss_one (ps_if (pt_not (pt_val (pe_call GW (hr.mono (by decide)) (by rfl) W.g W.F.kp W.b .nil pass0 (pa_cons (pv 0) pa_nil)))) (pss_one ps_dead) pss_nil), ?_⟩
    refine ⟨_, rfl, _, d, rfl, hd, sh, fun H' s' => ⟨_, rfl, iff_ (by rw [hp]; rfl) (q H' s')⟩⟩
end
end G341

set_option Elab.async false
set_option linter.all false
set_option maxRecDepth 100000
namespace G341
open PySem PySem.Spec PyProof.Rows L2
theorem lc_fltV {J : It} {wi : TI} {σ : L2.St} {H : Hp} {Q : VK} {g : TG} {tt : TT} {te : TE} {vs : List Nat} {n : Nat} {val : Nat → V} (wj : Wk1 J H n val) (hw : ∀ C : It → Hp → Prop, C J H → wi σ H C) (hl : n < sizeLine) (f : Nat → Option V)
    (step : ∀ (i : Nat) (H3 : Hp) (C : VK) (C2 : Hp → Prop), i < n → Same H H3 → OnF C C2 H3 (f i) → g (val i) (wipe σ vs) H3 fun σ2 H2 => wipe σ2 vs = wipe σ vs ∧ tt σ2 H2 fun b H4 => if b = true then te σ2 H4 C else C2 H4)
    (fin : ∀ D H', H D = none → Same H H' → H' D = some (.lst (fltF f n)) → Q (.ref D) H') : tLc wi g tt te vs σ H Q := hw _ (lc_flt wj hl f step fin)
theorem prog_hands {d : PyData} (h : progD d = true) : ∃ hs, d = .tuple hs ∧ 1 ≤ hs.length ∧ hs.length ≤ 4 ∧ (∀ i, i < hs.length → ∃ rs, hs.getD i .none = .tuple rs ∧ rs.length ≤ 16 ∧ ∀ j, j < rs.length → RowC (rs.getD j .none) ((rs.length : Int) - 1 - (j : Nat))) := by
  cases d with
  | tuple hs =>
    rw [progD_t, Bool.and_eq_true, Bool.and_eq_true, Bool.and_eq_true] at h
    obtain ⟨⟨⟨h1, h2⟩, h3⟩, h4⟩ := h
    refine ⟨hs, rfl, of_decide_eq_true h1, of_decide_eq_true h2, fun i hi => ?_⟩
    have z := List.all_eq_true.mp h3 hs[i] (List.getElem_mem hi)
    have y := List.all_eq_true.mp h4 hs[i] (List.getElem_mem hi)
    rw [List.getD_eq_getElem?_getD, List.getElem?_eq_getElem hi]
    generalize hs[i] = d at z y
    cases d with
    | tuple rs =>
      refine ⟨rs, rfl, of_decide_eq_true z, fun j hj => ?_⟩
      have y : rowsD rs ((rs.length : Int) - 1) = true := y
      rw [rowsD_eq] at y
      exact row_in (List.all_eq_true.mp y j (List.mem_range.mpr hj))
    | _ => cases z
  | _ => cases h
theorem hands_at {K : PySem.W.Frag} {H : Hp} {vs : List V} {ds : List PyData} (hds : DpAll K H vs ds) (hand : ∀ i, i < ds.length → ∃ rs, ds.getD i .none = .tuple rs) :
    ∃ t : Nat → Addr × List V, ∀ i, i < vs.length → vs[i]? = some (.ref (t i).1) ∧ SqT K H (t i).1 (t i).2 ∧ DpAll K H (t i).2 (subs (ds.getD i .none)) := by
  have ln := dps_len hds
  have ch : ∀ i, ∃ t : Addr × List V, i < vs.length → vs[i]? = some (.ref t.1) ∧ SqT K H t.1 t.2 ∧ DpAll K H t.2 (subs (ds.getD i .none)) := by
    intro i
    by_cases hi : i < vs.length
    · obtain ⟨d, ed, hd⟩ := dps_get hds (List.getElem?_eq_getElem hi)
      obtain ⟨rs, er⟩ := hand i (by omega)
      have eg : ds.getD i .none = d := by
        rw [List.getD_eq_getElem?_getD, ed]
        rfl
      rw [er] at eg
      subst eg
      cases hv : vs[i] with
      | ref b =>
        rw [hv] at hd
        cases hd with
        | tup hqb hrb =>
          refine ⟨(b, _), fun _ => ⟨by rw [List.getElem?_eq_getElem hi, hv], hqb, ?_⟩⟩
          rw [er]
          exact hrb
      | _ => rw [hv] at hd; cases hd
    · exact ⟨(0, []), fun h => absurd h hi⟩
  exact ⟨fun i => Classical.choose (ch i), fun i => Classical.choose_spec (ch i)⟩
end G341

set_option Elab.async false
set_option linter.all false
set_option maxRecDepth 100000
/-! the text of a row -/
namespace G341
open PySem PySem.Spec PyProof.Rows L2
def dg (i : Int) : Str := toString i
def inOf : PyData → Int
  | .int n => n
  | _ => 0
def rowW (w : Str) (r : List PyData) : Str :=
  if w = "fence" then "fence"
  else if w = "put" then "put " ++ dg (inOf (gD r 0)) ++ " = " ++ dg (inOf (gD r 1))
  else if w = "give" then "give " ++ dg (inOf (gD r 0)) ++ " = r" ++ dg (inOf (gD r 1))
  else if w = "get" then "r" ++ dg (inOf (gD r 0)) ++ " = get " ++ dg (inOf (gD r 1))
  else if w = "swap" then "r" ++ dg (inOf (gD r 0)) ++ " = swap " ++ dg (inOf (gD r 1)) ++ " = " ++ dg (inOf (gD r 2))
  else "only r" ++ dg (inOf (gD r 0)) ++ " = " ++ dg (inOf (gD r 1)) ++ ": " ++ dg (inOf (gD r 2))
def rowT : PyData → Str
  | .tuple (.str w :: r) => rowW w r
  | _ => ""
theorem rt_fence : rowT (.tuple [.str "fence"]) = "fence" := by
  show rowW _ _ = _
  unfold rowW
  rw [if_pos rfl]
theorem rt_put {p v : Int} : rowT (.tuple [.str "put", .int p, .int v]) = "put " ++ dg p ++ " = " ++ dg v := by
  show rowW _ _ = _
  unfold rowW
  rw [if_neg (by decide +kernel), if_pos rfl]
  rfl
theorem rt_give {p v : Int} : rowT (.tuple [.str "give", .int p, .int v]) = "give " ++ dg p ++ " = r" ++ dg v := by
  show rowW _ _ = _
  unfold rowW
  rw [if_neg (by decide +kernel), if_neg (by decide +kernel), if_pos rfl]
  rfl
theorem rt_get {p v : Int} : rowT (.tuple [.str "get", .int v, .int p]) = "r" ++ dg v ++ " = get " ++ dg p := by
  show rowW _ _ = _
  unfold rowW
  rw [if_neg (by decide +kernel), if_neg (by decide +kernel), if_neg (by decide +kernel), if_pos rfl]
  rfl
theorem rt_swap {r p v : Int} : rowT (.tuple [.str "swap", .int r, .int p, .int v]) = "r" ++ dg r ++ " = swap " ++ dg p ++ " = " ++ dg v := by
  show rowW _ _ = _
  unfold rowW
  rw [if_neg (by decide +kernel), if_neg (by decide +kernel), if_neg (by decide +kernel), if_neg (by decide +kernel), if_pos rfl]
  rfl
theorem rt_only {r p v : Int} : rowT (.tuple [.str "only", .int r, .int p, .int v]) = "only r" ++ dg r ++ " = " ++ dg p ++ ": " ++ dg v := by
  show rowW _ _ = _
  unfold rowW
  rw [if_neg (by decide +kernel), if_neg (by decide +kernel), if_neg (by decide +kernel), if_neg (by decide +kernel), if_neg (by decide +kernel)]
  rfl
theorem dg_tab : ∀ n ∈ List.range 101, (dg (n : Nat)).length ≤ 3 := by decide +kernel
theorem dg_len {i : Int} (h : 0 ≤ i ∧ i ≤ 100) : (dg i).length ≤ 3 := by
  have z := dg_tab i.toNat (List.mem_range.mpr (by omega))
  rw [Int.toNat_of_nonneg h.1] at z
  exact z
theorem dg_log : ∀ n ∈ List.range 101, (n : Int).natAbs.log2 < 1920 := by decide +kernel
theorem dg_ok {i : Int} (h : 0 ≤ i ∧ i ≤ 100) : i.natAbs.log2 < 1920 := by
  have z := dg_log i.toNat (List.mem_range.mpr (by omega))
  rw [Int.toNat_of_nonneg h.1] at z
  exact z
theorem catL {a b : Str} {m n : Nat} (h1 : a.length ≤ m) (h2 : b.length ≤ n) : (a ++ b).length ≤ m + n := by
  rw [Str.length_append]
  omega
theorem fitL {a b : Str} {m n : Nat} (h1 : a.length ≤ m) (h2 : b.length ≤ n) (h : m + n ≤ 1000000) : a.length + b.length ≤ sizeLine := by
  rw [sizeLine_eq]
  omega
theorem w0 : ("fence" : Str).length ≤ 10 := by decide +kernel
theorem w1 : ("put " : Str).length ≤ 10 := by decide +kernel
theorem w2 : (" = " : Str).length ≤ 10 := by decide +kernel
theorem w3 : ("give " : Str).length ≤ 10 := by decide +kernel
theorem w4 : (" = r" : Str).length ≤ 10 := by decide +kernel
theorem w5 : ("r" : Str).length ≤ 10 := by decide +kernel
theorem w6 : (" = get " : Str).length ≤ 10 := by decide +kernel
theorem w7 : (" = swap " : Str).length ≤ 10 := by decide +kernel
theorem w8 : ("only r" : Str).length ≤ 10 := by decide +kernel
theorem w9 : (": " : Str).length ≤ 10 := by decide +kernel
theorem rt_len {d : PyData} {n : Int} (h : RowC d n) (hn : n ≤ 100) : (rowT d).length ≤ 40 := by
  cases h with
  | fence => rw [rt_fence]; exact Nat.le_trans w0 (by decide)
  | put p v h => rw [rt_put]; exact Nat.le_trans (catL (catL (catL w1 (dg_len ⟨h.1.1, by omega⟩)) w2) (dg_len ⟨h.2.1, by omega⟩)) (by decide)
  | give p v h => rw [rt_give]; exact Nat.le_trans (catL (catL (catL w3 (dg_len ⟨h.1.1, by omega⟩)) w4) (dg_len ⟨h.2.1, by omega⟩)) (by decide)
  | get p v h => rw [rt_get]; exact Nat.le_trans (catL (catL (catL w5 (dg_len ⟨h.1.1, by omega⟩)) w6) (dg_len ⟨h.2.1, by omega⟩)) (by decide)
  | swap r p v h => rw [rt_swap]; exact Nat.le_trans (catL (catL (catL (catL (catL w5 (dg_len ⟨h.1.1, by omega⟩)) w7) (dg_len ⟨h.2.1.1, by omega⟩)) w2) (dg_len ⟨h.2.2.1, by omega⟩)) (by decide)
  | only r p v h => rw [rt_only]; exact Nat.le_trans (catL (catL (catL (catL (catL w8 (dg_len ⟨h.1.1, by omega⟩)) w2) (dg_len ⟨h.2.1.1, by omega⟩)) w9) (dg_len ⟨by omega, by omega⟩)) (by decide)
def spRowT (K : PySem.W.Frag) : Sp := fun vs H Q _ => ∃ (v : V) (d : PyData) (n : Int), vs = [v] ∧ Dp K H v d ∧ RowC d n ∧ n ≤ 100 ∧ Q (.str (rowT d)) H
section
variable {P : Program} {w : World} {K : PySem.W.Frag} {mg : Str → Option Value} {base : Heap}
theorem sc19 : FnScope ["row"] ["row"] (defScope (tx 19)) := ⟨rfl, rfl, rfl, by decide +kernel, rfl, by decide +kernel, by decide +kernel⟩
theorem ok_rowT {f : Addr} {fd : FuncData} (F : Df K mg "row_text" (tx 19) ["row"] f fd) (B : Bn mg) : FnOk P w K mg base CX0 1 f fd ["row"] (spRowT K) := by
  refine F.F.ok sc19 (fun vs H Q E h => ?_) (fun cdv A outer s H vs Q E hr h => ?_)
  · obtain ⟨v, d, n, rfl, _⟩ := h
    rfl
  · obtain ⟨v, d, n, rfl, hd, hc, hn, q⟩ := h
    have S : ∀ {X : Cx} {e : Expr} {te : TE} {p pos : Pos}, X.mg "str" = none → Gl X "str" → PE X e te → starEach (e :: []) X.env = (false, eval e X.env) :: starEach [] X.env → (backTo pos (starEach [] X.env)).any (·.1) = false → PE X (.Call (.Name "str" p) [e] [] pos) (tCB (fun xs H Q => ∃ i, xs = [.int i] ∧ i.natAbs.log2 < 1920 ∧ Q (.str (toString i)) H) (tCons te tNil)) :=
      fun h1 h2 h3 h4 h5 => pe_callTy call_str_int h2 h1 PyProof.Rows.boot_str (pa_cons h3 pa_nil h4) (by decide) (by decide) h4 h5
    refine ⟨_, pss_cons (ps_if (pt_cmpR op_eq (pe_ix ix_tup (pv 0) pe_int (fun _ _ => rfl)) pe_str (nomark _)) (pss_one (ps_ret pe_str)) pss_nil)
      (pss_cons (ps_if (pt_cmpR op_eq (pe_ix ix_tup (pv 0) pe_int (fun _ _ => rfl)) pe_str (nomark _)) (pss_one (ps_ret (pe_op op_add_str (pe_op op_add_str (pe_op op_add_str pe_str (S B.str rfl (pe_ix ix_tup (pv 0) pe_int (fun _ _ => rfl)) rfl rfl)) pe_str) (S B.str rfl (pe_ix ix_tup (pv 0) pe_int (fun _ _ => rfl)) rfl rfl)))) pss_nil)
      (pss_cons (ps_if (pt_cmpR op_eq (pe_ix ix_tup (pv 0) pe_int (fun _ _ => rfl)) pe_str (nomark _)) (pss_one (ps_ret (pe_op op_add_str (pe_op op_add_str (pe_op op_add_str pe_str (S B.str rfl (pe_ix ix_tup (pv 0) pe_int (fun _ _ => rfl)) rfl rfl)) pe_str) (S B.str rfl (pe_ix ix_tup (pv 0) pe_int (fun _ _ => rfl)) rfl rfl)))) pss_nil)
      (pss_cons (ps_if (pt_cmpR op_eq (pe_ix ix_tup (pv 0) pe_int (fun _ _ => rfl)) pe_str (nomark _)) (pss_one (ps_ret (pe_op op_add_str (pe_op op_add_str (pe_op op_add_str pe_str (S B.str rfl (pe_ix ix_tup (pv 0) pe_int (fun _ _ => rfl)) rfl rfl)) pe_str) (S B.str rfl (pe_ix ix_tup (pv 0) pe_int (fun _ _ => rfl)) rfl rfl)))) pss_nil)
      (pss_cons (ps_if (pt_cmpR op_eq (pe_ix ix_tup (pv 0) pe_int (fun _ _ => rfl)) pe_str (nomark _)) (pss_one (ps_ret (pe_op op_add_str (pe_op op_add_str (pe_op op_add_str (pe_op op_add_str (pe_op op_add_str pe_str (S B.str rfl (pe_ix ix_tup (pv 0) pe_int (fun _ _ => rfl)) rfl rfl)) pe_str) (S B.str rfl (pe_ix ix_tup (pv 0) pe_int (fun _ _ => rfl)) rfl rfl)) pe_str) (S B.str rfl (pe_ix ix_tup (pv 0) pe_int (fun _ _ => rfl)) rfl rfl)))) pss_nil)
      (pss_one (ps_ret (pe_op op_add_str (pe_op op_add_str (pe_op op_add_str (pe_op op_add_str (pe_op op_add_str pe_str (S B.str rfl (pe_ix ix_tup (pv 0) pe_int (fun _ _ => rfl)) rfl rfl)) pe_str) (S B.str rfl (pe_ix ix_tup (pv 0) pe_int (fun _ _ => rfl)) rfl rfl)) pe_str) (S B.str rfl (pe_ix ix_tup (pv 0) pe_int (fun _ _ => rfl)) rfl rfl)))))))), ?_⟩
    cases hd with
    | tup hq hds =>
        rename_i a vs ds
        cases hc with
        | fence =>
          obtain ⟨v0, vr0, rfl, h0, hr0⟩ := dps_c hds
          cases dp_str h0
          rw [rt_fence] at q
          exact ⟨_, rfl, a, _, 0, _, rfl, rfl, hq, atI_nat (j := 0) rfl, rfl, _, rfl, ift (by decide +kernel) q⟩
        | put p v h =>
          obtain ⟨v0, vr0, rfl, h0, hr0⟩ := dps_c hds
          cases dp_str h0
          obtain ⟨v1, vr1, rfl, h1, hr1⟩ := dps_c hr0
          cases dp_int h1
          obtain ⟨v2, vr2, rfl, h2, hr2⟩ := dps_c hr1
          cases dp_int h2
          have b1 : 0 ≤ p ∧ p ≤ 100 := ⟨h.1.1, by omega⟩
          have b2 : 0 ≤ v ∧ v ≤ 100 := ⟨h.2.1, by omega⟩
          rw [rt_put] at q
          exact ⟨_, rfl, a, _, 0, _, rfl, rfl, hq, atI_nat (j := 0) rfl, rfl, _, rfl, iff_ (by decide +kernel) ⟨_, rfl, a, _, 0, _, rfl, rfl, hq, atI_nat (j := 0) rfl, rfl, _, rfl, ift (by decide +kernel) ⟨_, rfl, a, _, 1, _, rfl, rfl, hq, atI_nat (j := 1) rfl, _, rfl, dg_ok b1, _, _, rfl, rfl, fitL w1 (dg_len b1) (by decide), _, _, rfl, rfl, fitL (catL w1 (dg_len b1)) w2 (by decide), _, rfl, a, _, 2, _, rfl, rfl, hq, atI_nat (j := 2) rfl, _, rfl, dg_ok b2, _, _, rfl, rfl, fitL (catL (catL w1 (dg_len b1)) w2) (dg_len b2) (by decide), q⟩⟩⟩
        | give p v h =>
          obtain ⟨v0, vr0, rfl, h0, hr0⟩ := dps_c hds
          cases dp_str h0
          obtain ⟨v1, vr1, rfl, h1, hr1⟩ := dps_c hr0
          cases dp_int h1
          obtain ⟨v2, vr2, rfl, h2, hr2⟩ := dps_c hr1
          cases dp_int h2
          have b1 : 0 ≤ p ∧ p ≤ 100 := ⟨h.1.1, by omega⟩
          have b2 : 0 ≤ v ∧ v ≤ 100 := ⟨h.2.1, by omega⟩
          rw [rt_give] at q
          exact ⟨_, rfl, a, _, 0, _, rfl, rfl, hq, atI_nat (j := 0) rfl, rfl, _, rfl, iff_ (by decide +kernel) ⟨_, rfl, a, _, 0, _, rfl, rfl, hq, atI_nat (j := 0) rfl, rfl, _, rfl, iff_ (by decide +kernel) ⟨_, rfl, a, _, 0, _, rfl, rfl, hq, atI_nat (j := 0) rfl, rfl, _, rfl, ift (by decide +kernel) ⟨_, rfl, a, _, 1, _, rfl, rfl, hq, atI_nat (j := 1) rfl, _, rfl, dg_ok b1, _, _, rfl, rfl, fitL w3 (dg_len b1) (by decide), _, _, rfl, rfl, fitL (catL w3 (dg_len b1)) w4 (by decide), _, rfl, a, _, 2, _, rfl, rfl, hq, atI_nat (j := 2) rfl, _, rfl, dg_ok b2, _, _, rfl, rfl, fitL (catL (catL w3 (dg_len b1)) w4) (dg_len b2) (by decide), q⟩⟩⟩⟩
        | get v p h =>
          obtain ⟨v0, vr0, rfl, h0, hr0⟩ := dps_c hds
          cases dp_str h0
          obtain ⟨v1, vr1, rfl, h1, hr1⟩ := dps_c hr0
          cases dp_int h1
          obtain ⟨v2, vr2, rfl, h2, hr2⟩ := dps_c hr1
          cases dp_int h2
          have b1 : 0 ≤ v ∧ v ≤ 100 := ⟨h.1.1, by omega⟩
          have b2 : 0 ≤ p ∧ p ≤ 100 := ⟨h.2.1, by omega⟩
          rw [rt_get] at q
          exact ⟨_, rfl, a, _, 0, _, rfl, rfl, hq, atI_nat (j := 0) rfl, rfl, _, rfl, iff_ (by decide +kernel) ⟨_, rfl, a, _, 0, _, rfl, rfl, hq, atI_nat (j := 0) rfl, rfl, _, rfl, iff_ (by decide +kernel) ⟨_, rfl, a, _, 0, _, rfl, rfl, hq, atI_nat (j := 0) rfl, rfl, _, rfl, iff_ (by decide +kernel) ⟨_, rfl, a, _, 0, _, rfl, rfl, hq, atI_nat (j := 0) rfl, rfl, _, rfl, ift (by decide +kernel) ⟨_, rfl, a, _, 1, _, rfl, rfl, hq, atI_nat (j := 1) rfl, _, rfl, dg_ok b1, _, _, rfl, rfl, fitL w5 (dg_len b1) (by decide), _, _, rfl, rfl, fitL (catL w5 (dg_len b1)) w6 (by decide), _, rfl, a, _, 2, _, rfl, rfl, hq, atI_nat (j := 2) rfl, _, rfl, dg_ok b2, _, _, rfl, rfl, fitL (catL (catL w5 (dg_len b1)) w6) (dg_len b2) (by decide), q⟩⟩⟩⟩⟩
        | swap r p v h =>
          obtain ⟨v0, vr0, rfl, h0, hr0⟩ := dps_c hds
          cases dp_str h0
          obtain ⟨v1, vr1, rfl, h1, hr1⟩ := dps_c hr0
          cases dp_int h1
          obtain ⟨v2, vr2, rfl, h2, hr2⟩ := dps_c hr1
          cases dp_int h2
          obtain ⟨v3, vr3, rfl, h3, hr3⟩ := dps_c hr2
          cases dp_int h3
          have b1 : 0 ≤ r ∧ r ≤ 100 := ⟨h.1.1, by omega⟩
          have b2 : 0 ≤ p ∧ p ≤ 100 := ⟨h.2.1.1, by omega⟩
          have b3 : 0 ≤ v ∧ v ≤ 100 := ⟨h.2.2.1, by omega⟩
          rw [rt_swap] at q
          exact ⟨_, rfl, a, _, 0, _, rfl, rfl, hq, atI_nat (j := 0) rfl, rfl, _, rfl, iff_ (by decide +kernel) ⟨_, rfl, a, _, 0, _, rfl, rfl, hq, atI_nat (j := 0) rfl, rfl, _, rfl, iff_ (by decide +kernel) ⟨_, rfl, a, _, 0, _, rfl, rfl, hq, atI_nat (j := 0) rfl, rfl, _, rfl, iff_ (by decide +kernel) ⟨_, rfl, a, _, 0, _, rfl, rfl, hq, atI_nat (j := 0) rfl, rfl, _, rfl, iff_ (by decide +kernel) ⟨_, rfl, a, _, 0, _, rfl, rfl, hq, atI_nat (j := 0) rfl, rfl, _, rfl, ift (by decide +kernel) ⟨_, rfl, a, _, 1, _, rfl, rfl, hq, atI_nat (j := 1) rfl, _, rfl, dg_ok b1, _, _, rfl, rfl, fitL w5 (dg_len b1) (by decide), _, _, rfl, rfl, fitL (catL w5 (dg_len b1)) w7 (by decide), _, rfl, a, _, 2, _, rfl, rfl, hq, atI_nat (j := 2) rfl, _, rfl, dg_ok b2, _, _, rfl, rfl, fitL (catL (catL w5 (dg_len b1)) w7) (dg_len b2) (by decide), _, _, rfl, rfl, fitL (catL (catL (catL w5 (dg_len b1)) w7) (dg_len b2)) w2 (by decide), _, rfl, a, _, 3, _, rfl, rfl, hq, atI_nat (j := 3) rfl, _, rfl, dg_ok b3, _, _, rfl, rfl, fitL (catL (catL (catL (catL w5 (dg_len b1)) w7) (dg_len b2)) w2) (dg_len b3) (by decide), q⟩⟩⟩⟩⟩⟩
        | only r p v h =>
          obtain ⟨v0, vr0, rfl, h0, hr0⟩ := dps_c hds
          cases dp_str h0
          obtain ⟨v1, vr1, rfl, h1, hr1⟩ := dps_c hr0
          cases dp_int h1
          obtain ⟨v2, vr2, rfl, h2, hr2⟩ := dps_c hr1
          cases dp_int h2
          obtain ⟨v3, vr3, rfl, h3, hr3⟩ := dps_c hr2
          cases dp_int h3
          have b1 : 0 ≤ r ∧ r ≤ 100 := ⟨h.1.1, by omega⟩
          have b2 : 0 ≤ p ∧ p ≤ 100 := ⟨h.2.1.1, by omega⟩
          have b3 : 0 ≤ v ∧ v ≤ 100 := ⟨by omega, by omega⟩
          rw [rt_only] at q
          exact ⟨_, rfl, a, _, 0, _, rfl, rfl, hq, atI_nat (j := 0) rfl, rfl, _, rfl, iff_ (by decide +kernel) ⟨_, rfl, a, _, 0, _, rfl, rfl, hq, atI_nat (j := 0) rfl, rfl, _, rfl, iff_ (by decide +kernel) ⟨_, rfl, a, _, 0, _, rfl, rfl, hq, atI_nat (j := 0) rfl, rfl, _, rfl, iff_ (by decide +kernel) ⟨_, rfl, a, _, 0, _, rfl, rfl, hq, atI_nat (j := 0) rfl, rfl, _, rfl, iff_ (by decide +kernel) ⟨_, rfl, a, _, 0, _, rfl, rfl, hq, atI_nat (j := 0) rfl, rfl, _, rfl, iff_ (by decide +kernel) ⟨_, rfl, a, _, 1, _, rfl, rfl, hq, atI_nat (j := 1) rfl, _, rfl, dg_ok b1, _, _, rfl, rfl, fitL w8 (dg_len b1) (by decide), _, _, rfl, rfl, fitL (catL w8 (dg_len b1)) w2 (by decide), _, rfl, a, _, 2, _, rfl, rfl, hq, atI_nat (j := 2) rfl, _, rfl, dg_ok b2, _, _, rfl, rfl, fitL (catL (catL w8 (dg_len b1)) w2) (dg_len b2) (by decide), _, _, rfl, rfl, fitL (catL (catL (catL w8 (dg_len b1)) w2) (dg_len b2)) w9 (by decide), _, rfl, a, _, 3, _, rfl, rfl, hq, atI_nat (j := 3) rfl, _, rfl, dg_ok b3, _, _, rfl, rfl, fitL (catL (catL (catL (catL w8 (dg_len b1)) w2) (dg_len b2)) w9) (dg_len b3) (by decide), q⟩⟩⟩⟩⟩⟩
    | _ => cases hc
end
end G341

set_option Elab.async false
set_option linter.all false
set_option maxRecDepth 100000
/-! the text of a program -/
namespace G341
open PySem PySem.Spec PyProof.Rows L2
def handT (d : PyData) : Str := Txt.join "; " ((subs d).map rowT)
def lineT (d : PyData) : Str := handT d ++ "\n"
def progT (d : PyData) : Str := Txt.join "" ((subs d).map lineT)
def spProgT (K : PySem.W.Frag) : Sp := fun vs H Q _ => ∃ (v : V) (d : PyData), vs = [v] ∧ Dp K H v d ∧ SeqAt.shaped d = true ∧ progD d = true ∧ ∀ H', Same H H' → Q (.str (progT d)) H'
def cs20 : Scope := match defBody (tx 20) with
  | [_, .Return (some (.Call _ [.ListComp _ _ sc _] _ _)) _] => sc
  | _ => defScope (tx 20)
def rAddS : R2 := fun x y H Q => ∃ i j, x = .str i ∧ y = .str j ∧ i.length + j.length ≤ sizeLine ∧ Q (.str (i ++ j)) H
def rJoin (K : PySem.W.Frag) : V → List V → Hp → VK → Prop := fun x xs H Q => ∃ a p, ∃ ys : List Str, x = .str a ∧ xs = [.ref p] ∧ (SqL K H p (ys.map V.str) ∨ SqT K H p (ys.map V.str)) ∧ (ys.map (·.length)).sum + ys.length * a.length ≤ 16777216 ∧ Q (.str (Txt.join a ys)) H
theorem sum_le {k : Nat} : ∀ {ys : List Str}, (∀ y ∈ ys, y.length ≤ k) → (ys.map (·.length)).sum ≤ ys.length * k
  | [], _ => by simp
  | y :: r, h => by
    rw [List.map_cons, List.sum_cons, List.length_cons, Nat.succ_mul]
    have h1 := h y List.mem_cons_self
    have h2 := sum_le (ys := r) fun z hz => h z (List.mem_cons_of_mem _ hz)
    omega
theorem join_le {a : Str} {ys : List Str} {k : Nat} (h : ∀ y ∈ ys, y.length ≤ k) : (Txt.join a ys).length ≤ ys.length * k + ys.length * a.length := by
  have z := StrLaws.join_length_le a ys
  have z2 := sum_le h
  show (Builtin.Str.glued a ys).length ≤ _
  rw [StrLaws.glued_eq_join]
  omega
theorem semi_len : ("; " : Str).length = 2 := by decide +kernel
theorem nl_len : ("\n" : Str).length = 1 := by decide +kernel
theorem no_len : ("" : Str).length = 0 := by decide +kernel
theorem hand_len {rs : List PyData} (l : rs.length ≤ 16) (h : ∀ j, j < rs.length → RowC (rs.getD j .none) ((rs.length : Int) - 1 - (j : Nat))) : (∀ y ∈ rs.map rowT, y.length ≤ 40) ∧ (lineT (.tuple rs)).length ≤ 700 := by
  have h1 : ∀ y ∈ rs.map rowT, y.length ≤ 40 := by
    intro y hy
    obtain ⟨r, hr, rfl⟩ := List.mem_map.mp hy
    obtain ⟨j, hj, e⟩ := List.getElem_of_mem hr
    have z := h j hj
    rw [List.getD_eq_getElem?_getD, List.getElem?_eq_getElem hj] at z
    have z : RowC rs[j] _ := z
    rw [e] at z
    exact rt_len z (by omega)
  refine ⟨h1, ?_⟩
  have z := join_le (a := "; ") h1
  rw [semi_len, List.length_map] at z
  show (Txt.join "; " (rs.map rowT) ++ "\n").length ≤ 700
  rw [Str.length_append, nl_len]
  omega
section
variable {P : Program} {w : World} {K : PySem.W.Frag} {mg : Str → Option Value} {base : Heap}
abbrev N20 : List Str := ["program", "hand", "row"]
theorem sc20 : FnScope N20 ["program"] (defScope (tx 20)) := ⟨rfl, rfl, rfl, by decide +kernel, rfl, by decide +kernel, by decide +kernel⟩
theorem ok_progT {f fc fr : Addr} {fd dc dr : FuncData} (F : Df K mg "program_text" (tx 20) ["program"] f fd) (C : Df K mg "check_program" (tx 16) ["program"] fc dc) (R : Df K mg "row_text" (tx 19) ["row"] fr dr)
    (GC : FnOk P w K mg base CX0 5 fc dc ["program"] (spCheck K)) (GR : FnOk P w K mg base CX0 1 fr dr ["row"] (spRowT K)) (B : Bn mg) : FnOk P w K mg base CX0 6 f fd ["program"] (spProgT K) := by
  refine F.F.ok sc20 (fun vs H Q E h => ?_) (fun cdv A outer s H vs Q E hr h => ?_)
  · obtain ⟨v, d, rfl, _⟩ := h
    rfl
  · obtain ⟨v, d, rfl, hd, sh, hp, q⟩ := h
    refine ⟨_, pss_cons (ps_expr (pe_call GC (hr.mono (by decide)) (by rfl) C.g C.F.kp C.b .nil pass0 (pa_cons (pv 0) pa_nil)))
      (pss_one (ps_ret (pe_bm PySem.F.plainAttrs_str PySem.F.slot_str_join PySem.F.type_str_join mt_join pe_str (pa_cons
        (pe_lc (own := [("hand", 1)]) (g := gName 1) (tt := tYes) (te := tOp rAddS (tBM K "str" (rJoin K) (tC (.str "; ")) (tCons (tLc (iTup K (tVar 1)) (gName 2) tYes (tCall (spRowT K) [] E0 (tCons (tVar 2) tNil)) [2]) tNil)) (tC (.str "\n"))) rfl sc20.nd (pi_tup (pv 0)) (blkOk_by (N := N20) (sc := defScope (tx 20)) (by decide +kernel)) (fun _ _ _ _ _ => pg_name (i := 1) sc20.nd rfl (Or.inl rfl)) (fun _ _ _ _ _ => pts_nil)
          (fun _ _ _ _ _ => by
            refine pe_op op_add_str (pe_bm PySem.F.plainAttrs_str PySem.F.slot_str_join PySem.F.type_str_join mt_join pe_str (pa_cons ?_ pa_nil)) pe_str
            refine pe_lc (own := [("row", 2)]) rfl sc20.nd (pi_tup (pv 1)) (blkOk_by (N := N20) (sc := relS cs20 (defScope (tx 20))) (by decide +kernel)) (fun _ _ _ _ _ => pg_name (i := 2) sc20.nd rfl (Or.inl rfl)) (fun _ _ _ _ _ => pts_nil) ?_
            intro _ _ _ _ _
            exact pe_call GR (hr.mono (by decide)) (by rfl) R.g R.F.kp R.b .nil pass0 (pa_cons (pv 2) pa_nil))) pa_nil)))), ?_⟩
    refine ⟨_, rfl, _, _, rfl, hd, sh, hp, fun H1 s1 => ?_⟩
    obtain ⟨ds, rfl, l1, l2, hand⟩ := prog_hands hp
    cases hd with
    | tup hq hds =>
      rename_i a vs
      have ln := dps_len hds
      obtain ⟨t, ht⟩ := hands_at hds fun i hi => (hand i hi).imp fun _ h => h.1
      refine ⟨rfl, ?_⟩
      dsimp only [tCons, List.map]
      refine lc_tupV (K := K) (by rfl) (same_sqt s1 hq) (by rw [sizeLine_eq]; omega) (fun i => .str (lineT (ds.getD i .none))) ?_ ?_
      · intro i x H3 C hx s3 c
        have hi : i < vs.length := (List.getElem?_eq_some_iff.mp hx).1
        obtain ⟨hx2, hqi, hri⟩ := ht i hi
        rw [hx] at hx2
        cases hx2
        obtain ⟨rs, er, lr, hrow⟩ := hand i (by omega)
        rw [er] at c hri
        have hri : DpAll K H (t i).2 rs := hri
        have li := dps_len hri
        obtain ⟨q1, q2⟩ := hand_len lr hrow
        have s13 := s1.trans s3
        refine ⟨by rfl, ?_⟩
        dsimp only [tOp, tBM, tC, tCons]
        refine ⟨rfl, ?_⟩
        refine lc_tupV (K := K) (by rfl) (same_sqt s13 hqi) (by rw [sizeLine_eq]; omega) (fun j => .str (rowT (rs.getD j .none))) ?_ ?_
        · intro j y H4 C2 hy s4 c2
          obtain ⟨d, ed, hd⟩ := dps_get hri hy
          have hj : j < rs.length := (List.getElem?_eq_some_iff.mp ed).1
          have eg : rs.getD j .none = d := by
            rw [List.getD_eq_getElem?_getD, ed]
            rfl
          have z := hrow j hj
          have z2 := c2 H4 (Same.refl _)
          rw [eg] at z z2
          exact ⟨by rfl, _, rfl, _, d, _, rfl, dp_same (s13.trans s4) hd, z, by omega, z2⟩
        · intro D H4 s4 hD
          have eD : H4 D = some (.lst ((rs.map rowT).map V.str)) := by
            rw [hD, li, ← map_getD rowT .none rs, List.map_map]
            rfl
          have z := sum_le q1
          have z2 := join_le (a := "; ") q1
          rw [List.length_map] at z z2
          rw [semi_len] at z2
          refine ⟨"; ", D, rs.map rowT, rfl, rfl, .inl (.inl (.inl eD)), by rw [List.length_map, semi_len]; omega, _, _, rfl, rfl, fitL (m := 700) (n := 1) (by omega) (Nat.le_of_eq nl_len) (by decide), ?_⟩
          exact c H4 s4
      · intro D H2 s2 hD
        have hl : ∀ y ∈ ds.map lineT, y.length ≤ 700 := by
          intro y hy
          obtain ⟨r, hr', rfl⟩ := List.mem_map.mp hy
          obtain ⟨j, hj, e⟩ := List.getElem_of_mem hr'
          obtain ⟨rs, er, lr, hrow⟩ := hand j hj
          rw [List.getD_eq_getElem?_getD, List.getElem?_eq_getElem hj] at er
          have er : ds[j] = .tuple rs := er
          rw [← e, er]
          exact (hand_len lr hrow).2
        have z := sum_le hl
        rw [List.length_map] at z
        refine ⟨"", D, ds.map lineT, rfl, rfl, .inl (.inl (.inl ?_)), by rw [List.length_map, no_len]; omega, q H2 (s1.trans s2)⟩
        rw [hD, ln, ← map_getD lineT .none ds, List.map_map]
        rfl
end
end G341

set_option Elab.async false
set_option linter.all false
set_option maxRecDepth 100000
/-! the numbers in a text -/
namespace G341
open PySem PySem.Spec PyProof.Rows L2
def isDig (c : Nat) : Bool := decide (48 ≤ c) && decide (c ≤ 57)
def stepN (s : List Int × List Nat) (c : Nat) : List Int × List Nat :=
  if isDig c = true then (s.1, s.2 ++ [c]) else if s.2 = [] then s else (s.1 ++ [((NumText.digitsVal (s.2.take 9) : Nat) : Int)], [])
def numsL (l : List Nat) : List Int × List Nat := l.foldl stepN ([], [])
def numsT (t : Str) : List Int := (numsL (t.cps.toList ++ [32])).1
theorem nums_snoc (l : List Nat) (c : Nat) : numsL (l ++ [c]) = stepN (numsL l) c := by
  unfold numsL
  rw [List.foldl_append]
  rfl
theorem fold_inv : ∀ (l : List Nat) (s : List Int × List Nat), s.2.all isDig = true → (l.foldl stepN s).2.all isDig = true ∧ (l.foldl stepN s).2.length ≤ s.2.length + l.length ∧ (l.foldl stepN s).1.length ≤ s.1.length + l.length
  | [], s, h => ⟨h, Nat.le_refl _, Nat.le_refl _⟩
  | c :: l, s, h => by
    have go : (stepN s c).2.all isDig = true ∧ (stepN s c).2.length ≤ s.2.length + 1 ∧ (stepN s c).1.length ≤ s.1.length + 1 := by
      unfold stepN
      by_cases hc : isDig c = true
      · rw [if_pos hc]
        refine ⟨by rw [List.all_append, h]; simp [hc], by rw [List.length_append, List.length_singleton]; omega, by show s.1.length ≤ s.1.length + 1; omega⟩
      · rw [if_neg hc]
        by_cases e : s.2 = []
        · rw [if_pos e]
          exact ⟨h, by omega, by omega⟩
        · rw [if_neg e]
          exact ⟨rfl, Nat.zero_le _, by rw [List.length_append, List.length_singleton]; omega⟩
    have z := fold_inv l (stepN s c) go.1
    rw [List.foldl_cons, List.length_cons]
    exact ⟨z.1, by omega, by omega⟩
theorem nums_inv (l : List Nat) : (numsL l).2.all isDig = true ∧ (numsL l).2.length ≤ l.length ∧ (numsL l).1.length ≤ l.length := by
  have z := fold_inv l ([], []) rfl
  unfold numsL
  refine ⟨z.1, ?_, ?_⟩
  · have := z.2.1
    simpa using this
  · have := z.2.2
    simpa using this
theorem dig_cps : ("0123456789" : Str).cps.toList = [48, 49, 50, 51, 52, 53, 54, 55, 56, 57] := by decide +kernel
theorem dig_in (c : Nat) : decide (c ∈ ("0123456789" : Str).cps.toList) = isDig c := by
  rw [dig_cps]
  unfold isDig
  rw [Bool.eq_iff_iff, decide_eq_true_iff, Bool.and_eq_true, decide_eq_true_iff, decide_eq_true_iff]
  simp only [List.mem_cons, List.not_mem_nil, or_false]
  omega
theorem cut9 (a : List Nat) : cutS (SX.S a) none (some 9) = SX.S (a.take 9) := by
  unfold cutS
  rw [show (some (9 : Int)) = some ((9 : Nat) : Int) from rfl, HT.sIx_nat, HT.sIx_none, SX.S_len]
  show SX.S _ = _
  congr 1
  rw [List.drop_zero, Nat.sub_zero]
  show (SX.S a).cps.toList.take _ = _
  show a.toArray.toList.take _ = _
  rw [List.toList_toArray]
  by_cases h : 9 ≤ a.length
  · rw [Nat.min_eq_left h]
  · rw [Nat.min_eq_right (by omega), List.take_of_length_le (Nat.le_refl _), List.take_of_length_le (by omega)]
/-- for c in x: -/
theorem for_str {x : Str} {g : TG} {tb : TS} {D : Ends} {σ : L2.St} {H : Hp} (Pv : Nat → L2.St → Hp → Prop) (h0 : Pv 0 σ H)
    (hs : ∀ i c σ H, x.cps.toList[i]? = some c → Pv i σ H → g (.str ⟨#[c]⟩) σ H fun σ2 H2 => tb { D with nx := Pv (i + 1), ct := Pv (i + 1), bk := D.nx } σ2 H2) (hd : ∀ σ H, Pv x.cps.toList.length σ H → D.nx σ H) :
    ∃ W : Nat → Nat → L2.St → Hp → Prop, (∃ m, W 0 m σ H) ∧ ∀ i m σ H, W i m σ H →
      ((Its x).stop i H ∧ D.nx σ H) ∨ ((Its x).go i H ∧ ∃ N : L2.St → Hp → Prop, (∀ σ' H', N σ' H' → ∃ m', m' < m ∧ W (i + 1) m' σ' H') ∧ ∀ y H', (Its x).yld i H y H' → g y σ H' fun σ2 H2 => tb { D with nx := N, ct := N, bk := D.nx } σ2 H2) := by
  have hl : x.cps.toList.length = x.cps.size := by simp
  refine ⟨fun i m σ H => m = x.cps.size - i ∧ i ≤ x.cps.size ∧ Pv i σ H, ⟨x.cps.size, rfl, Nat.zero_le _, h0⟩, ?_⟩
  rintro i m σ H ⟨rfl, hi, p⟩
  by_cases lt : i < x.cps.size
  · refine .inr ⟨lt, Pv (i + 1), fun σ' H' p' => ⟨x.cps.size - (i + 1), by omega, rfl, lt, p'⟩, ?_⟩
    rintro y H' ⟨eH, c, hc, rfl⟩
    rw [eH]
    exact hs i c σ H (by rw [← hc]; simp) p
  · have e : i = x.cps.size := by omega
    subst e
    exact .inl ⟨Nat.le_refl _, hd σ H (by rw [hl]; exact p)⟩
def spNums (K : PySem.W.Frag) : Sp := fun vs H Q _ => ∃ t : Str, vs = [.str t] ∧ t.length ≤ 100000 ∧ ∀ q H', Same H H' → H' q = some (.lst ((numsT t).map V.int)) → Q (.ref q) H'
def Dgt (mg : Str → Option Value) : Prop := ∃ t, mg "DIGITS" = some (.str "0123456789" t)
section
variable {P : Program} {w : World} {K : PySem.W.Frag} {mg : Str → Option Value} {base : Heap}
theorem sc22 : FnScope ["text", "found", "digits", "sign"] ["text"] (defScope (tx 22)) := ⟨rfl, rfl, rfl, by decide +kernel, rfl, by decide +kernel, by decide +kernel⟩
theorem ok_nums {f : Addr} {fd : FuncData} (F : Df K mg "numbers_in" (tx 22) ["text"] f fd) (B : Bn mg) (Dg : Dgt mg) : FnOk P w K mg base CX0 1 f fd ["text"] (spNums K) := by
  refine F.F.ok sc22 (fun vs H Q E h => ?_) (fun cdv A outer s H vs Q E hr h => ?_)
  · obtain ⟨t, rfl, _⟩ := h
    rfl
  · obtain ⟨t, rfl, tl, q⟩ := h
    obtain ⟨tk, et⟩ := Dg
    refine ⟨_, pss_cons (ps_par (i := 1) (j := 2) rfl sc22.nd rfl rfl (by decide) rfl rfl (pa_cons (pe_lst pa_nil) (pa_cons pe_str pa_nil)) rfl)
      (pss_cons (ps_for PassesOwn.never rfl (pi_str (pe_op op_add_str (pv 0) pe_str)) (pg_name (i := 3) sc22.nd rfl (Or.inl rfl))
        (pss_one (ps_if (pt_cmpR op_in_sign (pv 3) (pe_glob (v := .str "0123456789") rfl et ⟨tk, rfl⟩) rfl) (pss_one (ps_aug (i := 2) sc22.nd rfl (Or.inl rfl) (pv 3) iop_add_str))
          (pss_one (ps_if (pt_cmpR op_ne (pv 2) pe_str (nomark _)) (pss_cons (ps_expr (pe_bm PySem.F.plainAttrs_list PySem.F.slot_list_append PySem.F.type_list_append mt_append (pv 1) (pa_cons (pe_callTy call_int_str (by rfl) B.int PyProof.Rows.boot_int (pa_cons (pe_slice sl_str (pv 2) po_none (po_some pe_int)) pa_nil)) pa_nil))) (pss_one (ps_set (i := 2) sc22.nd rfl (Or.inl rfl) pe_str))) pss_nil)))))
      (pss_one (ps_ret (pv 1)))), ?_⟩
    have eL : (t ++ " ").cps.toList = t.cps.toList ++ [32] := by
      rw [Str.cps_append, Array.toList_append]
      rfl
    have lL : (t ++ " ").cps.toList.length ≤ 100001 := by
      rw [eL, List.length_append, List.length_singleton]
      have : t.cps.toList.length = t.length := by simp [Str.length]
      omega
    refine ⟨Nat.zero_le _, fun l hl => ⟨_, _, rfl, ?_⟩⟩
    refine ⟨_, rfl, _, _, rfl, rfl, fitL (m := 100000) (n := 1) tl (by decide) (by decide), _, rfl, ?_⟩
    refine for_str (fun i σ H' => ∃ b3, σ = [some (.str t), some (.ref l), some (.str (SX.S (numsL ((t ++ " ").cps.toList.take i)).2)), b3] ∧ Same H H' ∧ H' l = some (.lst ((numsL ((t ++ " ").cps.toList.take i)).1.map V.int)))
      ⟨_, rfl, same_up hl, upd_same⟩ ?_ ?_
    · rintro i c σ H1 hc ⟨b3, rfl, s1, h1⟩
      have hi : i < (t ++ " ").cps.toList.length := (List.getElem?_eq_some_iff.mp hc).1
      have en : numsL ((t ++ " ").cps.toList.take (i + 1)) = stepN (numsL ((t ++ " ").cps.toList.take i)) c := by
        rw [List.take_add_one, hc, ← nums_snoc]
        rfl
      obtain ⟨n1, n2, n3⟩ := nums_inv ((t ++ " ").cps.toList.take i)
      rw [List.length_take] at n2 n3
      generalize numsL ((t ++ " ").cps.toList.take i) = st at en n1 n2 n3 h1
      refine ⟨_, rfl, c, _, rfl, rfl, _, rfl, ?_⟩
      rw [dig_in]
      by_cases hd : isDig c = true
      · refine ift hd ⟨_, rfl, _, rfl, _, _, rfl, rfl, ?_, ?_⟩
        · refine fitL (m := 100001) (n := 1) ?_ (by show (1 : Nat) ≤ 1; decide) (by decide)
          rw [SX.S_len]
          omega
        · rw [show (SX.S st.2 ++ (⟨#[c]⟩ : Str)) = SX.S (st.2 ++ [c]) from SX.S_cat st.2 [c]]
          unfold stepN at en
          rw [if_pos hd] at en
          rw [en]
          exact ⟨_, rfl, s1, h1⟩
      · refine iff_ (by simpa using hd) ⟨_, rfl, rfl, _, rfl, ?_⟩
        unfold stepN at en
        rw [if_neg hd] at en
        by_cases he : st.2 = []
        · rw [if_pos he] at en
          refine iff_ ?_ ?_
          · rw [he]
            decide
          · rw [en]
            exact ⟨_, rfl, s1, h1⟩
        · rw [if_neg he] at en
          refine ift ?_ ?_
          · refine congrArg not (decide_eq_false fun e => he ?_)
            exact SX.S_inj (V.str.inj e)
          · have hall : (st.2.take 9).all (fun c => decide (48 ≤ c) && decide (c ≤ 57)) = true := by
              rw [List.all_eq_true]
              intro d hd
              exact List.all_eq_true.mp n1 d (List.mem_of_mem_take hd)
            have h9 : (st.2.take 9).length ≤ 9 := by rw [List.length_take]; omega
            have hne : st.2.take 9 ≠ [] := by
              intro z
              rcases List.take_eq_nil_iff.mp z with z | z
              · cases z
              · exact he z
            refine ⟨_, rfl, .inl ⟨rfl, _, .inl (.inl h1)⟩, _, rfl, 9, rfl, _, rfl, by rw [SX.S_len, sizeLine_eq]; omega, ?_⟩
            rw [cut9]
            refine ⟨_, _, rfl, SX.int_S hall hne (by omega), by rw [SX.S_len]; omega, ?_⟩
            refine ⟨l, _, _, rfl, rfl, h1, by rw [List.length_map, sizeLine_eq]; omega, ?_⟩
            rw [en]
            refine ⟨_, rfl, fun b o e => ?_, ?_⟩
            · rw [upd_ne (ne_of_none e hl)]
              exact s1 b o e
            · rw [upd_same, List.map_append]
              rfl
    · rintro σ H1 ⟨b3, rfl, s1, h1⟩
      refine ⟨_, rfl, q l H1 s1 ?_⟩
      rw [h1, List.take_length, eL]
      rfl
end
end G341

set_option Elab.async false
set_option linter.all false
set_option maxRecDepth 100000
/-! constants as data; a row read -/
namespace G341
open PySem PySem.Spec PyProof.Rows L2
section
variable {X : Cx} {K : PySem.W.Frag}
theorem pe_imp {e : Expr} {te te' : TE} (h : PE X e te) (i : ∀ σ H Q, te' σ H Q → te σ H Q) : PE X e te' := ⟨fun pins s σ H Q I z => h.run pins s σ H Q I (i σ H Q z)⟩
theorem pa_imp {es : List Expr} {te te' : TA} (h : PA X es te) (i : ∀ σ H Q, te' σ H Q → te σ H Q) : PA X es te' := ⟨fun pos pins s σ H Q I z => h.run pos pins s σ H Q I (i σ H Q z)⟩
/-- the value is some new data -/
def tDat (K : PySem.W.Frag) (d : PyData) : TE := fun _ H Q => ∀ v H', Same H H' → Dp K H' v d → Q v H'
def tDats (K : PySem.W.Frag) (ds : List PyData) : TA := fun _ H Q => ∀ vs H', Same H H' → DpAll K H' vs ds → Q vs H'
theorem pd_str {x j pos} : PE X (.Constant (.str x) j pos) (tDat K (.str x)) := pe_imp pe_str fun _ H _ h => h _ H (Same.refl _) (.str _)
theorem pd_int {x j pos} : PE X (.Constant (.int x) j pos) (tDat K (.int x)) := pe_imp pe_int fun _ H _ h => h _ H (Same.refl _) (.int _)
theorem pd_bl {x j pos} : PE X (.Constant (.bool x) j pos) (tDat K (.bool x)) := pe_imp pe_bl fun _ H _ h => h _ H (Same.refl _) (.bl _)
theorem pd_non {j pos} : PE X (.Constant .none j pos) (tDat K .none) := pe_imp pe_non fun _ H _ h => h _ H (Same.refl _) .non
theorem pds_nil : PA X [] (tDats K []) := pa_imp pa_nil fun _ H _ h => h _ H (Same.refl _) .nil
theorem pds_cons {e : Expr} {es : List Expr} {d : PyData} {ds : List PyData} (ha : PE X e (tDat K d)) (hr : PA X es (tDats K ds)) (hs : starEach (e :: es) X.env = (false, eval e X.env) :: starEach es X.env) : PA X (e :: es) (tDats K (d :: ds)) :=
  pa_imp (pa_cons ha hr hs) fun _ H _ h v H1 s1 hv vs H2 s2 hvs => h _ H2 (s1.trans s2) (.cons (dp_same s2 hv) hvs)
theorem pd_tup {es : List Expr} {ds : List PyData} {k pos} (h : PA X es (tDats K ds)) (l : ds.length ≤ 1000) : PE X (.Tuple es k pos) (tDat K (.tuple ds)) :=
  pe_imp (pe_tup h) fun _ H Q q vs H1 s1 hvs => ⟨by rw [dps_len hvs, sizeLine_eq]; omega, fun z hz => q _ _ (s1.trans (same_up hz)) (.tup (.inl (.inl upd_same)) (dps_same (same_up hz) hvs))⟩
theorem pd_lst {es : List Expr} {ds : List PyData} {pos} (h : PA X es (tDats K ds)) (l : ds.length ≤ 1000) : PE X (.List es pos) (tDat K (.list ds)) :=
  pe_imp (pe_lst h) fun _ H Q q vs H1 s1 hvs => ⟨by rw [dps_len hvs, sizeLine_eq]; omega, fun z hz => q _ _ (s1.trans (same_up hz)) (.lst (.inl (.inl upd_same)) (dps_same (same_up hz) hvs))⟩
end
def inT (w t : Str) : Bool := !(Builtin.Str.occurrences t w 0 t.length 1).isEmpty
def mkR (w : Str) (ns : List Int) : PyData := .tuple (.str w :: ns.map .int)
def goodR (t w : Str) (m : Nat) : Bool := (inT w t && decide ((numsT t).length = m)) && (rowD (mkR w (numsT t)) 100 && decide (rowT (mkR w (numsT t)) = t))
def wordsR : List (Str × Nat) := [("put", 2), ("give", 2), ("get", 2), ("swap", 3), ("only", 3)]
def rrL (t : Str) : List (Str × Nat) → Option PyData
  | [] => if t = "fence" then some (.tuple [.str "fence"]) else none
  | (w, m) :: r => if goodR t w m = true then some (mkR w (numsT t)) else rrL t r
def rrT (t : Str) : Option PyData := rrL t wordsR
def IsO (K : PySem.W.Frag) (H : Hp) (v : V) : Option PyData → Prop
  | some d => Dp K H v d
  | none => v = .non
theorem lay_ints : ∀ ns : List Int, PyData.canLayAll0 (ns.map PyData.int) = true
  | [] => by simp [PyData.canLayAll0]
  | n :: r => by simp [PyData.canLayAll0, PyData.canLay0, lay_ints r]
theorem dep_ints : ∀ ns : List Int, PyData.depthAll (ns.map PyData.int) = 0
  | [] => by simp [PyData.depthAll]
  | n :: r => by simp [PyData.depthAll, PyData.depth, dep_ints r]
theorem dps_ints {K : PySem.W.Frag} {H : Hp} : ∀ ns : List Int, DpAll K H (ns.map V.int) (ns.map PyData.int)
  | [] => .nil
  | n :: r => .cons (.int n) (dps_ints r)
theorem mkR_shaped {w : Str} {ns : List Int} (h : PyData.strOk w = true) : SeqAt.shaped (mkR w ns) = true := by
  unfold SeqAt.shaped mkR PyData.canLay0 PyData.depth PyData.canLayAll0 PyData.depthAll
  rw [lay_ints, dep_ints]
  unfold PyData.canLay0 PyData.depth
  rw [h]
  rfl
def wD (p : Str × Nat) : PyData := .tuple [.str p.1, .int (p.2 : Nat)]
theorem words_ok : ∀ p ∈ wordsR, PyData.strOk p.1 = true := by decide +kernel
theorem rr_step {t : Str} {k : Nat} {w : Str} {m : Nat} (h : wordsR[k]? = some (w, m)) : rrL t (wordsR.drop k) = if goodR t w m = true then some (mkR w (numsT t)) else rrL t (wordsR.drop (k + 1)) := by
  obtain ⟨hk, e⟩ := List.getElem?_eq_some_iff.mp h
  rw [List.drop_eq_getElem_cons hk, e]
  rfl
def spRR (K : PySem.W.Frag) : Sp := fun vs H Q _ => ∃ t : Str, vs = [.str t] ∧ t.length ≤ 100000 ∧ ∀ v H', Same H H' → IsO K H' v (rrT t) → Q v H'
section
variable {P : Program} {w : World} {K : PySem.W.Frag} {mg : Str → Option Value} {base : Heap}
theorem sc21 : FnScope ["text", "numbers", "word", "many", "row"] ["text"] (defScope (tx 21)) := ⟨rfl, rfl, rfl, by decide +kernel, rfl, by decide +kernel, by decide +kernel⟩
theorem ok_rr {f fn fw ft : Addr} {fd dn dw dt : FuncData} (F : Df K mg "row_read" (tx 21) ["text"] f fd) (DN : Df K mg "numbers_in" (tx 22) ["text"] fn dn) (DW : Df K mg "is_row" (tx 14) ["thing", "rest"] fw dw) (DT : Df K mg "row_text" (tx 19) ["row"] ft dt)
    (GN : FnOk P w K mg base CX0 1 fn dn ["text"] (spNums K)) (GW : FnOk P w K mg base CX0 3 fw dw ["thing", "rest"] (spRow K)) (GT : FnOk P w K mg base CX0 1 ft dt ["row"] (spRowT K)) (B : Bn mg) : FnOk P w K mg base CX0 4 f fd ["text"] (spRR K) := by
  refine F.F.ok sc21 (fun vs H Q E h => ?_) (fun cdv A outer s H vs Q E hr h => ?_)
  · obtain ⟨t, rfl, _⟩ := h
    rfl
  · obtain ⟨t, rfl, tl, q⟩ := h
    refine ⟨_, pss_cons (ps_set (i := 1) sc21.nd rfl (Or.inl rfl) (pe_call GN (hr.mono (by decide)) (by rfl) DN.g DN.F.kp DN.b .nil pass0 (pa_cons (pv 0) pa_nil)))
      (pss_cons (ps_for PassesOwn.never rfl (pi_tup (pe_imp (te' := tDat K _) (pd_tup (pds_cons (pd_tup (pds_cons pd_str (pds_cons pd_int pds_nil rfl) rfl) (by decide)) (pds_cons (pd_tup (pds_cons pd_str (pds_cons pd_int pds_nil rfl) rfl) (by decide)) (pds_cons (pd_tup (pds_cons pd_str (pds_cons pd_int pds_nil rfl) rfl) (by decide)) (pds_cons (pd_tup (pds_cons pd_str (pds_cons pd_int pds_nil rfl) rfl) (by decide)) (pds_cons (pd_tup (pds_cons pd_str (pds_cons pd_int pds_nil rfl) rfl) (by decide)) pds_nil rfl) rfl) rfl) rfl) rfl) (by decide)) fun _ _ _ h => h)) (pg_tup rfl (pgs_cons (pg_name (i := 2) sc21.nd rfl (.inl rfl)) (pgs_cons (pg_name (i := 3) sc21.nd rfl (.inl rfl)) pgs_nil)))
        (pss_one (ps_if (PW.pt (pw_and (pt_cmpR op_in_str (pv 2) (pv 0) rfl) (pw_and1 (pt_cmpR op_eq (pe_callB call_len_seq (by rfl) B.len PySem.boot_len (pa_cons (pv 1) pa_nil)) (pv 3) (nomark _)))))
          (pss_cons (ps_set (i := 4) sc21.nd rfl (Or.inl rfl) (pe_tup (pa_cons (pv 2) (StX.pa_star (pv 1) pa_nil))))
          (pss_one (ps_if (PW.pt (pw_and (pt_val (pe_call GW (hr.mono (by decide)) (by rfl) DW.g DW.F.kp DW.b .nil pass0 (pa_cons (pv 4) (pa_cons pe_int pa_nil)))) (pw_and1 (pt_cmpR op_eq (pe_call GT (hr.mono (by decide)) (by rfl) DT.g DT.F.kp DT.b .nil pass0 (pa_cons (pv 4) pa_nil)) (pv 0) (nomark _))))) (pss_one (ps_ret (pv 4))) pss_nil))) pss_nil)))
      (pss_one (ps_ret (pe_ifExp (pt_cmpR op_eq (pv 0) pe_str (nomark _)) (pe_tup (pa_cons pe_str pa_nil)) pe_non)))), ?_⟩
    refine ⟨_, rfl, t, rfl, tl, fun nq H1 s1 hn => ?_⟩
    intro v H2 s2 hv
    cases hv with
    | tup hqv hdv =>
      rename_i a vs
      have lv := dps_len hdv
      refine ⟨a, rfl, ⟨_, hqv⟩, for_tup (K := K) (a := a) (xs := vs) (fun i σ H' => ∃ b2 b3 b4 : Option V, σ = [some (.str t), some (.ref nq), b2, b3, b4] ∧ Same H2 H' ∧ rrT t = rrL t (wordsR.drop i))
        ⟨none, none, none, rfl, Same.refl _, rfl⟩ (fun i σ H' _ ⟨_, _, _, _, s', _⟩ => same_sqt s' hqv) ?_ ?_⟩
      · rintro k x σ H3 hx ⟨b2, b3, b4, rfl, s3, er⟩
        obtain ⟨d, ed, hd⟩ := dps_get hdv hx
        have ed : (wordsR.map wD)[k]? = some d := ed
        rw [List.getElem?_map] at ed
        cases ew : wordsR[k]? with
        | none => rw [ew] at ed; cases ed
        | some pr =>
          obtain ⟨w', m⟩ := pr
          rw [ew] at ed
          cases ed
          have hd3 := dp_same s3 hd
          rw [rr_step ew] at er
          have hok := words_ok _ (List.mem_of_getElem? ew)
          have hd3 : Dp K H3 x (.tuple [.str w', .int (m : Nat)]) := hd3
          cases hd3 with
          | tup hqx hdx =>
            rename_i bx vx
            obtain ⟨x0, xr, rfl, g0, gr⟩ := dps_c hdx
            obtain ⟨x1, xr1, rfl, g1, gr1⟩ := dps_c gr
            cases gr1
            cases dp_str g0
            cases dp_int g1
            have hn3 := s3 _ _ (s2 _ _ hn)
            have next : goodR t w' m = false → ∃ b2' b3' b4' : Option V, True ∧ rrT t = rrL t (wordsR.drop (k + 1)) := fun e => by
              rw [e, if_neg Bool.false_ne_true] at er
              exact ⟨none, none, none, trivial, er⟩
            have nx : goodR t w' m = false → rrT t = rrL t (wordsR.drop (k + 1)) := fun e => (next e).elim fun _ h => h.elim fun _ h => h.elim fun _ h => h.2
            refine ⟨bx, _, rfl, hqx, rfl, _, _, rfl, _, _, rfl, rfl, ?_⟩
            refine ⟨_, rfl, _, rfl, w', t, rfl, rfl, _, rfl, ?_⟩
            by_cases c1 : inT w' t = true
            · refine ift c1 ⟨_, rfl, nq, _, rfl, .inl (.inl (.inl hn3)), _, rfl, rfl, _, rfl, ?_⟩
              by_cases c2 : (numsT t).length = m
              · refine ift (decide_eq_true ?_) ?_
                · rw [List.length_map, c2]
                refine ⟨_, rfl, _, rfl, nq, _, rfl, .inr (.inl (.inl hn3)), ?_, fun z hz => ?_⟩
                · rw [List.append_nil, List.length_cons, List.length_map, sizeLine_eq]
                  have := List.mem_of_getElem? ew
                  have : m ≤ 3 := by
                    have h3 : ∀ p ∈ wordsR, p.2 ≤ 3 := by decide +kernel
                    exact h3 _ this
                  omega
                have s4 := same_up (o := .tup (.str w' :: ((numsT t).map V.int ++ []))) hz
                have R4 : Dp K (upd H3 z (.tup (.str w' :: ((numsT t).map V.int ++ [])))) (.ref z) (mkR w' (numsT t)) := by
                  refine .tup (.inl (.inl upd_same)) (.cons (.str _) ?_)
                  rw [List.append_nil]
                  exact dps_ints _
                generalize upd H3 z (.tup (.str w' :: ((numsT t).map V.int ++ []))) = H4 at s4 R4
                refine ⟨_, rfl, _, mkR w' (numsT t), 100, rfl, R4, mkR_shaped hok, fun H5 s5 => ⟨_, rfl, ?_⟩⟩
                by_cases c3 : rowD (mkR w' (numsT t)) 100 = true
                · refine ift c3 ⟨_, rfl, _, _, 100, rfl, dp_same s5 R4, row_in c3, by decide, _, rfl, rfl, _, rfl, ?_⟩
                  by_cases c4 : rowT (mkR w' (numsT t)) = t
                  · refine ift (decide_eq_true (by rw [c4])) ⟨_, rfl, q _ _ ((((s1.trans s2).trans s3).trans s4).trans s5) ?_⟩
                    have hg : goodR t w' m = true := by
                      unfold goodR
                      rw [c1, decide_eq_true c2, c3, decide_eq_true c4]
                      rfl
                    rw [er, if_pos hg]
                    exact dp_same s5 R4
                  · refine iff_ (decide_eq_false fun e => c4 (V.str.inj e)) ⟨_, _, _, rfl, (s3.trans s4).trans s5, nx ?_⟩
                    unfold goodR
                    rw [decide_eq_false c4, Bool.and_false, Bool.and_false]
                · refine iff_ (by simpa using c3) ⟨_, _, _, rfl, (s3.trans s4).trans s5, nx ?_⟩
                  unfold goodR
                  rw [show rowD (mkR w' (numsT t)) 100 = false by simpa using c3, Bool.false_and, Bool.and_false]
              · refine iff_ (decide_eq_false fun e => c2 ?_) ⟨_, _, _, rfl, s3, nx ?_⟩
                · have e := V.int.inj e
                  rw [List.length_map] at e
                  omega
                · unfold goodR
                  rw [decide_eq_false c2, Bool.and_false, Bool.false_and]
            · refine iff_ (show inT w' t = false by simpa using c1) ⟨_, _, _, rfl, s3, nx ?_⟩
              unfold goodR
              rw [show inT w' t = false by simpa using c1, Bool.false_and, Bool.false_and]
      · rintro σ H3 ⟨b2, b3, b4, rfl, s3, er⟩
        have lw : vs.length = wordsR.length := lv
        rw [lw, List.drop_length] at er
        refine ⟨_, rfl, rfl, _, rfl, ?_⟩
        have s13 := (s1.trans s2).trans s3
        have er : rrT t = if t = "fence" then some (.tuple [.str "fence"]) else none := er
        by_cases e : t = ("fence" : Str)
        · refine ift (decide_eq_true (by rw [e])) ⟨by show (1 : Nat) ≤ sizeLine; decide, fun z hz => q _ _ (s13.trans (same_up hz)) ?_⟩
          rw [er, if_pos e]
          exact .tup (.inl (.inl upd_same)) (.cons (.str _) .nil)
        · refine iff_ (decide_eq_false fun z => e (V.str.inj z)) (q _ _ s13 ?_)
          rw [er, if_neg e]
          rfl
end
end G341

set_option Elab.async false
set_option linter.all false
set_option maxRecDepth 100000
/-! shapes; data without lists; comprehensions whose items are data -/
namespace G341
open PySem PySem.Spec PyProof.Rows L2
def Shp (k : Nat) (d : PyData) : Prop := d.canLay0 = true ∧ d.depth ≤ k
theorem shp_all {k : Nat} : ∀ {ds : List PyData}, (∀ d ∈ ds, Shp k d) → PyData.canLayAll0 ds = true ∧ PyData.depthAll ds ≤ k
  | [], _ => ⟨by simp [PyData.canLayAll0], by simp [PyData.depthAll]⟩
  | d :: r, h => by
    have h1 := h d List.mem_cons_self
    have h2 := shp_all (ds := r) fun e he => h e (List.mem_cons_of_mem _ he)
    refine ⟨?_, ?_⟩
    · unfold PyData.canLayAll0
      rw [h1.1, h2.1]
      rfl
    · unfold PyData.depthAll
      have := h1.2
      have := h2.2
      omega
theorem shp_tup {k : Nat} {ds : List PyData} (h : ∀ d ∈ ds, Shp k d) : Shp (k + 1) (.tuple ds) := by
  have z := shp_all h
  refine ⟨?_, ?_⟩
  · unfold PyData.canLay0
    exact z.1
  · unfold PyData.depth
    have := z.2
    omega
theorem shp_shaped {k : Nat} {d : PyData} (h : Shp k d) (l : k ≤ 64) : SeqAt.shaped d = true := by
  unfold SeqAt.shaped
  rw [h.1, decide_eq_true (Nat.le_trans h.2 l)]
  rfl
def shpB (k : Nat) (d : PyData) : Bool := d.canLay0 && decide (d.depth ≤ k)
theorem shp_of {k : Nat} {d : PyData} (h : shpB k d = true) : Shp k d := by
  unfold shpB at h
  rw [Bool.and_eq_true] at h
  exact ⟨h.1, of_decide_eq_true h.2⟩
theorem shp_str {x : Str} (h : PyData.strOk x = true) {k : Nat} : Shp k (.str x) := ⟨by unfold PyData.canLay0; exact h, by unfold PyData.depth; omega⟩
theorem shp_int {x : Int} {k : Nat} : Shp k (.int x) := ⟨by unfold PyData.canLay0; rfl, by unfold PyData.depth; omega⟩
theorem row_shp {d : PyData} {n : Int} (h : RowC d n) : Shp 1 d := by
  cases h with
  | fence =>
    refine shp_tup (k := 0) fun d hd => ?_
    rw [List.mem_singleton] at hd
    subst hd
    exact shp_str (by decide +kernel)
  | put p v h =>
    refine shp_tup (k := 0) fun d hd => ?_
    rw [List.mem_cons, List.mem_cons, List.mem_singleton] at hd
    rcases hd with rfl | rfl | rfl
    · exact shp_str (by decide +kernel)
    · exact shp_int
    · exact shp_int
  | give p v h =>
    refine shp_tup (k := 0) fun d hd => ?_
    rw [List.mem_cons, List.mem_cons, List.mem_singleton] at hd
    rcases hd with rfl | rfl | rfl
    · exact shp_str (by decide +kernel)
    · exact shp_int
    · exact shp_int
  | get p v h =>
    refine shp_tup (k := 0) fun d hd => ?_
    rw [List.mem_cons, List.mem_cons, List.mem_singleton] at hd
    rcases hd with rfl | rfl | rfl
    · exact shp_str (by decide +kernel)
    · exact shp_int
    · exact shp_int
  | swap r p v h =>
    refine shp_tup (k := 0) fun d hd => ?_
    rw [List.mem_cons, List.mem_cons, List.mem_cons, List.mem_singleton] at hd
    rcases hd with rfl | rfl | rfl | rfl
    · exact shp_str (by decide +kernel)
    · exact shp_int
    · exact shp_int
    · exact shp_int
  | only r p v h =>
    refine shp_tup (k := 0) fun d hd => ?_
    rw [List.mem_cons, List.mem_cons, List.mem_cons, List.mem_singleton] at hd
    rcases hd with rfl | rfl | rfl | rfl
    · exact shp_str (by decide +kernel)
    · exact shp_int
    · exact shp_int
    · exact shp_int
mutual
/-- no list within -/
def noL : PyData → Bool
  | .list _ => false
  | .tuple ds => noLs ds
  | .dict _ => false
  | _ => true
def noLs : List PyData → Bool
  | [] => true
  | d :: r => noL d && noLs r
end
section
variable {K : PySem.W.Frag} {H H1 H2 : Hp}
theorem sqt_setl {D a : Addr} {acc acc' xs : List V} (hD : H D = some (.lst acc)) (h : SqT K H a xs) : SqT K (upd H D (.lst acc')) a xs := by
  rcases h with (h | ⟨o, h⟩) | h
  · exact .inl (.inl (by rw [upd_ne (ne_of h hD (by intro q; cases q))]; exact h))
  · exact .inl (.inr ⟨o, by rw [upd_ne (ne_of h hD (by intro q; cases q))]; exact h⟩)
  · exact .inr h
mutual
theorem dp_setl {D : Addr} {acc acc' : List V} (hD : H D = some (.lst acc)) : ∀ {v : V} {d : PyData}, Dp K H v d → noL d = true → Dp K (upd H D (.lst acc')) v d
  | _, _, .non, _ => .non
  | _, _, .bl b, _ => .bl b
  | _, _, .int i, _ => .int i
  | _, _, .str x, _ => .str x
  | _, _, .lst q r, n => by simp [noL] at n
  | _, _, .tup q r, n => .tup (sqt_setl hD q) (dps_setl hD r (by simpa [noL] using n))
theorem dps_setl {D : Addr} {acc acc' : List V} (hD : H D = some (.lst acc)) : ∀ {v : List V} {d : List PyData}, DpAll K H v d → noLs d = true → DpAll K (upd H D (.lst acc')) v d
  | _, _, .nil, _ => .nil
  | _, _, .cons q r, n => by
    simp only [noLs, Bool.and_eq_true] at n
    exact .cons (dp_setl hD q n.1) (dps_setl hD r n.2)
end
theorem sqt_cut {p a : Addr} {acc xs : List V} (hD : H p = some (.lst acc)) (h : SqT K H a xs) : SqT K (cutH p H) a xs := by
  rcases h with (h | ⟨o, h⟩) | h
  · exact .inl (.inl (by rw [cut_at (ne_of h hD (by intro q; cases q))]; exact h))
  · exact .inl (.inr ⟨o, by rw [cut_at (ne_of h hD (by intro q; cases q))]; exact h⟩)
  · exact .inr h
mutual
theorem dp_cut {p : Addr} {acc : List V} (hD : H p = some (.lst acc)) : ∀ {v : V} {d : PyData}, Dp K H v d → noL d = true → Dp K (cutH p H) v d
  | _, _, .non, _ => .non
  | _, _, .bl b, _ => .bl b
  | _, _, .int i, _ => .int i
  | _, _, .str x, _ => .str x
  | _, _, .lst q r, n => by simp [noL] at n
  | _, _, .tup q r, n => .tup (sqt_cut hD q) (dps_cut hD r (by simpa [noL] using n))
theorem dps_cut {p : Addr} {acc : List V} (hD : H p = some (.lst acc)) : ∀ {v : List V} {d : List PyData}, DpAll K H v d → noLs d = true → DpAll K (cutH p H) v d
  | _, _, .nil, _ => .nil
  | _, _, .cons q r, n => by
    simp only [noLs, Bool.and_eq_true] at n
    exact .cons (dp_cut hD q n.1) (dps_cut hD r n.2)
end
theorem noLs_app : ∀ {a b : List PyData}, noLs a = true → noLs b = true → noLs (a ++ b) = true
  | [], _, _, h => h
  | d :: r, b, h, h2 => by
    simp only [noLs, Bool.and_eq_true] at h
    show noLs (d :: (r ++ b)) = true
    simp only [noLs, Bool.and_eq_true]
    exact ⟨h.1, noLs_app h.2 h2⟩
theorem noLs_of : ∀ {l : List PyData}, (∀ d ∈ l, noL d = true) → noLs l = true
  | [], _ => by simp [noLs]
  | d :: r, h => by
    simp only [noLs, Bool.and_eq_true]
    exact ⟨h d List.mem_cons_self, noLs_of fun e he => h e (List.mem_cons_of_mem _ he)⟩
/-- a comprehension whose i-th item is the data gd i -/
theorem lc_dat {J : It} {wi : TI} {σ : L2.St} {Q : VK} {g : TG} {te : TE} {vs : List Nat} {n : Nat} {val : Nat → V} (wj : Wk1 J H n val) (hw : ∀ C : It → Hp → Prop, C J H → wi σ H C) (hl : n < sizeLine) (gd : Nat → PyData) (hno : ∀ i, i < n → noL (gd i) = true)
    (step : ∀ (i : Nat) (H3 : Hp) (C : VK), i < n → Same H H3 → (∀ y H4, Same H3 H4 → Dp K H4 y (gd i) → C y H4) → g (val i) (wipe σ vs) H3 fun σ2 H2 => wipe σ2 vs = wipe σ vs ∧ te σ2 H2 C)
    (fin : ∀ D ys H', Same H H' → H' D = some (.lst ys) → DpAll K H' ys ((List.range n).map gd) → Q (.ref D) H') : tLc wi g tYes te vs σ H Q := by
  refine hw _ fun D hD => ?_
  refine ⟨fun i m H' => m = n - i ∧ i ≤ n ∧ Same H H' ∧ ∃ acc, H' D = some (.lst acc) ∧ DpAll K H' acc ((List.range i).map gd), ⟨n, rfl, Nat.zero_le _, same_up hD, [], upd_same, .nil⟩, ?_⟩
  rintro i m H3 ⟨em, hi, s3, acc, d3, ag⟩
  by_cases lt : i < n
  · refine .inr ⟨wj.go i H3 s3 lt, fun H' => Same H H' ∧ ∃ acc, H' D = some (.lst acc) ∧ DpAll K H' acc ((List.range (i + 1)).map gd), fun H' ⟨s', d'⟩ => ⟨n - (i + 1), by omega, rfl, lt, s', d'⟩, ?_⟩
    intro x H' hy
    obtain ⟨eH, ex⟩ := wj.yld i H3 x H' s3 lt hy
    rw [eH, ex]
    refine step i H3 _ lt s3 fun y H4 s4 hyd => ?_
    have d4 := s4 _ _ d3
    have la := dps_len ag
    rw [List.length_map, List.length_range] at la
    have nos : noLs ((List.range i).map gd) = true := noLs_of fun d hd => by
      obtain ⟨k, hk, rfl⟩ := List.mem_map.mp hd
      exact hno k (by have := List.mem_range.mp hk; omega)
    refine ⟨acc, d4, by omega, fun b o e => ?_, acc ++ [y], upd_same, ?_⟩
    · rw [upd_ne (ne_of_none e hD)]
      exact s4 _ _ (s3 _ _ e)
    · rw [List.range_succ, List.map_append]
      exact dps_app (dps_setl d4 (dps_same s4 ag) nos) (.cons (dp_setl d4 hyd (hno i lt)) .nil)
  · have ei : i = n := by omega
    subst ei
    exact .inl ⟨wj.stop H3 s3, fin D acc H3 s3 d3 ag⟩
end
theorem row_noL {d : PyData} {n : Int} (h : RowC d n) : noL d = true := by
  cases h <;> simp [noL, noLs]
/-- what a row that is read says -/
theorem rrL_ok {t : Str} : ∀ (l : List (Str × Nat)) {d : PyData}, rrL t l = some d → RowC d 100 ∧ rowT d = t
  | [], d, h => by
    have h : (if t = "fence" then some (.tuple [.str "fence"]) else none) = some d := h
    by_cases e : t = ("fence" : Str)
    · rw [if_pos e] at h
      cases h
      exact ⟨.fence, by rw [rt_fence, e]⟩
    · rw [if_neg e] at h
      cases h
  | (w, m) :: r, d, h => by
    have h : (if goodR t w m = true then some (mkR w (numsT t)) else rrL t r) = some d := h
    by_cases e : goodR t w m = true
    · rw [if_pos e] at h
      cases h
      unfold goodR at e
      rw [Bool.and_eq_true, Bool.and_eq_true, Bool.and_eq_true] at e
      exact ⟨row_in e.2.1, of_decide_eq_true e.2.2⟩
    · rw [if_neg e] at h
      exact rrL_ok r h
theorem rr_ok {t : Str} {d : PyData} (h : rrT t = some d) : RowC d 100 ∧ rowT d = t := rrL_ok wordsR h
/-- the rows of a line, None where there is none -/
def partD (p : Str) : PyData := (rrT p).getD .none
def rowsP (l : Str) : List PyData := if l = "" then [] else (Txt.split l "; ").map partD
def handP (l : Str) : PyData := .tuple (rowsP l)
def okLine (l : Str) : Bool := progD (.tuple [handP l])
theorem part_cases (p : Str) : (partD p = .none ∧ rrT p = none) ∨ (RowC (partD p) 100 ∧ rowT (partD p) = p ∧ rrT p = some (partD p)) := by
  unfold partD
  cases e : rrT p with
  | none => exact .inl ⟨rfl, rfl⟩
  | some d => exact .inr ⟨(rr_ok e).1, (rr_ok e).2, rfl⟩
theorem part_noL (p : Str) : noL (partD p) = true := by
  rcases part_cases p with h | h
  · rw [h.1]
    simp [noL]
  · exact row_noL h.1
theorem part_shp (p : Str) : Shp 1 (partD p) := by
  rcases part_cases p with h | h
  · rw [h.1]
    exact ⟨by unfold PyData.canLay0; rfl, by unfold PyData.depth; omega⟩
  · exact row_shp h.1
theorem rows_mem {l : Str} {d : PyData} (h : d ∈ rowsP l) : ∃ p, d = partD p := by
  unfold rowsP at h
  by_cases e : l = ("" : Str)
  · rw [if_pos e] at h
    cases h
  · rw [if_neg e] at h
    obtain ⟨p, _, rfl⟩ := List.mem_map.mp h
    exact ⟨p, rfl⟩
theorem rows_noL (l : Str) : noLs (rowsP l) = true := noLs_of fun d hd => by
  obtain ⟨p, rfl⟩ := rows_mem hd
  exact part_noL p
theorem hand_shp (l : Str) : Shp 2 (handP l) := shp_tup fun d hd => by
  obtain ⟨p, rfl⟩ := rows_mem hd
  exact part_shp p
theorem list_shp (l : Str) : SeqAt.shaped (.list (rowsP l)) = true := by
  have z := shp_all (k := 1) (ds := rowsP l) fun d hd => by
    obtain ⟨p, rfl⟩ := rows_mem hd
    exact part_shp p
  unfold SeqAt.shaped PyData.canLay0 PyData.depth
  rw [z.1, decide_eq_true (show PyData.depthAll (rowsP l) + 1 ≤ 64 by omega)]
  rfl
theorem none_bad {l : Str} (h : ((rowsP l).any fun z => PyData.eqv z .none) = true) : okLine l = false := by
  obtain ⟨d, hd, e⟩ := List.any_eq_true.mp h
  obtain ⟨j, hj, ej⟩ := List.getElem_of_mem hd
  obtain ⟨p, rfl⟩ := rows_mem hd
  rcases part_cases p with hc | hc
  · unfold okLine
    apply Bool.eq_false_iff.mpr
    intro z
    obtain ⟨hs, e1, _, _, hh⟩ := prog_hands z
    cases e1
    obtain ⟨rs, e2, _, hrow⟩ := hh 0 (by show (0 : Nat) < 1; decide)
    cases e2
    have y := hrow j hj
    rw [List.getD_eq_getElem?_getD, List.getElem?_eq_getElem hj] at y
    have y : RowC (rowsP l)[j] _ := y
    rw [ej, hc.1] at y
    cases y
  · have y := hc.1
    revert e
    generalize partD p = d at y
    intro e
    cases y <;> simp [PyData.eqv] at e
end G341

set_option Elab.async false
set_option linter.all false
set_option maxRecDepth 100000
/-! a program read -/
namespace G341
open PySem PySem.Spec PyProof.Rows L2
def readL : List Str → Nat → List PyData → Except Nat (List PyData)
  | [], _, acc => .ok acc
  | l :: r, i, acc => if okLine l = true ∧ i < 4 then readL r (i + 1) (acc ++ [handP l]) else .error i
def endR (z : Str) : Except Nat (List PyData) → Except Nat (List PyData)
  | .error i => .error i
  | .ok hs => if z = "" ∧ hs ≠ [] then .ok hs else .error hs.length
def readT (t : Str) : Except Nat (List PyData) := endR ((Txt.split t "\n").getLastD "") (readL (Txt.split t "\n").dropLast 0 [])
def xdI (v : V) : HO := .xd [(("index" : Str), v)]
def spRead (C : Addr) (K : PySem.W.Frag) : Sp := fun vs H Q E => ∃ v, vs = [v] ∧ ((∃ t, v = .str t ∧ t.length ≤ 50000 ∧ (∀ hs, readT t = .ok hs → ∀ u H', Same H H' → Dp K H' u (.tuple hs) → Q u H') ∧ (∀ i, readT t = .error i → ∀ d H', Same H H' → H' d = some (xdI (.int (i : Nat))) → E (.ref C) (some d) H')) ∨
  (v = .non ∧ ∀ d H', Same H H' → H' d = some (xdI .non) → E (.ref C) (some d) H'))
/-- for i, x in enumerate(l): -/
theorem for_enum {K : PySem.W.Frag} {a : Addr} {xs : List V} {g : TG} {tb : TS} {D : Ends} {σ : L2.St} {H : Hp} (Pv : Nat → L2.St → Hp → Prop) (h0 : Pv 0 σ H) (hl : ∀ i σ H, i ≤ xs.length → Pv i σ H → SqL K H a xs)
    (hs : ∀ i x σ H T, xs[i]? = some x → Pv i σ H → H T = none → g (.ref T) σ (upd H T (.tup [.int (i : Nat), x])) fun σ2 H2 => tb { D with nx := Pv (i + 1), ct := Pv (i + 1), bk := D.nx } σ2 H2) (hd : ∀ σ H, Pv xs.length σ H → D.nx σ H) :
    ∃ W : Nat → Nat → L2.St → Hp → Prop, (∃ m, W 0 m σ H) ∧ ∀ i m σ H, W i m σ H →
      ((Ite K a).stop i H ∧ D.nx σ H) ∨ ((Ite K a).go i H ∧ ∃ N : L2.St → Hp → Prop, (∀ σ' H', N σ' H' → ∃ m', m' < m ∧ W (i + 1) m' σ' H') ∧ ∀ y H', (Ite K a).yld i H y H' → g y σ H' fun σ2 H2 => tb { D with nx := N, ct := N, bk := D.nx } σ2 H2) := by
  refine ⟨fun i m σ H => m = xs.length - i ∧ i ≤ xs.length ∧ Pv i σ H, ⟨xs.length, rfl, Nat.zero_le _, h0⟩, ?_⟩
  rintro i m σ H ⟨rfl, hi, p⟩
  have q := hl i σ H hi p
  by_cases lt : i < xs.length
  · refine .inr ⟨⟨xs, xs[i], q, List.getElem?_eq_getElem lt⟩, Pv (i + 1), fun σ' H' p' => ⟨xs.length - (i + 1), by omega, rfl, lt, p'⟩, ?_⟩
    rintro y H' ⟨T, x, rfl, hT, rfl, hx⟩
    exact hs i x σ H T (hx xs q) p hT
  · have e : i = xs.length := by omega
    subst e
    exact .inl ⟨⟨xs, q, Nat.le_refl _⟩, hd σ H p⟩
theorem same_of_cut {p : Addr} {H Hs H' : Hp} (h0 : H p = none) (s : Same H Hs) (c : Same (cutH p Hs) (cutH p H')) : Same H H' := by
  intro b o e
  have n : b ≠ p := ne_of_none e h0
  have z : cutH p Hs b = some o := by rw [cut_at n]; exact s b o e
  have y := c b o z
  rw [cut_at n] at y
  exact y
def rSplitS : V → List V → Hp → VK → Prop := fun x xs H Q => ∃ a b, x = .str a ∧ xs = [.str b] ∧ (b.length == 0) = false ∧ a.length + 2 ≤ sizeLine ∧ rNewStrs (Txt.split a b) H Q
/-- rows = [row_read(part) for part in line.split('; ')] if line != '' else [] -/
def tRows (K : PySem.W.Frag) : TE := fun σ H Q => ∃ line, σ.length = 7 ∧ σ[4]? = some (some (.str line)) ∧ line.length ≤ 50000 ∧ ∀ rq ys H', Same H H' → H' rq = some (.lst ys) → DpAll K H' ys (rowsP line) → Q (.ref rq) H'
theorem rows_imp {K : PySem.W.Frag} (σ : L2.St) (H : Hp) (Q : VK) (h : tRows K σ H Q) :
    tIf (tTest (tOp rNe (tVar 4) (tC (.str "")))) (tLc (iList K (tBM K "str" rSplitS (tVar 4) (tCons (tC (.str "; ")) tNil))) (gName 6) tYes (tCall (spRR K) [] E0 (tCons (tVar 6) tNil)) [6]) (tLst tNil) σ H Q := by
  obtain ⟨line, l7, e4, ll, q⟩ := h
  refine ⟨_, e4, rfl, _, rfl, ?_⟩
  by_cases e : line = ("" : Str)
  · refine iff_ (congrArg not (decide_eq_true (by rw [e]))) ⟨Nat.zero_le _, fun z hz => q z [] _ (same_up hz) upd_same ?_⟩
    unfold rowsP
    rw [if_pos e]
    exact .nil
  · refine ift (congrArg not (decide_eq_false fun z => e (V.str.inj z))) ?_
    have er : rowsP line = (Txt.split line "; ").map partD := by
      unfold rowsP
      rw [if_neg e]
    refine ⟨_, e4, rfl, _, _, rfl, rfl, by decide +kernel, by rw [sizeLine_eq]; omega, fun sp hsp => ⟨sp, rfl, ⟨_, .inl (.inl upd_same)⟩, ?_⟩⟩
    have s1 := same_up (o := .lst ((Txt.split line "; ").map V.str)) hsp
    have c1 : (upd H sp (.lst ((Txt.split line "; ").map V.str))) sp = some (.lst ((Txt.split line "; ").map V.str)) := upd_same
    generalize upd H sp (.lst ((Txt.split line "; ").map V.str)) = H1 at s1 c1
    have lp := PyProof.Rows.split_le line "; "
    have wj := wk_lst (K := K) (H := H1) (a := sp) (xs := (Txt.split line "; ").map V.str) (.inl (.inl c1))
    refine lc_dat (K := K) (wi := fun _ H R => R (Itl K sp) H) wj (fun C c => c) (by rw [List.length_map, sizeLine_eq]; omega) (fun i => partD ((Txt.split line "; ").getD i "")) (fun i _ => part_noL _) ?_ ?_
    · intro i H3 C hi s3 c
      rw [List.length_map] at hi
      have ev : ((Txt.split line "; ").map V.str).getD i .non = .str ((Txt.split line "; ")[i]) := by
        rw [List.getD_eq_getElem?_getD, List.getElem?_map, List.getElem?_eq_getElem hi]
        rfl
      have eg : (Txt.split line "; ").getD i "" = (Txt.split line "; ")[i] := by
        rw [List.getD_eq_getElem?_getD, List.getElem?_eq_getElem hi]
        rfl
      have hs := PyProof.Rows.part_short (List.getElem_mem hi)
      rw [eg] at c
      show gName 6 (((Txt.split line "; ").map V.str).getD i .non) _ _ _
      rw [ev]
      generalize (Txt.split line "; ")[i] = p at c hs
      have w6 : wipe σ [6] = σ.set 6 none := rfl
      refine ⟨?_, ?_⟩
      · rw [w6]
        show List.set (List.set (List.set σ 6 none) 6 (some (V.str p))) 6 none = _
        rw [List.set_set, List.set_set]
      · refine ⟨.str p, ?_, p, rfl, by omega, fun v H4 s4 hv => c v H4 s4 ?_⟩
        · rw [w6, List.getElem?_set_self (by rw [List.length_set]; omega)]
        · unfold partD
          cases eo : rrT p with
          | none =>
            rw [eo] at hv
            cases hv
            exact .non
          | some d =>
            rw [eo] at hv
            exact hv
    · intro D ys H' s' hD hys
      refine q D ys H' (s1.trans s') hD ?_
      rw [er]
      rw [List.length_map] at hys
      rw [map_getD partD "" (Txt.split line "; ")] at hys
      exact hys
section
variable {P : Program} {w : World} {K : PySem.W.Frag} {mg : Str → Option Value} {base : Heap}
abbrev N23 : List Str := ["text", "lines", "hands", "index", "line", "rows", "part"]
theorem sc23 : FnScope N23 ["text"] (defScope (tx 23)) := ⟨rfl, rfl, rfl, by decide +kernel, rfl, by decide +kernel, by decide +kernel⟩
theorem ok_read {f fr fp C fI cc cda : Addr} {fd dr dp : FuncData} (F : Df K mg "read_program" (tx 23) ["text"] f fd) (DR : Df K mg "row_read" (tx 21) ["text"] fr dr) (DP : Df K mg "is_program" (tx 15) ["thing"] fp dp)
    (GR : FnOk P w K mg base CX0 4 fr dr ["text"] (spRR K)) (GP : FnOk P w K mg base CX0 4 fp dp ["thing"] (spProg K)) (T : BadTxt P K mg C fI cc cda) (B : Bn mg) : FnOk P w K mg base (L2.CX P w) 7 f fd ["text"] (spRead C K) := by
  obtain ⟨t4, et4⟩ := B.hands
  refine F.F.okX sc23 (fun vs H Q E h => ?_) (fun cdv A outer s H vs Q E hr h => ?_)
  · obtain ⟨v, rfl, _⟩ := h
    rfl
  · obtain ⟨v, rfl, h⟩ := h
    have ru := hr.units
    have ru5 := Nat.lt_of_le_of_lt (Nat.add_le_add_left (by decide : 65 ≤ 16 * 6 + 200) _) (by have z := hr.un; rw [Nat.add_assoc] at z; exact z)
    refine ⟨_, pss_cons (ps_if (pt_not (pt_val (pe_is (t := "str") (by decide) rfl B.isi rfl B.str (by decide +kernel) (pv 0)))) (pss_one (ps_raiseBad rfl T hr (takes_of rfl rfl rfl rfl) (by exact (pa_cons pe_non pa_nil)))) pss_nil)
      (pss_cons (ps_par (i := 1) (j := 2) rfl sc23.nd rfl rfl (by decide) rfl rfl (pa_cons (pe_bm PySem.F.plainAttrs_str PySem.F.slot_str_split PySem.F.type_str_split mt_split (pv 0) (pa_cons pe_str pa_nil)) (pa_cons (pe_lst pa_nil) pa_nil)) rfl)
      (pss_cons (ps_for (passes_of rfl) rfl (pi_enum rfl B.enum (pa_cons (pe_slice sl_list (pv 1) po_none (po_some (pe_un un_neg pe_int))) pa_nil)) (pg_tup rfl (pgs_cons (pg_name (i := 3) sc23.nd rfl (.inl rfl)) (pgs_cons (pg_name (i := 4) sc23.nd rfl (.inl rfl)) pgs_nil)))
        (pss_cons (ps_set (i := 5) sc23.nd rfl (Or.inl rfl) (pe_imp (te' := tRows K) (pe_ifExp (pt_cmpR op_ne (pv 4) pe_str (nomark _))
            (pe_lc (own := [("part", 6)]) (g := gName 6) (tt := tYes) (te := tCall (spRR K) [] E0 (tCons (tVar 6) tNil)) rfl sc23.nd (pi_list (pe_bm PySem.F.plainAttrs_str PySem.F.slot_str_split PySem.F.type_str_split mt_split (pv 4) (pa_cons pe_str pa_nil))) (blkOk_by (N := N23) (sc := defScope (tx 23)) (by decide +kernel)) (fun _ _ _ _ _ => pg_name (i := 6) sc23.nd rfl (Or.inl rfl)) (fun _ _ _ _ _ => pts_nil)
              (fun _ _ _ _ _ => by exact pe_call GR (hr.mono (by decide)) (by rfl) DR.g DR.F.kp DR.b .nil pass0 (pa_cons (pv 6) pa_nil))) (pe_lst pa_nil)) rows_imp))
        (pss_cons (ps_if (PW.pt (pw_or (pt_cmpR (op_inD ru5) pe_non (pv 5) rfl) (pw_or (pt_cmpR op_ge (pv 3) (pe_glob (v := .int 4) rfl et4 ⟨t4, rfl⟩) (nomark _))
            (pw_or1 (pt_not (pt_val (pe_call GP (hr.mono (by decide)) (by rfl) DP.g DP.F.kp DP.b .nil pass0 (pa_cons (pe_tup (pa_cons (pe_callTy call_tuple_of (by rfl) B.tuple PyProof.Rows.boot_tuple (pa_cons (pv 5) pa_nil)) pa_nil)) pa_nil))))))))
            (pss_one (ps_raiseBad rfl T hr (takes_of rfl rfl rfl rfl) (by exact (pa_cons (pv 3) pa_nil)))) pss_nil)
        (pss_one (ps_expr (pe_bm PySem.F.plainAttrs_list PySem.F.slot_list_append PySem.F.type_list_append mt_append (pv 2) (pa_cons (pe_callTy call_tuple_of (by rfl) B.tuple PyProof.Rows.boot_tuple (pa_cons (pv 5) pa_nil)) pa_nil)))))))
      (pss_cons (ps_if (PW.pt (pw_or (pt_cmpR op_ne (pe_ix ix_list (pv 1) (pe_un un_neg pe_int) (fun _ _ => rfl)) pe_str (nomark _)) (pw_or1 (pt_cmpR (op_eqD ru) (pv 2) (pe_lst pa_nil) (nomark _)))))
        (pss_one (ps_raiseBad rfl T hr (takes_of rfl rfl rfl rfl) (by exact (pa_cons (pe_callB call_len_seq (by rfl) B.len PySem.boot_len (pa_cons (pv 2) pa_nil)) pa_nil)))) pss_nil)
      (pss_one (ps_ret (pe_callTy call_tuple_of (by rfl) B.tuple PyProof.Rows.boot_tuple (pa_cons (pv 2) pa_nil))))))), ?_⟩
    rcases h.symm with ⟨rfl, hE⟩ | ⟨t, rfl, tl, hQ, hE⟩
    · refine ⟨_, rfl, isi_r .non (by decide) ⟨_, rfl, ift rfl ⟨.non, rfl, fun d hd => ?_⟩⟩⟩
      exact hE d _ (same_up hd) upd_same
    refine ⟨_, rfl, isi_r (.str t) (by decide) ⟨_, rfl, iff_ rfl ?_⟩⟩
    have lp := PyProof.Rows.split_pos t "\n"
    have ll := PyProof.Rows.split_le t "\n"
    obtain ⟨L, z, eL⟩ : ∃ L z, Txt.split t "\n" = L ++ [z] := ⟨_, _, (List.dropLast_concat_getLast (by intro e; rw [e] at lp; exact absurd lp (by decide))).symm⟩
    have eT : readT t = endR z (readL L 0 []) := by
      unfold readT
      rw [eL, List.dropLast_concat, List.getLastD_concat]
    have short : ∀ x ∈ L, x.length ≤ 50000 := fun x hx => Nat.le_trans (PyProof.Rows.part_short (by rw [eL]; exact List.mem_append_left _ hx)) tl
    have lenL : L.length ≤ 50002 := by
      rw [eL, List.length_append, List.length_singleton] at ll
      omega
    refine ⟨_, rfl, rfl, _, _, rfl, rfl, by decide +kernel, by rw [sizeLine_eq]; omega, fun lq hlq => ?_⟩
    rw [eL]
    refine ⟨Nat.zero_le _, fun hq hhq => ⟨_, _, rfl, ?_⟩⟩
    have sa := same_up (o := .lst ((L ++ [z]).map V.str)) hlq
    have ca : (upd H lq (.lst ((L ++ [z]).map V.str))) lq = some (.lst ((L ++ [z]).map V.str)) := upd_same
    generalize upd H lq (.lst ((L ++ [z]).map V.str)) = Ha at sa ca hhq
    have sb := same_up (o := .lst []) hhq
    have cb : (upd Ha hq (.lst [])) hq = some (.lst []) := upd_same
    have nlh : lq ≠ hq := ne_of_none ca hhq
    generalize upd Ha hq (.lst []) = Hb at sb cb
    have h0q : H hq = none := by
      cases e : H hq with
      | none => rfl
      | some o => rw [sa _ _ e] at hhq; cases hhq
    have ecut : cutV ((L ++ [z]).map V.str) none (some (-1)) = L.map V.str := by
      unfold cutV
      rw [HT.sIx_none, List.map_append, List.length_append, List.length_map]
      show List.take ((if (-1 : Int) < 0 then ((-1 : Int) + ((L.length + 1 : Nat) : Int)).toNat else min (-1 : Int).toNat (L.length + 1)) - 0) _ = _
      rw [if_pos (by decide), List.drop_zero, Nat.sub_zero, show ((-1 : Int) + ((L.length + 1 : Nat) : Int)).toNat = (L.map V.str).length by rw [List.length_map]; omega, List.take_left']
      rfl
    refine ⟨_, rfl, 1, rfl, _, rfl, lq, _, rfl, .inl (.inl (sb _ _ ca)), fun sq hsq => ?_⟩
    rw [show (-1 : Int) = -1 from rfl, ecut]
    refine ⟨sq, _, rfl, .inl (.inl upd_same), ?_⟩
    have sc := same_up (o := .lst (L.map V.str)) hsq
    have cc' : (upd Hb sq (.lst (L.map V.str))) sq = some (.lst (L.map V.str)) := upd_same
    have nsh : sq ≠ hq := fun e => by rw [e, cb] at hsq; cases hsq
    have sH := (sa.trans sb).trans sc
    have clq := sc _ _ (sb _ _ ca)
    have chq := sc _ _ cb
    generalize upd Hb sq (.lst (L.map V.str)) = Hs at sH cc' clq chq
    refine for_enum (K := K) (a := sq) (xs := L.map V.str) (fun i σ H' => ∃ (b3 b4 b5 : Option V) (acc : List PyData) (hv : List V), σ = [some (.str t), some (.ref lq), some (.ref hq), b3, b4, b5, none] ∧ Same (cutH hq Hs) (cutH hq H') ∧ H' hq = some (.lst hv) ∧ DpAll K (cutH hq H') hv acc ∧ noLs acc = true ∧
        (∀ d ∈ acc, Shp 2 d) ∧ acc.length = i ∧ i ≤ 4 ∧ readL L 0 [] = readL (L.drop i) i acc)
      ⟨none, none, none, [], [], rfl, Same.refl _, chq, .nil, by simp [noLs], fun d hd => absurd hd (by simp), rfl, by decide, rfl⟩
      (fun i σ H' _ ⟨_, _, _, _, _, _, c', _⟩ => .inl (.inl (by have y := c' sq _ (by rw [cut_at nsh]; exact cc'); rw [cut_at nsh] at y; exact y))) ?_ ?_
    · rintro k x σ H3 T hx ⟨b3, b4, b5, acc, hv, rfl, c3, h3, ha3, no3, sh3, la, k4, er⟩ hT
      have hk : k < L.length := by
        have y := (List.getElem?_eq_some_iff.mp hx).1
        rw [List.length_map] at y
        exact y
      have ex : x = .str L[k] := by
        rw [List.getElem?_map, List.getElem?_eq_getElem hk] at hx
        exact (Option.some.inj hx).symm
      subst ex
      have hsl := short L[k] (List.getElem_mem hk)
      rw [List.drop_eq_getElem_cons hk] at er
      generalize L[k] = line at hsl er
      have st : ∀ {H' : Hp}, Same H3 H' → Same H H' := fun s' => same_of_cut h0q sH (c3.trans (cut_mono s'))
      have s4 := same_up (o := .tup [.int (k : Nat), .str line]) hT
      refine ⟨T, _, rfl, .inl (.inl upd_same), rfl, _, _, rfl, _, _, rfl, rfl, ?_⟩
      generalize upd H3 T (.tup [.int (k : Nat), .str line]) = H4 at s4
      refine ⟨line, rfl, rfl, hsl, fun rq ys H5 s5 hrq hys => ?_⟩
      have s35 := s4.trans s5
      have bad : ¬ (okLine line = true ∧ k < 4) → ∀ (H' : Hp) (d : Addr), Same H3 H' → H' d = none → E (.ref C) (some d) (upd H' d (xdI (.int (k : Nat)))) := fun hb H' d s' hd => by
        refine hE k ?_ d _ ((st s').trans (same_up hd)) upd_same
        rw [eT, er]
        show endR z (if okLine line = true ∧ k < 4 then _ else .error k) = _
        rw [if_neg hb]
        rfl
      refine ⟨_, rfl, .none, rowsP line, .non, .lst (.inl (.inl hrq)) hys, by decide +kernel, list_shp line, _, rfl, ?_⟩
      by_cases a1 : ((rowsP line).any fun z => PyData.eqv z .none) = true
      · refine ift a1 (ift rfl ⟨_, rfl, _, rfl, fun d hd => ?_⟩)
        exact bad (fun hh => by rw [none_bad a1] at hh; exact absurd hh.1 Bool.false_ne_true) H5 d s35 hd
      refine iff_ (by simpa using a1) ⟨_, rfl, _, _, rfl, rfl, _, rfl, ?_⟩
      by_cases a2 : 4 ≤ k
      · refine ift (decide_eq_true (by omega)) (ift rfl ⟨_, rfl, _, rfl, fun d hd => ?_⟩)
        exact bad (fun hh => by omega) H5 d s35 hd
      refine iff_ (decide_eq_false (by omega)) ?_
      refine ⟨_, rfl, rq, ys, rfl, .inl ⟨.inl (.inl hrq), fun l hl => ⟨by show (1 : Nat) ≤ sizeLine; decide, fun z5 hz5 => ?_⟩⟩⟩
      have s6 := same_up (o := .tup ys) hl
      have d6 : Dp K (upd H5 l (.tup ys)) (.ref l) (handP line) := .tup (.inl (.inl upd_same)) (dps_same s6 hys)
      generalize upd H5 l (.tup ys) = H6 at s6 d6 hz5
      have s7 := same_up (o := .tup [.ref l]) hz5
      refine ⟨_, .tuple [handP line], rfl, .tup (.inl (.inl upd_same)) (.cons (dp_same s7 d6) .nil), shp_shaped (shp_tup (k := 2) fun d hd => by rw [List.mem_singleton] at hd; subst hd; exact hand_shp line) (by decide), fun H8 s8 => ⟨_, rfl, ?_⟩⟩
      have s38 := ((s35.trans s6).trans s7).trans s8
      by_cases a3 : okLine line = true
      · refine iff_ (congrArg not a3) ?_
        have hrq8 := ((s6.trans s7).trans s8) _ _ hrq
        have hys8 := dps_same ((s6.trans s7).trans s8) hys
        have h8 := s38 _ _ h3
        refine ⟨_, rfl, .inl ⟨rfl, _, .inl (.inl h8)⟩, _, rfl, rq, ys, rfl, .inl ⟨.inl (.inl hrq8), fun l2 hl2 => ?_⟩⟩
        have s9 := same_up (o := .tup ys) hl2
        have d9 : Dp K (upd H8 l2 (.tup ys)) (.ref l2) (handP line) := .tup (.inl (.inl upd_same)) (dps_same s9 hys8)
        generalize upd H8 l2 (.tup ys) = H9 at s9 d9
        have h9 := s9 _ _ h8
        have nh : noL (handP line) = true := by
          show noL (.tuple (rowsP line)) = true
          simpa [noL] using rows_noL line
        have lh := dps_len ha3
        refine ⟨hq, hv, _, rfl, rfl, h9, by rw [lh, la, sizeLine_eq]; omega, _, _, _, acc ++ [handP line], hv ++ [.ref l2], rfl, ?_, upd_same, ?_, noLs_app no3 (by simpa [noLs] using nh), fun d hd => ?_, by rw [List.length_append, la]; rfl, by omega, ?_⟩
        · rw [cut_up]
          exact c3.trans (cut_mono (s38.trans s9))
        · rw [cut_up]
          exact dps_app (dps_same (cut_mono (s38.trans s9)) ha3) (.cons (dp_cut h9 d9 nh) .nil)
        · rcases List.mem_append.mp hd with hd | hd
          · exact sh3 d hd
          · rw [List.mem_singleton] at hd
            subst hd
            exact hand_shp line
        · rw [er]
          show (if okLine line = true ∧ k < 4 then _ else _) = _
          rw [if_pos ⟨a3, by omega⟩]
      · refine ift (congrArg not (show okLine line = false by simpa using a3)) ⟨_, rfl, _, rfl, fun d hd => ?_⟩
        exact bad (fun hh => a3 hh.1) H8 d s38 hd
    · rintro σ H3 ⟨b3, b4, b5, acc, hv, rfl, c3, h3, ha3, no3, sh3, la, k4, er⟩
      rw [List.length_map] at la k4 er
      rw [List.drop_length] at er
      have er : readL L 0 [] = .ok acc := er
      have eT : readT t = if z = "" ∧ acc ≠ [] then .ok acc else .error acc.length := by rw [eT, er]; rfl
      have sH3 : Same H H3 := same_of_cut h0q sH c3
      have clq3 : H3 lq = some (.lst ((L ++ [z]).map V.str)) := by
        have y := c3 lq _ (by rw [cut_at nlh]; exact clq)
        rw [cut_at nlh] at y
        exact y
      have ha : DpAll K H3 hv acc := dps_same (cut_sub hq H3) ha3
      have lh := dps_len ha
      have bad : ¬ (z = "" ∧ acc ≠ []) → ∀ (H' : Hp) (d : Addr), Same H3 H' → H' d = none → E (.ref C) (some d) (upd H' d (xdI (.int (hv.length : Nat)))) := fun hb H' d s' hd => by
        rw [lh]
        refine hE acc.length ?_ d _ ((sH3.trans s').trans (same_up hd)) upd_same
        rw [eT, if_neg hb]
      have eq1 : atI ((L ++ [z]).map V.str) (-1) = some (.str z) := by
        rw [List.map_append]
        exact atI_last _ _
      refine ⟨_, rfl, 1, rfl, lq, _, _, _, rfl, rfl, .inl (.inl clq3), eq1, rfl, _, rfl, ?_⟩
      by_cases a1 : z = ("" : Str)
      · refine iff_ (congrArg not (decide_eq_true (by rw [a1]))) ⟨_, rfl, Nat.zero_le _, fun z2 hz2 => ?_⟩
        have s4 := same_up (o := .lst []) hz2
        have shl : SeqAt.shaped (.list acc) = true := by
          have y := shp_all sh3
          unfold SeqAt.shaped PyData.canLay0 PyData.depth
          rw [y.1, decide_eq_true (show PyData.depthAll acc + 1 ≤ 64 by omega)]
          rfl
        refine ⟨.list acc, .list [], .lst (.inl (.inl (s4 _ _ h3))) (dps_same s4 ha), .lst (.inl (.inl upd_same)) .nil, shl, by decide +kernel, _, rfl, ?_⟩
        generalize upd H3 z2 (.lst []) = H4 at s4
        cases acc with
        | nil =>
          refine ift (by simp [PyData.eqv, PyData.eqvAll]) ⟨_, rfl, hq, hv, rfl, .inl (.inl (.inl (s4 _ _ h3))), _, rfl, fun d hd => ?_⟩
          exact bad (fun hh => hh.2 rfl) H4 d s4 hd
        | cons d0 dr =>
          refine iff_ (by simp [PyData.eqv, PyData.eqvAll]) ⟨_, rfl, hq, hv, rfl, .inl ⟨.inl (.inl (s4 _ _ h3)), fun l hl => ?_⟩⟩
          have s5 := same_up (o := .tup hv) hl
          refine hQ (d0 :: dr) ?_ _ _ ((sH3.trans s4).trans s5) (.tup (.inl (.inl upd_same)) (dps_same (s4.trans s5) ha))
          rw [eT, if_pos ⟨a1, by simp⟩]
      · refine ift (congrArg not (decide_eq_false fun e => a1 (V.str.inj e))) (ift rfl ⟨_, rfl, hq, hv, rfl, .inl (.inl (.inl h3)), _, rfl, fun d hd => ?_⟩)
        exact bad (fun hh => a1 hh.1) H3 d (Same.refl _) hd
end
end G341

set_option Elab.async false
set_option linter.all false
set_option maxRecDepth 100000
/-! the law's numbers -/
namespace G341
open PySem PySem.Spec PyProof.Rows L2
def spNumb (K : PySem.W.Frag) : Sp := fun vs H Q _ => ∃ (a : Addr) (ns : List Int) (i : Int), vs = [.ref a, .int i] ∧ ns.length ≤ 63 ∧ SqL K H a (ns.map V.int) ∧ ∀ n H', Same H H' → Q (.int n) H'
theorem shaped_ints (ns : List Int) : SeqAt.shaped (.list (ns.map PyData.int)) = true := by
  unfold SeqAt.shaped PyData.canLay0 PyData.depth
  rw [lay_ints, dep_ints]
  rfl
/-- _law_script[:60] if _law_script != [] else [7] -/
def tCells (K : PySem.W.Frag) : TE := fun σ H Q => ∃ (a : Addr) (ns : List Int), σ[0]? = some (some (.ref a)) ∧ SqL K H a (ns.map V.int) ∧ ns.length ≤ 63 ∧ ∀ q (ms : List Int) H', Same H H' → H' q = some (.lst (ms.map V.int)) → ms ≠ [] → ms.length ≤ 64 → Q (.ref q) H'
theorem cells_imp {K : PySem.W.Frag} (σ : L2.St) (H : Hp) (Q : VK) (h : tCells K σ H Q) :
    tIf (tTest (tOp (rNeD K) (tVar 0) (tLst tNil))) (tSl (rSlL K) (tVar 0) tNoPart (tPart (tC (.int 60)))) (tLst (tCons (tC (.int 7)) tNil)) σ H Q := by
  obtain ⟨a, ns, e0, hs, hl, q⟩ := h
  refine ⟨_, e0, Nat.zero_le _, fun p hp => ?_⟩
  have s1 := same_up (o := .lst []) hp
  have c1 : (upd H p (.lst [])) p = some (.lst []) := upd_same
  generalize upd H p (.lst []) = H1 at s1 c1
  have hs1 : SqL K H1 a (ns.map V.int) := s1.seq hs
  refine ⟨.list (ns.map .int), .list [], .lst hs1 (dps_ints ns), .lst (.inl (.inl c1)) .nil, shaped_ints ns, shaped_ints [], _, rfl, ?_⟩
  cases ns with
  | nil =>
    refine iff_ (by simp [PyData.eqv, PyData.eqvAll]) ⟨by show (1 : Nat) ≤ sizeLine; decide, fun z hz => ?_⟩
    exact q z [7] _ (s1.trans (same_up hz)) upd_same (by simp) (by decide)
  | cons n r =>
    refine ift (by simp [PyData.eqv, PyData.eqvAll]) ⟨_, e0, _, rfl, a, _, rfl, hs1, fun z hz => ?_⟩
    have e : cutV ((n :: r).map V.int) none (some 60) = ((n :: r).take 60).map V.int := by
      unfold cutV
      rw [show (some (60 : Int)) = some ((60 : Nat) : Int) from rfl, HT.sIx_nat, HT.sIx_none, List.drop_zero, Nat.sub_zero, List.map_take]
      by_cases h : 60 ≤ ((n :: r).map V.int).length
      · rw [Nat.min_eq_left h]
      · rw [Nat.min_eq_right (by omega), List.take_of_length_le (Nat.le_refl _), List.take_of_length_le (by omega)]
    rw [e]
    exact q z _ _ (s1.trans (same_up hz)) upd_same (by simp) (by rw [List.length_take]; omega)
section
variable {P : Program} {w : World} {K : PySem.W.Frag} {mg : Str → Option Value} {base : Heap}
theorem sc25 : FnScope ["_law_script", "_law_at", "_law_cells", "_law_cell", "_law_mixed"] ["_law_script", "_law_at"] (defScope (tx 25)) := ⟨rfl, rfl, rfl, by decide +kernel, rfl, by decide +kernel, by decide +kernel⟩
theorem ok_numb {f : Addr} {fd : FuncData} (F : Df K mg "_law_number" (tx 25) ["_law_script", "_law_at"] f fd) (B : Bn mg) : FnOk P w K mg base CX0 1 f fd ["_law_script", "_law_at"] (spNumb K) := by
  refine F.F.ok sc25 (fun vs H Q E h => ?_) (fun cdv A outer s H vs Q E hr h => ?_)
  · obtain ⟨a, ns, i, rfl, _⟩ := h
    rfl
  · obtain ⟨a, ns, i, rfl, hl, hs, q⟩ := h
    have ru := hr.units
    refine ⟨_, pss_cons (ps_set (i := 2) sc25.nd rfl (Or.inl rfl) (pe_imp (te' := tCells K) (pe_ifExp (pt_cmpR (op_neD ru) (pv 0) (pe_lst pa_nil) (nomark _)) (pe_slice sl_list (pv 0) po_none (po_some pe_int)) (pe_lst (pa_cons pe_int pa_nil))) cells_imp))
      (pss_cons (ps_set (i := 3) sc25.nd rfl (Or.inl rfl) (pe_op op_add (pe_ix ix_list (pv 2) (pe_op op_mod (pv 1) (pe_callB call_len_seq (by rfl) B.len PySem.boot_len (pa_cons (pv 2) pa_nil))) (fun _ _ => rfl)) (pe_op op_mul pe_int (pe_op op_fdiv (pv 1) (pe_callB call_len_seq (by rfl) B.len PySem.boot_len (pa_cons (pv 2) pa_nil))))))
      (pss_cons (ps_set (i := 4) sc25.nd rfl (Or.inl rfl) (pe_op op_add (pe_op op_mul (pe_op op_add (pe_op op_add (pe_op op_mod (pe_callTy call_int1 (by rfl) B.int PyProof.Rows.boot_int (pa_cons (pv 3) pa_nil)) pe_int) (pe_op op_mul pe_int (pv 1))) pe_int) pe_int) (pe_op op_mod (pe_callTy call_int1 (by rfl) B.int PyProof.Rows.boot_int (pa_cons (pe_op op_fdiv (pv 3) pe_int) pa_nil)) pe_int)))
      (pss_one (ps_ret (pe_op op_mod (pe_op op_mul (pe_op op_mod (pv 4) pe_int) pe_int) pe_int))))), ?_⟩
    refine ⟨a, ns, rfl, hs, hl, fun cq ms H1 s1 hc hne hml => ?_⟩
    have hc1 : SqL K H1 cq (ms.map V.int) := .inl (.inl hc)
    have hpos : (0 : Int) < (((ms.map V.int).length : Nat) : Int) := by
      rw [List.length_map]
      have := List.length_pos_iff.mpr hne
      omega
    obtain ⟨j, hj⟩ : ∃ j : Nat, i % (((ms.map V.int).length : Nat) : Int) = (j : Int) := ⟨_, (Int.toNat_of_nonneg (Int.emod_nonneg _ (by omega))).symm⟩
    have jl : j < ms.length := by
      have z := Int.emod_lt_of_pos i hpos
      rw [hj, List.length_map] at z
      omega
    have hat : atI (ms.map V.int) (i % (((ms.map V.int).length : Nat) : Int)) = some (.int ms[j]) := by
      rw [hj]
      refine atI_nat ?_
      rw [List.getElem?_map, List.getElem?_eq_getElem jl]
      rfl
    generalize ms[j] = c at hat
    refine ⟨_, rfl, _, rfl, _, rfl, cq, _, rfl, .inl hc1, _, _, rfl, rfl, hpos, cq, _, _, _, rfl, rfl, hc1, hat, ?_⟩
    refine ⟨_, rfl, _, rfl, cq, _, rfl, .inl hc1, _, _, rfl, rfl, ?_, _, _, rfl, rfl, .inl ⟨by decide, by decide⟩, _, _, rfl, rfl, ?_⟩
    · refine ⟨hpos, ?_⟩
      rw [List.length_map]
      omega
    refine ⟨_, rfl, .inl ⟨_, rfl, _, _, rfl, rfl, (by show (0 : Int) < _; decide), _, rfl, _, _, rfl, rfl, .inl ⟨by decide, by decide⟩, _, _, rfl, rfl, _, _, rfl, rfl, _, _, rfl, rfl, .inr ⟨by decide, by decide⟩, _, rfl, _, _, rfl, rfl, ?_, .inl ⟨_, rfl, _, _, rfl, rfl, (by show (0 : Int) < _; decide), _, _, rfl, rfl, ?_⟩⟩⟩
    · exact ⟨by decide, by decide⟩
    refine ⟨_, rfl, _, _, rfl, rfl, (by show (0 : Int) < _; decide), _, _, rfl, rfl, .inr ⟨by decide, by decide⟩, _, _, rfl, rfl, (by show (0 : Int) < _; decide), q _ _ s1⟩
end
end G341

set_option Elab.async false
set_option linter.all false
set_option maxRecDepth 100000
/-! the law's rows -/
namespace G341
open PySem PySem.Spec PyProof.Rows L2
/-- 9 if plain else 12 -/
def tNine : TE := fun σ H Q => ∃ b, σ[3]? = some (some (.bl b)) ∧ ∀ k : Int, 0 < k → Q (.int k) H
theorem nine_imp (σ : L2.St) (H : Hp) (Q : VK) (h : tNine σ H Q) : tIf (tB (tVar 3)) (tC (.int 9)) (tC (.int 12)) σ H Q := by
  obtain ⟨b, e, q⟩ := h
  exact ⟨_, e, b, rfl, ite2 (fun _ => q 9 (by decide)) (fun _ => q 12 (by decide))⟩
def spRowL (K : PySem.W.Frag) : Sp := fun vs H Q _ => ∃ (a : Addr) (ns : List Int) (i rest : Int) (b : Bool), vs = [.ref a, .int i, .int rest, .bl b] ∧ ns.length ≤ 63 ∧ SqL K H a (ns.map V.int) ∧ 0 ≤ rest ∧ rest ≤ 3 ∧ ∀ v d H', Same H H' → Dp K H' v d → RowC d rest → Q v H'
section
variable {P : Program} {w : World} {K : PySem.W.Frag} {mg : Str → Option Value} {base : Heap}
theorem sc26 : FnScope ["_law_script", "_law_at", "_law_rest", "_law_plain", "_law_sort", "_law_place", "_law_register", "_law_value"] ["_law_script", "_law_at", "_law_rest", "_law_plain"] (defScope (tx 26)) := ⟨rfl, rfl, rfl, by decide +kernel, rfl, by decide +kernel, by decide +kernel⟩
theorem ok_rowL {f fn : Addr} {fd dn : FuncData} (F : Df K mg "_law_row" (tx 26) ["_law_script", "_law_at", "_law_rest", "_law_plain"] f fd) (DN : Df K mg "_law_number" (tx 25) ["_law_script", "_law_at"] fn dn) (GN : FnOk P w K mg base CX0 1 fn dn ["_law_script", "_law_at"] (spNumb K)) (B : Bn mg) (hmin : mg "min" = none) :
    FnOk P w K mg base CX0 2 f fd ["_law_script", "_law_at", "_law_rest", "_law_plain"] (spRowL K) := by
  refine F.F.ok sc26 (fun vs H Q E h => ?_) (fun cdv A outer s H vs Q E hr h => ?_)
  · obtain ⟨a, ns, i, rest, b, rfl, _⟩ := h
    rfl
  · obtain ⟨a, ns, i, rest, b, rfl, hl, hs, r0, r3, q⟩ := h
    refine ⟨_, (pss_cons (ps_par (i := 4) (j := 5) rfl sc26.nd rfl rfl (by decide) rfl rfl (pa_cons (pe_op op_mod (pe_callTy call_int1 (by rfl) B.int PyProof.Rows.boot_int (pa_cons (pe_call GN (hr.mono (by decide)) (by rfl) DN.g DN.F.kp DN.b .nil pass0 (pa_cons (pv 0) (pa_cons (pv 1) pa_nil))) pa_nil)) (pe_imp (te' := tNine) (pe_ifExp (pt_val (pv 3)) pe_int pe_int) nine_imp)) (pa_cons (pe_op op_mod (pe_callTy call_int1 (by rfl) B.int PyProof.Rows.boot_int (pa_cons (pe_call GN (hr.mono (by decide)) (by rfl) DN.g DN.F.kp DN.b .nil pass0 (pa_cons (pv 0) (pa_cons (pe_op op_add (pv 1) pe_int) pa_nil))) pa_nil)) pe_int) pa_nil)) rfl)
      (pss_cons (ps_par (i := 6) (j := 7) rfl sc26.nd rfl rfl (by decide) rfl rfl (pa_cons (pe_op op_mod (pe_callTy call_int1 (by rfl) B.int PyProof.Rows.boot_int (pa_cons (pe_call GN (hr.mono (by decide)) (by rfl) DN.g DN.F.kp DN.b .nil pass0 (pa_cons (pv 0) (pa_cons (pe_op op_add (pv 1) pe_int) pa_nil))) pa_nil)) pe_int) (pa_cons (pe_op op_add pe_int (pe_op op_mod (pe_callTy call_int1 (by rfl) B.int PyProof.Rows.boot_int (pa_cons (pe_call GN (hr.mono (by decide)) (by rfl) DN.g DN.F.kp DN.b .nil pass0 (pa_cons (pv 0) (pa_cons (pe_op op_add (pv 1) pe_int) pa_nil))) pa_nil)) pe_int)) pa_nil)) rfl)
      (pss_cons (ps_if (pt_cmpR op_lt (pv 4) pe_int (nomark _)) (pss_one (ps_ret (pe_tup (pa_cons pe_str (pa_cons (pv 5) (pa_cons (pv 7) pa_nil)))))) pss_nil)
      (pss_cons (ps_if (pt_cmpR op_lt (pv 4) pe_int (nomark _)) (pss_one (ps_ret (pe_tup (pa_cons pe_str (pa_cons (pv 6) (pa_cons (pv 5) pa_nil)))))) pss_nil)
      (pss_cons (ps_if (pt_cmpR op_eq (pv 4) pe_int (nomark _)) (pss_one (ps_ret (pe_tup (pa_cons pe_str pa_nil)))) pss_nil)
      (pss_cons (ps_if (pt_cmpR op_eq (pv 4) pe_int (nomark _)) (pss_one (ps_ret (pe_tup (pa_cons pe_str (pa_cons (pv 6) (pa_cons (pv 5) (pa_cons (pv 7) pa_nil))))))) pss_nil)
      (pss_cons (ps_if (PW.pt (pw_or (pt_cmpR op_eq (pv 4) pe_int (nomark _)) (pw_or1 (pt_cmpR op_eq (pv 2) pe_int (nomark _))))) (pss_one (ps_ret (pe_tup (pa_cons pe_str (pa_cons (pv 5) (pa_cons (pv 6) pa_nil)))))) pss_nil)
      (pss_cons (ps_if (pt_cmpR op_eq (pv 4) pe_int (nomark _)) (pss_one (ps_ret (pe_tup (pa_cons pe_str (pa_cons pe_int (pa_cons (pv 7) pa_nil)))))) pss_nil)
      (pss_cons (ps_if (pt_cmpR op_eq (pv 4) pe_int (nomark _)) (pss_one (ps_ret (pe_tup (pa_cons pe_str (pa_cons (pv 6) (pa_cons pe_int pa_nil)))))) pss_nil)
      (pss_one (ps_ret (pe_tup (pa_cons pe_str (pa_cons (pv 6) (pa_cons (pe_op op_mod (pe_callTy call_int1 (by rfl) B.int PyProof.Rows.boot_int (pa_cons (pe_call GN (hr.mono (by decide)) (by rfl) DN.g DN.F.kp DN.b .nil pass0 (pa_cons (pv 0) (pa_cons (pe_op op_add (pv 1) pe_int) pa_nil))) pa_nil)) pe_int) (pa_cons (pe_op op_add pe_int (pe_op op_mod (pe_callTy call_int1 (by rfl) B.int PyProof.Rows.boot_int (pa_cons (pe_call GN (hr.mono (by decide)) (by rfl) DN.g DN.F.kp DN.b .nil pass0 (pa_cons (pv 0) (pa_cons (pe_op op_add (pv 1) pe_int) pa_nil))) pa_nil)) (pe_callB (call_min2 rfl) (by rfl) hmin (by decide +kernel) (pa_cons pe_int (pa_cons (pv 2) pa_nil))))) pa_nil)))))))))))))))), ?_⟩
    refine ⟨_, rfl, _, rfl, a, ns, _, rfl, hl, hs, fun n1 H1 s1 => .inl ⟨_, rfl, b, rfl, fun k hk => ⟨_, _, rfl, rfl, hk, ?_⟩⟩⟩
    refine ⟨_, rfl, _, rfl, _, _, rfl, rfl, a, ns, _, rfl, hl, s1.seq hs, fun n2 H2 s2 => .inl ⟨_, rfl, _, _, rfl, rfl, (by show (0 : Int) < _; decide), _, _, rfl, ?_⟩⟩
    have s12 := s1.trans s2
    refine ⟨_, rfl, _, rfl, _, _, rfl, rfl, a, ns, _, rfl, hl, s12.seq hs, fun n3 H3 s3 => .inl ⟨_, rfl, _, _, rfl, rfl, (by show (0 : Int) < _; decide), ?_⟩⟩
    have s13 := s12.trans s3
    refine ⟨_, rfl, _, rfl, _, _, rfl, rfl, a, ns, _, rfl, hl, s13.seq hs, fun n4 H4 s4' => .inl ⟨_, rfl, _, _, rfl, rfl, (by show (0 : Int) < _; decide), _, _, rfl, rfl, _, _, rfl, ?_⟩⟩
    have s4 := s13.trans s4'
    have p0 : 0 ≤ n2 % 2 ∧ n2 % 2 < 2 := ⟨Int.emod_nonneg _ (by decide), Int.emod_lt_of_pos _ (by decide)⟩
    have g0 : 0 ≤ n3 % 2 ∧ n3 % 2 < 2 := ⟨Int.emod_nonneg _ (by decide), Int.emod_lt_of_pos _ (by decide)⟩
    have v0 : 0 ≤ n4 % 2 ∧ n4 % 2 < 2 := ⟨Int.emod_nonneg _ (by decide), Int.emod_lt_of_pos _ (by decide)⟩
    refine ⟨_, rfl, _, _, rfl, rfl, _, rfl, ite2 (fun _ => ?_) (fun _ => ?_)⟩
    · exact ⟨_, rfl, _, rfl, (by show (3 : Nat) ≤ sizeLine; decide), fun z hz => q _ _ _ (s4.trans (same_up hz)) (.tup (.inl (.inl upd_same)) (.cons (.str _) (.cons (.int _) (.cons (.int _) .nil)))) (.put _ _ ⟨⟨p0.1, by omega⟩, by omega, by omega⟩)⟩
    refine ⟨_, rfl, _, _, rfl, rfl, _, rfl, ite2 (fun _ => ?_) (fun _ => ?_)⟩
    · exact ⟨_, rfl, _, rfl, (by show (3 : Nat) ≤ sizeLine; decide), fun z hz => q _ _ _ (s4.trans (same_up hz)) (.tup (.inl (.inl upd_same)) (.cons (.str _) (.cons (.int _) (.cons (.int _) .nil)))) (.get _ _ ⟨⟨g0.1, by omega⟩, p0.1, by omega⟩)⟩
    refine ⟨_, rfl, rfl, _, rfl, ite2 (fun _ => ?_) (fun _ => ?_)⟩
    · exact ⟨(by show (1 : Nat) ≤ sizeLine; decide), fun z hz => q _ _ _ (s4.trans (same_up hz)) (.tup (.inl (.inl upd_same)) (.cons (.str _) .nil)) (.fence)⟩
    refine ⟨_, rfl, rfl, _, rfl, ite2 (fun _ => ?_) (fun _ => ?_)⟩
    · exact ⟨_, rfl, _, rfl, _, rfl, (by show (4 : Nat) ≤ sizeLine; decide), fun z hz => q _ _ _ (s4.trans (same_up hz)) (.tup (.inl (.inl upd_same)) (.cons (.str _) (.cons (.int _) (.cons (.int _) (.cons (.int _) .nil))))) (.swap _ _ _ ⟨⟨g0.1, by omega⟩, ⟨p0.1, by omega⟩, by omega, by omega⟩)⟩
    refine ⟨_, rfl, rfl, _, rfl, ite2 (fun _ => ?_) (fun _ => ?_)⟩
    · exact ift rfl ⟨_, rfl, _, rfl, (by show (3 : Nat) ≤ sizeLine; decide), fun z hz => q _ _ _ (s4.trans (same_up hz)) (.tup (.inl (.inl upd_same)) (.cons (.str _) (.cons (.int _) (.cons (.int _) .nil)))) (.give _ _ ⟨⟨p0.1, by omega⟩, g0.1, by omega⟩)⟩
    refine ⟨_, rfl, rfl, _, rfl, ?_⟩
    by_cases hr0 : rest = 0
    · exact ift (decide_eq_true (by rw [hr0])) ⟨_, rfl, _, rfl, (by show (3 : Nat) ≤ sizeLine; decide), fun z hz => q _ _ _ (s4.trans (same_up hz)) (.tup (.inl (.inl upd_same)) (.cons (.str _) (.cons (.int _) (.cons (.int _) .nil)))) (.give _ _ ⟨⟨p0.1, by omega⟩, g0.1, by omega⟩)⟩
    refine iff_ (decide_eq_false fun e => hr0 (V.int.inj e)) ?_
    refine ⟨_, rfl, rfl, _, rfl, ite2 (fun _ => ?_) (fun _ => ?_)⟩
    · exact ⟨_, rfl, (by show (3 : Nat) ≤ sizeLine; decide), fun z hz => q _ _ _ (s4.trans (same_up hz)) (.tup (.inl (.inl upd_same)) (.cons (.str _) (.cons (.int _) (.cons (.int _) .nil)))) (.put _ _ ⟨⟨by decide, by decide⟩, by omega, by omega⟩)⟩
    refine ⟨_, rfl, rfl, _, rfl, ite2 (fun _ => ?_) (fun _ => ?_)⟩
    · exact ⟨_, rfl, (by show (3 : Nat) ≤ sizeLine; decide), fun z hz => q _ _ _ (s4.trans (same_up hz)) (.tup (.inl (.inl upd_same)) (.cons (.str _) (.cons (.int _) (.cons (.int _) .nil)))) (.get _ _ ⟨⟨g0.1, by omega⟩, by decide, by decide⟩)⟩
    refine ⟨_, rfl, _, rfl, _, rfl, _, _, rfl, rfl, a, ns, _, rfl, hl, s4.seq hs, fun n5 H5 s5 => .inl ⟨_, rfl, _, _, rfl, rfl, (by show (0 : Int) < _; decide), ?_⟩⟩
    have s05 := s4.trans s5
    refine ⟨_, rfl, _, rfl, _, _, rfl, rfl, a, ns, _, rfl, hl, s05.seq hs, fun n6 H6 s6 => .inl ⟨_, rfl, _, rfl, _, _, rfl, ?_⟩⟩
    have hm : 0 < (if rest < 2 then rest else 2) ∧ (if rest < 2 then rest else 2) ≤ rest := by
      by_cases h2 : rest < 2
      · rw [if_pos h2]
        omega
      · rw [if_neg h2]
        omega
    refine ⟨_, _, rfl, rfl, hm.1, _, _, rfl, rfl, (by show (4 : Nat) ≤ sizeLine; decide), fun z hz => ?_⟩
    have k0 := Int.emod_nonneg n6 (Int.ne_of_gt hm.1)
    have k1 := Int.emod_lt_of_pos n6 hm.1
    have w0' : 0 ≤ n5 % 2 ∧ n5 % 2 < 2 := ⟨Int.emod_nonneg _ (by decide), Int.emod_lt_of_pos _ (by decide)⟩
    exact q _ _ _ ((s05.trans s6).trans (same_up hz)) (.tup (.inl (.inl upd_same)) (.cons (.str _) (.cons (.int _) (.cons (.int _) (.cons (.int _) .nil))))) (.only _ _ _ ⟨⟨g0.1, by omega⟩, ⟨w0'.1, by omega⟩, by omega, by omega⟩)
end
end G341

set_option Elab.async false
set_option linter.all false
set_option maxRecDepth 100000
/-! the law's programs -/
namespace G341
open PySem PySem.Spec PyProof.Rows L2
/-- a hand as it is drawn -/
def HandC (d : PyData) : Prop := ∃ rs, d = .tuple rs ∧ rs.length ≤ 4 ∧ ∀ (j : Nat) (r : PyData), rs[j]? = some r → RowC r ((rs.length : Int) - 1 - (j : Nat))
def ProgC (d : PyData) : Prop := ∃ hs, d = .tuple hs ∧ 1 ≤ hs.length ∧ hs.length ≤ 4 ∧ ∀ h ∈ hs, HandC h
theorem hand_noL {d : PyData} (h : HandC d) : noL d = true := by
  obtain ⟨rs, rfl, _, hr⟩ := h
  show noL (.tuple rs) = true
  unfold noL
  refine noLs_of fun r hm => ?_
  obtain ⟨j, hj, e⟩ := List.getElem_of_mem hm
  exact row_noL (hr j r (by rw [List.getElem?_eq_getElem hj, e]))
def spProgL (K : PySem.W.Frag) : Sp := fun vs H Q _ => ∃ (a : Addr) (ns : List Int) (i hn : Int) (b : Bool), vs = [.ref a, .int i, .int hn, .int 4, .bl b] ∧ ns.length ≤ 63 ∧ SqL K H a (ns.map V.int) ∧ 1 ≤ hn ∧ hn ≤ 4 ∧ ∀ v d H', Same H H' → Dp K H' v d → ProgC d → Q v H'
section
variable {P : Program} {w : World} {K : PySem.W.Frag} {mg : Str → Option Value} {base : Heap}
theorem sc27 : FnScope ["_law_script", "_law_at", "_law_hands", "_law_most", "_law_plain", "_law_found", "_law_hand", "_law_many", "_law_rows", "_law_spot"] ["_law_script", "_law_at", "_law_hands", "_law_most", "_law_plain"] (defScope (tx 27)) := ⟨rfl, rfl, rfl, by decide +kernel, rfl, by decide +kernel, by decide +kernel⟩
theorem ok_progL {f fn fr : Addr} {fd dn dr : FuncData} (F : Df K mg "_law_program" (tx 27) ["_law_script", "_law_at", "_law_hands", "_law_most", "_law_plain"] f fd) (DN : Df K mg "_law_number" (tx 25) ["_law_script", "_law_at"] fn dn) (DR : Df K mg "_law_row" (tx 26) ["_law_script", "_law_at", "_law_rest", "_law_plain"] fr dr)
    (GN : FnOk P w K mg base CX0 1 fn dn ["_law_script", "_law_at"] (spNumb K)) (GR : FnOk P w K mg base CX0 2 fr dr ["_law_script", "_law_at", "_law_rest", "_law_plain"] (spRowL K)) (B : Bn mg) : FnOk P w K mg base CX0 3 f fd ["_law_script", "_law_at", "_law_hands", "_law_most", "_law_plain"] (spProgL K) := by
  refine F.F.ok sc27 (fun vs H Q E h => ?_) (fun cdv A outer s H vs Q E hr h => ?_)
  · obtain ⟨a, ns, i, hn, b, rfl, _⟩ := h
    rfl
  · obtain ⟨a, ns, i, hn, b, rfl, hl, hs, h1, h4, q⟩ := h
    refine ⟨_, (pss_cons (ps_set (i := 5) sc27.nd rfl (Or.inl rfl) (pe_lst pa_nil)) (pss_cons (ps_for PassesOwn.never rfl (pi_range1 rfl B.range (pa_cons (pv 2) pa_nil)) (pg_name (i := 6) sc27.nd rfl (Or.inl rfl)) (pss_cons (ps_par (i := 7) (j := 8) rfl sc27.nd rfl rfl (by decide) rfl rfl (pa_cons (pe_op op_add pe_int (pe_op op_mod (pe_callTy call_int1 (by rfl) B.int PyProof.Rows.boot_int (pa_cons (pe_call GN (hr.mono (by decide)) (by rfl) DN.g DN.F.kp DN.b .nil pass0 (pa_cons (pv 0) (pa_cons (pe_op op_add (pv 1) (pe_op op_mul pe_int (pv 6))) pa_nil))) pa_nil)) (pv 3))) (pa_cons (pe_lst pa_nil) pa_nil)) rfl) (pss_cons (ps_for PassesOwn.never rfl (pi_range1 rfl B.range (pa_cons (pv 7) pa_nil)) (pg_name (i := 9) sc27.nd rfl (Or.inl rfl)) (pss_one (ps_expr (pe_bm PySem.F.plainAttrs_list PySem.F.slot_list_append PySem.F.type_list_append mt_append (pv 8) (pa_cons (pe_call GR (hr.mono (by decide)) (by rfl) DR.g DR.F.kp DR.b .nil pass0 (pa_cons (pv 0) (pa_cons (pe_op op_add (pe_op op_add (pe_op op_add (pv 1) (pe_op op_mul pe_int (pv 6))) pe_int) (pe_op op_mul pe_int (pv 9))) (pa_cons (pe_op op_sub (pe_op op_sub (pv 7) pe_int) (pv 9)) (pa_cons (pv 4) pa_nil))))) pa_nil))))) (pss_one (ps_expr (pe_bm PySem.F.plainAttrs_list PySem.F.slot_list_append PySem.F.type_list_append mt_append (pv 5) (pa_cons (pe_callTy call_tuple_of (by rfl) B.tuple PyProof.Rows.boot_tuple (pa_cons (pv 8) pa_nil)) pa_nil))))))) (pss_one (ps_ret (pe_callTy call_tuple_of (by rfl) B.tuple PyProof.Rows.boot_tuple (pa_cons (pv 5) pa_nil)))))), ?_⟩
    refine ⟨Nat.zero_le _, fun fq hfq => ?_⟩
    refine ⟨_, rfl, hn, rfl, by omega, by omega, for_range (n := hn.toNat) (fun k σ H' => ∃ (b6 b7 b8 b9 : Option V) (hv : List V) (hd : List PyData), σ = [some (.ref a), some (.int i), some (.int hn), some (.int 4), some (.bl b), some (.ref fq), b6, b7, b8, b9] ∧ Same H H' ∧ H' fq = some (.lst hv) ∧ DpAll K H' hv hd ∧ hd.length = k ∧ ∀ d ∈ hd, HandC d)
      ⟨none, none, none, none, [], [], rfl, same_up hfq, upd_same, .nil, rfl, fun d hd => absurd hd (by simp)⟩ ?_ ?_⟩
    · rintro k σ H1 hk ⟨b6, b7, b8, b9, hv, hd, rfl, s1, hf1, ha1, lk, hh⟩
      refine ⟨_, rfl, _, rfl, _, rfl, _, _, rfl, rfl, .inl ⟨by decide, by decide⟩, _, _, rfl, rfl, a, ns, _, rfl, hl, s1.seq hs, fun n1 H2 s2 => .inl ⟨_, rfl, _, rfl, _, _, rfl, rfl, (by show (0 : Int) < 4; decide), _, _, rfl, rfl, Nat.zero_le _, fun rq hrq => ⟨_, _, rfl, ?_⟩⟩⟩
      have m0 : 0 ≤ n1 % 4 ∧ n1 % 4 < 4 := ⟨Int.emod_nonneg _ (by decide), Int.emod_lt_of_pos _ (by decide)⟩
      have s12 := s1.trans s2
      have hf2 := s2 _ _ hf1
      have ha2 := dps_same s2 ha1
      refine ⟨_, rfl, 1 + n1 % 4, rfl, by omega, by omega, for_range (n := (1 + n1 % 4).toNat) (fun j σ H' => ∃ (b9' : Option V) (rv : List V) (rd : List PyData), σ = [some (.ref a), some (.int i), some (.int hn), some (.int 4), some (.bl b), some (.ref fq), some (.int (0 + (k : Nat))), some (.int (1 + n1 % 4)), some (.ref rq), b9'] ∧ Same H2 H' ∧ H' rq = some (.lst rv) ∧ DpAll K H' rv rd ∧ rd.length = j ∧ ∀ (t : Nat) (r : PyData), rd[t]? = some r → RowC r (n1 % 4 - (t : Nat)))
        ⟨_, [], [], rfl, same_up hrq, upd_same, .nil, rfl, fun t r e => by simp at e⟩ ?_ ?_⟩
      · rintro j σ H3 hj ⟨b9', rv, rd, rfl, s3, hr3, ha3, lj, hrow⟩
        refine ⟨_, rfl, .inl ⟨rfl, _, .inl (.inl hr3)⟩, _, rfl, _, rfl, _, rfl, _, _, rfl, rfl, .inl ⟨by decide, by decide⟩, _, _, rfl, rfl, _, _, rfl, rfl, _, rfl, _, _, rfl, rfl, .inl ⟨by decide, by decide⟩, _, _, rfl, rfl, _, rfl, _, _, rfl, rfl, _, rfl, _, _, rfl, rfl, _, rfl, ?_⟩
        refine ⟨a, ns, _, _, b, rfl, hl, (s12.trans s3).seq hs, by omega, by omega, fun v d H4 s4 hdv hc => ?_⟩
        have hr4 := s4 _ _ hr3
        have nd : ∀ d' ∈ rd, noL d' = true := fun d' hd' => by
          obtain ⟨t, ht, e⟩ := List.getElem_of_mem hd'
          exact row_noL (hrow t d' (by rw [List.getElem?_eq_getElem ht, e]))
        have lr := dps_len ha3
        refine ⟨rq, rv, _, rfl, rfl, hr4, by rw [lr, lj, sizeLine_eq]; omega, _, rv ++ [v], rd ++ [d], rfl, fun b' o e => ?_, upd_same, ?_, by rw [List.length_append, lj]; rfl, fun t r e => ?_⟩
        · rw [upd_ne (ne_of_none e hrq)]
          exact (s3.trans s4) _ _ e
        · exact dps_app (dps_setl hr4 (dps_same s4 ha3) (noLs_of nd)) (.cons (dp_setl hr4 hdv (row_noL hc)) .nil)
        · by_cases ht : t < rd.length
          · rw [List.getElem?_append_left ht] at e
            exact hrow t r e
          · rw [List.getElem?_append_right (by omega)] at e
            have e0 : t - rd.length = 0 := by
              have y := (List.getElem?_eq_some_iff.mp e).1
              rw [List.length_singleton] at y
              omega
            rw [e0] at e
            cases e
            have et : t = j := by omega
            subst et
            rw [show n1 % 4 - ((t : Nat) : Int) = 1 + n1 % 4 - 1 - (0 + ((t : Nat) : Int)) by omega]
            exact hc
      · rintro σ H3 ⟨b9', rv, rd, rfl, s3, hr3, ha3, lj, hrow⟩
        have hf3 := s3 _ _ hf2
        refine ⟨_, rfl, .inl ⟨rfl, _, .inl (.inl hf3)⟩, _, rfl, rq, rv, rfl, .inl ⟨.inl (.inl hr3), fun l hl2 => ?_⟩⟩
        have s4 := same_up (o := .tup rv) hl2
        have hcd : HandC (.tuple rd) := ⟨rd, rfl, by omega, fun t r e => by
          have y := hrow t r e
          rw [show n1 % 4 - ((t : Nat) : Int) = (rd.length : Int) - 1 - ((t : Nat) : Int) by omega] at y
          exact y⟩
        have hf4 := s4 _ _ hf3
        have d4 : Dp K (upd H3 l (.tup rv)) (.ref l) (.tuple rd) := .tup (.inl (.inl upd_same)) (dps_same s4 ha3)
        have lh := dps_len ha1
        refine ⟨fq, hv, _, rfl, rfl, hf4, by rw [lh, lk, sizeLine_eq]; omega, _, _, _, _, hv ++ [.ref l], hd ++ [.tuple rd], rfl, fun b' o e => ?_, upd_same, ?_, by rw [List.length_append, lk]; rfl, fun d hd' => ?_⟩
        · rw [upd_ne (ne_of_none e hfq)]
          exact ((s12.trans s3).trans s4) _ _ e
        · exact dps_app (dps_setl hf4 (dps_same (s3.trans s4) ha2) (noLs_of fun d hd' => hand_noL (hh d hd'))) (.cons (dp_setl hf4 d4 (hand_noL hcd)) .nil)
        · rcases List.mem_append.mp hd' with hd' | hd'
          · exact hh d hd'
          · rw [List.mem_singleton] at hd'
            subst hd'
            exact hcd
    · rintro σ H1 ⟨b6, b7, b8, b9, hv, hd, rfl, s1, hf1, ha1, lk, hh⟩
      refine ⟨_, rfl, fq, hv, rfl, .inl ⟨.inl (.inl hf1), fun l hl2 => ?_⟩⟩
      exact q _ _ _ (s1.trans (same_up hl2)) (.tup (.inl (.inl upd_same)) (dps_same (same_up hl2) ha1)) ⟨hd, rfl, by omega, by omega, hh⟩
end
end G341

set_option Elab.async false
set_option linter.all false
set_option maxRecDepth 100000
/-! read or refused -/
namespace G341
open PySem PySem.Spec PyProof.Rows L2
def spLR (K : PySem.W.Frag) : Sp := fun vs H Q _ => ∃ v, vs = [v] ∧ ((∃ t, v = .str t ∧ t.length ≤ 50000 ∧ (∀ hs, readT t = .ok hs → ∀ u H', Same H H' → Dp K H' u (.tuple hs) → Q u H') ∧ (∀ i, readT t = .error i → ∀ H', Same H H' → Q (.int (i : Nat)) H')) ∨
  (v = .non ∧ ∀ H', Same H H' → Q .non H'))
section
variable {P : Program} {w : World} {K : PySem.W.Frag} {mg : Str → Option Value} {base : Heap}
theorem sc29 : FnScope ["_law_text", "error"] ["_law_text"] (defScope (tx 29)) := ⟨rfl, rfl, rfl, by decide +kernel, rfl, by decide +kernel, by decide +kernel⟩
theorem ok_LR {f fr C fI cc cda : Addr} {fd dr : FuncData} (F : Df K mg "_law_read" (tx 29) ["_law_text"] f fd) (DR : Df K mg "read_program" (tx 23) ["text"] fr dr)
    (GR : FnOk P w K mg base (L2.CX P w) 7 fr dr ["text"] (spRead C K)) (T : BadTxt P K mg C fI cc cda) : FnOk P w K mg base CX0 9 f fd ["_law_text"] (spLR K) := by
  refine F.F.ok sc29 (fun vs H Q E h => ?_) (fun cdv A outer s H vs Q E hr h => ?_)
  · obtain ⟨v, rfl, _⟩ := h
    rfl
  · obtain ⟨v, rfl, h⟩ := h
    have hr1 : Room 7 _ := hr.mono (by decide)
    refine ⟨_, pss_one (ps_try_as (i := 1) (tb := fun W => tRet (tCallS (spRead C K) (WE W) (tCons (tVar 0) tNil))) (ts := fun a cls d => tRet (tIndex C a cls d (tVar 1))) (Wout := fun _ _ _ _ => False) rfl rfl sc29.nd rfl rfl ⟨rfl, by decide, Or.inl T.gC⟩ takes0
      (fun W pn xe tk _ => pss_one (ps_ret (by exact (pe_callS GR hr1 rfl DR.g DR.F.kp DR.b (fun σ => passAt tk σ) (by exact (pa_cons (pv 0) pa_nil))))))
      (fun a oe cls d pn hz hf => pss_one (ps_ret (by exact (pe_index T hz hf (pv 1)))))), ?_⟩
    have ex : ∀ (d : Addr) (H' : Hp) (u : V), H' d = some (xdI u) → Q u H' → wAs K (.ref C) 1 (fun a cls d => tRet (tIndex C a cls d (tVar 1))) (fun _ _ _ _ => False) { nx := fun _ H' => Q .non H', rt := Q } (.ref C) (some d) (start ["_law_text", "error"] [v]) H' := by
      intro d H' u hd q
      exact ⟨true, T.te, fun _ a0 _ => ⟨_, rfl, rfl, rfl, d, u, rfl, hd, q⟩, fun z => Bool.noConfusion z⟩
    rcases h with ⟨t, rfl, tl, hQ, hE⟩ | ⟨rfl, hN⟩
    · exact ⟨_, rfl, _, rfl, .inl ⟨t, rfl, tl, hQ, fun i e d H' s' hd => ex d H' _ hd (hE i e H' s')⟩⟩
    · exact ⟨_, rfl, _, rfl, .inr ⟨rfl, fun d H' s' hd => ex d H' _ hd (hN H' s')⟩⟩
end
end G341

set_option Elab.async false
set_option linter.all false
set_option maxRecDepth 100000
/-! the law's own texts of rows -/
namespace G341
open PySem PySem.Spec PyProof.Rows L2
theorem sAss (a b c : Str) : a ++ b ++ c = a ++ (b ++ c) := by
  apply Str.ext'
  simp [Str.cps_append, Array.append_assoc]
theorem sNil (a : Str) : a ++ ("" : Str) = a := by
  apply Str.ext'
  rw [Str.cps_append]
  show a.cps ++ #[] = a.cps
  simp
def wdT : PyData → Str
  | .int n => dg n
  | .str x => x
  | _ => ""
def spTold (K : PySem.W.Frag) : Sp := fun vs H Q _ => ∃ (v : V) (d : PyData) (n : Int), vs = [v] ∧ Dp K H v d ∧ RowC d n ∧ n ≤ 100 ∧ ∀ H', Same H H' → Q (.str (rowT d)) H'
theorem told_put {p v : Int} : "put" ++ " " ++ dg p ++ " = " ++ "" ++ dg v = rowT (.tuple [.str "put", .int p, .int v]) := by
  rw [rt_put, show (("put" : Str) ++ " ") = "put " by decide +kernel, sNil]
theorem told_give {p v : Int} : "give" ++ " " ++ dg p ++ " = " ++ "r" ++ dg v = rowT (.tuple [.str "give", .int p, .int v]) := by
  rw [rt_give, show (("give" : Str) ++ " ") = "give " by decide +kernel, sAss ("give " ++ dg p), show ((" = " : Str) ++ "r") = " = r" by decide +kernel]
theorem told_get {p v : Int} : "r" ++ dg v ++ " = " ++ "get" ++ " " ++ dg p ++ "" = rowT (.tuple [.str "get", .int v, .int p]) := by
  rw [rt_get, sNil, sAss ("r" ++ dg v), sAss ("r" ++ dg v), show ((" = " : Str) ++ "get" ++ " ") = " = get " by decide +kernel]
theorem told_swap {r p v : Int} : "r" ++ dg r ++ " = " ++ "swap" ++ " " ++ dg p ++ (" = " ++ dg v) = rowT (.tuple [.str "swap", .int r, .int p, .int v]) := by
  rw [rt_swap, sAss ("r" ++ dg r), sAss ("r" ++ dg r), show ((" = " : Str) ++ "swap" ++ " ") = " = swap " by decide +kernel, ← sAss]
section
variable {P : Program} {w : World} {K : PySem.W.Frag} {mg : Str → Option Value} {base : Heap}
abbrev N28 : List Str := ["_law_row_here", "_law_words", "_law_item"]
theorem sc28 : FnScope N28 ["_law_row_here"] (defScope (tx 28)) := ⟨rfl, rfl, rfl, by decide +kernel, rfl, by decide +kernel, by decide +kernel⟩
theorem ok_told {f : Addr} {fd : FuncData} (F : Df K mg "_law_told" (tx 28) ["_law_row_here"] f fd) (B : Bn mg) : FnOk P w K mg base CX0 1 f fd ["_law_row_here"] (spTold K) := by
  refine F.F.ok sc28 (fun vs H Q E h => ?_) (fun cdv A outer s H vs Q E hr h => ?_)
  · obtain ⟨v, d, n, rfl, _⟩ := h
    rfl
  · obtain ⟨v, d, n, rfl, hd, hc, hn, q⟩ := h
    refine ⟨_, pss_cons (ps_setLc (i := 1) (own := [("_law_item", 2)]) (g := gName 2) (tt := tYes) (te := tCB (fun xs H Q => (∃ i, xs = [.int i] ∧ i.natAbs.log2 < 1920 ∧ Q (.str (toString i)) H) ∨ ∃ a, xs = [.str a] ∧ Q (.str a) H) (tCons (tVar 2) tNil)) rfl sc28.nd rfl rfl rfl (pi_tup (pv 0)) (blkOk_by (N := N28) (sc := defScope (tx 28)) (by decide +kernel)) (fun _ _ _ _ _ => pg_name (i := 2) sc28.nd rfl (Or.inl rfl)) (fun _ _ _ _ _ => pts_nil)
        (fun _ _ _ _ _ => by exact pe_callTy (CallR.or call_str_int SkE.call_str_str) (by rfl) B.str PyProof.Rows.boot_str (pa_cons (pv 2) pa_nil)))
      (pss_cons (ps_if (pt_cmpR op_eq (pe_ix ix_tup (pv 0) pe_int (fun _ _ => rfl)) pe_str (nomark _)) (pss_one (ps_ret pe_str)) pss_nil)
      (pss_cons (ps_if (pt_cmpR op_in_seq (pe_ix ix_tup (pv 0) pe_int (fun _ _ => rfl)) (pe_tup (pa_cons pe_str (pa_cons pe_str pa_nil))) rfl) (pss_one (ps_ret (pe_op op_add_str (pe_op op_add_str (pe_op op_add_str (pe_op op_add_str (pe_op op_add_str (pe_ix ix_tup (pv 0) pe_int (fun _ _ => rfl)) pe_str) (pe_ix ix_list (pv 1) pe_int (fun _ _ => rfl))) pe_str) (pe_ifExp (pt_cmpR op_eq (pe_ix ix_tup (pv 0) pe_int (fun _ _ => rfl)) pe_str (nomark _)) pe_str pe_str)) (pe_ix ix_list (pv 1) pe_int (fun _ _ => rfl))))) pss_nil)
      (pss_cons (ps_if (pt_cmpR op_eq (pe_ix ix_tup (pv 0) pe_int (fun _ _ => rfl)) pe_str (nomark _)) (pss_one (ps_ret (pe_op op_add_str (pe_op op_add_str (pe_op op_add_str (pe_op op_add_str (pe_op op_add_str pe_str (pe_ix ix_list (pv 1) pe_int (fun _ _ => rfl))) pe_str) (pe_ix ix_list (pv 1) pe_int (fun _ _ => rfl))) pe_str) (pe_ix ix_list (pv 1) pe_int (fun _ _ => rfl))))) pss_nil)
      (pss_one (ps_ret (pe_op op_add_str (pe_op op_add_str (pe_op op_add_str (pe_op op_add_str (pe_op op_add_str (pe_op op_add_str pe_str (pe_ix ix_list (pv 1) pe_int (fun _ _ => rfl))) pe_str) (pe_ix ix_tup (pv 0) pe_int (fun _ _ => rfl))) pe_str) (pe_ix ix_list (pv 1) pe_int (fun _ _ => rfl))) (pe_ifExp (pt_cmpR op_eq (pe_ix ix_tup (pv 0) pe_int (fun _ _ => rfl)) pe_str (nomark _)) (pe_op op_add_str pe_str (pe_ix ix_list (pv 1) pe_int (fun _ _ => rfl))) pe_str))))))), ?_⟩
    cases hd with
    | tup hq hds =>
      rename_i a vs ds
      have ln := dps_len hds
      have small : ∀ d' ∈ ds, (∃ x, d' = .str x) ∨ ∃ k, d' = .int k ∧ 0 ≤ k ∧ k ≤ 100 := by
        cases hc with
        | fence =>
          intro d' hd'
          rw [List.mem_singleton] at hd'
          exact .inl ⟨_, hd'⟩
        | put p v h =>
          intro d' hd'
          rw [List.mem_cons, List.mem_cons, List.mem_singleton] at hd'
          rcases hd' with e | e | e
          · exact .inl ⟨_, e⟩
          · exact .inr ⟨_, e, h.1.1, by omega⟩
          · exact .inr ⟨_, e, h.2.1, by omega⟩
        | give p v h =>
          intro d' hd'
          rw [List.mem_cons, List.mem_cons, List.mem_singleton] at hd'
          rcases hd' with e | e | e
          · exact .inl ⟨_, e⟩
          · exact .inr ⟨_, e, h.1.1, by omega⟩
          · exact .inr ⟨_, e, h.2.1, by omega⟩
        | get p v h =>
          intro d' hd'
          rw [List.mem_cons, List.mem_cons, List.mem_singleton] at hd'
          rcases hd' with e | e | e
          · exact .inl ⟨_, e⟩
          · exact .inr ⟨_, e, h.1.1, by omega⟩
          · exact .inr ⟨_, e, h.2.1, by omega⟩
        | swap r p v h =>
          intro d' hd'
          rw [List.mem_cons, List.mem_cons, List.mem_cons, List.mem_singleton] at hd'
          rcases hd' with e | e | e | e
          · exact .inl ⟨_, e⟩
          · exact .inr ⟨_, e, h.1.1, by omega⟩
          · exact .inr ⟨_, e, h.2.1.1, by omega⟩
          · exact .inr ⟨_, e, h.2.2.1, by omega⟩
        | only r p v h =>
          intro d' hd'
          rw [List.mem_cons, List.mem_cons, List.mem_cons, List.mem_singleton] at hd'
          rcases hd' with e | e | e | e
          · exact .inl ⟨_, e⟩
          · exact .inr ⟨_, e, h.1.1, by omega⟩
          · exact .inr ⟨_, e, h.2.1.1, by omega⟩
          · exact .inr ⟨_, e, by omega, by omega⟩
      have l4 : ds.length ≤ 4 := by cases hc <;> simp
      dsimp only [tSeq, tAsg, List.map]
      refine lc_tupV (K := K) (by rfl) hq (by rw [sizeLine_eq]; omega) (fun i => .str (wdT (ds.getD i .none))) ?_ ?_
      · intro i x H3 C hx s3 c
        obtain ⟨d', ed, hd'⟩ := dps_get hds hx
        have c := c H3 (Same.refl _)
        rw [List.getD_eq_getElem?_getD, ed] at c
        rcases small d' (List.mem_of_getElem? ed) with ⟨y, rfl⟩ | ⟨k, rfl, hk⟩
        · cases hd'
          exact ⟨by rfl, _, rfl, .inr ⟨_, rfl, c⟩⟩
        · cases hd'
          exact ⟨by rfl, _, rfl, .inl ⟨k, rfl, dg_ok hk, c⟩⟩
      · intro D H1 s1 hD
        have hq1 := same_sqt (K := K) s1 hq
        have eD : H1 D = some (.lst ((ds.map wdT).map V.str)) := by
          rw [hD, ln, ← map_getD wdT .none ds, List.map_map]
          rfl
        have hW : SqL K H1 D ((ds.map wdT).map V.str) := .inl (.inl eD)
        cases hc with
        | fence =>
          obtain ⟨v0, vr0, rfl, h0, hr0⟩ := dps_c hds
          cases dp_str h0
          have zq := q H1 s1
          rw [rt_fence] at zq
          exact ⟨_, rfl, a, _, 0, _, rfl, rfl, hq1, atI_nat (j := 0) rfl, rfl, _, rfl, ift (by decide +kernel) zq⟩
        | put p v h =>
          obtain ⟨v0, vr0, rfl, h0, hr0⟩ := dps_c hds
          cases dp_str h0
          obtain ⟨v1, vr1, rfl, h1, hr1⟩ := dps_c hr0
          cases dp_int h1
          obtain ⟨v2, vr2, rfl, h2, hr2⟩ := dps_c hr1
          cases dp_int h2
          have b1 : 0 ≤ p ∧ p ≤ 100 := ⟨h.1.1, by omega⟩
          have b2 : 0 ≤ v ∧ v ≤ 100 := ⟨h.2.1, by omega⟩
          refine ⟨_, rfl, a, _, 0, _, rfl, rfl, hq1, atI_nat (j := 0) rfl, rfl, _, rfl, iff_ (by decide +kernel) ?_⟩
          refine ⟨_, rfl, a, _, 0, _, rfl, rfl, hq1, atI_nat (j := 0) rfl, by show (2 : Nat) ≤ sizeLine; decide, fun z hz => ?_⟩
          have s2 := same_up (o := .tup [.str "put", .str "give"]) hz
          have hq2 := same_sqt (K := K) s2 hq1
          have hW2 := s2.seq hW
          refine ⟨z, _, rfl, .inr (.inl (.inl upd_same)), rfl, rfl, _, rfl, ?_⟩
          refine ift in_p1 ?_
          refine ⟨_, rfl, a, _, 0, _, rfl, rfl, hq2, atI_nat (j := 0) rfl, _, _, rfl, rfl, fitL (by decide +kernel : (("put" : Str)).length ≤ 10) (by decide +kernel : ((" " : Str)).length ≤ 10) (by decide), _, rfl, D, _, 1, _, rfl, rfl, hW2, atI_nat (j := 1) rfl, _, _, rfl, rfl, fitL (catL (by decide +kernel : (("put" : Str)).length ≤ 10) (by decide +kernel : ((" " : Str)).length ≤ 10)) (dg_len b1) (by decide), _, _, rfl, rfl, fitL (catL (catL (by decide +kernel : (("put" : Str)).length ≤ 10) (by decide +kernel : ((" " : Str)).length ≤ 10)) (dg_len b1)) (by decide +kernel : ((" = " : Str)).length ≤ 10) (by decide), _, rfl, a, _, 0, _, rfl, rfl, hq2, atI_nat (j := 0) rfl, rfl, _, rfl, iff_ (by decide +kernel) ⟨_, _, rfl, rfl, fitL (catL (catL (catL (by decide +kernel : (("put" : Str)).length ≤ 10) (by decide +kernel : ((" " : Str)).length ≤ 10)) (dg_len b1)) (by decide +kernel : ((" = " : Str)).length ≤ 10)) (by decide +kernel : (("" : Str)).length ≤ 10) (by decide), _, rfl, D, _, 2, _, rfl, rfl, hW2, atI_nat (j := 2) rfl, _, _, rfl, rfl, fitL (catL (catL (catL (catL (by decide +kernel : (("put" : Str)).length ≤ 10) (by decide +kernel : ((" " : Str)).length ≤ 10)) (dg_len b1)) (by decide +kernel : ((" = " : Str)).length ≤ 10)) (by decide +kernel : (("" : Str)).length ≤ 10)) (dg_len b2) (by decide), ?_⟩⟩
          have zq := q _ (s1.trans s2)
          rw [← told_put] at zq
          exact zq
        | give p v h =>
          obtain ⟨v0, vr0, rfl, h0, hr0⟩ := dps_c hds
          cases dp_str h0
          obtain ⟨v1, vr1, rfl, h1, hr1⟩ := dps_c hr0
          cases dp_int h1
          obtain ⟨v2, vr2, rfl, h2, hr2⟩ := dps_c hr1
          cases dp_int h2
          have b1 : 0 ≤ p ∧ p ≤ 100 := ⟨h.1.1, by omega⟩
          have b2 : 0 ≤ v ∧ v ≤ 100 := ⟨h.2.1, by omega⟩
          refine ⟨_, rfl, a, _, 0, _, rfl, rfl, hq1, atI_nat (j := 0) rfl, rfl, _, rfl, iff_ (by decide +kernel) ?_⟩
          refine ⟨_, rfl, a, _, 0, _, rfl, rfl, hq1, atI_nat (j := 0) rfl, by show (2 : Nat) ≤ sizeLine; decide, fun z hz => ?_⟩
          have s2 := same_up (o := .tup [.str "put", .str "give"]) hz
          have hq2 := same_sqt (K := K) s2 hq1
          have hW2 := s2.seq hW
          refine ⟨z, _, rfl, .inr (.inl (.inl upd_same)), rfl, rfl, _, rfl, ?_⟩
          refine ift in_i1 ?_
          refine ⟨_, rfl, a, _, 0, _, rfl, rfl, hq2, atI_nat (j := 0) rfl, _, _, rfl, rfl, fitL (by decide +kernel : (("give" : Str)).length ≤ 10) (by decide +kernel : ((" " : Str)).length ≤ 10) (by decide), _, rfl, D, _, 1, _, rfl, rfl, hW2, atI_nat (j := 1) rfl, _, _, rfl, rfl, fitL (catL (by decide +kernel : (("give" : Str)).length ≤ 10) (by decide +kernel : ((" " : Str)).length ≤ 10)) (dg_len b1) (by decide), _, _, rfl, rfl, fitL (catL (catL (by decide +kernel : (("give" : Str)).length ≤ 10) (by decide +kernel : ((" " : Str)).length ≤ 10)) (dg_len b1)) (by decide +kernel : ((" = " : Str)).length ≤ 10) (by decide), _, rfl, a, _, 0, _, rfl, rfl, hq2, atI_nat (j := 0) rfl, rfl, _, rfl, ift (by decide +kernel) ⟨_, _, rfl, rfl, fitL (catL (catL (catL (by decide +kernel : (("give" : Str)).length ≤ 10) (by decide +kernel : ((" " : Str)).length ≤ 10)) (dg_len b1)) (by decide +kernel : ((" = " : Str)).length ≤ 10)) (by decide +kernel : (("r" : Str)).length ≤ 10) (by decide), _, rfl, D, _, 2, _, rfl, rfl, hW2, atI_nat (j := 2) rfl, _, _, rfl, rfl, fitL (catL (catL (catL (catL (by decide +kernel : (("give" : Str)).length ≤ 10) (by decide +kernel : ((" " : Str)).length ≤ 10)) (dg_len b1)) (by decide +kernel : ((" = " : Str)).length ≤ 10)) (by decide +kernel : (("r" : Str)).length ≤ 10)) (dg_len b2) (by decide), ?_⟩⟩
          have zq := q _ (s1.trans s2)
          rw [← told_give] at zq
          exact zq
        | get v p h =>
          obtain ⟨v0, vr0, rfl, h0, hr0⟩ := dps_c hds
          cases dp_str h0
          obtain ⟨v1, vr1, rfl, h1, hr1⟩ := dps_c hr0
          cases dp_int h1
          obtain ⟨v2, vr2, rfl, h2, hr2⟩ := dps_c hr1
          cases dp_int h2
          have b1 : 0 ≤ v ∧ v ≤ 100 := ⟨h.1.1, by omega⟩
          have b2 : 0 ≤ p ∧ p ≤ 100 := ⟨h.2.1, by omega⟩
          refine ⟨_, rfl, a, _, 0, _, rfl, rfl, hq1, atI_nat (j := 0) rfl, rfl, _, rfl, iff_ (by decide +kernel) ?_⟩
          refine ⟨_, rfl, a, _, 0, _, rfl, rfl, hq1, atI_nat (j := 0) rfl, by show (2 : Nat) ≤ sizeLine; decide, fun z hz => ?_⟩
          have s2 := same_up (o := .tup [.str "put", .str "give"]) hz
          have hq2 := same_sqt (K := K) s2 hq1
          have hW2 := s2.seq hW
          refine ⟨z, _, rfl, .inr (.inl (.inl upd_same)), rfl, rfl, _, rfl, ?_⟩
          refine iff_ in_g1 ?_
          refine ⟨_, rfl, a, _, 0, _, rfl, rfl, hq2, atI_nat (j := 0) rfl, rfl, _, rfl, iff_ (by decide +kernel) ?_⟩
          refine ⟨_, rfl, D, _, 1, _, rfl, rfl, hW2, atI_nat (j := 1) rfl, _, _, rfl, rfl, fitL (by decide +kernel : (("r" : Str)).length ≤ 10) (dg_len b1) (by decide), _, _, rfl, rfl, fitL (catL (by decide +kernel : (("r" : Str)).length ≤ 10) (dg_len b1)) (by decide +kernel : ((" = " : Str)).length ≤ 10) (by decide), _, rfl, a, _, 0, _, rfl, rfl, hq2, atI_nat (j := 0) rfl, _, _, rfl, rfl, fitL (catL (catL (by decide +kernel : (("r" : Str)).length ≤ 10) (dg_len b1)) (by decide +kernel : ((" = " : Str)).length ≤ 10)) (by decide +kernel : (("get" : Str)).length ≤ 10) (by decide), _, _, rfl, rfl, fitL (catL (catL (catL (by decide +kernel : (("r" : Str)).length ≤ 10) (dg_len b1)) (by decide +kernel : ((" = " : Str)).length ≤ 10)) (by decide +kernel : (("get" : Str)).length ≤ 10)) (by decide +kernel : ((" " : Str)).length ≤ 10) (by decide), _, rfl, D, _, 2, _, rfl, rfl, hW2, atI_nat (j := 2) rfl, _, _, rfl, rfl, fitL (catL (catL (catL (catL (by decide +kernel : (("r" : Str)).length ≤ 10) (dg_len b1)) (by decide +kernel : ((" = " : Str)).length ≤ 10)) (by decide +kernel : (("get" : Str)).length ≤ 10)) (by decide +kernel : ((" " : Str)).length ≤ 10)) (dg_len b2) (by decide), _, rfl, a, _, 0, _, rfl, rfl, hq2, atI_nat (j := 0) rfl, rfl, _, rfl, iff_ (by decide +kernel) ⟨_, _, rfl, rfl, fitL (catL (catL (catL (catL (catL (by decide +kernel : (("r" : Str)).length ≤ 10) (dg_len b1)) (by decide +kernel : ((" = " : Str)).length ≤ 10)) (by decide +kernel : (("get" : Str)).length ≤ 10)) (by decide +kernel : ((" " : Str)).length ≤ 10)) (dg_len b2)) (by decide +kernel : (("" : Str)).length ≤ 10) (by decide), ?_⟩⟩
          have zq := q _ (s1.trans s2)
          rw [← told_get] at zq
          exact zq
        | swap r p v h =>
          obtain ⟨v0, vr0, rfl, h0, hr0⟩ := dps_c hds
          cases dp_str h0
          obtain ⟨v1, vr1, rfl, h1, hr1⟩ := dps_c hr0
          cases dp_int h1
          obtain ⟨v2, vr2, rfl, h2, hr2⟩ := dps_c hr1
          cases dp_int h2
          obtain ⟨v3, vr3, rfl, h3, hr3⟩ := dps_c hr2
          cases dp_int h3
          have b1 : 0 ≤ r ∧ r ≤ 100 := ⟨h.1.1, by omega⟩
          have b2 : 0 ≤ p ∧ p ≤ 100 := ⟨h.2.1.1, by omega⟩
          have b3 : 0 ≤ v ∧ v ≤ 100 := ⟨h.2.2.1, by omega⟩
          refine ⟨_, rfl, a, _, 0, _, rfl, rfl, hq1, atI_nat (j := 0) rfl, rfl, _, rfl, iff_ (by decide +kernel) ?_⟩
          refine ⟨_, rfl, a, _, 0, _, rfl, rfl, hq1, atI_nat (j := 0) rfl, by show (2 : Nat) ≤ sizeLine; decide, fun z hz => ?_⟩
          have s2 := same_up (o := .tup [.str "put", .str "give"]) hz
          have hq2 := same_sqt (K := K) s2 hq1
          have hW2 := s2.seq hW
          refine ⟨z, _, rfl, .inr (.inl (.inl upd_same)), rfl, rfl, _, rfl, ?_⟩
          refine iff_ in_s1 ?_
          refine ⟨_, rfl, a, _, 0, _, rfl, rfl, hq2, atI_nat (j := 0) rfl, rfl, _, rfl, iff_ (by decide +kernel) ?_⟩
          refine ⟨_, rfl, D, _, 1, _, rfl, rfl, hW2, atI_nat (j := 1) rfl, _, _, rfl, rfl, fitL (by decide +kernel : (("r" : Str)).length ≤ 10) (dg_len b1) (by decide), _, _, rfl, rfl, fitL (catL (by decide +kernel : (("r" : Str)).length ≤ 10) (dg_len b1)) (by decide +kernel : ((" = " : Str)).length ≤ 10) (by decide), _, rfl, a, _, 0, _, rfl, rfl, hq2, atI_nat (j := 0) rfl, _, _, rfl, rfl, fitL (catL (catL (by decide +kernel : (("r" : Str)).length ≤ 10) (dg_len b1)) (by decide +kernel : ((" = " : Str)).length ≤ 10)) (by decide +kernel : (("swap" : Str)).length ≤ 10) (by decide), _, _, rfl, rfl, fitL (catL (catL (catL (by decide +kernel : (("r" : Str)).length ≤ 10) (dg_len b1)) (by decide +kernel : ((" = " : Str)).length ≤ 10)) (by decide +kernel : (("swap" : Str)).length ≤ 10)) (by decide +kernel : ((" " : Str)).length ≤ 10) (by decide), _, rfl, D, _, 2, _, rfl, rfl, hW2, atI_nat (j := 2) rfl, _, _, rfl, rfl, fitL (catL (catL (catL (catL (by decide +kernel : (("r" : Str)).length ≤ 10) (dg_len b1)) (by decide +kernel : ((" = " : Str)).length ≤ 10)) (by decide +kernel : (("swap" : Str)).length ≤ 10)) (by decide +kernel : ((" " : Str)).length ≤ 10)) (dg_len b2) (by decide), _, rfl, a, _, 0, _, rfl, rfl, hq2, atI_nat (j := 0) rfl, rfl, _, rfl, ift (by decide +kernel) ⟨_, rfl, D, _, 3, _, rfl, rfl, hW2, atI_nat (j := 3) rfl, _, _, rfl, rfl, fitL (by decide +kernel : ((" = " : Str)).length ≤ 10) (dg_len b3) (by decide), _, _, rfl, rfl, fitL (catL (catL (catL (catL (catL (by decide +kernel : (("r" : Str)).length ≤ 10) (dg_len b1)) (by decide +kernel : ((" = " : Str)).length ≤ 10)) (by decide +kernel : (("swap" : Str)).length ≤ 10)) (by decide +kernel : ((" " : Str)).length ≤ 10)) (dg_len b2)) (catL (by decide +kernel : ((" = " : Str)).length ≤ 10) (dg_len b3)) (by decide), ?_⟩⟩
          have zq := q _ (s1.trans s2)
          rw [← told_swap] at zq
          exact zq
        | only r p v h =>
          obtain ⟨v0, vr0, rfl, h0, hr0⟩ := dps_c hds
          cases dp_str h0
          obtain ⟨v1, vr1, rfl, h1, hr1⟩ := dps_c hr0
          cases dp_int h1
          obtain ⟨v2, vr2, rfl, h2, hr2⟩ := dps_c hr1
          cases dp_int h2
          obtain ⟨v3, vr3, rfl, h3, hr3⟩ := dps_c hr2
          cases dp_int h3
          have b1 : 0 ≤ r ∧ r ≤ 100 := ⟨h.1.1, by omega⟩
          have b2 : 0 ≤ p ∧ p ≤ 100 := ⟨h.2.1.1, by omega⟩
          have b3 : 0 ≤ v ∧ v ≤ 100 := ⟨by omega, by omega⟩
          refine ⟨_, rfl, a, _, 0, _, rfl, rfl, hq1, atI_nat (j := 0) rfl, rfl, _, rfl, iff_ (by decide +kernel) ?_⟩
          refine ⟨_, rfl, a, _, 0, _, rfl, rfl, hq1, atI_nat (j := 0) rfl, by show (2 : Nat) ≤ sizeLine; decide, fun z hz => ?_⟩
          have s2 := same_up (o := .tup [.str "put", .str "give"]) hz
          have hq2 := same_sqt (K := K) s2 hq1
          have hW2 := s2.seq hW
          refine ⟨z, _, rfl, .inr (.inl (.inl upd_same)), rfl, rfl, _, rfl, ?_⟩
          refine iff_ in_o1 ?_
          refine ⟨_, rfl, a, _, 0, _, rfl, rfl, hq2, atI_nat (j := 0) rfl, rfl, _, rfl, ift (by decide +kernel) ?_⟩
          refine ⟨_, rfl, D, _, 1, _, rfl, rfl, hW2, atI_nat (j := 1) rfl, _, _, rfl, rfl, fitL (by decide +kernel : (("only r" : Str)).length ≤ 10) (dg_len b1) (by decide), _, _, rfl, rfl, fitL (catL (by decide +kernel : (("only r" : Str)).length ≤ 10) (dg_len b1)) (by decide +kernel : ((" = " : Str)).length ≤ 10) (by decide), _, rfl, D, _, 2, _, rfl, rfl, hW2, atI_nat (j := 2) rfl, _, _, rfl, rfl, fitL (catL (catL (by decide +kernel : (("only r" : Str)).length ≤ 10) (dg_len b1)) (by decide +kernel : ((" = " : Str)).length ≤ 10)) (dg_len b2) (by decide), _, _, rfl, rfl, fitL (catL (catL (catL (by decide +kernel : (("only r" : Str)).length ≤ 10) (dg_len b1)) (by decide +kernel : ((" = " : Str)).length ≤ 10)) (dg_len b2)) (by decide +kernel : ((": " : Str)).length ≤ 10) (by decide), _, rfl, D, _, 3, _, rfl, rfl, hW2, atI_nat (j := 3) rfl, _, _, rfl, rfl, fitL (catL (catL (catL (catL (by decide +kernel : (("only r" : Str)).length ≤ 10) (dg_len b1)) (by decide +kernel : ((" = " : Str)).length ≤ 10)) (dg_len b2)) (by decide +kernel : ((": " : Str)).length ≤ 10)) (dg_len b3) (by decide), ?_⟩
          have zq := q _ (s1.trans s2)
          rw [rt_only] at zq
          exact zq
    | _ => cases hc
end
end G341

set_option Elab.async false
set_option linter.all false
set_option maxRecDepth 100000
/-! texts: lines, parts, what is read back -/
namespace G341
open PySem PySem.Spec PyProof.Rows L2
abbrev cp (x : Str) : List Nat := x.cps.toList
theorem cp_cat (a b : Str) : cp (a ++ b) = cp a ++ cp b := by
  unfold cp
  rw [Str.cps_append, Array.toList_append]
theorem S_cp (x : Str) : SX.S (cp x) = x := SX.S_tl x
theorem map_S (l : List Str) : (l.map cp).map SX.S = l := by
  rw [List.map_map]
  conv => rhs; rw [← List.map_id l]
  apply List.map_congr_left
  intro x _
  exact S_cp x
theorem cp_inj {a b : Str} (h : cp a = cp b) : a = b := by rw [← S_cp a, ← S_cp b, h]
theorem nl_S : ("\n" : Str) = SX.S [10] := by decide +kernel
theorem semi_S : ("; " : Str) = SX.S [59, 32] := by decide +kernel
theorem no_S : ("" : Str) = SX.S [] := by decide +kernel
theorem join_cp (a : List Nat) (l : List Str) : Txt.join (SX.S a) l = SX.S (TL.joinL a (l.map cp)) := by
  have h := SX.join_S a (l.map cp)
  rw [map_S] at h
  exact h
theorem split_cp {a : List Nat} (x : Str) (ha : a ≠ []) (hk : a.all (· < 256) = true) : Txt.split x (SX.S a) = (TL.spl a 0 [] (cp x)).map SX.S := by
  have h := SX.split_S (a := cp x) ha hk
  rw [S_cp] at h
  exact h
/-- a join of parts without the separator's first sign is split into them -/
theorem split_join {c : Nat} {r : List Nat} {l : List Str} (hk : (c :: r).all (· < 256) = true) (hne : l ≠ []) (h : ∀ p ∈ l, c ∉ cp p) : Txt.split (Txt.join (SX.S (c :: r)) l) (SX.S (c :: r)) = l := by
  rw [split_cp _ (by simp) hk, join_cp]
  show (TL.spl (c :: r) 0 [] (SX.S (TL.joinL (c :: r) (l.map cp))).cps.toList).map SX.S = l
  have e : (SX.S (TL.joinL (c :: r) (l.map cp))).cps.toList = TL.joinL (c :: r) (l.map cp) := by simp [SX.S]
  rw [e, SX.spl_join (by simpa using hne) (fun p hp => ?_), map_S]
  obtain ⟨q, hq, rfl⟩ := List.mem_map.mp hp
  exact h q hq
theorem split_lines {l : List Str} (hne : l ≠ []) (h : ∀ p ∈ l, 10 ∉ cp p) : Txt.split (Txt.join "\n" l) "\n" = l := by
  rw [nl_S]
  exact split_join (by decide) hne h
theorem split_parts {l : List Str} (hne : l ≠ []) (h : ∀ p ∈ l, 59 ∉ cp p) : Txt.split (Txt.join "; " l) "; " = l := by
  rw [semi_S]
  exact split_join (by decide) hne h
theorem join_back (x y : Str) : Txt.join y (Txt.split x y) = x := by
  show Builtin.Str.glued y _ = x
  rw [StrLaws.glued_eq_join]
  exact StrLaws.join_split x y
theorem part_free (x : Str) : ∀ p ∈ Txt.split x "\n", 10 ∉ cp p := by
  rw [nl_S]
  exact StrLaws.split_free x 10
/-- lines, each with its end: as a join -/
def fl (l : List Str) : List Nat := l.flatMap fun x => cp x ++ [10]
theorem joinL_end : ∀ (l : List (List Nat)) (z : List Nat), TL.joinL [10] (l ++ [z]) = (l.flatMap fun x => x ++ [10]) ++ z
  | [], z => rfl
  | [a], z => by
    show a ++ ([10] ++ z) = (a ++ [10] ++ []) ++ z
    simp
  | a :: b :: r, z => by
    have ih := joinL_end (b :: r) z
    show a ++ ([10] ++ TL.joinL [10] (b :: (r ++ [z]))) = _
    rw [show b :: (r ++ [z]) = (b :: r) ++ [z] from rfl, ih]
    simp [List.flatMap_cons]
theorem joinL_no : ∀ (l : List (List Nat)), TL.joinL [] l = l.flatten
  | [] => rfl
  | [a] => by simp [TL.joinL]
  | a :: b :: r => by
    have ih := joinL_no (b :: r)
    show a ++ ([] ++ TL.joinL [] (b :: r)) = _
    rw [ih]
    simp
theorem cp_S (a : List Nat) : cp (SX.S a) = a := by simp [cp, SX.S]
theorem join_end (l : List Str) (z : Str) : cp (Txt.join "\n" (l ++ [z])) = fl l ++ cp z := by
  rw [nl_S, join_cp, cp_S, List.map_append]
  show TL.joinL [10] (l.map cp ++ [cp z]) = _
  rw [joinL_end]
  unfold fl
  rw [List.flatMap_map]
theorem progT_cp (hs : List PyData) : cp (progT (.tuple hs)) = fl (hs.map handT) := by
  unfold progT
  rw [no_S, join_cp, cp_S, joinL_no]
  unfold fl
  show (((hs.map lineT).map cp).flatten) = _
  rw [List.flatMap_map, List.map_map, List.flatMap_def]
  congr 1
  apply List.map_congr_left
  intro d _
  show cp (handT d ++ "\n") = cp (handT d) ++ [10]
  rw [cp_cat]
  rfl
/-- a text by its lines -/
theorem text_split {t : Str} {l : List Str} {z : Str} (e : cp t = fl l ++ cp z) (h : ∀ p ∈ l, 10 ∉ cp p) (hz : 10 ∉ cp z) : Txt.split t "\n" = l ++ [z] := by
  have et : t = Txt.join "\n" (l ++ [z]) := cp_inj (by rw [join_end, e])
  rw [et]
  refine split_lines (by simp) fun p hp => ?_
  rcases List.mem_append.mp hp with hp | hp
  · exact h p hp
  · rw [List.mem_singleton] at hp
    subst hp
    exact hz
theorem read_lines {t : Str} {l : List Str} {z : Str} (e : cp t = fl l ++ cp z) (h : ∀ p ∈ l, 10 ∉ cp p) (hz : 10 ∉ cp z) : readT t = endR z (readL l 0 []) := by
  unfold readT
  rw [text_split e h hz, List.dropLast_concat, List.getLastD_concat]
end G341

set_option Elab.async false
set_option linter.all false
set_option maxRecDepth 100000
/-! what is read, what is read back -/
namespace G341
open PySem PySem.Spec PyProof.Rows L2
/-! ### rows: a finite table -/
def R3 : List Int := [0, 1, 2]
def R4 : List Int := [0, 1, 2, 3]
def R13 : List Int := [1, 2, 3]
def rowsTab : List (Str × List Int) :=
  (R4.flatMap fun p => R4.map fun v => (("put" : Str), [p, v])) ++ (R4.flatMap fun p => R3.map fun v => (("give" : Str), [p, v])) ++ (R3.flatMap fun p => R4.map fun v => (("get" : Str), [p, v])) ++
  (R3.flatMap fun r => R4.flatMap fun p => R4.map fun v => (("swap" : Str), [r, p, v])) ++ (R3.flatMap fun r => R4.flatMap fun p => R13.map fun v => (("only" : Str), [r, p, v]))
def fg (t : Str) : List (Str × Nat) → Option Str
  | [] => none
  | (w, m) :: r => if goodR t w m = true then some w else fg t r
theorem fg_rr {t w : Str} : ∀ {l : List (Str × Nat)}, fg t l = some w → rrL t l = some (mkR w (numsT t))
  | [], h => by cases h
  | (w', m) :: r, h => by
    have h : (if goodR t w' m = true then some w' else fg t r) = some w := h
    show (if goodR t w' m = true then some (mkR w' (numsT t)) else rrL t r) = _
    by_cases e : goodR t w' m = true
    · rw [if_pos e] at h ⊢
      cases h
      rfl
    · rw [if_neg e] at h ⊢
      exact fg_rr h
def chkR (e : Str × List Int) : Bool := decide (numsT (rowT (mkR e.1 e.2)) = e.2) && decide (fg (rowT (mkR e.1 e.2)) wordsR = some e.1) && (cp (rowT (mkR e.1 e.2))).all (fun c => c != 10 && c != 59) && !(cp (rowT (mkR e.1 e.2))).isEmpty
theorem tab_ok : (rowsTab.all chkR) = true := by decide +kernel
theorem fence_rr : rrT "fence" = some (.tuple [.str "fence"]) := by
  have h : fg "fence" wordsR = none := by decide +kernel
  have go : ∀ {l : List (Str × Nat)}, fg "fence" l = none → rrL "fence" l = some (.tuple [.str "fence"]) := by
    intro l
    induction l with
    | nil =>
      intro _
      show (if ("fence" : Str) = "fence" then _ else _) = _
      rw [if_pos rfl]
    | cons e r ih =>
      obtain ⟨w', m⟩ := e
      intro h
      have h : (if goodR "fence" w' m = true then some w' else fg "fence" r) = none := h
      show (if goodR "fence" w' m = true then some (mkR w' (numsT "fence")) else rrL "fence" r) = _
      by_cases e : goodR "fence" w' m = true
      · rw [if_pos e] at h
        cases h
      · rw [if_neg e] at h ⊢
        exact ih h
  exact go h
theorem in3 {x : Int} (h : 0 ≤ x ∧ x ≤ 2) : x ∈ R3 := by
  unfold R3
  simp only [List.mem_cons, List.not_mem_nil, or_false]
  omega
theorem in4 {x : Int} (h : 0 ≤ x ∧ x ≤ 3) : x ∈ R4 := by
  unfold R4
  simp only [List.mem_cons, List.not_mem_nil, or_false]
  omega
theorem in13 {x : Int} (h : 1 ≤ x ∧ x ≤ 3) : x ∈ R13 := by
  unfold R13
  simp only [List.mem_cons, List.not_mem_nil, or_false]
  omega
theorem row_tab {d : PyData} {n : Int} (h : RowC d n) (hn : n ≤ 3) : d = .tuple [.str "fence"] ∨ ∃ e ∈ rowsTab, d = mkR e.1 e.2 := by
  unfold rowsTab
  cases h with
  | fence => exact .inl rfl
  | put p v h => exact .inr ⟨("put", [p, v]), List.mem_append_left _ (List.mem_append_left _ (List.mem_append_left _ (List.mem_append_left _ (List.mem_flatMap.mpr ⟨p, in4 h.1, List.mem_map.mpr ⟨v, in4 h.2, rfl⟩⟩)))), rfl⟩
  | give p v h => exact .inr ⟨("give", [p, v]), List.mem_append_left _ (List.mem_append_left _ (List.mem_append_left _ (List.mem_append_right _ (List.mem_flatMap.mpr ⟨p, in4 h.1, List.mem_map.mpr ⟨v, in3 h.2, rfl⟩⟩)))), rfl⟩
  | get p v h => exact .inr ⟨("get", [p, v]), List.mem_append_left _ (List.mem_append_left _ (List.mem_append_right _ (List.mem_flatMap.mpr ⟨p, in3 h.1, List.mem_map.mpr ⟨v, in4 h.2, rfl⟩⟩))), rfl⟩
  | swap r p v h => exact .inr ⟨("swap", [r, p, v]), List.mem_append_left _ (List.mem_append_right _ (List.mem_flatMap.mpr ⟨r, in3 h.1, List.mem_flatMap.mpr ⟨p, in4 h.2.1, List.mem_map.mpr ⟨v, in4 h.2.2, rfl⟩⟩⟩)), rfl⟩
  | only r p v h => exact .inr ⟨("only", [r, p, v]), List.mem_append_right _ (List.mem_flatMap.mpr ⟨r, in3 h.1, List.mem_flatMap.mpr ⟨p, in4 h.2.1, List.mem_map.mpr ⟨v, in13 ⟨h.2.2.1, by omega⟩, rfl⟩⟩⟩), rfl⟩
theorem row_back {d : PyData} {n : Int} (h : RowC d n) (hn : n ≤ 3) : rrT (rowT d) = some d ∧ 10 ∉ cp (rowT d) ∧ 59 ∉ cp (rowT d) ∧ cp (rowT d) ≠ [] := by
  rcases row_tab h hn with rfl | ⟨e, he, rfl⟩
  · rw [rt_fence]
    exact ⟨fence_rr, by decide +kernel, by decide +kernel, by decide +kernel⟩
  · have z := List.all_eq_true.mp tab_ok e he
    unfold chkR at z
    rw [Bool.and_eq_true, Bool.and_eq_true, Bool.and_eq_true] at z
    obtain ⟨⟨⟨z1, z2⟩, z3⟩, z4⟩ := z
    have y := fg_rr (of_decide_eq_true z2)
    rw [of_decide_eq_true z1] at y
    refine ⟨y, fun hm => ?_, fun hm => ?_, fun hm => ?_⟩
    · have := List.all_eq_true.mp z3 10 hm
      exact absurd this (by decide)
    · have := List.all_eq_true.mp z3 59 hm
      exact absurd this (by decide)
    · rw [hm] at z4
      exact absurd z4 (by decide)
/-! ### hands -/
theorem joinL_mem {c : Nat} {a : List Nat} : ∀ {l : List (List Nat)}, c ∈ TL.joinL a l → c ∈ a ∨ ∃ p ∈ l, c ∈ p
  | [], h => by cases h
  | [p], h => .inr ⟨p, by simp, h⟩
  | p :: q :: r, h => by
    have h : c ∈ p ++ (a ++ TL.joinL a (q :: r)) := h
    rcases List.mem_append.mp h with h | h
    · exact .inr ⟨p, by simp, h⟩
    rcases List.mem_append.mp h with h | h
    · exact .inl h
    rcases joinL_mem h with h | ⟨x, hx, hc⟩
    · exact .inl h
    · exact .inr ⟨x, List.mem_cons_of_mem _ hx, hc⟩
theorem hand_rows {h : PyData} (hc : HandC h) : ∃ rs, h = .tuple rs ∧ rs.length ≤ 4 ∧ ∀ r ∈ rs, ∃ n, RowC r n ∧ n ≤ 3 := by
  obtain ⟨rs, e, l, hr⟩ := hc
  refine ⟨rs, e, l, fun r hm => ?_⟩
  obtain ⟨j, hj, ej⟩ := List.getElem_of_mem hm
  exact ⟨_, hr j r (by rw [List.getElem?_eq_getElem hj, ej]), by omega⟩
theorem hand_back {h : PyData} (hc : HandC h) : handP (handT h) = h ∧ okLine (handT h) = true ∧ 10 ∉ cp (handT h) := by
  obtain ⟨rs, rfl, l4, hr⟩ := hand_rows hc
  have hs : ∀ r ∈ rs, rrT (rowT r) = some r ∧ 10 ∉ cp (rowT r) ∧ 59 ∉ cp (rowT r) ∧ cp (rowT r) ≠ [] := fun r hm => by
    obtain ⟨n, h1, h2⟩ := hr r hm
    exact row_back h1 h2
  have hp : handP (handT (.tuple rs)) = .tuple rs := by
    unfold handP rowsP
    congr 1
    show (if Txt.join "; " (rs.map rowT) = "" then [] else _) = rs
    cases rs with
    | nil => rw [if_pos (by decide +kernel)]
    | cons r0 rr =>
      have ne : Txt.join "; " ((r0 :: rr).map rowT) ≠ "" := by
        intro e
        have z := congrArg cp e
        rw [semi_S, join_cp, cp_S] at z
        have y := (hs r0 List.mem_cons_self).2.2.2
        cases rr with
        | nil => exact y z
        | cons r1 r2 =>
          have z : cp (rowT r0) ++ ([59, 32] ++ TL.joinL [59, 32] (((r1 :: r2).map rowT).map cp)) = [] := z
          exact y (List.append_eq_nil_iff.mp z).1
      rw [if_neg ne]
      have e2 : handT (.tuple (r0 :: rr)) = Txt.join "; " ((r0 :: rr).map rowT) := rfl
      rw [e2, split_parts (by simp) (fun p hp => by
        obtain ⟨r, hr', rfl⟩ := List.mem_map.mp hp
        exact (hs r hr').2.2.1), List.map_map]
      conv => rhs; rw [← List.map_id (r0 :: rr)]
      apply List.map_congr_left
      intro r hr'
      show partD (rowT r) = r
      unfold partD
      rw [(hs r hr').1]
      rfl
  refine ⟨hp, ?_, ?_⟩
  · unfold okLine
    rw [hp]
    obtain ⟨rs', e', l', hrow⟩ := hc
    cases e'
    rw [progD_t]
    have h1 : handD (.tuple rs) = true := decide_eq_true (by omega)
    have h2 : handR (.tuple rs) = true := by
      show rowsD rs _ = true
      rw [rowsD_eq, List.all_eq_true]
      intro k hk
      have hk := List.mem_range.mp hk
      refine row_to ?_
      rw [List.getD_eq_getElem?_getD, List.getElem?_eq_getElem hk]
      exact hrow k _ (List.getElem?_eq_getElem hk)
    simp only [List.all_cons, List.all_nil, h1, h2]
    rfl
  · intro hm
    have hm : 10 ∈ cp (Txt.join "; " (rs.map rowT)) := hm
    rw [semi_S, join_cp, cp_S] at hm
    rcases joinL_mem hm with h | ⟨p, hp', h⟩
    · exact absurd h (by decide)
    · obtain ⟨x, hx, rfl⟩ := List.mem_map.mp hp'
      obtain ⟨r, hr', rfl⟩ := List.mem_map.mp hx
      exact (hs r hr').2.1 h
end G341

set_option Elab.async false
set_option linter.all false
set_option maxRecDepth 100000
/-! what the law asks of texts -/
namespace G341
open PySem PySem.Spec PyProof.Rows L2
theorem readL_cons {l : Str} {r : List Str} {i : Nat} {acc : List PyData} : readL (l :: r) i acc = if okLine l = true ∧ i < 4 then readL r (i + 1) (acc ++ [handP l]) else .error i := rfl
theorem readL_ok : ∀ {L : List Str} {i : Nat} {acc hs : List PyData}, i ≤ 4 → readL L i acc = .ok hs → hs = acc ++ L.map handP ∧ (∀ l ∈ L, okLine l = true) ∧ i + L.length ≤ 4
  | [], i, acc, hs, hi, h => by
    have h : Except.ok acc = Except.ok hs := h
    cases h
    exact ⟨by simp, fun l hl => absurd hl (by simp), hi⟩
  | l :: r, i, acc, hs, hi, h => by
    rw [readL_cons] at h
    by_cases e : okLine l = true ∧ i < 4
    · rw [if_pos e] at h
      obtain ⟨h1, h2, h3⟩ := readL_ok (by omega) h
      refine ⟨by rw [h1]; simp, fun x hx => ?_, by rw [List.length_cons]; omega⟩
      rcases List.mem_cons.mp hx with rfl | hx
      · exact e.1
      · exact h2 x hx
    · rw [if_neg e] at h
      cases h
theorem readL_go : ∀ {L r : List Str} {i : Nat} {acc : List PyData}, (∀ l ∈ L, okLine l = true) → i + L.length ≤ 4 → readL (L ++ r) i acc = readL r (i + L.length) (acc ++ L.map handP)
  | [], r, i, acc, _, _ => by simp
  | l :: L, r, i, acc, h, hl => by
    rw [List.length_cons] at hl
    show readL (l :: (L ++ r)) i acc = _
    rw [readL_cons, if_pos ⟨h l List.mem_cons_self, by omega⟩, readL_go (fun x hx => h x (List.mem_cons_of_mem _ hx)) (by omega)]
    rw [List.length_cons, show i + 1 + L.length = i + (L.length + 1) by omega]
    simp
theorem ok_rows {l : Str} (h : okLine l = true) : handT (handP l) = l ∧ handD (handP l) = true ∧ handR (handP l) = true := by
  have hp := h
  unfold okLine at hp
  obtain ⟨hs, e1, _, _, hh⟩ := prog_hands hp
  cases e1
  obtain ⟨rs, e2, _, hrow⟩ := hh 0 (by show (0 : Nat) < 1; decide)
  cases e2
  refine ⟨?_, ?_, ?_⟩
  · show Txt.join "; " ((rowsP l).map rowT) = l
    have hm : ∀ p, partD p ∈ rowsP l → rowT (partD p) = p := by
      intro p hp
      obtain ⟨j, hj, ej⟩ := List.getElem_of_mem hp
      have y := hrow j hj
      rw [List.getD_eq_getElem?_getD, List.getElem?_eq_getElem hj] at y
      have y : RowC (rowsP l)[j] _ := y
      rw [ej] at y
      rcases part_cases p with hc | hc
      · rw [hc.1] at y
        cases y
      · exact hc.2.1
    unfold rowsP at hm ⊢
    by_cases e : l = ("" : Str)
    · rw [if_pos e, e]
      decide +kernel
    · rw [if_neg e] at hm ⊢
      rw [List.map_map]
      have em : (Txt.split l "; ").map (rowT ∘ partD) = Txt.split l "; " := by
        conv => rhs; rw [← List.map_id (Txt.split l "; ")]
        apply List.map_congr_left
        intro p hp
        exact hm p (List.mem_map_of_mem hp)
      rw [em]
      exact join_back l "; "
  · rw [progD_t, Bool.and_eq_true, Bool.and_eq_true, Bool.and_eq_true] at hp
    have z := hp.1.2
    simp only [List.all_cons, List.all_nil, Bool.and_true] at z
    exact z
  · rw [progD_t, Bool.and_eq_true, Bool.and_eq_true, Bool.and_eq_true] at hp
    have z := hp.2
    simp only [List.all_cons, List.all_nil, Bool.and_true] at z
    exact z
/-- what is read as a program is the text of that program -/
theorem read_told {t : Str} {hs : List PyData} (h : readT t = .ok hs) : progT (.tuple hs) = t ∧ progD (.tuple hs) = true ∧ Shp 3 (.tuple hs) := by
  have lp := PyProof.Rows.split_pos t "\n"
  obtain ⟨L, z, eL⟩ : ∃ L z, Txt.split t "\n" = L ++ [z] := ⟨_, _, (List.dropLast_concat_getLast (by intro e; rw [e] at lp; exact absurd lp (by decide))).symm⟩
  have fr := part_free t
  rw [eL] at fr
  have eT : cp t = fl L ++ cp z := by
    have y := join_back t "\n"
    rw [eL] at y
    rw [← y, join_end]
  rw [read_lines eT (fun p hp => fr p (List.mem_append_left _ hp)) (fr z (by simp))] at h
  cases er : readL L 0 [] with
  | error i => rw [er] at h; cases h
  | ok hs' =>
    rw [er] at h
    have h : (if z = "" ∧ hs' ≠ [] then Except.ok hs' else Except.error hs'.length) = Except.ok hs := h
    by_cases e : z = ("" : Str) ∧ hs' ≠ []
    · rw [if_pos e] at h
      cases h
      obtain ⟨h1, h2, h3⟩ := readL_ok (by decide) er
      rw [List.nil_append] at h1
      subst h1
      refine ⟨cp_inj ?_, ?_, shp_tup fun d hd => ?_⟩
      · rw [progT_cp, eT, e.1, List.map_map]
        have em : L.map (handT ∘ handP) = L := by
          conv => rhs; rw [← List.map_id L]
          apply List.map_congr_left
          intro l hl
          exact (ok_rows (h2 l hl)).1
        rw [em]
        show fl L = fl L ++ []
        simp
      · rw [progD_t, List.length_map, decide_eq_true (show L.length ≤ 4 by omega), Bool.and_eq_true, Bool.and_eq_true, List.all_eq_true, List.all_eq_true]
        refine ⟨⟨?_, fun d hd => ?_⟩, fun d hd => ?_⟩
        · have : 1 ≤ L.length := by
            cases L with
            | nil => exact absurd rfl e.2
            | cons a b => simp
          rw [decide_eq_true this]
          rfl
        · obtain ⟨l, hl, rfl⟩ := List.mem_map.mp hd
          exact (ok_rows (h2 l hl)).2.1
        · obtain ⟨l, hl, rfl⟩ := List.mem_map.mp hd
          exact (ok_rows (h2 l hl)).2.2
      · obtain ⟨l, hl, rfl⟩ := List.mem_map.mp hd
        exact hand_shp l
    · rw [if_neg e] at h
      cases h
/-! ### a program that was drawn -/
section
variable {hs : List PyData} (h1 : 1 ≤ hs.length) (h4 : hs.length ≤ 4) (hh : ∀ h ∈ hs, HandC h)
include h4 hh
theorem lines_ok : (∀ l ∈ hs.map handT, okLine l = true) ∧ (∀ l ∈ hs.map handT, 10 ∉ cp l) ∧ (hs.map handT).map handP = hs := by
  refine ⟨fun l hl => ?_, fun l hl => ?_, ?_⟩
  · obtain ⟨h, hm, rfl⟩ := List.mem_map.mp hl
    exact (hand_back (hh h hm)).2.1
  · obtain ⟨h, hm, rfl⟩ := List.mem_map.mp hl
    exact (hand_back (hh h hm)).2.2
  · rw [List.map_map]
    conv => rhs; rw [← List.map_id hs]
    apply List.map_congr_left
    intro h hm
    exact (hand_back (hh h hm)).1
theorem read_end {t z : Str} (e : cp t = fl (hs.map handT) ++ cp z) (hz : 10 ∉ cp z) : readT t = endR z (.ok hs) := by
  obtain ⟨l1, l2, l3⟩ := lines_ok h4 hh
  rw [read_lines e l2 hz]
  have g := readL_go (L := hs.map handT) (r := []) (i := 0) (acc := []) l1 (by rw [List.length_map]; omega)
  rw [List.append_nil, List.nil_append, l3] at g
  rw [g]
  rfl
include h1
theorem read_back : readT (progT (.tuple hs)) = .ok hs := by
  rw [read_end h4 hh (z := "") (by rw [progT_cp]; show _ = _ ++ []; simp) (by decide +kernel)]
  show (if ("" : Str) = "" ∧ hs ≠ [] then Except.ok hs else _) = _
  rw [if_pos ⟨rfl, by intro e; rw [e] at h1; exact absurd h1 (by decide)⟩]
theorem read_fence : readT (progT (.tuple hs) ++ "fence") = .error hs.length := by
  rw [read_end h4 hh (z := "fence") (by rw [cp_cat, progT_cp]) (by decide +kernel)]
  have ne : ¬ (("fence" : Str) = "" ∧ hs ≠ []) := fun e => absurd e.1 (by decide +kernel)
  show (if ("fence" : Str) = "" ∧ hs ≠ [] then Except.ok hs else Except.error hs.length) = Except.error hs.length
  exact if_neg ne
/-- the last line without its end -/
theorem read_cut {t z : Str} {L : List Str} (e : hs.map handT = L ++ [z]) (hz : z ≠ "") (et : cp t = fl L ++ cp z) : readT t = .error (hs.length - 1) := by
  obtain ⟨l1, l2, l3⟩ := lines_ok h4 hh
  rw [e] at l1 l2
  have hl : hs.length = L.length + 1 := by
    have y := congrArg List.length e
    rw [List.length_map, List.length_append] at y
    exact y
  rw [read_lines et (fun p hp => l2 p (List.mem_append_left _ hp)) (l2 z (by simp))]
  have g := readL_go (L := L) (r := []) (i := 0) (acc := []) (fun l hl => l1 l (List.mem_append_left _ hl)) (by omega)
  rw [List.append_nil, List.nil_append] at g
  rw [g]
  have ne : ¬ (z = ("" : Str) ∧ L.map handP ≠ []) := fun e => hz e.1
  have y : endR z (.ok (L.map handP)) = .error (L.map handP).length := if_neg ne
  rw [List.length_map, show L.length = hs.length - 1 by omega] at y
  exact y
omit h1
/-- a line changed: the lines before are right -/
theorem read_bent {t z : Str} {pre post : List Str} {l : Str} {i : Nat} (hp : ∀ x ∈ pre, x ∈ hs.map handT) (hq : ∀ x ∈ post, x ∈ hs.map handT) (hn : pre.length + post.length + 1 ≤ 4) (et : cp t = fl (pre ++ [l] ++ post) ++ cp z) (hl : 10 ∉ cp l) (hz : z = "")
    (h : readT t = .error i) : i = pre.length := by
  obtain ⟨l1, l2, l3⟩ := lines_ok h4 hh
  subst hz
  rw [read_lines et (fun p hm => by
    rcases List.mem_append.mp hm with hm | hm
    · rcases List.mem_append.mp hm with hm | hm
      · exact l2 p (hp p hm)
      · rw [List.mem_singleton] at hm
        subst hm
        exact hl
    · exact l2 p (hq p hm)) (by decide +kernel)] at h
  rw [List.append_assoc, readL_go (fun x hx => l1 x (hp x hx)) (by omega), List.nil_append, Nat.zero_add] at h
  show i = pre.length
  rw [List.singleton_append, readL_cons] at h
  by_cases e : okLine l = true ∧ pre.length < 4
  · rw [if_pos e] at h
    have g := readL_go (L := post) (r := []) (i := pre.length + 1) (acc := pre.map handP ++ [handP l]) (fun x hx => l1 x (hq x hx)) (by omega)
    rw [List.append_nil] at g
    rw [g] at h
    have h : (if ("" : Str) = "" ∧ pre.map handP ++ [handP l] ++ post.map handP ≠ [] then Except.ok _ else _) = Except.error i := h
    rw [if_pos ⟨rfl, by simp⟩] at h
    cases h
  · rw [if_neg e] at h
    have h : Except.error pre.length = (Except.error i : Except Nat (List PyData)) := h
    cases h
    rfl
/-- the last end left out -/
theorem read_open {t z : Str} {pre : List Str} {i : Nat} (hp : ∀ x ∈ pre, x ∈ hs.map handT) (hn : pre.length ≤ 4) (et : cp t = fl pre ++ cp z) (hz : z ∈ hs.map handT) (h : readT t = .error i) : i = pre.length := by
  obtain ⟨l1, l2, l3⟩ := lines_ok h4 hh
  rw [read_lines et (fun p hm => l2 p (hp p hm)) (l2 z hz)] at h
  have g := readL_go (L := pre) (r := []) (i := 0) (acc := []) (fun x hx => l1 x (hp x hx)) (by omega)
  rw [List.append_nil, List.nil_append] at g
  rw [g] at h
  have h : (if z = "" ∧ pre.map handP ≠ [] then Except.ok (pre.map handP) else Except.error (pre.map handP).length) = Except.error i := h
  by_cases e : z = ("" : Str) ∧ pre.map handP ≠ []
  · rw [if_pos e] at h
    cases h
  · rw [if_neg e, List.length_map] at h
    cases h
    rfl
end
/-! ### where a sign stands -/
theorem fl_at : ∀ {L : List Str} {k : Nat}, k < (fl L).length → ∃ pre l post o, L = pre ++ [l] ++ post ∧ k = (fl pre).length + o ∧ o ≤ (cp l).length
  | [], k, h => by cases h
  | l :: r, k, h => by
    have e : fl (l :: r) = (cp l ++ [10]) ++ fl r := by
      unfold fl
      rw [List.flatMap_cons]
    by_cases c : k ≤ (cp l).length
    · exact ⟨[], l, r, k, rfl, by show k = 0 + k; omega, c⟩
    · rw [e, List.length_append, List.length_append, List.length_singleton] at h
      obtain ⟨pre, l', post, o, e1, e2, e3⟩ := fl_at (L := r) (k := k - ((cp l).length + 1)) (by omega)
      refine ⟨l :: pre, l', post, o, by rw [e1]; rfl, ?_, e3⟩
      have e4 : fl (l :: pre) = (cp l ++ [10]) ++ fl pre := by
        unfold fl
        rw [List.flatMap_cons]
      rw [e4, List.length_append, List.length_append, List.length_singleton]
      omega
theorem fl_app (a b : List Str) : fl (a ++ b) = fl a ++ fl b := by
  unfold fl
  rw [List.flatMap_append]
theorem fl_one (l : Str) : fl [l] = cp l ++ [10] := by
  unfold fl
  simp
theorem fl_count : ∀ {L : List Str}, (∀ l ∈ L, 10 ∉ cp l) → (fl L).count 10 = L.length
  | [], _ => rfl
  | l :: r, h => by
    have e : fl (l :: r) = (cp l ++ [10]) ++ fl r := by
      unfold fl
      rw [List.flatMap_cons]
    rw [e, List.count_append, List.count_append, fl_count (fun x hx => h x (List.mem_cons_of_mem _ hx)), List.count_eq_zero_of_not_mem (h l List.mem_cons_self), List.length_cons]
    show 0 + 1 + r.length = r.length + 1
    omega
end G341

set_option Elab.async false
set_option linter.all false
set_option maxRecDepth 100000
/-! a sign changed -/
namespace G341
open PySem PySem.Spec PyProof.Rows L2
theorem count_lines {x z : Str} {pre : List Str} (e : cp x = fl pre ++ cp z) (h : ∀ p ∈ pre, 10 ∉ cp p) (hz : 10 ∉ cp z) : Txt.count x "\n" = ((pre.length : Nat) : Int) := by
  have s := text_split e h hz
  rw [nl_S] at s ⊢
  have l := PyProof.Rows.split_len x 10
  have c := PyProof.Rows.count_cnt x 10
  have s : Txt.split x ⟨#[10]⟩ = pre ++ [z] := s
  rw [s, List.length_append, List.length_singleton] at l
  have c : Txt.count x ⟨#[10]⟩ = cnt 10 x.cps.toList := c
  show Txt.count x ⟨#[10]⟩ = _
  rw [c]
  have l : ((pre.length + 1 : Nat) : Int) = 1 + cnt 10 x.cps.toList := l
  omega
section
variable {hs : List PyData} (h4 : hs.length ≤ 4) (hh : ∀ h ∈ hs, HandC h)
include h4 hh
theorem bent_law {k i : Nat} (hk : k < (cp (progT (.tuple hs))).length) {sg : List Nat} (h10 : 10 ∉ sg) {late : Str} (el : cp late = (cp (progT (.tuple hs))).take k ++ sg ++ (cp (progT (.tuple hs))).drop (k + 1)) (h : readT late = .error i) :
    ((i : Nat) : Int) = Txt.count (SX.S ((cp (progT (.tuple hs))).take k)) "\n" ∨ ((cp (progT (.tuple hs)))[k]? = some 10 ∧ sg ≠ []) := by
  obtain ⟨l1, l2, l3⟩ := lines_ok h4 hh
  rw [progT_cp] at hk el ⊢
  obtain ⟨pre, l, post, o, eL, ek, ho⟩ := fl_at hk
  have len : pre.length + post.length + 1 = hs.length := by
    have y := congrArg List.length eL
    rw [List.length_map, List.length_append, List.length_append, List.length_singleton] at y
    omega
  have hpre : ∀ x ∈ pre, x ∈ hs.map handT := fun x hx => by
    rw [eL]
    exact List.mem_append_left _ (List.mem_append_left _ hx)
  have hl : l ∈ hs.map handT := by
    rw [eL]
    simp
  have hpost : ∀ x ∈ post, x ∈ hs.map handT := fun x hx => by
    rw [eL]
    exact List.mem_append_right _ hx
  have nl := l2 l hl
  have efl : fl (hs.map handT) = fl pre ++ (cp l ++ [10] ++ fl post) := by
    rw [eL, fl_app, fl_app, fl_one, List.append_assoc]
  have et : (fl (hs.map handT)).take k = fl pre ++ (cp l).take o := by
    rw [efl, ek, List.take_length_add_append, List.append_assoc, List.take_append_of_le_length ho]
  have ed : (fl (hs.map handT)).drop (k + 1) = (cp l ++ [10] ++ fl post).drop (o + 1) := by
    rw [efl, ek, Nat.add_assoc, List.drop_length_add_append]
  have ec : Txt.count (SX.S ((fl (hs.map handT)).take k)) "\n" = ((pre.length : Nat) : Int) := by
    refine count_lines (z := SX.S ((cp l).take o)) ?_ (fun p hp => l2 p (hpre p hp)) ?_
    · rw [cp_S, cp_S, et]
    · rw [cp_S]
      exact fun hm => nl (List.mem_of_mem_take hm)
  rw [ec]
  rw [et, ed] at el
  by_cases lt : o < (cp l).length
  · left
    have e2 : (cp l ++ [10] ++ fl post).drop (o + 1) = (cp l).drop (o + 1) ++ [10] ++ fl post := by
      rw [List.append_assoc, List.drop_append_of_le_length (by omega), List.append_assoc]
    rw [e2] at el
    have y := read_bent h4 hh (t := late) (z := "") (pre := pre) (post := post) (l := SX.S ((cp l).take o ++ sg ++ (cp l).drop (o + 1))) hpre hpost (by omega) (by
      rw [el, fl_app, fl_app, fl_one, cp_S ((cp l).take o ++ sg ++ (cp l).drop (o + 1))]
      show _ = _ ++ []
      simp only [List.append_assoc, List.append_nil]) (by
      rw [cp_S]
      intro hm
      rcases List.mem_append.mp hm with hm | hm
      · rcases List.mem_append.mp hm with hm | hm
        · exact nl (List.mem_of_mem_take hm)
        · exact h10 hm
      · exact nl (List.mem_of_mem_drop hm)) rfl h
    rw [y]
  · have eo : o = (cp l).length := by omega
    have e2 : (cp l ++ [10] ++ fl post).drop (o + 1) = fl post := by
      rw [eo, show (cp l).length + 1 = (cp l ++ [10]).length by simp, List.drop_left]
    rw [e2, eo, List.take_length] at el
    by_cases hsg : sg = []
    · left
      subst hsg
      rw [List.append_nil] at el
      cases post with
      | nil =>
        have y := read_open h4 hh (t := late) (z := l) (pre := pre) hpre (by omega) (by rw [el]; show _ ++ _ ++ [] = _; simp) hl h
        rw [y]
      | cons p1 ps =>
        rw [List.length_cons] at len
        have np := l2 p1 (hpost p1 (by simp))
        have y := read_bent h4 hh (t := late) (z := "") (pre := pre) (post := ps) (l := l ++ p1) hpre (fun x hx => hpost x (List.mem_cons_of_mem _ hx)) (by omega) (by
          rw [el, fl_app, fl_app, fl_one, cp_cat, show p1 :: ps = [p1] ++ ps from rfl, fl_app, fl_one]
          show _ = _ ++ []
          simp) (by
          rw [cp_cat]
          intro hm
          rcases List.mem_append.mp hm with hm | hm
          · exact nl hm
          · exact np hm) rfl h
        rw [y]
    · right
      refine ⟨?_, hsg⟩
      rw [efl, ek, eo, List.getElem?_append_right (by omega), Nat.add_sub_cancel_left, List.append_assoc, List.getElem?_append_right (Nat.le_refl _), Nat.sub_self]
      rfl
end
/-! ### the law's fixed texts -/
def fixT : List (Str × Nat) := [("", 0), ("\n\n\n\n\n", 4), ("fence\n fence\n", 1), ("fence; \n", 0), ("put 0 = 4\n", 0), ("r3 = get 0\n", 0), ("only r0 = 0: 1\n", 0), ("only r0 = 0: 1; fence\n\nput 00 = 1\n", 2), ("give 1 = 0\n", 0)]
def isErr (t : Str) (i : Nat) : Bool := match readT t with
  | .error j => j == i
  | .ok _ => false
theorem fix_ok : (fixT.all fun e => isErr e.1 e.2) = true := by decide +kernel
theorem err_of {t : Str} {i : Nat} (h : isErr t i = true) : readT t = .error i := by
  unfold isErr at h
  cases e : readT t with
  | error j =>
    rw [e] at h
    have h : (j == i) = true := h
    rw [beq_iff_eq] at h
    rw [h]
  | ok a => rw [e] at h; cases h
end G341

set_option Elab.async false
set_option linter.all false
set_option maxRecDepth 100000
/-! the law -/
namespace G341
open PySem PySem.Spec PyProof.Rows L2
section
variable {X : Cx}
theorem ps_imp {st : Stmt} {t t' : TS} (h : PS X st t) (i : ∀ D σ H, t' D σ H → t D σ H) : PS X st t' := ⟨fun pins s σ H D I z => h.run pins s σ H D I (i D σ H z)⟩
theorem op_mulS : OpR X (binaryOp .Mult) (fun x y H Q => ∃ z n, x = .str z ∧ y = .int n ∧ z.length ≤ 16 ∧ 0 ≤ n ∧ n ≤ 1000 ∧ Q (.str (Txt.mul z n)) H) := by
  intro pins s σ H x y v u Q I rx ry h
  obtain ⟨z, n, rfl, rfl, hz, h0, h1, q⟩ := h
  obtain ⟨t, rfl⟩ := rx
  obtain ⟨t', rfl⟩ := ry
  exact SB.mul (mulOk_of 16 1048576 hz (by omega) (by omega) (by decide) (by decide)) fun t2 k => ⟨.str _, H, I.tok _, ⟨t2, rfl⟩, q⟩
end
/-- if _law_turn == 2: the program gets an empty hand -/
def tBend (K : PySem.W.Frag) : TS := fun D σ H => ∃ (v : V) (d : PyData) (n : Int), σ[1]? = some (some (.int n)) ∧ σ[2]? = some (some v) ∧ Dp K H v d ∧ ProgC d ∧ ∀ v' d' H', Same H H' → Dp K H' v' d' → ProgC d' → D.nx (σ.set 2 (some v')) H'
section
variable {K : PySem.W.Frag} {H : Hp} {Q : VK}
theorem catA_dat {x y : V} {ds es : List PyData} (hx : Dp K H x (.tuple ds)) (hy : Dp K H y (.tuple es)) (l : ds.length + es.length ≤ 1000) (q : ∀ v H', Same H H' → Dp K H' v (.tuple (ds ++ es)) → Q v H') : rCatA K x y H Q := by
  cases hx with
  | tup qx rx =>
    cases hy with
    | tup qy ry =>
      rename_i a xs b ys
      have l1 := dps_len rx
      have l2 := dps_len ry
      refine ⟨a, b, xs, ys, rfl, rfl, qx, qy, by rw [sizeLine_eq]; omega, fun e => ?_, fun _ e => ?_, fun _ _ p hp => ?_⟩
      · subst e
        cases rx
        exact q _ H (Same.refl _) (.tup qy ry)
      · subst e
        cases ry
        rw [List.append_nil] at q
        exact q _ H (Same.refl _) (.tup qx rx)
      · exact q _ _ (same_up hp) (.tup (.inl (.inl upd_same)) (dps_same (same_up hp) (dps_app rx ry)))
theorem slT_dat {x : V} {ds : List PyData} {k : Nat} (hx : Dp K H x (.tuple ds)) (hk : k ≤ ds.length) (q : ∀ v H', Same H H' → Dp K H' v (.tuple (ds.take k)) → Q v H') : rSlA K x none (some (k : Int)) H Q := by
  cases hx with
  | tup qx rx =>
    rename_i a xs
    have l1 := dps_len rx
    refine ⟨a, xs, rfl, qx, fun ⟨_, e⟩ => ?_, fun _ p hp => ?_⟩
    · rw [HT.sIx_nat] at e
      have ek : k = ds.length := by omega
      subst ek
      rw [List.take_length] at q
      exact q _ H (Same.refl _) (.tup qx rx)
    · have e : cutV xs none (some (k : Int)) = xs.take k := by
        unfold cutV
        rw [HT.sIx_nat, HT.sIx_none]
        rw [Nat.min_eq_left (by omega)]
        simp
      rw [e]
      exact q _ _ (same_up hp) (.tup (.inl (.inl upd_same)) (dps_same (same_up hp) (dps_take k rx)))
theorem slM_dat {x : V} {ds : List PyData} (hx : Dp K H x (.tuple ds)) (hk : 1 ≤ ds.length) (q : ∀ v H', Same H H' → Dp K H' v (.tuple ((ds.drop 1).take 2)) → Q v H') : rSlA K x (some 1) (some 3) H Q := by
  cases hx with
  | tup qx rx =>
    rename_i a xs
    have l1 := dps_len rx
    have e1 : HT.sIx xs.length 0 (some 1) = 1 := by
      rw [show (some (1 : Int)) = some ((1 : Nat) : Int) from rfl, HT.sIx_nat, Nat.min_eq_left (by omega)]
    have e3 : HT.sIx xs.length xs.length (some 3) = min 3 xs.length := by
      rw [show (some (3 : Int)) = some ((3 : Nat) : Int) from rfl, HT.sIx_nat]
    refine ⟨a, xs, rfl, qx, fun ⟨e, _⟩ => ?_, fun _ p hp => ?_⟩
    · rw [e1] at e
      cases e
    · have e : cutV xs (some 1) (some 3) = (xs.drop 1).take 2 := by
        unfold cutV
        rw [e1, e3]
        by_cases h : 3 ≤ xs.length
        · rw [Nat.min_eq_left h]
        · rw [Nat.min_eq_right (by omega), List.take_of_length_le (by rw [List.length_drop]; omega), List.take_of_length_le (by rw [List.length_drop]; omega)]
      rw [e]
      exact q _ _ (same_up hp) (.tup (.inl (.inl upd_same)) (dps_same (same_up hp) (dps_take 2 (dps_drop 1 rx))))
end
theorem empty_hand : HandC (.tuple []) := ⟨[], rfl, Nat.zero_le _, fun j r e => by simp at e⟩
theorem bend_imp {K : PySem.W.Frag} (D : Ends) (σ : L2.St) (H : Hp) (h : tBend K D σ H) :
    tIfS (tTest (tOp rEq (tVar 1) (tC (.int 2)))) (tAsg (tOp (rCatA K) (tOp (rCatA K) (tSl (rSlA K) (tVar 2) tNoPart (tPart (tC (.int 1)))) (tTup (tCons (tTup tNil) tNil))) (tSl (rSlA K) (tVar 2) (tPart (tC (.int 1))) (tPart (tC (.int 3))))) (gName 2)) tNext D σ H := by
  obtain ⟨v, d, n, e1, e2, hd, hp, q⟩ := h
  obtain ⟨hs, rfl, n1, n4, hh⟩ := id hp
  refine ⟨_, e1, rfl, _, rfl, ite2 (fun _ => ?_) (fun _ => ?_)⟩
  · refine ⟨_, e2, 1, rfl, slT_dat (k := 1) hd n1 fun v1 H1 s1 d1 => ?_⟩
    refine ⟨Nat.zero_le _, fun z hz => ⟨by show (1 : Nat) ≤ sizeLine; decide, fun z2 hz2 => ?_⟩⟩
    have s2 := same_up (o := .tup []) hz
    have c2 : Dp K (upd H1 z (.tup [])) (.ref z) (.tuple []) := .tup (.inl (.inl upd_same)) .nil
    generalize upd H1 z (.tup []) = H2 at s2 c2 hz2
    have s3 := same_up (o := .tup [.ref z]) hz2
    refine catA_dat (dp_same (s2.trans s3) d1) (.tup (.inl (.inl upd_same)) (.cons (dp_same s3 c2) .nil)) (by rw [List.length_take, List.length_singleton]; omega) fun v4 H4 s4 d4 => ?_
    have s14 := ((s1.trans s2).trans s3).trans s4
    refine ⟨_, e2, _, rfl, _, rfl, slM_dat (dp_same s14 hd) n1 fun v5 H5 s5 d5 => ?_⟩
    refine catA_dat (dp_same s5 d4) d5 (by rw [List.length_append, List.length_take, List.length_singleton, List.length_take, List.length_drop]; omega) fun v6 H6 s6 d6 => ?_
    refine q v6 _ H6 ((s14.trans s5).trans s6) d6 ⟨_, rfl, ?_, ?_, fun h hm => ?_⟩
    · rw [List.length_append, List.length_append, List.length_singleton]
      omega
    · rw [List.length_append, List.length_append, List.length_singleton, List.length_take, List.length_take, List.length_drop]
      omega
    · rcases List.mem_append.mp hm with hm | hm
      · rcases List.mem_append.mp hm with hm | hm
        · exact hh h (List.mem_of_mem_take hm)
        · rw [List.mem_singleton] at hm
          subst hm
          exact empty_hand
      · exact hh h (List.mem_of_mem_drop (List.mem_of_mem_take hm))
  · have z := q v _ H (Same.refl _) hd hp
    have es : σ.set 2 (some v) = σ := by
      apply List.ext_getElem?
      intro i
      rw [List.getElem?_set]
      by_cases hi : 2 = i
      · subst hi
        rw [if_pos rfl, if_pos (List.getElem?_eq_some_iff.mp e2).1, e2]
      · rw [if_neg hi]
    rw [es] at z
    exact z
theorem flt_total (f : Nat → V) : ∀ n, fltF (fun i => some (f i)) n = (List.range n).map f
  | 0 => rfl
  | n + 1 => by
    show fltF (fun i => some (f i)) n ++ [f n] = _
    rw [flt_total f n, List.range_succ, List.map_append]
    rfl
theorem prog_shp {hs : List PyData} (hh : ∀ h ∈ hs, HandC h) : Shp 3 (.tuple hs) := shp_tup fun h hm => by
  obtain ⟨rs, rfl, _, hr⟩ := hand_rows (hh h hm)
  exact shp_tup fun r hr' => by
    obtain ⟨n, h1, _⟩ := hr r hr'
    exact row_shp h1
theorem prog_to {hs : List PyData} (n1 : 1 ≤ hs.length) (n4 : hs.length ≤ 4) (hh : ∀ h ∈ hs, HandC h) : progD (.tuple hs) = true := (read_told (read_back n1 n4 hh)).2.1
theorem line_le {h : PyData} (hc : HandC h) : (∀ y ∈ (subs h).map rowT, y.length ≤ 40) ∧ (handT h).length ≤ 200 ∧ (lineT h).length ≤ 201 := by
  obtain ⟨rs, rfl, l4, hr⟩ := hand_rows hc
  have h1 : ∀ y ∈ rs.map rowT, y.length ≤ 40 := by
    intro y hy
    obtain ⟨r, hr', rfl⟩ := List.mem_map.mp hy
    obtain ⟨n, h1, h2⟩ := hr r hr'
    exact rt_len h1 (by omega)
  have z := join_le (a := "; ") h1
  rw [semi_len, List.length_map] at z
  have z2 : (handT (.tuple rs)).length ≤ 200 := by
    show (Txt.join "; " (rs.map rowT)).length ≤ 200
    omega
  refine ⟨h1, z2, ?_⟩
  show (handT (.tuple rs) ++ "\n").length ≤ 201
  rw [Str.length_append, nl_len]
  omega
theorem prog_le {hs : List PyData} (n4 : hs.length ≤ 4) (hh : ∀ h ∈ hs, HandC h) : (∀ y ∈ hs.map lineT, y.length ≤ 201) ∧ (progT (.tuple hs)).length ≤ 1000 := by
  have h1 : ∀ y ∈ hs.map lineT, y.length ≤ 201 := by
    intro y hy
    obtain ⟨h, hm, rfl⟩ := List.mem_map.mp hy
    exact (line_le (hh h hm)).2.2
  have z := join_le (a := "") h1
  rw [no_len, List.length_map] at z
  refine ⟨h1, ?_⟩
  show (Txt.join "" (hs.map lineT)).length ≤ 1000
  omega
theorem len_cp (x : Str) : (cp x).length = x.length := by simp [cp, Str.length]
theorem prog_pos {hs : List PyData} (n1 : 1 ≤ hs.length) : 0 < (cp (progT (.tuple hs))).length := by
  rw [progT_cp]
  cases hs with
  | nil => exact absurd n1 (by decide)
  | cons h r =>
    show 0 < (fl (handT h :: r.map handT)).length
    rw [show handT h :: r.map handT = [handT h] ++ r.map handT from rfl, fl_app, fl_one, List.length_append, List.length_append, List.length_singleton]
    omega
theorem cut_to (x : Str) (k : Nat) : cp (cutS x none (some (k : Int))) = (cp x).take k := by
  unfold cutS
  rw [HT.sIx_nat, HT.sIx_none]
  show ((x.cps.toList.drop 0).take (min k x.length - 0)).toArray.toList = _
  rw [List.drop_zero, Nat.sub_zero, List.toList_toArray]
  have l := len_cp x
  show (cp x).take (min k x.length) = _
  by_cases h : k ≤ x.length
  · rw [Nat.min_eq_left h]
  · rw [Nat.min_eq_right (by omega), List.take_of_length_le (by omega), List.take_of_length_le (by omega)]
theorem cut_from (x : Str) (k : Nat) : cp (cutS x (some (k : Int)) none) = (cp x).drop k := by
  unfold cutS
  rw [HT.sIx_nat, HT.sIx_none]
  show ((x.cps.toList.drop (min k x.length)).take (x.length - min k x.length)).toArray.toList = _
  rw [List.toList_toArray]
  have l := len_cp x
  show ((cp x).drop (min k x.length)).take (x.length - min k x.length) = _
  rw [List.take_of_length_le (by rw [List.length_drop]; omega)]
  by_cases h : k ≤ x.length
  · rw [Nat.min_eq_left h]
  · rw [Nat.min_eq_right (by omega), List.drop_eq_nil_of_le (by omega), List.drop_eq_nil_of_le (by omega)]
theorem cut_toI (x : Str) {i : Int} {k : Nat} (e : i = (k : Int)) : cp (cutS x none (some i)) = (cp x).take k := by
  subst e
  exact cut_to x k
theorem cut_fromI (x : Str) {i : Int} {k : Nat} (e : i = (k : Int)) : cp (cutS x (some i) none) = (cp x).drop k := by
  subst e
  exact cut_from x k
theorem cut_last (x : Str) : cp (cutS x none (some (-1))) = (cp x).take ((cp x).length - 1) := by
  unfold cutS
  rw [HT.sIx_none]
  show ((x.cps.toList.drop 0).take ((if (-1 : Int) < 0 then ((-1 : Int) + (x.length : Int)).toNat else min (-1 : Int).toNat x.length) - 0)).toArray.toList = _
  rw [List.drop_zero, Nat.sub_zero, List.toList_toArray, if_pos (by decide)]
  have l := len_cp x
  show (cp x).take _ = _
  congr 1
  omega
def signsV : List V := [.str "#", .str " ", .str "", .str "9"]
theorem sign_in {m : Nat} {x : V} (h : signsV[m]? = some x) : ∃ sg : Str, x = .str sg ∧ 10 ∉ cp sg ∧ sg.length ≤ 1 := by
  have z := List.mem_of_getElem? h
  unfold signsV at z
  rw [List.mem_cons, List.mem_cons, List.mem_cons, List.mem_singleton] at z
  rcases z with rfl | rfl | rfl | rfl
  · exact ⟨_, rfl, by decide +kernel, by decide +kernel⟩
  · exact ⟨_, rfl, by decide +kernel, by decide +kernel⟩
  · exact ⟨_, rfl, by decide +kernel, by decide +kernel⟩
  · exact ⟨_, rfl, by decide +kernel, by decide +kernel⟩
theorem pd_mul {X : Cx} {K : PySem.W.Frag} {x i j k pos pos2 pos3} : PE X (.BinOp (.Constant (.str x) j pos) .Mult (.Constant (.int i) k pos2) pos3) (fun σ H Q => (x.length ≤ 16 ∧ 0 ≤ i ∧ i ≤ 1000) ∧ tDat K (.str (Txt.mul x i)) σ H Q) :=
  pe_imp (pe_op op_mulS pe_str pe_int) fun _ H _ h => ⟨x, i, rfl, rfl, h.1.1, h.1.2.1, h.1.2.2, h.2 _ H (Same.refl _) (.str _)⟩
theorem pd_mul5 {X : Cx} {K : PySem.W.Frag} {j k pos pos2 pos3} : PE X (.BinOp (.Constant (.str "\n") j pos) .Mult (.Constant (.int 5) k pos2) pos3) (tDat K (.str "\n\n\n\n\n")) :=
  pe_imp (pd_mul (K := K)) fun _ H _ h => ⟨⟨by decide +kernel, by decide, by decide⟩, by rw [show Txt.mul "\n" 5 = "\n\n\n\n\n" by decide +kernel]; exact h⟩
def rwD (e : Str × Nat) : PyData := .tuple [.str e.1, .int (e.2 : Nat)]
def rowsA : List PyData := (fixT.take 6).map rwD
def rowsB : List PyData := (fixT.drop 6).map rwD ++ [.tuple [.none, .none]]
def idxD : List PyData := (fixT.map fun e => PyData.int (e.2 : Nat)) ++ [.none]
def dV : PyData → V
  | .int n => .int n
  | _ => .non
theorem rows_all : rowsA ++ rowsB = fixT.map rwD ++ [.tuple [.none, .none]] := by
  unfold rowsA rowsB
  rw [← List.append_assoc, ← List.map_append, List.take_append_drop]
theorem idx_dp {K : PySem.W.Frag} {H : Hp} : DpAll K H (idxD.map dV) idxD := by
  have go : ∀ l : List (Str × Nat), DpAll K H (((l.map fun e : Str × Nat => PyData.int (e.2 : Nat)) ++ [PyData.none]).map dV) ((l.map fun e : Str × Nat => PyData.int (e.2 : Nat)) ++ [PyData.none]) := by
    intro l
    induction l with
    | nil => exact .cons .non .nil
    | cons e r ih => exact .cons (.int _) ih
  exact go fixT
theorem fix_len : ∀ e ∈ fixT, e.1.length ≤ 100 := by decide +kernel
theorem row_at {k : Nat} {d : PyData} (h : (rowsA ++ rowsB)[k]? = some d) : (∃ t i, d = .tuple [.str t, .int (i : Nat)] ∧ readT t = .error i ∧ t.length ≤ 100 ∧ idxD.getD k .none = .int (i : Nat)) ∨ (d = .tuple [.none, .none] ∧ idxD.getD k .none = .none) := by
  rw [rows_all] at h
  by_cases hk : k < fixT.length
  · left
    rw [List.getElem?_append_left (by rw [List.length_map]; exact hk), List.getElem?_map, List.getElem?_eq_getElem hk] at h
    cases h
    refine ⟨_, _, rfl, err_of (List.all_eq_true.mp fix_ok _ (List.getElem_mem hk)), fix_len _ (List.getElem_mem hk), ?_⟩
    unfold idxD
    rw [List.getD_eq_getElem?_getD, List.getElem?_append_left (by rw [List.length_map]; exact hk), List.getElem?_map, List.getElem?_eq_getElem hk]
    rfl
  · right
    rw [List.getElem?_append_right (by rw [List.length_map]; omega)] at h
    have e0 : k - (fixT.map rwD).length = 0 := by
      have y := (List.getElem?_eq_some_iff.mp h).1
      rw [List.length_singleton] at y
      omega
    rw [e0] at h
    cases h
    refine ⟨rfl, ?_⟩
    unfold idxD
    rw [List.length_map] at e0
    rw [List.getD_eq_getElem?_getD, List.getElem?_append_right (by rw [List.length_map]; omega), List.length_map, e0]
    rfl
def okEq (t : Str) (d : PyData) : Bool := match readT t with
  | .ok hs => PyData.eqv (.tuple hs) d
  | .error _ => false
theorem eq_of {t : Str} {d : PyData} (h : okEq t d = true) : (∀ hs, readT t = .ok hs → PyData.eqv (.tuple hs) d = true) ∧ ∀ i, ¬ readT t = .error i := by
  unfold okEq at h
  refine ⟨fun hs e => ?_, fun i e => ?_⟩
  · rw [e] at h
    exact h
  · rw [e] at h
    cases h
def tgt1 : PyData := .tuple (List.replicate (4 : Int).toNat [PyData.tuple []]).flatten
def tgt2 : PyData := .tuple [.tuple (List.replicate (16 : Int).toNat [PyData.tuple [.str "fence"]]).flatten]
theorem eq1 : okEq (Txt.mul "\n" 4) tgt1 = true := by decide +kernel
theorem eq2 : okEq (Txt.mul "fence; " 15 ++ "fence\n") tgt2 = true := by decide +kernel
theorem dps_rep {K : PySem.W.Frag} {H : Hp} {vs : List V} {ds : List PyData} (h : DpAll K H vs ds) : ∀ n, DpAll K H (List.replicate n vs).flatten (List.replicate n ds).flatten
  | 0 => .nil
  | n + 1 => by
    rw [List.replicate_succ, List.replicate_succ, List.flatten_cons, List.flatten_cons]
    exact dps_app h (dps_rep h n)
def spLaw (K : PySem.W.Frag) : Sp := fun vs H Q _ => ∃ (a : Addr) (ns : List Int), vs = [.ref a] ∧ SqL K H a (ns.map V.int) ∧ ns.length ≤ 63 ∧ ∀ H', Q (.bl true) H'
def cs30 : Scope := match defBody (tx 30) with
  | .For _ _ (_ :: _ :: .Assign _ (.ListComp _ _ sc _) _ :: _) _ _ :: _ => sc
  | _ => defScope (tx 30)
section
variable {P : Program} {w : World} {K : PySem.W.Frag} {mg : Str → Option Value} {base : Heap}
abbrev N30 : List Str := ["_law_script", "_law_turn", "_law_program_here", "_law_lines", "_law_text", "_law_spot", "_law_drawn", "_law_at", "_law_sign", "_law_late", "_law_found", "_law_index", "_law_rows", "_law_row_here", "_law_hand", "_law_line"]
theorem sc30 : FnScope N30 ["_law_script"] (defScope (tx 30)) := ⟨rfl, rfl, rfl, by decide +kernel, rfl, by decide +kernel, by decide +kernel⟩
theorem ok_law {f fn fm fd' ft fr fl' C fI cc cda : Addr} {fd dn dm dd dt dr dl : FuncData} (F : Df K mg "law" (tx 30) ["_law_script"] f fd) (DN : Df K mg "_law_number" (tx 25) ["_law_script", "_law_at"] fn dn) (DM : Df K mg "_law_program" (tx 27) ["_law_script", "_law_at", "_law_hands", "_law_most", "_law_plain"] fm dm)
    (DD : Df K mg "_law_told" (tx 28) ["_law_row_here"] fd' dd) (DT : Df K mg "program_text" (tx 20) ["program"] ft dt) (DRd : Df K mg "read_program" (tx 23) ["text"] fr dr) (DL : Df K mg "_law_read" (tx 29) ["_law_text"] fl' dl)
    (GN : FnOk P w K mg base CX0 1 fn dn ["_law_script", "_law_at"] (spNumb K)) (GM : FnOk P w K mg base CX0 3 fm dm ["_law_script", "_law_at", "_law_hands", "_law_most", "_law_plain"] (spProgL K)) (GD : FnOk P w K mg base CX0 1 fd' dd ["_law_row_here"] (spTold K))
    (GT : FnOk P w K mg base CX0 6 ft dt ["program"] (spProgT K)) (GRd : FnOk P w K mg base (L2.CX P w) 7 fr dr ["text"] (spRead C K)) (GL : FnOk P w K mg base CX0 9 fl' dl ["_law_text"] (spLR K)) (B : Bn mg) : FnOk P w K mg base CX0 11 f fd ["_law_script"] (spLaw K) := by
  refine F.F.ok sc30 (fun vs H Q E h => ?_) (fun cdv A outer s H vs Q E hr h => ?_)
  · obtain ⟨a, ns, rfl, _⟩ := h
    rfl
  · obtain ⟨a, ns, rfl, hS, hlen, q⟩ := h
    have ru := hr.units
    refine ⟨_, (pss_cons (ps_for PassesOwn.never rfl (pi_range1 rfl B.range (pa_cons pe_int pa_nil)) (pg_name (i := 1) sc30.nd rfl (Or.inl rfl)) (pss_cons (ps_set (i := 2) sc30.nd rfl (Or.inl rfl) (pe_call GM (hr.mono (by decide)) (by rfl) DM.g DM.F.kp DM.b .nil pass0 (pa_cons (pv 0) (pa_cons (pe_op op_add pe_int (pe_op op_mul pe_int (pv 1))) (pa_cons (pe_op op_add pe_int (pe_op op_mod (pe_callTy call_int1 (by rfl) B.int PyProof.Rows.boot_int (pa_cons (pe_call GN (hr.mono (by decide)) (by rfl) DN.g DN.F.kp DN.b .nil pass0 (pa_cons (pv 0) (pa_cons (pv 1) pa_nil))) pa_nil)) pe_int)) (pa_cons pe_int (pa_cons (pe_cmpR op_eq (pv 1) pe_int (nomark _)) pa_nil)))))))
      (pss_cons (ps_imp (t' := tBend K) (ps_if (pt_cmpR op_eq (pv 1) pe_int (nomark _)) (pss_one (ps_set (i := 2) sc30.nd rfl (Or.inl rfl) (pe_op op_catA (pe_op op_catA (pe_slice sl_tupA (pv 2) po_none (po_some pe_int)) (pe_tup (pa_cons (pe_tup pa_nil) pa_nil))) (pe_slice sl_tupA (pv 2) (po_some pe_int) (po_some pe_int))))) pss_nil) bend_imp)
      (pss_cons (ps_setLc (i := 3) (own := [("_law_hand", 14)]) (g := gName 14) (tt := tYes) (te := tBM K "str" (rJoin K) (tC (.str "; ")) (tCons (tLc (iTup K (tVar 14)) (gName 13) tYes (tCall (spTold K) [] E0 (tCons (tVar 13) tNil)) [13]) tNil)) rfl sc30.nd rfl rfl rfl (pi_tup (pv 2)) (blkOk_by (N := N30) (sc := defScope (tx 30)) (by decide +kernel)) (fun _ _ _ _ _ => pg_name (i := 14) sc30.nd rfl (Or.inl rfl)) (fun _ _ _ _ _ => pts_nil)
        (fun _ _ _ _ _ => by
          refine pe_bm PySem.F.plainAttrs_str PySem.F.slot_str_join PySem.F.type_str_join mt_join pe_str (pa_cons ?_ pa_nil)
          refine pe_lc (own := [("_law_row_here", 13)]) rfl sc30.nd (pi_tup (pv 14)) (blkOk_by (N := N30) (sc := relS cs30 (defScope (tx 30))) (by decide +kernel)) (fun _ _ _ _ _ => pg_name (i := 13) sc30.nd rfl (Or.inl rfl)) (fun _ _ _ _ _ => pts_nil) ?_
          intro _ _ _ _ _
          exact pe_call GD (hr.mono (by decide)) (by rfl) DD.g DD.F.kp DD.b .nil pass0 (pa_cons (pv 13) pa_nil)))
      (pss_cons (ps_set (i := 4) sc30.nd rfl (Or.inl rfl) (pe_bm PySem.F.plainAttrs_str PySem.F.slot_str_join PySem.F.type_str_join mt_join pe_str (pa_cons
        (pe_lc (own := [("_law_line", 15)]) (g := gName 15) (tt := tYes) (te := tOp rAddS (tVar 15) (tC (.str "\n"))) rfl sc30.nd (pi_list (pv 3)) (blkOk_by (N := N30) (sc := defScope (tx 30)) (by decide +kernel)) (fun _ _ _ _ _ => pg_name (i := 15) sc30.nd rfl (Or.inl rfl)) (fun _ _ _ _ _ => pts_nil) (fun _ _ _ _ _ => by exact pe_op op_add_str (pv 15) pe_str)) pa_nil)))
      (pss_cons (ps_if (PW.pt (pw_or (pt_cmpR op_ne (pe_call GT (hr.mono (by decide)) (by rfl) DT.g DT.F.kp DT.b .nil pass0 (pa_cons (pv 2) pa_nil)) (pv 4) (nomark _)) (pw_or1 (pt_cmpR (op_neD ru) (pe_callS GRd (hr.mono (by decide)) (by rfl) DRd.g DRd.F.kp DRd.b (fun σ => passAt (takes0 (X := _)) σ) (by exact (pa_cons (pv 4) pa_nil))) (pv 2) (nomark _))))) (pss_one (ps_ret pe_bl)) pss_nil)
      (pss_cons (ps_for PassesOwn.never rfl (pi_range1 rfl B.range (pa_cons pe_int pa_nil)) (pg_name (i := 5) sc30.nd rfl (Or.inl rfl)) (pss_cons (ps_set (i := 6) sc30.nd rfl (Or.inl rfl) (pe_callTy call_int1 (by rfl) B.int PyProof.Rows.boot_int (pa_cons (pe_call GN (hr.mono (by decide)) (by rfl) DN.g DN.F.kp DN.b .nil pass0 (pa_cons (pv 0) (pa_cons (pe_op op_add (pe_op op_add pe_int (pe_op op_mul pe_int (pv 1))) (pv 5)) pa_nil))) pa_nil)))
      (pss_cons (ps_set (i := 7) sc30.nd rfl (Or.inl rfl) (pe_op op_mod (pv 6) (pe_callB call_len_str (by rfl) B.len PySem.boot_len (pa_cons (pv 4) pa_nil))))
      (pss_one (ps_for PassesOwn.never rfl (pi_tup (pe_tup (pa_cons pe_str (pa_cons pe_str (pa_cons pe_str (pa_cons pe_str pa_nil)))))) (pg_name (i := 8) sc30.nd rfl (Or.inl rfl)) (pss_cons (ps_set (i := 9) sc30.nd rfl (Or.inl rfl) (pe_op op_add_str (pe_op op_add_str (pe_slice sl_str (pv 4) po_none (po_some (pv 7))) (pv 8)) (pe_slice sl_str (pv 4) (po_some (pe_op op_add (pv 7) pe_int)) po_none)))
      (pss_cons (ps_set (i := 10) sc30.nd rfl (Or.inl rfl) (pe_call GL (hr.mono (by decide)) (by rfl) DL.g DL.F.kp DL.b .nil pass0 (pa_cons (pv 9) pa_nil)))
      (pss_cons (ps_set (i := 11) sc30.nd rfl (Or.inl rfl) (pe_bm PySem.F.plainAttrs_str PySem.F.slot_str_count PySem.F.type_str_count mt_count (pe_slice sl_str (pv 4) po_none (po_some (pv 7))) (pa_cons pe_str pa_nil)))
      (pss_one (ps_if (pt_val (pe_is (t := "tuple") (by decide) rfl B.isi rfl B.tuple (by decide +kernel) (pv 10))) (pss_one (ps_if (pt_cmpR op_ne (pe_call GT (hr.mono (by decide)) (by rfl) DT.g DT.F.kp DT.b .nil pass0 (pa_cons (pv 10) pa_nil)) (pv 9) (nomark _)) (pss_one (ps_ret pe_bl)) pss_nil)) (pss_one (ps_if (PW.pt (pw_and (pt_cmpR op_ne (pv 10) (pv 11) (nomark _)) (pw_and1 (PW.pt (pw_or (pt_cmpR op_ne (pe_ix ix_str (pv 4) (pv 7) (fun _ _ => rfl)) pe_str (nomark _)) (pw_or1 (PW.pt (pw_and (pt_cmpR op_ne (pv 10) (pe_op op_add (pv 11) pe_int) (nomark _)) (pw_and1 (pt_cmpR op_eq (pv 8) pe_str (nomark _))))))))))) (pss_one (ps_ret pe_bl)) pss_nil))))))))))))
      (pss_one (ps_if (PW.pt (pw_or (PW.pt (pw_and (pt_cmpR op_ne (pe_ix ix_list (pv 3) (pe_un un_neg pe_int) (fun _ _ => rfl)) pe_str (nomark _)) (pw_and1 (pt_cmpR op_ne (pe_call GL (hr.mono (by decide)) (by rfl) DL.g DL.F.kp DL.b .nil pass0 (pa_cons (pe_slice sl_str (pv 4) po_none (po_some (pe_un un_neg pe_int))) pa_nil)) (pe_op op_sub (pe_callB call_len_seq (by rfl) B.len PySem.boot_len (pa_cons (pv 2) pa_nil)) pe_int) (nomark _))))) (pw_or1 (pt_cmpR op_ne (pe_call GL (hr.mono (by decide)) (by rfl) DL.g DL.F.kp DL.b .nil pass0 (pa_cons (pe_op op_add_str (pv 4) pe_str) pa_nil)) (pe_callB call_len_seq (by rfl) B.len PySem.boot_len (pa_cons (pv 2) pa_nil)) (nomark _))))) (pss_one (ps_ret pe_bl)) pss_nil)))))))))
      (pss_cons (ps_set (i := 12) sc30.nd rfl (Or.inl rfl) (pe_lst (t := tDats K rowsA) (pds_cons (pd_tup (pds_cons pd_str (pds_cons pd_int pds_nil rfl) rfl) (by decide)) (pds_cons (pd_tup (pds_cons pd_mul5 (pds_cons pd_int pds_nil rfl) rfl) (by decide)) (pds_cons (pd_tup (pds_cons pd_str (pds_cons pd_int pds_nil rfl) rfl) (by decide)) (pds_cons (pd_tup (pds_cons pd_str (pds_cons pd_int pds_nil rfl) rfl) (by decide)) (pds_cons (pd_tup (pds_cons pd_str (pds_cons pd_int pds_nil rfl) rfl) (by decide)) (pds_cons (pd_tup (pds_cons pd_str (pds_cons pd_int pds_nil rfl) rfl) (by decide)) pds_nil rfl) rfl) rfl) rfl) rfl) rfl)))
      (pss_cons (ps_set (i := 12) sc30.nd rfl (Or.inl rfl) (pe_op op_cat (pv 12) (pe_lst (t := tDats K rowsB) (pds_cons (pd_tup (pds_cons pd_str (pds_cons pd_int pds_nil rfl) rfl) (by decide)) (pds_cons (pd_tup (pds_cons pd_str (pds_cons pd_int pds_nil rfl) rfl) (by decide)) (pds_cons (pd_tup (pds_cons pd_str (pds_cons pd_int pds_nil rfl) rfl) (by decide)) (pds_cons (pd_tup (pds_cons pd_non (pds_cons pd_non pds_nil rfl) rfl) (by decide)) pds_nil rfl) rfl) rfl) rfl))))
      (pss_cons (ps_if (pt_cmpR (op_neD ru) (pe_lc (own := [("_law_text", 4), ("_law_index", 11)]) (g := gTup K 2 (gCons (gName 4) (gCons (gName 11) gNil))) (tt := tYes) (te := tCall (spLR K) [] E0 (tCons (tVar 4) tNil)) rfl sc30.nd (pi_list (pv 12)) (blkOk_by (N := N30) (sc := defScope (tx 30)) (by decide +kernel)) (fun _ _ _ _ _ => by exact (pg_tup rfl (pgs_cons (pg_name (i := 4) sc30.nd rfl (.inl rfl)) (pgs_cons (pg_name (i := 11) sc30.nd rfl (.inl rfl)) pgs_nil)))) (fun _ _ _ _ _ => pts_nil) (fun _ _ _ _ _ => by exact (pe_call GL (hr.mono (by decide)) (by rfl) DL.g DL.F.kp DL.b .nil pass0 (pa_cons (pv 4) pa_nil)))) (pe_lc (own := [("_law_text", 4), ("_law_index", 11)]) (g := gTup K 2 (gCons (gName 4) (gCons (gName 11) gNil))) (tt := tYes) (te := tVar 11) rfl sc30.nd (pi_list (pv 12)) (blkOk_by (N := N30) (sc := defScope (tx 30)) (by decide +kernel)) (fun _ _ _ _ _ => by exact (pg_tup rfl (pgs_cons (pg_name (i := 4) sc30.nd rfl (.inl rfl)) (pgs_cons (pg_name (i := 11) sc30.nd rfl (.inl rfl)) pgs_nil)))) (fun _ _ _ _ _ => pts_nil) (fun _ _ _ _ _ => by exact pv 11)) (nomark _)) (pss_one (ps_ret pe_bl)) pss_nil)
      (pss_one (ps_ret (pe_and (pe_cmpR (op_eqD ru) (pe_call GL (hr.mono (by decide)) (by rfl) DL.g DL.F.kp DL.b .nil pass0 (pa_cons (pe_op op_mulS pe_str pe_int) pa_nil)) (pe_op op_repT (pe_tup (pa_cons (pe_tup pa_nil) pa_nil)) pe_int) (nomark _)) (pe_one (pe_cmpR (op_eqD ru) (pe_call GL (hr.mono (by decide)) (by rfl) DL.g DL.F.kp DL.b .nil pass0 (pa_cons (pe_op op_add_str (pe_op op_mulS pe_str pe_int) pe_str) pa_nil)) (pe_tup (pa_cons (pe_op op_repT (pe_tup (pa_cons (pe_tup (pa_cons pe_str pa_nil)) pa_nil)) pe_int) pa_nil)) (nomark _)))))))))), ?_⟩
    refine ⟨3, rfl, by decide, by decide, for_range (n := 3) (fun i σ H' => ∃ b1 b2 b3 b4 b5 b6 b7 b8 b9 b10 b11 : Option V, σ = [some (.ref a), b1, b2, b3, b4, b5, b6, b7, b8, b9, b10, b11, none, none, none, none] ∧ Same H H')
      ⟨none, none, none, none, none, none, none, none, none, none, none, rfl, Same.refl _⟩ ?_ ?_⟩
    · rintro tn σ H1 htn ⟨b1, b2, b3, b4, b5, b6, b7, b8, b9, b10, b11, rfl, s1⟩
      refine ⟨_, rfl, _, rfl, _, _, rfl, rfl, .inl ⟨by decide, by decide⟩, _, _, rfl, rfl, _, rfl, _, rfl, a, ns, _, rfl, hlen, s1.seq hS, fun n1 H2 s2 => .inl ⟨_, rfl, _, _, rfl, rfl, (by show (0 : Int) < _; decide), _, _, rfl, rfl, _, rfl, rfl, ?_⟩⟩
      have m0 : 0 ≤ n1 % 4 ∧ n1 % 4 < 4 := ⟨Int.emod_nonneg _ (by decide), Int.emod_lt_of_pos _ (by decide)⟩
      have s12 := s1.trans s2
      refine ⟨a, ns, _, _, _, rfl, hlen, s12.seq hS, by omega, by omega, fun v0 d0 H3 s3 hd0 hp0 => ?_⟩
      refine ⟨v0, d0, _, rfl, rfl, hd0, hp0, fun v d H4 s4 hd hp => ?_⟩
      have s14 := (s12.trans s3).trans s4
      obtain ⟨hs, rfl, n1', n4, hh⟩ := id hp
      obtain ⟨pl1, pl2⟩ := prog_le n4 hh
      have hpd := prog_to n1' n4 hh
      have hsh := shp_shaped (prog_shp hh) (by decide)
      have hrb := read_back n1' n4 hh
      have hlay := SeqAt.canLay_of_shaped hsh
      cases hd with
      | tup hq hds =>
        rename_i pa vs
        have ln := dps_len hds
        have P4 : Dp K H4 (.ref pa) (.tuple hs) := .tup hq hds
        obtain ⟨t, ht⟩ := hands_at hds fun i hi => by
          obtain ⟨rs, e, _⟩ := hand_rows (hh hs[i] (List.getElem_mem hi))
          exact ⟨rs, by rw [List.getD_eq_getElem?_getD, List.getElem?_eq_getElem hi]; exact e⟩
        dsimp only [tSeq, tAsg, List.map]
        refine lc_tupV (K := K) (by rfl) hq (by rw [sizeLine_eq]; omega) (fun i => .str (handT (hs.getD i .none))) ?_ ?_
        · intro i x H5 C hx s5 c
          have hi : i < vs.length := (List.getElem?_eq_some_iff.mp hx).1
          obtain ⟨hx2, hqi, hri⟩ := ht i hi
          rw [hx] at hx2
          cases hx2
          have hih : i < hs.length := by omega
          have hmem : hs[i] ∈ hs := List.getElem_mem hih
          have eg : hs.getD i .none = hs[i] := by
            rw [List.getD_eq_getElem?_getD, List.getElem?_eq_getElem hih]
            rfl
          rw [eg] at c hri
          obtain ⟨q1, q2, _⟩ := line_le (hh _ hmem)
          obtain ⟨rs, er, lr, hrow⟩ := hand_rows (hh _ hmem)
          rw [er] at c hri q1 q2
          have hri : DpAll K H4 (t i).2 rs := hri
          have li := dps_len hri
          refine ⟨by rfl, rfl, ?_⟩
          dsimp only [tCons]
          refine lc_tupV (K := K) (by rfl) (same_sqt s5 hqi) (by rw [sizeLine_eq]; omega) (fun j => .str (rowT (rs.getD j .none))) ?_ ?_
          · intro j y H6 C2 hy s6 c2
            obtain ⟨d, ed, hd⟩ := dps_get hri hy
            have eg2 : rs.getD j .none = d := by
              rw [List.getD_eq_getElem?_getD, ed]
              rfl
            obtain ⟨n, hc, hn⟩ := hrow d (List.mem_of_getElem? ed)
            rw [eg2] at c2
            exact ⟨by rfl, _, rfl, _, d, n, rfl, dp_same (s5.trans s6) hd, hc, by omega, c2⟩
          · intro D H6 s6 hD
            have eD : H6 D = some (.lst ((rs.map rowT).map V.str)) := by
              rw [hD, li, ← map_getD rowT .none rs, List.map_map]
              rfl
            have z := sum_le (ys := rs.map rowT) q1
            rw [List.length_map] at z
            exact ⟨"; ", D, rs.map rowT, rfl, rfl, .inl (.inl (.inl eD)), by rw [List.length_map, semi_len]; omega, c H6 s6⟩
        · intro LD H5 s5 hLD
          have eLD : H5 LD = some (.lst ((hs.map handT).map V.str)) := by
            rw [hLD, ln, ← map_getD handT .none hs, List.map_map]
            rfl
          -- text
          refine ⟨rfl, ?_⟩
          refine lc_fltV (wk_lst (K := K) (.inl (.inl eLD))) (fun C c => ⟨_, rfl, LD, rfl, ⟨_, .inl (.inl eLD)⟩, c⟩) (by rw [List.length_map, List.length_map, sizeLine_eq]; omega) (fun i => some (.str ((hs.map handT).getD i "" ++ "\n"))) ?_ ?_
          · intro i H6 C C2 hi s6 on
            rw [List.length_map] at hi
            have hi2 : i < hs.length := by rw [List.length_map] at hi; exact hi
            have ev : ((hs.map handT).map V.str).getD i .non = .str ((hs.map handT).getD i "") := by
              rw [List.getD_eq_getElem?_getD, List.getD_eq_getElem?_getD, List.getElem?_map, List.getElem?_eq_getElem hi]
              rfl
            have el : (hs.map handT).getD i "" = handT hs[i] := by
              rw [List.getD_eq_getElem?_getD, List.getElem?_eq_getElem hi, List.getElem_map]
              rfl
            show gName 15 (((hs.map handT).map V.str).getD i .non) _ _ _
            rw [ev, el]
            rw [el] at on
            have q2 := (line_le (hh _ (List.getElem_mem hi2))).2.1
            refine ⟨by rfl, ?_⟩
            show (if (true : Bool) = true then tOp rAddS (tVar 15) (tC (.str "\n")) _ _ C else C2 H6)
            rw [if_pos rfl]
            exact ⟨_, rfl, _, _, rfl, rfl, fitL (m := 200) (n := 1) q2 (Nat.le_of_eq nl_len) (by decide), on _ (Same.refl _)⟩
          · intro TD H6 nTD s6 hTD
            have eTD : H6 TD = some (.lst ((hs.map lineT).map V.str)) := by
              rw [hTD, flt_total, List.length_map, List.length_map]
              congr 2
              rw [← map_getD lineT .none hs, List.map_map]
              apply List.map_congr_left
              intro i hi
              have hi := List.mem_range.mp hi
              show V.str ((hs.map handT).getD i "" ++ "\n") = V.str (lineT (hs.getD i .none))
              rw [List.getD_eq_getElem?_getD, List.getD_eq_getElem?_getD, List.getElem?_map, List.getElem?_eq_getElem hi]
              rfl
            have z := sum_le (ys := hs.map lineT) pl1
            rw [List.length_map] at z
            refine ⟨"", TD, hs.map lineT, rfl, rfl, .inl (.inl (.inl eTD)), by rw [List.length_map, no_len]; omega, ?_⟩
            have s46 := s5.trans s6
            have P6 := dp_same s46 P4
            have LD6 := s6 _ _ eLD
            -- program_text(..) != text or read_program(..) != program
            refine ⟨_, rfl, _, _, rfl, P6, hsh, hpd, fun H7 s7 => ⟨_, rfl, rfl, _, rfl, iff_ (congrArg not (decide_eq_true rfl)) ?_⟩⟩
            refine ⟨_, rfl, _, rfl, .inl ⟨progT (.tuple hs), rfl, by omega, fun hs' e u H8 s8 hu => ?_, fun i e => ?_⟩⟩
            · rw [hrb] at e
              cases e
              refine ⟨_, rfl, .tuple hs, .tuple hs, hu, dp_same (s7.trans s8) P6, hsh, hsh, _, rfl, iff_ (congrArg not (SeqAt.eqv_refl _ hlay)) ?_⟩
              have s48 := (s46.trans s7).trans s8
              have hrf := read_fence n1' n4 hh
              have tpos := prog_pos (hs := hs) n1'
              have tl := len_cp (progT (.tuple hs))
              refine ⟨6, rfl, by decide, by decide, for_range (n := 6) (fun j σ H' => ∃ c5 c6 c7 c8 c9 c10 c11 : Option V, σ = [some (.ref a), some (.int (0 + (tn : Nat))), some (.ref pa), some (.ref LD), some (.str (progT (.tuple hs))), c5, c6, c7, c8, c9, c10, c11, none, none, none, none] ∧ Same H8 H')
                ⟨_, _, _, _, _, _, _, rfl, Same.refl _⟩ ?_ ?_⟩
              · rintro j σ H9 hj ⟨c5, c6, c7, c8, c9, c10, c11, rfl, s9⟩
                have s09 := s14.trans (s48.trans s9)
                refine ⟨_, rfl, _, rfl, _, _, rfl, rfl, .inl ⟨by decide, by decide⟩, _, _, rfl, rfl, _, rfl, _, _, rfl, rfl, a, ns, _, rfl, hlen, s09.seq hS, fun n2 H10 s10 => .inl ⟨_, rfl, ?_⟩⟩
                have hpos : (0 : Int) < ((progT (.tuple hs)).length : Int) := by omega
                refine ⟨_, rfl, _, rfl, (progT (.tuple hs)), rfl, by rw [sizeLine_eq]; omega, _, _, rfl, rfl, hpos, ?_⟩
                obtain ⟨k, ek⟩ : ∃ k : Nat, n2 % ((progT (.tuple hs)).length : Int) = (k : Int) := ⟨_, (Int.toNat_of_nonneg (Int.emod_nonneg _ (by omega))).symm⟩
                have kl : k < (cp (progT (.tuple hs))).length := by
                  have z := Int.emod_lt_of_pos n2 hpos
                  omega
                refine ⟨by show (4 : Nat) ≤ sizeLine; decide, fun zt hzt => ⟨zt, rfl, ⟨signsV, .inl (.inl upd_same)⟩, ?_⟩⟩
                have s11 := same_up (o := .tup [.str "#", .str " ", .str "", .str "9"]) hzt
                have c11' : (upd H10 zt (.tup [.str "#", .str " ", .str "", .str "9"])) zt = some (.tup signsV) := upd_same
                generalize upd H10 zt (.tup [.str "#", .str " ", .str "", .str "9"]) = H11 at s11 c11'
                refine for_tup (K := K) (a := zt) (xs := signsV) (fun m σ H' => ∃ c8 c9 c10 c11 : Option V, σ = [some (.ref a), some (.int (0 + (tn : Nat))), some (.ref pa), some (.ref LD), some (.str (progT (.tuple hs))), some (.int (0 + (j : Nat))), some (.int n2), some (.int (n2 % ((progT (.tuple hs)).length : Int))), c8, c9, c10, c11, none, none, none, none] ∧ Same H11 H')
                  ⟨_, _, _, _, rfl, Same.refl _⟩ (fun m σ H' _ ⟨_, _, _, _, _, s'⟩ => .inl (.inl (s' _ _ c11'))) ?_ ?_
                · rintro m x σ H12 hx ⟨c8, c9, c10, c11, rfl, s12'⟩
                  obtain ⟨sg, rfl, h10, lsg⟩ := sign_in hx
                  have s812 := ((s9.trans s10).trans s11).trans s12'
                  have lc := cutS_length (progT (.tuple hs)) none (some (n2 % ((progT (.tuple hs)).length : Int)))
                  have ld := cutS_length (progT (.tuple hs)) (some (n2 % ((progT (.tuple hs)).length : Int) + 1)) none
                  refine ⟨_, rfl, _, rfl, _, rfl, (progT (.tuple hs)), rfl, by rw [sizeLine_eq]; omega, _, rfl, _, _, rfl, rfl, fitL (m := 1000) (n := 1) (by omega) lsg (by decide), _, rfl, _, rfl, _, _, rfl, rfl, _, rfl, (progT (.tuple hs)), rfl, by rw [sizeLine_eq]; omega, _, _, rfl, rfl, fitL (m := 1001) (n := 1000) (catL (m := 1000) (n := 1) (by omega) lsg) (by omega) (by decide), ?_⟩
                  have elate : cp (cutS (progT (.tuple hs)) none (some (n2 % ((progT (.tuple hs)).length : Int))) ++ sg ++ cutS (progT (.tuple hs)) (some (n2 % ((progT (.tuple hs)).length : Int) + 1)) none) = (cp (progT (.tuple hs))).take k ++ cp sg ++ (cp (progT (.tuple hs))).drop (k + 1) := by
                    rw [cp_cat, cp_cat, cut_toI _ ek, cut_fromI _ (k := k + 1) (by rw [ek]; rfl)]
                  have ecnt : cutS (progT (.tuple hs)) none (some (n2 % ((progT (.tuple hs)).length : Int))) = SX.S ((cp (progT (.tuple hs))).take k) := by
                    rw [← S_cp (cutS (progT (.tuple hs)) none (some (n2 % ((progT (.tuple hs)).length : Int)))), cut_toI _ ek]
                  refine ⟨_, rfl, _, rfl, .inl ⟨cutS (progT (.tuple hs)) none (some (n2 % ((progT (.tuple hs)).length : Int))) ++ sg ++ cutS (progT (.tuple hs)) (some (n2 % ((progT (.tuple hs)).length : Int) + 1)) none, rfl, ?_, fun hs' e u H13 s13 hu => ?_, fun i e H13 s13 => ?_⟩⟩
                  · exact Nat.le_trans (catL (catL (m := 1000) (n := 1) (by omega) lsg) (n := 1000) (by omega)) (by decide)
                  · obtain ⟨r1, r2, r3⟩ := read_told e
                    refine ⟨_, rfl, _, rfl, _, rfl, (progT (.tuple hs)), rfl, by rw [sizeLine_eq]; omega, rfl, _, _, rfl, rfl, ?_⟩
                    refine ⟨_, rfl, isi_r hu (by decide) ⟨_, rfl, ift (by simp [isD, tyD]) ?_⟩⟩
                    refine ⟨_, rfl, _, _, rfl, hu, shp_shaped r3 (by decide), r2, fun H14 s14' => ⟨_, rfl, rfl, _, rfl, iff_ (congrArg not (decide_eq_true (by rw [r1]))) ?_⟩⟩
                    exact ⟨_, _, _, _, rfl, (s12'.trans s13).trans s14'⟩
                  · have law := bent_law n4 hh kl h10 elate e
                    rw [← ecnt] at law
                    refine ⟨_, rfl, _, rfl, _, rfl, (progT (.tuple hs)), rfl, by rw [sizeLine_eq]; omega, rfl, _, _, rfl, rfl, ?_⟩
                    refine ⟨_, rfl, isi_r (.int _) (by decide) ⟨_, rfl, iff_ (by simp [isD, tyD]) ?_⟩⟩
                    refine ⟨_, rfl, _, rfl, rfl, _, rfl, ?_⟩
                    have nx : ∃ c8 c9 c10 c11 : Option V, True := ⟨none, none, none, none, trivial⟩
                    by_cases ei : ((i : Nat) : Int) = Txt.count (cutS (progT (.tuple hs)) none (some (n2 % ((progT (.tuple hs)).length : Int)))) "\n"
                    · refine iff_ (congrArg not (decide_eq_true (by rw [ei]))) ?_
                      exact ⟨_, _, _, _, rfl, s12'.trans s13⟩
                    · refine ift (congrArg not (decide_eq_false fun z => ei (V.int.inj z))) ?_
                      rcases law with law | ⟨la, lb⟩
                      · exact absurd law ei
                      have hat : atI (cp (progT (.tuple hs))) (n2 % ((progT (.tuple hs)).length : Int)) = some 10 := by
                        rw [ek]
                        exact atI_nat la
                      refine ⟨_, rfl, _, rfl, (progT (.tuple hs)), _, 10, rfl, rfl, by rw [sizeLine_eq]; omega, hat, rfl, _, rfl, iff_ (by decide +kernel) ?_⟩
                      refine ⟨_, rfl, _, rfl, _, _, rfl, rfl, rfl, _, rfl, ite2 (fun _ => ?_) (fun _ => ?_)⟩
                      · refine ⟨_, rfl, rfl, _, rfl, iff_ (decide_eq_false fun z => lb ?_) ?_⟩
                        · rw [V.str.inj z]
                          rfl
                        · exact ⟨_, _, _, _, rfl, s12'.trans s13⟩
                      · exact ⟨_, _, _, _, rfl, s12'.trans s13⟩
                · rintro σ H12 ⟨c8, c9, c10, c11, rfl, s12'⟩
                  exact ⟨_, _, _, _, _, _, _, rfl, ((s9.trans s10).trans s11).trans s12'⟩
              · rintro σ H9 ⟨c5, c6, c7, c8, c9, c10, c11, rfl, s9⟩
                have s89 := s48.trans s9
                obtain ⟨L, z, eL⟩ : ∃ L z, hs.map handT = L ++ [z] := ⟨_, _, (List.dropLast_concat_getLast (by intro e; have y := congrArg List.length e; rw [List.length_map] at y; simp at y; subst y; exact absurd n1' (by decide))).symm⟩
                have LD9 := (s7.trans (s8.trans s9)) _ _ LD6
                have eq1 : atI ((hs.map handT).map V.str) (-1) = some (.str z) := by
                  rw [eL, List.map_append]
                  exact atI_last _ _
                refine ⟨_, rfl, 1, rfl, LD, _, _, _, rfl, rfl, .inl (.inl LD9), eq1, rfl, _, rfl, ?_⟩
                by_cases hz : z = ("" : Str)
                · refine iff_ (congrArg not (decide_eq_true (by rw [hz]))) ?_
                  exact ⟨_, rfl, _, _, rfl, rfl, fitL (m := 1000) (n := 10) pl2 (by decide +kernel) (by decide), _, rfl, .inl ⟨_, rfl, Nat.le_trans (catL pl2 (by decide +kernel : ("fence" : Str).length ≤ 10)) (by decide), fun hs' e => (by rw [hrf] at e; cases e), fun i e H' s' => ⟨_, rfl, pa, vs, rfl, .inr (same_sqt (s89.trans s') hq), rfl, _, rfl, iff_ (congrArg not (decide_eq_true (by rw [hrf] at e; cases e; rw [ln]))) ⟨_, _, _, _, _, _, _, _, _, _, _, rfl, s14.trans (s89.trans s')⟩⟩⟩⟩
                · refine ift (congrArg not (decide_eq_false fun e => hz (V.str.inj e))) ?_
                  have ecp : cp (cutS (progT (.tuple hs)) none (some (-1))) = fl L ++ cp z := by
                    rw [cut_last, progT_cp, eL, fl_app, fl_one, ← List.append_assoc, List.length_append, List.length_singleton, Nat.add_sub_cancel, List.take_left]
                  have hcut := read_cut n1' n4 hh eL hz ecp
                  refine ⟨_, rfl, 1, rfl, _, rfl, (progT (.tuple hs)), rfl, by rw [sizeLine_eq]; omega, _, rfl, .inl ⟨_, rfl, ?_, fun hs' e => (by rw [hcut] at e; cases e), fun i e H10 s10 => ?_⟩⟩
                  · have y := cutS_length (progT (.tuple hs)) none (some (-1))
                    omega
                  · rw [hcut] at e
                    cases e
                    refine ⟨_, rfl, pa, vs, rfl, .inr (same_sqt (s89.trans s10) hq), _, _, rfl, rfl, rfl, _, rfl, iff_ (congrArg not (decide_eq_true ?_)) ?_⟩
                    · show V.int _ = V.int _
                      congr 1
                      omega
                    · exact ⟨_, rfl, _, _, rfl, rfl, fitL (m := 1000) (n := 10) pl2 (by decide +kernel) (by decide), _, rfl, .inl ⟨_, rfl, Nat.le_trans (catL pl2 (by decide +kernel : ("fence" : Str).length ≤ 10)) (by decide), fun hs' e => (by rw [hrf] at e; cases e), fun i e H' s' => ⟨_, rfl, pa, vs, rfl, .inr (same_sqt ((s89.trans s10).trans s') hq), rfl, _, rfl, iff_ (congrArg not (decide_eq_true (by rw [hrf] at e; cases e; rw [ln]))) ⟨_, _, _, _, _, _, _, _, _, _, _, rfl, s14.trans ((s89.trans s10).trans s')⟩⟩⟩⟩
            · rw [hrb] at e
              cases e
    · rintro σ H1 ⟨b1, b2, b3, b4, b5, b6, b7, b8, b9, b10, b11, rfl, s1⟩
      intro xs1 H2 s2 hx1
      refine ⟨by rw [dps_len hx1, sizeLine_eq]; decide, fun l1 hl1 => ?_⟩
      have s3 := same_up (o := .lst xs1) hl1
      have c3 : (upd H2 l1 (.lst xs1)) l1 = some (.lst xs1) := upd_same
      have hx1 := dps_same s3 hx1
      generalize upd H2 l1 (.lst xs1) = H3 at s3 c3 hx1
      refine ⟨_, rfl, ?_⟩
      intro xs2 H4 s4 hx2
      refine ⟨by rw [dps_len hx2, sizeLine_eq]; decide, fun l2 hl2 => ?_⟩
      have s5 := same_up (o := .lst xs2) hl2
      have c5 : (upd H4 l2 (.lst xs2)) l2 = some (.lst xs2) := upd_same
      have hx2 := dps_same s5 hx2
      generalize upd H4 l2 (.lst xs2) = H5 at s5 c5 hx2
      refine ⟨l1, l2, xs1, xs2, rfl, rfl, (s4.trans s5) _ _ c3, c5, by rw [dps_len hx1, dps_len hx2, sizeLine_eq]; decide, fun l3 hl3 => ?_⟩
      have s6 := same_up (o := .lst (xs1 ++ xs2)) hl3
      have c6 : (upd H5 l3 (.lst (xs1 ++ xs2))) l3 = some (.lst (xs1 ++ xs2)) := upd_same
      have hx4 := dps_same s6 (dps_app (dps_same (s4.trans s5) hx1) hx2)
      generalize upd H5 l3 (.lst (xs1 ++ xs2)) = H6 at s6 c6 hx4
      have l10 : (xs1 ++ xs2).length = 10 := by rw [dps_len hx4]; decide
      have fin1 : ∀ (D : Addr) (H' : Hp), H' D = some (.lst (fltF (fun k => some (dV (idxD.getD k .none))) (xs1 ++ xs2).length)) → Dp K H' (.ref D) (.list idxD) := fun D H' hD => by
        rw [flt_total, l10, show (10 : Nat) = idxD.length by decide +kernel, map_getD dV .none idxD] at hD
        exact .lst (.inl (.inl hD)) idx_dp
      dsimp only [gName, tSeq, tIfS, tTest, tOp, List.map]
      refine lc_fltV (wk_lst (K := K) (.inl (.inl c6))) (fun C c => ⟨_, rfl, l3, rfl, ⟨_, .inl (.inl c6)⟩, c⟩) (by rw [l10]; decide) (fun k => some (dV (idxD.getD k .none))) ?_ ?_
      · intro k H5 C C2 hk s5 on
        obtain ⟨d, ed, hd⟩ := dps_get hx4 (List.getElem?_eq_getElem hk)
        have ev : (xs1 ++ xs2).getD k .non = (xs1 ++ xs2)[k] := by
          rw [List.getD_eq_getElem?_getD, List.getElem?_eq_getElem hk]
          rfl
        have hd5 := dp_same s5 hd
        show gTup K 2 (gCons (gName 4) (gCons (gName 11) gNil)) ((xs1 ++ xs2).getD k .non) _ _ _
        rw [ev]
        generalize (xs1 ++ xs2)[k] = x at hd5
        rcases row_at ed with ⟨t, i, rfl, er, lt, ei⟩ | ⟨rfl, ei⟩
        · cases hd5 with
          | tup hqx hdx =>
            rename_i bx vx
            obtain ⟨x0, xr, rfl, g0, gr⟩ := dps_c hdx
            obtain ⟨x1, xr1, rfl, g1, gr1⟩ := dps_c gr
            cases gr1
            cases dp_str g0
            cases dp_int g1
            rw [ei] at on
            refine ⟨bx, _, rfl, hqx, rfl, _, _, rfl, _, _, rfl, rfl, by rfl, ?_⟩
            show (if (true : Bool) = true then tCall (spLR K) [] E0 (tCons (tVar 4) tNil) _ _ C else C2 H5)
            rw [if_pos rfl]
            exact ⟨_, rfl, _, rfl, .inl ⟨t, rfl, by omega, fun hs e => (by rw [er] at e; cases e), fun i' e H6 s6 => (by rw [er] at e; cases e; exact on H6 s6)⟩⟩
        · cases hd5 with
          | tup hqx hdx =>
            rename_i bx vx
            obtain ⟨x0, xr, rfl, g0, gr⟩ := dps_c hdx
            obtain ⟨x1, xr1, rfl, g1, gr1⟩ := dps_c gr
            cases gr1
            cases g0
            cases g1
            rw [ei] at on
            refine ⟨bx, _, rfl, hqx, rfl, _, _, rfl, _, _, rfl, rfl, by rfl, ?_⟩
            show (if (true : Bool) = true then tCall (spLR K) [] E0 (tCons (tVar 4) tNil) _ _ C else C2 H5)
            rw [if_pos rfl]
            exact ⟨_, rfl, _, rfl, .inr ⟨rfl, fun H6 s6 => on H6 s6⟩⟩
      · intro D1 H7 nD1 s7 hD1
        have c7 := s7 _ _ c6
        have hx5' := dps_same s7 hx4
        refine lc_fltV (wk_lst (K := K) (.inl (.inl c7))) (fun C c => ⟨_, rfl, l3, rfl, ⟨_, .inl (.inl c7)⟩, c⟩) (by rw [l10]; decide) (fun k => some (dV (idxD.getD k .none))) ?_ ?_
        · intro k H5 C C2 hk s5 on
          obtain ⟨d, ed, hd⟩ := dps_get hx5' (List.getElem?_eq_getElem hk)
          have ev : (xs1 ++ xs2).getD k .non = (xs1 ++ xs2)[k] := by
            rw [List.getD_eq_getElem?_getD, List.getElem?_eq_getElem hk]
            rfl
          have hd5 := dp_same s5 hd
          show gTup K 2 (gCons (gName 4) (gCons (gName 11) gNil)) ((xs1 ++ xs2).getD k .non) _ _ _
          rw [ev]
          generalize (xs1 ++ xs2)[k] = x at hd5
          rcases row_at ed with ⟨t, i, rfl, er, lt, ei⟩ | ⟨rfl, ei⟩
          · cases hd5 with
            | tup hqx hdx =>
              rename_i bx vx
              obtain ⟨x0, xr, rfl, g0, gr⟩ := dps_c hdx
              obtain ⟨x1, xr1, rfl, g1, gr1⟩ := dps_c gr
              cases gr1
              cases dp_str g0
              cases dp_int g1
              rw [ei] at on
              refine ⟨bx, _, rfl, hqx, rfl, _, _, rfl, _, _, rfl, rfl, by rfl, ?_⟩
              show (if (true : Bool) = true then tVar 11 _ _ C else C2 H5)
              rw [if_pos rfl]
              exact ⟨_, rfl, on _ (Same.refl _)⟩
          · cases hd5 with
            | tup hqx hdx =>
              rename_i bx vx
              obtain ⟨x0, xr, rfl, g0, gr⟩ := dps_c hdx
              obtain ⟨x1, xr1, rfl, g1, gr1⟩ := dps_c gr
              cases gr1
              cases g0
              cases g1
              rw [ei] at on
              refine ⟨bx, _, rfl, hqx, rfl, _, _, rfl, _, _, rfl, rfl, by rfl, ?_⟩
              show (if (true : Bool) = true then tVar 11 _ _ C else C2 H5)
              rw [if_pos rfl]
              exact ⟨_, rfl, on _ (Same.refl _)⟩
        · intro D2 H8 nD2 s8 hD2
          refine ⟨.list idxD, .list idxD, fin1 D1 H8 (s8 _ _ hD1), fin1 D2 H8 hD2, by decide +kernel, by decide +kernel, _, rfl, iff_ (by decide +kernel) ?_⟩
          obtain ⟨a1, a2⟩ := eq_of eq1
          obtain ⟨a3, a4⟩ := eq_of eq2
          refine ⟨"\n", 4, rfl, rfl, by decide +kernel, by decide, by decide, _, rfl, .inl ⟨_, rfl, by decide +kernel, fun hs1 e1 u1 H9 s9 hu1 => ?_, fun i e => absurd e (a2 i)⟩⟩
          refine ⟨Nat.zero_le _, fun z1 hz1 => ⟨by show (1 : Nat) ≤ sizeLine; decide, fun z2 hz2 => ?_⟩⟩
          have s10 := same_up (o := .tup []) hz1
          have d10 : Dp K (upd H9 z1 (.tup [])) (.ref z1) (.tuple []) := .tup (.inl (.inl upd_same)) .nil
          generalize upd H9 z1 (.tup []) = H10 at s10 d10 hz2
          have s11 := same_up (o := .tup [.ref z1]) hz2
          have c11 : (upd H10 z2 (.tup [.ref z1])) z2 = some (.tup [.ref z1]) := upd_same
          generalize upd H10 z2 (.tup [.ref z1]) = H11 at s11 c11
          refine ⟨z2, 4, [.ref z1], rfl, rfl, .inl (.inl c11), by simp, by decide, by decide, by show (1 : Nat) ≤ 1000; decide, fun z3 hz3 => ?_⟩
          have s12 := same_up (o := .tup (List.replicate (4 : Int).toNat [.ref z1]).flatten) hz3
          refine ⟨.tuple hs1, tgt1, dp_same ((s10.trans s11).trans s12) hu1, .tup (.inl (.inl upd_same)) (dps_rep (.cons (dp_same (s11.trans s12) d10) .nil) _), shp_shaped (read_told e1).2.2 (by decide), by decide +kernel, _, rfl, ift (a1 hs1 e1) ?_⟩
          generalize upd H11 z3 (.tup (List.replicate (4 : Int).toNat [.ref z1]).flatten) = H12
          refine ⟨"fence; ", 15, rfl, rfl, by decide +kernel, by decide, by decide, _, _, rfl, rfl, by decide +kernel, _, rfl, .inl ⟨_, rfl, by decide +kernel, fun hs2 e2 u2 H13 s13 hu2 => ?_, fun i e => absurd e (a4 i)⟩⟩
          refine ⟨by show (1 : Nat) ≤ sizeLine; decide, fun z4 hz4 => ⟨by show (1 : Nat) ≤ sizeLine; decide, fun z5 hz5 => ?_⟩⟩
          have s14 := same_up (o := .tup [.str "fence"]) hz4
          have d14 : Dp K (upd H13 z4 (.tup [.str "fence"])) (.ref z4) (.tuple [.str "fence"]) := .tup (.inl (.inl upd_same)) (.cons (.str _) .nil)
          generalize upd H13 z4 (.tup [.str "fence"]) = H14 at s14 d14 hz5
          have s15 := same_up (o := .tup [.ref z4]) hz5
          have c15 : (upd H14 z5 (.tup [.ref z4])) z5 = some (.tup [.ref z4]) := upd_same
          generalize upd H14 z5 (.tup [.ref z4]) = H15 at s15 c15
          refine ⟨z5, 16, [.ref z4], rfl, rfl, .inl (.inl c15), by simp, by decide, by decide, by show (1 : Nat) ≤ 1000; decide, fun z6 hz6 => ?_⟩
          have s16 := same_up (o := .tup (List.replicate (16 : Int).toNat [.ref z4]).flatten) hz6
          have d16 : Dp K (upd H15 z6 (.tup (List.replicate (16 : Int).toNat [.ref z4]).flatten)) (.ref z6) (.tuple (List.replicate (16 : Int).toNat [PyData.tuple [.str "fence"]]).flatten) := .tup (.inl (.inl upd_same)) (dps_rep (.cons (dp_same (s15.trans s16) d14) .nil) _)
          generalize upd H15 z6 (.tup (List.replicate (16 : Int).toNat [.ref z4]).flatten) = H16 at s16 d16
          refine ⟨by show (1 : Nat) ≤ sizeLine; decide, fun z7 hz7 => ?_⟩
          have s17 := same_up (o := .tup [.ref z6]) hz7
          refine ⟨.tuple hs2, tgt2, dp_same (((s14.trans s15).trans s16).trans s17) hu2, .tup (.inl (.inl upd_same)) (.cons (dp_same s17 d16) .nil), shp_shaped (read_told e2).2.2 (by decide), by decide +kernel, ?_⟩
          rw [a3 hs2 e2]
          exact q _
end
end G341


set_option Elab.async false
set_option linter.all false
set_option maxRecDepth 100000
/-! the head and the end -/
namespace G341
open PySem PySem.Spec PyProof.Rows L2
theorem df_mk {K : PySem.W.Frag} {h : Heap} {mg : Str → Option Value} {nm : Str} {st : Stmt} {ps : List Str} {f : Addr} {oc : Value} {od an : Option Addr} {osl : Array (Option Value)} {kV doc pm cdv ct : Value} (X : K.In h) (G : h.Ns mainGlobals mg)
    (a : PySem.W.nsIn K mainGlobals nm = some (some (.ref f))) (l : K.lookup f = some ⟨oc, od, .func (PySem.W.fnOf nm nm (defArgs st) (defBody st) (defScope st) .none kV doc pm an cdv ct), osl⟩) (c : PySem.W.codeIn K cdv nm = true) (k : PySem.W.keepIn K (.ref f) = true)
    (b : Binds K (PySem.W.fnOf nm nm (defArgs st) (defBody st) (defScope st) .none kV doc pm an cdv ct) ps []) : Df K mg nm st ps f (PySem.W.fnOf nm nm (defArgs st) (defBody st) (defScope st) .none kV doc pm an cdv ct) :=
  ⟨fun_mk (st := st) l c k, b, PySem.W.mg_of X G a⟩
theorem exm_self {K : PySem.W.Frag} {S : Addr} (h1 : PySem.W.subIn K (.ref S) (.type "BaseException") = some true) (h2 : PySem.W.isClsIn K S = true) (h3 : PySem.W.typeIn K (.ref S) = some (.type "type")) (h4 : PySem.W.subIn K (.ref S) (.ref S) = some true) :
    PySem.W.exmOne K (.ref S) (.ref S) = some true := by
  have h2 : (PySem.W.clsIn K S).isSome = true := h2
  show (if (PySem.W.subIn K (.ref S) (.type "BaseException") == some true) = true then (if ((PySem.W.clsIn K S).isSome && PySem.W.typeIn K (.ref S) == some (.type "type")) = true then PySem.W.subIn K (.ref S) (.ref S) else none) else none) = some true
  rw [if_pos (by rw [h1]; rfl), if_pos (by rw [h2, h3]; rfl)]
  exact h4
theorem all_mk {l : PySem.W.OpenLaw} {w : World} {K : PySem.W.Frag} {h : Heap} {mg : Str → Option Value} {fa : Addr} (X : K.In h) (G : h.Ns mainGlobals mg) (hfa : mg "law" = some (.ref fa))
    {f10 f11 f12 f13 f14 f15 f16 f19 f20 f21 f22 f23 f25 f26 f27 f28 f29 f30 : Addr} {od10 an10 od11 an11 od12 an12 od13 an13 od14 an14 od15 an15 od16 an16 od19 an19 od20 an20 od21 an21 od22 an22 od23 an23 od25 an25 od26 an26 od27 an27 od28 an28 od29 an29 od30 an30 : Option Addr} {sl10 sl11 sl12 sl13 sl14 sl15 sl16 sl19 sl20 sl21 sl22 sl23 sl25 sl26 sl27 sl28 sl29 sl30 : Array (Option Value)} {oc10 kV10 dc10 pm10 cd10 ct10 oc11 kV11 dc11 pm11 cd11 ct11 oc12 kV12 dc12 pm12 cd12 ct12 oc13 kV13 dc13 pm13 cd13 ct13 oc14 kV14 dc14 pm14 cd14 ct14 oc15 kV15 dc15 pm15 cd15 ct15 oc16 kV16 dc16 pm16 cd16 ct16 oc19 kV19 dc19 pm19 cd19 ct19 oc20 kV20 dc20 pm20 cd20 ct20 oc21 kV21 dc21 pm21 cd21 ct21 oc22 kV22 dc22 pm22 cd22 ct22 oc23 kV23 dc23 pm23 cd23 ct23 oc25 kV25 dc25 pm25 cd25 ct25 oc26 kV26 dc26 pm26 cd26 ct26 oc27 kV27 dc27 pm27 cd27 ct27 oc28 kV28 dc28 pm28 cd28 ct28 oc29 kV29 dc29 pm29 cd29 ct29 oc30 kV30 dc30 pm30 cd30 ct30 : Value}
    {C V fI cc cda N : Addr} {nm qn file : Str} {bs sub : List Value} {sn : List Str} {ab : Bool} {col : Option Bool} {dd : Option Addr} {m0 m1 m2 m3 m5 : Option Value} {odI anI cld cdd : Option Addr} {slI csl ccs : Array (Option Value)} {ocI dcI pmI ctI cl ccl : Value} {cvs : Array Value} {tf : Tok}
    (xC : PySem.W.nsIn K mainGlobals "BadText" = some (some (.ref C)))
    (xL : K.lookup C = some (excClassObj nm qn C N bs [.ref V, .type "ValueError", .type "Exception", .type "BaseException", .type "object"] true sn sub ab col dd m0 m1 m2 m3 m5 "ValueError.__new__"))
    (xsa : PySem.W.findIn K (.ref C) "__setattr__" = some (some (.builtin "object.__setattr__")))
    (xga : PySem.W.findIn K (.ref C) "__getattribute__" = some (some (.builtin "BaseException.__getattribute__")))
    (xgg : PySem.W.findIn K (.ref C) "__getattr__" = some none)
    (xnb : PySem.W.findIn K (.ref C) "index" = some none)
    (xi : PySem.W.findIn K (.ref C) "__init__" = some (some (.ref fI)))
    (xt : PySem.W.typeIn K (.ref fI) = some (.type "function"))
    (xk : PySem.W.keepIn K (.ref C) = true)
    (xe : PySem.W.subIn K (.ref C) (.type "BaseException") = some true)
    (xv : PySem.W.subIn K (.ref C) (.type "ValueError") = some true)
    (xty : PySem.W.typeIn K (.ref C) = some (.type "type"))
    (xhd : PySem.W.hasDictIn K C = true)
    (xic : PySem.W.isClsIn K C = true)
    (xss : PySem.W.subIn K (.ref C) (.ref C) = some true)
    (xmr : PySem.W.mroIn K C (.ref C) = some true)
    (xsu : PySem.W.ks_superIn K C C "__init__" = some (some (.builtin "ValueError.__init__")))
    (xop : PySem.W.nsIn K cStatics "thirdparty.any" = some none)
    (xtop : (l.prog.main.scope.names.lookup ("super" : Str)).isSome = false)
    (xfn : K.lookup fI = some ⟨ocI, odI, .func (PySem.W.ksFn "__init__" "BadText.__init__" (defArgs sBad) (defBody sBad) (defScope sBad) .none .none dcI pmI anI (.ref cda) ctI cc), slI⟩)
    (xcd : PySem.W.codeIn K (.ref cda) "BadText.__init__" = true)
    (xce : K.lookup cc = some ⟨cl, cld, .cell (some (.ref C)), csl⟩)
    (xco : K.lookup cda = some ⟨ccl, cdd, .fields cvs, ccs⟩)
    (xvs : cvs[2]? = some (.str file tf))
    (xfi : ((l.prog.main.file : Str) == file) = true)
    (a10 : PySem.W.nsIn K mainGlobals "is_number" = some (some (.ref f10))) (l10 : K.lookup f10 = some ⟨oc10, od10, .func (PySem.W.fnOf "is_number" "is_number" (defArgs (tx 10)) (defBody (tx 10)) (defScope (tx 10)) .none kV10 dc10 pm10 an10 cd10 ct10), sl10⟩) (c10 : PySem.W.codeIn K cd10 "is_number" = true) (k10 : PySem.W.keepIn K (.ref f10) = true)
    (a11 : PySem.W.nsIn K mainGlobals "is_place" = some (some (.ref f11))) (l11 : K.lookup f11 = some ⟨oc11, od11, .func (PySem.W.fnOf "is_place" "is_place" (defArgs (tx 11)) (defBody (tx 11)) (defScope (tx 11)) .none kV11 dc11 pm11 an11 cd11 ct11), sl11⟩) (c11 : PySem.W.codeIn K cd11 "is_place" = true) (k11 : PySem.W.keepIn K (.ref f11) = true)
    (a12 : PySem.W.nsIn K mainGlobals "is_value" = some (some (.ref f12))) (l12 : K.lookup f12 = some ⟨oc12, od12, .func (PySem.W.fnOf "is_value" "is_value" (defArgs (tx 12)) (defBody (tx 12)) (defScope (tx 12)) .none kV12 dc12 pm12 an12 cd12 ct12), sl12⟩) (c12 : PySem.W.codeIn K cd12 "is_value" = true) (k12 : PySem.W.keepIn K (.ref f12) = true)
    (a13 : PySem.W.nsIn K mainGlobals "is_register" = some (some (.ref f13))) (l13 : K.lookup f13 = some ⟨oc13, od13, .func (PySem.W.fnOf "is_register" "is_register" (defArgs (tx 13)) (defBody (tx 13)) (defScope (tx 13)) .none kV13 dc13 pm13 an13 cd13 ct13), sl13⟩) (c13 : PySem.W.codeIn K cd13 "is_register" = true) (k13 : PySem.W.keepIn K (.ref f13) = true)
    (a14 : PySem.W.nsIn K mainGlobals "is_row" = some (some (.ref f14))) (l14 : K.lookup f14 = some ⟨oc14, od14, .func (PySem.W.fnOf "is_row" "is_row" (defArgs (tx 14)) (defBody (tx 14)) (defScope (tx 14)) .none kV14 dc14 pm14 an14 cd14 ct14), sl14⟩) (c14 : PySem.W.codeIn K cd14 "is_row" = true) (k14 : PySem.W.keepIn K (.ref f14) = true)
    (a15 : PySem.W.nsIn K mainGlobals "is_program" = some (some (.ref f15))) (l15 : K.lookup f15 = some ⟨oc15, od15, .func (PySem.W.fnOf "is_program" "is_program" (defArgs (tx 15)) (defBody (tx 15)) (defScope (tx 15)) .none kV15 dc15 pm15 an15 cd15 ct15), sl15⟩) (c15 : PySem.W.codeIn K cd15 "is_program" = true) (k15 : PySem.W.keepIn K (.ref f15) = true)
    (a16 : PySem.W.nsIn K mainGlobals "check_program" = some (some (.ref f16))) (l16 : K.lookup f16 = some ⟨oc16, od16, .func (PySem.W.fnOf "check_program" "check_program" (defArgs (tx 16)) (defBody (tx 16)) (defScope (tx 16)) .none kV16 dc16 pm16 an16 cd16 ct16), sl16⟩) (c16 : PySem.W.codeIn K cd16 "check_program" = true) (k16 : PySem.W.keepIn K (.ref f16) = true)
    (a19 : PySem.W.nsIn K mainGlobals "row_text" = some (some (.ref f19))) (l19 : K.lookup f19 = some ⟨oc19, od19, .func (PySem.W.fnOf "row_text" "row_text" (defArgs (tx 19)) (defBody (tx 19)) (defScope (tx 19)) .none kV19 dc19 pm19 an19 cd19 ct19), sl19⟩) (c19 : PySem.W.codeIn K cd19 "row_text" = true) (k19 : PySem.W.keepIn K (.ref f19) = true)
    (a20 : PySem.W.nsIn K mainGlobals "program_text" = some (some (.ref f20))) (l20 : K.lookup f20 = some ⟨oc20, od20, .func (PySem.W.fnOf "program_text" "program_text" (defArgs (tx 20)) (defBody (tx 20)) (defScope (tx 20)) .none kV20 dc20 pm20 an20 cd20 ct20), sl20⟩) (c20 : PySem.W.codeIn K cd20 "program_text" = true) (k20 : PySem.W.keepIn K (.ref f20) = true)
    (a21 : PySem.W.nsIn K mainGlobals "row_read" = some (some (.ref f21))) (l21 : K.lookup f21 = some ⟨oc21, od21, .func (PySem.W.fnOf "row_read" "row_read" (defArgs (tx 21)) (defBody (tx 21)) (defScope (tx 21)) .none kV21 dc21 pm21 an21 cd21 ct21), sl21⟩) (c21 : PySem.W.codeIn K cd21 "row_read" = true) (k21 : PySem.W.keepIn K (.ref f21) = true)
    (a22 : PySem.W.nsIn K mainGlobals "numbers_in" = some (some (.ref f22))) (l22 : K.lookup f22 = some ⟨oc22, od22, .func (PySem.W.fnOf "numbers_in" "numbers_in" (defArgs (tx 22)) (defBody (tx 22)) (defScope (tx 22)) .none kV22 dc22 pm22 an22 cd22 ct22), sl22⟩) (c22 : PySem.W.codeIn K cd22 "numbers_in" = true) (k22 : PySem.W.keepIn K (.ref f22) = true)
    (a23 : PySem.W.nsIn K mainGlobals "read_program" = some (some (.ref f23))) (l23 : K.lookup f23 = some ⟨oc23, od23, .func (PySem.W.fnOf "read_program" "read_program" (defArgs (tx 23)) (defBody (tx 23)) (defScope (tx 23)) .none kV23 dc23 pm23 an23 cd23 ct23), sl23⟩) (c23 : PySem.W.codeIn K cd23 "read_program" = true) (k23 : PySem.W.keepIn K (.ref f23) = true)
    (a25 : PySem.W.nsIn K mainGlobals "_law_number" = some (some (.ref f25))) (l25 : K.lookup f25 = some ⟨oc25, od25, .func (PySem.W.fnOf "_law_number" "_law_number" (defArgs (tx 25)) (defBody (tx 25)) (defScope (tx 25)) .none kV25 dc25 pm25 an25 cd25 ct25), sl25⟩) (c25 : PySem.W.codeIn K cd25 "_law_number" = true) (k25 : PySem.W.keepIn K (.ref f25) = true)
    (a26 : PySem.W.nsIn K mainGlobals "_law_row" = some (some (.ref f26))) (l26 : K.lookup f26 = some ⟨oc26, od26, .func (PySem.W.fnOf "_law_row" "_law_row" (defArgs (tx 26)) (defBody (tx 26)) (defScope (tx 26)) .none kV26 dc26 pm26 an26 cd26 ct26), sl26⟩) (c26 : PySem.W.codeIn K cd26 "_law_row" = true) (k26 : PySem.W.keepIn K (.ref f26) = true)
    (a27 : PySem.W.nsIn K mainGlobals "_law_program" = some (some (.ref f27))) (l27 : K.lookup f27 = some ⟨oc27, od27, .func (PySem.W.fnOf "_law_program" "_law_program" (defArgs (tx 27)) (defBody (tx 27)) (defScope (tx 27)) .none kV27 dc27 pm27 an27 cd27 ct27), sl27⟩) (c27 : PySem.W.codeIn K cd27 "_law_program" = true) (k27 : PySem.W.keepIn K (.ref f27) = true)
    (a28 : PySem.W.nsIn K mainGlobals "_law_told" = some (some (.ref f28))) (l28 : K.lookup f28 = some ⟨oc28, od28, .func (PySem.W.fnOf "_law_told" "_law_told" (defArgs (tx 28)) (defBody (tx 28)) (defScope (tx 28)) .none kV28 dc28 pm28 an28 cd28 ct28), sl28⟩) (c28 : PySem.W.codeIn K cd28 "_law_told" = true) (k28 : PySem.W.keepIn K (.ref f28) = true)
    (a29 : PySem.W.nsIn K mainGlobals "_law_read" = some (some (.ref f29))) (l29 : K.lookup f29 = some ⟨oc29, od29, .func (PySem.W.fnOf "_law_read" "_law_read" (defArgs (tx 29)) (defBody (tx 29)) (defScope (tx 29)) .none kV29 dc29 pm29 an29 cd29 ct29), sl29⟩) (c29 : PySem.W.codeIn K cd29 "_law_read" = true) (k29 : PySem.W.keepIn K (.ref f29) = true)
    (a30 : PySem.W.nsIn K mainGlobals "law" = some (some (.ref f30))) (l30 : K.lookup f30 = some ⟨oc30, od30, .func (PySem.W.fnOf "law" "law" (defArgs (tx 30)) (defBody (tx 30)) (defScope (tx 30)) .none kV30 dc30 pm30 an30 cd30 ct30), sl30⟩) (c30 : PySem.W.codeIn K cd30 "law" = true) (k30 : PySem.W.keepIn K (.ref f30) = true)
    (zisi : PySem.W.nsIn K mainGlobals "isinstance" = some none)
    (zint : PySem.W.nsIn K mainGlobals "int" = some none)
    (zbool : PySem.W.nsIn K mainGlobals "bool" = some none)
    (zstr : PySem.W.nsIn K mainGlobals "str" = some none)
    (ztuple : PySem.W.nsIn K mainGlobals "tuple" = some none)
    (zlist : PySem.W.nsIn K mainGlobals "list" = some none)
    (zlen : PySem.W.nsIn K mainGlobals "len" = some none)
    (zall : PySem.W.nsIn K mainGlobals "all" = some none)
    (zenum : PySem.W.nsIn K mainGlobals "enumerate" = some none)
    (zsorted : PySem.W.nsIn K mainGlobals "sorted" = some none)
    (zrange : PySem.W.nsIn K mainGlobals "range" = some none)
    (zabs : PySem.W.nsIn K mainGlobals "abs" = some none)
    (zmin : PySem.W.nsIn K mainGlobals "min" = some none)
    (zsup : PySem.W.nsIn K mainGlobals "super" = some none)
    {thands : Tok} (nhands : PySem.W.nsIn K mainGlobals "MOST_HANDS" = some (some (.int 4 thands)))
    {trows : Tok} (nrows : PySem.W.nsIn K mainGlobals "MOST_ROWS" = some (some (.int 16 trows)))
    {tplaces : Tok} (nplaces : PySem.W.nsIn K mainGlobals "PLACES" = some (some (.int 4 tplaces)))
    {tvalues : Tok} (nvalues : PySem.W.nsIn K mainGlobals "VALUES" = some (some (.int 4 tvalues)))
    {tregs : Tok} (nregs : PySem.W.nsIn K mainGlobals "REGISTERS" = some (some (.int 3 tregs)))
    {tdig : Tok} (ndig : PySem.W.nsIn K mainGlobals "DIGITS" = some (some (.str "0123456789" tdig))) :
    ∃ fd : FuncData, (∀ (s : Shared) (v : Value), BindsTo s fd ⟨[v], []⟩ [("_law_script", v)]) ∧ ∀ base : Heap, K.In base → base.Ns mainGlobals mg → FnOk l.prog w K mg base CX0 11 fa fd ["_law_script"] (spLaw K) := by
  cases hfa.symm.trans (PySem.W.mg_of X G a30)
  have B : Bn mg := ⟨PySem.W.mg_none_of X G zisi, PySem.W.mg_none_of X G zint, PySem.W.mg_none_of X G zbool, PySem.W.mg_none_of X G zstr, PySem.W.mg_none_of X G ztuple, PySem.W.mg_none_of X G zlist, PySem.W.mg_none_of X G zlen, PySem.W.mg_none_of X G zall, PySem.W.mg_none_of X G zenum, PySem.W.mg_none_of X G zsorted, PySem.W.mg_none_of X G zrange, PySem.W.mg_none_of X G zabs, ⟨_, PySem.W.mg_of X G nhands⟩, ⟨_, PySem.W.mg_of X G nrows⟩, ⟨_, PySem.W.mg_of X G nplaces⟩, ⟨_, PySem.W.mg_of X G nvalues⟩, ⟨_, PySem.W.mg_of X G nregs⟩⟩
  have T : BadTxt l.prog K mg C fI cc cda := ⟨PySem.W.mg_of X G xC, PySem.W.mg_none_of X G zsup, ⟨_, _, _, _, _, _, _, _, _, _, _, _, _, _, _, xL, rfl⟩, xsa, xga, xgg, xnb, xi, xt, xk, xe, xv, xty, xhd, exm_self xe xic xty xss, xmr, xsu, xop, xtop, ⟨_, _, _, _, _, _, _, xfn, xcd⟩, ⟨_, _, _, xce⟩, ⟨_, _, _, _, _, _, xco, xvs, xfi⟩⟩
  have D10 := df_mk (st := tx 10) (ps := ["thing", "least", "most"]) X G a10 l10 c10 k10 (Fun.binds (fun_mk (st := tx 10) l10 c10 k10) fun _ _ _ _ _ _ us hl => match us, hl with | [_, _, _], _ => rfl)
  have D11 := df_mk (st := tx 11) (ps := ["thing"]) X G a11 l11 c11 k11 (Fun.binds (fun_mk (st := tx 11) l11 c11 k11) fun _ _ _ _ _ _ us hl => match us, hl with | [_], _ => rfl)
  have D12 := df_mk (st := tx 12) (ps := ["thing"]) X G a12 l12 c12 k12 (Fun.binds (fun_mk (st := tx 12) l12 c12 k12) fun _ _ _ _ _ _ us hl => match us, hl with | [_], _ => rfl)
  have D13 := df_mk (st := tx 13) (ps := ["thing"]) X G a13 l13 c13 k13 (Fun.binds (fun_mk (st := tx 13) l13 c13 k13) fun _ _ _ _ _ _ us hl => match us, hl with | [_], _ => rfl)
  have D14 := df_mk (st := tx 14) (ps := ["thing", "rest"]) X G a14 l14 c14 k14 (Fun.binds (fun_mk (st := tx 14) l14 c14 k14) fun _ _ _ _ _ _ us hl => match us, hl with | [_, _], _ => rfl)
  have D15 := df_mk (st := tx 15) (ps := ["thing"]) X G a15 l15 c15 k15 (Fun.binds (fun_mk (st := tx 15) l15 c15 k15) fun _ _ _ _ _ _ us hl => match us, hl with | [_], _ => rfl)
  have D16 := df_mk (st := tx 16) (ps := ["program"]) X G a16 l16 c16 k16 (Fun.binds (fun_mk (st := tx 16) l16 c16 k16) fun _ _ _ _ _ _ us hl => match us, hl with | [_], _ => rfl)
  have D19 := df_mk (st := tx 19) (ps := ["row"]) X G a19 l19 c19 k19 (Fun.binds (fun_mk (st := tx 19) l19 c19 k19) fun _ _ _ _ _ _ us hl => match us, hl with | [_], _ => rfl)
  have D20 := df_mk (st := tx 20) (ps := ["program"]) X G a20 l20 c20 k20 (Fun.binds (fun_mk (st := tx 20) l20 c20 k20) fun _ _ _ _ _ _ us hl => match us, hl with | [_], _ => rfl)
  have D21 := df_mk (st := tx 21) (ps := ["text"]) X G a21 l21 c21 k21 (Fun.binds (fun_mk (st := tx 21) l21 c21 k21) fun _ _ _ _ _ _ us hl => match us, hl with | [_], _ => rfl)
  have D22 := df_mk (st := tx 22) (ps := ["text"]) X G a22 l22 c22 k22 (Fun.binds (fun_mk (st := tx 22) l22 c22 k22) fun _ _ _ _ _ _ us hl => match us, hl with | [_], _ => rfl)
  have D23 := df_mk (st := tx 23) (ps := ["text"]) X G a23 l23 c23 k23 (Fun.binds (fun_mk (st := tx 23) l23 c23 k23) fun _ _ _ _ _ _ us hl => match us, hl with | [_], _ => rfl)
  have D25 := df_mk (st := tx 25) (ps := ["_law_script", "_law_at"]) X G a25 l25 c25 k25 (Fun.binds (fun_mk (st := tx 25) l25 c25 k25) fun _ _ _ _ _ _ us hl => match us, hl with | [_, _], _ => rfl)
  have D26 := df_mk (st := tx 26) (ps := ["_law_script", "_law_at", "_law_rest", "_law_plain"]) X G a26 l26 c26 k26 (Fun.binds (fun_mk (st := tx 26) l26 c26 k26) fun _ _ _ _ _ _ us hl => match us, hl with | [_, _, _, _], _ => rfl)
  have D27 := df_mk (st := tx 27) (ps := ["_law_script", "_law_at", "_law_hands", "_law_most", "_law_plain"]) X G a27 l27 c27 k27 (Fun.binds (fun_mk (st := tx 27) l27 c27 k27) fun _ _ _ _ _ _ us hl => match us, hl with | [_, _, _, _, _], _ => rfl)
  have D28 := df_mk (st := tx 28) (ps := ["_law_row_here"]) X G a28 l28 c28 k28 (Fun.binds (fun_mk (st := tx 28) l28 c28 k28) fun _ _ _ _ _ _ us hl => match us, hl with | [_], _ => rfl)
  have D29 := df_mk (st := tx 29) (ps := ["_law_text"]) X G a29 l29 c29 k29 (Fun.binds (fun_mk (st := tx 29) l29 c29 k29) fun _ _ _ _ _ _ us hl => match us, hl with | [_], _ => rfl)
  have D30 := df_mk (st := tx 30) (ps := ["_law_script"]) X G a30 l30 c30 k30 (Fun.binds (fun_mk (st := tx 30) l30 c30 k30) fun _ _ _ _ _ _ us hl => match us, hl with | [_], _ => rfl)
  refine ⟨PySem.W.fnOf "law" "law" (defArgs (tx 30)) (defBody (tx 30)) (defScope (tx 30)) .none kV30 dc30 pm30 an30 cd30 ct30, fun s v => .of_eq rfl, fun base _ _ => ?_⟩
  have GRow := ok_row (P := l.prog) (w := w) (base := base) D14 D10 D11 D12 D13 B
  have GProg := ok_prog D15 D14 GRow B
  have GRT := ok_rowT (P := l.prog) (w := w) (base := base) D19 B
  have GPT := ok_progT D20 D16 D19 (ok_check D16 D15 GProg) GRT B
  have GRR := ok_rr D21 D22 D14 D19 (ok_nums D22 B ⟨_, PySem.W.mg_of X G ndig⟩) GRow GRT B
  have GRd := ok_read D23 D21 D15 GRR GProg T B
  have GN := ok_numb (P := l.prog) (w := w) (base := base) D25 B
  have GM := ok_progL D27 D25 D26 GN (ok_rowL D26 D25 GN B (PySem.W.mg_none_of X G zmin)) B
  exact ok_law (fI := fI) (cc := cc) (cda := cda) D30 D25 D27 D28 D20 D23 D29 GN GM (ok_told D28 B) GPT GRd (ok_LR D29 D23 GRd T) B
theorem walk {l : PySem.W.OpenLaw} {q : Program} {loose : List Str} {XP : (Str → Option Value) → Heap → Prop} {YP : World → Heap → Prop} {d : DefRec} {K : Params → PySem.W.Frag} (hn : l.most = some 63) (hdf : d.params.defaults = [])
    (hY : ∀ (w : World) (h : Heap), YP w h → (K w.params).In h)
    (F : ∀ (w : World) (mg : Str → Option Value) (fa : Addr) (h : Heap), (K w.params).In h → h.Ns mainGlobals mg → mg d.name = some (.ref fa) →
      ∃ fd : FuncData, (∀ (s : Shared) (u : Value), BindsTo s fd ⟨[u], []⟩ [("_law_script", u)]) ∧ ∀ base : Heap, (K w.params).In base → base.Ns mainGlobals mg → FnOk l.prog w (K w.params) mg base CX0 11 fa fd ["_law_script"] (spLaw (K w.params))) :
    PySem.W.WalkO q loose XP YP l.row.toRowW d [] (fun f vs => PySem.call f vs) :=
  L2.walk_of (n := 63) (k := 11) (x := "_law_script") (CX := fun _ => CX0) (sp := fun w => spLaw (K w.params)) hn (by decide) hdf ⟨rfl, by decide, by decide⟩ hY F (fun _ _ a ns hl _ hS => ⟨a, ns, rfl, hS, hl, fun _ => rfl⟩) fun _ _ _ _ _ z => z
end G341

open PySem PySem.W PyProof.Rows in
set_option maxRecDepth 100000 in
set_option maxHeartbeats 0 in
theorem PySem.Challenge.cw_memoryviews_k48_whole_texts_holds : PySem.Challenge.rw_memoryviews_k48_whole_texts.Holds := by
  w_on; o_law; k_head; (case hw => w_witness2)
  k_fill
  refine G341.walk (l := PySem.Challenge.rw_memoryviews_k48_whole_texts) rfl rfl (fun w h Y => PySem.W.kIn_of Y) ?F
  case F =>
    intro w mg fa h KX G hmg
    refine' G341.all_mk KX G hmg ?xC ?xL ?xsa ?xga ?xgg ?xnb ?xi ?xt ?xk ?xe ?xv ?xty ?xhd ?xic ?xss ?xmr ?xsu ?xop ?xtop ?xfn ?xcd ?xce ?xco ?xvs ?xfi ?a10 ?l10 ?c10 ?k10 ?a11 ?l11 ?c11 ?k11 ?a12 ?l12 ?c12 ?k12 ?a13 ?l13 ?c13 ?k13 ?a14 ?l14 ?c14 ?k14 ?a15 ?l15 ?c15 ?k15 ?a16 ?l16 ?c16 ?k16 ?a19 ?l19 ?c19 ?k19 ?a20 ?l20 ?c20 ?k20 ?a21 ?l21 ?c21 ?k21 ?a22 ?l22 ?c22 ?k22 ?a23 ?l23 ?c23 ?k23 ?a25 ?l25 ?c25 ?k25 ?a26 ?l26 ?c26 ?k26 ?a27 ?l27 ?c27 ?k27 ?a28 ?l28 ?c28 ?k28 ?a29 ?l29 ?c29 ?k29 ?a30 ?l30 ?c30 ?k30 ?zisi ?zint ?zbool ?zstr ?ztuple ?zlist ?zlen ?zall ?zenum ?zsorted ?zrange ?zabs ?zmin ?zsup ?nhands ?nrows ?nplaces ?nvalues ?nregs ?ndig
    (case xC => k_is)
    (case xL => k_is)
    (case xsa => k_is)
    (case xga => k_is)
    (case xgg => k_is)
    (case xnb => k_is)
    (case xi => k_is)
    (case xt => k_is)
    (case xk => k_is)
    (case xe => k_is)
    (case xv => k_is)
    (case xty => k_is)
    (case xhd => k_is)
    (case xic => k_is)
    (case xss => first | rfl | k_is)
    (case xmr => first | k_is | kernel_rfl)
    (case xsu => first | k_is | ks_is | kernel_rfl)
    (case xop => k_is)
    (case xtop => rfl)
    (case xfn => k_is)
    (case xcd => k_is)
    (case xce => k_is)
    (case xco => k_is)
    (case xvs => rfl)
    (case xfi => first | rfl | decide +kernel)
    (case a10 => k_is)
    (case l10 => k_is)
    (case c10 => k_is)
    (case k10 => k_is)
    (case a11 => k_is)
    (case l11 => k_is)
    (case c11 => k_is)
    (case k11 => k_is)
    (case a12 => k_is)
    (case l12 => k_is)
    (case c12 => k_is)
    (case k12 => k_is)
    (case a13 => k_is)
    (case l13 => k_is)
    (case c13 => k_is)
    (case k13 => k_is)
    (case a14 => k_is)
    (case l14 => k_is)
    (case c14 => k_is)
    (case k14 => k_is)
    (case a15 => k_is)
    (case l15 => k_is)
    (case c15 => k_is)
    (case k15 => k_is)
    (case a16 => k_is)
    (case l16 => k_is)
    (case c16 => k_is)
    (case k16 => k_is)
    (case a19 => k_is)
    (case l19 => k_is)
    (case c19 => k_is)
    (case k19 => k_is)
    (case a20 => k_is)
    (case l20 => k_is)
    (case c20 => k_is)
    (case k20 => k_is)
    (case a21 => k_is)
    (case l21 => k_is)
    (case c21 => k_is)
    (case k21 => k_is)
    (case a22 => k_is)
    (case l22 => k_is)
    (case c22 => k_is)
    (case k22 => k_is)
    (case a23 => k_is)
    (case l23 => k_is)
    (case c23 => k_is)
    (case k23 => k_is)
    (case a25 => k_is)
    (case l25 => k_is)
    (case c25 => k_is)
    (case k25 => k_is)
    (case a26 => k_is)
    (case l26 => k_is)
    (case c26 => k_is)
    (case k26 => k_is)
    (case a27 => k_is)
    (case l27 => k_is)
    (case c27 => k_is)
    (case k27 => k_is)
    (case a28 => k_is)
    (case l28 => k_is)
    (case c28 => k_is)
    (case k28 => k_is)
    (case a29 => k_is)
    (case l29 => k_is)
    (case c29 => k_is)
    (case k29 => k_is)
    (case a30 => k_is)
    (case l30 => k_is)
    (case c30 => k_is)
    (case k30 => k_is)
    (case zisi => k_is)
    (case zint => k_is)
    (case zbool => k_is)
    (case zstr => k_is)
    (case ztuple => k_is)
    (case zlist => k_is)
    (case zlen => k_is)
    (case zall => k_is)
    (case zenum => k_is)
    (case zsorted => k_is)
    (case zrange => k_is)
    (case zabs => k_is)
    (case zmin => k_is)
    (case zsup => k_is)
    (case nhands => k_is)
    (case nrows => k_is)
    (case nplaces => k_is)
    (case nvalues => k_is)
    (case nregs => k_is)
    (case ndig => k_is)
#print axioms PySem.Challenge.cw_memoryviews_k48_whole_texts_holds


import PyProof.Rows.All
import Wide.All
import OpenK.AllK
import Wide.FinOn
import KE.KStateDown
import HandS.ForMost
import HandS.Exc
import HandS.Defaults
import HandS.Wide
import HandS.Deep
import HandS.TupLe
import HandS.TupSets
import HandS.Sort
import HandS.SortRule
import HandS.IsInst
import HandS.Conv
import HandS.Flow
import HandS.Small
import HandS.NoneIn
import HandS.Walk
import KE.KDictDisplayH
import KE.GoesEnum
import HandS.Codes
import HandS.Head0
import HandS.Head1
import HandS.Head2
import HandS.HeadEnd
import HandS.HeadHook1
import HandS.HeadHook2
import PySem.Challenge.RW_levellers_k05_whole_heights_that_come
set_option Elab.async false
set_option linter.all false
set_option maxRecDepth 100000
set_option maxHeartbeats 4000000
namespace Lev
open PySem PySem.Spec PyProof.Rows L2
/-! ### the text -/
def top (i : Nat) : Stmt := PySem.Challenge.pw_levellers_k05_whole_heights_that_come.main.body.getD i (.Pass ⟨0, 0, 0, 0⟩)
abbrev FnP (K : PySem.W.Frag) (x : Str) (st : Stmt) (f : Addr) (fd : FuncData) : Prop := FunD K x x (defArgs st) (defBody st) (defScope st) [] [] f fd
abbrev sIsIn : Stmt := top 6
abbrev sIsEdge : Stmt := top 10
abbrev sNeedWeb : Stmt := top 11
abbrev sNeedRoof : Stmt := top 12
abbrev sNeedTable : Stmt := top 13
abbrev sNeedHeights : Stmt := top 14
abbrev sNeedOne : Stmt := top 15
abbrev sNeedTwo : Stmt := top 16
abbrev sSteepIn : Stmt := top 19
abbrev sComesIn : Stmt := top 21
abbrev sCanCome : Stmt := top 22
abbrev sBars : Stmt := top 23
abbrev sStepsIn : Stmt := top 24
abbrev sFewest : Stmt := top 25
abbrev sTaken : Stmt := top 27
abbrev sPick : Stmt := top 28
abbrev sMany : Stmt := top 29
abbrev sTable : Stmt := top 30
abbrev sHeights : Stmt := top 31
abbrev sStep : Stmt := top 32
abbrev sBeside : Stmt := top 33
abbrev sDeeds : Stmt := top 34
abbrev sAfter : Stmt := top 35
abbrev sFrom : Stmt := top 36
abbrev sThere : Stmt := top 37
abbrev sAlike : Stmt := top 38
abbrev sComes : Stmt := top 39
abbrev sOff : Stmt := top 40
abbrev sSteep : Stmt := top 41
abbrev sLaw : Stmt := top 42
end Lev
set_option Elab.async false
set_option linter.all false
set_option maxRecDepth 100000
set_option maxHeartbeats 4000000
namespace Lev
open PySem PySem.Spec PyProof.Rows L2
/-! ### x in t, t a tuple of data -/
section
variable {X : Cx}
def rInDT (K : PySem.W.Frag) : R2 := fun x y H Q => ∃ d ds, Dp K H x d ∧ Dp K H y (.tuple ds) ∧ SeqAt.shaped d = true ∧ SeqAt.shaped (.tuple ds) = true ∧ Q (.bl (ds.any fun z => PyData.eqv z d)) H
theorem op_inDT (hu : X.A.units + 65 < cLine) : OpR X (compareOp .In) (rInDT X.K) := by
  intro pins s σ H x y v u Q I rx ry h
  obtain ⟨d, ds, hd, he, sd, se, q⟩ := h
  obtain ⟨as, r1⟩ := Dp.reads I d x v hd rx
  obtain ⟨bs, r2⟩ := Dp.reads I (.tuple ds) y u he ry
  exact SeqAt.in_tuple_reads r2 r1 (SeqAt.canLay_of_shaped se) (SeqAt.canLay_of_shaped sd) (room_in_shaped sd hu) ⟨.bl _, H, I, rfl, q⟩
end
/-! ### {k: v}, k a tuple -/
section
theorem dict_one {prog : Program} {w : World} {A : Around} {E : Value → Shared → Prop} {s : Shared} {env : Env} {k v : Expr} {pos : Pos} {Q : Value → Shared → Prop} {knd : HeapKind prog w (List Key)} (hu : knd.room A)
    (h : wpAny (model prog w) A (evalPairs (pairTrees [some k] [v] env pos)) (fun vs s₁ => ∃ ps, CarriesH knd s₁.heap vs ps ∧ s₁.heap.DictOfH knd s.heap.objs.size [] ∧
      ∀ h' tk, h'.DictOfH knd s.heap.objs.size (storedAllH [] ps) → Heap.SameBut s.heap.objs.size s₁.heap h' → Q (.ref s.heap.objs.size) { s₁ with heap := h', toks := tk }) E
      { s with heap := s.heap.push { cls := .type "dict", data := .dict #[] } }) :
    wpAny (model prog w) A (eval (.Dict [some k] [v] pos) env) Q E s := by
  rw [arm_eval_Dict, zip_pairTrees [some k] [v] env pos rfl rfl, dictDisplay_pairs (pairTrees [some k] [v] env pos) (fun z => List.cons_ne_nil _ _ z) (by rw [pairTrees_length [some k] [v] env pos rfl rfl]; show (1 : Nat) < 17; decide)]
  exact wpAny_bind (wpAny_standAt (wpAny_bind (wpAny_subDictH (knd := knd) (Q := fun d s' => wpAny (model prog w) A (pure (Value.ref d)) Q E s') hu (by rw [pairTrees_length [some k] [v] env pos rfl rfl]; show (1 : Nat) ≤ 15; decide)
    (wpAny_mono h (fun vs s₁ h₁ => by obtain ⟨ps, hc, hm, hq⟩ := h₁; exact ⟨ps, hc, hm, fun h' tk a b => wpAny_pure (hq h' tk a b)⟩) fun _ _ e => e))))
def tDispT (tk tv : TE) : TE := fun σ H Q => ∀ p, H p = none → tk σ (upd H p (.dT [])) fun x H1 => tv σ H1 fun y H2 => H2 p = some (.dT []) ∧ ∃ (b : Addr) (ks : List Key), x = .ref b ∧ H2 b = some (.tup (ks.map kV)) ∧ Q (.ref p) (upd H2 p (.dT [(ks, y)]))
theorem pe_dispT {X : Cx} {pos : Pos} {k v : Expr} {tk tv : TE} (hu : X.A.units + 1 < cLine) (hk : PE X k tk) (hv : PE X v tv) : PE X (.Dict [some k] [v] pos) (tDispT tk tv) := by
  refine ⟨fun pins s σ H Q I q => ?_⟩
  have hn := I.hok.fresh (Nat.le_refl s.heap.objs.size)
  have I1 := I.laid (a := s.heap.objs.size) (o := .dT []) (h' := s.heap.push { cls := .type "dict", data := .dict #[] }) (t' := s.toks) (fun _ _ q => Heap.get?_push_of_some _ q) (Nat.le_refl _) (dt_empty s.heap I.big)
  have h := q _ hn
  refine dict_one (knd := tupleKind (mixKind X.prog X.w)) (show X.A.units < cLine by omega) ?_
  refine pairTrees_cons_walk (thn (hk.run pins _ σ _ _ I1 h) fun u s1 ⟨x, H1, I2, rx, q1⟩ => thn (hv.run pins s1 σ H1 _ I2 q1) fun w2 s2 ⟨y, H2, I3, ry, q2⟩ => ?_)
  obtain ⟨e, b, ks, ex, eb, q3⟩ := q2
  subst ex
  obtain rfl : u = Value.ref b := rx
  obtain ⟨z, hd, xs, rel, dd⟩ := dt_of I3.hok e
  cases rel
  refine pairTrees_nil_walk ⟨[(ks, b, w2)], ⟨rfl, rfl, key_of I3.hok eb, trivial⟩, dd, fun h' tk dd' hs => ⟨.ref s.heap.objs.size, _, ?_, rfl, q3⟩⟩
  obtain ⟨o, es, ep, ho, h2, h3, h4, _, h5⟩ := dd'
  refine d_write I3 (by rw [e]; exact True.intro) hs ⟨o, ho⟩ ⟨by show 1 ≤ sizeLine; decide, hd, [(ks, b, w2)], .cons ⟨rfl, ?_, ry⟩ .nil, o, es, ep, ho, h2, h3, h4, h5⟩
  rw [upd_ne (ne_of eb e (fun z => nomatch z))]
  exact eb
end
/-! ### enumerate(t), t a tuple -/
section
set_option maxHeartbeats 4000000 in
theorem meets_enumerate_new1 {v : Value} {o : Obj} {H : Heap → Prop} (B : Begins v o H) :
    Meets (Builtin.«enumerate.__new__» ⟨[.type "enumerate", v], []⟩) (fun _ R s => H s.heap ∧
      R (.ok (.ret (.ref (s.heap.push o).objs.size))) { s with heap := (s.heap.push o).push { cls := .type "enumerate", data := .fields #[.none, .bool false, .ref s.heap.objs.size, rawInt 0, .none, .none] } }) :=
  .of_wp fun prog w A R s h => by
    obtain ⟨hp, g, d, tk, os⟩ := s; obtain ⟨h1, h⟩ := h
    have hsub := sub_enumerate
    have q1 : ∀ {A' : Around} {E : Value → Shared → Prop} {Q : Value → Shared → Prop}, Q (.ref hp.objs.size) ⟨hp.push o, g, d, tk, os⟩ → wpAny (model prog w) A' (pyIter v) Q E ⟨hp, g, d, tk, os⟩ :=
      fun q => B.iter prog w _ _ ⟨hp, g, d, tk, os⟩ _ h1 q
    wp_walk using q1
    refine wpAny_stack_any fun st => wpAny_pure ?_
    split
    · rename_i c _ _ _ _ _
      cases (c == Value.type "enumerate")
      · wp_walk using q1
        exact ⟨_, rfl, h⟩
      · wp_walk using q1
        exact ⟨_, rfl, h⟩
    · wp_walk using q1
      exact ⟨_, rfl, h⟩
theorem call_enumerate_tup {prog : Program} {w : World} {A : Around} {E : Value → Shared → Prop} {s : Shared} {v : Value} {o : Obj} {H : Heap → Prop} {Q : Value → Shared → Prop} (B : Begins v o H) (h1 : H s.heap)
    (h : ∀ h', IsEnum h' (s.heap.objs.size + 1) s.heap.objs.size 0 .none → h'.get? s.heap.objs.size = some o → h'.objs.size = s.heap.objs.size + 2 →
      (∀ b o, s.heap.get? b = some o → h'.get? b = some o) → Q (.ref (s.heap.objs.size + 1)) { s with heap := h' }) :
    wpAny (model prog w) A (call (.type "enumerate") [v]) Q E s := by
  refine callType_new F.called_enumerate (by decide) (F.typeCall_enumerate_1 _) (F.newCall_enumerate_1 _) (fun obj => F.args_object_init_2 obj _) F.entry_enumerate_new
    (meets_enumerate_new1 B) ⟨h1, ?_⟩
  have hz : (s.heap.push o).objs.size = s.heap.objs.size + 1 := Heap.size_push ..
  show _ ∧ _
  rw [hz]
  have he : IsEnum ((s.heap.push o).push { cls := .type "enumerate", data := .fields #[.none, .bool false, .ref s.heap.objs.size, rawInt 0, .none, .none] }) (s.heap.objs.size + 1) s.heap.objs.size 0 .none := by
    have := Heap.get?_push_size (s.heap.push o) (o := { cls := .type "enumerate", data := .fields #[.none, .bool false, .ref s.heap.objs.size, rawInt 0, .none, .none] }) rfl
    rw [hz] at this; exact this
  refine ⟨⟨_, he, rfl⟩, h _ he (Heap.get?_push_of_some _ (Heap.get?_push_size _ B.free)) (by rw [Heap.size_push, hz]) fun b o x => Heap.get?_push_of_some _ (Heap.get?_push_of_some _ x)⟩
theorem wpAny_pyNext_enum_endT {prog : Program} {w : World} {A : Around} {E : Value → Shared → Prop} {s : Shared} {e it t : Addr} {i : Nat} {c : Int} {items : Array Value} {old : Value} {Q : Option Value → Shared → Prop} (hh : A.handled = none)
    (he : IsEnum s.heap e it c old) (hit : s.heap.IsTupleIter it t i) (ht : s.heap.IsTuple t items) (hx : items.size ≤ i)
    (hQ : ∀ h', Heap.ExtBut it s.heap h' → Q none { s with heap := h' }) : wpAny (model prog w) A (pyNext (.ref e)) Q E s := by
  have hT : s.TypeIs (.ref e) "enumerate" := ⟨_, he, rfl⟩
  unfold pyNext
  refine wpAny_bind (wpAny_attempt (wpAny_callSpecial?_slot (name := Str.ofString "__next__") hT F.slot_enumerate_next
    (wpAny_call_entry F.slot_enumerate_next hT F.entry_enumerate_next ?_ (F.args_enumerate_next_1 _))))
  show wpAny _ _ (field (.ref e) 2 >>= _) _ _ _
  refine wpAny_bind (wpAny_field he rfl (x := .ref it) rfl ?_)
  refine wpAny_bind (wpAny_nextOf_tuple_end hh hit ht (Array.getElem?_eq_none hx) fun h' x he' hx' => ?_)
  obtain ⟨o, ho, hc⟩ := hx'
  refine wpAny_bind (wpAny_isInstance (T := "StopIteration") (b := true) ⟨o, ho, hc⟩ isSubtype_stop ?_)
  exact wpAny_pure (hQ _ he')
end
def IteT (K : PySem.W.Frag) (a : Addr) : It :=
  ⟨fun i H => ∃ (xs : List V) (x : V), SqT K H a xs ∧ xs[i]? = some x, fun i H v H' => ∃ T x, v = .ref T ∧ H T = none ∧ H' = upd H T (.tup [.int (i : Nat), x]) ∧ ∀ xs, SqT K H a xs → xs[i]? = some x, fun i H => ∃ xs : List V, SqT K H a xs ∧ xs.length ≤ i⟩
theorem turn_enumT {P : Program} {w : World} {K : PySem.W.Frag} {elts : List Expr} {kk : Nat} {tpos : Pos} (a e it : Addr) :
    Turn P w K (.Tuple elts kk tpos) (IteT K a) [e, it] e (fun i h => (∃ old, IsEnum h e it ((i : Nat) : Int) old) ∧ h.IsTupleIter it a i ∧ e ≠ it ∧ a ≠ e ∧ a ≠ it) where
  mem := by simp
  obj := fun i h st b hb => by
    obtain ⟨⟨old, he⟩, ⟨o, ho, hc, hd⟩, _⟩ := st
    have e' : b = e ∨ b = it := by simpa using hb
    rcases e' with z | z
    · rw [z]; exact ⟨_, he, fun v q => nomatch q⟩
    · rw [z]; exact ⟨o, ho, fun v q => by rw [hd] at q; cases q⟩
  keep := fun i h h' st k => let ⟨⟨old, he⟩, hi, hne⟩ := st; ⟨⟨old, k e (by simp) _ he⟩, hi.at fun o q => k it (by simp) o q, hne⟩
  item := by
    intro X hP hw hK hc i pins s σ H E I hf st hg
    subst hP hw hK
    obtain ⟨⟨old, he⟩, hit, hne, hae, hai⟩ := st
    obtain ⟨xs, x, hq, hx⟩ := hg
    obtain ⟨its, rv, p, hz⟩ := I.tuple hq
    obtain ⟨u, hu, ru⟩ := rv.get hx
    have hel : e < s.heap.objs.size := Heap.lt_size he
    have hil : it < s.heap.objs.size := by obtain ⟨_, q, _⟩ := hit; exact Heap.lt_size q
    have hlt : i < its.toArray.size := by
      have := (List.getElem?_eq_some_iff.mp hu).1
      simpa using this
    refine wpAny_pyNext_enum_itemD (Draws.tuple (prog := X.prog) (w := X.w) (A := X.A.in1) (I.ok.hd hc) it a hai its.toArray) he ⟨hit, p⟩ hlt hne (by
      intro z
      have z' : e = it ∨ e = a := by simpa using z
      rcases z' with z' | z'
      · exact hne z'
      · exact hae z'.symm) fun y h' tk hy ho hit' hT hsz hk => ?_
    have ey : y = u := by
      have h1 : its.toArray[i]? = some u := by simpa using hu
      rw [h1] at hy
      exact (Option.some.inj hy).symm
    subst ey
    refine ⟨_, rfl, wpAny_letOwnedTupleGo_enum (s := { s with heap := h', toks := tk + 1 }) ho fun h'' he' sb => ?_⟩
    have hT2 : h''.get? s.heap.objs.size = some { cls := .type "tuple", data := .seq #[.int i tk, y] } := (sb.2 _ (Nat.ne_of_gt hel)).trans hT
    have new : ObjOk X.prog X.w (upd H s.heap.objs.size (.tup [.int (i : Nat), x])) h'' s.heap.objs.size (.tup [.int (i : Nat), x]) :=
      ⟨by show 2 ≤ sizeLine; decide, [.int i tk, y], .cons ⟨_, rfl⟩ (.cons ru .nil), ⟨_, hT2, rfl, _, rfl⟩⟩
    have I1 : Inv X pins σ (upd H s.heap.objs.size (.tup [.int (i : Nat), x])) { s with heap := h'', toks := tk + 1 } :=
      I.turnedNew (ch := [e, it]) (fun b ob hb q => (sb.2 b (fun z => hb (by simp [z]))).trans (hk b ob (fun z => hb (by simp [z])) (fun z => hb (by simp [z])) q)) hf (Nat.le_refl _) new
    refine ⟨.ref s.heap.objs.size, _, I1, rfl, ⟨_, x, rfl, I.hok.fresh (Nat.le_refl _), rfl, fun ys hy => by rw [I.tuple_inj hy hq]; exact hx⟩, ⟨⟨y, ?_⟩, hit'.1.at fun o q => (sb.2 it (Ne.symm hne)).trans q, hne, hae, hai⟩, fun b hb => ?_⟩
    · have e1 : ((i + 1 : Nat) : Int) = (i : Int) + 1 := by omega
      rw [e1]; exact he'
    · have hb' : b < s.heap.objs.size := by
        have e' : b = e ∨ b = it := by simpa using hb
        rcases e' with z | z
        · rw [z]; exact hel
        · rw [z]; exact hil
      rw [upd_ne (Nat.ne_of_lt hb')]
      exact (hf b hb).1
  done := by
    intro X hP hw hK hc i pins s σ H E I hf st hg
    subst hP hw hK
    obtain ⟨⟨old, he⟩, hit, hne, hae, hai⟩ := st
    obtain ⟨xs, hq, hx⟩ := hg
    obtain ⟨its, rv, p, hz⟩ := I.tuple hq
    have hl := rv.length
    have hn : its.toArray.size ≤ i := by simp; omega
    refine wpAny_pyNext_enum_endT (I.ok.hd hc) he hit p hn fun h' eb => ⟨rfl, ?_⟩
    obtain ⟨f0, f1, f2, f3, f4, f5⟩ := hf it (by simp)
    exact I.turned (t' := s.toks) (fun b o hb q => eb b o hb q) f0 f1 f3 f4 f5
  self := fun A i s Q E st h => let ⟨⟨_, he⟩, _⟩ := st; wpAny_pyIter_enum he h
def iEnumT (K : PySem.W.Frag) (ta : TA) : TI := fun σ H R => ta σ H fun vs H1 => ∃ a xs, vs = [.ref a] ∧ SqT K H1 a xs ∧ R (IteT K a) H1
theorem pi_enumT {X : Cx} {e : Expr} {ta : TA} {p pos tpos : Pos} {elts : List Expr} {kk : Nat} (hg : Gl X "enumerate") (hm : X.mg "enumerate" = none) (ha : PA X [e] ta) (hs : starEach [e] X.env = [(false, eval e X.env)] := by rfl) :
    PI X (.Tuple elts kk tpos) (.Call (.Name "enumerate" p) [e] [] pos) (iEnumT X.K ta) := by
  refine ⟨fun pins s σ H R I h => ?_⟩
  refine Call_ (ld_blt I hg hm boot_enumerate (PyProof.Rows.callWith_type1 (thn (ha.run pos pins s σ H _ I h) fun us s1 ⟨vs, H1, I1, r1, q1⟩ => ?_) hs rfl))
  obtain ⟨a, xs, ex, hq, q⟩ := q1
  subst ex
  cases r1 with
  | cons r rr =>
    cases rr
    cases r
    obtain ⟨its, rv, p', hz⟩ := I1.tuple hq
    have hal : a < s1.heap.objs.size := p'.lt
    refine call_enumerate_tup (begins_tuple a its.toArray) p' fun h' he hit hsz hk => wpAny_pyIter_enum he ?_
    have I2 : Inv X pins σ H1 { s1 with heap := h' } := I1.kept (t' := s1.toks) hk
    refine ⟨s1.heap.objs.size + 1, [s1.heap.objs.size + 1, s1.heap.objs.size], _, _, H1, rfl, I2, turn_enumT a (s1.heap.objs.size + 1) s1.heap.objs.size, ⟨⟨.none, he⟩, ⟨_, hit, rfl, rfl⟩, Nat.succ_ne_self _, Nat.ne_of_lt (Nat.lt_succ_of_lt hal), Nat.ne_of_lt hal⟩, fun b hb => ?_, q⟩
    have e' : b = s1.heap.objs.size + 1 ∨ b = s1.heap.objs.size := by simpa using hb
    have hle : s1.heap.objs.size ≤ b := by
      rcases e' with z | z
      · rw [z]; exact Nat.le_add_right _ _
      · rw [z]; exact Nat.le_refl _
    exact I1.fpOk hle (I1.hok.fresh hle)
end Lev
set_option linter.all false
set_option maxHeartbeats 4000000
namespace Lev
/-! ### lists of heights -/
def g (x : List Int) (i : Nat) : Int := x.getD i 0
theorem g_some {x : List Int} {i : Nat} (h : i < x.length) : x[i]? = some (g x i) := by
  unfold g
  rw [List.getD_eq_getElem?_getD, List.getElem?_eq_getElem h, Option.getD_some]
theorem g_set {x : List Int} {i j : Nat} {v : Int} (h : i < x.length) : g (x.set i v) j = if j = i then v else g x j := by
  unfold g
  rw [List.getD_eq_getElem?_getD, List.getD_eq_getElem?_getD, List.getElem?_set]
  by_cases e : j = i
  · subst e
    rw [if_pos rfl, if_pos h, if_pos rfl]
    rfl
  · rw [if_neg (fun z => e z.symm), if_neg e]
theorem g_ext {x y : List Int} (hl : x.length = y.length) (h : ∀ i, i < x.length → g x i = g y i) : x = y := by
  apply List.ext_getElem? 
  intro i
  by_cases hi : i < x.length
  · rw [g_some hi, g_some (by omega), h i hi]
  · rw [List.getElem?_eq_none (by omega), List.getElem?_eq_none (by omega)]
structure Valid (n : Nat) (R : Int) (x : List Int) : Prop where
  len : x.length = n
  ge : ∀ i, i < n → 0 ≤ g x i
  le : ∀ i, i < n → g x i ≤ R
abbrev Edges := List (Nat × Nat)
structure WebOk (n : Nat) (E : Edges) : Prop where
  lt : ∀ p ∈ E, p.1 < p.2
  bd : ∀ p ∈ E, p.2 < n
/-! ### neighbours -/
def besideB (E : Edges) (k j : Nat) : Bool := decide ((j, k) ∈ E) || decide ((k, j) ∈ E)
def beside (n : Nat) (E : Edges) (k : Nat) : List Nat := (List.range n).filter (besideB E k)
theorem mem_beside {n : Nat} {E : Edges} {k j : Nat} : j ∈ beside n E k ↔ j < n ∧ ((j, k) ∈ E ∨ (k, j) ∈ E) := by
  unfold beside besideB
  simp [List.mem_filter, List.mem_range]
/-! ### deeds -/
def upB (n : Nat) (E : Edges) (R : Int) (x : List Int) (k : Nat) : Bool := decide (g x k < R) && (beside n E k).all fun j => decide (g x k ≤ g x j)
def dnB (n : Nat) (E : Edges) (x : List Int) (k : Nat) : Bool := decide (0 < g x k) && (beside n E k).all fun j => decide (g x j ≤ g x k)
def ups (n : Nat) (E : Edges) (R : Int) (x : List Int) (m : Nat) : List (Bool × Nat) := ((List.range m).filter (upB n E R x)).map fun k => (true, k)
def dns (n : Nat) (E : Edges) (x : List Int) (m : Nat) : List (Bool × Nat) := ((List.range m).filter (dnB n E x)).map fun k => (false, k)
def deeds (n : Nat) (E : Edges) (R : Int) (x : List Int) : List (Bool × Nat) := ups n E R x n ++ dns n E x n
def stepH (x : List Int) (d : Bool × Nat) : List Int := x.set d.2 (g x d.2 + if d.1 = true then 1 else -1)
theorem ups_succ (n : Nat) (E : Edges) (R : Int) (x : List Int) (m : Nat) : ups n E R x (m + 1) = ups n E R x m ++ (if upB n E R x m = true then [(true, m)] else []) := by
  unfold ups
  rw [List.range_succ, List.filter_append, List.map_append]
  congr 1
  by_cases h : upB n E R x m = true <;> simp [h]
theorem dns_succ (n : Nat) (E : Edges) (x : List Int) (m : Nat) : dns n E x (m + 1) = dns n E x m ++ (if dnB n E x m = true then [(false, m)] else []) := by
  unfold dns
  rw [List.range_succ, List.filter_append, List.map_append]
  congr 1
  by_cases h : dnB n E x m = true <;> simp [h]
theorem upB_iff {n : Nat} {E : Edges} {R : Int} {x : List Int} {k : Nat} : upB n E R x k = true ↔ g x k < R ∧ ∀ j, j < n → ((j, k) ∈ E ∨ (k, j) ∈ E) → g x k ≤ g x j := by
  unfold upB
  rw [Bool.and_eq_true, decide_eq_true_iff, List.all_eq_true]
  constructor
  · rintro ⟨h1, h2⟩
    exact ⟨h1, fun j hj he => of_decide_eq_true (h2 j (mem_beside.mpr ⟨hj, he⟩))⟩
  · rintro ⟨h1, h2⟩
    exact ⟨h1, fun j hj => decide_eq_true (h2 j (mem_beside.mp hj).1 (mem_beside.mp hj).2)⟩
theorem dnB_iff {n : Nat} {E : Edges} {x : List Int} {k : Nat} : dnB n E x k = true ↔ 0 < g x k ∧ ∀ j, j < n → ((j, k) ∈ E ∨ (k, j) ∈ E) → g x j ≤ g x k := by
  unfold dnB
  rw [Bool.and_eq_true, decide_eq_true_iff, List.all_eq_true]
  constructor
  · rintro ⟨h1, h2⟩
    exact ⟨h1, fun j hj he => of_decide_eq_true (h2 j (mem_beside.mpr ⟨hj, he⟩))⟩
  · rintro ⟨h1, h2⟩
    exact ⟨h1, fun j hj => decide_eq_true (h2 j (mem_beside.mp hj).1 (mem_beside.mp hj).2)⟩
theorem mem_deeds {n : Nat} {E : Edges} {R : Int} {x : List Int} {d : Bool × Nat} : d ∈ deeds n E R x ↔ d.2 < n ∧ ((d.1 = true ∧ upB n E R x d.2 = true) ∨ (d.1 = false ∧ dnB n E x d.2 = true)) := by
  obtain ⟨b, k⟩ := d
  unfold deeds ups dns
  simp only [List.mem_append, List.mem_map, List.mem_filter, List.mem_range, Prod.mk.injEq]
  constructor
  · rintro (⟨a, ⟨h1, h2⟩, h3, h4⟩ | ⟨a, ⟨h1, h2⟩, h3, h4⟩)
    · subst h4
      exact ⟨h1, .inl ⟨h3.symm, h2⟩⟩
    · subst h4
      exact ⟨h1, .inr ⟨h3.symm, h2⟩⟩
  · rintro ⟨h1, ⟨h3, h2⟩ | ⟨h3, h2⟩⟩
    · exact .inl ⟨k, ⟨h1, h2⟩, h3.symm, rfl⟩
    · exact .inr ⟨k, ⟨h1, h2⟩, h3.symm, rfl⟩
theorem deeds_len (n : Nat) (E : Edges) (R : Int) (x : List Int) : (deeds n E R x).length ≤ 2 * n := by
  unfold deeds ups dns
  rw [List.length_append, List.length_map, List.length_map]
  have h1 := List.length_filter_le (upB n E R x) (List.range n)
  have h2 := List.length_filter_le (dnB n E x) (List.range n)
  rw [List.length_range] at h1 h2
  omega
/-- a least place -/
theorem least_place : ∀ (n : Nat) (f : Nat → Int), 0 < n → ∃ i, i < n ∧ ∀ j, j < n → f i ≤ f j
  | 0, _, h => absurd h (by omega)
  | 1, f, _ => ⟨0, by omega, fun j hj => by
    have : j = 0 := by omega
    subst this
    exact Int.le_refl _⟩
  | n + 2, f, _ => by
    obtain ⟨i, hi, h⟩ := least_place (n + 1) f (by omega)
    by_cases c : f i ≤ f (n + 1)
    · refine ⟨i, by omega, fun j hj => ?_⟩
      by_cases e : j = n + 1
      · rw [e]; exact c
      · exact h j (by omega)
    · refine ⟨n + 1, by omega, fun j hj => ?_⟩
      by_cases e : j = n + 1
      · rw [e]; exact Int.le_refl _
      · have := h j (by omega)
        omega
theorem deeds_pos {n : Nat} {E : Edges} {R : Int} {x : List Int} (hn : 0 < n) (hR : 1 ≤ R) (v : Valid n R x) : 0 < (deeds n E R x).length := by
  obtain ⟨i, hi, hm⟩ := least_place n (g x) hn
  have key : ∃ d, d ∈ deeds n E R x := by
    by_cases c : g x i < R
    · exact ⟨(true, i), mem_deeds.mpr ⟨hi, .inl ⟨rfl, upB_iff.mpr ⟨c, fun j hj _ => hm j hj⟩⟩⟩⟩
    · refine ⟨(false, i), mem_deeds.mpr ⟨hi, .inr ⟨rfl, dnB_iff.mpr ⟨?_, fun j hj _ => ?_⟩⟩⟩⟩
      · show 0 < g x i
        omega
      · have := v.le j hj
        show g x j ≤ g x i
        omega
  obtain ⟨d, hd⟩ := key
  exact List.length_pos_of_mem hd
theorem valid_step {n : Nat} {E : Edges} {R : Int} {x : List Int} {d : Bool × Nat} (v : Valid n R x) (h : d ∈ deeds n E R x) : Valid n R (stepH x d) := by
  obtain ⟨b, k⟩ := d
  obtain ⟨hk, hh⟩ := mem_deeds.mp h
  have hk : k < n := hk
  have hx : k < x.length := by rw [v.len]; exact hk
  unfold stepH
  refine ⟨by rw [List.length_set]; exact v.len, fun i hi => ?_, fun i hi => ?_⟩
  · rw [g_set hx]
    rcases hh with ⟨e, u⟩ | ⟨e, u⟩
    · have e : b = true := e
      subst e
      split
      · have := v.ge k hk
        simp only [if_true]
        omega
      · exact v.ge i hi
    · have e : b = false := e
      subst e
      split
      · have := (dnB_iff.mp u).1
        have : 0 < g x k := this
        simp only [Bool.false_eq_true, if_false]
        omega
      · exact v.ge i hi
  · rw [g_set hx]
    rcases hh with ⟨e, u⟩ | ⟨e, u⟩
    · have e : b = true := e
      subst e
      split
      · have := (upB_iff.mp u).1
        have : g x k < R := this
        simp only [if_true]
        omega
      · exact v.le i hi
    · have e : b = false := e
      subst e
      split
      · have := v.le k hk
        simp only [Bool.false_eq_true, if_false]
        omega
      · exact v.le i hi
/-! ### sums of differences -/
def absd (a b : Int) : Int := if a < b then b - a else a - b
theorem absd_ge (a b : Int) : 0 ≤ absd a b := by unfold absd; split <;> omega
theorem absd_self (a : Int) : absd a a = 0 := by unfold absd; split <;> omega
theorem absd_zero {a b : Int} (h : absd a b = 0) : a = b := by unfold absd at h; split at h <;> omega
theorem absd_le {a b R : Int} (h0 : 0 ≤ a) (h1 : a ≤ R) (h2 : 0 ≤ b) (h3 : b ≤ R) : absd a b ≤ R := by unfold absd; split <;> omega
def sumTo (n : Nat) (f : Nat → Int) : Int := ((List.range n).map f).sum
theorem sumTo_succ (n : Nat) (f : Nat → Int) : sumTo (n + 1) f = sumTo n f + f n := by
  unfold sumTo
  rw [List.range_succ, List.map_append, List.sum_append]
  simp
theorem sumTo_congr : ∀ (n : Nat) (f h : Nat → Int), (∀ j, j < n → f j = h j) → sumTo n f = sumTo n h
  | 0, _, _, _ => rfl
  | n + 1, f, h, e => by rw [sumTo_succ, sumTo_succ, sumTo_congr n f h fun j hj => e j (by omega), e n (by omega)]
theorem sumTo_ge : ∀ (n : Nat) (f : Nat → Int), (∀ j, j < n → 0 ≤ f j) → 0 ≤ sumTo n f
  | 0, _, _ => Int.le_refl 0
  | n + 1, f, e => by
    have h1 := sumTo_ge n f fun j hj => e j (by omega)
    have h2 := e n (by omega)
    rw [sumTo_succ]
    omega
theorem sumTo_zero : ∀ (n : Nat) (f : Nat → Int), (∀ j, j < n → 0 ≤ f j) → sumTo n f ≤ 0 → ∀ j, j < n → f j = 0
  | 0, _, _, _, j, hj => by omega
  | n + 1, f, e, h, j, hj => by
    have h1 := sumTo_ge n f fun j hj => e j (by omega)
    have h2 := e n (by omega)
    rw [sumTo_succ] at h
    by_cases c : j = n
    · subst c
      omega
    · exact sumTo_zero n f (fun j hj => e j (by omega)) (by omega) j (by omega)
theorem sumTo_le : ∀ (n : Nat) (f : Nat → Int) (R : Int), (∀ j, j < n → f j ≤ R) → sumTo n f ≤ n * R
  | 0, _, R, _ => by show (0 : Int) ≤ ((0 : Nat) : Int) * R; simp
  | n + 1, f, R, e => by
    have h1 := sumTo_le n f R fun j hj => e j (by omega)
    have h2 := e n (by omega)
    rw [sumTo_succ]
    have h3 : ((n + 1 : Nat) : Int) * R = (n : Int) * R + R := by
      rw [Int.natCast_add, Int.add_mul]
      simp
    rw [h3]
    omega
theorem sumTo_upd : ∀ (n : Nat) (f h : Nat → Int) (i : Nat), i < n → (∀ j, j ≠ i → h j = f j) → sumTo n h = sumTo n f - f i + h i
  | 0, _, _, _, hi, _ => absurd hi (by omega)
  | n + 1, f, h, i, hi, e => by
    rw [sumTo_succ, sumTo_succ]
    by_cases c : i = n
    · subst c
      rw [sumTo_congr i h f fun j hj => e j (by omega)]
      omega
    · rw [sumTo_upd n f h i (by omega) e, e n (fun z => c z.symm)]
      omega
def off (one x : List Int) : Int := sumTo one.length fun k => absd (g one k) (g x k)
theorem off_self (x : List Int) : off x x = 0 := by
  unfold off
  have h : ∀ n, sumTo n (fun k => absd (g x k) (g x k)) = 0 := fun n => by
    induction n with
    | zero => rfl
    | succ n ih => rw [sumTo_succ, ih, absd_self]; rfl
  exact h _
theorem off_ge (one x : List Int) : 0 ≤ off one x := sumTo_ge _ _ fun _ _ => absd_ge _ _
theorem off_zero {one x : List Int} (hl : one.length = x.length) (h : off one x ≤ 0) : x = one :=
  (g_ext hl fun i hi => absd_zero (sumTo_zero _ _ (fun _ _ => absd_ge _ _) h i hi)).symm
theorem off_le {n : Nat} {R : Int} {one x : List Int} (vo : Valid n R one) (vx : Valid n R x) : off one x ≤ n * R := by
  unfold off
  rw [vo.len]
  exact sumTo_le n _ R fun j hj => absd_le (vo.ge j hj) (vo.le j hj) (vx.ge j hj) (vx.le j hj)
theorem off_set {one x : List Int} {i : Nat} {v : Int} (hx : i < x.length) (ho : i < one.length) : off one (x.set i v) = off one x - absd (g one i) (g x i) + absd (g one i) v := by
  unfold off
  rw [sumTo_upd one.length (fun k => absd (g one k) (g x k)) (fun k => absd (g one k) (g (x.set i v) k)) i ho fun j hj => by rw [g_set hx, if_neg hj]]
  rw [g_set hx, if_pos rfl]
/-! ### what comes -/
def Comes (E : Edges) (one x : List Int) : Prop := ∀ p ∈ E, (g x p.1 + 2 ≤ g x p.2 → g one p.1 ≤ g x p.1 ∧ g x p.2 ≤ g one p.2) ∧ (g x p.2 + 2 ≤ g x p.1 → g one p.2 ≤ g x p.2 ∧ g x p.1 ≤ g one p.1)
theorem comes_self (E : Edges) (one : List Int) : Comes E one one := fun _ _ => ⟨fun _ => ⟨Int.le_refl _, Int.le_refl _⟩, fun _ => ⟨Int.le_refl _, Int.le_refl _⟩⟩
theorem comes_step {n : Nat} {E : Edges} {R : Int} {one x : List Int} {d : Bool × Nat} (we : WebOk n E) (v : Valid n R x) (c : Comes E one x) (h : d ∈ deeds n E R x) : Comes E one (stepH x d) := by
  obtain ⟨b, k⟩ := d
  obtain ⟨hk, hh⟩ := mem_deeds.mp h
  have hk : k < n := hk
  have hx : k < x.length := by rw [v.len]; exact hk
  intro p hp
  obtain ⟨a, e⟩ := p
  have l1 := we.lt _ hp
  have l2 := we.bd _ hp
  have c0 := c _ hp
  simp only [] at l1 l2 c0
  unfold stepH
  simp only [g_set hx]
  rcases hh with ⟨e1, u⟩ | ⟨e1, u⟩
  · have e1 : b = true := e1
    subst e1
    obtain ⟨u1, u2⟩ := upB_iff.mp u
    simp only [] at u1 u2
    by_cases ca : a = k
    · subst ca
      have := u2 e l2 (.inr hp)
      have ne : ¬ e = a := by omega
      simp only [if_true, if_neg ne]
      constructor
      · intro q
        have := c0.1 (by omega)
        omega
      · intro q
        omega
    · by_cases ce : e = k
      · subst ce
        have := u2 a (by omega) (.inl hp)
        simp only [if_true, if_neg ca]
        constructor
        · intro q
          omega
        · intro q
          have := c0.2 (by omega)
          omega
      · simp only [if_neg ca, if_neg ce]
        exact c0
  · have e1 : b = false := e1
    subst e1
    obtain ⟨u1, u2⟩ := dnB_iff.mp u
    simp only [] at u1 u2
    by_cases ca : a = k
    · subst ca
      have := u2 e l2 (.inr hp)
      have ne : ¬ e = a := by omega
      simp only [if_true, if_neg ne, Bool.false_eq_true, if_false]
      constructor
      · intro q
        omega
      · intro q
        have := c0.2 (by omega)
        omega
    · by_cases ce : e = k
      · subst ce
        have := u2 a (by omega) (.inl hp)
        simp only [if_true, if_neg ca, Bool.false_eq_true, if_false]
        constructor
        · intro q
          have := c0.1 (by omega)
          omega
        · intro q
          omega
      · simp only [if_neg ca, if_neg ce]
        exact c0
theorem off_step {n : Nat} {E : Edges} {R : Int} {one x : List Int} {d : Bool × Nat} (vo : Valid n R one) (v : Valid n R x) (h : d ∈ deeds n E R x) : off one (stepH x d) ≤ off one x + 1 := by
  obtain ⟨b, k⟩ := d
  obtain ⟨hk, _⟩ := mem_deeds.mp h
  have hk : k < n := hk
  unfold stepH
  rw [off_set (by rw [v.len]; exact hk) (by rw [vo.len]; exact hk)]
  simp only []
  cases b <;> (simp only [Bool.false_eq_true, if_false, if_true]; unfold absd; repeat' split) <;> omega
/-- the last deed of a shortest way -/
theorem comes_back {n : Nat} {E : Edges} {R : Int} {one y : List Int} (we : WebOk n E) (vo : Valid n R one) (v : Valid n R y) (c : Comes E one y) (hne : 0 < off one y) :
    ∃ (x : List Int) (d : Bool × Nat), Valid n R x ∧ Comes E one x ∧ d ∈ deeds n E R x ∧ stepH x d = y ∧ off one x = off one y - 1 := by
  -- a place too high, the highest such; else one too low, the lowest such
  have pickMax : ∀ m, (∃ i, i < m ∧ g one i < g y i) → ∃ i, i < m ∧ g one i < g y i ∧ ∀ j, j < m → g one j < g y j → g y j ≤ g y i := by
    intro m
    induction m with
    | zero => rintro ⟨i, hi, _⟩; omega
    | succ m ih =>
      rintro ⟨i, hi, hh⟩
      by_cases q : ∃ i, i < m ∧ g one i < g y i
      · obtain ⟨i1, h1, h2, h3⟩ := ih q
        by_cases z : g one m < g y m ∧ g y i1 < g y m
        · refine ⟨m, by omega, z.1, fun j hj hj2 => ?_⟩
          by_cases e : j = m
          · rw [e]; exact Int.le_refl _
          · have := h3 j (by omega) hj2
            omega
        · refine ⟨i1, by omega, h2, fun j hj hj2 => ?_⟩
          by_cases e : j = m
          · subst e
            omega
          · exact h3 j (by omega) hj2
      · have e : i = m := by
          by_cases e : i = m
          · exact e
          · exact absurd ⟨i, by omega, hh⟩ q
        subst e
        refine ⟨i, by omega, hh, fun j hj hj2 => ?_⟩
        by_cases e : j = i
        · rw [e]; exact Int.le_refl _
        · exact absurd ⟨j, by omega, hj2⟩ q
  have pickMin : ∀ m, (∃ i, i < m ∧ g y i < g one i) → ∃ i, i < m ∧ g y i < g one i ∧ ∀ j, j < m → g y j < g one j → g y i ≤ g y j := by
    intro m
    induction m with
    | zero => rintro ⟨i, hi, _⟩; omega
    | succ m ih =>
      rintro ⟨i, hi, hh⟩
      by_cases q : ∃ i, i < m ∧ g y i < g one i
      · obtain ⟨i1, h1, h2, h3⟩ := ih q
        by_cases z : g y m < g one m ∧ g y m < g y i1
        · refine ⟨m, by omega, z.1, fun j hj hj2 => ?_⟩
          by_cases e : j = m
          · rw [e]; exact Int.le_refl _
          · have := h3 j (by omega) hj2
            omega
        · refine ⟨i1, by omega, h2, fun j hj hj2 => ?_⟩
          by_cases e : j = m
          · subst e
            omega
          · exact h3 j (by omega) hj2
      · have e : i = m := by
          by_cases e : i = m
          · exact e
          · exact absurd ⟨i, by omega, hh⟩ q
        subst e
        refine ⟨i, by omega, hh, fun j hj hj2 => ?_⟩
        by_cases e : j = i
        · rw [e]; exact Int.le_refl _
        · exact absurd ⟨j, by omega, hj2⟩ q
  by_cases hA : ∃ i, i < n ∧ g one i < g y i
  · obtain ⟨i, hi, h1, h2⟩ := pickMax n hA
    have hy : i < y.length := by rw [v.len]; exact hi
    have ho : i < one.length := by rw [vo.len]; exact hi
    have hx : i < (y.set i (g y i - 1)).length := by rw [List.length_set]; exact hy
    have o0 := vo.ge i hi
    have y1 := v.le i hi
    refine ⟨y.set i (g y i - 1), (true, i), ⟨by rw [List.length_set]; exact v.len, fun j hj => ?_, fun j hj => ?_⟩, ?_, ?_, ?_, ?_⟩
    · rw [g_set hy]
      split
      · omega
      · exact v.ge j hj
    · rw [g_set hy]
      split
      · omega
      · exact v.le j hj
    · intro p hp
      obtain ⟨a, e⟩ := p
      have l1 := we.lt _ hp
      have l2 := we.bd _ hp
      have c0 := c _ hp
      simp only [] at l1 l2 c0
      simp only [g_set hy]
      by_cases ca : a = i
      · subst ca
        have ne : ¬ e = a := by omega
        simp only [if_true, if_neg ne]
        constructor
        · intro q
          by_cases z : g one e < g y e
          · have := h2 e l2 z
            omega
          · omega
        · intro q
          have := c0.2 (by omega)
          omega
      · by_cases ce : e = i
        · subst ce
          simp only [if_true, if_neg ca]
          constructor
          · intro q
            have := c0.1 (by omega)
            omega
          · intro q
            by_cases z : g one a < g y a
            · have := h2 a (by omega) z
              omega
            · omega
        · simp only [if_neg ca, if_neg ce]
          exact c0
    · refine mem_deeds.mpr ⟨hi, .inl ⟨rfl, upB_iff.mpr ⟨?_, fun j hj he => ?_⟩⟩⟩
      · simp only [g_set hy, if_true]
        omega
      · simp only [g_set hy, if_true]
        split
        · omega
        · rcases he with he | he
          · have c0 := c _ he
            simp only [] at c0
            by_cases z : g y j + 2 ≤ g y i
            · have := c0.1 z
              omega
            · omega
          · have c0 := c _ he
            simp only [] at c0
            by_cases z : g y j + 2 ≤ g y i
            · have := c0.2 z
              omega
            · omega
    · unfold stepH
      simp only [if_true]
      rw [g_set hy, if_pos rfl, List.set_set]
      apply g_ext (by rw [List.length_set])
      intro j hj
      rw [g_set hy]
      split
      · rename_i z
        rw [z]
        omega
      · rfl
    · rw [off_set hy ho]
      unfold absd
      repeat' split
      all_goals omega
  · by_cases hB : ∃ i, i < n ∧ g y i < g one i
    · obtain ⟨i, hi, h1, h2⟩ := pickMin n hB
      have hy : i < y.length := by rw [v.len]; exact hi
      have ho : i < one.length := by rw [vo.len]; exact hi
      have o0 := vo.le i hi
      have y1 := v.ge i hi
      refine ⟨y.set i (g y i + 1), (false, i), ⟨by rw [List.length_set]; exact v.len, fun j hj => ?_, fun j hj => ?_⟩, ?_, ?_, ?_, ?_⟩
      · rw [g_set hy]
        split
        · omega
        · exact v.ge j hj
      · rw [g_set hy]
        split
        · omega
        · exact v.le j hj
      · intro p hp
        obtain ⟨a, e⟩ := p
        have l1 := we.lt _ hp
        have l2 := we.bd _ hp
        have c0 := c _ hp
        simp only [] at l1 l2 c0
        simp only [g_set hy]
        by_cases ca : a = i
        · subst ca
          have ne : ¬ e = a := by omega
          simp only [if_true, if_neg ne]
          constructor
          · intro q
            have := c0.1 (by omega)
            omega
          · intro q
            by_cases z : g y e < g one e
            · have := h2 e l2 z
              omega
            · omega
        · by_cases ce : e = i
          · subst ce
            simp only [if_true, if_neg ca]
            constructor
            · intro q
              by_cases z : g y a < g one a
              · have := h2 a (by omega) z
                omega
              · omega
            · intro q
              have := c0.2 (by omega)
              omega
          · simp only [if_neg ca, if_neg ce]
            exact c0
      · refine mem_deeds.mpr ⟨hi, .inr ⟨rfl, dnB_iff.mpr ⟨?_, fun j hj he => ?_⟩⟩⟩
        · simp only [g_set hy, if_true]
          omega
        · simp only [g_set hy, if_true]
          split
          · omega
          · rcases he with he | he
            · have c0 := c _ he
              simp only [] at c0
              by_cases z : g y i + 2 ≤ g y j
              · have := c0.2 z
                omega
              · omega
            · have c0 := c _ he
              simp only [] at c0
              by_cases z : g y i + 2 ≤ g y j
              · have := c0.1 z
                omega
              · omega
      · unfold stepH
        simp only [Bool.false_eq_true, if_false]
        rw [g_set hy, if_pos rfl, List.set_set]
        apply g_ext (by rw [List.length_set])
        intro j hj
        rw [g_set hy]
        split
        · rename_i z
          rw [z]
          omega
        · rfl
      · rw [off_set hy ho]
        unfold absd
        repeat' split
        all_goals omega
    · have e : off one y = 0 := by
        have hz : y = one := (g_ext (by rw [vo.len, v.len]) fun i hi => by
          have hi' : i < n := by rw [← vo.len]; exact hi
          have a1 : ¬ g one i < g y i := fun z => hA ⟨i, hi', z⟩
          have a2 : ¬ g y i < g one i := fun z => hB ⟨i, hi', z⟩
          omega).symm
        rw [hz]
        exact off_self one
      omega
end Lev
set_option linter.all false
set_option maxHeartbeats 4000000
namespace Lev
/-! ### sorted pairs -/
def pc (p : Nat × Nat) : Nat := p.1 * 64 + p.2
theorem pc_inj {p q : Nat × Nat} (h1 : p.2 < 64) (h2 : q.2 < 64) (e : pc p = pc q) : p = q := by
  obtain ⟨a, b⟩ := p
  obtain ⟨c, d⟩ := q
  unfold pc at e
  simp only [] at h1 h2 e
  have : a = c := by omega
  subst this
  have : b = d := by omega
  rw [this]
abbrev Srt (L : Edges) : Prop := L.Pairwise fun p q => pc p ≤ pc q
theorem srt_uniq : ∀ {L M : Edges}, L.Perm M → Srt L → Srt M → (∀ p ∈ L, p.2 < 64) → L = M
  | [], M, h, _, _, _ => (List.Perm.eq_nil h.symm).symm
  | x :: L, [], h, _, _, _ => absurd h.length_eq (by simp)
  | x :: L, y :: M, h, hl, hm, hb => by
    obtain ⟨l1, l2⟩ := List.pairwise_cons.mp hl
    obtain ⟨m1, m2⟩ := List.pairwise_cons.mp hm
    have hx : x ∈ y :: M := h.mem_iff.mp (List.mem_cons_self ..)
    have hy : y ∈ x :: L := h.mem_iff.mpr (List.mem_cons_self ..)
    have a1 : pc y ≤ pc x := by
      rcases List.mem_cons.mp hx with e | q
      · rw [e]; exact Nat.le_refl _
      · exact m1 x q
    have a2 : pc x ≤ pc y := by
      rcases List.mem_cons.mp hy with e | q
      · rw [e]; exact Nat.le_refl _
      · exact l1 y q
    have e : x = y := pc_inj (hb x (List.mem_cons_self ..)) (hb y hy) (by omega)
    subst e
    rw [srt_uniq (List.Perm.cons_inv h) l2 m2 fun p hp => hb p (List.mem_cons_of_mem _ hp)]
def sortP (L : Edges) : Edges := L.mergeSort fun p q => decide (pc p ≤ pc q)
theorem sortP_perm (L : Edges) : (sortP L).Perm L := List.mergeSort_perm ..
theorem sortP_srt (L : Edges) : Srt (sortP L) := by
  have h := List.pairwise_mergeSort (le := fun p q : Nat × Nat => decide (pc p ≤ pc q)) (by
    intro a b c h1 h2
    have := of_decide_eq_true h1
    have := of_decide_eq_true h2
    exact decide_eq_true (by omega)) (by
    intro a b
    simp only [Bool.or_eq_true, decide_eq_true_eq]
    omega) L
  exact h.imp fun h => of_decide_eq_true h
theorem sortP_eq {L M : Edges} (h : M.Perm L) (s : Srt M) (hb : ∀ p ∈ L, p.2 < 64) : M = sortP L :=
  srt_uniq (h.trans (sortP_perm L).symm) s (sortP_srt L) fun p hp => hb p (h.mem_iff.mp hp)
theorem sortP_congr {L M : Edges} (h : M.Perm L) (hb : ∀ p ∈ L, p.2 < 64) : sortP M = sortP L := sortP_eq ((sortP_perm M).trans h) (sortP_srt M) hb
theorem mem_sortP {L : Edges} {p : Nat × Nat} : p ∈ sortP L ↔ p ∈ L := (sortP_perm L).mem_iff
/-! ### steep edges -/
def steep1 (x : List Int) (p : Nat × Nat) : Edges := if g x p.2 - g x p.1 ≥ 2 then [(p.1, p.2)] else if g x p.1 - g x p.2 ≥ 2 then [(p.2, p.1)] else []
def steepL (E : Edges) (x : List Int) : Edges := E.flatMap (steep1 x)
theorem steepL_snoc (E : Edges) (p : Nat × Nat) (x : List Int) : steepL (E ++ [p]) x = steepL E x ++ steep1 x p := by
  unfold steepL
  rw [List.flatMap_append]
  simp
theorem steep1_len (x : List Int) (p : Nat × Nat) : (steep1 x p).length ≤ 1 := by
  unfold steep1
  split
  · exact Nat.le_refl _
  · split
    · exact Nat.le_refl _
    · exact Nat.zero_le _
theorem steepL_len : ∀ (E : Edges) (x : List Int), (steepL E x).length ≤ E.length
  | [], _ => Nat.le_refl _
  | p :: E, x => by
    have h1 := steep1_len x p
    have h2 := steepL_len E x
    show (List.flatMap (steep1 x) (p :: E)).length ≤ E.length + 1
    rw [List.flatMap_cons, List.length_append]
    have h2 : (List.flatMap (steep1 x) E).length ≤ E.length := h2
    omega
theorem mem_steepL {E : Edges} {x : List Int} {q : Nat × Nat} : q ∈ steepL E x ↔ (g x q.1 + 2 ≤ g x q.2 ∧ (q ∈ E ∨ (q.2, q.1) ∈ E)) := by
  unfold steepL steep1
  rw [List.mem_flatMap]
  constructor
  · rintro ⟨⟨a, b⟩, hp, hq⟩
    simp only [] at hq
    split at hq
    · rw [List.mem_singleton] at hq
      subst hq
      exact ⟨by simp only []; omega, .inl hp⟩
    · split at hq
      · rw [List.mem_singleton] at hq
        subst hq
        exact ⟨by simp only []; omega, .inr hp⟩
      · cases hq
  · obtain ⟨a, b⟩ := q
    simp only []
    rintro ⟨h1, h2 | h2⟩
    · exact ⟨(a, b), h2, by rw [if_pos (show g x b - g x a ≥ 2 by omega)]; simp⟩
    · exact ⟨(b, a), h2, by rw [if_neg (show ¬ g x a - g x b ≥ 2 by omega), if_pos (show g x b - g x a ≥ 2 by omega)]; simp⟩
def steepA (E : Edges) (x : List Int) : Edges := E.filter fun p => decide (g x p.2 > g x p.1 + 1)
def steepB (E : Edges) (x : List Int) : Edges := (E.filter fun p => decide (g x p.1 > g x p.2 + 1)).map fun p => (p.2, p.1)
theorem steepAB : ∀ (E : Edges) (x : List Int), (steepA E x ++ steepB E x).Perm (steepL E x)
  | [], _ => List.Perm.refl _
  | p :: E, x => by
    have ih := steepAB E x
    show ((p :: E).filter (fun p => decide (g x p.2 > g x p.1 + 1)) ++ ((p :: E).filter (fun p => decide (g x p.1 > g x p.2 + 1))).map (fun p => (p.2, p.1))).Perm (List.flatMap (steep1 x) (p :: E))
    have ih : (E.filter (fun p => decide (g x p.2 > g x p.1 + 1)) ++ (E.filter (fun p => decide (g x p.1 > g x p.2 + 1))).map (fun p => (p.2, p.1))).Perm (List.flatMap (steep1 x) E) := ih
    rw [List.flatMap_cons, List.filter_cons, List.filter_cons]
    unfold steep1
    by_cases c1 : g x p.2 - g x p.1 ≥ 2
    · rw [if_pos (decide_eq_true (show g x p.2 > g x p.1 + 1 by omega)), if_neg (by simp; omega), if_pos c1]
      exact ih.cons _
    · by_cases c2 : g x p.1 - g x p.2 ≥ 2
      · rw [if_neg (by simp; omega), if_pos (decide_eq_true (show g x p.1 > g x p.2 + 1 by omega)), if_neg c1, if_pos c2, List.map_cons]
        refine List.Perm.trans List.perm_middle ?_
        exact ih.cons _
      · rw [if_neg (by simp; omega), if_neg (by simp; omega), if_neg c1, if_neg c2]
        exact ih
def barB (one x : List Int) (e : Nat × Nat) : Bool := decide (g one e.1 > g x e.1) || decide (g x e.2 > g one e.2)
def bar (one x : List Int) (L : Edges) : Edges := L.filter (barB one x)
theorem bar_nil {E : Edges} {one x : List Int} : bar one x (sortP (steepL E x)) = [] ↔ Comes E one x := by
  unfold bar
  rw [List.filter_eq_nil_iff]
  constructor
  · intro h p hp
    constructor
    · intro q
      have z := h p (mem_sortP.mpr (mem_steepL.mpr ⟨q, .inl hp⟩))
      unfold barB at z
      simp only [Bool.or_eq_true, decide_eq_true_eq] at z
      omega
    · intro q
      have z := h (p.2, p.1) (mem_sortP.mpr (mem_steepL.mpr ⟨q, .inr hp⟩))
      unfold barB at z
      simp only [Bool.or_eq_true, decide_eq_true_eq] at z
      omega
  · intro c q hq z
    obtain ⟨h1, h2⟩ := mem_steepL.mp (mem_sortP.mp hq)
    unfold barB at z
    simp only [Bool.or_eq_true, decide_eq_true_eq] at z
    rcases h2 with h2 | h2
    · have := (c _ h2).1 h1
      omega
    · have := (c _ h2).2 h1
      simp only [] at this
      omega
/-! ### the widening search -/
abbrev Tab := List (List Int × Int)
def keysOf (F : Tab) : List (List Int) := F.map (·.1)
def look (F : Tab) (x : List Int) : Option Int := (F.find? fun p => decide (p.1 = x)).map (·.2)
theorem look_some {F : Tab} {x : List Int} {d : Int} (h : look F x = some d) : (x, d) ∈ F := by
  unfold look at h
  obtain ⟨p, hp, e⟩ := Option.map_eq_some_iff.mp h
  have h1 := List.find?_some hp
  have h2 := List.mem_of_find?_eq_some hp
  have h1 : p.1 = x := of_decide_eq_true h1
  rw [← h1, ← e]
  exact h2
theorem look_none {F : Tab} {x : List Int} (h : look F x = none) : x ∉ keysOf F := by
  unfold look at h
  rw [Option.map_eq_none_iff, List.find?_eq_none] at h
  intro hm
  obtain ⟨p, hp, e⟩ := List.mem_map.mp hm
  exact h p hp (decide_eq_true e)
theorem look_mem {F : Tab} {x : List Int} {d : Int} (h : look F x = some d) : x ∈ keysOf F := List.mem_map.mpr ⟨_, look_some h, rfl⟩
theorem look_of {F : Tab} {x : List Int} (h : x ∈ keysOf F) : ∃ d, look F x = some d := by
  cases e : look F x with
  | some d => exact ⟨d, rfl⟩
  | none => exact absurd h (look_none e)
section
variable {n : Nat} {E : Edges} {R : Int} {one : List Int}
structure Lvl (n : Nat) (E : Edges) (R : Int) (one : List Int) (k : Int) (F : Tab) (rows : List (List Int)) : Prop where
  nd : (keysOf F).Nodup
  snd : ∀ p ∈ F, Valid n R p.1 ∧ Comes E one p.1 ∧ p.2 = off one p.1 ∧ off one p.1 ≤ k
  all : ∀ x, Valid n R x → Comes E one x → off one x ≤ k → x ∈ keysOf F
  rws : ∀ x, x ∈ rows ↔ (Valid n R x ∧ Comes E one x ∧ off one x = k)
structure Mid (n : Nat) (E : Edges) (R : Int) (one : List Int) (k : Int) (dn : List (List Int)) (F : Tab) (M : List (List Int)) : Prop where
  nd : (keysOf F).Nodup
  snd : ∀ p ∈ F, Valid n R p.1 ∧ Comes E one p.1 ∧ p.2 = off one p.1 ∧ off one p.1 ≤ k + 1
  all : ∀ x, Valid n R x → Comes E one x → off one x ≤ k → x ∈ keysOf F
  more : ∀ x, x ∈ M ↔ (x ∈ keysOf F ∧ off one x = k + 1)
  dne : ∀ x ∈ dn, x ∈ keysOf F
  lenM : M.length ≤ F.length
theorem lvl_start (vo : Valid n R one) : Lvl n E R one 0 [(one, 0)] [one] where
  nd := by simp [keysOf]
  snd := fun p hp => by
    rw [List.mem_singleton] at hp
    subst hp
    exact ⟨vo, comes_self E one, (off_self one).symm, by rw [off_self]; exact Int.le_refl 0⟩
  all := fun x v c h => by
    have e : x = one := off_zero (by rw [vo.len, v.len]) h
    rw [e]
    simp [keysOf]
  rws := fun x => by
    rw [List.mem_singleton]
    constructor
    · intro e
      rw [e]
      exact ⟨vo, comes_self E one, off_self one⟩
    · rintro ⟨v, _, h⟩
      exact off_zero (by rw [vo.len, v.len]) (by omega)
theorem Lvl.mid {k : Int} {F : Tab} {rows : List (List Int)} (l : Lvl n E R one k F rows) : Mid n E R one k [] F [] where
  nd := l.nd
  snd := fun p hp => let ⟨a, b, c, d⟩ := l.snd p hp; ⟨a, b, c, by omega⟩
  all := l.all
  more := fun x => by
    constructor
    · intro h; cases h
    · rintro ⟨h, e⟩
      obtain ⟨p, hp, e1⟩ := List.mem_map.mp h
      have := (l.snd p hp).2.2.2
      have e1 : p.1 = x := e1
      rw [e1] at this
      omega
  dne := fun x hx => by cases hx
  lenM := Nat.zero_le _
theorem Mid.had {k : Int} {dn : List (List Int)} {F : Tab} {M : List (List Int)} {y : List Int} (m : Mid n E R one k dn F M) (h : y ∈ keysOf F) : Mid n E R one k (dn ++ [y]) F M where
  nd := m.nd
  snd := m.snd
  all := m.all
  more := m.more
  dne := fun x hx => by
    rcases List.mem_append.mp hx with q | q
    · exact m.dne x q
    · rw [List.mem_singleton.mp q]; exact h
  lenM := m.lenM
theorem nd_snoc' {α : Type} : ∀ {l : List α} {k : α}, l.Nodup → ¬ k ∈ l → (l ++ [k]).Nodup
  | [], k, _, _ => by simp
  | a :: r, k, h, hk => by
    obtain ⟨h1, h2⟩ := List.nodup_cons.mp h
    show (a :: (r ++ [k])).Nodup
    refine List.nodup_cons.mpr ⟨fun m => ?_, nd_snoc' h2 fun m => hk (List.mem_cons.mpr (Or.inr m))⟩
    rcases List.mem_append.mp m with q | q
    · exact h1 q
    · exact hk (List.mem_cons.mpr (Or.inl (List.mem_singleton.mp q).symm))
theorem Mid.add {k : Int} {dn : List (List Int)} {F : Tab} {M : List (List Int)} {x : List Int} {d : Bool × Nat} (we : WebOk n E) (vo : Valid n R one) (m : Mid n E R one k dn F M)
    (vx : Valid n R x) (cx : Comes E one x) (hx : off one x = k) (hd : d ∈ deeds n E R x) (hn : stepH x d ∉ keysOf F) : Mid n E R one k (dn ++ [stepH x d]) (F ++ [(stepH x d, k + 1)]) (M ++ [stepH x d]) := by
  have vy := valid_step vx hd
  have cy := comes_step we vx cx hd
  have oy := off_step vo vx hd
  have ey : off one (stepH x d) = k + 1 := by
    by_cases q : off one (stepH x d) ≤ k
    · exact absurd (m.all _ vy cy q) hn
    · omega
  have ek : keysOf (F ++ [(stepH x d, k + 1)]) = keysOf F ++ [stepH x d] := by
    unfold keysOf
    rw [List.map_append]
    rfl
  refine ⟨?_, fun p hp => ?_, fun z vz cz hz => ?_, fun z => ?_, fun z hz => ?_, ?_⟩
  · rw [ek]
    exact nd_snoc' m.nd hn
  · rcases List.mem_append.mp hp with q | q
    · exact m.snd p q
    · rw [List.mem_singleton.mp q]
      exact ⟨vy, cy, ey.symm, by simp only []; omega⟩
  · rw [ek]
    exact List.mem_append.mpr (.inl (m.all z vz cz hz))
  · rw [ek, List.mem_append, List.mem_append, List.mem_singleton]
    constructor
    · rintro (q | q)
      · obtain ⟨a, b⟩ := (m.more z).mp q
        exact ⟨.inl a, b⟩
      · rw [q]
        exact ⟨.inr rfl, ey⟩
    · rintro ⟨q | q, e⟩
      · exact .inl ((m.more z).mpr ⟨q, e⟩)
      · exact .inr q
  · rw [ek]
    rcases List.mem_append.mp hz with q | q
    · exact List.mem_append.mpr (.inl (m.dne z q))
    · exact List.mem_append.mpr (.inr q)
  · rw [List.length_append, List.length_append]
    have := m.lenM
    simp only [List.length_singleton]
    omega
theorem Mid.close {k : Int} {dn : List (List Int)} {F F0 : Tab} {M rows : List (List Int)} (we : WebOk n E) (vo : Valid n R one) (hk : 0 ≤ k) (l : Lvl n E R one k F0 rows) (m : Mid n E R one k dn F M)
    (hd : ∀ x ∈ rows, ∀ d ∈ deeds n E R x, stepH x d ∈ dn) : Lvl n E R one (k + 1) F M where
  nd := m.nd
  snd := m.snd
  all := fun y vy cy hy => by
    by_cases q : off one y ≤ k
    · exact m.all y vy cy q
    · obtain ⟨x, d, vx, cx, hx, e, eo⟩ := comes_back we vo vy cy (by omega)
      have hr : x ∈ rows := (l.rws x).mpr ⟨vx, cx, by omega⟩
      have := m.dne _ (hd x hr d hx)
      rw [e] at this
      exact this
  rws := fun y => by
    rw [m.more y]
    constructor
    · rintro ⟨h, e⟩
      obtain ⟨p, hp, e1⟩ := List.mem_map.mp h
      obtain ⟨a, b, _, _⟩ := m.snd p hp
      have e1 : p.1 = y := e1
      rw [e1] at a b
      exact ⟨a, b, e⟩
    · rintro ⟨vy, cy, hy⟩
      refine ⟨?_, hy⟩
      obtain ⟨x, d, vx, cx, hx, e, eo⟩ := comes_back we vo vy cy (by omega)
      have hr : x ∈ rows := (l.rws x).mpr ⟨vx, cx, by omega⟩
      have := m.dne _ (hd x hr d hx)
      rw [e] at this
      exact this
/-- nothing more: all that comes is there -/
theorem Lvl.fin {k : Int} {F : Tab} (we : WebOk n E) (vo : Valid n R one) (hk : 0 ≤ k) (l : Lvl n E R one k F []) : ∀ x, Valid n R x → Comes E one x → x ∈ keysOf F := by
  have key : ∀ m : Nat, ∀ x, Valid n R x → Comes E one x → off one x = k + (m : Int) → False := by
    intro m
    induction m with
    | zero =>
      intro x v c e
      have := (l.rws x).mpr ⟨v, c, by omega⟩
      cases this
    | succ m ih =>
      intro y vy cy e
      obtain ⟨x, d, vx, cx, hx, e1, eo⟩ := comes_back we vo vy cy (by omega)
      exact ih x vx cx (by omega)
  intro x v c
  by_cases q : off one x ≤ k
  · exact l.all x v c q
  · exact absurd (by omega) (fun e : off one x = k + ((off one x - k).toNat : Int) => key _ x v c e)
/-- what the search has told -/
structure Known (n : Nat) (E : Edges) (R : Int) (one : List Int) (F : Tab) : Prop where
  there : ∀ x d, look F x = some d → Comes E one x ∧ d = off one x
  all : ∀ x, Valid n R x → Comes E one x → ∃ d, look F x = some d
theorem Lvl.known {k : Int} {F : Tab} (we : WebOk n E) (vo : Valid n R one) (hk : 0 ≤ k) (l : Lvl n E R one k F []) : Known n E R one F where
  there := fun x d h => by
    obtain ⟨_, b, c, _⟩ := l.snd _ (look_some h)
    exact ⟨b, c⟩
  all := fun x v c => look_of (l.fin we vo hk x v c)
/-! ### how many heights -/
def code : List Int → Nat
  | [] => 0
  | v :: r => v.toNat + 6 * code r
theorem code_inj : ∀ {x y : List Int}, x.length = y.length → (∀ v ∈ x, 0 ≤ v ∧ v ≤ 5) → (∀ v ∈ y, 0 ≤ v ∧ v ≤ 5) → code x = code y → x = y
  | [], [], _, _, _, _ => rfl
  | [], _ :: _, h, _, _, _ => by simp at h
  | _ :: _, [], h, _, _, _ => by simp at h
  | a :: x, b :: y, h, hx, hy, e => by
    have h1 := hx a (List.mem_cons_self ..)
    have h2 := hy b (List.mem_cons_self ..)
    have e : a.toNat + 6 * code x = b.toNat + 6 * code y := e
    have e1 : a = b := by omega
    have e2 : code x = code y := by omega
    rw [e1, code_inj (by simpa using h) (fun v hv => hx v (List.mem_cons_of_mem _ hv)) (fun v hv => hy v (List.mem_cons_of_mem _ hv)) e2]
theorem code_lt : ∀ {x : List Int} {m : Nat}, x.length ≤ m → (∀ v ∈ x, 0 ≤ v ∧ v ≤ 5) → code x < 6 ^ m
  | [], m, _, _ => Nat.pow_pos (by decide)
  | a :: x, 0, h, _ => by simp at h
  | a :: x, m + 1, h, hx => by
    have h1 := hx a (List.mem_cons_self ..)
    have ih : code x < 6 ^ m := code_lt (by simpa using h) fun v hv => hx v (List.mem_cons_of_mem _ hv)
    show a.toNat + 6 * code x < 6 ^ (m + 1)
    rw [Nat.pow_succ]
    omega
theorem nodup_lt : ∀ (m : Nat) (l : List Nat), l.Nodup → (∀ a ∈ l, a < m) → l.length ≤ m
  | 0, [], _, _ => Nat.le_refl _
  | 0, a :: l, _, h => absurd (h a (List.mem_cons_self ..)) (Nat.not_lt_zero _)
  | m + 1, l, hn, h => by
    have h1 := nodup_lt m (l.filter fun a => decide (a ≠ m)) (hn.filter _) fun a ha => by
      obtain ⟨h1, h2⟩ := List.mem_filter.mp ha
      have := h a h1
      have := of_decide_eq_true h2
      omega
    have h2 : l.length ≤ (l.filter fun a => decide (a ≠ m)).length + 1 := by
      clear h1 h
      induction l with
      | nil => exact Nat.zero_le _
      | cons b l ih =>
        obtain ⟨n1, n2⟩ := List.nodup_cons.mp hn
        rw [List.filter_cons]
        by_cases e : b = m
        · rw [if_neg (by simp [e])]
          have e2 : l.filter (fun a => decide (a ≠ m)) = l := List.filter_eq_self.mpr fun a ha => decide_eq_true fun q => n1 (by rw [e, ← q]; exact ha)
          rw [e2]
          exact Nat.le_refl _
        · rw [if_pos (decide_eq_true e)]
          have := ih n2
          simp only [List.length_cons]
          omega
    omega
theorem valid_mem {x : List Int} (v : Valid n R x) (hR : R ≤ 5) : ∀ a ∈ x, 0 ≤ a ∧ a ≤ 5 := fun a ha => by
  obtain ⟨i, hi, e⟩ := List.getElem_of_mem ha
  have hi' : i < n := by rw [← v.len]; exact hi
  have h1 := v.ge i hi'
  have h2 := v.le i hi'
  have e2 : g x i = a := by
    have := g_some hi
    rw [List.getElem?_eq_getElem hi] at this
    rw [← e]
    exact (Option.some.inj this).symm
  omega
theorem tab_len {F : Tab} (hn : n ≤ 5) (hR : R ≤ 5) (nd : (keysOf F).Nodup) (hv : ∀ p ∈ F, Valid n R p.1) : F.length ≤ 7776 := by
  have h1 : ((keysOf F).map code).Nodup := by
    rw [List.Nodup, List.pairwise_map]
    refine List.Pairwise.imp_of_mem (fun {x y} hx hy hne e => hne ?_) nd
    obtain ⟨p, hp, ep⟩ := List.mem_map.mp hx
    obtain ⟨q, hq, eq⟩ := List.mem_map.mp hy
    have vp := hv p hp
    have vq := hv q hq
    have ep : p.1 = x := ep
    have eq : q.1 = y := eq
    rw [ep] at vp
    rw [eq] at vq
    exact code_inj (by rw [vp.len, vq.len]) (valid_mem vp hR) (valid_mem vq hR) e
  have h2 := nodup_lt (6 ^ 5) _ h1 fun a ha => by
    obtain ⟨x, hx, e⟩ := List.mem_map.mp ha
    obtain ⟨p, hp, ep⟩ := List.mem_map.mp hx
    have vp := hv p hp
    have ep : p.1 = x := ep
    rw [ep] at vp
    rw [← e]
    exact code_lt (by rw [vp.len]; exact hn) (valid_mem vp hR)
  unfold keysOf at h2
  rw [List.length_map, List.length_map] at h2
  exact h2
theorem Mid.len {k : Int} {dn : List (List Int)} {F : Tab} {M : List (List Int)} (m : Mid n E R one k dn F M) (hn : n ≤ 5) (hR : R ≤ 5) : F.length ≤ 7776 := tab_len hn hR m.nd fun p hp => (m.snd p hp).1
end
end Lev
set_option Elab.async false
set_option linter.all false
set_option maxRecDepth 100000
set_option maxHeartbeats 4000000
namespace Lev
open PySem PySem.Spec PyProof.Rows L2
/-! ### built-in names -/
theorem bt_isinstance : bootBuiltins "isinstance" = some (.builtin "isinstance") := by decide +kernel
theorem bt_tuple : bootBuiltins "tuple" = some (.type "tuple") := by decide +kernel
theorem bt_list : bootBuiltins "list" = some (.type "list") := by decide +kernel
theorem bt_int : bootBuiltins "int" = some (.type "int") := by decide +kernel
theorem bt_bool : bootBuiltins "bool" = some (.type "bool") := by decide +kernel
theorem bt_str : bootBuiltins "str" = some (.type "str") := by decide +kernel
theorem bt_len : bootBuiltins "len" = some (.builtin "len") := by decide +kernel
theorem bt_sorted : bootBuiltins "sorted" = some (.builtin "sorted") := by decide +kernel
theorem bt_set : bootBuiltins "set" = some (.type "set") := by decide +kernel
theorem bt_sum : bootBuiltins "sum" = some (.builtin "sum") := by decide +kernel
theorem bt_abs : bootBuiltins "abs" = some (.builtin "abs") := by decide +kernel
theorem bt_min : bootBuiltins "min" = some (.builtin "min") := by decide +kernel
theorem bt_max : bootBuiltins "max" = some (.builtin "max") := by decide +kernel
structure Free (mg : Str → Option Value) : Prop where
  isi : mg "isinstance" = none
  tup : mg "tuple" = none
  lst : mg "list" = none
  int : mg "int" = none
  bool : mg "bool" = none
  str : mg "str" = none
  len : mg "len" = none
  enu : mg "enumerate" = none
  srt : mg "sorted" = none
  set : mg "set" = none
  rng : mg "range" = none
  sum : mg "sum" = none
  abs : mg "abs" = none
  min : mg "min" = none
  max : mg "max" = none
/-! ### a def, ready to be called -/
structure CalD (P : Program) (w : World) (K : PySem.W.Frag) (mg : Str → Option Value) (base : Heap) (x : Str) (k : Nat) (ps : List Str) (sp : Sp) (f : Addr) (fd : FuncData) : Prop where
  ok : FnOk P w K mg base CX0 k f fd ps sp
  mg : mg x = some (.ref f)
  kp : PySem.W.keepIn K (.ref f) = true
  bi : Binds K fd ps []
def Cal (P : Program) (w : World) (K : PySem.W.Frag) (mg : Str → Option Value) (base : Heap) (x : Str) (k : Nat) (ps : List Str) (sp : Sp) : Prop := ∃ f fd, CalD P w K mg base x k ps sp f fd
/-- a def where it stands -/
def At (K : PySem.W.Frag) (mg : Str → Option Value) (x : Str) (st : Stmt) : Prop := ∃ f fd, FnP K x st f fd ∧ mg x = some (.ref f)
section
variable {P : Program} {w : World} {K : PySem.W.Frag} {mg : Str → Option Value} {base : Heap}
theorem cal_mkD {x : Str} {st : Stmt} {N ps : List Str} {k : Nat} {sp : Sp} {f0 : Addr} {fd0 : FuncData} (F : FnP K x st f0 fd0) (g : mg x = some (.ref f0)) (S : FnScope N ps (defScope st))
    (hb : ∀ (kV doc pm : Value) (an : Option Addr) (cdv ct : Value) (us : List Value), us.length = ps.length → bindArgs (PySem.W.fnOf x x (defArgs st) (defBody st) (defScope st) .none kV doc pm an cdv ct) ⟨us, []⟩ = pure (ps.zip us))
    (len : ∀ vs H Q E, sp vs H Q E → vs.length = ps.length)
    (hbody : ∀ (f : Addr) (cdv : Value) (A : Around) (outer : List Env) (s : Shared) (H : Hp) (vs : List V) (Q : VK) (E : XK), Room k (A.deeper (envOfC x (defScope st) s.heap.objs.size f cdv)) → sp vs H Q E →
      ∃ t, PSs (cxOf CX0 P w K mg base N x (defScope st) f cdv A outer s H E).nox (defBody st) t ∧ t { nx := fun _ H' => Q .non H', rt := Q } (start N vs) H) :
    CalD P w K mg base x (k + 1) ps sp f0 fd0 :=
  ⟨F.ok S len fun cdv A outer s H vs Q E hr h => let ⟨t, a, b⟩ := hbody f0 cdv A outer s H vs Q E hr h; ⟨t, a.nox, b⟩, g, F.kp, F.bindsN hb⟩
theorem cal_mk {x : Str} {st : Stmt} {N ps : List Str} {k : Nat} {sp : Sp} (F : At K mg x st) (S : FnScope N ps (defScope st))
    (hb : ∀ (kV doc pm : Value) (an : Option Addr) (cdv ct : Value) (us : List Value), us.length = ps.length → bindArgs (PySem.W.fnOf x x (defArgs st) (defBody st) (defScope st) .none kV doc pm an cdv ct) ⟨us, []⟩ = pure (ps.zip us))
    (len : ∀ vs H Q E, sp vs H Q E → vs.length = ps.length)
    (hbody : ∀ (f : Addr) (cdv : Value) (A : Around) (outer : List Env) (s : Shared) (H : Hp) (vs : List V) (Q : VK) (E : XK), Room k (A.deeper (envOfC x (defScope st) s.heap.objs.size f cdv)) → sp vs H Q E →
      ∃ t, PSs (cxOf CX0 P w K mg base N x (defScope st) f cdv A outer s H E).nox (defBody st) t ∧ t { nx := fun _ H' => Q .non H', rt := Q } (start N vs) H) :
    Cal P w K mg base x (k + 1) ps sp := by
  obtain ⟨f, fd, F, g⟩ := F
  exact ⟨f, fd, cal_mkD F g S hb len hbody⟩
end
/-! ### heaps -/
theorem same_upd {H : Hp} {p : Addr} {o : HO} (h : H p = none) : Same H (upd H p o) := fun b x e => by
  rw [upd_ne (ne_of_none e h)]
  exact e
theorem same_upd2 {H0 H : Hp} {p : Addr} {o : HO} (s : Same H0 H) (h : H0 p = none) : Same H0 (upd H p o) := fun b x e => by
  rw [upd_ne (ne_of_none e h)]
  exact s b x e
/-- a list of heights -/
def HsAt (H : Hp) (a : Addr) (x : List Int) : Prop := H a = some (.tup (x.map V.int))
abbrev nV (n : Nat) : V := .int (n : Int)
def pV (p : Nat × Nat) : List V := [nV p.1, nV p.2]
abbrev PsAt (H : Hp) : List V → Edges → Prop := Paired fun v p => ∃ t, v = .ref t ∧ H t = some (.tup (pV p))
/-- a web -/
def WebAt (H : Hp) (a : Addr) (n : Nat) (E : Edges) : Prop := ∃ (e : Addr) (xs : List V), H a = some (.tup [nV n, .ref e]) ∧ H e = some (.tup xs) ∧ PsAt H xs E
/-- the tuples stay -/
def Tups (H H' : Hp) : Prop := ∀ b xs, H b = some (.tup xs) → H' b = some (.tup xs)
theorem Tups.of {H H' : Hp} (s : Same H H') : Tups H H' := fun b xs e => s b _ e
theorem Tups.refl (H : Hp) : Tups H H := fun _ _ e => e
theorem Tups.trans {H H1 H2 : Hp} (a : Tups H H1) (b : Tups H1 H2) : Tups H H2 := fun c xs e => b c xs (a c xs e)
/-- a store at what is no tuple -/
theorem Tups.at {H : Hp} {a : Addr} {o : HO} (h : ∀ xs, H a ≠ some (.tup xs)) : Tups H (upd H a o) := fun b xs e => by
  rw [upd_ne (fun z => h xs (by rw [← z]; exact e))]
  exact e
theorem Tups.lst {H : Hp} {a : Addr} {o : HO} {xs : List V} (h : H a = some (.lst xs)) : Tups H (upd H a o) := Tups.at fun ys e => by
  rw [h] at e
  cases e
theorem Tups.new {H : Hp} {a : Addr} {o : HO} (h : H a = none) : Tups H (upd H a o) := Tups.at fun ys e => by
  rw [h] at e
  cases e
theorem HsAt.keep {H H' : Hp} {a : Addr} {x : List Int} (h : HsAt H a x) (s : Tups H H') : HsAt H' a x := s _ _ h
theorem PsAt.keep {H H' : Hp} {xs : List V} {L : Edges} (h : PsAt H xs L) (s : Tups H H') : PsAt H' xs L := Paired.mapP h fun _ _ ⟨t, a, b⟩ => ⟨t, a, s _ _ b⟩
theorem WebAt.keep {H H' : Hp} {a : Addr} {n : Nat} {E : Edges} (h : WebAt H a n E) (s : Tups H H') : WebAt H' a n E := let ⟨e, xs, h1, h2, h3⟩ := h; ⟨e, xs, s _ _ h1, s _ _ h2, h3.keep s⟩
theorem paired_get {α β : Type} {F : α → β → Prop} : ∀ {xs : List α} {ys : List β} {i : Nat} {x : α}, Paired F xs ys → xs[i]? = some x → ∃ y, ys[i]? = some y ∧ F x y
  | _, _, _, _, .nil, e => by simp at e
  | _, _, 0, _, .cons r _, e => by simp at e; subst e; exact ⟨_, rfl, r⟩
  | _, _, i + 1, x, .cons _ t, e => by
    obtain ⟨u, h1, h2⟩ := paired_get (i := i) (x := x) t (by simpa using e)
    exact ⟨u, by simpa using h1, h2⟩
theorem paired_get2 {α β : Type} {F : α → β → Prop} : ∀ {xs : List α} {ys : List β} {i : Nat} {y : β}, Paired F xs ys → ys[i]? = some y → ∃ x, xs[i]? = some x ∧ F x y
  | _, _, _, _, .nil, e => by simp at e
  | _, _, 0, _, .cons r _, e => by simp at e; subst e; exact ⟨_, rfl, r⟩
  | _, _, i + 1, x, .cons _ t, e => by
    obtain ⟨u, h1, h2⟩ := paired_get2 (i := i) (y := x) t (by simpa using e)
    exact ⟨u, by simpa using h1, h2⟩
theorem paired_mem {α β : Type} {F : α → β → Prop} : ∀ {xs : List α} {ys : List β} {x : α}, Paired F xs ys → x ∈ xs → ∃ y, y ∈ ys ∧ F x y
  | _, _, _, .nil, e => by simp at e
  | _, _, x, .cons r t, e => by
    rcases List.mem_cons.mp e with e | e
    · subst e
      exact ⟨_, List.mem_cons_self .., r⟩
    · obtain ⟨y, h1, h2⟩ := paired_mem t e
      exact ⟨y, List.mem_cons_of_mem _ h1, h2⟩
theorem paired_append {α β : Type} {F : α → β → Prop} : ∀ {xs zs : List α} {ys ws : List β}, Paired F xs ys → Paired F zs ws → Paired F (xs ++ zs) (ys ++ ws)
  | _, _, _, _, .nil, h => h
  | _, _, _, _, .cons r t, h => .cons r (paired_append t h)
theorem paired_take {α β : Type} {F : α → β → Prop} : ∀ {xs : List α} {ys : List β} (i : Nat), Paired F xs ys → Paired F (xs.take i) (ys.take i)
  | _, _, 0, _ => .nil
  | _, _, i + 1, .nil => .nil
  | _, _, i + 1, .cons r t => .cons r (paired_take i t)
theorem map_get {x : List Int} {i : Nat} (h : i < x.length) : (x.map V.int)[i]? = some (.int (g x i)) := by
  rw [List.getElem?_map, g_some h]
  rfl
theorem take_snoc {α : Type} {l : List α} {i : Nat} {a : α} (h : l[i]? = some a) : l.take (i + 1) = l.take i ++ [a] := by
  rw [List.take_add_one, h]
  rfl
theorem line_small {n : Nat} (h : n ≤ 100000) : n < sizeLine := by
  rw [sizeLine_eq]
  omega
theorem line_small' {n : Nat} (h : n ≤ 100000) : n ≤ sizeLine := by
  rw [sizeLine_eq]
  omega
theorem iteTT {A B : Prop} {c : Bool} (e : c = true) (h : A) : if c = true then A else B := by
  rw [if_pos e]
  exact h
theorem iteFF {A B : Prop} {c : Bool} (e : c = false) (h : B) : if c = true then A else B := by
  rw [e, if_neg Bool.false_ne_true]
  exact h
/-- isinstance of ints, bools, tuples, lists -/
theorem hu65 {A : Around} {k : Nat} (hr : Room k A) : A.units + 65 < cLine := by
  have := hr.un
  omega
theorem hu64 {A : Around} {k : Nat} (hr : Room k A) : A.units + 64 < cLine := hr.units
theorem k_int_int {K : PySem.W.Frag} : PySem.W.kitOne K (.type "int") (.type "int") = some true := kit_ty (by decide +kernel)
theorem k_int_bool {K : PySem.W.Frag} : PySem.W.kitOne K (.type "int") (.type "bool") = some false := kit_ty (by decide +kernel)
theorem k_tup_tup {K : PySem.W.Frag} : PySem.W.kitOne K (.type "tuple") (.type "tuple") = some true := kit_ty (by decide +kernel)
theorem walk_enumT {K : PySem.W.Frag} {a : Addr} {xs : List V} : Walk (IteT K a) xs.length (fun H => SqT K H a xs) (YPair (fun i => some (.int (i : Nat))) (fun i => xs[i]?)) := by
  refine ⟨fun i _ hi q => ⟨xs, xs[i], q, by simp [hi]⟩, fun _ q => ⟨xs, q, Nat.le_refl _⟩, fun i H v H' _ q y => ?_⟩
  obtain ⟨T, x, h1, h2, h3, h4⟩ := y
  exact ⟨T, .int (i : Nat), x, h1, h2, h3, rfl, h4 xs q⟩
section
variable {P : Program} {w : World} {K : PySem.W.Frag} {mg : Str → Option Value} {base : Heap}
/-! ### is_in -/
theorem scIsIn : FnScope ["value", "least", "most"] ["value", "least", "most"] (defScope sIsIn) := ⟨rfl, rfl, rfl, by decide +kernel, rfl, by decide +kernel, by decide +kernel⟩
def spIsIn : Sp := fun vs H Q _ => ∃ v a b : Int, vs = [.int v, .int a, .int b] ∧ Q (.bl (decide (a ≤ v ∧ v ≤ b))) H
theorem ok_isIn (F : At K mg "is_in" sIsIn) (T : Free mg) : Cal P w K mg base "is_in" 1 ["value", "least", "most"] spIsIn := by
  refine cal_mk F scIsIn (fun _ _ _ _ _ _ us hl => match us, hl with | [_, _, _], _ => rfl) (fun vs H Q E h => ?_) fun f cdv A outer s H vs Q E hr h => ?_
  · obtain ⟨v, a, b, rfl, _⟩ := h
    rfl
  · obtain ⟨v, a, b, rfl, q⟩ := h
    refine ⟨_, pss_one (ps_ret (pe_and (pe_callB call_isi (by rfl) T.isi bt_isinstance (pa_cons (pv 0) (pa_cons (pe_bltn (v := .ty "int") (by rfl) T.int bt_int rfl) pa_nil)))
      (pe_and (pe_not (pe_callB call_isi (by rfl) T.isi bt_isinstance (pa_cons (pv 0) (pa_cons (pe_bltn (v := .ty "bool") (by rfl) T.bool bt_bool rfl) pa_nil))))
        (pe_one (pe_chain op_le op_le (pv 1) (pv 0) (pv 2)))))), ?_⟩
    refine ⟨_, rfl, _, _, _, _, _, rfl, .ty _, .base (.int _), k_int_int, _, rfl, iteT ?_⟩
    refine ⟨_, rfl, _, _, _, _, _, rfl, .ty _, .base (.int _), k_int_bool, _, rfl, _, rfl, iteT ?_⟩
    refine ⟨_, rfl, _, rfl, _, _, rfl, rfl, _, rfl, ?_⟩
    by_cases h1 : a ≤ v
    · refine iteTT (decide_eq_true h1) ⟨_, rfl, _, _, rfl, rfl, ?_⟩
      have e : decide (v ≤ b) = decide (a ≤ v ∧ v ≤ b) := by
        by_cases h2 : v ≤ b
        · rw [decide_eq_true h2, decide_eq_true ⟨h1, h2⟩]
        · rw [decide_eq_false h2, decide_eq_false fun z => h2 z.2]
      show Q (.bl (decide (v ≤ b))) H
      rw [e]
      exact q
    · refine iteFF (decide_eq_false h1) ?_
      have e : decide (a ≤ v ∧ v ≤ b) = false := decide_eq_false fun z => h1 z.1
      rw [e] at q
      exact q
end
end Lev
set_option Elab.async false
set_option linter.all false
set_option maxRecDepth 100000
set_option maxHeartbeats 4000000
namespace Lev
open PySem PySem.Spec PyProof.Rows L2
section
variable {P : Program} {w : World} {K : PySem.W.Frag} {mg : Str → Option Value} {base : Heap}
/-! ### is_edge -/
theorem scIsEdge : FnScope ["value", "many", "one"] ["value", "many"] (defScope sIsEdge) := ⟨rfl, rfl, rfl, by decide +kernel, rfl, by decide +kernel, by decide +kernel⟩
def spIsEdge : Sp := fun vs H Q _ => ∃ (t : Addr) (a b n : Nat), vs = [.ref t, nV n] ∧ H t = some (.tup (pV (a, b))) ∧ a < b ∧ b < n ∧ ∀ H', Same H H' → Q (.bl true) H'
theorem ok_isEdge (F : At K mg "is_edge" sIsEdge) (T : Free mg) (hI : Cal P w K mg base "is_in" 1 ["value", "least", "most"] spIsIn) : Cal P w K mg base "is_edge" 2 ["value", "many"] spIsEdge := by
  obtain ⟨fI, fdI, GI⟩ := hI
  refine cal_mk F scIsEdge (fun _ _ _ _ _ _ us hl => match us, hl with | [_, _], _ => rfl) (fun vs H Q E h => ?_) fun f cdv A outer s H vs Q E hr h => ?_
  · obtain ⟨t, a, b, n, rfl, _⟩ := h
    rfl
  · obtain ⟨t, a, b, n, rfl, ht, hab, hbn, q⟩ := h
    refine ⟨_, pss_cons (ps_if (PW.pt (pw_or (pt_not (pt_val (pe_callB call_isi (by rfl) T.isi bt_isinstance (pa_cons (pv 0) (pa_cons (pe_bltn (v := .ty "tuple") (by rfl) T.tup bt_tuple rfl) pa_nil)))))
        (pw_or1 (pt_cmpR op_ne (pe_callB call_len_seq (by rfl) T.len bt_len (pa_cons (pv 0) pa_nil)) pe_int (nomark _))))) (pss_one ps_never) pss_nil)
      (pss_one (ps_ret (pe_and (pe_cmpR (op_eqD hr.units)
          (pe_lc (own := [("one", 2)]) (g := gName 2) (by rfl) scIsEdge.nd (pi_tup (pv 0)) (blkOk_by (own := [("one", 2)]) (N := ["value", "many", "one"]) (sc := defScope sIsEdge) (by decide +kernel))
            (fun _ _ _ _ _ => pg_name (i := 2) scIsEdge.nd rfl (Or.inl rfl))
            (fun _ _ _ _ _ => pts_one (pt_not (pt_val (pe_call GI.ok hr (by rfl) GI.mg GI.kp GI.bi .nil pass0 (pa_cons (pv 2) (pa_cons pe_int (pa_cons (pe_op op_sub (pv 1) pe_int) pa_nil)))))))
            (fun _ _ _ _ _ => pv 2))
          (pe_lst pa_nil) (nomark _))
        (pe_one (pe_cmpR op_lt (pe_ix ix_tup (pv 0) pe_int (fun _ _ => rfl)) (pe_ix ix_tup (pv 0) pe_int (fun _ _ => rfl)) (nomark _)))))), ?_⟩
    refine ⟨_, rfl, _, _, _, _, _, rfl, .ty _, .base (.tup ht), k_tup_tup, _, rfl, iteF ?_⟩
    refine ⟨_, rfl, _, _, rfl, .inr (SqT.of ht), rfl, _, rfl, iteNS rfl ?_⟩
    refine ⟨_, rfl, _, rfl, ⟨_, SqT.of ht⟩, fun D hD => ?_⟩
    refine lc_tup (K := K) (a := t) (xs := pV (a, b)) (fun i H' => Same H H' ∧ H' D = some (.lst [])) ⟨same_upd hD, upd_same⟩ (fun i H' _ p => SqT.of (p.1 _ _ ht)) (fun i x H' hi p => ?_) (fun H' p => ?_)
    · have hx : ∃ v : Nat, x = nV v ∧ v < n := by
        match i, hi with
        | 0, hi => exact ⟨a, (Option.some.inj hi).symm, by omega⟩
        | 1, hi => exact ⟨b, (Option.some.inj hi).symm, hbn⟩
        | i + 2, hi => simp [pV] at hi
      obtain ⟨v, rfl, hv⟩ := hx
      refine ⟨rfl, _, rfl, _, rfl, _, _, rfl, rfl, _, _, _, rfl, _, rfl, ?_⟩
      refine iteFF ?_ p
      rw [decide_eq_true (show (0 : Int) ≤ (v : Int) ∧ (v : Int) ≤ (n : Int) - 1 by omega)]
      rfl
    · refine ⟨Nat.zero_le _, fun l hl => ?_⟩
      have s2 : Same H (upd H' l (.lst [])) := p.1.trans (same_upd hl)
      refine ⟨.list [], .list [], .lst (SqL.of (by rw [upd_ne (ne_of_none p.2 hl)]; exact p.2)) .nil, .lst (SqL.of upd_same) .nil, rfl, rfl, _, rfl, iteTT (by rfl) ?_⟩
      refine ⟨_, rfl, _, _, 0, _, rfl, rfl, SqT.of (s2 _ _ ht), atI_nat (j := 0) rfl, _, rfl, _, _, 1, _, rfl, rfl, SqT.of (s2 _ _ ht), atI_nat (j := 1) rfl, _, _, rfl, rfl, ?_⟩
      show Q (.bl (decide ((a : Int) < (b : Int)))) _
      rw [decide_eq_true (show (a : Int) < (b : Int) by omega)]
      exact q _ s2
end
end Lev
set_option Elab.async false
set_option linter.all false
set_option maxRecDepth 100000
set_option maxHeartbeats 4000000
namespace Lev
open PySem PySem.Spec PyProof.Rows L2
/-- the webs that the law makes -/
structure WebS (n : Nat) (E : Edges) : Prop where
  ok : WebOk n E
  asc : E.Pairwise fun p q => pc p < pc q
  n1 : 1 ≤ n
  n5 : n ≤ 5
  e64 : E.length < 64
structure Cst (mg : Str → Option Value) : Prop where
  mp : ∃ t, mg "MOST_PLACES" = some (.int 9 t)
  mr : ∃ t, mg "MOST_ROOF" = some (.int 9 t)
  hi : ∃ t, mg "HIGH" = some (.int 2 t)
theorem lex_pair (a b c d : Int) : Ob.lexAt (fun j => decide (([a, b] : List Int).getD j 0 = ([c, d] : List Int).getD j 0)) (fun j => decide (([a, b] : List Int).getD j 0 ≤ ([c, d] : List Int).getD j 0)) (decide (([a, b] : List Int).length ≤ ([c, d] : List Int).length)) 0
    (min ([a, b] : List Int).length ([c, d] : List Int).length) = (if a = c then (if b = d then true else decide (b ≤ d)) else decide (a ≤ c)) := by
  show Ob.lexAt _ _ _ 0 2 = _
  rw [Ob.lexAt_succ, Ob.lexAt_succ, Ob.lexAt_zero]
  show (if decide (a = c) = true then (if decide (b = d) = true then true else decide (b ≤ d)) else decide (a ≤ c)) = _
  by_cases h1 : a = c <;> by_cases h2 : b = d <;> simp [h1, h2]
theorem pairwise_get {α : Type} {R : α → α → Prop} {l : List α} (h : l.Pairwise R) {i j : Nat} {a b : α} (ha : l[i]? = some a) (hb : l[j]? = some b) (hij : i < j) : R a b := by
  obtain ⟨h1, e1⟩ := List.getElem?_eq_some_iff.mp ha
  obtain ⟨h2, e2⟩ := List.getElem?_eq_some_iff.mp hb
  have := List.pairwise_iff_getElem.mp h i j h1 h2 hij
  rw [e1, e2] at this
  exact this
section
variable {P : Program} {w : World} {K : PySem.W.Frag} {mg : Str → Option Value} {base : Heap}
/-! ### need_web -/
theorem scNeedWeb : FnScope ["web", "index", "one"] ["web"] (defScope sNeedWeb) := ⟨rfl, rfl, rfl, by decide +kernel, rfl, by decide +kernel, by decide +kernel⟩
def spNeedWeb : Sp := fun vs H Q _ => ∃ (a : Addr) (n : Nat) (E : Edges), vs = [.ref a] ∧ WebAt H a n E ∧ WebS n E ∧ ∀ H', Same H H' → Q .non H'
theorem ok_needWeb (F : At K mg "need_web" sNeedWeb) (T : Free mg) (C : Cst mg) (hI : Cal P w K mg base "is_in" 1 ["value", "least", "most"] spIsIn) (hE : Cal P w K mg base "is_edge" 2 ["value", "many"] spIsEdge) : Cal P w K mg base "need_web" 3 ["web"] spNeedWeb := by
  obtain ⟨fI, fdI, GI⟩ := hI
  obtain ⟨fE, fdE, GE⟩ := hE
  obtain ⟨tk, gMP⟩ := C.mp
  refine cal_mk F scNeedWeb (fun _ _ _ _ _ _ us hl => match us, hl with | [_], _ => rfl) (fun vs H Q E h => ?_) fun f cdv A outer s H vs Q E hr h => ?_
  · obtain ⟨a, n, E, rfl, _⟩ := h
    rfl
  · obtain ⟨a, n, L, rfl, ⟨e, xs, ha, he, hp⟩, we, q⟩ := h
    have hr1 := hr.mono (show 1 ≤ 2 by decide)
    refine ⟨_, pss_cons (ps_if (PW.pt (pw_or (pt_not (pt_val (pe_callB call_isi (by rfl) T.isi bt_isinstance (pa_cons (pv 0) (pa_cons (pe_bltn (v := .ty "tuple") (by rfl) T.tup bt_tuple rfl) pa_nil)))))
        (pw_or (pt_cmpR op_ne (pe_callB call_len_seq (by rfl) T.len bt_len (pa_cons (pv 0) pa_nil)) pe_int (nomark _))
        (pw_or1 (pt_not (pt_val (pe_callB call_isi (by rfl) T.isi bt_isinstance (pa_cons (pe_ix ix_tup (pv 0) pe_int (fun _ _ => rfl)) (pa_cons (pe_bltn (v := .ty "tuple") (by rfl) T.tup bt_tuple rfl) pa_nil))))))))) (pss_one ps_never) pss_nil)
      (pss_cons (ps_if (pt_not (pt_val (pe_call GI.ok hr1 (by rfl) GI.mg GI.kp GI.bi .nil pass0 (pa_cons (pe_ix ix_tup (pv 0) pe_int (fun _ _ => rfl)) (pa_cons pe_int (pa_cons (pe_glob (v := .int 9) (by rfl) gMP ⟨_, rfl⟩) pa_nil)))))) (pss_one ps_never) pss_nil)
      (pss_one (ps_for PassesOwn.never rfl (pi_enumT (by rfl) T.enu (pa_cons (pe_ix ix_tup (pv 0) pe_int (fun _ _ => rfl)) pa_nil))
        (pg_tup rfl (pgs_cons (pg_name (i := 1) scNeedWeb.nd rfl (.inl rfl)) (pgs_cons (pg_name (i := 2) scNeedWeb.nd rfl (.inl rfl)) pgs_nil)))
        (pss_one (ps_if (PW.pt (pw_or (pt_not (pt_val (pe_call GE.ok hr (by rfl) GE.mg GE.kp GE.bi .nil pass0 (pa_cons (pv 2) (pa_cons (pe_ix ix_tup (pv 0) pe_int (fun _ _ => rfl)) pa_nil)))))
          (pw_or1 (PW.pt (pw_and (pt_cmpR op_gt (pv 1) pe_int (nomark _))
            (pw_and1 (pt_cmpR (op_leT hr.units0) (pv 2) (pe_ix ix_tup (pe_ix ix_tup (pv 0) pe_int (fun _ _ => rfl)) (pe_op op_sub (pv 1) pe_int) (fun _ _ => rfl)) (nomark _)))))))) (pss_one ps_never) pss_nil))))), ?_⟩
    -- the shape
    refine ⟨_, rfl, _, _, _, _, _, rfl, .ty _, .base (.tup ha), k_tup_tup, _, rfl, iteF ?_⟩
    refine ⟨_, rfl, _, _, rfl, .inr (SqT.of ha), rfl, _, rfl, iteNS rfl ?_⟩
    refine ⟨_, rfl, _, _, 1, _, rfl, rfl, SqT.of ha, atI_nat (j := 1) rfl, _, _, _, _, _, rfl, .ty _, .base (.tup he), k_tup_tup, _, rfl, iteF ?_⟩
    refine ⟨_, rfl, _, _, 0, _, rfl, rfl, SqT.of ha, atI_nat (j := 0) rfl, _, _, _, rfl, _, rfl, ?_⟩
    refine iteFF (by
      rw [decide_eq_true (show (1 : Int) ≤ (n : Int) ∧ (n : Int) ≤ 9 by
        have := we.n1
        have := we.n5
        omega)]
      rfl) ?_
    refine ⟨_, rfl, _, _, 1, _, rfl, rfl, SqT.of ha, atI_nat (j := 1) rfl, e, xs, rfl, SqT.of he, for_it (walk_enumT (K := K) (a := e) (xs := xs)) (fun i σ H' => ∃ y1 y2, σ = [some (.ref a), y1, y2] ∧ Same H H') ⟨_, _, rfl, Same.refl H⟩ (fun i σ H' _ p => ?_) (fun i v σ H1 H2 hi p y => ?_) (fun σ H' p => ?_)⟩
    · obtain ⟨_, _, _, sm⟩ := p
      exact SqT.of (sm _ _ he)
    · obtain ⟨y1, y2, rfl, sm⟩ := p
      obtain ⟨t, x, z, rfl, nt, rfl, ex, ez⟩ := y
      have ex : x = .int (i : Nat) := (Option.some.inj ex).symm
      subst ex
      have ez : xs[i]? = some z := ez
      obtain ⟨⟨b, c⟩, hL, tz, rfl, hz⟩ := paired_get hp ez
      have sm2 : Same H (upd H1 t (.tup [.int (i : Nat), .ref tz])) := sm.trans (same_upd nt)
      have hmem : (b, c) ∈ L := List.mem_of_getElem? hL
      have hbc : b < c := we.ok.lt _ hmem
      have hcn : c < n := we.ok.bd _ hmem
      refine ⟨t, _, rfl, SqT.of upd_same, rfl, _, _, rfl, _, _, rfl, rfl, ?_⟩
      refine ⟨_, rfl, _, rfl, _, _, 0, _, rfl, rfl, SqT.of (sm2 _ _ ha), atI_nat (j := 0) rfl, tz, b, c, n, rfl, sm2 _ _ hz, hbc, hcn, fun H3 s3 => ⟨_, rfl, iteF ?_⟩⟩
      have sm3 := sm2.trans s3
      refine ⟨_, rfl, _, _, rfl, rfl, _, rfl, ?_⟩
      by_cases hi0 : i = 0
      · subst hi0
        refine iteFF (decide_eq_false (by omega)) (iteF ?_)
        exact ⟨_, _, rfl, sm3⟩
      · refine iteTT (decide_eq_true (by omega)) ?_
        have hi1 : i - 1 < xs.length := by
          have := (List.getElem?_eq_some_iff.mp ez).1
          omega
        obtain ⟨⟨b', c'⟩, hL', tz', ez', hz'⟩ := paired_get hp (List.getElem?_eq_getElem hi1)
        have hmem' : (b', c') ∈ L := List.mem_of_getElem? hL'
        have hbc' : b' < c' := we.ok.lt _ hmem'
        have hcn' : c' < n := we.ok.bd _ hmem'
        have hlt : pc (b', c') < pc (b, c) := pairwise_get we.asc hL' hL (by omega)
        refine ⟨_, rfl, _, rfl, _, _, 1, _, rfl, rfl, SqT.of (sm3 _ _ ha), atI_nat (j := 1) rfl, _, rfl, _, _, rfl, rfl, e, xs, _, .ref tz', rfl, rfl, SqT.of (sm3 _ _ he), L2.at_of (j := i - 1) (show (i : Int) - 1 = ((i - 1 : Nat) : Int) by omega) (by rw [List.getElem?_eq_getElem hi1, ez']), ?_⟩
        refine ⟨tz, tz', [(b : Int), (c : Int)], [(b' : Int), (c' : Int)], rfl, rfl, SqT.of (sm3 _ _ hz), SqT.of (sm3 _ _ hz'), _, rfl, ?_⟩
        refine iteFF ?_ ⟨_, _, rfl, sm3⟩
        rw [lex_pair]
        unfold pc at hlt
        have n5 := we.n5
        simp only [] at hlt
        by_cases e1 : (b : Int) = (b' : Int)
        · rw [if_pos e1, if_neg (show ¬ (c : Int) = (c' : Int) by omega)]
          exact decide_eq_false (by omega)
        · rw [if_neg e1]
          exact decide_eq_false (by omega)
    · obtain ⟨_, _, rfl, sm⟩ := p
      exact q _ sm
/-! ### need_roof -/
theorem scNeedRoof : FnScope ["roof"] ["roof"] (defScope sNeedRoof) := ⟨rfl, rfl, rfl, by decide +kernel, rfl, by decide +kernel, by decide +kernel⟩
def spNeedRoof : Sp := fun vs H Q _ => ∃ R : Int, vs = [.int R] ∧ 1 ≤ R ∧ R ≤ 9 ∧ Q .non H
theorem ok_needRoof (F : At K mg "need_roof" sNeedRoof) (C : Cst mg) (hI : Cal P w K mg base "is_in" 1 ["value", "least", "most"] spIsIn) : Cal P w K mg base "need_roof" 2 ["roof"] spNeedRoof := by
  obtain ⟨fI, fdI, GI⟩ := hI
  obtain ⟨tk, gMR⟩ := C.mr
  refine cal_mk F scNeedRoof (fun _ _ _ _ _ _ us hl => match us, hl with | [_], _ => rfl) (fun vs H Q E h => ?_) fun f cdv A outer s H vs Q E hr h => ?_
  · obtain ⟨R, rfl, _⟩ := h
    rfl
  · obtain ⟨R, rfl, h1, h2, q⟩ := h
    refine ⟨_, pss_one (ps_if (pt_not (pt_val (pe_call GI.ok hr (by rfl) GI.mg GI.kp GI.bi .nil pass0 (pa_cons (pv 0) (pa_cons pe_int (pa_cons (pe_glob (v := .int 9) (by rfl) gMR ⟨_, rfl⟩) pa_nil)))))) (pss_one ps_never) pss_nil), ?_⟩
    refine ⟨_, rfl, _, _, _, rfl, _, rfl, ?_⟩
    refine iteFF (by
      rw [decide_eq_true (show (1 : Int) ≤ R ∧ R ≤ 9 from ⟨h1, h2⟩)]
      rfl) ?_
    exact q
/-! ### need_table -/
theorem scNeedTable : FnScope ["web", "roof"] ["web", "roof"] (defScope sNeedTable) := ⟨rfl, rfl, rfl, by decide +kernel, rfl, by decide +kernel, by decide +kernel⟩
def spNeedTable : Sp := fun vs H Q _ => ∃ (a : Addr) (n : Nat) (E : Edges) (R : Int), vs = [.ref a, .int R] ∧ WebAt H a n E ∧ WebS n E ∧ 1 ≤ R ∧ R ≤ 9 ∧ ∀ H', Same H H' → Q .non H'
theorem ok_needTable (F : At K mg "need_table" sNeedTable) (hW : Cal P w K mg base "need_web" 3 ["web"] spNeedWeb) (hR : Cal P w K mg base "need_roof" 2 ["roof"] spNeedRoof) : Cal P w K mg base "need_table" 4 ["web", "roof"] spNeedTable := by
  obtain ⟨fW, fdW, GW⟩ := hW
  obtain ⟨fR, fdR, GR⟩ := hR
  refine cal_mk F scNeedTable (fun _ _ _ _ _ _ us hl => match us, hl with | [_, _], _ => rfl) (fun vs H Q E h => ?_) fun f cdv A outer s H vs Q E hr h => ?_
  · obtain ⟨_, _, _, _, rfl, _⟩ := h
    rfl
  · obtain ⟨a, n, L, R, rfl, ha, we, h1, h2, q⟩ := h
    refine ⟨_, pss_cons (ps_expr (pe_call GW.ok hr (by rfl) GW.mg GW.kp GW.bi .nil pass0 (pa_cons (pv 0) pa_nil)))
      (pss_one (ps_expr (pe_call GR.ok (hr.mono (by decide)) (by rfl) GR.mg GR.kp GR.bi .nil pass0 (pa_cons (pv 1) pa_nil)))), ?_⟩
    refine ⟨_, rfl, a, n, L, rfl, ha, we, fun H1 s1 => ?_⟩
    exact ⟨_, rfl, R, rfl, h1, h2, q _ s1⟩
/-! ### need_heights -/
theorem scNeedHeights : FnScope ["many", "roof", "heights", "index", "one"] ["many", "roof", "heights"] (defScope sNeedHeights) := ⟨rfl, rfl, rfl, by decide +kernel, rfl, by decide +kernel, by decide +kernel⟩
def spNeedHeights : Sp := fun vs H Q _ => ∃ (n : Nat) (R : Int) (a : Addr) (x : List Int), vs = [nV n, .int R, .ref a] ∧ HsAt H a x ∧ Valid n R x ∧ ∀ H', Same H H' → Q .non H'
theorem ok_needHeights (F : At K mg "need_heights" sNeedHeights) (T : Free mg) (hI : Cal P w K mg base "is_in" 1 ["value", "least", "most"] spIsIn) : Cal P w K mg base "need_heights" 2 ["many", "roof", "heights"] spNeedHeights := by
  obtain ⟨fI, fdI, GI⟩ := hI
  refine cal_mk F scNeedHeights (fun _ _ _ _ _ _ us hl => match us, hl with | [_, _, _], _ => rfl) (fun vs H Q E h => ?_) fun f cdv A outer s H vs Q E hr h => ?_
  · obtain ⟨_, _, _, _, rfl, _⟩ := h
    rfl
  · obtain ⟨n, R, a, x, rfl, ha, v, q⟩ := h
    refine ⟨_, pss_cons (ps_if (PW.pt (pw_or (pt_not (pt_val (pe_callB call_isi (by rfl) T.isi bt_isinstance (pa_cons (pv 2) (pa_cons (pe_bltn (v := .ty "tuple") (by rfl) T.tup bt_tuple rfl) pa_nil)))))
        (pw_or1 (pt_cmpR op_ne (pe_callB call_len_seq (by rfl) T.len bt_len (pa_cons (pv 2) pa_nil)) (pv 0) (nomark _))))) (pss_one ps_never) pss_nil)
      (pss_one (ps_for PassesOwn.never rfl (pi_enumT (by rfl) T.enu (pa_cons (pv 2) pa_nil))
        (pg_tup rfl (pgs_cons (pg_name (i := 3) scNeedHeights.nd rfl (.inl rfl)) (pgs_cons (pg_name (i := 4) scNeedHeights.nd rfl (.inl rfl)) pgs_nil)))
        (pss_one (ps_if (pt_not (pt_val (pe_call GI.ok hr (by rfl) GI.mg GI.kp GI.bi .nil pass0 (pa_cons (pv 4) (pa_cons pe_int (pa_cons (pv 1) pa_nil)))))) (pss_one ps_never) pss_nil)))), ?_⟩
    refine ⟨_, rfl, _, _, _, _, _, rfl, .ty _, .base (.tup ha), k_tup_tup, _, rfl, iteF ?_⟩
    refine ⟨_, rfl, _, _, rfl, .inr (SqT.of ha), _, rfl, rfl, _, rfl, iteNS (by rw [List.length_map, v.len]) ?_⟩
    refine ⟨_, rfl, a, _, rfl, SqT.of ha, for_it (walk_enumT (K := K) (a := a) (xs := x.map V.int)) (fun i σ H' => ∃ y1 y2, σ = [some (nV n), some (.int R), some (.ref a), y1, y2] ∧ Same H H') ⟨_, _, rfl, Same.refl H⟩ (fun i σ H' _ p => ?_) (fun i u σ H1 H2 hi p y => ?_) (fun σ H' p => ?_)⟩
    · obtain ⟨_, _, _, sm⟩ := p
      exact SqT.of (sm _ _ ha)
    · obtain ⟨y1, y2, rfl, sm⟩ := p
      obtain ⟨t, x1, z, rfl, nt, rfl, ex, ez⟩ := y
      have hin : i < n := by
        rw [List.length_map, v.len] at hi
        exact hi
      have ez : (x.map V.int)[i]? = some z := ez
      rw [map_get (by rw [v.len]; exact hin)] at ez
      have ez : z = .int (g x i) := (Option.some.inj ez).symm
      subst ez
      have sm2 : Same H (upd H1 t (.tup [x1, .int (g x i)])) := sm.trans (same_upd nt)
      refine ⟨t, _, rfl, SqT.of upd_same, rfl, _, _, rfl, _, _, rfl, rfl, ?_⟩
      refine ⟨_, rfl, _, rfl, _, _, _, rfl, _, rfl, ?_⟩
      refine iteFF (by
        rw [decide_eq_true (show (0 : Int) ≤ g x i ∧ g x i ≤ R from ⟨v.ge i hin, v.le i hin⟩)]
        rfl) ?_
      exact ⟨_, _, rfl, sm2⟩
    · obtain ⟨_, _, rfl, sm⟩ := p
      exact q _ sm
/-! ### need_one, need_two -/
theorem scNeedOne : FnScope ["web", "roof", "heights"] ["web", "roof", "heights"] (defScope sNeedOne) := ⟨rfl, rfl, rfl, by decide +kernel, rfl, by decide +kernel, by decide +kernel⟩
def spNeedOne : Sp := fun vs H Q _ => ∃ (a : Addr) (n : Nat) (E : Edges) (R : Int) (b : Addr) (x : List Int), vs = [.ref a, .int R, .ref b] ∧ WebAt H a n E ∧ WebS n E ∧ 1 ≤ R ∧ R ≤ 9 ∧ HsAt H b x ∧ Valid n R x ∧ ∀ H', Same H H' → Q .non H'
theorem ok_needOne (F : At K mg "need_one" sNeedOne) (hW : Cal P w K mg base "need_table" 4 ["web", "roof"] spNeedTable) (hH : Cal P w K mg base "need_heights" 2 ["many", "roof", "heights"] spNeedHeights) : Cal P w K mg base "need_one" 5 ["web", "roof", "heights"] spNeedOne := by
  obtain ⟨fW, fdW, GW⟩ := hW
  obtain ⟨fH, fdH, GH⟩ := hH
  refine cal_mk F scNeedOne (fun _ _ _ _ _ _ us hl => match us, hl with | [_, _, _], _ => rfl) (fun vs H Q E h => ?_) fun f cdv A outer s H vs Q E hr h => ?_
  · obtain ⟨_, _, _, _, _, _, rfl, _⟩ := h
    rfl
  · obtain ⟨a, n, L, R, b, x, rfl, ha, we, h1, h2, hb, v, q⟩ := h
    refine ⟨_, pss_cons (ps_expr (pe_call GW.ok hr (by rfl) GW.mg GW.kp GW.bi .nil pass0 (pa_cons (pv 0) (pa_cons (pv 1) pa_nil))))
      (pss_one (ps_expr (pe_call GH.ok (hr.mono (by decide)) (by rfl) GH.mg GH.kp GH.bi .nil pass0 (pa_cons (pe_ix ix_tup (pv 0) pe_int (fun _ _ => rfl)) (pa_cons (pv 1) (pa_cons (pv 2) pa_nil)))))), ?_⟩
    refine ⟨_, rfl, _, rfl, a, n, L, R, rfl, ha, we, h1, h2, fun H1 s1 => ?_⟩
    obtain ⟨e, xs, ha, he, hp⟩ := ha
    refine ⟨_, rfl, _, _, 0, _, rfl, rfl, SqT.of (s1 _ _ ha), atI_nat (j := 0) rfl, _, rfl, _, rfl, n, R, b, x, rfl, s1 _ _ hb, v, fun H2 s2 => ?_⟩
    exact q _ (s1.trans s2)
theorem scNeedTwo : FnScope ["web", "roof", "one", "other"] ["web", "roof", "one", "other"] (defScope sNeedTwo) := ⟨rfl, rfl, rfl, by decide +kernel, rfl, by decide +kernel, by decide +kernel⟩
def spNeedTwo : Sp := fun vs H Q _ => ∃ (a : Addr) (n : Nat) (E : Edges) (R : Int) (b : Addr) (x : List Int) (c : Addr) (y : List Int), vs = [.ref a, .int R, .ref b, .ref c] ∧ WebAt H a n E ∧ WebS n E ∧ 1 ≤ R ∧ R ≤ 9 ∧ HsAt H b x ∧ Valid n R x ∧ HsAt H c y ∧ Valid n R y ∧ ∀ H', Same H H' → Q .non H'
theorem ok_needTwo (F : At K mg "need_two" sNeedTwo) (hW : Cal P w K mg base "need_one" 5 ["web", "roof", "heights"] spNeedOne) (hH : Cal P w K mg base "need_heights" 2 ["many", "roof", "heights"] spNeedHeights) : Cal P w K mg base "need_two" 6 ["web", "roof", "one", "other"] spNeedTwo := by
  obtain ⟨fW, fdW, GW⟩ := hW
  obtain ⟨fH, fdH, GH⟩ := hH
  refine cal_mk F scNeedTwo (fun _ _ _ _ _ _ us hl => match us, hl with | [_, _, _, _], _ => rfl) (fun vs H Q E h => ?_) fun f cdv A outer s H vs Q E hr h => ?_
  · obtain ⟨_, _, _, _, _, _, _, _, rfl, _⟩ := h
    rfl
  · obtain ⟨a, n, L, R, b, x, c, y, rfl, ha, we, h1, h2, hb, v, hc, vc, q⟩ := h
    refine ⟨_, pss_cons (ps_expr (pe_call GW.ok hr (by rfl) GW.mg GW.kp GW.bi .nil pass0 (pa_cons (pv 0) (pa_cons (pv 1) (pa_cons (pv 2) pa_nil)))))
      (pss_one (ps_expr (pe_call GH.ok (hr.mono (by decide)) (by rfl) GH.mg GH.kp GH.bi .nil pass0 (pa_cons (pe_ix ix_tup (pv 0) pe_int (fun _ _ => rfl)) (pa_cons (pv 1) (pa_cons (pv 3) pa_nil)))))), ?_⟩
    refine ⟨_, rfl, _, rfl, _, rfl, a, n, L, R, b, x, rfl, ha, we, h1, h2, hb, v, fun H1 s1 => ?_⟩
    obtain ⟨e, xs, ha, he, hp⟩ := ha
    refine ⟨_, rfl, _, _, 0, _, rfl, rfl, SqT.of (s1 _ _ ha), atI_nat (j := 0) rfl, _, rfl, _, rfl, n, R, c, y, rfl, s1 _ _ hc, vc, fun H2 s2 => ?_⟩
    exact q _ (s1.trans s2)
end
end Lev
set_option Elab.async false
set_option linter.all false
set_option maxRecDepth 100000
set_option maxHeartbeats 4000000
namespace Lev
open PySem PySem.Spec PyProof.Rows L2
/-! ### pairs, sorted -/
theorem paired_perm {α β : Type} {F : α → β → Prop} {xs ys : List α} (h : ys.Perm xs) : ∀ {L : List β}, Paired F xs L → ∃ M, M.Perm L ∧ Paired F ys M := by
  induction h with
  | nil => intro L p; exact ⟨L, List.Perm.refl _, p⟩
  | cons x _ ih =>
    intro L p
    cases p with
    | cons r t =>
      obtain ⟨M, h1, h2⟩ := ih t
      exact ⟨_ :: M, h1.cons _, .cons r h2⟩
  | swap x y l =>
    intro L p
    cases p with
    | cons r t =>
      cases t with
      | cons r2 t2 => exact ⟨_ :: _ :: _, List.Perm.swap _ _ _, .cons r2 (.cons r t2)⟩
  | trans _ _ ih1 ih2 =>
    intro L p
    obtain ⟨M, h1, h2⟩ := ih2 p
    obtain ⟨M2, h3, h4⟩ := ih1 h2
    exact ⟨M2, h3.trans h1, h4⟩
theorem paired_mem2 {α β : Type} {F : α → β → Prop} : ∀ {xs : List α} {ys : List β} {y : β}, Paired F xs ys → y ∈ ys → ∃ x, x ∈ xs ∧ F x y
  | _, _, _, .nil, e => by simp at e
  | _, _, y, .cons r t, e => by
    rcases List.mem_cons.mp e with e | e
    · subst e
      exact ⟨_, List.mem_cons_self .., r⟩
    · obtain ⟨x, h1, h2⟩ := paired_mem2 t e
      exact ⟨x, List.mem_cons_of_mem _ h1, h2⟩
theorem pair_tup {K : PySem.W.Frag} {H : Hp} {t : Addr} {p : Nat × Nat} (h : H t = some (.tup (pV p))) : TupI K H (.ref t) [(p.1 : Int), (p.2 : Int)] := ⟨t, rfl, SqT.of h⟩
theorem srt_of {K : PySem.W.Frag} {H : Hp} : ∀ {ys : List V} {M : Edges}, PsAt H ys M → ys.Pairwise (fun x y => ∀ n m, TupI K H x n → TupI K H y m → TS.code 64 n ≤ TS.code 64 m) → Srt M
  | _, _, .nil, _ => List.Pairwise.nil
  | _, _, .cons (a := x) (b := p) r t, h => by
    obtain ⟨h1, h2⟩ := List.pairwise_cons.mp h
    refine List.pairwise_cons.mpr ⟨fun q hq => ?_, srt_of t h2⟩
    obtain ⟨y, hy, t2, e2, ht2⟩ := paired_mem2 t hq
    obtain ⟨t1, e1, ht1⟩ := r
    subst e1
    subst e2
    have z := h1 _ hy _ _ (pair_tup ht1) (pair_tup ht2)
    rw [code_pair, code_pair] at z
    unfold pc
    omega
theorem ps_sorted {K : PySem.W.Frag} {H : Hp} {xs ys : List V} {L : Edges} (h : PsAt H xs L) (hb : ∀ p ∈ L, p.2 < 64) (pm : ys.Perm xs) (pw : ys.Pairwise (fun x y => ∀ n m, TupI K H x n → TupI K H y m → TS.code 64 n ≤ TS.code 64 m)) : PsAt H ys (sortP L) := by
  obtain ⟨M, h1, h2⟩ := paired_perm pm h
  have e := sortP_eq h1 (srt_of h2 pw) hb
  rw [← e]
  exact h2
theorem ps_tupI {K : PySem.W.Frag} {H : Hp} {xs : List V} {L : Edges} (h : PsAt H xs L) (hb : ∀ p ∈ L, p.1 < 64 ∧ p.2 < 64) : ∀ x ∈ xs, ∃ ns, TupI K H x ns ∧ ns.length = 2 ∧ TS.Bd 64 ns := fun x hx => by
  obtain ⟨p, hp, t, e, ht⟩ := paired_mem h hx
  subst e
  obtain ⟨b1, b2⟩ := hb p hp
  refine ⟨_, pair_tup ht, rfl, fun m hm => ?_⟩
  rcases List.mem_cons.mp hm with e | hm
  · omega
  · rcases List.mem_cons.mp hm with e | hm
    · omega
    · cases hm
theorem WebS.lt64 {n : Nat} {E : Edges} (we : WebS n E) : ∀ p ∈ E, p.1 < 64 ∧ p.2 < 64 := fun p hp => by
  have := we.ok.lt p hp
  have := we.ok.bd p hp
  have := we.n5
  omega
theorem WebS.steep64 {n : Nat} {E : Edges} (we : WebS n E) (x : List Int) : ∀ p ∈ steepL E x, p.1 < 64 ∧ p.2 < 64 := fun p hp => by
  rcases (mem_steepL.mp hp).2 with h | h
  · exact we.lt64 _ h
  · have := we.lt64 _ h
    exact ⟨this.2, this.1⟩
theorem WebS.steepn {n : Nat} {E : Edges} (we : WebS n E) (x : List Int) : ∀ p ∈ sortP (steepL E x), p.1 < n ∧ p.2 < n := fun p hp => by
  rcases (mem_steepL.mp (mem_sortP.mp hp)).2 with h | h
  · have := we.ok.lt _ h
    have := we.ok.bd _ h
    omega
  · have := we.ok.lt _ h
    have := we.ok.bd _ h
    simp only [] at *
    omega
theorem sortP_len (L : Edges) : (sortP L).length = L.length := (sortP_perm L).length_eq
theorem WebS.slen {n : Nat} {E : Edges} (we : WebS n E) (x : List Int) : (sortP (steepL E x)).length < 64 := by
  rw [sortP_len]
  exact Nat.lt_of_le_of_lt (steepL_len E x) we.e64
/-! ### pairs as data -/
def pD (p : Nat × Nat) : PyData := .tuple [.int p.1, .int p.2]
theorem pD_lay (p : Nat × Nat) : (pD p).canLay0 = true := by simp [pD, PyData.canLay0, PyData.canLayAll0]
theorem pD_depth (p : Nat × Nat) : (pD p).depth = 1 := by simp [pD, PyData.depth, PyData.depthAll]
theorem pDs_lay : ∀ M : Edges, PyData.canLayAll0 (M.map pD) = true
  | [] => by simp [PyData.canLayAll0]
  | p :: M => by simp [PyData.canLayAll0, pD_lay p, pDs_lay M]
theorem pDs_depth : ∀ M : Edges, PyData.depthAll (M.map pD) ≤ 1
  | [] => by simp [PyData.depthAll]
  | p :: M => by
    have h1 := pDs_depth M
    have h2 := pD_depth p
    simp only [List.map_cons, PyData.depthAll]
    omega
theorem pD_shaped (p : Nat × Nat) : SeqAt.shaped (pD p) = true := by
  have h := pD_depth p
  show ((pD p).canLay0 && decide ((pD p).depth ≤ 64)) = true
  rw [Bool.and_eq_true]
  exact ⟨pD_lay p, decide_eq_true (by omega)⟩
theorem pDs_shaped (M : Edges) : SeqAt.shaped (.list (M.map pD)) = true := by
  have h1 := pDs_depth M
  have h2 : PyData.depth (.list (M.map pD)) ≤ 64 := by
    simp only [PyData.depth]
    omega
  show (PyData.canLay0 (.list (M.map pD)) && decide (PyData.depth (.list (M.map pD)) ≤ 64)) = true
  rw [Bool.and_eq_true]
  exact ⟨by simp only [PyData.canLay0]; exact pDs_lay M, decide_eq_true h2⟩
theorem pDs_shapedT (M : Edges) : SeqAt.shaped (.tuple (M.map pD)) = true := by
  have h1 := pDs_depth M
  have h2 : PyData.depth (.tuple (M.map pD)) ≤ 64 := by
    simp only [PyData.depth]
    omega
  show (PyData.canLay0 (.tuple (M.map pD)) && decide (PyData.depth (.tuple (M.map pD)) ≤ 64)) = true
  rw [Bool.and_eq_true]
  exact ⟨by simp only [PyData.canLay0]; exact pDs_lay M, decide_eq_true h2⟩
theorem pD_at {K : PySem.W.Frag} {H : Hp} {t : Addr} {p : Nat × Nat} (h : H t = some (.tup (pV p))) : Dp K H (.ref t) (pD p) := .tup (SqT.of h) (.cons (.int _) (.cons (.int _) .nil))
theorem pDs_at {K : PySem.W.Frag} {H : Hp} : ∀ {xs : List V} {M : Edges}, PsAt H xs M → DpAll K H xs (M.map pD)
  | _, _, .nil => .nil
  | _, _, .cons r t => by
    obtain ⟨a, e, h⟩ := r
    subst e
    exact .cons (pD_at h) (pDs_at t)
theorem eqv_nil (ds : List PyData) : PyData.eqv (.list ds) (.list []) = ds.isEmpty := by
  cases ds <;> rfl
section
variable {P : Program} {w : World} {K : PySem.W.Frag} {mg : Str → Option Value} {base : Heap}
/-! ### steep_in -/
theorem scSteepIn : FnScope ["web", "heights", "found", "one", "other"] ["web", "heights"] (defScope sSteepIn) := ⟨rfl, rfl, rfl, by decide +kernel, rfl, by decide +kernel, by decide +kernel⟩
def spSteepIn : Sp := fun vs H Q _ => ∃ (a : Addr) (n : Nat) (E : Edges) (b : Addr) (x : List Int), vs = [.ref a, .ref b] ∧ WebAt H a n E ∧ WebS n E ∧ HsAt H b x ∧ x.length = n ∧
  ∀ H' p ys, Same H H' → H p = none → H' p = some (.lst ys) → PsAt H' ys (sortP (steepL E x)) → Q (.ref p) H'
theorem ok_steepIn (F : At K mg "steep_in" sSteepIn) (T : Free mg) (C : Cst mg) : Cal P w K mg base "steep_in" 1 ["web", "heights"] spSteepIn := by
  obtain ⟨tk, gHI⟩ := C.hi
  refine cal_mk F scSteepIn (fun _ _ _ _ _ _ us hl => match us, hl with | [_, _], _ => rfl) (fun vs H Q E h => ?_) fun f cdv A outer s H vs Q E hr h => ?_
  · obtain ⟨_, _, _, _, _, rfl, _⟩ := h
    rfl
  · obtain ⟨a, n, L, b, x, rfl, ⟨e, xs, ha, he, hp⟩, we, hb, hx, q⟩ := h
    refine ⟨_, pss_cons (ps_set (i := 2) scSteepIn.nd rfl (.inl rfl) (pe_lst pa_nil))
      (pss_cons (ps_for PassesOwn.never rfl (pi_tup (pe_ix ix_tup (pv 0) pe_int (fun _ _ => rfl)))
        (pg_tup rfl (pgs_cons (pg_name (i := 3) scSteepIn.nd rfl (.inl rfl)) (pgs_cons (pg_name (i := 4) scSteepIn.nd rfl (.inl rfl)) pgs_nil)))
        (pss_one (ps_if (pt_cmpR op_ge (pe_op op_sub (pe_ix ix_tup (pv 1) (pv 4) (fun _ _ => rfl)) (pe_ix ix_tup (pv 1) (pv 3) (fun _ _ => rfl))) (pe_glob (v := .int 2) (by rfl) gHI ⟨_, rfl⟩) (nomark _))
          (pss_one (ps_expr (pe_bm PySem.F.plainAttrs_list PySem.F.slot_list_append PySem.F.type_list_append mt_append (pv 2) (pa_cons (pe_tup (pa_cons (pv 3) (pa_cons (pv 4) pa_nil))) pa_nil))))
          (pss_one (ps_if (pt_cmpR op_ge (pe_op op_sub (pe_ix ix_tup (pv 1) (pv 3) (fun _ _ => rfl)) (pe_ix ix_tup (pv 1) (pv 4) (fun _ _ => rfl))) (pe_glob (v := .int 2) (by rfl) gHI ⟨_, rfl⟩) (nomark _))
            (pss_one (ps_expr (pe_bm PySem.F.plainAttrs_list PySem.F.slot_list_append PySem.F.type_list_append mt_append (pv 2) (pa_cons (pe_tup (pa_cons (pv 4) (pa_cons (pv 3) pa_nil))) pa_nil))))
            pss_nil)))))
      (pss_one (ps_ret (pe_callB (cr_sortT (d := 2) (B := 64) (by decide)) (by rfl) T.srt bt_sorted (pa_cons (pv 2) pa_nil))))), ?_⟩
    refine ⟨Nat.zero_le _, fun D hD => ?_⟩
    have s1 : Same H (upd H D (.lst [])) := same_upd hD
    refine ⟨_, rfl, _, _, 1, _, rfl, rfl, SqT.of (s1 _ _ ha), atI_nat (j := 1) rfl, e, rfl, ⟨_, SqT.of (s1 _ _ he)⟩, ?_⟩
    refine for_tup (K := K) (a := e) (xs := xs) (fun i σ H' => ∃ y3 y4 zs, σ = [some (.ref a), some (.ref b), some (.ref D), y3, y4] ∧ Same H H' ∧ H' D = some (.lst zs) ∧ PsAt H' zs (steepL (L.take i) x))
      ⟨_, _, [], rfl, s1, upd_same, .nil⟩ (fun i σ H' _ p => ?_) (fun i z σ H1 hi p => ?_) (fun σ H' p => ?_)
    · obtain ⟨_, _, _, _, sm, _⟩ := p
      exact SqT.of (sm _ _ he)
    · obtain ⟨y3, y4, zs, rfl, sm, hz, hps⟩ := p
      obtain ⟨⟨c, d⟩, hL, tz, rfl, htz⟩ := paired_get hp hi
      have hmem : (c, d) ∈ L := List.mem_of_getElem? hL
      have hcd : c < d := we.ok.lt _ hmem
      have hdn : d < n := we.ok.bd _ hmem
      have gc : (x.map V.int)[c]? = some (.int (g x c)) := map_get (by omega)
      have gd : (x.map V.int)[d]? = some (.int (g x d)) := map_get (by omega)
      have hb1 := sm _ _ hb
      have hlen : zs.length ≤ 100000 := by
        rw [Paired.length hps]
        have h1 := steepL_len (L.take i) x
        have h2 := we.e64
        rw [List.length_take] at h1
        omega
      have etake : steepL (L.take (i + 1)) x = steepL (L.take i) x ++ steep1 x (c, d) := by rw [take_snoc hL, steepL_snoc]
      refine ⟨tz, _, rfl, SqT.of (sm _ _ htz), rfl, _, _, rfl, _, _, rfl, rfl, ?_⟩
      refine ⟨_, rfl, _, rfl, b, _, (d : Int), _, rfl, rfl, SqT.of hb1, atI_nat gd, _, rfl, _, rfl, b, _, (c : Int), _, rfl, rfl, SqT.of hb1, atI_nat gc, _, _, rfl, rfl, _, _, rfl, rfl, _, rfl, ?_⟩
      have e1 : steep1 x (c, d) = if g x d - g x c ≥ 2 then [(c, d)] else if g x c - g x d ≥ 2 then [(d, c)] else [] := rfl
      by_cases c1 : g x d - g x c ≥ 2
      · rw [if_pos c1] at e1
        refine iteTT (decide_eq_true c1) ?_
        refine ⟨_, rfl, .inl ⟨rfl, _, SqL.of hz⟩, _, rfl, _, rfl, by show 2 ≤ sizeLine; decide, fun p hpn => ?_⟩
        have npD : p ≠ D := fun z => by
          rw [z, hz] at hpn
          cases hpn
        refine ⟨D, zs, _, rfl, rfl, by rw [upd_ne npD.symm]; exact hz, line_small hlen, ?_⟩
        have t1 : Tups H1 (upd H1 p (.tup [nV c, nV d])) := Tups.new hpn
        have t2 : Tups (upd H1 p (.tup [nV c, nV d])) (upd (upd H1 p (.tup [nV c, nV d])) D (.lst (zs ++ [.ref p]))) := Tups.lst (xs := zs) (by rw [upd_ne npD.symm]; exact hz)
        refine ⟨_, _, zs ++ [.ref p], rfl, same_upd2 (fun b o e => same_upd hpn _ _ (sm _ _ e)) hD, upd_same, ?_⟩
        rw [etake, e1]
        exact paired_append ((hps.keep t1).keep t2) (.cons ⟨p, rfl, t2 _ _ upd_same⟩ .nil)
      · rw [if_neg c1] at e1
        refine iteFF (decide_eq_false c1) ?_
        refine ⟨_, rfl, _, rfl, b, _, (c : Int), _, rfl, rfl, SqT.of hb1, atI_nat gc, _, rfl, _, rfl, b, _, (d : Int), _, rfl, rfl, SqT.of hb1, atI_nat gd, _, _, rfl, rfl, _, _, rfl, rfl, _, rfl, ?_⟩
        by_cases c2 : g x c - g x d ≥ 2
        · rw [if_pos c2] at e1
          refine iteTT (decide_eq_true c2) ?_
          refine ⟨_, rfl, .inl ⟨rfl, _, SqL.of hz⟩, _, rfl, _, rfl, by show 2 ≤ sizeLine; decide, fun p hpn => ?_⟩
          have npD : p ≠ D := fun z => by
            rw [z, hz] at hpn
            cases hpn
          refine ⟨D, zs, _, rfl, rfl, by rw [upd_ne npD.symm]; exact hz, line_small hlen, ?_⟩
          have t1 : Tups H1 (upd H1 p (.tup [nV d, nV c])) := Tups.new hpn
          have t2 : Tups (upd H1 p (.tup [nV d, nV c])) (upd (upd H1 p (.tup [nV d, nV c])) D (.lst (zs ++ [.ref p]))) := Tups.lst (xs := zs) (by rw [upd_ne npD.symm]; exact hz)
          refine ⟨_, _, zs ++ [.ref p], rfl, same_upd2 (fun b o e => same_upd hpn _ _ (sm _ _ e)) hD, upd_same, ?_⟩
          rw [etake, e1]
          exact paired_append ((hps.keep t1).keep t2) (.cons ⟨p, rfl, t2 _ _ upd_same⟩ .nil)
        · rw [if_neg c2] at e1
          refine iteFF (decide_eq_false c2) ?_
          refine ⟨_, _, zs, rfl, sm, hz, ?_⟩
          rw [etake, e1, List.append_nil]
          exact hps
    · obtain ⟨y3, y4, zs, rfl, sm, hz, hps⟩ := p
      have eL : L.take xs.length = L := by
        rw [Paired.length hp]
        exact List.take_length
      rw [eL] at hps
      refine ⟨_, rfl, D, zs, rfl, SqL.of hz, ?_, ps_tupI hps (we.steep64 x), fun ys p pm pw hpn => ?_⟩
      · rw [Paired.length hps]
        exact Nat.lt_of_le_of_lt (steepL_len L x) we.e64
      · exact q _ p ys (same_upd2 sm (sm.free hpn)) (sm.free hpn) upd_same ((ps_sorted hps (fun p hp => (we.steep64 x p hp).2) pm pw).keep (Tups.new hpn))
end
end Lev
set_option Elab.async false
set_option linter.all false
set_option maxRecDepth 100000
set_option maxHeartbeats 4000000
namespace Lev
open PySem PySem.Spec PyProof.Rows L2
theorem ixK {K : PySem.W.Frag} {X : Cx} (h : X.K = K := by rfl) : IxR X (rIxT K) := by
  subst h
  exact ix_tup
section
variable {P : Program} {w : World} {K : PySem.W.Frag} {mg : Str → Option Value} {base : Heap}
/-! ### comes_in -/
theorem scComesIn : FnScope ["web", "one", "other", "some", "edge"] ["web", "one", "other"] (defScope sComesIn) := ⟨rfl, rfl, rfl, by decide +kernel, rfl, by decide +kernel, by decide +kernel⟩
def spComesIn : Sp := fun vs H Q _ => ∃ (a : Addr) (n : Nat) (E : Edges) (b : Addr) (x : List Int) (c : Addr) (y : List Int), vs = [.ref a, .ref b, .ref c] ∧ WebAt H a n E ∧ WebS n E ∧ HsAt H b x ∧ x.length = n ∧ HsAt H c y ∧ y.length = n ∧
  ∀ H' r, Same H H' → (r = true ↔ Comes E x y) → Q (.bl r) H'
theorem ok_comesIn (F : At K mg "comes_in" sComesIn) (hS : Cal P w K mg base "steep_in" 1 ["web", "heights"] spSteepIn) : Cal P w K mg base "comes_in" 2 ["web", "one", "other"] spComesIn := by
  obtain ⟨fS, fdS, GS⟩ := hS
  refine cal_mk F scComesIn (fun _ _ _ _ _ _ us hl => match us, hl with | [_, _, _], _ => rfl) (fun vs H Q E h => ?_) fun f cdv A outer s H vs Q E hr h => ?_
  · obtain ⟨_, _, _, _, _, _, _, rfl, _⟩ := h
    rfl
  · obtain ⟨a, n, L, b, x, c, y, rfl, ha, we, hb, vx, hc, vy, q⟩ := h
    refine ⟨_, pss_cons (ps_set (i := 3) scComesIn.nd rfl (.inl rfl) (pe_call GS.ok hr (by rfl) GS.mg GS.kp GS.bi .nil pass0 (pa_cons (pv 0) (pa_cons (pv 2) pa_nil))))
      (pss_one (ps_ret (pe_cmpR (op_eqD hr.units)
        (pe_lc (own := [("edge", 4)]) (g := gName 4) (by rfl) scComesIn.nd (pi_list (pv 3)) (blkOk_by (own := [("edge", 4)]) (N := ["web", "one", "other", "some", "edge"]) (sc := defScope sComesIn) (by decide +kernel))
          (fun _ _ _ _ _ => pg_name (i := 4) scComesIn.nd rfl (Or.inl rfl))
          (fun _ _ _ _ _ => pts_one (PW.pt (pw_or (pt_cmpR op_gt (pe_ix (ixK (K := K)) (pv 1) (pe_ix (ixK (K := K)) (pv 4) pe_int (fun _ _ => rfl)) (fun _ _ => rfl)) (pe_ix (ixK (K := K)) (pv 2) (pe_ix (ixK (K := K)) (pv 4) pe_int (fun _ _ => rfl)) (fun _ _ => rfl)) (nomark _))
            (pw_or1 (pt_cmpR op_gt (pe_ix (ixK (K := K)) (pv 2) (pe_ix (ixK (K := K)) (pv 4) pe_int (fun _ _ => rfl)) (fun _ _ => rfl)) (pe_ix (ixK (K := K)) (pv 1) (pe_ix (ixK (K := K)) (pv 4) pe_int (fun _ _ => rfl)) (fun _ _ => rfl)) (nomark _))))))
          (fun _ _ _ _ _ => pv 4))
        (pe_lst pa_nil) (nomark _)))), ?_⟩
    refine ⟨_, rfl, _, rfl, a, n, L, c, y, rfl, ha, we, hc, vy, fun H1 p0 ys s1 hp0 hys hS => ?_⟩
    have hb1 := s1 _ _ hb
    have hc1 := s1 _ _ hc
    refine ⟨_, rfl, p0, rfl, ⟨_, SqL.of hys⟩, fun D hD => ?_⟩
    refine lc_list (K := K) (a := p0) (xs := ys) (fun i H' => Same H1 H' ∧ ∃ acc, H' D = some (.lst acc) ∧ PsAt H' acc (bar x y ((sortP (steepL L y)).take i))) ⟨same_upd hD, [], upd_same, .nil⟩ (fun i H' _ p => SqL.of (p.1 _ _ hys)) (fun i z H2 hi p => ?_) (fun H2 p => ?_)
    · obtain ⟨sm, acc, hacc, hps⟩ := p
      obtain ⟨⟨c1, d1⟩, hL, tz, rfl, htz⟩ := paired_get hS hi
      have hn := we.steepn y _ (List.mem_of_getElem? hL)
      have hn1 : c1 < n := hn.1
      have hn2 : d1 < n := hn.2
      have htz := sm _ _ htz
      have hb2 := sm _ _ hb1
      have hc2 := sm _ _ hc1
      have xc : (x.map V.int)[c1]? = some (.int (g x c1)) := map_get (by rw [vx]; exact hn1)
      have xd : (x.map V.int)[d1]? = some (.int (g x d1)) := map_get (by rw [vx]; exact hn2)
      have yc : (y.map V.int)[c1]? = some (.int (g y c1)) := map_get (by rw [vy]; exact hn1)
      have yd : (y.map V.int)[d1]? = some (.int (g y d1)) := map_get (by rw [vy]; exact hn2)
      have hlen : acc.length ≤ 100000 := by
        rw [Paired.length hps]
        have h1 := we.slen y
        have h2 := List.length_filter_le (barB x y) ((sortP (steepL L y)).take i)
        have h3 : (bar x y ((sortP (steepL L y)).take i)).length ≤ ((sortP (steepL L y)).take i).length := h2
        rw [List.length_take] at h3
        omega
      have etake : bar x y ((sortP (steepL L y)).take (i + 1)) = bar x y ((sortP (steepL L y)).take i) ++ (if barB x y (c1, d1) = true then [(c1, d1)] else []) := by
        rw [take_snoc hL]
        unfold bar
        rw [List.filter_append]
        congr 1
        by_cases q : barB x y (c1, d1) = true <;> simp [q]
      have put : barB x y (c1, d1) = true → ∃ acc, H2 D = some (.lst acc) ∧ acc.length < sizeLine ∧ Same H1 (upd H2 D (.lst (acc ++ [.ref tz]))) ∧ ∃ acc2, (upd H2 D (.lst (acc ++ [.ref tz]))) D = some (.lst acc2) ∧ PsAt (upd H2 D (.lst (acc ++ [.ref tz]))) acc2 (bar x y ((sortP (steepL L y)).take (i + 1))) := fun q => by
        refine ⟨acc, hacc, line_small hlen, same_upd2 sm hD, _, upd_same, ?_⟩
        have t2 : Tups H2 (upd H2 D (.lst (acc ++ [.ref tz]))) := Tups.lst hacc
        rw [etake, if_pos q]
        exact paired_append (hps.keep t2) (.cons ⟨tz, rfl, t2 _ _ htz⟩ .nil)
      refine ⟨rfl, ?_⟩
      refine ⟨_, rfl, _, rfl, tz, _, 0, _, rfl, rfl, SqT.of htz, atI_nat (j := 0) rfl, b, _, (c1 : Int), _, rfl, rfl, SqT.of hb2, atI_nat xc, _, rfl, _, rfl, tz, _, 0, _, rfl, rfl, SqT.of htz, atI_nat (j := 0) rfl, c, _, (c1 : Int), _, rfl, rfl, SqT.of hc2, atI_nat yc, _, _, rfl, rfl, _, rfl, ?_⟩
      by_cases q1 : g y c1 < g x c1
      · refine iteTT (decide_eq_true q1) (iteT ?_)
        exact ⟨_, rfl, put (by unfold barB; rw [decide_eq_true (show g x c1 > g y c1 from q1)]; rfl)⟩
      · refine iteFF (decide_eq_false q1) ?_
        refine ⟨_, rfl, _, rfl, tz, _, 1, _, rfl, rfl, SqT.of htz, atI_nat (j := 1) rfl, c, _, (d1 : Int), _, rfl, rfl, SqT.of hc2, atI_nat yd, _, rfl, _, rfl, tz, _, 1, _, rfl, rfl, SqT.of htz, atI_nat (j := 1) rfl, b, _, (d1 : Int), _, rfl, rfl, SqT.of hb2, atI_nat xd, _, _, rfl, rfl, _, rfl, ?_⟩
        by_cases q2 : g x d1 < g y d1
        · refine iteTT (decide_eq_true q2) ?_
          exact ⟨_, rfl, put (by unfold barB; rw [decide_eq_true (show g y d1 > g x d1 from q2), Bool.or_true])⟩
        · refine iteFF (decide_eq_false q2) ?_
          refine ⟨sm, acc, hacc, ?_⟩
          have qb : barB x y (c1, d1) = false := by
            unfold barB
            rw [decide_eq_false (show ¬ g x c1 > g y c1 from q1), decide_eq_false (show ¬ g y d1 > g x d1 from q2)]
            rfl
          rw [etake, if_neg (by rw [qb]; exact Bool.false_ne_true), List.append_nil]
          exact hps
    · obtain ⟨sm, acc, hacc, hps⟩ := p
      have eL : (sortP (steepL L y)).take ys.length = sortP (steepL L y) := by
        rw [Paired.length hS]
        exact List.take_length
      rw [eL] at hps
      refine ⟨Nat.zero_le _, fun l hl => ?_⟩
      have t3 : Tups H2 (upd H2 l (.lst [])) := Tups.new hl
      refine ⟨.list ((bar x y (sortP (steepL L y))).map pD), .list [], .lst (SqL.of (by rw [upd_ne (ne_of_none hacc hl)]; exact hacc)) (pDs_at (hps.keep t3)), .lst (SqL.of upd_same) .nil, pDs_shaped _, rfl, ?_⟩
      rw [eqv_nil]
      refine q _ _ ((s1.trans sm).trans (same_upd hl)) ?_
      rw [List.isEmpty_iff, List.map_eq_nil_iff]
      exact bar_nil
/-! ### can_come -/
theorem scCanCome : FnScope ["web", "roof", "one", "other"] ["web", "roof", "one", "other"] (defScope sCanCome) := ⟨rfl, rfl, rfl, by decide +kernel, rfl, by decide +kernel, by decide +kernel⟩
/-- the four arguments -/
structure Arg4 (H : Hp) (vs : List V) (a : Addr) (n : Nat) (E : Edges) (R : Int) (b : Addr) (x : List Int) (c : Addr) (y : List Int) : Prop where
  vs : vs = [.ref a, .int R, .ref b, .ref c]
  web : WebAt H a n E
  we : WebS n E
  r1 : 1 ≤ R
  r9 : R ≤ 9
  one : HsAt H b x
  vx : Valid n R x
  oth : HsAt H c y
  vy : Valid n R y
def spCanCome : Sp := fun vs H Q _ => ∃ (a : Addr) (n : Nat) (E : Edges) (R : Int) (b : Addr) (x : List Int) (c : Addr) (y : List Int), Arg4 H vs a n E R b x c y ∧ ∀ H' r, Same H H' → (r = true ↔ Comes E x y) → Q (.bl r) H'
theorem ok_canCome (F : At K mg "can_come" sCanCome) (hN : Cal P w K mg base "need_two" 6 ["web", "roof", "one", "other"] spNeedTwo) (hC : Cal P w K mg base "comes_in" 2 ["web", "one", "other"] spComesIn) : Cal P w K mg base "can_come" 7 ["web", "roof", "one", "other"] spCanCome := by
  obtain ⟨fN, fdN, GN⟩ := hN
  obtain ⟨fC, fdC, GC⟩ := hC
  refine cal_mk F scCanCome (fun _ _ _ _ _ _ us hl => match us, hl with | [_, _, _, _], _ => rfl) (fun vs H Q E h => ?_) fun f cdv A outer s H vs Q E hr h => ?_
  · obtain ⟨_, _, _, _, _, _, _, _, h, _⟩ := h
    rw [h.vs]
    rfl
  · obtain ⟨a, n, L, R, b, x, c, y, ⟨rfl, ha, we, h1, h2, hb, vx, hc, vy⟩, q⟩ := h
    refine ⟨_, pss_cons (ps_expr (pe_call GN.ok hr (by rfl) GN.mg GN.kp GN.bi .nil pass0 (pa_cons (pv 0) (pa_cons (pv 1) (pa_cons (pv 2) (pa_cons (pv 3) pa_nil))))))
      (pss_one (ps_ret (pe_call GC.ok (hr.mono (by decide)) (by rfl) GC.mg GC.kp GC.bi .nil pass0 (pa_cons (pv 0) (pa_cons (pv 2) (pa_cons (pv 3) pa_nil)))))), ?_⟩
    refine ⟨_, rfl, _, rfl, _, rfl, _, rfl, a, n, L, R, b, x, c, y, rfl, ha, we, h1, h2, hb, vx, hc, vy, fun H1 s1 => ?_⟩
    exact ⟨_, rfl, _, rfl, _, rfl, a, n, L, b, x, c, y, rfl, ha.keep (Tups.of s1), we, s1 _ _ hb, vx.len, s1 _ _ hc, vy.len, fun H2 r s2 hi => q _ r (s1.trans s2) hi⟩
/-! ### bars -/
theorem scBars : FnScope ["web", "roof", "one", "other", "some", "edge"] ["web", "roof", "one", "other"] (defScope sBars) := ⟨rfl, rfl, rfl, by decide +kernel, rfl, by decide +kernel, by decide +kernel⟩
def spBars : Sp := fun vs H Q _ => ∃ (a : Addr) (n : Nat) (E : Edges) (R : Int) (b : Addr) (x : List Int) (c : Addr) (y : List Int), Arg4 H vs a n E R b x c y ∧
  ∀ H' p zs, Same H H' → H' p = some (.tup zs) → PsAt H' zs (bar x y (sortP (steepL E y))) → Q (.ref p) H'
theorem ok_bars (F : At K mg "bars" sBars) (T : Free mg) (hN : Cal P w K mg base "need_two" 6 ["web", "roof", "one", "other"] spNeedTwo) (hS : Cal P w K mg base "steep_in" 1 ["web", "heights"] spSteepIn) : Cal P w K mg base "bars" 7 ["web", "roof", "one", "other"] spBars := by
  obtain ⟨fN, fdN, GN⟩ := hN
  obtain ⟨fS, fdS, GS⟩ := hS
  refine cal_mk F scBars (fun _ _ _ _ _ _ us hl => match us, hl with | [_, _, _, _], _ => rfl) (fun vs H Q E h => ?_) fun f cdv A outer s H vs Q E hr h => ?_
  · obtain ⟨_, _, _, _, _, _, _, _, h, _⟩ := h
    rw [h.vs]
    rfl
  · obtain ⟨a, n, L, R, b, x, c, y, ⟨rfl, ha, we, h1, h2, hb, vvx, hc, vvy⟩, q⟩ := h
    have vx := vvx.len
    have vy := vvy.len
    refine ⟨_, pss_cons (ps_expr (pe_call GN.ok hr (by rfl) GN.mg GN.kp GN.bi .nil pass0 (pa_cons (pv 0) (pa_cons (pv 1) (pa_cons (pv 2) (pa_cons (pv 3) pa_nil))))))
      (pss_cons (ps_set (i := 4) scBars.nd rfl (.inl rfl) (pe_call GS.ok (hr.mono (by decide)) (by rfl) GS.mg GS.kp GS.bi .nil pass0 (pa_cons (pv 0) (pa_cons (pv 3) pa_nil))))
      (pss_one (ps_ret (pe_callTy call_tuple_of (by rfl) T.tup bt_tuple (pa_cons
        (pe_lc (own := [("edge", 5)]) (g := gName 5) (by rfl) scBars.nd (pi_list (pv 4)) (blkOk_by (own := [("edge", 5)]) (N := ["web", "roof", "one", "other", "some", "edge"]) (sc := defScope sBars) (by decide +kernel))
          (fun _ _ _ _ _ => pg_name (i := 5) scBars.nd rfl (Or.inl rfl))
          (fun _ _ _ _ _ => pts_one (PW.pt (pw_or (pt_cmpR op_gt (pe_ix (ixK (K := K)) (pv 2) (pe_ix (ixK (K := K)) (pv 5) pe_int (fun _ _ => rfl)) (fun _ _ => rfl)) (pe_ix (ixK (K := K)) (pv 3) (pe_ix (ixK (K := K)) (pv 5) pe_int (fun _ _ => rfl)) (fun _ _ => rfl)) (nomark _))
            (pw_or1 (pt_cmpR op_gt (pe_ix (ixK (K := K)) (pv 3) (pe_ix (ixK (K := K)) (pv 5) pe_int (fun _ _ => rfl)) (fun _ _ => rfl)) (pe_ix (ixK (K := K)) (pv 2) (pe_ix (ixK (K := K)) (pv 5) pe_int (fun _ _ => rfl)) (fun _ _ => rfl)) (nomark _))))))
          (fun _ _ _ _ _ => pv 5))
        pa_nil))))), ?_⟩
    refine ⟨_, rfl, _, rfl, _, rfl, _, rfl, a, n, L, R, b, x, c, y, rfl, ha, we, h1, h2, hb, vvx, hc, vvy, fun H0 s0 => ?_⟩
    refine ⟨_, rfl, _, rfl, a, n, L, c, y, rfl, ha.keep (Tups.of s0), we, s0 _ _ hc, vy, fun H1 p0 ys s1 hp0 hys hS => ?_⟩
    have hb1 := s1 _ _ (s0 _ _ hb)
    have hc1 := s1 _ _ (s0 _ _ hc)
    refine ⟨_, rfl, p0, rfl, ⟨_, SqL.of hys⟩, fun D hD => ?_⟩
    refine lc_list (K := K) (a := p0) (xs := ys) (fun i H' => Same H1 H' ∧ ∃ acc, H' D = some (.lst acc) ∧ PsAt H' acc (bar x y ((sortP (steepL L y)).take i))) ⟨same_upd hD, [], upd_same, .nil⟩ (fun i H' _ p => SqL.of (p.1 _ _ hys)) (fun i z H2 hi p => ?_) (fun H2 p => ?_)
    · obtain ⟨sm, acc, hacc, hps⟩ := p
      obtain ⟨⟨c1, d1⟩, hL, tz, rfl, htz⟩ := paired_get hS hi
      have hn := we.steepn y _ (List.mem_of_getElem? hL)
      have hn1 : c1 < n := hn.1
      have hn2 : d1 < n := hn.2
      have htz := sm _ _ htz
      have hb2 := sm _ _ hb1
      have hc2 := sm _ _ hc1
      have xc : (x.map V.int)[c1]? = some (.int (g x c1)) := map_get (by rw [vx]; exact hn1)
      have xd : (x.map V.int)[d1]? = some (.int (g x d1)) := map_get (by rw [vx]; exact hn2)
      have yc : (y.map V.int)[c1]? = some (.int (g y c1)) := map_get (by rw [vy]; exact hn1)
      have yd : (y.map V.int)[d1]? = some (.int (g y d1)) := map_get (by rw [vy]; exact hn2)
      have hlen : acc.length ≤ 100000 := by
        rw [Paired.length hps]
        have h1 := we.slen y
        have h2 := List.length_filter_le (barB x y) ((sortP (steepL L y)).take i)
        have h3 : (bar x y ((sortP (steepL L y)).take i)).length ≤ ((sortP (steepL L y)).take i).length := h2
        rw [List.length_take] at h3
        omega
      have etake : bar x y ((sortP (steepL L y)).take (i + 1)) = bar x y ((sortP (steepL L y)).take i) ++ (if barB x y (c1, d1) = true then [(c1, d1)] else []) := by
        rw [take_snoc hL]
        unfold bar
        rw [List.filter_append]
        congr 1
        by_cases q : barB x y (c1, d1) = true <;> simp [q]
      have put : barB x y (c1, d1) = true → ∃ acc, H2 D = some (.lst acc) ∧ acc.length < sizeLine ∧ Same H1 (upd H2 D (.lst (acc ++ [.ref tz]))) ∧ ∃ acc2, (upd H2 D (.lst (acc ++ [.ref tz]))) D = some (.lst acc2) ∧ PsAt (upd H2 D (.lst (acc ++ [.ref tz]))) acc2 (bar x y ((sortP (steepL L y)).take (i + 1))) := fun q => by
        refine ⟨acc, hacc, line_small hlen, same_upd2 sm hD, _, upd_same, ?_⟩
        have t2 : Tups H2 (upd H2 D (.lst (acc ++ [.ref tz]))) := Tups.lst hacc
        rw [etake, if_pos q]
        exact paired_append (hps.keep t2) (.cons ⟨tz, rfl, t2 _ _ htz⟩ .nil)
      refine ⟨rfl, ?_⟩
      refine ⟨_, rfl, _, rfl, tz, _, 0, _, rfl, rfl, SqT.of htz, atI_nat (j := 0) rfl, b, _, (c1 : Int), _, rfl, rfl, SqT.of hb2, atI_nat xc, _, rfl, _, rfl, tz, _, 0, _, rfl, rfl, SqT.of htz, atI_nat (j := 0) rfl, c, _, (c1 : Int), _, rfl, rfl, SqT.of hc2, atI_nat yc, _, _, rfl, rfl, _, rfl, ?_⟩
      by_cases q1 : g y c1 < g x c1
      · refine iteTT (decide_eq_true q1) (iteT ?_)
        exact ⟨_, rfl, put (by unfold barB; rw [decide_eq_true (show g x c1 > g y c1 from q1)]; rfl)⟩
      · refine iteFF (decide_eq_false q1) ?_
        refine ⟨_, rfl, _, rfl, tz, _, 1, _, rfl, rfl, SqT.of htz, atI_nat (j := 1) rfl, c, _, (d1 : Int), _, rfl, rfl, SqT.of hc2, atI_nat yd, _, rfl, _, rfl, tz, _, 1, _, rfl, rfl, SqT.of htz, atI_nat (j := 1) rfl, b, _, (d1 : Int), _, rfl, rfl, SqT.of hb2, atI_nat xd, _, _, rfl, rfl, _, rfl, ?_⟩
        by_cases q2 : g x d1 < g y d1
        · refine iteTT (decide_eq_true q2) ?_
          exact ⟨_, rfl, put (by unfold barB; rw [decide_eq_true (show g y d1 > g x d1 from q2), Bool.or_true])⟩
        · refine iteFF (decide_eq_false q2) ?_
          refine ⟨sm, acc, hacc, ?_⟩
          have qb : barB x y (c1, d1) = false := by
            unfold barB
            rw [decide_eq_false (show ¬ g x c1 > g y c1 from q1), decide_eq_false (show ¬ g y d1 > g x d1 from q2)]
            rfl
          rw [etake, if_neg (by rw [qb]; exact Bool.false_ne_true), List.append_nil]
          exact hps
    · obtain ⟨sm, acc, hacc, hps⟩ := p
      have eL : (sortP (steepL L y)).take ys.length = sortP (steepL L y) := by
        rw [Paired.length hS]
        exact List.take_length
      rw [eL] at hps
      refine ⟨D, acc, rfl, .inl ⟨SqL.of hacc, fun l hl => ?_⟩⟩
      exact q _ l acc (((s0.trans s1).trans sm).trans (same_upd hl)) upd_same (hps.keep (Tups.new hl))
/-! ### steps_in -/
theorem scStepsIn : FnScope ["one", "other", "place", "height"] ["one", "other"] (defScope sStepsIn) := ⟨rfl, rfl, rfl, by decide +kernel, rfl, by decide +kernel, by decide +kernel⟩
def spStepsIn : Sp := fun vs H Q _ => ∃ (b : Addr) (x : List Int) (c : Addr) (y : List Int), vs = [.ref b, .ref c] ∧ HsAt H b x ∧ HsAt H c y ∧ x.length = y.length ∧ x.length ≤ 100000 ∧ ∀ H', Same H H' → Q (.int (off x y)) H'
theorem ok_stepsIn (F : At K mg "steps_in" sStepsIn) (T : Free mg) : Cal P w K mg base "steps_in" 1 ["one", "other"] spStepsIn := by
  refine cal_mk F scStepsIn (fun _ _ _ _ _ _ us hl => match us, hl with | [_, _], _ => rfl) (fun vs H Q E h => ?_) fun f cdv A outer s H vs Q E hr h => ?_
  · obtain ⟨_, _, _, _, rfl, _⟩ := h
    rfl
  · obtain ⟨b, x, c, y, rfl, hb, hc, hl, hx, q⟩ := h
    refine ⟨_, pss_one (ps_ret (pe_callB (cr_sum rfl) (by rfl) T.sum bt_sum (pa_cons
      (pe_lc (own := [("place", 2), ("height", 3)]) (g := gTup K 2 (gCons (gName 2) (gCons (gName 3) gNil))) (tt := tYes) (by rfl) scStepsIn.nd (pi_enumT (by rfl) T.enu (pa_cons (pv 0) pa_nil))
        (blkOk_by (own := [("place", 2), ("height", 3)]) (N := ["one", "other", "place", "height"]) (sc := defScope sStepsIn) (by decide +kernel))
        (fun _ _ _ _ _ => pg_tup (by rfl) (pgs_cons (pg_name (i := 2) scStepsIn.nd rfl (Or.inl rfl)) (pgs_cons (pg_name (i := 3) scStepsIn.nd rfl (Or.inl rfl)) pgs_nil)))
        (fun _ _ _ _ _ => pts_nil)
        (fun _ _ _ _ _ => pe_callB call_abs (by rfl) T.abs bt_abs (pa_cons (pe_op op_sub (pv 3) (pe_ix (ixK (K := K)) (pv 1) (pv 2) (fun _ _ => rfl))) pa_nil)))
      pa_nil))), ?_⟩
    refine ⟨_, rfl, b, _, rfl, SqT.of hb, fun D hD => ?_⟩
    refine lc_it (walk_enumT (K := K) (a := b) (xs := x.map V.int)) (fun i H' => Same H H' ∧ H' D = some (.lst (((List.range i).map fun k => absd (g x k) (g y k)).map V.int))) ⟨same_upd hD, upd_same⟩ (fun i H' _ p => SqT.of (p.1 _ _ hb)) (fun i v H1 H2 hi p yy => ?_) (fun H' p => ?_)
    · obtain ⟨sm, hacc⟩ := p
      obtain ⟨t, x1, z, rfl, nt, rfl, ex, ez⟩ := yy
      have ex : x1 = .int (i : Nat) := (Option.some.inj ex).symm
      subst ex
      have hin : i < x.length := by
        rw [List.length_map] at hi
        exact hi
      have ez : (x.map V.int)[i]? = some z := ez
      rw [map_get hin] at ez
      have ez : z = .int (g x i) := (Option.some.inj ez).symm
      subst ez
      have sm2 : Same H (upd H1 t (.tup [.int (i : Nat), .int (g x i)])) := sm.trans (same_upd nt)
      have ntD : D ≠ t := ne_of_none hacc nt
      have gy : (y.map V.int)[i]? = some (.int (g y i)) := map_get (by omega)
      refine ⟨t, _, rfl, SqT.of upd_same, rfl, _, _, rfl, _, _, rfl, rfl, rfl, ?_⟩
      refine ⟨_, rfl, _, rfl, _, rfl, c, _, (i : Int), _, rfl, rfl, SqT.of (sm2 _ _ hc), atI_nat gy, _, _, rfl, rfl, _, rfl, ?_⟩
      refine ⟨_, by rw [upd_ne ntD]; exact hacc, line_small (by rw [List.length_map, List.length_map, List.length_range]; omega), same_upd2 sm2 hD, ?_⟩
      rw [upd_same, List.range_succ, List.map_append, List.map_append]
      have ea : absd (g x i) (g y i) = if g x i - g y i < 0 then -(g x i - g y i) else g x i - g y i := by
        unfold absd
        split <;> split <;> omega
      rw [← ea]
      rfl
    · obtain ⟨sm, hacc⟩ := p
      refine ⟨D, _, rfl, SqL.of hacc, ?_⟩
      rw [List.length_map]
      exact q _ sm
/-! ### fewest -/
theorem scFewest : FnScope ["web", "roof", "one", "other"] ["web", "roof", "one", "other"] (defScope sFewest) := ⟨rfl, rfl, rfl, by decide +kernel, rfl, by decide +kernel, by decide +kernel⟩
def spFewest : Sp := fun vs H Q _ => ∃ (a : Addr) (n : Nat) (E : Edges) (R : Int) (b : Addr) (x : List Int) (c : Addr) (y : List Int), Arg4 H vs a n E R b x c y ∧ ∀ H' v, Same H H' → (Comes E x y → v = .int (off x y)) → (¬ Comes E x y → v = .non) → Q v H'
theorem ok_fewest (F : At K mg "fewest" sFewest) (hN : Cal P w K mg base "need_two" 6 ["web", "roof", "one", "other"] spNeedTwo) (hC : Cal P w K mg base "comes_in" 2 ["web", "one", "other"] spComesIn) (hS : Cal P w K mg base "steps_in" 1 ["one", "other"] spStepsIn) : Cal P w K mg base "fewest" 7 ["web", "roof", "one", "other"] spFewest := by
  obtain ⟨fN, fdN, GN⟩ := hN
  obtain ⟨fC, fdC, GC⟩ := hC
  obtain ⟨fS, fdS, GS⟩ := hS
  refine cal_mk F scFewest (fun _ _ _ _ _ _ us hl => match us, hl with | [_, _, _, _], _ => rfl) (fun vs H Q E h => ?_) fun f cdv A outer s H vs Q E hr h => ?_
  · obtain ⟨_, _, _, _, _, _, _, _, h, _⟩ := h
    rw [h.vs]
    rfl
  · obtain ⟨a, n, L, R, b, x, c, y, ⟨rfl, ha, we, h1, h2, hb, vx, hc, vy⟩, q⟩ := h
    have hr1 := hr.mono (show 1 ≤ 6 by decide)
    have hr2 := hr.mono (show 2 ≤ 6 by decide)
    refine ⟨_, pss_cons (ps_expr (pe_call GN.ok hr (by rfl) GN.mg GN.kp GN.bi .nil pass0 (pa_cons (pv 0) (pa_cons (pv 1) (pa_cons (pv 2) (pa_cons (pv 3) pa_nil))))))
      (pss_one (ps_ret (pe_ifExp (pt_val (pe_call GC.ok hr2 (by rfl) GC.mg GC.kp GC.bi .nil pass0 (pa_cons (pv 0) (pa_cons (pv 2) (pa_cons (pv 3) pa_nil)))))
        (pe_call GS.ok hr1 (by rfl) GS.mg GS.kp GS.bi .nil pass0 (pa_cons (pv 2) (pa_cons (pv 3) pa_nil))) pe_non))), ?_⟩
    refine ⟨_, rfl, _, rfl, _, rfl, _, rfl, a, n, L, R, b, x, c, y, rfl, ha, we, h1, h2, hb, vx, hc, vy, fun H1 s1 => ?_⟩
    refine ⟨_, rfl, _, rfl, _, rfl, a, n, L, b, x, c, y, rfl, ha.keep (Tups.of s1), we, s1 _ _ hb, vx.len, s1 _ _ hc, vy.len, fun H2 r s2 hi => ⟨_, rfl, ?_⟩⟩
    have s12 := s1.trans s2
    cases r with
    | true =>
      refine iteT ⟨_, rfl, _, rfl, b, x, c, y, rfl, s12 _ _ hb, s12 _ _ hc, by rw [vx.len, vy.len], by rw [vx.len]; have := we.n5; omega, fun H3 s3 => ?_⟩
      exact q _ _ (s12.trans s3) (fun _ => rfl) fun z => absurd (hi.mp rfl) z
    | false =>
      refine iteF ?_
      exact q _ _ s12 (fun z => absurd (hi.mpr z) Bool.false_ne_true) fun _ => rfl
end
end Lev
set_option Elab.async false
set_option linter.all false
set_option maxRecDepth 100000
set_option maxHeartbeats 4000000
namespace Lev
open PySem PySem.Spec PyProof.Rows L2
/-! ### the row of draws -/
/-- the script's list: locked, or of the written part -/
def ScL (K : PySem.W.Frag) (H : Hp) (a : Addr) (xs : List V) : Prop := (∃ o, H a = some (.frz o (.lst xs))) ∨ ∀ H', SqL K H' a xs
theorem ScL.sq {K : PySem.W.Frag} {H : Hp} {a : Addr} {xs : List V} (h : ScL K H a xs) : SqL K H a xs := by
  rcases h with ⟨o, h⟩ | h
  · exact .inl (.inr ⟨o, h⟩)
  · exact h H
structure RowIs (K : PySem.W.Frag) (H : Hp) (r sc : Addr) (ns : List Int) (i s c : Int) : Prop where
  at_ : H r = some (.lst [.ref sc, .int i, .int s, .int c])
  seq : ScL K H sc (ns.map V.int)
  i0 : 0 ≤ i
  s0 : 0 ≤ s
  s1 : s < 2147483647
  c0 : 0 ≤ c
def RowAt (K : PySem.W.Frag) (H : Hp) (r : Addr) : Prop := ∃ sc ns i s c, RowIs K H r sc ns i s c
def SameR (r : Addr) (H H' : Hp) : Prop := ∀ b o, b ≠ r → H b = some o → H' b = some o
structure Nxt (K : PySem.W.Frag) (r : Addr) (H H' : Hp) : Prop where
  sm : SameR r H H'
  row : RowAt K H' r
theorem SameR.refl (r : Addr) (H : Hp) : SameR r H H := fun _ _ _ e => e
theorem SameR.trans {r : Addr} {H H1 H2 : Hp} (a : SameR r H H1) (b : SameR r H1 H2) : SameR r H H2 := fun c o n e => b c o n (a c o n e)
theorem SameR.of {r : Addr} {H H' : Hp} (s : Same H H') : SameR r H H' := fun b o _ e => s b o e
theorem SameR.scl {K : PySem.W.Frag} {r a : Addr} {H H' : Hp} {xs ys : List V} (s : SameR r H H') (hr : H r = some (.lst ys)) (h : ScL K H a xs) : ScL K H' a xs := by
  rcases h with ⟨o, h⟩ | h
  · exact .inl ⟨o, s _ _ (fun z => by
      rw [z, hr] at h
      cases h) h⟩
  · exact .inr h
theorem RowAt.same {K : PySem.W.Frag} {r : Addr} {H H' : Hp} (h : RowAt K H r) (s : Same H H') : RowAt K H' r := by
  obtain ⟨sc, ns, i, z, c, h⟩ := h
  exact ⟨sc, ns, i, z, c, s _ _ h.at_, (SameR.of s).scl h.at_ h.seq, h.i0, h.s0, h.s1, h.c0⟩
theorem Nxt.of {K : PySem.W.Frag} {r : Addr} {H H' : Hp} (h : RowAt K H r) (s : Same H H') : Nxt K r H H' := ⟨SameR.of s, h.same s⟩
theorem Nxt.trans {K : PySem.W.Frag} {r : Addr} {H H1 H2 : Hp} (a : Nxt K r H H1) (b : Nxt K r H1 H2) : Nxt K r H H2 := ⟨a.sm.trans b.sm, b.row⟩
theorem Nxt.then {K : PySem.W.Frag} {r : Addr} {H H1 H2 : Hp} (a : Nxt K r H H1) (b : Same H1 H2) : Nxt K r H H2 := ⟨a.sm.trans (SameR.of b), a.row.same b⟩
theorem RowAt.lst {K : PySem.W.Frag} {r : Addr} {H : Hp} (h : RowAt K H r) : ∃ xs, H r = some (.lst xs) := by
  obtain ⟨sc, ns, i, z, c, h⟩ := h
  exact ⟨_, h.at_⟩
theorem Nxt.tups {K : PySem.W.Frag} {r : Addr} {H H' : Hp} (h0 : RowAt K H r) (a : Nxt K r H H') : Tups H H' := fun b xs e => a.sm b _ (fun z => by
  obtain ⟨ys, h⟩ := h0.lst
  rw [z, h] at e
  cases e) e
theorem RowAt.ne {K : PySem.W.Frag} {r l : Addr} {H : Hp} (h : RowAt K H r) (hl : H l = none) : l ≠ r := fun z => by
  obtain ⟨ys, h⟩ := h.lst
  rw [z, h] at hl
  cases hl
/-- what was free stays the call's own -/
theorem Nxt.free {K : PySem.W.Frag} {r l : Addr} {H0 H : Hp} (a : Nxt K r H0 H) (h : H l = none) : H0 l = none := by
  cases q : H0 l with
  | none => rfl
  | some o =>
    have := a.sm l o (a.row.ne h) q
    rw [h] at this
    cases this
/-- a thing of the call's own (nothing stood there at first) stays over a draw -/
theorem Nxt.own {K : PySem.W.Frag} {r l : Addr} {H0 H H' : Hp} {o : HO} (h0 : RowAt K H0 r) (hl : H0 l = none) (e : H l = some o) (a : Nxt K r H H') : H' l = some o := a.sm l o (h0.ne hl) e
/-- .. and may be stored to -/
theorem Nxt.mine {K : PySem.W.Frag} {r l : Addr} {H0 H : Hp} {o : HO} {xs : List V} (a : Nxt K r H0 H) (h0 : RowAt K H0 r) (hl : H0 l = none) (hH : H l = some (.lst xs)) : Nxt K r H0 (upd H l o) := by
  have nl := h0.ne hl
  refine ⟨fun b x n e => ?_, ?_⟩
  · rw [upd_ne (ne_of_none e hl)]
    exact a.sm b x n e
  · obtain ⟨sc, ns, i, z, c, h⟩ := a.row
    refine ⟨sc, ns, i, z, c, by rw [upd_ne nl.symm]; exact h.at_, ?_, h.i0, h.s0, h.s1, h.c0⟩
    rcases h.seq with ⟨ob, q⟩ | q
    · exact .inl ⟨ob, by rw [upd_ne (fun z => by rw [z, hH] at q; cases q)]; exact q⟩
    · exact .inr q
/-- a new thing -/
theorem Nxt.new {K : PySem.W.Frag} {r l : Addr} {H0 H : Hp} {o : HO} (a : Nxt K r H0 H) (hl : H l = none) : Nxt K r H0 (upd H l o) := a.then (same_upd hl)
section
variable {P : Program} {w : World} {K : PySem.W.Frag} {mg : Str → Option Value} {base : Heap}
/-! ### _law_taken -/
theorem scTaken : FnScope ["_law_row", "_law_many_here", "_law_found", "_law_cell"] ["_law_row", "_law_many_here"] (defScope sTaken) := ⟨rfl, rfl, rfl, by decide +kernel, rfl, by decide +kernel, by decide +kernel⟩
def spTaken (K : PySem.W.Frag) : Sp := fun vs H Q _ => ∃ (r : Addr) (m : Int), vs = [.ref r, .int m] ∧ RowAt K H r ∧ 1 ≤ m ∧ m ≤ 1000 ∧ ∀ H' v, Nxt K r H H' → 0 ≤ v → v < m → Q (.int v) H'
theorem div_ok {x m : Int} (h1 : 1 ≤ m) (h2 : m ≤ 1000) : CDivW x m := wide_div (b := 10) (by omega) (by
  have e : (2 : Nat) ^ 10 = 1024 := by decide
  rw [e]
  omega) (by decide) (by decide)
theorem ok_taken (F : At K mg "_law_taken" sTaken) (T : Free mg) : Cal P w K mg base "_law_taken" 1 ["_law_row", "_law_many_here"] (spTaken K) := by
  refine cal_mk F scTaken (fun _ _ _ _ _ _ us hl => match us, hl with | [_, _], _ => rfl) (fun vs H Q E h => ?_) fun f cdv A outer s H vs Q E hr h => ?_
  · obtain ⟨_, _, rfl, _⟩ := h
    rfl
  · obtain ⟨r, m, rfl, ⟨sc, ns, i, z, c, hw⟩, m1, m2, q⟩ := h
    have hR : H r = some (.lst [.ref sc, .int i, .int z, .int c]) := hw.at_
    have hL : SqL K H r [.ref sc, .int i, .int z, .int c] := SqL.of hR
    refine ⟨_, pss_cons (ps_if (pt_cmpR op_gt (pe_ix ix_list (pv 0) pe_int (fun _ _ => rfl)) pe_int (nomark _))
        (pss_cons (ps_set (i := 2) scTaken.nd rfl (.inl rfl) (pe_op op_mod (pe_callTy call_int1 (by rfl) T.int bt_int (pa_cons (pe_ix ix_list (pv 0) pe_int (fun _ _ => rfl)) pa_nil)) (pv 1)))
          (pss_cons (ps_asg (pe_op op_fdivW (pe_ix ix_list (pv 0) pe_int (fun _ _ => rfl)) (pv 1)) (pg_sub (pv 0) pe_int set_list)) (pss_one (ps_ret (pv 2))))) pss_nil)
      (pss_cons (ps_asg (pe_op op_add (pe_ix ix_list (pv 0) pe_int (fun _ _ => rfl)) pe_int) (pg_sub (pv 0) pe_int set_list))
      (pss_cons (ps_if (pt_cmpR op_gt (pe_ix ix_list (pv 0) pe_int (fun _ _ => rfl)) (pe_callB call_len_seq (by rfl) T.len bt_len (pa_cons (pe_ix ix_list (pv 0) pe_int (fun _ _ => rfl)) pa_nil)) (nomark _))
        (pss_cons (ps_asg (pe_op op_mod (pe_callTy call_int1 (by rfl) T.int bt_int (pa_cons (pe_op op_add (pe_op op_mul (pe_ix ix_list (pv 0) pe_int (fun _ _ => rfl)) pe_int) pe_int) pa_nil)) pe_int) (pg_sub (pv 0) pe_int set_list))
          (pss_one (ps_ret (pe_op op_mod (pe_callTy call_int1 (by rfl) T.int bt_int (pa_cons (pe_op op_fdivW (pe_ix ix_list (pv 0) pe_int (fun _ _ => rfl)) pe_int) pa_nil)) (pv 1))))) pss_nil)
      (pss_cons (ps_set (i := 3) scTaken.nd rfl (.inl rfl) (pe_ix ix_list (pe_ix ix_list (pv 0) pe_int (fun _ _ => rfl)) (pe_op op_sub (pe_ix ix_list (pv 0) pe_int (fun _ _ => rfl)) pe_int) (fun _ _ => rfl)))
      (pss_cons (ps_asg (pe_op op_mod (pe_callTy call_int1 (by rfl) T.int bt_int (pa_cons (pe_op op_add (pe_op op_add (pe_op op_mul (pe_ix ix_list (pv 0) pe_int (fun _ _ => rfl)) pe_int) (pv 3)) pe_int) pa_nil)) pe_int) (pg_sub (pv 0) pe_int set_list))
      (pss_cons (ps_if (pt_cmpR op_ge (pv 3) (pe_op op_pow pe_int pe_int) (nomark _))
        (pss_one (ps_asg (pe_op op_fdivW (pv 3) (pv 1)) (pg_sub (pv 0) pe_int set_list))) pss_nil)
      (pss_one (ps_ret (pe_op op_mod (pe_callTy call_int1 (by rfl) T.int bt_int (pa_cons (pv 3) pa_nil)) (pv 1))))))))), ?_⟩
    have sameU : ∀ (H1 : Hp) (o : HO), SameR r H H1 → SameR r H (upd H1 r o) := fun H1 o s1 b x n e => by
      rw [upd_ne n]
      exact s1 b x n e
    have mk : ∀ (H1 : Hp) (i' z' c' : Int), SameR r H H1 → H1 r = some (.lst [.ref sc, .int i', .int z', .int c']) → 0 ≤ i' → 0 ≤ z' → z' < 2147483647 → 0 ≤ c' → Nxt K r H H1 := fun H1 i' z' c' s1 e1 a1 a2 a3 a4 =>
      ⟨s1, sc, ns, i', z', c', e1, s1.scl hR hw.seq, a1, a2, a3, a4⟩
    have md : ∀ x y : Int, 0 < y → 0 ≤ x % y ∧ x % y < y := fun x y h => ⟨Int.emod_nonneg _ (by omega), Int.emod_lt_of_pos _ h⟩
    -- the rest of a great cell
    refine ⟨_, rfl, r, _, 3, _, rfl, rfl, hL, atI_nat (j := 3) rfl, _, _, rfl, rfl, _, rfl, ?_⟩
    by_cases q1 : 0 < c
    · refine iteTT (decide_eq_true q1) ?_
      refine ⟨_, rfl, r, _, 3, _, rfl, rfl, hL, atI_nat (j := 3) rfl, .inl ⟨_, rfl, _, rfl, _, _, rfl, rfl, (by omega : (0 : Int) < m), ?_⟩⟩
      refine ⟨_, rfl, r, _, 3, _, rfl, rfl, hL, atI_nat (j := 3) rfl, _, rfl, _, _, rfl, rfl, div_ok m1 m2, ?_⟩
      refine ⟨_, rfl, r, _, 3, 3, rfl, rfl, hR, rfl, ?_⟩
      refine ⟨_, rfl, q _ _ (mk _ i z (c / m) (sameU _ _ (SameR.refl r H)) upd_same hw.i0 hw.s0 hw.s1 (Int.ediv_nonneg hw.c0 (by omega))) (md c m (by omega)).1 (md c m (by omega)).2⟩
    · refine iteFF (decide_eq_false q1) ?_
      refine ⟨_, rfl, r, _, 1, _, rfl, rfl, hL, atI_nat (j := 1) rfl, _, _, rfl, rfl, ?_⟩
      refine ⟨_, rfl, r, _, 1, 1, rfl, rfl, hR, rfl, ?_⟩
      have hR1 : (upd H r (.lst [.ref sc, .int (i + 1), .int z, .int c])) r = some (.lst [.ref sc, .int (i + 1), .int z, .int c]) := upd_same
      have s1 := sameU H (.lst [.ref sc, .int (i + 1), .int z, .int c]) (SameR.refl r H)
      have hS1 := (s1.scl hR hw.seq).sq
      have hL1 : SqL K (upd H r (.lst [.ref sc, .int (i + 1), .int z, .int c])) r [.ref sc, .int (i + 1), .int z, .int c] := SqL.of hR1
      refine ⟨_, rfl, r, _, 1, _, rfl, rfl, hL1, atI_nat (j := 1) rfl, _, rfl, r, _, 0, _, rfl, rfl, hL1, atI_nat (j := 0) rfl, sc, _, rfl, .inl hS1, _, _, rfl, rfl, _, rfl, ?_⟩
      have z64 : -(2 ^ 64) < z ∧ z < 2 ^ 64 := by
        have e : (2 : Int) ^ 64 = 18446744073709551616 := by decide
        have h1 := hw.s0
        have h2 := hw.s1
        rw [e]
        omega
      by_cases q2 : ((ns.map V.int).length : Int) < i + 1
      · refine iteTT (decide_eq_true q2) ?_
        refine ⟨_, rfl, r, _, 2, _, rfl, rfl, hL1, atI_nat (j := 2) rfl, _, _, rfl, rfl, .inl z64, _, _, rfl, rfl, .inl ⟨_, rfl, _, _, rfl, rfl, (by decide : (0 : Int) < 2147483647), ?_⟩⟩
        refine ⟨_, rfl, r, _, 2, 2, rfl, rfl, hR1, rfl, ?_⟩
        have hz := md (z * 48271 + 11) 2147483647 (by decide)
        have hR2 : (upd (upd H r (.lst [.ref sc, .int (i + 1), .int z, .int c])) r (.lst [.ref sc, .int (i + 1), .int ((z * 48271 + 11) % 2147483647), .int c])) r = some (.lst [.ref sc, .int (i + 1), .int ((z * 48271 + 11) % 2147483647), .int c]) := upd_same
        refine ⟨_, rfl, r, _, 2, _, rfl, rfl, SqL.of hR2, atI_nat (j := 2) rfl, _, _, rfl, rfl, div_ok (by decide) (by decide), .inl ⟨_, rfl, _, rfl, _, _, rfl, rfl, (by omega : (0 : Int) < m), ?_⟩⟩
        exact q _ _ (mk _ (i + 1) _ c (sameU _ _ s1) upd_same (by have := hw.i0; omega) hz.1 hz.2 hw.c0) (md _ m (by omega)).1 (md _ m (by omega)).2
      · refine iteFF (decide_eq_false q2) ?_
        rw [List.length_map] at q2
        have i0 := hw.i0
        have hi : i.toNat < ns.length := by omega
        have hit : (ns.map V.int)[i.toNat]? = some (.int (g ns i.toNat)) := map_get hi
        generalize g ns i.toNat = cell at hit
        refine ⟨_, rfl, r, _, 0, _, rfl, rfl, hL1, atI_nat (j := 0) rfl, _, rfl, r, _, 1, _, rfl, rfl, hL1, atI_nat (j := 1) rfl, _, _, rfl, rfl, sc, _, _, _, rfl, rfl, hS1, L2.at_of (j := i.toNat) (by omega) hit, ?_⟩
        refine ⟨_, rfl, r, _, 2, _, rfl, rfl, hL1, atI_nat (j := 2) rfl, _, _, rfl, rfl, .inl z64, _, rfl, _, _, rfl, rfl, _, _, rfl, rfl, .inl ⟨_, rfl, _, _, rfl, rfl, (by decide : (0 : Int) < 2147483647), ?_⟩⟩
        refine ⟨_, rfl, r, _, 2, 2, rfl, rfl, hR1, rfl, ?_⟩
        have hz := md (z * 48271 + cell + 11) 2147483647 (by decide)
        have hR2 : (upd (upd H r (.lst [.ref sc, .int (i + 1), .int z, .int c])) r (.lst [.ref sc, .int (i + 1), .int ((z * 48271 + cell + 11) % 2147483647), .int c])) r = some (.lst [.ref sc, .int (i + 1), .int ((z * 48271 + cell + 11) % 2147483647), .int c]) := upd_same
        have s2 := sameU _ (.lst [.ref sc, .int (i + 1), .int ((z * 48271 + cell + 11) % 2147483647), .int c]) s1
        refine ⟨_, rfl, _, _, rfl, rfl, ⟨by decide, by decide, by decide⟩, _, _, rfl, rfl, _, rfl, ?_⟩
        by_cases q3 : (10 : Int) ^ (18 : Int).toNat ≤ cell
        · refine iteTT (decide_eq_true q3) ?_
          have c0 : 0 ≤ cell := Int.le_trans (by decide) q3
          refine ⟨_, rfl, _, rfl, _, _, rfl, rfl, div_ok m1 m2, ?_⟩
          refine ⟨_, rfl, r, _, 3, 3, rfl, rfl, hR2, rfl, ?_⟩
          refine ⟨_, rfl, .inl ⟨_, rfl, _, rfl, _, _, rfl, rfl, (by omega : (0 : Int) < m), ?_⟩⟩
          exact q _ _ (mk _ (i + 1) _ (cell / m) (sameU _ _ s2) upd_same (by omega) hz.1 hz.2 (Int.ediv_nonneg c0 (by omega))) (md _ m (by omega)).1 (md _ m (by omega)).2
        · refine iteFF (decide_eq_false q3) ?_
          refine ⟨_, rfl, .inl ⟨_, rfl, _, rfl, _, _, rfl, rfl, (by omega : (0 : Int) < m), ?_⟩⟩
          exact q _ _ (mk _ (i + 1) _ c s2 upd_same (by omega) hz.1 hz.2 hw.c0) (md _ m (by omega)).1 (md _ m (by omega)).2
end
end Lev
set_option Elab.async false
set_option linter.all false
set_option maxRecDepth 100000
set_option maxHeartbeats 4000000
namespace Lev
open PySem PySem.Spec PyProof.Rows L2
theorem Tups.at2 {H0 H : Hp} {a : Addr} {o : HO} (s : Tups H0 H) (h : H0 a = none) : Tups H0 (upd H a o) := fun b xs e => by
  rw [upd_ne (ne_of_none e h)]
  exact s _ _ e
section
variable {P : Program} {w : World} {K : PySem.W.Frag} {mg : Str → Option Value} {base : Heap}
/-! ### _law_pick -/
theorem scPick : FnScope ["_law_row", "_law_things"] ["_law_row", "_law_things"] (defScope sPick) := ⟨rfl, rfl, rfl, by decide +kernel, rfl, by decide +kernel, by decide +kernel⟩
def spPick (K : PySem.W.Frag) : Sp := fun vs H Q _ => ∃ (r l : Addr) (xs : List V), vs = [.ref r, .ref l] ∧ RowAt K H r ∧ H l = some (.lst xs) ∧ l ≠ r ∧ 0 < xs.length ∧ xs.length ≤ 1000 ∧ ∀ (H' : Hp) (i : Nat) (v : V), Nxt K r H H' → xs[i]? = some v → Q v H'
theorem ok_pick (F : At K mg "_law_pick" sPick) (T : Free mg) (hT : Cal P w K mg base "_law_taken" 1 ["_law_row", "_law_many_here"] (spTaken K)) : Cal P w K mg base "_law_pick" 2 ["_law_row", "_law_things"] (spPick K) := by
  obtain ⟨fT, fdT, GT⟩ := hT
  refine cal_mk F scPick (fun _ _ _ _ _ _ us hl => match us, hl with | [_, _], _ => rfl) (fun vs H Q E h => ?_) fun f cdv A outer s H vs Q E hr h => ?_
  · obtain ⟨_, _, _, rfl, _⟩ := h
    rfl
  · obtain ⟨r, l, xs, rfl, hw, hl, hne, h0, h1, q⟩ := h
    refine ⟨_, pss_one (ps_ret (pe_ix ix_list (pv 1) (pe_call GT.ok hr (by rfl) GT.mg GT.kp GT.bi .nil pass0 (pa_cons (pv 0) (pa_cons (pe_callB call_len_seq (by rfl) T.len bt_len (pa_cons (pv 1) pa_nil)) pa_nil))) (fun _ _ => rfl))), ?_⟩
    refine ⟨_, rfl, _, rfl, _, rfl, l, _, rfl, .inl (SqL.of hl), r, _, rfl, hw, by omega, by omega, fun H1 v n1 v0 v1 => ?_⟩
    have hv : v.toNat < xs.length := by omega
    exact ⟨l, xs, v, _, rfl, rfl, SqL.of (n1.sm _ _ hne hl), L2.at_of (j := v.toNat) (by omega) (List.getElem?_eq_getElem hv), q H1 v.toNat _ n1 (List.getElem?_eq_getElem hv)⟩
/-! ### _law_many -/
theorem scMany : FnScope ["_law_roof", "_law_many_here", "_law_found", "_law_k"] ["_law_roof", "_law_many_here"] (defScope sMany) := ⟨rfl, rfl, rfl, by decide +kernel, rfl, by decide +kernel, by decide +kernel⟩
def spMany : Sp := fun vs H Q _ => ∃ (R : Int) (n : Nat), vs = [.int R, nV n] ∧ 1 ≤ R ∧ R ≤ 5 ∧ n ≤ 5 ∧ ∀ z, Q (.int z) H
theorem pow6_le {i : Nat} (h : i ≤ 5) : (6 : Int) ^ i ≤ 7776 := by
  have : i = 0 ∨ i = 1 ∨ i = 2 ∨ i = 3 ∨ i = 4 ∨ i = 5 := by omega
  rcases this with e | e | e | e | e | e <;> subst e <;> decide
theorem ok_many (F : At K mg "_law_many" sMany) (T : Free mg) : Cal P w K mg base "_law_many" 1 ["_law_roof", "_law_many_here"] spMany := by
  refine cal_mk F scMany (fun _ _ _ _ _ _ us hl => match us, hl with | [_, _], _ => rfl) (fun vs H Q E h => ?_) fun f cdv A outer s H vs Q E hr h => ?_
  · obtain ⟨_, _, rfl, _⟩ := h
    rfl
  · obtain ⟨R, n, rfl, h1, h2, hn, q⟩ := h
    refine ⟨_, pss_cons (ps_set (i := 2) scMany.nd rfl (.inl rfl) pe_int)
      (pss_cons (ps_for PassesOwn.never rfl (pi_range1 (by rfl) T.rng (pa_cons (pv 1) pa_nil)) (pg_name (i := 3) scMany.nd rfl (.inl rfl))
        (pss_one (ps_set (i := 2) scMany.nd rfl (.inl rfl) (pe_op op_mul (pv 2) (pe_op op_add (pv 0) pe_int)))))
      (pss_one (ps_ret (pv 2)))), ?_⟩
    refine ⟨_, rfl, (n : Int), rfl, by omega, by omega, ?_⟩
    refine for_range (lo := 0) (n := ((n : Int) - 0).toNat) (fun i σ H' => ∃ z y, σ = [some (.int R), some (nV n), some (.int z), y] ∧ H' = H ∧ 0 ≤ z ∧ z ≤ 6 ^ i) ⟨1, _, rfl, rfl, by decide, by decide⟩ (fun i σ H' hi p => ?_) (fun σ H' p => ?_)
    · obtain ⟨z, y, rfl, rfl, z0, z1⟩ := p
      have hz := pow6_le (show i ≤ 5 by omega)
      have e64 : (2 : Int) ^ 64 = 18446744073709551616 := by decide
      refine ⟨_, rfl, _, rfl, _, _, rfl, rfl, _, _, rfl, rfl, .inl (by rw [e64]; omega), ?_⟩
      refine ⟨_, _, rfl, rfl, Int.mul_nonneg z0 (by omega), ?_⟩
      rw [Int.pow_succ]
      exact Int.le_trans (Int.mul_le_mul_of_nonneg_left (show R + 1 ≤ 6 by omega) z0) (Int.mul_le_mul_of_nonneg_right z1 (by decide))
    · obtain ⟨z, y, rfl, rfl, _⟩ := p
      exact ⟨_, rfl, q z⟩
/-! ### _law_step -/
theorem scStep : FnScope ["_law_heights_here", "_law_deed", "_law_found"] ["_law_heights_here", "_law_deed"] (defScope sStep) := ⟨rfl, rfl, rfl, by decide +kernel, rfl, by decide +kernel, by decide +kernel⟩
def dV (d : Bool × Nat) : List V := [.bl d.1, nV d.2]
def spStep : Sp := fun vs H Q _ => ∃ (b t : Addr) (x : List Int) (d : Bool × Nat), vs = [.ref b, .ref t] ∧ HsAt H b x ∧ H t = some (.tup (dV d)) ∧ d.2 < x.length ∧ ∀ H' p, Same H H' → HsAt H' p (stepH x d) → Q (.ref p) H'
theorem ok_step (F : At K mg "_law_step" sStep) (T : Free mg) : Cal P w K mg base "_law_step" 1 ["_law_heights_here", "_law_deed"] spStep := by
  refine cal_mk F scStep (fun _ _ _ _ _ _ us hl => match us, hl with | [_, _], _ => rfl) (fun vs H Q E h => ?_) fun f cdv A outer s H vs Q E hr h => ?_
  · obtain ⟨_, _, _, _, rfl, _⟩ := h
    rfl
  · obtain ⟨b, t, x, d, rfl, hb, ht, hd, q⟩ := h
    refine ⟨_, pss_cons (ps_set (i := 2) scStep.nd rfl (.inl rfl) (pe_callTy call_list_of (by rfl) T.lst bt_list (pa_cons (pv 0) pa_nil)))
      (pss_cons (ps_asg (pe_op op_add (pe_ix ix_list (pv 2) (pe_ix ix_tup (pv 1) pe_int (fun _ _ => rfl)) (fun _ _ => rfl)) (pe_ifExp (pt_val (pe_ix ix_tup (pv 1) pe_int (fun _ _ => rfl))) pe_int (pe_op op_sub pe_int pe_int)))
        (pg_sub (pv 2) (pe_ix ix_tup (pv 1) pe_int (fun _ _ => rfl)) set_list))
      (pss_one (ps_ret (pe_callTy call_tuple_of (by rfl) T.tup bt_tuple (pa_cons (pv 2) pa_nil))))), ?_⟩
    refine ⟨_, rfl, b, _, rfl, .inr (SqT.of hb), fun l hl => ?_⟩
    have s1 : Same H (upd H l (.lst (x.map V.int))) := same_upd hl
    have ht1 := s1 _ _ ht
    have gx : (x.map V.int)[d.2]? = some (.int (g x d.2)) := map_get hd
    have ix : ixN (x.map V.int).length (d.2 : Int) = some d.2 := by
      unfold ixN
      rw [List.length_map, if_pos (by omega), if_pos (by omega)]
      simp
    have go : ∀ z : Int, z = g x d.2 + (if d.1 = true then 1 else -1) → gSub (tVar 2) (tOp (rIxT K) (tVar 1) (tC (.int 1))) rSetL (.int z) [some (.ref b), some (.ref t), some (.ref l)] (upd H l (.lst (x.map V.int)))
        (fun σ H' => tRet (tCB (fun xs H Q => ∃ p ys, xs = [V.ref p] ∧ ((SqL K H p ys ∧ ∀ l, H l = none → Q (.ref l) (upd H l (.tup ys))) ∨ (SqT K H p ys ∧ Q (.ref p) H))) (tCons (tVar 2) tNil)) { nx := fun _ H' => Q .non H', rt := Q } σ H') := fun z ez => by
      refine ⟨_, rfl, _, rfl, t, _, 1, _, rfl, rfl, SqT.of ht1, atI_nat (j := 1) rfl, l, _, _, d.2, rfl, rfl, upd_same, ix, ?_⟩
      refine ⟨_, rfl, l, _, rfl, .inl ⟨SqL.of upd_same, fun p hp => ?_⟩⟩
      have hpl : p ≠ l := fun e => by
        rw [e, upd_same] at hp
        cases hp
      have s2 : Same H (upd (upd H l (.lst (x.map V.int))) l (.lst ((x.map V.int).set d.2 (.int z)))) := same_upd2 s1 hl
      refine q _ p (same_upd2 s2 (s2.free hp)) ?_
      show upd _ p _ p = _
      rw [upd_same]
      unfold stepH
      rw [ez, List.map_set]
    refine ⟨_, rfl, _, rfl, t, _, 1, _, rfl, rfl, SqT.of ht1, atI_nat (j := 1) rfl, l, _, (d.2 : Int), _, rfl, rfl, SqL.of upd_same, atI_nat gx, ?_⟩
    refine ⟨_, rfl, t, _, 0, _, rfl, rfl, SqT.of ht1, atI_nat (j := 0) rfl, _, rfl, ?_⟩
    by_cases q1 : d.1 = true
    · refine iteTT q1 ⟨_, _, rfl, rfl, ?_⟩
      exact go _ (by rw [if_pos q1])
    · refine iteFF (by simpa using q1) ⟨_, _, rfl, rfl, _, _, rfl, rfl, ?_⟩
      exact go _ (by rw [if_neg q1]; rfl)
end
end Lev
set_option Elab.async false
set_option linter.all false
set_option maxRecDepth 100000
set_option maxHeartbeats 4000000
namespace Lev
open PySem PySem.Spec PyProof.Rows L2
theorem ints_lay : ∀ xs : List Int, PyData.canLayAll0 (xs.map PyData.int) = true
  | [] => by simp [PyData.canLayAll0]
  | x :: xs => by simp [PyData.canLayAll0, PyData.canLay0, ints_lay xs]
theorem ints_depth : ∀ xs : List Int, PyData.depthAll (xs.map PyData.int) ≤ 1
  | [] => by simp [PyData.depthAll]
  | x :: xs => by
    have h1 := ints_depth xs
    simp only [List.map_cons, PyData.depthAll, PyData.depth]
    omega
theorem ints_shaped (xs : List Int) : SeqAt.shaped (.list (xs.map PyData.int)) = true := by
  have h1 := ints_depth xs
  have h2 : PyData.depth (.list (xs.map PyData.int)) ≤ 64 := by
    simp only [PyData.depth]
    omega
  show (PyData.canLay0 (.list (xs.map PyData.int)) && decide (PyData.depth (.list (xs.map PyData.int)) ≤ 64)) = true
  rw [Bool.and_eq_true]
  exact ⟨by simp only [PyData.canLay0]; exact ints_lay xs, decide_eq_true h2⟩
theorem ints_at {K : PySem.W.Frag} {H : Hp} : ∀ xs : List Int, DpAll K H (xs.map V.int) (xs.map PyData.int)
  | [] => .nil
  | x :: xs => .cons (.int x) (ints_at xs)
theorem neF {A B : Prop} {c : Bool} (e : c = true) (h : B) : if (!c) = true then A else B := by
  rw [e]
  exact iteF h
theorem neT {A B : Prop} {c : Bool} (e : c = false) (h : A) : if (!c) = true then A else B := by
  rw [e]
  exact iteT h
section
variable {P : Program} {w : World} {K : PySem.W.Frag} {mg : Str → Option Value} {base : Heap}
/-! ### _law_heights -/
abbrev NHeights : List Str := ["_law_row", "_law_many_here", "_law_roof", "_law_way", "_law_found", "_law_k", "_law_near"]
theorem scHeights : FnScope ["_law_row", "_law_many_here", "_law_roof", "_law_way", "_law_found", "_law_k", "_law_near"] ["_law_row", "_law_many_here", "_law_roof"] (defScope sHeights) := ⟨rfl, rfl, rfl, by decide +kernel, rfl, by decide +kernel, by decide +kernel⟩
def spHeights (K : PySem.W.Frag) : Sp := fun vs H Q _ => ∃ (r : Addr) (n : Nat) (R : Int), vs = [.ref r, nV n, .int R] ∧ RowAt K H r ∧ n ≤ 100 ∧ 1 ≤ R ∧ R ≤ 100 ∧ ∀ H' p x, Nxt K r H H' → HsAt H' p x → Valid n R x → Q (.ref p) H'
/-- between two turns: the list so far -/
def PvH (K : PySem.W.Frag) (r l : Addr) (H : Hp) (n : Nat) (R way : Int) (i : Nat) (σ : L2.St) (H' : Hp) : Prop := ∃ (y5 y6 : Option V) (xs : List Int), σ = [some (.ref r), some (nV n), some (.int R), some (.int way), some (.ref l), y5, y6] ∧ Nxt K r H H' ∧ H' l = some (.lst (xs.map V.int)) ∧ xs.length = i ∧ ∀ v ∈ xs, 0 ≤ v ∧ v ≤ R
theorem ok_heights (F : At K mg "_law_heights" sHeights) (T : Free mg) (hT : Cal P w K mg base "_law_taken" 1 ["_law_row", "_law_many_here"] (spTaken K)) : Cal P w K mg base "_law_heights" 2 ["_law_row", "_law_many_here", "_law_roof"] (spHeights K) := by
  obtain ⟨fT, fdT, GT⟩ := hT
  refine cal_mk F scHeights (fun _ _ _ _ _ _ us hl => match us, hl with | [_, _, _], _ => rfl) (fun vs H Q E h => ?_) fun f cdv A outer s H vs Q E hr h => ?_
  · obtain ⟨_, _, _, rfl, _⟩ := h
    rfl
  · obtain ⟨r, n, R, rfl, hw, hn, r1, r9, q⟩ := h
    refine ⟨_, pss_cons (ps_par (i := 3) (j := 4) (by rfl) scHeights.nd rfl rfl (by decide) rfl rfl (pa_cons (pe_call GT.ok hr (by rfl) GT.mg GT.kp GT.bi .nil pass0 (pa_cons (pv 0) (pa_cons pe_int pa_nil))) (pa_cons (pe_lst pa_nil) pa_nil)) (by rfl))
      (pss_cons (ps_for PassesOwn.never rfl (pi_range1 (by rfl) T.rng (pa_cons (pv 1) pa_nil)) (pg_name (i := 5) scHeights.nd rfl (.inl rfl))
        (pss_cons (ps_set (i := 6) scHeights.nd rfl (.inl rfl) (pe_ifExp (pt_cmpR (op_neD hr.units) (pv 4) (pe_lst pa_nil) (nomark _))
            (pe_op op_sub (pe_op op_add (pe_ix ix_list (pv 4) (pe_un un_neg pe_int) (fun _ _ => rfl)) (pe_call GT.ok hr (by rfl) GT.mg GT.kp GT.bi .nil pass0 (pa_cons (pv 0) (pa_cons pe_int pa_nil)))) pe_int)
            (pe_call GT.ok hr (by rfl) GT.mg GT.kp GT.bi .nil pass0 (pa_cons (pv 0) (pa_cons (pe_op op_add (pv 2) pe_int) pa_nil)))))
        (pss_one (ps_expr (pe_bm PySem.F.plainAttrs_list PySem.F.slot_list_append PySem.F.type_list_append mt_append (pv 4) (pa_cons
          (pe_ifExp (pt_cmpR op_eq (pv 3) pe_int (nomark _))
            (pe_callB (call_max2 rfl) (by rfl) T.max bt_max (pa_cons pe_int (pa_cons (pe_callB (call_min2 rfl) (by rfl) T.min bt_min (pa_cons (pv 2) (pa_cons (pv 6) pa_nil))) pa_nil)))
            (pe_call GT.ok hr (by rfl) GT.mg GT.kp GT.bi .nil pass0 (pa_cons (pv 0) (pa_cons (pe_op op_add (pv 2) pe_int) pa_nil)))) pa_nil))))))
      (pss_one (ps_ret (pe_callTy call_tuple_of (by rfl) T.tup bt_tuple (pa_cons (pv 4) pa_nil))))), ?_⟩
    refine ⟨_, rfl, r, 3, rfl, hw, by decide, by decide, fun H1 way n1 _ _ => ?_⟩
    refine ⟨Nat.zero_le _, fun l hl => ⟨_, _, rfl, ?_⟩⟩
    have l0 := n1.free hl
    refine ⟨_, rfl, (n : Int), rfl, by omega, by omega, ?_⟩
    refine for_range (lo := 0) (n := ((n : Int) - 0).toNat) (PvH K r l H n R way)
      ⟨_, _, [], rfl, n1.new hl, upd_same, rfl, fun v hv => by cases hv⟩ (fun i σ H' hi p => ?_) (fun σ H' p => ?_)
    · obtain ⟨y5, y6, xs, rfl, nx, hls, hlen, hv⟩ := p
      have hi' : i < n := by omega
      -- the append, whatever the near height
      have app : ∀ (H2 : Hp) (near : Int) (y5 : Option V), Nxt K r H H2 → H2 l = some (.lst (xs.map V.int)) →
          tDrop (tBM K "list" rAppend (tVar 4) (tCons (tIf (tTest (tOp rEq (tVar 3) (tC (.int 0))))
            (tCB (fun xs H Q => ∃ i j, xs = [V.int i, V.int j] ∧ Q (.int (if j > i then j else i)) H) (tCons (tC (.int 0)) (tCons (tCB (fun xs H Q => ∃ i j, xs = [V.int i, V.int j] ∧ Q (.int (if j < i then j else i)) H) (tCons (tVar 2) (tCons (tVar 6) tNil))) tNil)))
            (tCall (spTaken K) [] E0 (tCons (tVar 0) (tCons (tOp (rI0 fun i j => .int (i + j)) (tVar 2) (tC (.int 1))) tNil)))) tNil))
            { nx := PvH K r l H n R way (i + 1), rt := Q }
            [some (.ref r), some (nV n), some (.int R), some (.int way), some (.ref l), y5, some (.int near)] H2 := fun H2 near y5 n2 e2 => by
        refine ⟨_, rfl, .inl ⟨rfl, _, SqL.of e2⟩, _, rfl, rfl, _, rfl, ?_⟩
        have fin : ∀ (H3 : Hp) (v : Int), Nxt K r H H3 → H3 l = some (.lst (xs.map V.int)) → 0 ≤ v → v ≤ R → rAppend (.ref l) [.int v] H3 (fun _ H' => PvH K r l H n R way (i + 1) [some (.ref r), some (nV n), some (.int R), some (.int way), some (.ref l), y5, some (.int near)] H') := fun H3 v n3 e3 v0 v1 => by
          refine ⟨l, _, _, rfl, rfl, e3, line_small (by rw [List.length_map]; omega), _, _, xs ++ [v], rfl, n3.mine hw l0 e3, ?_, ?_, fun u hu => ?_⟩
          · rw [upd_same, List.map_append]
            rfl
          · rw [List.length_append, hlen]
            rfl
          · rcases List.mem_append.mp hu with m | m
            · exact hv u m
            · rw [List.mem_singleton.mp m]
              exact ⟨v0, v1⟩
        refine ite2 (fun _ => ?_) (fun _ => ?_)
        · refine ⟨_, rfl, _, rfl, _, _, rfl, _, _, rfl, ?_⟩
          refine fin H2 _ n2 e2 ?_ ?_
          · split <;> omega
          · split
            · split <;> omega
            · omega
        · refine ⟨_, rfl, _, rfl, _, _, rfl, rfl, r, _, rfl, n2.row, by omega, by omega, fun H3 v n3 v0 v1 => ?_⟩
          exact fin H3 v (n2.trans n3) (n3.sm _ _ (hw.ne l0) e2) v0 (by omega)
      refine ⟨_, rfl, Nat.zero_le _, fun l2 hl2 => ?_⟩
      have e1 : upd H' l2 (.lst []) l = some (.lst (xs.map V.int)) := by
        rw [upd_ne (ne_of_none hls hl2)]
        exact hls
      have nx1 : Nxt K r H (upd H' l2 (.lst [])) := nx.new hl2
      refine ⟨.list (xs.map PyData.int), .list [], .lst (SqL.of e1) (ints_at xs), .lst (SqL.of upd_same) .nil, ints_shaped xs, rfl, _, rfl, ?_⟩
      rw [eqv_nil]
      rcases List.eq_nil_or_concat xs with e | ⟨ys, y, e⟩
      · subst e
        refine neF rfl ?_
        refine ⟨_, rfl, _, rfl, _, _, rfl, rfl, r, _, rfl, nx1.row, by omega, by omega, fun H3 v n3 v0 v1 => ?_⟩
        exact app H3 v _ (nx1.trans n3) (n3.sm _ _ (hw.ne l0) e1)
      · subst e
        have e1' : upd H' l2 (.lst []) l = some (.lst (ys.map V.int ++ [.int y])) := by
          rw [e1]
          simp
        refine neT (by simp) ?_
        refine ⟨_, rfl, _, rfl, l, _, -1, _, rfl, rfl, SqL.of e1', atI_last _ _, _, rfl, r, 5, rfl, nx1.row, by decide, by decide, fun H3 v n3 v0 v1 => ?_⟩
        refine ⟨_, _, rfl, rfl, _, _, rfl, rfl, ?_⟩
        exact app H3 _ _ (nx1.trans n3) (n3.sm _ _ (hw.ne l0) e1)
    · obtain ⟨y5, y6, xs, rfl, nx, hls, hlen, hv⟩ := p
      have hlen : xs.length = n := by omega
      refine ⟨_, rfl, l, _, rfl, .inl ⟨SqL.of hls, fun p hp => ?_⟩⟩
      refine q _ p xs (nx.new hp) upd_same ⟨hlen, fun i hi => ?_, fun i hi => ?_⟩
      · exact (hv _ (List.mem_of_getElem? (g_some (by omega)))).1
      · exact (hv _ (List.mem_of_getElem? (g_some (by omega)))).2
end
end Lev
set_option Elab.async false
set_option linter.all false
set_option maxRecDepth 100000
set_option maxHeartbeats 4000000
namespace Lev
open PySem PySem.Spec PyProof.Rows L2
theorem inK {K : PySem.W.Frag} {X : Cx} (hu : X.A.units + 65 < cLine) (h : X.K = K := by rfl) : OpR X (compareOp .In) (rInDT K) := by
  subst h
  exact op_inDT hu
theorem pD_eqv (p q : Nat × Nat) : PyData.eqv (pD p) (pD q) = decide (p = q) := by
  obtain ⟨a, b⟩ := p
  obtain ⟨c, d⟩ := q
  have e : PyData.eqv (pD (a, b)) (pD (c, d)) = (((a : Int) == (c : Int)) && (((b : Int) == (d : Int)) && true)) := by simp only [pD, PyData.eqv, PyData.eqvAll]
  rw [e]
  by_cases h : ((a, b) : Nat × Nat) = (c, d)
  · cases h
    simp
  · rw [decide_eq_false h]
    by_cases h1 : a = c
    · by_cases h2 : b = d
      · exact absurd (by rw [h1, h2]) h
      · have q : ((b : Int) == (d : Int)) = false := beq_eq_false_iff_ne.mpr (by omega)
        rw [q, Bool.false_and, Bool.and_false]
    · have q : ((a : Int) == (c : Int)) = false := beq_eq_false_iff_ne.mpr (by omega)
      rw [q, Bool.false_and]
theorem pD_any (L : Edges) (p : Nat × Nat) : ((L.map pD).any fun z => PyData.eqv z (pD p)) = decide (p ∈ L) := by
  rw [List.any_map]
  have e : ((fun z => PyData.eqv z (pD p)) ∘ pD) = fun q => decide (q = p) := funext fun q => pD_eqv q p
  rw [e]
  by_cases h : p ∈ L
  · rw [decide_eq_true h]
    exact List.any_eq_true.mpr ⟨p, h, decide_eq_true rfl⟩
  · rw [decide_eq_false h]
    exact List.any_eq_false.mpr fun q hq z => h (by
      have z := of_decide_eq_true z
      rw [← z]
      exact hq)
abbrev DsAt (H : Hp) : List V → List (Bool × Nat) → Prop := Paired fun v d => ∃ t, v = .ref t ∧ H t = some (.tup (dV d))
theorem DsAt.keep {H H' : Hp} {xs : List V} {L : List (Bool × Nat)} (h : DsAt H xs L) (s : Tups H H') : DsAt H' xs L := Paired.mapP h fun _ _ ⟨t, a, b⟩ => ⟨t, a, s _ _ b⟩
/-- a deed and the heights behind it -/
abbrev AfAt (H : Hp) (x : List Int) : List V → List (Bool × Nat) → Prop := Paired fun v d => ∃ t t1 t2, v = .ref t ∧ H t = some (.tup [.ref t1, .ref t2]) ∧ H t1 = some (.tup (dV d)) ∧ HsAt H t2 (stepH x d)
theorem AfAt.keep {H H' : Hp} {x : List Int} {xs : List V} {L : List (Bool × Nat)} (h : AfAt H x xs L) (s : Tups H H') : AfAt H' x xs L := Paired.mapP h fun _ _ ⟨t, t1, t2, a, b, c, d⟩ => ⟨t, t1, t2, a, s _ _ b, s _ _ c, s _ _ d⟩
section
variable {P : Program} {w : World} {K : PySem.W.Frag} {mg : Str → Option Value} {base : Heap}
/-! ### _law_beside -/
theorem scBeside : FnScope ["_law_web", "_law_place", "_law_k"] ["_law_web", "_law_place"] (defScope sBeside) := ⟨rfl, rfl, rfl, by decide +kernel, rfl, by decide +kernel, by decide +kernel⟩
def spBeside : Sp := fun vs H Q _ => ∃ (a : Addr) (n : Nat) (E : Edges) (k : Nat), vs = [.ref a, nV k] ∧ WebAt H a n E ∧ n ≤ 100 ∧ ∀ H' p, Same H H' → H p = none → H' p = some (.lst ((beside n E k).map nV)) → Q (.ref p) H'
theorem ok_beside (F : At K mg "_law_beside" sBeside) (T : Free mg) : Cal P w K mg base "_law_beside" 1 ["_law_web", "_law_place"] spBeside := by
  refine cal_mk F scBeside (fun _ _ _ _ _ _ us hl => match us, hl with | [_, _], _ => rfl) (fun vs H Q E h => ?_) fun f cdv A outer s H vs Q E hr h => ?_
  · obtain ⟨_, _, _, _, rfl, _⟩ := h
    rfl
  · obtain ⟨a, n, L, k, rfl, ⟨e, xs, ha, he, hp⟩, hn, q⟩ := h
    have hu := hu65 hr
    refine ⟨_, pss_one (ps_ret (pe_lc (own := [("_law_k", 2)]) (g := gName 2) (by rfl) scBeside.nd (pi_range1 (by rfl) T.rng (pa_cons (pe_ix ix_tup (pv 0) pe_int (fun _ _ => rfl)) pa_nil))
        (blkOk_by (own := [("_law_k", 2)]) (N := ["_law_web", "_law_place", "_law_k"]) (sc := defScope sBeside) (by decide +kernel))
        (fun _ _ _ _ _ => pg_name (i := 2) scBeside.nd rfl (Or.inl rfl))
        (fun _ _ _ _ _ => pts_one (PW.pt (pw_or (pt_cmpR (inK (K := K) hu) (pe_tup (pa_cons (pv 2) (pa_cons (pv 1) pa_nil))) (pe_ix (ixK (K := K)) (pv 0) pe_int (fun _ _ => rfl)) (by rfl))
          (pw_or1 (pt_cmpR (inK (K := K) hu) (pe_tup (pa_cons (pv 1) (pa_cons (pv 2) pa_nil))) (pe_ix (ixK (K := K)) (pv 0) pe_int (fun _ _ => rfl)) (by rfl))))))
        (fun _ _ _ _ _ => pv 2))), ?_⟩
    refine ⟨_, rfl, a, _, 0, _, rfl, rfl, SqT.of ha, atI_nat (j := 0) rfl, (n : Int), rfl, by omega, by omega, fun D hD => ?_⟩
    refine lc_range (lo := 0) (n := ((n : Int) - 0).toNat) (fun i H' => Same H H' ∧ H' D = some (.lst (((List.range i).filter (besideB L k)).map nV))) ⟨same_upd hD, upd_same⟩ (fun i H1 hi p => ?_) (fun H' p => ?_)
    · obtain ⟨sm, hacc⟩ := p
      have e0 : (0 : Int) + (i : Int) = (i : Int) := by omega
      have step : (List.range (i + 1)).filter (besideB L k) = (List.range i).filter (besideB L k) ++ (if besideB L k i = true then [i] else []) := by
        rw [List.range_succ, List.filter_append]
        congr 1
        by_cases z : besideB L k i = true <;> simp [z]
      have hlen : (((List.range i).filter (besideB L k)).map nV).length ≤ 100000 := by
        have := List.length_filter_le (besideB L k) (List.range i)
        rw [List.length_range] at this
        rw [List.length_map]
        omega
      rw [e0]
      have put : ∀ H2 : Hp, Same H1 H2 → besideB L k i = true → ∃ v, [some (.ref a), some (nV k), some (nV i)][2]? = some (some v) ∧ ∃ acc, H2 D = some (.lst acc) ∧ acc.length < sizeLine ∧ Same H (upd H2 D (.lst (acc ++ [v]))) ∧ (upd H2 D (.lst (acc ++ [v]))) D = some (.lst (((List.range (i + 1)).filter (besideB L k)).map nV)) := fun H2 s2 z => by
        refine ⟨_, rfl, _, s2 _ _ hacc, line_small hlen, same_upd2 (sm.trans s2) hD, ?_⟩
        rw [upd_same, step, if_pos z, List.map_append]
        rfl
      refine ⟨rfl, ?_⟩
      refine ⟨_, rfl, _, rfl, by show 2 ≤ sizeLine; decide, fun t1 ht1 => ?_⟩
      have s1 := same_upd (o := .tup [nV i, nV k]) ht1
      have sm1 := sm.trans s1
      refine ⟨_, rfl, a, _, 1, _, rfl, rfl, SqT.of (sm1 _ _ ha), atI_nat (j := 1) rfl, pD (i, k), L.map pD, pD_at (p := (i, k)) upd_same, .tup (SqT.of (sm1 _ _ he)) (pDs_at (hp.keep (Tups.of sm1))), pD_shaped _, pDs_shapedT _, _, rfl, ?_⟩
      rw [pD_any]
      by_cases c1 : (i, k) ∈ L
      · refine iteTT (decide_eq_true c1) (iteT ?_)
        exact put _ s1 (by unfold besideB; rw [decide_eq_true c1]; rfl)
      · refine iteFF (decide_eq_false c1) ?_
        refine ⟨_, rfl, _, rfl, by show 2 ≤ sizeLine; decide, fun t2 ht2 => ?_⟩
        have s2 := same_upd (o := .tup [nV k, nV i]) ht2
        have sm2 := sm1.trans s2
        refine ⟨_, rfl, a, _, 1, _, rfl, rfl, SqT.of (sm2 _ _ ha), atI_nat (j := 1) rfl, pD (k, i), L.map pD, pD_at (p := (k, i)) upd_same, .tup (SqT.of (sm2 _ _ he)) (pDs_at (hp.keep (Tups.of sm2))), pD_shaped _, pDs_shapedT _, _, rfl, ?_⟩
        rw [pD_any]
        by_cases c2 : (k, i) ∈ L
        · refine iteTT (decide_eq_true c2) ?_
          exact put _ (s1.trans s2) (by unfold besideB; rw [decide_eq_true c2, Bool.or_true])
        · refine iteFF (decide_eq_false c2) ?_
          refine ⟨sm2, ?_⟩
          have z : besideB L k i = false := by
            unfold besideB
            rw [decide_eq_false c1, decide_eq_false c2]
            rfl
          rw [step, if_neg (by rw [z]; exact Bool.false_ne_true), List.append_nil]
          exact s2 _ _ (s1 _ _ hacc)
    · obtain ⟨sm, hacc⟩ := p
      have en : ((n : Int) - 0).toNat = n := by omega
      rw [en] at hacc
      exact q _ D sm hD hacc
/-! ### _law_deeds -/
theorem scDeeds : FnScope ["_law_web", "_law_roof", "_law_heights_here", "_law_up", "_law_down", "_law_k", "_law_some", "_law_j"] ["_law_web", "_law_roof", "_law_heights_here"] (defScope sDeeds) := ⟨rfl, rfl, rfl, by decide +kernel, rfl, by decide +kernel, by decide +kernel⟩
def spDeeds : Sp := fun vs H Q _ => ∃ (a : Addr) (n : Nat) (E : Edges) (R : Int) (b : Addr) (x : List Int), vs = [.ref a, .int R, .ref b] ∧ WebAt H a n E ∧ n ≤ 100 ∧ HsAt H b x ∧ x.length = n ∧ ∀ H' p xs, Same H H' → H p = none → H' p = some (.lst xs) → DsAt H' xs (deeds n E R x) → Q (.ref p) H'
/-- between two turns -/
def PvD (a b : Addr) (H : Hp) (n : Nat) (E : Edges) (R : Int) (x : List Int) (i : Nat) (σ : L2.St) (H' : Hp) : Prop := ∃ (u d : Addr) (us ds : List V) (y5 y6 y7 : Option V), σ = [some (.ref a), some (.int R), some (.ref b), some (.ref u), some (.ref d), y5, y6, y7] ∧ Same H H' ∧
  H' u = some (.lst us) ∧ H' d = some (.lst ds) ∧ DsAt H' us (ups n E R x i) ∧ DsAt H' ds (dns n E x i)
theorem ups_len (n : Nat) (E : Edges) (R : Int) (x : List Int) (i : Nat) : (ups n E R x i).length ≤ i := by
  unfold ups
  rw [List.length_map]
  have := List.length_filter_le (upB n E R x) (List.range i)
  rw [List.length_range] at this
  exact this
theorem dns_len (n : Nat) (E : Edges) (x : List Int) (i : Nat) : (dns n E x i).length ≤ i := by
  unfold dns
  rw [List.length_map]
  have := List.length_filter_le (dnB n E x) (List.range i)
  rw [List.length_range] at this
  exact this
theorem ok_deeds (F : At K mg "_law_deeds" sDeeds) (T : Free mg) (hB : Cal P w K mg base "_law_beside" 1 ["_law_web", "_law_place"] spBeside) : Cal P w K mg base "_law_deeds" 2 ["_law_web", "_law_roof", "_law_heights_here"] spDeeds := by
  obtain ⟨fB, fdB, GB⟩ := hB
  refine cal_mk F scDeeds (fun _ _ _ _ _ _ us hl => match us, hl with | [_, _, _], _ => rfl) (fun vs H Q E h => ?_) fun f cdv A outer s H vs Q E hr h => ?_
  · obtain ⟨_, _, _, _, _, _, rfl, _⟩ := h
    rfl
  · obtain ⟨a, n, L, R, b, x, rfl, ha, hn, hb, hx, q⟩ := h
    refine ⟨_, pss_cons (ps_par (i := 3) (j := 4) (by rfl) scDeeds.nd rfl rfl (by decide) rfl rfl (pa_cons (pe_lst pa_nil) (pa_cons (pe_lst pa_nil) pa_nil)) (by rfl))
      (pss_cons (ps_for PassesOwn.never rfl (pi_range1 (by rfl) T.rng (pa_cons (pe_ix ix_tup (pv 0) pe_int (fun _ _ => rfl)) pa_nil)) (pg_name (i := 5) scDeeds.nd rfl (.inl rfl))
        (pss_cons (ps_set (i := 6) scDeeds.nd rfl (.inl rfl) (pe_op op_cat
            (pe_lc (own := [("_law_j", 7)]) (g := gName 7) (tt := tYes) (by rfl) scDeeds.nd (pi_list (pe_call GB.ok hr (by rfl) GB.mg GB.kp GB.bi .nil pass0 (pa_cons (pv 0) (pa_cons (pv 5) pa_nil))))
              (blkOk_by (own := [("_law_j", 7)]) (N := ["_law_web", "_law_roof", "_law_heights_here", "_law_up", "_law_down", "_law_k", "_law_some", "_law_j"]) (sc := defScope sDeeds) (by decide +kernel))
              (fun _ _ _ _ _ => pg_name (i := 7) scDeeds.nd rfl (Or.inl rfl)) (fun _ _ _ _ _ => pts_nil) (fun _ _ _ _ _ => pe_ix (ixK (K := K)) (pv 2) (pv 7) (fun _ _ => rfl)))
            (pe_lst (pa_cons (pe_ix ix_tup (pv 2) (pv 5) (fun _ _ => rfl)) pa_nil))))
        (pss_cons (ps_set (i := 3) scDeeds.nd rfl (.inl rfl) (pe_op op_cat (pv 3) (pe_ifExp
            (PW.pt (pw_and (pt_cmpR op_lt (pe_ix ix_tup (pv 2) (pv 5) (fun _ _ => rfl)) (pv 1) (nomark _)) (pw_and1 (pt_cmpR op_eq (pe_callB (cr_min rfl) (by rfl) T.min bt_min (pa_cons (pv 6) pa_nil)) (pe_ix ix_tup (pv 2) (pv 5) (fun _ _ => rfl)) (nomark _)))))
            (pe_lst (pa_cons (pe_tup (pa_cons pe_bl (pa_cons (pv 5) pa_nil))) pa_nil)) (pe_lst pa_nil))))
        (pss_one (ps_set (i := 4) scDeeds.nd rfl (.inl rfl) (pe_op op_cat (pv 4) (pe_ifExp
            (PW.pt (pw_and (pt_cmpR op_gt (pe_ix ix_tup (pv 2) (pv 5) (fun _ _ => rfl)) pe_int (nomark _)) (pw_and1 (pt_cmpR op_eq (pe_callB (cr_max rfl) (by rfl) T.max bt_max (pa_cons (pv 6) pa_nil)) (pe_ix ix_tup (pv 2) (pv 5) (fun _ _ => rfl)) (nomark _)))))
            (pe_lst (pa_cons (pe_tup (pa_cons pe_bl (pa_cons (pv 5) pa_nil))) pa_nil)) (pe_lst pa_nil))))))))
      (pss_one (ps_ret (pe_op op_cat (pv 3) (pv 4))))), ?_⟩
    obtain ⟨e0, xs0, ha0, he0, hp0⟩ := id ha
    refine ⟨Nat.zero_le _, fun u hu => ⟨Nat.zero_le _, fun d hd => ⟨_, _, rfl, ?_⟩⟩⟩
    have nud : u ≠ d := fun z => by
      rw [← z, upd_same] at hd
      cases hd
    have s1 : Same H (upd (upd H u (.lst [])) d (.lst [])) := (same_upd hu).trans (same_upd hd)
    refine ⟨_, rfl, a, _, 0, _, rfl, rfl, SqT.of (s1 _ _ ha0), atI_nat (j := 0) rfl, (n : Int), rfl, by omega, by omega, ?_⟩
    refine for_range (lo := 0) (n := ((n : Int) - 0).toNat) (PvD a b H n L R x) ⟨u, d, [], [], _, _, _, rfl, s1, by rw [upd_ne nud, upd_same], upd_same, .nil, .nil⟩ (fun i σ H1 hi p => ?_) (fun σ H' p => ?_)
    · obtain ⟨u, d, us, ds, y5, y6, y7, rfl, sm, eu, ed, hus, hds⟩ := p
      have hi' : i < n := by omega
      have e0 : (0 : Int) + (i : Int) = (i : Int) := by omega
      rw [e0]
      have gx : (x.map V.int)[i]? = some (.int (g x i)) := map_get (by omega)
      -- the neighbours' heights and its own
      refine ⟨_, rfl, _, rfl, a, n, L, i, rfl, ha.keep (Tups.of sm), hn, fun H2 p2 s2 hp2 e2 => ?_⟩
      have sm2 := sm.trans s2
      refine ⟨p2, rfl, ⟨_, SqL.of e2⟩, fun D hD => ?_⟩
      refine lc_list (K := K) (a := p2) (xs := (beside n L i).map nV) (fun j H' => Same H2 H' ∧ H' D = some (.lst ((((beside n L i).take j).map (g x)).map V.int))) ⟨same_upd hD, upd_same⟩ (fun j H' _ p => SqL.of (p.1 _ _ e2)) (fun j z H3 hj p => ?_) (fun H3 p => ?_)
      · obtain ⟨sm3, hacc⟩ := p
        rw [List.getElem?_map] at hj
        obtain ⟨m, hm, rfl⟩ := Option.map_eq_some_iff.mp hj
        have hmn : m < n := (mem_beside.mp (List.mem_of_getElem? hm)).1
        have gm : (x.map V.int)[m]? = some (.int (g x m)) := map_get (by omega)
        refine ⟨rfl, _, rfl, _, rfl, b, _, (m : Int), _, rfl, rfl, SqT.of (sm3 _ _ (sm2 _ _ hb)), atI_nat gm, _, hacc, ?_, same_upd2 sm3 hD, ?_⟩
        · refine line_small ?_
          have h1 := List.length_filter_le (besideB L i) (List.range n)
          rw [List.length_range] at h1
          have h2 : (beside n L i).length ≤ n := h1
          rw [List.length_map, List.length_map, List.length_take]
          omega
        · rw [upd_same, take_snoc hm, List.map_append, List.map_append]
          rfl
      · obtain ⟨sm3, hacc⟩ := p
        rw [List.length_map, List.take_length] at hacc
        have sm23 := sm2.trans sm3
        refine ⟨_, rfl, _, rfl, b, _, (i : Int), _, rfl, rfl, SqT.of (sm23 _ _ hb), atI_nat gx, by show 1 ≤ sizeLine; decide, fun l1 hl1 => ?_⟩
        have s4 := same_upd (o := .lst [.int (g x i)]) hl1
        have hbl : (beside n L i).length ≤ n := by
          have h1 := List.length_filter_le (besideB L i) (List.range n)
          rw [List.length_range] at h1
          exact h1
        refine ⟨D, l1, _, _, rfl, rfl, s4 _ _ hacc, upd_same, line_small' (by rw [List.length_map, List.length_map, List.length_singleton]; omega), fun S hS => ?_⟩
        have s5 := same_upd (o := .lst (((beside n L i).map (g x)).map V.int ++ [.int (g x i)])) hS
        have eS : upd (upd H3 l1 (.lst [.int (g x i)])) S (.lst (((beside n L i).map (g x)).map V.int ++ [.int (g x i)])) S = some (.lst (((beside n L i).map (g x) ++ [g x i]).map V.int)) := by
          rw [upd_same, List.map_append]
          rfl
        have sm5 := ((sm23.trans s4).trans s5)
        have s25 : Same H1 _ := ((s2.trans sm3).trans s4).trans s5
        generalize upd (upd H3 l1 (.lst [.int (g x i)])) S (.lst (((beside n L i).map (g x)).map V.int ++ [.int (g x i)])) = H5 at s5 eS sm5 s25
        have mini : ∀ m : Int, m ∈ (beside n L i).map (g x) ++ [g x i] → (∀ y, y ∈ (beside n L i).map (g x) ++ [g x i] → m ≤ y) → (decide (V.int m = V.int (g x i)) = (beside n L i).all fun j => decide (g x i ≤ g x j)) := fun m hm hle => by
          have h1 : m ≤ g x i := hle _ (by simp)
          by_cases c : m = g x i
          · rw [decide_eq_true (show V.int m = V.int (g x i) by rw [c])]
            refine (List.all_eq_true.mpr fun j hj => decide_eq_true ?_).symm
            rw [← c]
            exact hle _ (List.mem_append.mpr (.inl (List.mem_map.mpr ⟨j, hj, rfl⟩)))
          · rw [decide_eq_false (fun z => c (V.int.inj z))]
            refine (Bool.eq_false_iff.mpr fun z => ?_).symm
            rcases List.mem_append.mp hm with q | q
            · obtain ⟨j, hj, e⟩ := List.mem_map.mp q
              have := of_decide_eq_true (List.all_eq_true.mp z j hj)
              omega
            · exact c (List.mem_singleton.mp q)
        have maxi : ∀ m : Int, m ∈ (beside n L i).map (g x) ++ [g x i] → (∀ y, y ∈ (beside n L i).map (g x) ++ [g x i] → y ≤ m) → (decide (V.int m = V.int (g x i)) = (beside n L i).all fun j => decide (g x j ≤ g x i)) := fun m hm hle => by
          have h1 : g x i ≤ m := hle _ (by simp)
          by_cases c : m = g x i
          · rw [decide_eq_true (show V.int m = V.int (g x i) by rw [c])]
            refine (List.all_eq_true.mpr fun j hj => decide_eq_true ?_).symm
            rw [← c]
            exact hle _ (List.mem_append.mpr (.inl (List.mem_map.mpr ⟨j, hj, rfl⟩)))
          · rw [decide_eq_false (fun z => c (V.int.inj z))]
            refine (Bool.eq_false_iff.mpr fun z => ?_).symm
            rcases List.mem_append.mp hm with q | q
            · obtain ⟨j, hj, e⟩ := List.mem_map.mp q
              have := of_decide_eq_true (List.all_eq_true.mp z j hj)
              omega
            · exact c (List.mem_singleton.mp q)
        have l5 : 0 < ((beside n L i).map (g x) ++ [g x i]).length := by simp
        -- the raisings
        have eu5 := s25 _ _ eu
        have ed5 := s25 _ _ ed
        have hus5 := hus.keep (Tups.of s25)
        have hds5 := hds.keep (Tups.of s25)
        have lus : us.length ≤ n := by
          rw [Paired.length hus]
          have := ups_len n L R x i
          omega
        have lds : ds.length ≤ n := by
          rw [Paired.length hds]
          have := dns_len n L x i
          omega
        have down : ∀ (H6 : Hp) (u6 : Addr) (us6 : List V), Same H5 H6 → H6 u6 = some (.lst us6) → DsAt H6 us6 (ups n L R x (i + 1)) →
            tAsg (tOp rCat (tVar 4) (tIf (tAnd (tTest (tOp (rI0 fun i j => .bl (decide (j < i))) (tOp (rIxT K) (tVar 2) (tVar 5)) (tC (.int 0)))) (tTest (tOp rEq (tCB (rMax K) (tCons (tVar 6) tNil)) (tOp (rIxT K) (tVar 2) (tVar 5)))))
              (tLst (tCons (tTup (tCons (tC (.bl false)) (tCons (tVar 5) tNil))) tNil)) (tLst tNil))) (gName 4)
              { nx := PvD a b H n L R x (i + 1), rt := Q } [some (.ref a), some (.int R), some (.ref b), some (.ref u6), some (.ref d), some (nV i), some (.ref S), y7] H6 := fun H6 u6 us6 s6 e6 h6 => by
          have sm6 := sm5.trans s6
          have eS6 := s6 _ _ eS
          have ed6 := s6 _ _ ed5
          have hds6 := hds5.keep (Tups.of s6)
          refine ⟨_, rfl, _, rfl, _, rfl, b, _, (i : Int), _, rfl, rfl, SqT.of (sm6 _ _ hb), atI_nat gx, _, _, rfl, rfl, _, rfl, ?_⟩
          have skip : dnB n L x i = false → tLst tNil [some (.ref a), some (.int R), some (.ref b), some (.ref u6), some (.ref d), some (nV i), some (.ref S), y7] H6 (fun y H7 => rCat (.ref d) y H7 fun v H8 => PvD a b H n L R x (i + 1) [some (.ref a), some (.int R), some (.ref b), some (.ref u6), some v, some (nV i), some (.ref S), y7] H8) := fun z => by
            refine ⟨Nat.zero_le _, fun l2 hl2 => ?_⟩
            have s7 := same_upd (o := .lst []) hl2
            refine ⟨d, l2, ds, [], rfl, rfl, s7 _ _ ed6, upd_same, line_small' (by rw [List.length_nil]; omega), fun d7 hd7 => ?_⟩
            have s8 := same_upd (o := .lst (ds ++ [])) hd7
            refine ⟨u6, d7, us6, ds ++ [], _, _, _, rfl, (sm6.trans s7).trans s8, s8 _ _ (s7 _ _ e6), upd_same, h6.keep (Tups.of (s7.trans s8)), ?_⟩
            rw [dns_succ, if_neg (by rw [z]; exact Bool.false_ne_true)]
            exact paired_append (hds6.keep (Tups.of (s7.trans s8))) .nil
          by_cases c1 : 0 < g x i
          · refine iteTT (decide_eq_true c1) ?_
            refine ⟨_, rfl, S, _, rfl, SqL.of eS6, l5, fun m hm hle => ?_⟩
            refine ⟨_, rfl, _, rfl, b, _, (i : Int), _, rfl, rfl, SqT.of (sm6 _ _ hb), atI_nat gx, rfl, _, rfl, ?_⟩
            have ez : decide (V.int m = V.int (g x i)) = dnB n L x i := by
              rw [maxi m hm hle]
              unfold dnB
              rw [decide_eq_true c1, Bool.true_and]
            by_cases c2 : dnB n L x i = true
            · refine iteTT (ez.trans c2) ?_
              refine ⟨_, rfl, by show 2 ≤ sizeLine; decide, fun t ht => ⟨by show 1 ≤ sizeLine; decide, fun l2 hl2 => ?_⟩⟩
              have s7 := (same_upd (o := .tup [.bl false, nV i]) ht).trans (same_upd (o := .lst [.ref t]) hl2)
              have ntl : t ≠ l2 := fun z => by
                rw [← z, upd_same] at hl2
                cases hl2
              refine ⟨d, l2, ds, [.ref t], rfl, rfl, s7 _ _ ed6, upd_same, line_small' (by rw [List.length_singleton]; omega), fun d7 hd7 => ?_⟩
              have s8 := same_upd (o := .lst (ds ++ [.ref t])) hd7
              refine ⟨u6, d7, us6, ds ++ [.ref t], _, _, _, rfl, (sm6.trans s7).trans s8, s8 _ _ (s7 _ _ e6), upd_same, h6.keep (Tups.of (s7.trans s8)), ?_⟩
              rw [dns_succ, if_pos c2]
              exact paired_append (hds6.keep (Tups.of (s7.trans s8))) (.cons ⟨t, rfl, s8 _ _ (by rw [upd_ne ntl, upd_same]; rfl)⟩ .nil)
            · have c2 : dnB n L x i = false := by simpa using c2
              exact iteFF (ez.trans c2) (skip c2)
          · refine iteFF (decide_eq_false c1) (iteF ?_)
            exact skip (by unfold dnB; rw [decide_eq_false c1, Bool.false_and])
        refine ⟨_, rfl, _, rfl, _, rfl, b, _, (i : Int), _, rfl, rfl, SqT.of (sm5 _ _ hb), atI_nat gx, _, rfl, _, _, rfl, rfl, _, rfl, ?_⟩
        have skip : upB n L R x i = false → tLst tNil [some (.ref a), some (.int R), some (.ref b), some (.ref u), some (.ref d), some (nV i), some (.ref S), y7] H5 (fun y H7 => rCat (.ref u) y H7 fun v H8 =>
            tAsg (tOp rCat (tVar 4) (tIf (tAnd (tTest (tOp (rI0 fun i j => .bl (decide (j < i))) (tOp (rIxT K) (tVar 2) (tVar 5)) (tC (.int 0)))) (tTest (tOp rEq (tCB (rMax K) (tCons (tVar 6) tNil)) (tOp (rIxT K) (tVar 2) (tVar 5)))))
              (tLst (tCons (tTup (tCons (tC (.bl false)) (tCons (tVar 5) tNil))) tNil)) (tLst tNil))) (gName 4)
              { nx := PvD a b H n L R x (i + 1), rt := Q } [some (.ref a), some (.int R), some (.ref b), some v, some (.ref d), some (nV i), some (.ref S), y7] H8) := fun z => by
          refine ⟨Nat.zero_le _, fun l2 hl2 => ?_⟩
          have s7 := same_upd (o := .lst []) hl2
          refine ⟨u, l2, us, [], rfl, rfl, s7 _ _ eu5, upd_same, line_small' (by rw [List.length_nil]; omega), fun d7 hd7 => ?_⟩
          have s8 := same_upd (o := .lst (us ++ [])) hd7
          refine down _ d7 (us ++ []) (s7.trans s8) upd_same ?_
          rw [ups_succ, if_neg (by rw [z]; exact Bool.false_ne_true)]
          exact paired_append (hus5.keep (Tups.of (s7.trans s8))) .nil
        by_cases c1 : g x i < R
        · refine iteTT (decide_eq_true c1) ?_
          refine ⟨_, rfl, S, _, rfl, SqL.of eS, l5, fun m hm hle => ?_⟩
          refine ⟨_, rfl, _, rfl, b, _, (i : Int), _, rfl, rfl, SqT.of (sm5 _ _ hb), atI_nat gx, rfl, _, rfl, ?_⟩
          have ez : decide (V.int m = V.int (g x i)) = upB n L R x i := by
            rw [mini m hm hle]
            unfold upB
            rw [decide_eq_true c1, Bool.true_and]
          by_cases c2 : upB n L R x i = true
          · refine iteTT (ez.trans c2) ?_
            refine ⟨_, rfl, by show 2 ≤ sizeLine; decide, fun t ht => ⟨by show 1 ≤ sizeLine; decide, fun l2 hl2 => ?_⟩⟩
            have s7 := (same_upd (o := .tup [.bl true, nV i]) ht).trans (same_upd (o := .lst [.ref t]) hl2)
            have ntl : t ≠ l2 := fun z => by
              rw [← z, upd_same] at hl2
              cases hl2
            refine ⟨u, l2, us, [.ref t], rfl, rfl, s7 _ _ eu5, upd_same, line_small' (by rw [List.length_singleton]; omega), fun d7 hd7 => ?_⟩
            have s8 := same_upd (o := .lst (us ++ [.ref t])) hd7
            refine down _ d7 (us ++ [.ref t]) (s7.trans s8) upd_same ?_
            rw [ups_succ, if_pos c2]
            exact paired_append (hus5.keep (Tups.of (s7.trans s8))) (.cons ⟨t, rfl, s8 _ _ (by rw [upd_ne ntl, upd_same]; rfl)⟩ .nil)
          · have c2 : upB n L R x i = false := by simpa using c2
            exact iteFF (ez.trans c2) (skip c2)
        · refine iteFF (decide_eq_false c1) (iteF ?_)
          exact skip (by unfold upB; rw [decide_eq_false c1, Bool.false_and])
    · obtain ⟨u, d, us, ds, y5, y6, y7, rfl, sm, eu, ed, hus, hds⟩ := p
      have en : ((n : Int) - 0).toNat = n := by omega
      rw [en] at hus hds
      have lus : us.length ≤ n := by
        rw [Paired.length hus]
        exact ups_len n L R x n
      have lds : ds.length ≤ n := by
        rw [Paired.length hds]
        exact dns_len n L x n
      refine ⟨_, rfl, _, rfl, u, d, us, ds, rfl, rfl, eu, ed, line_small' (by omega), fun p hp => ?_⟩
      exact q _ p (us ++ ds) (sm.trans (same_upd hp)) (sm.free hp) upd_same (DsAt.keep (paired_append hus hds) (Tups.new hp))
end
end Lev
set_option Elab.async false
set_option linter.all false
set_option maxRecDepth 100000
set_option maxHeartbeats 4000000
namespace Lev
open PySem PySem.Spec PyProof.Rows L2
/-! ### heights as keys, as data -/
def kk (x : List Int) : List Key := x.map Sum.inl
theorem kk_V (x : List Int) : (kk x).map kV = x.map V.int := by
  unfold kk
  rw [List.map_map]
  rfl
theorem kk_inj {x y : List Int} (h : kk x = kk y) : x = y := by
  unfold kk at h
  induction x generalizing y with
  | nil =>
    cases y with
    | nil => rfl
    | cons b y => simp at h
  | cons a x ih =>
    cases y with
    | nil => simp at h
    | cons b y =>
      rw [List.map_cons, List.map_cons, List.cons.injEq] at h
      obtain ⟨h1, h2⟩ := h
      rw [Sum.inl.inj h1, ih h2]
def encT (F : Tab) : List (List Key × V) := F.map fun p => (kk p.1, V.int p.2)
theorem valV_enc (F : Tab) (x : List Int) : valV (encT F) (kk x) = (look F x).map V.int := by
  unfold valV look encT
  induction F with
  | nil => rfl
  | cons p F ih =>
    rw [List.map_cons, List.find?_cons, List.find?_cons]
    by_cases h : p.1 = x
    · have h1 : decide (kk p.1 = kk x) = true := decide_eq_true (by rw [h])
      have h2 : decide (p.1 = x) = true := decide_eq_true h
      simp only [h1, h2]
      rfl
    · have h1 : decide (kk p.1 = kk x) = false := decide_eq_false fun z => h (kk_inj z)
      have h2 : decide (p.1 = x) = false := decide_eq_false h
      simp only [h1, h2]
      exact ih
theorem encT_snoc (F : Tab) (x : List Int) (d : Int) : encT (F ++ [(x, d)]) = encT F ++ [(kk x, V.int d)] := by
  unfold encT
  rw [List.map_append]
  rfl
def hD (x : List Int) : PyData := .tuple (x.map .int)
theorem hD_lay (x : List Int) : (hD x).canLay0 = true := by
  unfold hD
  simp only [PyData.canLay0]
  exact ints_lay x
theorem hD_depth (x : List Int) : (hD x).depth ≤ 3 := by
  have h := ints_depth x
  unfold hD
  simp only [PyData.depth]
  omega
theorem hDs_lay : ∀ M : List (List Int), PyData.canLayAll0 (M.map hD) = true
  | [] => by simp [PyData.canLayAll0]
  | p :: M => by simp [PyData.canLayAll0, hD_lay p, hDs_lay M]
theorem hDs_depth : ∀ M : List (List Int), PyData.depthAll (M.map hD) ≤ 3
  | [] => by simp [PyData.depthAll]
  | p :: M => by
    have h1 := hDs_depth M
    have h2 := hD_depth p
    simp only [List.map_cons, PyData.depthAll]
    omega
theorem hDs_shaped (M : List (List Int)) : SeqAt.shaped (.list (M.map hD)) = true := by
  have h1 := hDs_depth M
  have h2 : PyData.depth (.list (M.map hD)) ≤ 64 := by
    simp only [PyData.depth]
    omega
  show (PyData.canLay0 (.list (M.map hD)) && decide (PyData.depth (.list (M.map hD)) ≤ 64)) = true
  rw [Bool.and_eq_true]
  exact ⟨by simp only [PyData.canLay0]; exact hDs_lay M, decide_eq_true h2⟩
abbrev RsAt (H : Hp) : List V → List (List Int) → Prop := Paired fun v x => ∃ t, v = .ref t ∧ HsAt H t x
theorem RsAt.keep {H H' : Hp} {xs : List V} {L : List (List Int)} (h : RsAt H xs L) (s : Tups H H') : RsAt H' xs L := Paired.mapP h fun _ _ ⟨t, a, b⟩ => ⟨t, a, s _ _ b⟩
theorem rs_data {K : PySem.W.Frag} {H : Hp} : ∀ {xs : List V} {M : List (List Int)}, RsAt H xs M → DpAll K H xs (M.map hD)
  | _, _, .nil => .nil
  | _, _, .cons r t => by
    obtain ⟨a, e, h⟩ := r
    subst e
    exact .cons (.tup (SqT.of h) (ints_at _)) (rs_data t)
section
variable {P : Program} {w : World} {K : PySem.W.Frag} {mg : Str → Option Value} {base : Heap}
/-! ### _law_after -/
theorem scAfter : FnScope ["_law_web", "_law_roof", "_law_heights_here", "_law_deed"] ["_law_web", "_law_roof", "_law_heights_here"] (defScope sAfter) := ⟨rfl, rfl, rfl, by decide +kernel, rfl, by decide +kernel, by decide +kernel⟩
def spAfter : Sp := fun vs H Q _ => ∃ (a : Addr) (n : Nat) (E : Edges) (R : Int) (b : Addr) (x : List Int), vs = [.ref a, .int R, .ref b] ∧ WebAt H a n E ∧ n ≤ 100 ∧ HsAt H b x ∧ x.length = n ∧ ∀ H' p xs, Same H H' → H p = none → H' p = some (.lst xs) → AfAt H' x xs (deeds n E R x) → Q (.ref p) H'
theorem ok_after (F : At K mg "_law_after" sAfter) (hD : Cal P w K mg base "_law_deeds" 2 ["_law_web", "_law_roof", "_law_heights_here"] spDeeds) (hS : Cal P w K mg base "_law_step" 1 ["_law_heights_here", "_law_deed"] spStep) : Cal P w K mg base "_law_after" 3 ["_law_web", "_law_roof", "_law_heights_here"] spAfter := by
  obtain ⟨fD, fdD, GD⟩ := hD
  obtain ⟨fS, fdS, GS⟩ := hS
  refine cal_mk F scAfter (fun _ _ _ _ _ _ us hl => match us, hl with | [_, _, _], _ => rfl) (fun vs H Q E h => ?_) fun f cdv A outer s H vs Q E hr h => ?_
  · obtain ⟨_, _, _, _, _, _, rfl, _⟩ := h
    rfl
  · obtain ⟨a, n, L, R, b, x, rfl, ha, hn, hb, hx, q⟩ := h
    have hr1 := hr.mono (show 1 ≤ 2 by decide)
    refine ⟨_, pss_one (ps_ret (pe_lc (own := [("_law_deed", 3)]) (g := gName 3) (tt := tYes) (by rfl) scAfter.nd (pi_list (pe_call GD.ok hr (by rfl) GD.mg GD.kp GD.bi .nil pass0 (pa_cons (pv 0) (pa_cons (pv 1) (pa_cons (pv 2) pa_nil)))))
      (blkOk_by (own := [("_law_deed", 3)]) (N := ["_law_web", "_law_roof", "_law_heights_here", "_law_deed"]) (sc := defScope sAfter) (by decide +kernel))
      (fun _ _ _ _ _ => pg_name (i := 3) scAfter.nd rfl (Or.inl rfl)) (fun _ _ _ _ _ => pts_nil)
      (fun _ _ _ _ _ => pe_tup (pa_cons (pv 3) (pa_cons (pe_call GS.ok hr1 (by rfl) GS.mg GS.kp GS.bi .nil pass0 (pa_cons (pv 2) (pa_cons (pv 3) pa_nil))) pa_nil))))), ?_⟩
    refine ⟨_, rfl, _, rfl, _, rfl, a, n, L, R, b, x, rfl, ha, hn, hb, hx, fun H1 p0 ys s1 hp0 e1 hys => ?_⟩
    refine ⟨p0, rfl, ⟨_, SqL.of e1⟩, fun D hD => ?_⟩
    refine lc_list (K := K) (a := p0) (xs := ys) (fun i H' => Same H1 H' ∧ ∃ acc, H' D = some (.lst acc) ∧ AfAt H' x acc ((deeds n L R x).take i)) ⟨same_upd hD, [], upd_same, .nil⟩ (fun i H' _ p => SqL.of (p.1 _ _ e1)) (fun i z H2 hi p => ?_) (fun H2 p => ?_)
    · obtain ⟨sm, acc, hacc, hps⟩ := p
      obtain ⟨d, hd, t1, rfl, ht1⟩ := paired_get hys hi
      have hmem := List.mem_of_getElem? hd
      have hdn := (mem_deeds.mp hmem).1
      refine ⟨rfl, _, rfl, _, rfl, _, rfl, b, t1, x, d, rfl, sm _ _ (s1 _ _ hb), sm _ _ ht1, by omega, fun H3 t2 s3 h2 => ?_⟩
      refine ⟨by show 2 ≤ sizeLine; decide, fun t ht => ?_⟩
      have s4 := same_upd (o := .tup [.ref t1, .ref t2]) ht
      have e4 : upd H3 t (.tup [.ref t1, .ref t2]) D = some (.lst acc) := s4 _ _ (s3 _ _ hacc)
      refine ⟨acc, e4, ?_, same_upd2 ((sm.trans s3).trans s4) hD, _, upd_same, ?_⟩
      · refine line_small ?_
        rw [Paired.length hps, List.length_take]
        have := deeds_len n L R x
        omega
      · have t5 : Tups (upd H3 t (.tup [.ref t1, .ref t2])) (upd (upd H3 t (.tup [.ref t1, .ref t2])) D (.lst (acc ++ [.ref t]))) := Tups.lst e4
        rw [take_snoc hd]
        exact paired_append (AfAt.keep hps ((Tups.of (s3.trans s4)).trans t5)) (.cons ⟨t, t1, t2, rfl, t5 _ _ upd_same, t5 _ _ (s4 _ _ (s3 _ _ (sm _ _ ht1))), t5 _ _ (s4 _ _ h2)⟩ .nil)
    · obtain ⟨sm, acc, hacc, hps⟩ := p
      rw [Paired.length hys, List.take_length] at hps
      exact q _ D acc (s1.trans sm) (s1.free hD) hacc hps
/-! ### _law_from -/
abbrev NFrom : List Str := ["_law_web", "_law_roof", "_law_heights_here", "_law_found", "_law_rows", "_law_more", "_law_here", "_law_deed", "_law_there_here"]
theorem scFrom : FnScope ["_law_web", "_law_roof", "_law_heights_here", "_law_found", "_law_rows", "_law_more", "_law_here", "_law_deed", "_law_there_here"] ["_law_web", "_law_roof", "_law_heights_here"] (defScope sFrom) := ⟨rfl, rfl, rfl, by decide +kernel, rfl, by decide +kernel, by decide +kernel⟩
def spFrom : Sp := fun vs H Q _ => ∃ (a : Addr) (n : Nat) (E : Edges) (R : Int) (b : Addr) (x : List Int), vs = [.ref a, .int R, .ref b] ∧ WebAt H a n E ∧ WebS n E ∧ 1 ≤ R ∧ R ≤ 5 ∧ HsAt H b x ∧ Valid n R x ∧ ∀ H' p F, Same H H' → H p = none → H' p = some (.dT (encT F)) → Known n E R x F → Q (.ref p) H'
/-- the state of the search ahead of a turn of the while -/
def PvW (a b fd : Addr) (H : Hp) (n : Nat) (E : Edges) (R : Int) (x : List Int) (m : Nat) (σ : L2.St) (H' : Hp) : Prop := ∃ (k : Nat) (F : Tab) (rows : List (List Int)) (rw : Addr) (xs : List V) (y5 y6 y7 y8 : Option V),
  σ = [some (.ref a), some (.int R), some (.ref b), some (.ref fd), some (.ref rw), y5, y6, y7, y8] ∧ Same H H' ∧ H' fd = some (.dT (encT F)) ∧ H' rw = some (.lst xs) ∧ RsAt H' xs rows ∧ Lvl n E R x k F rows ∧ m = ((n : Int) * R + 1 - (k : Int)).toNat
/-- what a turn has found so far: dn, the heights behind deeds that were looked at -/
def Mids (fd mo rw : Addr) (H H' : Hp) (n : Nat) (E : Edges) (R : Int) (x : List Int) (k : Nat) (xs : List V) (rows dn : List (List Int)) : Prop := ∃ (F : Tab) (M : List (List Int)) (zs : List V),
  Same H H' ∧ H' fd = some (.dT (encT F)) ∧ H' rw = some (.lst xs) ∧ RsAt H' xs rows ∧ H' mo = some (.lst zs) ∧ RsAt H' zs M ∧ Mid n E R x k dn F M
theorem Mids.keep {fd mo rw : Addr} {H H1 H2 : Hp} {n : Nat} {E : Edges} {R : Int} {x : List Int} {k : Nat} {xs : List V} {rows dn : List (List Int)} (m : Mids fd mo rw H H1 n E R x k xs rows dn) (s : Same H1 H2) : Mids fd mo rw H H2 n E R x k xs rows dn := by
  obtain ⟨F, M, zs, a, b, c, d, e, f, g⟩ := m
  exact ⟨F, M, zs, a.trans s, s _ _ b, s _ _ c, d.keep (Tups.of s), s _ _ e, f.keep (Tups.of s), g⟩
def succs (n : Nat) (E : Edges) (R : Int) (y : List Int) : List (List Int) := (deeds n E R y).map (stepH y)
theorem ok_from (F : At K mg "_law_from" sFrom) (hA : Cal P w K mg base "_law_after" 3 ["_law_web", "_law_roof", "_law_heights_here"] spAfter) : Cal P w K mg base "_law_from" 4 ["_law_web", "_law_roof", "_law_heights_here"] spFrom := by
  obtain ⟨fA, fdA, GA⟩ := hA
  refine cal_mk F scFrom (fun _ _ _ _ _ _ us hl => match us, hl with | [_, _, _], _ => rfl) (fun vs H Q E h => ?_) fun f cdv A outer s H vs Q E hr h => ?_
  · obtain ⟨_, _, _, _, _, _, rfl, _⟩ := h
    rfl
  · obtain ⟨a, n, L, R, b, x, rfl, ha, we, r1, r5, hb, vx, q⟩ := h
    have hu := hu_of hr
    have n5 := we.n5
    refine ⟨_, pss_cons (ps_par (i := 3) (j := 4) (by rfl) scFrom.nd rfl rfl (by decide) rfl rfl (pa_cons (pe_dispT hu (pv 2) pe_int) (pa_cons (pe_lst (pa_cons (pv 2) pa_nil)) pa_nil)) (by rfl))
      (pss_cons (ps_while PassesOwn.never (pt_cmpR (op_neD hr.units) (pv 4) (pe_lst pa_nil) (nomark _))
        (pss_cons (ps_set (i := 5) scFrom.nd rfl (.inl rfl) (pe_lst pa_nil))
        (pss_cons (ps_for PassesOwn.never rfl (pi_list (pv 4)) (pg_name (i := 6) scFrom.nd rfl (.inl rfl))
          (pss_one (ps_for PassesOwn.never rfl (pi_list (pe_call GA.ok hr (by rfl) GA.mg GA.kp GA.bi .nil pass0 (pa_cons (pv 0) (pa_cons (pv 1) (pa_cons (pv 6) pa_nil)))))
            (pg_tup rfl (pgs_cons (pg_name (i := 7) scFrom.nd rfl (.inl rfl)) (pgs_cons (pg_name (i := 8) scFrom.nd rfl (.inl rfl)) pgs_nil)))
            (pss_one (ps_if (pt_cmp (pc_dnotin hu (pv 8) (pv 3)))
              (pss_cons (ps_dput hu (pv 3) (pv 8) (pe_op op_add (pe_dget hu (pv 3) (pv 6) (fun _ _ => rfl)) pe_int) rfl)
              (pss_one (ps_expr (pe_bm PySem.F.plainAttrs_list PySem.F.slot_list_append PySem.F.type_list_append mt_append (pv 5) (pa_cons (pv 8) pa_nil))))) pss_nil)))))
        (pss_one (ps_set (i := 4) scFrom.nd rfl (.inl rfl) (pv 5))))))
      (pss_one (ps_ret (pv 3)))), ?_⟩
    -- the start
    intro fd hfd
    have hbk : ∀ H' : Hp, Same H H' → H' b = some (.tup ((kk x).map kV)) := fun H' s => by
      rw [kk_V]
      exact s _ _ hb
    have s1 := same_upd (o := .dT []) hfd
    refine ⟨_, rfl, upd_same, b, kk x, rfl, hbk _ s1, ?_⟩
    have s2 : Same H (upd (upd H fd (.dT [])) fd (.dT [(kk x, .int 0)])) := same_upd2 s1 hfd
    refine ⟨_, rfl, by show 1 ≤ sizeLine; decide, fun rw0 hrw => ⟨_, _, rfl, ?_⟩⟩
    have s3 := same_upd (o := .lst [.ref b]) hrw
    have nfr : fd ≠ rw0 := fun z => by
      rw [← z, upd_same] at hrw
      cases hrw
    refine ⟨PvW a b fd H n L R x, ⟨_, 0, [(x, 0)], [x], rw0, [.ref b], _, _, _, _, rfl, s2.trans s3, by rw [upd_ne nfr, upd_same]; rfl, upd_same, .cons ⟨b, rfl, (s2.trans s3) _ _ hb⟩ .nil, lvl_start vx, rfl⟩, ?_⟩
    rintro m σ H1 ⟨k, F, rows, rw, xs, y5, y6, y7, y8, rfl, sm, ef, er, hrs, lv, em⟩
    refine ⟨_, rfl, Nat.zero_le _, fun l hl => ?_⟩
    have s4 := same_upd (o := .lst []) hl
    refine ⟨.list (rows.map hD), .list [], .lst (SqL.of (s4 _ _ er)) (rs_data (hrs.keep (Tups.of s4))), .lst (SqL.of upd_same) .nil, hDs_shaped _, rfl, _, rfl, ?_⟩
    rw [eqv_nil]
    cases rows with
    | nil =>
      refine neF rfl ?_
      refine ⟨_, rfl, q _ fd F (sm.trans s4) hfd (s4 _ _ ef) (lv.known we.ok vx (by omega))⟩
    | cons y0 rows' =>
      refine neT rfl ?_
      have hk : (k : Int) ≤ (n : Int) * R := by
        obtain ⟨v, c, e⟩ := (lv.rws y0).mp (List.mem_cons_self ..)
        have := off_le vx v
        omega
      have hm : (((n : Int) * R + 1 - ((k + 1 : Nat) : Int)).toNat) < m := by
        rw [em]
        generalize (n : Int) * R = z at hk
        omega
      refine ⟨PvW a b fd H n L R x (((n : Int) * R + 1 - ((k + 1 : Nat) : Int)).toNat), fun σ' H' p => ⟨_, hm, p⟩, ?_⟩
      refine ⟨Nat.zero_le _, fun mo hmo => ?_⟩
      have s5 := same_upd (o := .lst []) hmo
      have s45 := s4.trans s5
      refine ⟨_, rfl, rw, rfl, ⟨_, SqL.of (s45 _ _ er)⟩, ?_⟩
      refine for_list (K := K) (a := rw) (xs := xs) (fun i σ H' => ∃ y6 y7 y8, σ = [some (.ref a), some (.int R), some (.ref b), some (.ref fd), some (.ref rw), some (.ref mo), y6, y7, y8] ∧ Mids fd mo rw H H' n L R x k xs (y0 :: rows') (((y0 :: rows').take i).flatMap (succs n L R)))
        ⟨_, _, _, rfl, F, [], [], sm.trans s45, s45 _ _ ef, s45 _ _ er, hrs.keep (Tups.of s45), upd_same, .nil, lv.mid⟩ (fun i σ H' _ p => ?_) (fun i z σ H2 hi p => ?_) (fun σ H' p => ?_)
      · obtain ⟨_, _, _, _, _, _, _, _, _, e, _⟩ := p
        exact SqL.of e
      · obtain ⟨y6, y7, y8, rfl, md⟩ := p
        obtain ⟨y, hy, ty, rfl, hty0⟩ := paired_get hrs hi
        have hyr : y ∈ y0 :: rows' := List.mem_of_getElem? hy
        obtain ⟨vy, cy, oy⟩ := (lv.rws y).mp hyr
        have hty : HsAt H2 ty y := by
          obtain ⟨_, _, _, _, _, _, hr2, _⟩ := md
          obtain ⟨y', hy', t', e', h'⟩ := paired_get hr2 hi
          cases e'
          rw [hy] at hy'
          cases hy'
          exact h'
        have ha2 : WebAt H2 a n L := by
          obtain ⟨_, _, _, sm2, _⟩ := id md
          exact ha.keep (Tups.of sm2)
        refine ⟨_, rfl, _, rfl, _, rfl, a, n, L, R, ty, y, rfl, ha2, by omega, hty, vy.len, fun H3 p3 ys s3 hp3 e3 hys => ?_⟩
        refine ⟨p3, rfl, ⟨_, SqL.of e3⟩, ?_⟩
        have md3 := md.keep s3
        refine for_list (K := K) (a := p3) (xs := ys) (fun j σ H' => ∃ y7 y8, σ = [some (.ref a), some (.int R), some (.ref b), some (.ref fd), some (.ref rw), some (.ref mo), some (.ref ty), y7, y8] ∧ H' p3 = some (.lst ys) ∧ AfAt H' y ys (deeds n L R y) ∧ HsAt H' ty y ∧
            Mids fd mo rw H H' n L R x k xs (y0 :: rows') (((y0 :: rows').take i).flatMap (succs n L R) ++ (succs n L R y).take j))
          ⟨_, _, rfl, e3, hys, s3 _ _ hty, by rw [List.take_zero, List.append_nil]; exact md3⟩ (fun j σ H' _ p => ?_) (fun j z σ H4 hj p => ?_) (fun σ H' p => ?_)
        · obtain ⟨_, _, _, e, _⟩ := p
          exact SqL.of e
        · obtain ⟨y7, y8, rfl, e4, hy4, hty4, md4⟩ := p
          obtain ⟨d, hd, t, t1, t2, rfl, ht, ht1, ht2⟩ := paired_get hy4 hj
          have hmem := List.mem_of_getElem? hd
          obtain ⟨F4, M4, zs, sm4, ef4, er4, hrs4, em4, hms4, mid4⟩ := md4
          have hsc : (succs n L R y)[j]? = some (stepH y d) := by
            unfold succs
            rw [List.getElem?_map, hd]
            rfl
          have nfm : fd ≠ mo := ne_of ef4 em4 (fun z => by cases z)
          have nfr4 : rw ≠ fd := ne_of er4 ef4 (fun z => by cases z)
          have nfp : p3 ≠ fd := ne_of e4 ef4 (fun z => by cases z)
          have hkey : H4 t2 = some (.tup ((kk (stepH y d)).map kV)) := by
            rw [kk_V]
            exact ht2
          have hkeyY : H4 ty = some (.tup ((kk y).map kV)) := by
            rw [kk_V]
            exact hty4
          refine ⟨t, _, rfl, SqT.of ht, rfl, _, _, rfl, _, _, rfl, rfl, ?_⟩
          refine ⟨_, rfl, _, rfl, fd, _, rfl, DGet.t (k := kk (stepH y d)) ef4 hkey, _, rfl, ?_⟩
          rw [valV_enc]
          rw [take_snoc hsc, ← List.append_assoc]
          cases ek : look F4 (stepH y d) with
          | some dd =>
            refine neF rfl ?_
            exact ⟨_, _, rfl, e4, hy4, hty4, F4, M4, zs, sm4, ef4, er4, hrs4, em4, hms4, mid4.had (look_mem ek)⟩
          | none =>
            refine neT rfl ?_
            obtain ⟨dy, hdy⟩ := look_of (mid4.all y vy cy (by omega))
            have edy : dy = (k : Int) := by
              have := (mid4.snd _ (look_some hdy)).2.2.1
              simp only [] at this
              omega
            subst edy
            have flen := mid4.len n5 r5
            refine ⟨_, rfl, _, rfl, fd, .int k, rfl, ?_, _, _, rfl, rfl, _, rfl, _, rfl, fd, _, rfl, DPut.t (k := kk (stepH y d)) ef4 hkey ?_, ?_⟩
            · have z := DGet.t (k := kk y) ef4 hkeyY
              rw [valV_enc, hdy] at z
              exact z
            · unfold encT
              rw [List.length_map]
              exact line_small (by omega)
            have ep : putK (encT F4) (kk (stepH y d)) (.int ((k : Int) + 1)) = encT (F4 ++ [(stepH y d, (k : Int) + 1)]) := by
              rw [putK_new _ (by rw [valV_enc, ek]; rfl), encT_snoc]
            rw [ep]
            have t5 : Tups H4 (upd H4 fd (.dT (encT (F4 ++ [(stepH y d, (k : Int) + 1)])))) := Tups.at fun ws e => by
              rw [ef4] at e
              cases e
            have em5 : upd H4 fd (.dT (encT (F4 ++ [(stepH y d, (k : Int) + 1)]))) mo = some (.lst zs) := by
              rw [upd_ne nfm.symm]
              exact em4
            have mlen : zs.length ≤ 100000 := by
              rw [Paired.length hms4]
              have := mid4.lenM
              omega
            refine ⟨_, rfl, .inl ⟨rfl, _, SqL.of em5⟩, _, rfl, mo, zs, _, rfl, rfl, em5, line_small mlen, ?_⟩
            have t6 := t5.trans (Tups.lst (o := .lst (zs ++ [.ref t2])) em5)
            have nrm : rw ≠ mo := by
              intro z
              rw [z] at er
              rw [s4 _ _ er] at hmo
              cases hmo
            have npm : p3 ≠ mo := by
              intro z
              have : H2 mo = none := by rw [← z]; exact hp3
              obtain ⟨_, _, _, _, _, _, _, em2, _⟩ := md
              rw [em2] at this
              cases this
            refine ⟨_, _, rfl, by rw [upd_ne npm, upd_ne nfp]; exact e4, hy4.keep t6, t6 _ _ hty4, F4 ++ [(stepH y d, (k : Int) + 1)], M4 ++ [stepH y d], zs ++ [.ref t2], ?_, by rw [upd_ne nfm, upd_same], by rw [upd_ne nrm, upd_ne nfr4]; exact er4, hrs4.keep t6, upd_same, ?_, ?_⟩
            · refine same_upd2 (same_upd2 sm4 hfd) ?_
              exact (sm.trans s4).free hmo
            · exact paired_append (hms4.keep t6) (.cons ⟨t2, rfl, t6 _ _ ht2⟩ .nil)
            · exact mid4.add we.ok vx vy cy oy hmem (look_none ek)
        · obtain ⟨y7, y8, rfl, e4, hy4, hty4, md4⟩ := p
          refine ⟨_, _, _, rfl, ?_⟩
          have e5 : (succs n L R y).take ys.length = succs n L R y := by
            rw [Paired.length hys]
            unfold succs
            exact List.take_of_length_le (by rw [List.length_map]; exact Nat.le_refl _)
          rw [e5] at md4
          rw [take_snoc hy, List.flatMap_append]
          simpa using md4
      · obtain ⟨y6, y7, y8, rfl, F4, M4, zs, sm4, ef4, er4, hrs4, em4, hms4, mid4⟩ := p
        rw [Paired.length hrs, List.take_length] at mid4
        refine ⟨_, rfl, k + 1, F4, M4, mo, zs, _, _, _, _, rfl, sm4, ef4, em4, hms4, ?_, rfl⟩
        have z := mid4.close we.ok vx (by omega) lv fun z hz d hd => List.mem_flatMap.mpr ⟨z, hz, List.mem_map.mpr ⟨d, hd, rfl⟩⟩
        exact z
end
end Lev
set_option Elab.async false
set_option linter.all false
set_option maxRecDepth 100000
set_option maxHeartbeats 4000000
namespace Lev
open PySem PySem.Spec PyProof.Rows L2
section
variable {P : Program} {w : World} {K : PySem.W.Frag} {mg : Str → Option Value} {base : Heap}
/-! ### _law_there -/
theorem scThere : FnScope ["_law_row", "_law_web", "_law_roof", "_law_heights_here", "_law_here", "_law_turn"] ["_law_row", "_law_web", "_law_roof", "_law_heights_here"] (defScope sThere) := ⟨rfl, rfl, rfl, by decide +kernel, rfl, by decide +kernel, by decide +kernel⟩
def spThere (K : PySem.W.Frag) : Sp := fun vs H Q _ => ∃ (r a : Addr) (n : Nat) (E : Edges) (R : Int) (b : Addr) (x : List Int), vs = [.ref r, .ref a, .int R, .ref b] ∧ RowAt K H r ∧ WebAt H a n E ∧ WebS n E ∧ 1 ≤ R ∧ R ≤ 5 ∧ HsAt H b x ∧ Valid n R x ∧
  ∀ H' p y, Nxt K r H H' → HsAt H' p y → Valid n R y → Q (.ref p) H'
theorem ok_there (F : At K mg "_law_there" sThere) (T : Free mg) (hT : Cal P w K mg base "_law_taken" 1 ["_law_row", "_law_many_here"] (spTaken K)) (hP : Cal P w K mg base "_law_pick" 2 ["_law_row", "_law_things"] (spPick K))
    (hA : Cal P w K mg base "_law_after" 3 ["_law_web", "_law_roof", "_law_heights_here"] spAfter) (hH : Cal P w K mg base "_law_heights" 2 ["_law_row", "_law_many_here", "_law_roof"] (spHeights K)) :
    Cal P w K mg base "_law_there" 4 ["_law_row", "_law_web", "_law_roof", "_law_heights_here"] (spThere K) := by
  obtain ⟨fT, fdT, GT⟩ := hT
  obtain ⟨fP, fdP, GP⟩ := hP
  obtain ⟨fA, fdA, GA⟩ := hA
  obtain ⟨fH, fdH, GH⟩ := hH
  refine cal_mk F scThere (fun _ _ _ _ _ _ us hl => match us, hl with | [_, _, _, _], _ => rfl) (fun vs H Q E h => ?_) fun f cdv A outer s H vs Q E hr h => ?_
  · obtain ⟨_, _, _, _, _, _, _, rfl, _⟩ := h
    rfl
  · obtain ⟨r, a, n, L, R, b, x, rfl, hw, ha, we, r1, r5, hb, vx, q⟩ := h
    have hr1 := hr.mono (show 1 ≤ 3 by decide)
    have hr2 := hr.mono (show 2 ≤ 3 by decide)
    refine ⟨_, pss_cons (ps_set (i := 4) scThere.nd rfl (.inl rfl) (pv 3))
      (pss_cons (ps_for PassesOwn.never rfl (pi_range1 (by rfl) T.rng (pa_cons (pe_call GT.ok hr1 (by rfl) GT.mg GT.kp GT.bi .nil pass0 (pa_cons (pv 0) (pa_cons pe_int pa_nil))) pa_nil)) (pg_name (i := 5) scThere.nd rfl (.inl rfl))
        (pss_one (ps_set (i := 4) scThere.nd rfl (.inl rfl) (pe_ix ix_tup (pe_call GP.ok hr2 (by rfl) GP.mg GP.kp GP.bi .nil pass0 (pa_cons (pv 0) (pa_cons (pe_call GA.ok hr (by rfl) GA.mg GA.kp GA.bi .nil pass0 (pa_cons (pv 1) (pa_cons (pv 2) (pa_cons (pv 4) pa_nil)))) pa_nil))) pe_int (fun _ _ => rfl)))))
      (pss_one (ps_ret (pe_call GP.ok hr2 (by rfl) GP.mg GP.kp GP.bi .nil pass0 (pa_cons (pv 0) (pa_cons (pe_lst (pa_cons (pv 4) (pa_cons (pv 4) (pa_cons (pv 4) (pa_cons
        (pe_call GH.ok hr2 (by rfl) GH.mg GH.kp GH.bi .nil pass0 (pa_cons (pv 0) (pa_cons (pe_ix ix_tup (pv 1) pe_int (fun _ _ => rfl)) (pa_cons (pv 2) pa_nil)))) pa_nil))))) pa_nil)))))), ?_⟩
    refine ⟨_, rfl, _, rfl, r, 14, rfl, hw, by decide, by decide, fun H1 v n1 v0 v1 => ?_⟩
    refine ⟨v, rfl, by omega, by omega, ?_⟩
    refine for_range (lo := 0) (n := v.toNat) (fun i σ H' => ∃ t y y5, σ = [some (.ref r), some (.ref a), some (.int R), some (.ref b), some (.ref t), y5] ∧ Nxt K r H H' ∧ HsAt H' t y ∧ Valid n R y)
      ⟨b, x, _, rfl, n1, n1.tups hw _ _ hb, vx⟩ (fun i σ H2 hi p => ?_) (fun σ H2 p => ?_)
    · obtain ⟨t, y, y5, rfl, n2, ht, vy⟩ := p
      refine ⟨_, rfl, _, rfl, _, rfl, _, rfl, a, n, L, R, t, y, rfl, ha.keep (n2.tups hw), by have := we.n5; omega, ht, vy.len, fun H3 l ys s3 hl el hys => ?_⟩
      have n3 := n2.then s3
      have hlen : ys.length = (deeds n L R y).length := Paired.length hys
      have hpos := deeds_pos (E := L) (by have := we.n1; omega) r1 vy
      have hle := deeds_len n L R y
      have n5 := we.n5
      refine ⟨r, l, ys, rfl, n3.row, el, n2.row.ne hl, by omega, by omega, fun H4 j z n4 hz => ?_⟩
      obtain ⟨d, hd, t0, t1, t2, rfl, e0, e1, e2⟩ := paired_get hys hz
      have tp := n4.tups n3.row
      refine ⟨t0, _, 1, _, rfl, rfl, SqT.of (tp _ _ e0), atI_nat (j := 1) rfl, ?_⟩
      exact ⟨t2, stepH y d, _, rfl, n3.trans n4, tp _ _ e2, valid_step vy (List.mem_of_getElem? hd)⟩
    · obtain ⟨t, y, y5, rfl, n2, ht, vy⟩ := p
      obtain ⟨e, xs, ha0, he0, hp0⟩ := ha
      have t2 := n2.tups hw
      refine ⟨_, rfl, _, rfl, _, rfl, _, rfl, _, rfl, _, rfl, a, _, 0, _, rfl, rfl, SqT.of (t2 _ _ ha0), atI_nat (j := 0) rfl, _, rfl, r, n, R, rfl, n2.row, by have := we.n5; omega, r1, by omega, fun H3 p3 z n3 hz vz => ?_⟩
      refine ⟨by show 4 ≤ sizeLine; decide, fun l hl => ?_⟩
      have n23 := n2.trans n3
      have s4 := same_upd (o := .lst [.ref t, .ref t, .ref t, .ref p3]) hl
      have n4 := n23.then s4
      refine ⟨r, l, _, rfl, n4.row, upd_same, n23.row.ne hl, by show 0 < 4; decide, by show 4 ≤ 1000; decide, fun H5 j v n5 hv => ?_⟩
      have t5 := n5.tups n4.row
      have ht5 : HsAt H5 t y := t5 _ _ (s4 _ _ (n3.tups n2.row _ _ ht))
      have hz5 : HsAt H5 p3 z := t5 _ _ (s4 _ _ hz)
      have n45 := n4.trans n5
      match j, hv with
      | 0, hv => cases hv; exact q _ t y n45 ht5 vy
      | 1, hv => cases hv; exact q _ t y n45 ht5 vy
      | 2, hv => cases hv; exact q _ t y n45 ht5 vy
      | 3, hv => cases hv; exact q _ p3 z n45 hz5 vz
      | j + 4, hv => simp at hv
/-! ### _law_comes -/
theorem scComes : FnScope ["_law_web", "_law_one", "_law_other", "_law_a", "_law_b", "_law_low", "_law_high"] ["_law_web", "_law_one", "_law_other"] (defScope sComes) := ⟨rfl, rfl, rfl, by decide +kernel, rfl, by decide +kernel, by decide +kernel⟩
theorem ok_comes (F : At K mg "_law_comes" sComes) : Cal P w K mg base "_law_comes" 1 ["_law_web", "_law_one", "_law_other"] spComesIn := by
  refine cal_mk F scComes (fun _ _ _ _ _ _ us hl => match us, hl with | [_, _, _], _ => rfl) (fun vs H Q E h => ?_) fun f cdv A outer s H vs Q E hr h => ?_
  · obtain ⟨_, _, _, _, _, _, _, rfl, _⟩ := h
    rfl
  · obtain ⟨a, n, L, b, x, c, y, rfl, ⟨e, xs, ha, he, hp⟩, we, hb, vx, hc, vy, q⟩ := h
    refine ⟨_, pss_cons (ps_for PassesOwn.never rfl (pi_tup (pe_ix ix_tup (pv 0) pe_int (fun _ _ => rfl)))
        (pg_tup rfl (pgs_cons (pg_name (i := 3) scComes.nd rfl (.inl rfl)) (pgs_cons (pg_name (i := 4) scComes.nd rfl (.inl rfl)) pgs_nil)))
        (pss_cons (ps_asg (pe_ifExp (pt_cmpR op_le (pe_ix ix_tup (pv 2) (pv 3) (fun _ _ => rfl)) (pe_ix ix_tup (pv 2) (pv 4) (fun _ _ => rfl)) (nomark _)) (pe_tup (pa_cons (pv 3) (pa_cons (pv 4) pa_nil))) (pe_tup (pa_cons (pv 4) (pa_cons (pv 3) pa_nil))))
          (pg_tup rfl (pgs_cons (pg_name (i := 5) scComes.nd rfl (.inl rfl)) (pgs_cons (pg_name (i := 6) scComes.nd rfl (.inl rfl)) pgs_nil))))
        (pss_one (ps_if (PW.pt (pw_and (pt_cmpR op_gt (pe_ix ix_tup (pv 2) (pv 6) (fun _ _ => rfl)) (pe_op op_add (pe_ix ix_tup (pv 2) (pv 5) (fun _ _ => rfl)) pe_int) (nomark _))
          (pw_and1 (PW.pt (pw_or (pt_cmpR op_gt (pe_ix ix_tup (pv 1) (pv 5) (fun _ _ => rfl)) (pe_ix ix_tup (pv 2) (pv 5) (fun _ _ => rfl)) (nomark _)) (pw_or1 (pt_cmpR op_lt (pe_ix ix_tup (pv 1) (pv 6) (fun _ _ => rfl)) (pe_ix ix_tup (pv 2) (pv 6) (fun _ _ => rfl)) (nomark _))))))))
          (pss_one (ps_ret pe_bl)) pss_nil))))
      (pss_one (ps_ret pe_bl)), ?_⟩
    refine ⟨_, rfl, a, _, 1, _, rfl, rfl, SqT.of ha, atI_nat (j := 1) rfl, e, rfl, ⟨_, SqT.of he⟩, ?_⟩
    refine for_tup (K := K) (a := e) (xs := xs) (fun i σ H' => ∃ y3 y4 y5 y6, σ = [some (.ref a), some (.ref b), some (.ref c), y3, y4, y5, y6] ∧ Same H H' ∧ Comes (L.take i) x y)
      ⟨_, _, _, _, rfl, Same.refl H, fun p hp => by cases hp⟩ (fun i σ H' _ p => ?_) (fun i z σ H1 hi p => ?_) (fun σ H' p => ?_)
    · obtain ⟨_, _, _, _, _, sm, _⟩ := p
      exact SqT.of (sm _ _ he)
    · obtain ⟨y3, y4, y5, y6, rfl, sm, hco⟩ := p
      obtain ⟨⟨u, v⟩, hL, tz, rfl, htz⟩ := paired_get hp hi
      have hmem : (u, v) ∈ L := List.mem_of_getElem? hL
      have huv : u < v := we.ok.lt _ hmem
      have hvn : v < n := we.ok.bd _ hmem
      have yu : (y.map V.int)[u]? = some (.int (g y u)) := map_get (by omega)
      have yv : (y.map V.int)[v]? = some (.int (g y v)) := map_get (by omega)
      have xu : (x.map V.int)[u]? = some (.int (g x u)) := map_get (by omega)
      have xv : (x.map V.int)[v]? = some (.int (g x v)) := map_get (by omega)
      have hc1 := sm _ _ hc
      have nxt : ((g y u + 2 ≤ g y v → g x u ≤ g y u ∧ g y v ≤ g x v) ∧ (g y v + 2 ≤ g y u → g x v ≤ g y v ∧ g y u ≤ g x u)) → Comes (L.take (i + 1)) x y := fun h p hp => by
        rw [take_snoc hL] at hp
        rcases List.mem_append.mp hp with m | m
        · exact hco p m
        · rw [List.mem_singleton.mp m]
          exact h
      refine ⟨tz, _, rfl, SqT.of (sm _ _ htz), rfl, _, _, rfl, _, _, rfl, rfl, ?_⟩
      refine ⟨_, rfl, _, rfl, c, _, (u : Int), _, rfl, rfl, SqT.of hc1, atI_nat yu, _, rfl, _, rfl, c, _, (v : Int), _, rfl, rfl, SqT.of hc1, atI_nat yv, _, _, rfl, rfl, _, rfl, ?_⟩
      by_cases q0 : g y u ≤ g y v
      · refine iteTT (decide_eq_true q0) ?_
        refine ⟨_, rfl, _, rfl, by show 2 ≤ sizeLine; decide, fun t ht => ⟨t, _, rfl, SqT.of upd_same, rfl, _, _, rfl, _, _, rfl, rfl, ?_⟩⟩
        have s2 := same_upd (o := .tup [nV u, nV v]) ht
        have sm2 := sm.trans s2
        have hx2 := sm2 _ _ hb
        have hy2 := sm2 _ _ hc
        refine ⟨_, rfl, _, rfl, c, _, (v : Int), _, rfl, rfl, SqT.of hy2, atI_nat yv, _, rfl, _, rfl, c, _, (u : Int), _, rfl, rfl, SqT.of hy2, atI_nat yu, _, _, rfl, rfl, _, _, rfl, rfl, _, rfl, ?_⟩
        by_cases q1 : g y u + 1 < g y v
        · refine iteTT (decide_eq_true q1) ?_
          refine ⟨_, rfl, _, rfl, b, _, (u : Int), _, rfl, rfl, SqT.of hx2, atI_nat xu, _, rfl, _, rfl, c, _, (u : Int), _, rfl, rfl, SqT.of hy2, atI_nat yu, _, _, rfl, rfl, _, rfl, ?_⟩
          by_cases q2 : g y u < g x u
          · refine iteTT (decide_eq_true q2) (iteT ?_)
            exact q _ false sm2 ⟨fun z => absurd z Bool.false_ne_true, fun z => by
              have := z _ hmem
              simp only [] at this
              omega⟩
          · refine iteFF (decide_eq_false q2) ?_
            refine ⟨_, rfl, _, rfl, b, _, (v : Int), _, rfl, rfl, SqT.of hx2, atI_nat xv, _, rfl, _, rfl, c, _, (v : Int), _, rfl, rfl, SqT.of hy2, atI_nat yv, _, _, rfl, rfl, _, rfl, ?_⟩
            by_cases q3 : g x v < g y v
            · refine iteTT (decide_eq_true q3) ?_
              exact q _ false sm2 ⟨fun z => absurd z Bool.false_ne_true, fun z => by
                have := z _ hmem
                simp only [] at this
                omega⟩
            · refine iteFF (decide_eq_false q3) ?_
              exact ⟨_, _, _, _, rfl, sm2, nxt (by omega)⟩
        · refine iteFF (decide_eq_false q1) (iteF ?_)
          exact ⟨_, _, _, _, rfl, sm2, nxt (by omega)⟩
      · refine iteFF (decide_eq_false q0) ?_
        refine ⟨_, rfl, _, rfl, by show 2 ≤ sizeLine; decide, fun t ht => ⟨t, _, rfl, SqT.of upd_same, rfl, _, _, rfl, _, _, rfl, rfl, ?_⟩⟩
        have s2 := same_upd (o := .tup [nV v, nV u]) ht
        have sm2 := sm.trans s2
        have hx2 := sm2 _ _ hb
        have hy2 := sm2 _ _ hc
        refine ⟨_, rfl, _, rfl, c, _, (u : Int), _, rfl, rfl, SqT.of hy2, atI_nat yu, _, rfl, _, rfl, c, _, (v : Int), _, rfl, rfl, SqT.of hy2, atI_nat yv, _, _, rfl, rfl, _, _, rfl, rfl, _, rfl, ?_⟩
        by_cases q1 : g y v + 1 < g y u
        · refine iteTT (decide_eq_true q1) ?_
          refine ⟨_, rfl, _, rfl, b, _, (v : Int), _, rfl, rfl, SqT.of hx2, atI_nat xv, _, rfl, _, rfl, c, _, (v : Int), _, rfl, rfl, SqT.of hy2, atI_nat yv, _, _, rfl, rfl, _, rfl, ?_⟩
          by_cases q2 : g y v < g x v
          · refine iteTT (decide_eq_true q2) (iteT ?_)
            exact q _ false sm2 ⟨fun z => absurd z Bool.false_ne_true, fun z => by
              have := z _ hmem
              simp only [] at this
              omega⟩
          · refine iteFF (decide_eq_false q2) ?_
            refine ⟨_, rfl, _, rfl, b, _, (u : Int), _, rfl, rfl, SqT.of hx2, atI_nat xu, _, rfl, _, rfl, c, _, (u : Int), _, rfl, rfl, SqT.of hy2, atI_nat yu, _, _, rfl, rfl, _, rfl, ?_⟩
            by_cases q3 : g x u < g y u
            · refine iteTT (decide_eq_true q3) ?_
              exact q _ false sm2 ⟨fun z => absurd z Bool.false_ne_true, fun z => by
                have := z _ hmem
                simp only [] at this
                omega⟩
            · refine iteFF (decide_eq_false q3) ?_
              exact ⟨_, _, _, _, rfl, sm2, nxt (by omega)⟩
        · refine iteFF (decide_eq_false q1) (iteF ?_)
          exact ⟨_, _, _, _, rfl, sm2, nxt (by omega)⟩
    · obtain ⟨_, _, _, _, rfl, sm, hco⟩ := p
      rw [Paired.length hp, List.take_length] at hco
      exact q _ true sm ⟨fun _ => hco, fun _ => rfl⟩
/-! ### _law_off -/
theorem scOff : FnScope ["_law_one", "_law_other", "_law_k"] ["_law_one", "_law_other"] (defScope sOff) := ⟨rfl, rfl, rfl, by decide +kernel, rfl, by decide +kernel, by decide +kernel⟩
theorem ok_off (F : At K mg "_law_off" sOff) (T : Free mg) : Cal P w K mg base "_law_off" 1 ["_law_one", "_law_other"] spStepsIn := by
  refine cal_mk F scOff (fun _ _ _ _ _ _ us hl => match us, hl with | [_, _], _ => rfl) (fun vs H Q E h => ?_) fun f cdv A outer s H vs Q E hr h => ?_
  · obtain ⟨_, _, _, _, rfl, _⟩ := h
    rfl
  · obtain ⟨b, x, c, y, rfl, hb, hc, hl, hx, q⟩ := h
    refine ⟨_, pss_one (ps_ret (pe_callB (cr_sum rfl) (by rfl) T.sum bt_sum (pa_cons
      (pe_lc (own := [("_law_k", 2)]) (g := gName 2) (tt := tYes) (by rfl) scOff.nd (pi_range1 (by rfl) T.rng (pa_cons (pe_callB call_len_seq (by rfl) T.len bt_len (pa_cons (pv 0) pa_nil)) pa_nil))
        (blkOk_by (own := [("_law_k", 2)]) (N := ["_law_one", "_law_other", "_law_k"]) (sc := defScope sOff) (by decide +kernel))
        (fun _ _ _ _ _ => pg_name (i := 2) scOff.nd rfl (Or.inl rfl))
        (fun _ _ _ _ _ => pts_nil)
        (fun _ _ _ _ _ => pe_op op_sub (pe_callB (call_max2 rfl) (by rfl) T.max bt_max (pa_cons (pe_ix (ixK (K := K)) (pv 0) (pv 2) (fun _ _ => rfl)) (pa_cons (pe_ix (ixK (K := K)) (pv 1) (pv 2) (fun _ _ => rfl)) pa_nil)))
          (pe_callB (call_min2 rfl) (by rfl) T.min bt_min (pa_cons (pe_ix (ixK (K := K)) (pv 0) (pv 2) (fun _ _ => rfl)) (pa_cons (pe_ix (ixK (K := K)) (pv 1) (pv 2) (fun _ _ => rfl)) pa_nil)))))
      pa_nil))), ?_⟩
    refine ⟨_, rfl, b, _, rfl, .inr (SqT.of hb), _, rfl, by omega, by rw [List.length_map]; omega, fun D hD => ?_⟩
    refine lc_range (lo := 0) (n := (((x.map V.int).length : Int) - 0).toNat) (fun i H' => Same H H' ∧ H' D = some (.lst (((List.range i).map fun k => absd (g x k) (g y k)).map V.int))) ⟨same_upd hD, upd_same⟩ (fun i H1 hi p => ?_) (fun H' p => ?_)
    · obtain ⟨sm, hacc⟩ := p
      rw [List.length_map] at hi
      have hin : i < x.length := by omega
      have gx : (x.map V.int)[i]? = some (.int (g x i)) := map_get hin
      have gy : (y.map V.int)[i]? = some (.int (g y i)) := map_get (by omega)
      have e0 : (0 : Int) + (i : Int) = (i : Int) := by omega
      rw [e0]
      have hb1 := sm _ _ hb
      have hc1 := sm _ _ hc
      refine ⟨rfl, ?_⟩
      refine ⟨_, rfl, _, rfl, b, _, (i : Int), _, rfl, rfl, SqT.of hb1, atI_nat gx, _, rfl, _, rfl, c, _, (i : Int), _, rfl, rfl, SqT.of hc1, atI_nat gy, _, _, rfl, _, rfl, _, rfl, b, _, (i : Int), _, rfl, rfl, SqT.of hb1, atI_nat gx, _, rfl, _, rfl, c, _, (i : Int), _, rfl, rfl, SqT.of hc1, atI_nat gy, _, _, rfl, _, _, rfl, rfl, ?_⟩
      refine ⟨_, hacc, line_small (by rw [List.length_map, List.length_map, List.length_range]; omega), same_upd2 sm hD, ?_⟩
      rw [upd_same, List.range_succ, List.map_append, List.map_append]
      have ea : absd (g x i) (g y i) = (if g y i > g x i then g y i else g x i) - (if g y i < g x i then g y i else g x i) := by
        unfold absd
        repeat' split
        all_goals omega
      dsimp only
      rw [← ea]
      rfl
    · obtain ⟨sm, hacc⟩ := p
      have en : (((x.map V.int).length : Int) - 0).toNat = x.length := by
        rw [List.length_map]
        omega
      rw [en] at hacc
      exact ⟨D, _, rfl, SqL.of hacc, q _ sm⟩
/-! ### _law_steep -/
theorem steepA_len (E : Edges) (x : List Int) : (steepA E x).length ≤ E.length := List.length_filter_le _ _
theorem steepB_len (E : Edges) (x : List Int) : (steepB E x).length ≤ E.length := by
  unfold steepB
  rw [List.length_map]
  exact List.length_filter_le _ _
theorem steepA_snoc (E : Edges) (p : Nat × Nat) (x : List Int) : steepA (E ++ [p]) x = steepA E x ++ (if g x p.1 + 1 < g x p.2 then [(p.1, p.2)] else []) := by
  unfold steepA
  rw [List.filter_append]
  congr 1
  by_cases h : g x p.1 + 1 < g x p.2 <;> simp [h]
theorem steepB_snoc (E : Edges) (p : Nat × Nat) (x : List Int) : steepB (E ++ [p]) x = steepB E x ++ (if g x p.2 + 1 < g x p.1 then [(p.2, p.1)] else []) := by
  unfold steepB
  rw [List.filter_append, List.map_append]
  congr 1
  by_cases h : g x p.2 + 1 < g x p.1 <;> simp [h]
theorem scSteep : FnScope ["_law_web", "_law_heights_here", "_law_found", "_law_a", "_law_b"] ["_law_web", "_law_heights_here"] (defScope sSteep) := ⟨rfl, rfl, rfl, by decide +kernel, rfl, by decide +kernel, by decide +kernel⟩
theorem ok_steep (F : At K mg "_law_steep" sSteep) (T : Free mg) : Cal P w K mg base "_law_steep" 1 ["_law_web", "_law_heights_here"] spSteepIn := by
  refine cal_mk F scSteep (fun _ _ _ _ _ _ us hl => match us, hl with | [_, _], _ => rfl) (fun vs H Q E h => ?_) fun f cdv A outer s H vs Q E hr h => ?_
  · obtain ⟨_, _, _, _, _, rfl, _⟩ := h
    rfl
  · obtain ⟨a, n, L, b, x, rfl, ⟨e, xs, ha, heD, hpD⟩, we, hbD, hx, q⟩ := h
    refine ⟨_, pss_cons (ps_setLc (i := 2) (own := [("_law_a", 3), ("_law_b", 4)]) (g := gTup K 2 (gCons (gName 3) (gCons (gName 4) gNil))) (by rfl) scSteep.nd rfl rfl (sw_true rfl rfl rfl (by decide +kernel)) (pi_tup (pe_ix ix_tup (pv 0) pe_int (fun _ _ => rfl)))
        (blkOk_by (own := [("_law_a", 3), ("_law_b", 4)]) (N := ["_law_web", "_law_heights_here", "_law_found", "_law_a", "_law_b"]) (sc := defScope sSteep) (by decide +kernel))
        (fun _ _ _ _ _ => pg_tup (by rfl) (pgs_cons (pg_name (i := 3) scSteep.nd rfl (Or.inl rfl)) (pgs_cons (pg_name (i := 4) scSteep.nd rfl (Or.inl rfl)) pgs_nil)))
        (fun _ _ _ _ _ => pts_one (pt_cmpR op_gt (pe_ix (ixK (K := K)) (pv 1) (pv 4) (fun _ _ => rfl)) (pe_op op_add (pe_ix (ixK (K := K)) (pv 1) (pv 3) (fun _ _ => rfl)) pe_int) (nomark _)))
        (fun _ _ _ _ _ => pe_tup (pa_cons (pv 3) (pa_cons (pv 4) pa_nil))))
      (pss_one (ps_ret (pe_callB (cr_sortT (d := 2) (B := 64) (by decide)) (by rfl) T.srt bt_sorted (pa_cons (pe_op op_cat (pv 2)
        (pe_lc (own := [("_law_a", 3), ("_law_b", 4)]) (g := gTup K 2 (gCons (gName 3) (gCons (gName 4) gNil))) (by rfl) scSteep.nd (pi_tup (pe_ix ix_tup (pv 0) pe_int (fun _ _ => rfl)))
        (blkOk_by (own := [("_law_a", 3), ("_law_b", 4)]) (N := ["_law_web", "_law_heights_here", "_law_found", "_law_a", "_law_b"]) (sc := defScope sSteep) (by decide +kernel))
        (fun _ _ _ _ _ => pg_tup (by rfl) (pgs_cons (pg_name (i := 3) scSteep.nd rfl (Or.inl rfl)) (pgs_cons (pg_name (i := 4) scSteep.nd rfl (Or.inl rfl)) pgs_nil)))
        (fun _ _ _ _ _ => pts_one (pt_cmpR op_gt (pe_ix (ixK (K := K)) (pv 1) (pv 3) (fun _ _ => rfl)) (pe_op op_add (pe_ix (ixK (K := K)) (pv 1) (pv 4) (fun _ _ => rfl)) pe_int) (nomark _)))
        (fun _ _ _ _ _ => pe_tup (pa_cons (pv 4) (pa_cons (pv 3) pa_nil))))) pa_nil)))), ?_⟩
    refine ⟨_, rfl, a, _, 1, _, rfl, rfl, SqT.of ha, atI_nat (j := 1) rfl, e, rfl, ⟨_, SqT.of heD⟩, fun D hD => ?_⟩
    refine lc_tup (K := K) (a := e) (xs := xs) (fun i H' => Same H H' ∧ ∃ acc, H' D = some (.lst acc) ∧ PsAt H' acc (steepA (L.take i) x)) ⟨same_upd hD, [], upd_same, .nil⟩ (fun i H' _ p => SqT.of (p.1 _ _ heD)) (fun i z H2 hi p => ?_) (fun H2 p => ?_)
    · obtain ⟨sm, acc, hacc, hps⟩ := p
      obtain ⟨⟨u, v⟩, hL, tz, rfl, htz⟩ := paired_get hpD hi
      have hmem : (u, v) ∈ L := List.mem_of_getElem? hL
      have huv : u < v := we.ok.lt _ hmem
      have hvn : v < n := we.ok.bd _ hmem
      have xu : (x.map V.int)[u]? = some (.int (g x u)) := map_get (by omega)
      have xv : (x.map V.int)[v]? = some (.int (g x v)) := map_get (by omega)
      have hb2 := sm _ _ hbD
      have hlen : acc.length ≤ 100000 := by
        rw [Paired.length hps]
        have h1 := steepA_len (L.take i) x
        have h2 := we.e64
        rw [List.length_take] at h1
        omega
      refine ⟨tz, _, rfl, SqT.of (sm _ _ htz), rfl, _, _, rfl, _, _, rfl, rfl, rfl, ?_⟩
      refine ⟨_, rfl, _, rfl, b, _, (v : Int), _, rfl, rfl, SqT.of hb2, atI_nat xv, _, rfl, _, rfl, b, _, (u : Int), _, rfl, rfl, SqT.of hb2, atI_nat xu, _, _, rfl, rfl, _, _, rfl, rfl, _, rfl, ?_⟩
      by_cases q1 : g x u + 1 < g x v
      · refine iteTT (decide_eq_true q1) ?_
        refine ⟨_, rfl, _, rfl, by show 2 ≤ sizeLine; decide, fun t ht => ?_⟩
        have s3 := same_upd (o := .tup [nV u, nV v]) ht
        have e3 := s3 _ _ hacc
        refine ⟨acc, e3, line_small hlen, same_upd2 (sm.trans s3) hD, _, upd_same, ?_⟩
        have t4 := (Tups.of s3).trans (Tups.lst (o := .lst (acc ++ [.ref t])) e3)
        rw [take_snoc hL, steepA_snoc, if_pos q1]
        exact paired_append (PsAt.keep hps t4) (.cons ⟨t, rfl, Tups.lst e3 _ _ upd_same⟩ .nil)
      · refine iteFF (decide_eq_false q1) ?_
        refine ⟨sm, acc, hacc, ?_⟩
        rw [take_snoc hL, steepA_snoc, if_neg q1, List.append_nil]
        exact hps
    · obtain ⟨sm, acc, hacc, hps⟩ := p
      rw [Paired.length hpD, List.take_length] at hps
      obtain ⟨zs, hzs, hpA⟩ : ∃ zs, H2 D = some (.lst zs) ∧ PsAt H2 zs (steepA L x) := ⟨acc, hacc, hps⟩
      have heC := sm _ _ heD
      have hbC := sm _ _ hbD
      have hpC : PsAt H2 xs L := PsAt.keep hpD (Tups.of sm)
      refine ⟨_, rfl, _, rfl, a, _, 1, _, rfl, rfl, SqT.of (sm _ _ ha), atI_nat (j := 1) rfl, e, rfl, ⟨_, SqT.of heC⟩, fun C hC => ?_⟩
      have sm1 := sm
      clear hacc hps acc sm
      generalize H2 = H1 at *
      refine lc_tup (K := K) (a := e) (xs := xs) (fun i H' => Same H1 H' ∧ ∃ acc, H' C = some (.lst acc) ∧ PsAt H' acc (steepB (L.take i) x)) ⟨same_upd hC, [], upd_same, .nil⟩ (fun i H' _ p => SqT.of (p.1 _ _ heC)) (fun i z H2 hi p => ?_) (fun H2 p => ?_)
      · obtain ⟨sm, acc, hacc, hps⟩ := p
        obtain ⟨⟨u, v⟩, hL, tz, rfl, htz⟩ := paired_get hpC hi
        have hmem : (u, v) ∈ L := List.mem_of_getElem? hL
        have huv : u < v := we.ok.lt _ hmem
        have hvn : v < n := we.ok.bd _ hmem
        have xu : (x.map V.int)[u]? = some (.int (g x u)) := map_get (by omega)
        have xv : (x.map V.int)[v]? = some (.int (g x v)) := map_get (by omega)
        have hb2 := sm _ _ hbC
        have hlen : acc.length ≤ 100000 := by
          rw [Paired.length hps]
          have h1 := steepB_len (L.take i) x
          have h2 := we.e64
          rw [List.length_take] at h1
          omega
        refine ⟨tz, _, rfl, SqT.of (sm _ _ htz), rfl, _, _, rfl, _, _, rfl, rfl, rfl, ?_⟩
        refine ⟨_, rfl, _, rfl, b, _, (u : Int), _, rfl, rfl, SqT.of hb2, atI_nat xu, _, rfl, _, rfl, b, _, (v : Int), _, rfl, rfl, SqT.of hb2, atI_nat xv, _, _, rfl, rfl, _, _, rfl, rfl, _, rfl, ?_⟩
        by_cases q1 : g x v + 1 < g x u
        · refine iteTT (decide_eq_true q1) ?_
          refine ⟨_, rfl, _, rfl, by show 2 ≤ sizeLine; decide, fun t ht => ?_⟩
          have s3 := same_upd (o := .tup [nV v, nV u]) ht
          have e3 := s3 _ _ hacc
          refine ⟨acc, e3, line_small hlen, same_upd2 (sm.trans s3) hC, _, upd_same, ?_⟩
          have t4 := (Tups.of s3).trans (Tups.lst (o := .lst (acc ++ [.ref t])) e3)
          rw [take_snoc hL, steepB_snoc, if_pos q1]
          exact paired_append (PsAt.keep hps t4) (.cons ⟨t, rfl, Tups.lst e3 _ _ upd_same⟩ .nil)
        · refine iteFF (decide_eq_false q1) ?_
          refine ⟨sm, acc, hacc, ?_⟩
          rw [take_snoc hL, steepB_snoc, if_neg q1, List.append_nil]
          exact hps
      · obtain ⟨sm, acc, hacc, hps⟩ := p
        rw [Paired.length hpC, List.take_length] at hps
        have hlenA : zs.length ≤ 100000 := by
          rw [Paired.length hpA]
          have h1 := steepA_len L x
          have h2 := we.e64
          omega
        have hlenB : acc.length ≤ 100000 := by
          rw [Paired.length hps]
          have h1 := steepB_len L x
          have h2 := we.e64
          omega
        refine ⟨D, C, zs, acc, rfl, rfl, sm _ _ hzs, hacc, line_small' (by
          have h1 := Paired.length hpA
          have h2 := Paired.length hps
          have h3 := steepA_len L x
          have h4 := steepB_len L x
          have h5 := we.e64
          omega), fun S hS => ?_⟩
        have s5 := same_upd (o := .lst (zs ++ acc)) hS
        have hall := paired_append (PsAt.keep hpA (Tups.of (sm.trans s5))) (PsAt.keep hps (Tups.of s5))
        have b64 : ∀ p ∈ steepA L x ++ steepB L x, p.1 < 64 ∧ p.2 < 64 := fun p hp => we.steep64 x p ((steepAB L x).mem_iff.mp hp)
        refine ⟨S, zs ++ acc, rfl, SqL.of upd_same, ?_, ps_tupI hall b64, fun ys p pm pw hpn => ?_⟩
        · rw [List.length_append, Paired.length hpA, Paired.length hps, ← List.length_append, (steepAB L x).length_eq]
          exact Nat.lt_of_le_of_lt (steepL_len L x) we.e64
        · have e6 : sortP (steepA L x ++ steepB L x) = sortP (steepL L x) := sortP_congr (steepAB L x) fun p hp => (we.steep64 x p hp).2
          have h7 := ps_sorted hall (fun p hp => (b64 p hp).2) pm pw
          rw [e6] at h7
          have s8 := same_upd (o := .lst ys) hpn
          exact q _ p ys (((sm1.trans sm).trans s5).trans s8) ((((sm1.trans sm).trans s5)).free hpn) upd_same (PsAt.keep h7 (Tups.of s8))
end
end Lev
set_option Elab.async false
set_option linter.all false
set_option maxRecDepth 100000
set_option maxHeartbeats 4000000
namespace Lev
open PySem PySem.Spec PyProof.Rows L2
section
variable {K : PySem.W.Frag}
theorem k_any_tup : PySem.W.kitAny K (.type "tuple") [.type "tuple", .type "list"] = some true := kitAny_cons (b := true) (kit_ty (by decide +kernel)) (fun z => by cases z) fun _ => rfl
theorem k_any_int : PySem.W.kitAny K (.type "int") [.type "tuple", .type "list"] = some false := kitAny_cons (b := false) (kit_ty (by decide +kernel)) (fun _ => kitAny_cons (b := false) (kit_ty (by decide +kernel)) (fun _ => kitAny_nil) fun z => by cases z) fun z => by cases z
theorem k_any_bool : PySem.W.kitAny K (.type "bool") [.type "tuple", .type "list"] = some false := kitAny_cons (b := false) (kit_ty (by decide +kernel)) (fun _ => kitAny_cons (b := false) (kit_ty (by decide +kernel)) (fun _ => kitAny_nil) fun z => by cases z) fun z => by cases z
theorem k_any_non : PySem.W.kitAny K (.type "NoneType") [.type "tuple", .type "list"] = some false := kitAny_cons (b := false) (kit_ty (by decide +kernel)) (fun _ => kitAny_cons (b := false) (kit_ty (by decide +kernel)) (fun _ => kitAny_nil) fun z => by cases z) fun z => by cases z
theorem k_tup_lst : PySem.W.kitOne K (.type "tuple") (.type "list") = some false := kit_ty (by decide +kernel)
theorem k_int_str : PySem.W.kitOne K (.type "int") (.type "str") = some false := kit_ty (by decide +kernel)
theorem k_bool_str : PySem.W.kitOne K (.type "bool") (.type "str") = some false := kit_ty (by decide +kernel)
theorem k_non_str : PySem.W.kitOne K (.type "NoneType") (.type "str") = some false := kit_ty (by decide +kernel)
theorem k_bool_int : PySem.W.kitOne K (.type "bool") (.type "int") = some true := kit_ty (by decide +kernel)
theorem k_bool_bool : PySem.W.kitOne K (.type "bool") (.type "bool") = some true := kit_ty (by decide +kernel)
end
section
variable {P : Program} {w : World} {K : PySem.W.Frag} {mg : Str → Option Value} {base : Heap}
/-! ### _law_alike -/
theorem scAlike : FnScope ["_law_found", "_law_due", "_law_k"] ["_law_found", "_law_due"] (defScope sAlike) := ⟨rfl, rfl, rfl, by decide +kernel, rfl, by decide +kernel, by decide +kernel⟩
/-- two equal plain things -/
def spAlike0 : Sp := fun vs H Q _ => ∃ v : V, vs = [v, v] ∧ ((∃ i, v = .int i) ∨ (∃ b, v = .bl b) ∨ v = .non) ∧ ∀ H', Same H H' → Q (.bl true) H'
/-- two tuples whose items are alike -/
def spAlikeT (sp : Sp) : Sp := fun vs H Q _ => ∃ (s t : Addr) (xs ys : List V), vs = [.ref s, .ref t] ∧ H s = some (.tup xs) ∧ H t = some (.tup ys) ∧ xs.length = ys.length ∧ xs.length ≤ 1000 ∧
  (∀ (i : Nat) (x y : V), xs[i]? = some x → ys[i]? = some y → ∀ (H' : Hp) (Q' : VK), Same H H' → (∀ H'', Same H' H'' → Q' (.bl true) H'') → sp [x, y] H' Q' E0) ∧ ∀ H', Same H H' → Q (.bl true) H'
theorem ok_alike0 (F : At K mg "_law_alike" sAlike) (T : Free mg) : Cal P w K mg base "_law_alike" 1 ["_law_found", "_law_due"] spAlike0 := by
  refine cal_mk F scAlike (fun _ _ _ _ _ _ us hl => match us, hl with | [_, _], _ => rfl) (fun vs H Q E h => ?_) fun f cdv A outer s H vs Q E hr h => ?_
  · obtain ⟨_, rfl, _⟩ := h
    rfl
  · obtain ⟨v, rfl, hv, q⟩ := h
    refine ⟨_, pss_cons (ps_if (pt_val (pe_callB call_isiT (by rfl) T.isi bt_isinstance (pa_cons (pv 1) (pa_cons (pe_tup (pa_cons (pe_bltn (v := .ty "tuple") (by rfl) T.tup bt_tuple rfl) (pa_cons (pe_bltn (v := .ty "list") (by rfl) T.lst bt_list rfl) pa_nil))) pa_nil)))) pss_never pss_nil)
      (pss_cons (ps_if (PW.pt (pw_or (pt_cmpR op_isN (pv 1) pe_non (nomark _)) (pw_or1 (pt_val (pe_callB call_isi (by rfl) T.isi bt_isinstance (pa_cons (pv 1) (pa_cons (pe_bltn (v := .ty "str") (by rfl) T.str bt_str rfl) pa_nil)))))))
        (pss_one (ps_ret (pe_and (pe_cmpR op_eq (pv 0) (pv 1) (nomark _)) (pe_one (pe_cmpR op_eq
          (pe_callB call_isi (by rfl) T.isi bt_isinstance (pa_cons (pv 0) (pa_cons (pe_bltn (v := .ty "str") (by rfl) T.str bt_str rfl) pa_nil)))
          (pe_callB call_isi (by rfl) T.isi bt_isinstance (pa_cons (pv 1) (pa_cons (pe_bltn (v := .ty "str") (by rfl) T.str bt_str rfl) pa_nil))) (nomark _)))))) pss_nil)
      (pss_one (ps_ret (pe_and (pe_callB call_isi (by rfl) T.isi bt_isinstance (pa_cons (pv 0) (pa_cons (pe_bltn (v := .ty "int") (by rfl) T.int bt_int rfl) pa_nil)))
        (pe_and (pe_cmpR op_eq
          (pe_callB call_isi (by rfl) T.isi bt_isinstance (pa_cons (pv 0) (pa_cons (pe_bltn (v := .ty "bool") (by rfl) T.bool bt_bool rfl) pa_nil)))
          (pe_callB call_isi (by rfl) T.isi bt_isinstance (pa_cons (pv 1) (pa_cons (pe_bltn (v := .ty "bool") (by rfl) T.bool bt_bool rfl) pa_nil))) (nomark _))
          (pe_one (pe_cmpR op_eq (pv 0) (pv 1) (nomark _)))))))), ?_⟩
    rcases hv with ⟨i, rfl⟩ | ⟨b, rfl⟩ | rfl
    · refine ⟨_, rfl, by show 2 ≤ sizeLine; decide, fun p hp => ⟨_, p, _, _, _, _, rfl, upd_same, .cons (.ty _) (.cons (.ty _) .nil), .base (.int _), k_any_int, _, rfl, iteF ?_⟩⟩
      have s1 := same_upd (o := .tup [.ty "tuple", .ty "list"]) hp
      refine ⟨_, rfl, rfl, _, rfl, iteFF (by rfl) ?_⟩
      refine ⟨_, rfl, _, _, _, _, _, rfl, .ty _, .base (.int _), k_int_str, _, rfl, iteF ?_⟩
      refine ⟨_, rfl, _, _, _, _, _, rfl, .ty _, .base (.int _), k_int_int, _, rfl, iteT ?_⟩
      refine ⟨_, rfl, _, _, _, _, _, rfl, .ty _, .base (.int _), k_int_bool, _, rfl, _, _, _, _, _, rfl, .ty _, .base (.int _), k_int_bool, rfl, _, rfl, iteTT (by decide) ?_⟩
      refine ⟨_, rfl, _, rfl, rfl, ?_⟩
      show Q (.bl (decide (V.int i = V.int i))) _
      rw [decide_eq_true rfl]
      exact q _ s1
    · refine ⟨_, rfl, by show 2 ≤ sizeLine; decide, fun p hp => ⟨_, p, _, _, _, _, rfl, upd_same, .cons (.ty _) (.cons (.ty _) .nil), .base (.bl _), k_any_bool, _, rfl, iteF ?_⟩⟩
      have s1 := same_upd (o := .tup [.ty "tuple", .ty "list"]) hp
      refine ⟨_, rfl, rfl, _, rfl, iteFF (by rfl) ?_⟩
      refine ⟨_, rfl, _, _, _, _, _, rfl, .ty _, .base (.bl _), k_bool_str, _, rfl, iteF ?_⟩
      refine ⟨_, rfl, _, _, _, _, _, rfl, .ty _, .base (.bl _), k_bool_int, _, rfl, iteT ?_⟩
      refine ⟨_, rfl, _, _, _, _, _, rfl, .ty _, .base (.bl _), k_bool_bool, _, rfl, _, _, _, _, _, rfl, .ty _, .base (.bl _), k_bool_bool, rfl, _, rfl, iteTT (by decide) ?_⟩
      refine ⟨_, rfl, _, rfl, rfl, ?_⟩
      show Q (.bl (decide (V.bl b = V.bl b))) _
      rw [decide_eq_true rfl]
      exact q _ s1
    · refine ⟨_, rfl, by show 2 ≤ sizeLine; decide, fun p hp => ⟨_, p, _, _, _, _, rfl, upd_same, .cons (.ty _) (.cons (.ty _) .nil), .base .non, k_any_non, _, rfl, iteF ?_⟩⟩
      have s1 := same_upd (o := .tup [.ty "tuple", .ty "list"]) hp
      refine ⟨_, rfl, rfl, _, rfl, iteTT (by decide) (iteT ?_)⟩
      refine ⟨_, rfl, _, rfl, rfl, _, rfl, iteTT (by decide) ?_⟩
      refine ⟨_, rfl, _, _, _, _, _, rfl, .ty _, .base .non, k_non_str, _, rfl, _, _, _, _, _, rfl, .ty _, .base .non, k_non_str, rfl, ?_⟩
      exact q _ s1
theorem ok_alikeT {k : Nat} {sp : Sp} (F : At K mg "_law_alike" sAlike) (T : Free mg) (G : Cal P w K mg base "_law_alike" k ["_law_found", "_law_due"] sp) : Cal P w K mg base "_law_alike" (k + 1) ["_law_found", "_law_due"] (spAlikeT sp) := by
  obtain ⟨fG, fdG, G⟩ := G
  refine cal_mk F scAlike (fun _ _ _ _ _ _ us hl => match us, hl with | [_, _], _ => rfl) (fun vs H Q E h => ?_) fun f cdv A outer s H vs Q E hr h => ?_
  · obtain ⟨_, _, _, _, rfl, _⟩ := h
    rfl
  · obtain ⟨s0, t0, xs, ys, rfl, hs, ht, hlen, h1000, it, q⟩ := h
    refine ⟨_, pss_cons (ps_if (pt_val (pe_callB call_isiT (by rfl) T.isi bt_isinstance (pa_cons (pv 1) (pa_cons (pe_tup (pa_cons (pe_bltn (v := .ty "tuple") (by rfl) T.tup bt_tuple rfl) (pa_cons (pe_bltn (v := .ty "list") (by rfl) T.lst bt_list rfl) pa_nil))) pa_nil))))
        (pss_cons (ps_if (PW.pt (pw_or (pt_not (pt_val (pe_callB call_isiT (by rfl) T.isi bt_isinstance (pa_cons (pv 0) (pa_cons (pe_tup (pa_cons (pe_bltn (v := .ty "tuple") (by rfl) T.tup bt_tuple rfl) (pa_cons (pe_bltn (v := .ty "list") (by rfl) T.lst bt_list rfl) pa_nil))) pa_nil)))))
            (pw_or1 (pt_cmpR op_ne (pe_callB call_isi (by rfl) T.isi bt_isinstance (pa_cons (pv 0) (pa_cons (pe_bltn (v := .ty "list") (by rfl) T.lst bt_list rfl) pa_nil)))
              (pe_callB call_isi (by rfl) T.isi bt_isinstance (pa_cons (pv 1) (pa_cons (pe_bltn (v := .ty "list") (by rfl) T.lst bt_list rfl) pa_nil))) (nomark _))))) (pss_one ps_never) pss_nil)
        (pss_cons (ps_if (pt_cmpR op_ne (pe_callB call_len_seq (by rfl) T.len bt_len (pa_cons (pv 0) pa_nil)) (pe_callB call_len_seq (by rfl) T.len bt_len (pa_cons (pv 1) pa_nil)) (nomark _)) (pss_one ps_never) pss_nil)
        (pss_one (ps_ret (pe_cmpR (op_eqD hr.units)
          (pe_lc (own := [("_law_k", 2)]) (g := gName 2) (by rfl) scAlike.nd (pi_range1 (by rfl) T.rng (pa_cons (pe_callB call_len_seq (by rfl) T.len bt_len (pa_cons (pv 1) pa_nil)) pa_nil))
            (blkOk_by (own := [("_law_k", 2)]) (N := ["_law_found", "_law_due", "_law_k"]) (sc := defScope sAlike) (by decide +kernel))
            (fun _ _ _ _ _ => pg_name (i := 2) scAlike.nd rfl (Or.inl rfl))
            (fun _ _ _ _ _ => pts_one (pt_not (pt_val (pe_call G.ok hr (by rfl) G.mg G.kp G.bi .nil pass0 (pa_cons (pe_ix (ixK (K := K)) (pv 0) (pv 2) (fun _ _ => rfl)) (pa_cons (pe_ix (ixK (K := K)) (pv 1) (pv 2) (fun _ _ => rfl)) pa_nil))))))
            (fun _ _ _ _ _ => pv 2))
          (pe_lst pa_nil) (nomark _)))))) pss_nil) pss_never, ?_⟩
    refine ⟨_, rfl, by show 2 ≤ sizeLine; decide, fun p hp => ⟨_, p, _, _, _, _, rfl, upd_same, .cons (.ty _) (.cons (.ty _) .nil), .base (.tup (same_upd hp _ _ ht)), k_any_tup, _, rfl, iteT ?_⟩⟩
    have s1 := same_upd (o := .tup [.ty "tuple", .ty "list"]) hp
    refine ⟨_, rfl, by show 2 ≤ sizeLine; decide, fun p2 hp2 => ⟨_, p2, _, _, _, _, rfl, upd_same, .cons (.ty _) (.cons (.ty _) .nil), .base (.tup (same_upd hp2 _ _ (s1 _ _ hs))), k_any_tup, _, rfl, iteF ?_⟩⟩
    have s2 := s1.trans (same_upd (o := .tup [.ty "tuple", .ty "list"]) hp2)
    have hs2 := s2 _ _ hs
    have ht2 := s2 _ _ ht
    refine ⟨_, rfl, _, _, _, _, _, rfl, .ty _, .base (.tup hs2), k_tup_lst, _, rfl, _, _, _, _, _, rfl, .ty _, .base (.tup ht2), k_tup_lst, rfl, _, rfl, iteNS rfl ?_⟩
    refine ⟨_, rfl, _, _, rfl, .inr (SqT.of hs2), _, rfl, _, _, rfl, .inr (SqT.of ht2), rfl, _, rfl, iteNS (by rw [hlen]) ?_⟩
    refine ⟨_, rfl, _, _, rfl, .inr (SqT.of ht2), (ys.length : Int), rfl, by omega, by omega, fun D hD => ?_⟩
    generalize hH2 : upd (upd H p (.tup [.ty "tuple", .ty "list"])) p2 (.tup [.ty "tuple", .ty "list"]) = H2 at *
    refine lc_range (lo := 0) (n := ((ys.length : Int)).toNat) (fun i H' => Same H2 H' ∧ H' D = some (.lst [])) ⟨same_upd hD, upd_same⟩ (fun i H3 hi p => ?_) (fun H3 p => ?_)
    · obtain ⟨sm, hacc⟩ := p
      have e0 : (0 : Int) + (i : Int) = (i : Int) := by omega
      rw [e0]
      have hi2 : i < ys.length := by omega
      have hi1 : i < xs.length := by omega
      have gx := List.getElem?_eq_getElem hi1
      have gy := List.getElem?_eq_getElem hi2
      refine ⟨rfl, ?_⟩
      refine ⟨_, rfl, _, rfl, s0, _, (i : Int), _, rfl, rfl, SqT.of (sm _ _ hs2), atI_nat gx, _, rfl, _, rfl, t0, _, (i : Int), _, rfl, rfl, SqT.of (sm _ _ ht2), atI_nat gy, ?_⟩
      refine it i _ _ gx gy H3 _ (s2.trans sm) fun H4 s4 => ⟨_, rfl, iteF ?_⟩
      exact ⟨sm.trans s4, s4 _ _ hacc⟩
    · obtain ⟨sm, hacc⟩ := p
      refine ⟨Nat.zero_le _, fun l hl => ?_⟩
      have s5 := same_upd (o := .lst []) hl
      refine ⟨.list [], .list [], .lst (SqL.of (s5 _ _ hacc)) .nil, .lst (SqL.of upd_same) .nil, rfl, rfl, ?_⟩
      exact q _ ((s2.trans sm).trans s5)
/-- two tuples of the same pairs -/
def spAlike2 : Sp := fun vs H Q _ => ∃ (s t : Addr) (xs ys : List V) (M : Edges), vs = [.ref s, .ref t] ∧ H s = some (.tup xs) ∧ H t = some (.tup ys) ∧ PsAt H xs M ∧ PsAt H ys M ∧ M.length ≤ 1000 ∧ ∀ H', Same H H' → Q (.bl true) H'
theorem ok_alike2 (F : At K mg "_law_alike" sAlike) (T : Free mg) : Cal P w K mg base "_law_alike" 3 ["_law_found", "_law_due"] spAlike2 := by
  obtain ⟨f, fd, G⟩ := ok_alikeT F T (ok_alikeT F T (ok_alike0 (P := P) (w := w) (base := base) F T))
  refine ⟨f, fd, FnOk.imp G.ok ?_, G.mg, G.kp, G.bi⟩
  rintro vs H Q E ⟨s, t, xs, ys, M, rfl, hs, ht, hx, hy, hM, q⟩
  refine ⟨s, t, xs, ys, rfl, hs, ht, by rw [Paired.length hx, Paired.length hy], by rw [Paired.length hx]; exact hM, fun i x y ex ey H' Q' s1 q' => ?_, q⟩
  obtain ⟨p, ep, t1, rfl, h1⟩ := paired_get hx ex
  obtain ⟨p2, ep2, t2, rfl, h2⟩ := paired_get hy ey
  rw [ep] at ep2
  cases ep2
  refine ⟨t1, t2, pV p, pV p, rfl, s1 _ _ h1, s1 _ _ h2, rfl, by show 2 ≤ 1000; decide, fun j u v eu ev H2 Q2 s2 q2 => ?_, q'⟩
  rw [eu] at ev
  cases ev
  refine ⟨u, rfl, .inl ?_, q2⟩
  match j, eu with
  | 0, eu => cases eu; exact ⟨_, rfl⟩
  | 1, eu => cases eu; exact ⟨_, rfl⟩
  | j + 2, eu => simp [pV] at eu
end
end Lev
set_option Elab.async false
set_option linter.all false
set_option maxRecDepth 100000
set_option maxHeartbeats 4000000
namespace Lev
open PySem PySem.Spec PyProof.Rows L2
/-! ### edges drawn -/
def EdAt (H : Hp) (D : Addr) (n m : Nat) : Prop := ∃ (zs : List V) (M : Edges), H D = some (.lst zs) ∧ PsAt H zs M ∧ (∀ p ∈ M, p.1 < p.2 ∧ p.2 < n) ∧ M.length ≤ m
theorem EdAt.le {H : Hp} {D : Addr} {n m m' : Nat} (h : EdAt H D n m) (hm : m ≤ m') : EdAt H D n m' := by
  obtain ⟨zs, M, a, b, c, d⟩ := h
  exact ⟨zs, M, a, b, c, Nat.le_trans d hm⟩
theorem EdAt.next {K : PySem.W.Frag} {r D : Addr} {H H' : Hp} {n m : Nat} (h : EdAt H D n m) (h0 : RowAt K H r) (nD : D ≠ r) (x : Nxt K r H H') : EdAt H' D n m := by
  obtain ⟨zs, M, a, b, c, d⟩ := h
  exact ⟨zs, M, x.sm _ _ nD a, b.keep (x.tups h0), c, d⟩
theorem EdAt.same {D : Addr} {H H' : Hp} {n m : Nat} (h : EdAt H D n m) (s : Same H H') : EdAt H' D n m := by
  obtain ⟨zs, M, a, b, c, d⟩ := h
  exact ⟨zs, M, s _ _ a, b.keep (Tups.of s), c, d⟩
theorem ps_keys {H : Hp} : ∀ {zs : List V} {M : Edges}, PsAt H zs M → ∃ ks : List (Addr × List Int), zs = ks.map (fun p => V.ref p.1) ∧ ks.length = M.length ∧ ∀ p ∈ ks, ∃ q ∈ M, p.2 = [(q.1 : Int), (q.2 : Int)] ∧ H p.1 = some (.tup (pV q))
  | _, _, .nil => ⟨[], rfl, rfl, fun p hp => by cases hp⟩
  | _, _, .cons (b := q) r t => by
    obtain ⟨ks, h1, h2, h3⟩ := ps_keys t
    obtain ⟨a, e, h⟩ := r
    refine ⟨(a, [(q.1 : Int), (q.2 : Int)]) :: ks, by rw [List.map_cons, ← h1, e], by rw [List.length_cons, List.length_cons, h2], fun p hp => ?_⟩
    rcases List.mem_cons.mp hp with e2 | m
    · rw [e2]
      exact ⟨q, List.mem_cons_self .., rfl, h⟩
    · obtain ⟨q', m', e', h'⟩ := h3 p m
      exact ⟨q', List.mem_cons_of_mem _ m', e', h'⟩
def toP (p : Addr × List Int) : Nat × Nat := ((p.2.getD 0 0).toNat, (p.2.getD 1 0).toNat)
theorem toP_eq {p : Addr × List Int} {q : Nat × Nat} (h : p.2 = [(q.1 : Int), (q.2 : Int)]) : toP p = q := by
  unfold toP
  rw [h]
  show ((q.1 : Int).toNat, (q.2 : Int).toNat) = q
  simp
/-- what the sorted set of them is: a web's edges -/
theorem web_of {n : Nat} {H : Hp} {M : Edges} {L : List (Addr × List Int)} (h : ∀ p ∈ L, ∃ q ∈ M, p.2 = [(q.1 : Int), (q.2 : Int)] ∧ H p.1 = some (.tup (pV q))) (hM : ∀ p ∈ M, p.1 < p.2 ∧ p.2 < n) (hn1 : 1 ≤ n) (hn5 : n ≤ 5)
    (nd : (L.map (·.2)).Nodup) (l64 : L.length < 64) (pw : L.Pairwise fun q r => TS.code 64 q.2 ≤ TS.code 64 r.2) : WebS n (L.map toP) ∧ PsAt H (L.map fun p => V.ref p.1) (L.map toP) := by
  have mem : ∀ p ∈ L.map toP, p.1 < p.2 ∧ p.2 < n := fun p hp => by
    obtain ⟨z, hz, e⟩ := List.mem_map.mp hp
    obtain ⟨q, hq, e2, _⟩ := h z hz
    rw [toP_eq e2] at e
    rw [← e]
    exact hM q hq
  refine ⟨⟨⟨fun p hp => (mem p hp).1, fun p hp => (mem p hp).2⟩, ?_, hn1, hn5, by rw [List.length_map]; exact l64⟩, ?_⟩
  · rw [List.pairwise_map]
    rw [List.Nodup, List.pairwise_map] at nd
    refine List.Pairwise.imp_of_mem (fun {a b} ha hb hab => ?_) (pw.and nd)
    obtain ⟨h1, h2⟩ := hab
    obtain ⟨q, hq, e1, _⟩ := h a ha
    obtain ⟨q', hq', e2, _⟩ := h b hb
    rw [toP_eq e1, toP_eq e2]
    rw [e1, e2, code_pair, code_pair] at h1
    rw [e1, e2] at h2
    have b1 := hM q hq
    have b2 := hM q' hq'
    unfold pc
    by_cases c : q.1 * 64 + q.2 = q'.1 * 64 + q'.2
    · have e := pc_inj (p := q) (q := q') (by omega) (by omega) c
      exact absurd (by rw [e]) h2
    · omega
  · clear nd l64 pw mem
    induction L with
    | nil => exact .nil
    | cons p L ih =>
      obtain ⟨q, hq, e, h1⟩ := h p (List.mem_cons_self ..)
      refine .cons ⟨p.1, rfl, ?_⟩ (ih fun z hz => h z (List.mem_cons_of_mem _ hz))
      rw [toP_eq e]
      exact h1
section
variable {P : Program} {w : World} {K : PySem.W.Frag} {mg : Str → Option Value} {base : Heap}
/-! ### _law_table -/
theorem scTable : FnScope ["_law_row", "_law_most", "_law_size", "_law_many_here", "_law_way", "_law_thin", "_law_edges", "_law_roof", "_law_count", "_law_k", "_law_j"] ["_law_row", "_law_most", "_law_size"] (defScope sTable) := ⟨rfl, rfl, rfl, by decide +kernel, rfl, by decide +kernel, by decide +kernel⟩
def spTable (K : PySem.W.Frag) : Sp := fun vs H Q _ => ∃ r : Addr, vs = [.ref r, .int 5, .int 300] ∧ RowAt K H r ∧ ∀ (H' : Hp) (p a : Addr) (n : Nat) (E : Edges) (R : Int), Nxt K r H H' → H' p = some (.tup [.ref a, .int R]) → WebAt H' a n E → WebS n E → 1 ≤ R → R ≤ 5 → Q (.ref p) H'
/-- the slots behind the draws; the edges' list at D -/
def PvT (K : PySem.W.Frag) (r : Addr) (H : Hp) (n : Nat) (way thin : Int) (R : Int) (m : Nat) (σ : L2.St) (H' : Hp) : Prop := ∃ (D : Addr) (yk yj : Option V),
  σ = [some (.ref r), some (.int 5), some (.int 300), some (nV n), some (.int way), some (.int thin), some (.ref D), some (.int R), some (.int 1), yk, yj] ∧ Nxt K r H H' ∧ H D = none ∧ EdAt H' D n m
theorem ok_table (F : At K mg "_law_table" sTable) (T : Free mg) (hT : Cal P w K mg base "_law_taken" 1 ["_law_row", "_law_many_here"] (spTaken K)) (hP : Cal P w K mg base "_law_pick" 2 ["_law_row", "_law_things"] (spPick K))
    (hM : Cal P w K mg base "_law_many" 1 ["_law_roof", "_law_many_here"] spMany) : Cal P w K mg base "_law_table" 3 ["_law_row", "_law_most", "_law_size"] (spTable K) := by
  obtain ⟨fT, fdT, GT⟩ := hT
  obtain ⟨fP, fdP, GP⟩ := hP
  obtain ⟨fM, fdM, GM⟩ := hM
  refine cal_mk F scTable (fun _ _ _ _ _ _ us hl => match us, hl with | [_, _, _], _ => rfl) (fun vs H Q E h => ?_) fun f cdv A outer s H vs Q E hr h => ?_
  · obtain ⟨_, rfl, _⟩ := h
    rfl
  · obtain ⟨r, rfl, hw, q⟩ := h
    have hr1 := hr.mono (show 1 ≤ 2 by decide)
    refine ⟨_, pss_cons (ps_par (i := 3) (j := 4) (by rfl) scTable.nd rfl rfl (by decide) rfl rfl (pa_cons (pe_op op_add pe_int (pe_call GT.ok hr1 (by rfl) GT.mg GT.kp GT.bi .nil pass0 (pa_cons (pv 0) (pa_cons (pv 1) pa_nil))))
        (pa_cons (pe_call GT.ok hr1 (by rfl) GT.mg GT.kp GT.bi .nil pass0 (pa_cons (pv 0) (pa_cons pe_int pa_nil))) pa_nil)) (by rfl))
      (pss_cons (ps_asg (pe_tup (pa_cons (pe_call GP.ok hr (by rfl) GP.mg GP.kp GP.bi .nil pass0 (pa_cons (pv 0) (pa_cons (pe_lst (pa_cons pe_int (pa_cons pe_int (pa_cons pe_int pa_nil)))) pa_nil)))
          (pa_cons (pe_lst pa_nil) (pa_cons (pe_op op_add pe_int (pe_call GT.ok hr1 (by rfl) GT.mg GT.kp GT.bi .nil pass0 (pa_cons (pv 0) (pa_cons pe_int pa_nil)))) (pa_cons pe_int pa_nil)))))
        (pg_tup rfl (pgs_cons (pg_name (i := 5) scTable.nd rfl (.inl rfl)) (pgs_cons (pg_name (i := 6) scTable.nd rfl (.inl rfl)) (pgs_cons (pg_name (i := 7) scTable.nd rfl (.inl rfl)) (pgs_cons (pg_name (i := 8) scTable.nd rfl (.inl rfl)) pgs_nil))))))
      (C8.pss_cut (ps_for PassesOwn.never rfl (pi_range1 (by rfl) T.rng (pa_cons (pv 3) pa_nil)) (pg_name (i := 9) scTable.nd rfl (.inl rfl))
        (pss_one (ps_for PassesOwn.never rfl (pi_range2 (by rfl) T.rng (pa_cons (pe_op op_add (pv 9) pe_int) (pa_cons (pv 3) pa_nil))) (pg_name (i := 10) scTable.nd rfl (.inl rfl))
          (pss_one (ps_if (PW.pt (pw_and (pt_cmpR op_lt (pv 4) pe_int (nomark _)) (pw_and1 (pt_cmpR op_eq (pe_call GT.ok hr1 (by rfl) GT.mg GT.kp GT.bi .nil pass0 (pa_cons (pv 0) (pa_cons (pv 5) pa_nil))) pe_int (nomark _)))))
            (pss_one (ps_expr (pe_bm PySem.F.plainAttrs_list PySem.F.slot_list_append PySem.F.type_list_append mt_append (pv 6) (pa_cons (pe_tup (pa_cons (pv 9) (pa_cons (pv 10) pa_nil))) pa_nil)))) pss_nil)))))
      (C8.pss_cut (ps_if (pt_cmpR op_eq (pv 4) pe_int (nomark _))
        (pss_one (ps_setLc (i := 6) (own := [("_law_k", 9)]) (g := gName 9) (tt := tYes) (by rfl) scTable.nd rfl rfl (sw_true rfl rfl rfl (by decide +kernel)) (pi_range1 (by rfl) T.rng (pa_cons (pe_op op_sub (pv 3) pe_int) pa_nil))
          (blkOk_by (own := [("_law_k", 9)]) (N := ["_law_row", "_law_most", "_law_size", "_law_many_here", "_law_way", "_law_thin", "_law_edges", "_law_roof", "_law_count", "_law_k", "_law_j"]) (sc := defScope sTable) (by decide +kernel))
          (fun _ _ _ _ _ => pg_name (i := 9) scTable.nd rfl (Or.inl rfl)) (fun _ _ _ _ _ => pts_nil) (fun _ _ _ _ _ => pe_tup (pa_cons (pv 9) (pa_cons (pe_op op_add (pv 9) pe_int) pa_nil))))) pss_nil)
      (C8.pss_cut (ps_if (pt_cmpR op_eq (pv 4) pe_int (nomark _))
        (pss_one (ps_setLc (i := 6) (own := [("_law_k", 9)]) (g := gName 9) (tt := tYes) (by rfl) scTable.nd rfl rfl (sw_true rfl rfl rfl (by decide +kernel)) (pi_range2 (by rfl) T.rng (pa_cons pe_int (pa_cons (pv 3) pa_nil)))
          (blkOk_by (own := [("_law_k", 9)]) (N := ["_law_row", "_law_most", "_law_size", "_law_many_here", "_law_way", "_law_thin", "_law_edges", "_law_roof", "_law_count", "_law_k", "_law_j"]) (sc := defScope sTable) (by decide +kernel))
          (fun _ _ _ _ _ => pg_name (i := 9) scTable.nd rfl (Or.inl rfl)) (fun _ _ _ _ _ => pts_nil)
          (fun _ _ _ _ _ => pe_tup (pa_cons (pe_call GT.ok hr1 (by rfl) GT.mg GT.kp GT.bi .nil pass0 (pa_cons (pv 0) (pa_cons (pv 9) pa_nil))) (pa_cons (pv 9) pa_nil))))) pss_nil)
      (pss_cons (ps_while PassesOwn.never (PW.pt (pw_and (pt_cmpR op_gt (pv 7) pe_int (nomark _)) (pw_and1 (pt_cmpR op_gt (pe_call GM.ok hr1 (by rfl) GM.mg GM.kp GM.bi .nil pass0 (pa_cons (pv 7) (pa_cons (pv 3) pa_nil))) (pv 2) (nomark _)))))
        (pss_one (ps_set (i := 7) scTable.nd rfl (.inl rfl) (pe_op op_sub (pv 7) pe_int))))
      (pss_one (ps_ret (pe_tup (pa_cons (pe_tup (pa_cons (pv 3) (pa_cons (pe_callTy call_tuple_of (by rfl) T.tup bt_tuple (pa_cons (pe_callB (cr_sortedT rfl) (by rfl) T.srt bt_sorted (pa_cons (pe_callTy (cr_setOfT rfl hr.units) (by rfl) T.set bt_set (pa_cons (pv 6) pa_nil)) pa_nil)) pa_nil)) pa_nil))) (pa_cons (pv 7) pa_nil)))))))))), ?_⟩
    -- the draws
    refine ⟨_, rfl, _, rfl, r, 5, rfl, hw, by decide, by decide, fun H1 v n1 v0 v1 => ⟨_, _, rfl, rfl, ?_⟩⟩
    obtain ⟨n, en⟩ : ∃ n : Nat, (1 : Int) + v = (n : Int) := ⟨(1 + v).toNat, by omega⟩
    have hn1 : 1 ≤ n := by omega
    have hn5 : n ≤ 5 := by omega
    refine ⟨_, rfl, r, 6, rfl, n1.row, by decide, by decide, fun H2 way n2 w0 w1 => ⟨_, _, rfl, ?_⟩⟩
    have n12 := n1.trans n2
    dsimp only
    rw [en]
    refine ⟨_, rfl, by show 3 ≤ sizeLine; decide, fun l3 hl3 => ?_⟩
    have n3 := n12.new (o := .lst [.int 2, .int 3, .int 4]) hl3
    refine ⟨r, l3, _, rfl, n3.row, upd_same, n12.row.ne hl3, by show 0 < 3; decide, by show 3 ≤ 1000; decide, fun H3 i3 tv n4 htv => ?_⟩
    obtain ⟨thin, rfl, th1, th2⟩ : ∃ t : Int, tv = .int t ∧ 1 ≤ t ∧ t ≤ 1000 := by
      match i3, htv with
      | 0, htv => cases htv; exact ⟨_, rfl, by decide, by decide⟩
      | 1, htv => cases htv; exact ⟨_, rfl, by decide, by decide⟩
      | 2, htv => cases htv; exact ⟨_, rfl, by decide, by decide⟩
      | i + 3, htv => simp at htv
    have n34 := n3.trans n4
    refine ⟨Nat.zero_le _, fun D hD => ?_⟩
    have n5 := n34.new (o := .lst []) hD
    have hD0 := n34.free hD
    have nD := hw.ne hD0
    refine ⟨_, rfl, r, 5, rfl, n5.row, by decide, by decide, fun H4 rv n6 rv0 rv1 => ⟨_, _, rfl, rfl, ?_⟩⟩
    have n56 := n5.trans n6
    refine ⟨by show 4 ≤ sizeLine; decide, fun t ht => ?_⟩
    have n7 := n56.new (o := .tup [.int thin, .ref D, .int (1 + rv), .int 1]) ht
    have eD : upd H4 t (.tup [.int thin, .ref D, .int (1 + rv), .int 1]) D = some (.lst []) := same_upd ht _ _ (n6.sm _ _ nD upd_same)
    refine ⟨t, _, rfl, SqT.of upd_same, rfl, _, _, rfl, _, _, rfl, _, _, rfl, _, _, rfl, rfl, ?_⟩
    generalize upd H4 t (.tup [.int thin, .ref D, .int (1 + rv), .int 1]) = H5 at n7 eD
    dsimp only
    generalize hR : (1 : Int) + rv = R
    have R1 : 1 ≤ R := by omega
    have R5 : R ≤ 5 := by omega
    -- the first edges
    refine ⟨PvT K r H n way thin R 25, ?_, ?_⟩
    · refine ⟨_, rfl, (n : Int), rfl, by omega, by omega, ?_⟩
      refine for_range (lo := 0) (n := ((n : Int)).toNat) (fun i => PvT K r H n way thin R (5 * i)) ⟨D, _, _, rfl, n7, hD0, [], [], eD, .nil, (fun p hp => by cases hp), Nat.le_refl _⟩ (fun i σ H6 hi p => ?_) (fun σ H6 p => ?_)
      · obtain ⟨D, yk, yj, rfl, nx, hD0, ed⟩ := p
        have nD := hw.ne hD0
        have hi' : i < n := by omega
        have e0 : (0 : Int) + (i : Int) = (i : Int) := by omega
        rw [e0]
        refine ⟨_, rfl, _, _, rfl, rfl, _, rfl, (i : Int) + 1, (n : Int), rfl, ⟨by omega, by omega, by omega, by omega⟩, ?_⟩
        refine for_range (lo := (i : Int) + 1) (n := ((n : Int) - ((i : Int) + 1)).toNat) (fun j σ H' => ∃ yj, σ = [some (.ref r), some (.int 5), some (.int 300), some (nV n), some (.int way), some (.int thin), some (.ref D), some (.int R), some (.int 1), some (nV i), yj] ∧ Nxt K r H H' ∧ EdAt H' D n (5 * i + j))
          ⟨_, rfl, nx, ed⟩ (fun j σ H7 hj p => ?_) (fun σ H7 p => ?_)
        · obtain ⟨yj, rfl, nx, ed⟩ := p
          have ej : (i : Int) + 1 + (j : Int) = ((i + 1 + j : Nat) : Int) := by omega
          rw [ej]
          refine ⟨_, rfl, _, _, rfl, rfl, _, rfl, ?_⟩
          by_cases c1 : way < 4
          · refine iteTT (decide_eq_true c1) ?_
            refine ⟨_, rfl, _, rfl, r, thin, rfl, nx.row, th1, th2, fun H8 u n8 u0 u1 => ⟨rfl, _, rfl, ?_⟩⟩
            have nx8 := nx.trans n8
            have ed8 := ed.next nx.row nD n8
            refine ite2 (fun _ => ?_) (fun _ => ?_)
            · obtain ⟨zs, M, hz, hps, hM, hlen⟩ := ed8
              refine ⟨_, rfl, .inl ⟨rfl, _, SqL.of hz⟩, _, rfl, _, rfl, by show 2 ≤ sizeLine; decide, fun p hp => ?_⟩
              have s9 := same_upd (o := .tup [nV i, nV (i + 1 + j)]) hp
              have hz9 := s9 _ _ hz
              refine ⟨D, zs, _, rfl, rfl, hz9, line_small (by rw [Paired.length hps]; omega), ?_⟩
              have t10 := Tups.lst (o := .lst (zs ++ [.ref p])) hz9
              refine ⟨_, rfl, (nx8.then s9).mine hw hD0 hz9, zs ++ [.ref p], M ++ [(i, i + 1 + j)], upd_same, paired_append (hps.keep ((Tups.of s9).trans t10)) (.cons ⟨p, rfl, t10 _ _ upd_same⟩ .nil), fun z hz => ?_, ?_⟩
              · rcases List.mem_append.mp hz with m | m
                · exact hM z m
                · rw [List.mem_singleton.mp m]
                  exact ⟨by show i < i + 1 + j; omega, by show i + 1 + j < n; omega⟩
              · rw [List.length_append, List.length_singleton]
                omega
            · exact ⟨_, rfl, nx8, ed8.le (by omega)⟩
          · refine iteFF (decide_eq_false c1) (iteF ?_)
            exact ⟨_, rfl, nx, ed.le (by omega)⟩
        · obtain ⟨yj, rfl, nx, ed⟩ := p
          exact ⟨D, _, _, rfl, nx, hD0, ed.le (by omega)⟩
      · obtain ⟨D, yk, yj, rfl, nx, hD0, ed⟩ := p
        exact ⟨D, _, _, rfl, nx, hD0, ed.le (by omega)⟩
    · rintro σ H6 ⟨D, yk, yj, rfl, nx, hD0, ed⟩
      have nD := hw.ne hD0
      -- a row
      refine ⟨PvT K r H n way thin R 25, ?_, ?_⟩
      · refine ⟨_, rfl, rfl, _, rfl, ite2 (fun _ => ?_) (fun _ => ?_)⟩
        · refine ⟨_, rfl, _, _, rfl, rfl, (n : Int) - 1, rfl, by omega, by omega, fun D2 hD2 => ?_⟩
          refine lc_range (lo := 0) (n := ((n : Int) - 1).toNat) (fun i H' => Same H6 H' ∧ EdAt H' D2 n i) ⟨same_upd hD2, [], [], upd_same, .nil, (fun p hp => by cases hp), Nat.le_refl _⟩ (fun i H7 hi p => ?_) (fun H7 p => ?_)
          · obtain ⟨sm, zs, M, hz, hps, hM, hlen⟩ := p
            have e0 : (0 : Int) + (i : Int) = (i : Int) := by omega
            rw [e0]
            refine ⟨rfl, ?_⟩
            refine ⟨_, rfl, _, rfl, _, _, rfl, rfl, by show 2 ≤ sizeLine; decide, fun p hp => ?_⟩
            have s9 := same_upd (o := .tup [nV i, .int ((i : Int) + 1)]) hp
            have hz9 := s9 _ _ hz
            have t10 := Tups.lst (o := .lst (zs ++ [.ref p])) hz9
            refine ⟨zs, hz9, line_small (by rw [Paired.length hps]; omega), same_upd2 (sm.trans s9) hD2, zs ++ [.ref p], M ++ [(i, i + 1)], upd_same, paired_append (hps.keep ((Tups.of s9).trans t10)) (.cons ⟨p, rfl, t10 _ _ upd_same⟩ .nil), fun z hz => ?_, ?_⟩
            · rcases List.mem_append.mp hz with m | m
              · exact hM z m
              · rw [List.mem_singleton.mp m]
                exact ⟨by show i < i + 1; omega, by show i + 1 < n; omega⟩
            · rw [List.length_append, List.length_singleton]
              omega
          · obtain ⟨sm, ed2⟩ := p
            exact ⟨D2, _, _, rfl, nx.then sm, nx.free hD2, ed2.le (by omega)⟩
        · exact ⟨D, _, _, rfl, nx, hD0, ed⟩
      · rintro σ H6 ⟨D, yk, yj, rfl, nx, hD0, ed⟩
        have nD := hw.ne hD0
        -- a tree
        refine ⟨PvT K r H n way thin R 25, ?_, ?_⟩
        · refine ⟨_, rfl, rfl, _, rfl, ite2 (fun _ => ?_) (fun _ => ?_)⟩
          · refine ⟨_, rfl, 1, (n : Int), rfl, ⟨by omega, by omega, by omega, by omega⟩, fun D2 hD2 => ?_⟩
            have hD20 := nx.free hD2
            have nD2 := hw.ne hD20
            refine lc_range (lo := 1) (n := ((n : Int) - 1).toNat) (fun i H' => Nxt K r H H' ∧ EdAt H' D2 n i) ⟨nx.new hD2, [], [], upd_same, .nil, (fun p hp => by cases hp), Nat.le_refl _⟩ (fun i H7 hi p => ?_) (fun H7 p => ?_)
            · obtain ⟨nx7, ed7⟩ := p
              have e0 : (1 : Int) + (i : Int) = ((i + 1 : Nat) : Int) := by omega
              rw [e0]
              refine ⟨rfl, ?_⟩
              refine ⟨_, rfl, _, rfl, r, _, rfl, nx7.row, by omega, by omega, fun H8 u n8 u0 u1 => ?_⟩
              obtain ⟨uu, eu⟩ : ∃ uu : Nat, u = (uu : Int) := ⟨u.toNat, by omega⟩
              subst eu
              have nx8 := nx7.trans n8
              obtain ⟨zs, M, hz, hps, hM, hlen⟩ := ed7.next nx7.row nD2 n8
              refine ⟨_, rfl, by show 2 ≤ sizeLine; decide, fun p hp => ?_⟩
              have s9 := same_upd (o := .tup [nV uu, nV (i + 1)]) hp
              have hz9 := s9 _ _ hz
              have t10 := Tups.lst (o := .lst (zs ++ [.ref p])) hz9
              refine ⟨zs, hz9, line_small (by rw [Paired.length hps]; omega), (nx8.then s9).mine hw hD20 hz9, zs ++ [.ref p], M ++ [(uu, i + 1)], upd_same, paired_append (hps.keep ((Tups.of s9).trans t10)) (.cons ⟨p, rfl, t10 _ _ upd_same⟩ .nil), fun z hz => ?_, ?_⟩
              · rcases List.mem_append.mp hz with m | m
                · exact hM z m
                · rw [List.mem_singleton.mp m]
                  exact ⟨by show uu < i + 1; omega, by show i + 1 < n; omega⟩
              · rw [List.length_append, List.length_singleton]
                omega
            · obtain ⟨nx7, ed7⟩ := p
              exact ⟨D2, _, _, rfl, nx7, hD20, ed7.le (by omega)⟩
          · exact ⟨D, _, _, rfl, nx, hD0, ed⟩
        · rintro σ H6 ⟨D, yk, yj, rfl, nx, hD0, ed⟩
          have nD := hw.ne hD0
          -- the roof is lowered
          refine ⟨fun m σ H' => ∃ R' : Int, σ = [some (.ref r), some (.int 5), some (.int 300), some (nV n), some (.int way), some (.int thin), some (.ref D), some (.int R'), some (.int 1), yk, yj] ∧ H' = H6 ∧ 1 ≤ R' ∧ R' ≤ 5 ∧ m = R'.toNat, ⟨_, R, rfl, rfl, R1, R5, rfl⟩, ?_⟩
          rintro m σ H7 ⟨R', rfl, rfl, r1, r5, em⟩
          -- the end
          have fin : tRet (tTup (tCons (tTup (tCons (tVar 3) (tCons (tCB (fun xs H Q => ∃ p ys, xs = [V.ref p] ∧ ((SqL K H p ys ∧ ∀ l, H l = none → Q (.ref l) (upd H l (.tup ys))) ∨ (SqT K H p ys ∧ Q (.ref p) H)))
              (tCons (tCB (rSortedT K P w) (tCons (tCB (rSetOfT K P w) (tCons (tVar 6) tNil)) tNil)) tNil)) tNil))) (tCons (tVar 7) tNil))) { nx := fun _ H' => Q .non H', rt := Q }
              [some (.ref r), some (.int 5), some (.int 300), some (nV n), some (.int way), some (.int thin), some (.ref D), some (.int R'), some (.int 1), yk, yj] H7 := by
            obtain ⟨zs, M, hz, hps, hM, hlen⟩ := ed
            obtain ⟨ks, ek, lk, hk⟩ := ps_keys hps
            refine ⟨_, rfl, _, rfl, D, ks, rfl, SqL.of (by rw [hz, ek]), fun p hp => ?_, by omega, fun a L ha hL hL2 => ?_⟩
            · obtain ⟨qq, _, e2, h2⟩ := hk p hp
              rw [e2]
              exact SqT.of h2
            · have s8 := same_upd (o := SetTO P w a L) ha
              refine ⟨a, L, 2, 64, rfl, upd_same, fun p hp => ?_, by decide, fun p hp => ?_, fun L' p pm nd l64 pw hp => ?_⟩
              · obtain ⟨qq, _, e2, h2⟩ := hk p (hL p hp)
                rw [e2]
                exact SqT.of (s8 _ _ h2)
              · obtain ⟨qq, mq, e2, h2⟩ := hk p (hL p hp)
                have b := hM qq mq
                rw [e2]
                refine ⟨rfl, fun z hz => ?_⟩
                rcases List.mem_cons.mp hz with e | hz
                · omega
                · rcases List.mem_cons.mp hz with e | hz
                  · omega
                  · cases hz
              · have s9 := same_upd (o := .lst (L'.map fun q => V.ref q.1)) hp
                refine ⟨p, _, rfl, .inl ⟨SqL.of upd_same, fun l hl => ?_⟩⟩
                have s10 := same_upd (o := .tup (L'.map fun q => V.ref q.1)) hl
                refine ⟨by show 2 ≤ sizeLine; decide, fun wa hwa => ?_⟩
                have s11 := same_upd (o := .tup [nV n, .ref l]) hwa
                refine ⟨_, rfl, by show 2 ≤ sizeLine; decide, fun pp hpp => ?_⟩
                have s12 := same_upd (o := .tup [.ref wa, .int R']) hpp
                have sAll := (((s8.trans s9).trans s10).trans s11).trans s12
                have tAll := Tups.of sAll
                have web := web_of (H := H7) (n := n) (M := M) (L := L') (fun z hz => hk z (hL z (pm.mem_iff.mp hz))) hM hn1 hn5 nd l64 pw
                refine q _ pp wa n (L'.map toP) R' (nx.then sAll) upd_same ⟨l, _, s12 _ _ upd_same, s12 _ _ (s11 _ _ upd_same), web.2.keep tAll⟩ web.1 r1 r5
          refine ⟨_, rfl, _, _, rfl, rfl, _, rfl, ?_⟩
          by_cases c1 : 1 < R'
          · refine iteTT (decide_eq_true c1) ?_
            refine ⟨_, rfl, _, rfl, R', n, rfl, r1, r5, hn5, fun z => ⟨_, rfl, _, _, rfl, rfl, _, rfl, ?_⟩⟩
            by_cases c2 : 300 < z
            · refine iteTT (decide_eq_true c2) ?_
              refine ⟨fun σ H' => σ = [some (.ref r), some (.int 5), some (.int 300), some (nV n), some (.int way), some (.int thin), some (.ref D), some (.int (R' - 1)), some (.int 1), yk, yj] ∧ H' = H7, fun σ' H' ⟨e1, e2⟩ => ⟨(R' - 1).toNat, by omega, R' - 1, e1, e2, by omega, by omega, rfl⟩, ?_⟩
              exact ⟨_, rfl, _, _, rfl, rfl, rfl, rfl⟩
            · exact iteFF (decide_eq_false c2) fin
          · exact iteFF (decide_eq_false c1) (iteF fin)
end
end Lev
set_option Elab.async false
set_option linter.all false
set_option maxRecDepth 100000
set_option maxHeartbeats 8000000
namespace Lev
open PySem PySem.Spec PyProof.Rows L2
/-- the calls that the law makes -/
structure Calls (P : Program) (w : World) (K : PySem.W.Frag) (mg : Str → Option Value) (base : Heap) : Prop where
  table : Cal P w K mg base "_law_table" 3 ["_law_row", "_law_most", "_law_size"] (spTable K)
  heights : Cal P w K mg base "_law_heights" 2 ["_law_row", "_law_many_here", "_law_roof"] (spHeights K)
  frm : Cal P w K mg base "_law_from" 4 ["_law_web", "_law_roof", "_law_heights_here"] spFrom
  pick : Cal P w K mg base "_law_pick" 2 ["_law_row", "_law_things"] (spPick K)
  there : Cal P w K mg base "_law_there" 4 ["_law_row", "_law_web", "_law_roof", "_law_heights_here"] (spThere K)
  alike0 : Cal P w K mg base "_law_alike" 1 ["_law_found", "_law_due"] spAlike0
  alike2 : Cal P w K mg base "_law_alike" 3 ["_law_found", "_law_due"] spAlike2
  canCome : Cal P w K mg base "can_come" 7 ["web", "roof", "one", "other"] spCanCome
  comes : Cal P w K mg base "_law_comes" 1 ["_law_web", "_law_one", "_law_other"] spComesIn
  fewest : Cal P w K mg base "fewest" 7 ["web", "roof", "one", "other"] spFewest
  off : Cal P w K mg base "_law_off" 1 ["_law_one", "_law_other"] spStepsIn
  steep : Cal P w K mg base "_law_steep" 1 ["_law_web", "_law_heights_here"] spSteepIn
  bars : Cal P w K mg base "bars" 7 ["web", "roof", "one", "other"] spBars
theorem Known.some_iff {n : Nat} {E : Edges} {R : Int} {x y : List Int} {F : Tab} (kn : Known n E R x F) (v : Valid n R y) : (look F y).isSome = true ↔ Comes E x y := by
  constructor
  · intro h
    obtain ⟨d, hd⟩ := Option.isSome_iff_exists.mp h
    exact (kn.there y d hd).1
  · intro c
    obtain ⟨d, hd⟩ := kn.all y v c
    rw [hd]
    rfl
theorem bool_eq {a b : Bool} {p : Prop} (ha : a = true ↔ p) (hb : b = true ↔ p) : a = b := by
  cases a <;> cases b
  · rfl
  · exact absurd (ha.mpr (hb.mp rfl)) Bool.false_ne_true
  · exact absurd (hb.mpr (ha.mp rfl)) Bool.false_ne_true
  · rfl
section
variable {P : Program} {w : World} {K : PySem.W.Frag} {mg : Str → Option Value} {base : Heap}
theorem scLaw : FnScope ["_law_script", "_law_row", "_law_web", "_law_roof", "_law_one", "_law_known", "_law_turn", "_law_other", "_law_due", "_law_a", "_law_b"] ["_law_script"] (defScope sLaw) := ⟨rfl, rfl, rfl, by decide +kernel, rfl, by decide +kernel, by decide +kernel⟩
def spLaw (K : PySem.W.Frag) : Sp := fun vs H Q _ => ∃ (a : Addr) (ns : List Int), vs = [.ref a] ∧ ScL K H a (ns.map V.int) ∧ ∀ H', Q (.bl true) H'
/-- all that stands between two turns -/
structure LawAt (K : PySem.W.Frag) (r wb o fd : Addr) (n : Nat) (E : Edges) (R : Int) (x : List Int) (F : Tab) (H : Hp) : Prop where
  row : RowAt K H r
  web : WebAt H wb n E
  we : WebS n E
  r1 : 1 ≤ R
  r5 : R ≤ 5
  one : HsAt H o x
  vx : Valid n R x
  dict : H fd = some (.dT (encT F))
  kn : Known n E R x F
theorem LawAt.nxt {r wb o fd : Addr} {n : Nat} {E : Edges} {R : Int} {x : List Int} {F : Tab} {H H' : Hp} (l : LawAt K r wb o fd n E R x F H) (nx : Nxt K r H H') : LawAt K r wb o fd n E R x F H' :=
  ⟨nx.row, l.web.keep (nx.tups l.row), l.we, l.r1, l.r5, l.one.keep (nx.tups l.row), l.vx, nx.sm _ _ (fun z => by
    obtain ⟨ys, h⟩ := l.row.lst
    have := l.dict
    rw [z, h] at this
    cases this) l.dict, l.kn⟩
theorem LawAt.same {r wb o fd : Addr} {n : Nat} {E : Edges} {R : Int} {x : List Int} {F : Tab} {H H' : Hp} (l : LawAt K r wb o fd n E R x F H) (s : Same H H') : LawAt K r wb o fd n E R x F H' := l.nxt (Nxt.of l.row s)
theorem LawAt.get {r wb o fd t : Addr} {n : Nat} {E : Edges} {R : Int} {x y : List Int} {F : Tab} {H : Hp} (l : LawAt K r wb o fd n E R x F H) (ht : HsAt H t y) : DGet H fd (.ref t) ((look F y).map V.int) := by
  rw [← valV_enc]
  refine DGet.t (k := kk y) l.dict ?_
  rw [kk_V]
  exact ht
theorem ok_law {f0 : Addr} {fd0 : FuncData} (F : FnP K "law" sLaw f0 fd0) (g0 : mg "law" = some (.ref f0)) (T : Free mg) (C : Calls P w K mg base) : CalD P w K mg base "law" 8 ["_law_script"] (spLaw K) f0 fd0 := by
  obtain ⟨_, _, GT⟩ := C.table
  obtain ⟨_, _, GH⟩ := C.heights
  obtain ⟨_, _, GF⟩ := C.frm
  obtain ⟨_, _, GP⟩ := C.pick
  obtain ⟨_, _, GR⟩ := C.there
  obtain ⟨_, _, GA⟩ := C.alike0
  obtain ⟨_, _, GB⟩ := C.alike2
  obtain ⟨_, _, GC⟩ := C.canCome
  obtain ⟨_, _, GD⟩ := C.comes
  obtain ⟨_, _, GE⟩ := C.fewest
  obtain ⟨_, _, GO⟩ := C.off
  obtain ⟨_, _, GS⟩ := C.steep
  obtain ⟨_, _, GX⟩ := C.bars
  refine cal_mkD F g0 scLaw (fun _ _ _ _ _ _ us hl => match us, hl with | [_], _ => rfl) (fun vs H Q E h => ?_) fun f cdv A outer s H vs Q E hr h => ?_
  · obtain ⟨_, _, rfl, _⟩ := h
    rfl
  · obtain ⟨a, ns, rfl, hsc, q⟩ := h
    have hu := hu_of hr
    have hr1 := hr.mono (show 1 ≤ 7 by decide)
    have hr2 := hr.mono (show 2 ≤ 7 by decide)
    have hr3 := hr.mono (show 3 ≤ 7 by decide)
    have hr4 := hr.mono (show 4 ≤ 7 by decide)
    refine ⟨_, pss_cons (ps_set (i := 1) scLaw.nd rfl (.inl rfl) (pe_lst (pa_cons (pv 0) (pa_cons pe_int (pa_cons pe_int (pa_cons pe_int pa_nil))))))
      (pss_cons (ps_asg (pe_call GT.ok hr3 (by rfl) GT.mg GT.kp GT.bi .nil pass0 (pa_cons (pv 1) (pa_cons pe_int (pa_cons pe_int pa_nil))))
        (pg_tup rfl (pgs_cons (pg_name (i := 2) scLaw.nd rfl (.inl rfl)) (pgs_cons (pg_name (i := 3) scLaw.nd rfl (.inl rfl)) pgs_nil))))
      (pss_cons (ps_set (i := 4) scLaw.nd rfl (.inr rfl) (pe_call GH.ok hr2 (by rfl) GH.mg GH.kp GH.bi .nil pass0 (pa_cons (pv 1) (pa_cons (pe_ix ix_tup (pv 2) pe_int (fun _ _ => rfl)) (pa_cons (pv 3) pa_nil)))))
      (pss_cons (ps_set (i := 5) scLaw.nd rfl (.inl rfl) (pe_call GF.ok hr4 (by rfl) GF.mg GF.kp GF.bi .nil pass0 (pa_cons (pv 2) (pa_cons (pv 3) (pa_cons (pv 4) pa_nil)))))
      (pss_cons (ps_for PassesOwn.never rfl (pi_range1 (by rfl) T.rng (pa_cons pe_int pa_nil)) (pg_name (i := 6) scLaw.nd rfl (.inl rfl))
        (pss_cons (ps_set (i := 7) scLaw.nd rfl (.inr rfl) (pe_call GP.ok hr2 (by rfl) GP.mg GP.kp GP.bi .nil pass0 (pa_cons (pv 1) (pa_cons (pe_lst (pa_cons
            (pe_call GH.ok hr2 (by rfl) GH.mg GH.kp GH.bi .nil pass0 (pa_cons (pv 1) (pa_cons (pe_ix ix_tup (pv 2) pe_int (fun _ _ => rfl)) (pa_cons (pv 3) pa_nil))))
            (pa_cons (pe_call GR.ok hr4 (by rfl) GR.mg GR.kp GR.bi .nil pass0 (pa_cons (pv 1) (pa_cons (pv 2) (pa_cons (pv 3) (pa_cons (pv 4) pa_nil))))) pa_nil))) pa_nil))))
        (pss_cons (ps_if (pt_not (pt_val (pe_call GA.ok hr1 (by rfl) GA.mg GA.kp GA.bi .nil pass0 (pa_cons (pe_call GC.ok hr (by rfl) GC.mg GC.kp GC.bi .nil pass0 (pa_cons (pv 2) (pa_cons (pv 3) (pa_cons (pv 4) (pa_cons (pv 7) pa_nil)))))
            (pa_cons (pe_cmp (pc_din hu (pv 7) (pv 5)) rfl) pa_nil))))) (pss_one ps_never) pss_nil)
        (pss_cons (ps_if (pt_cmpR op_ne (pe_call GD.ok hr1 (by rfl) GD.mg GD.kp GD.bi .nil pass0 (pa_cons (pv 2) (pa_cons (pv 4) (pa_cons (pv 7) pa_nil)))) (pe_cmp (pc_din hu (pv 7) (pv 5)) rfl) (nomark _)) (pss_one ps_never) pss_nil)
        (pss_cons (ps_if (pt_not (pt_val (pe_call GA.ok hr1 (by rfl) GA.mg GA.kp GA.bi .nil pass0 (pa_cons (pe_call GE.ok hr (by rfl) GE.mg GE.kp GE.bi .nil pass0 (pa_cons (pv 2) (pa_cons (pv 3) (pa_cons (pv 4) (pa_cons (pv 7) pa_nil)))))
            (pa_cons (pe_dget2 hu (pv 5) (pv 7) pe_non ⟨rfl, by rfl, rfl, rfl⟩) pa_nil))))) (pss_one ps_never) pss_nil)
        (pss_cons (ps_if (PW.pt (pw_and (pt_cmp (pc_din hu (pv 7) (pv 5))) (pw_and1 (pt_cmpR op_ne (pe_dget hu (pv 5) (pv 7) (fun _ _ => rfl)) (pe_call GO.ok hr1 (by rfl) GO.mg GO.kp GO.bi .nil pass0 (pa_cons (pv 4) (pa_cons (pv 7) pa_nil))) (nomark _))))) (pss_one ps_never) pss_nil)
        (pss_cons (ps_setLc (i := 8) (own := [("_law_a", 9), ("_law_b", 10)]) (g := gTup K 2 (gCons (gName 9) (gCons (gName 10) gNil))) (by rfl) scLaw.nd rfl rfl (sw_true rfl rfl rfl (by decide +kernel))
            (pi_list (pe_call GS.ok hr1 (by rfl) GS.mg GS.kp GS.bi .nil pass0 (pa_cons (pv 2) (pa_cons (pv 7) pa_nil))))
            (blkOk_by (own := [("_law_a", 9), ("_law_b", 10)]) (N := ["_law_script", "_law_row", "_law_web", "_law_roof", "_law_one", "_law_known", "_law_turn", "_law_other", "_law_due", "_law_a", "_law_b"]) (sc := defScope sLaw) (by decide +kernel))
            (fun _ _ _ _ _ => pg_tup (by rfl) (pgs_cons (pg_name (i := 9) scLaw.nd rfl (Or.inl rfl)) (pgs_cons (pg_name (i := 10) scLaw.nd rfl (Or.inl rfl)) pgs_nil)))
            (fun _ _ _ _ _ => pts_one (PW.pt (pw_or (pt_cmpR op_gt (pe_ix (ixK (K := K)) (pv 4) (pv 9) (fun _ _ => rfl)) (pe_ix (ixK (K := K)) (pv 7) (pv 9) (fun _ _ => rfl)) (nomark _))
              (pw_or1 (pt_cmpR op_lt (pe_ix (ixK (K := K)) (pv 4) (pv 10) (fun _ _ => rfl)) (pe_ix (ixK (K := K)) (pv 7) (pv 10) (fun _ _ => rfl)) (nomark _))))))
            (fun _ _ _ _ _ => pe_tup (pa_cons (pv 9) (pa_cons (pv 10) pa_nil))))
        (pss_one (ps_if (pt_not (pt_val (pe_call GB.ok hr3 (by rfl) GB.mg GB.kp GB.bi .nil pass0 (pa_cons (pe_call GX.ok hr (by rfl) GX.mg GX.kp GX.bi .nil pass0 (pa_cons (pv 2) (pa_cons (pv 3) (pa_cons (pv 4) (pa_cons (pv 7) pa_nil)))))
            (pa_cons (pe_callTy call_tuple_of (by rfl) T.tup bt_tuple (pa_cons (pv 8) pa_nil)) pa_nil))))) (pss_one ps_never) pss_nil)))))))))
      (pss_one (ps_ret pe_bl)))))), ?_⟩
    -- the row, the web, the heights, the search
    refine ⟨_, rfl, by show 4 ≤ sizeLine; decide, fun r hr0 => ?_⟩
    have row1 : RowAt K (upd H r (.lst [.ref a, .int 0, .int 9705, .int 0])) r := by
      refine ⟨a, ns, 0, 9705, 0, upd_same, ?_, by decide, by decide, by decide, by decide⟩
      rcases hsc with ⟨o, h⟩ | h
      · exact .inl ⟨o, by rw [upd_ne (ne_of_none h hr0)]; exact h⟩
      · exact .inr h
    refine ⟨_, rfl, r, rfl, row1, fun H2 p wb n L R n2 ep web we r1 r5 => ?_⟩
    refine ⟨p, _, rfl, SqT.of ep, rfl, _, _, rfl, _, _, rfl, rfl, ?_⟩
    obtain ⟨e, xs, hwb, he, hps⟩ := id web
    refine ⟨_, rfl, _, rfl, wb, _, 0, _, rfl, rfl, SqT.of hwb, atI_nat (j := 0) rfl, _, rfl, r, n, R, rfl, n2.row, by have := we.n5; omega, r1, by omega, fun H3 o x n3 hx vx => ?_⟩
    have web3 := web.keep (n3.tups n2.row)
    refine ⟨_, rfl, _, rfl, _, rfl, wb, n, L, R, o, x, rfl, web3, we, r1, r5, hx, vx, fun H4 fd F s4 hfd ef kn => ?_⟩
    have l4 : LawAt K r wb o fd n L R x F H4 := ⟨n3.row.same s4, web3.keep (Tups.of s4), we, r1, r5, s4 _ _ hx, vx, ef, kn⟩
    refine ⟨5, rfl, by decide, by decide, ?_⟩
    refine for_range (lo := 0) (n := (5 : Int).toNat) (fun i σ H' => ∃ y6 y7 y8 y9 y10, σ = [some (.ref a), some (.ref r), some (.ref wb), some (.int R), some (.ref o), some (.ref fd), y6, y7, y8, y9, y10] ∧ LawAt K r wb o fd n L R x F H')
      ⟨_, _, _, _, _, rfl, l4⟩ (fun i σ H5 hi p => ?_) (fun σ H5 p => q _)
    obtain ⟨y6, y7, y8, y9, y10, rfl, l5⟩ := p
    -- the other heights
    obtain ⟨e5, xs5, hwb5, he5, hps5⟩ := id l5.web
    refine ⟨_, rfl, _, rfl, _, rfl, wb, _, 0, _, rfl, rfl, SqT.of hwb5, atI_nat (j := 0) rfl, _, rfl, r, n, R, rfl, l5.row, by have := we.n5; omega, r1, by omega, fun H6 t1 z1 n6 hz1 vz1 => ?_⟩
    have l6 := l5.nxt n6
    refine ⟨_, rfl, _, rfl, _, rfl, _, rfl, r, wb, n, L, R, o, x, rfl, l6.row, l6.web, we, r1, r5, l6.one, vx, fun H7 t2 z2 n7 hz2 vz2 => ?_⟩
    have l7 := l6.nxt n7
    refine ⟨by show 2 ≤ sizeLine; decide, fun l8a hl8 => ?_⟩
    have s8 := same_upd (o := .lst [.ref t1, .ref t2]) hl8
    have l8 := l7.same s8
    refine ⟨r, l8a, _, rfl, l8.row, upd_same, l7.row.ne hl8, by show 0 < 2; decide, by show 2 ≤ 1000; decide, fun H9 j v n9 hv => ?_⟩
    have l9 := l8.nxt n9
    obtain ⟨t, y, rfl, ht, vy⟩ : ∃ (t : Addr) (y : List Int), v = .ref t ∧ HsAt H9 t y ∧ Valid n R y := by
      have t9 := n9.tups l8.row
      match j, hv with
      | 0, hv => cases hv; exact ⟨t1, z1, rfl, t9 _ _ (s8 _ _ (n7.tups l6.row _ _ hz1)), vz1⟩
      | 1, hv => cases hv; exact ⟨t2, z2, rfl, t9 _ _ (s8 _ _ hz2), vz2⟩
      | j + 2, hv => simp at hv
    have iff := l9.kn.some_iff vy
    have arg : ∀ H', Same H9 H' → Arg4 H' [.ref wb, .int R, .ref o, .ref t] wb n L R o x t y := fun H' s => ⟨rfl, (l9.same s).web, we, r1, by omega, (l9.same s).one, vx, s _ _ ht, vy⟩
    have sgf : ((look F y).map V.int).isSome = (look F y).isSome := by cases look F y <;> rfl
    -- can_come
    refine ⟨_, rfl, _, rfl, _, rfl, _, rfl, wb, n, L, R, o, x, t, y, arg _ (Same.refl _), fun H10 b10 s10 h10 => ?_⟩
    have l10 := l9.same s10
    refine ⟨_, rfl, _, rfl, fd, _, rfl, l10.get (s10 _ _ ht), ?_⟩
    refine ⟨.bl b10, by rw [sgf, bool_eq h10 iff]; rfl, .inr (.inl ⟨_, rfl⟩), fun H11 s11 => ⟨_, rfl, iteF ?_⟩⟩
    have s911 := s10.trans s11
    have l11 := l9.same s911
    -- by the edges that are steep at last
    refine ⟨_, rfl, _, rfl, _, rfl, wb, n, L, o, x, t, y, rfl, l11.web, we, l11.one, vx.len, s911 _ _ ht, vy.len, fun H12 b12 s12 h12 => ?_⟩
    have s912 := s911.trans s12
    have l12 := l9.same s912
    refine ⟨_, rfl, _, rfl, fd, _, rfl, l12.get (s912 _ _ ht), rfl, _, rfl, iteNS (by rw [sgf, bool_eq h12 iff]) ?_⟩
    -- fewest
    refine ⟨_, rfl, _, rfl, _, rfl, _, rfl, wb, n, L, R, o, x, t, y, arg _ s912, fun H13 v13 s13 h13 g13 => ?_⟩
    have s913 := s912.trans s13
    have l13 := l9.same s913
    refine ⟨_, rfl, fd, rfl, .inr ⟨_, .inl l13.dict⟩, _, rfl, _, l13.get (s913 _ _ ht), ?_⟩
    have e13 : v13 = ((look F y).map V.int).getD .non := by
      cases el : look F y with
      | some d =>
        obtain ⟨c, ed⟩ := l9.kn.there y d el
        rw [h13 c, ed]
        rfl
      | none =>
        rw [g13 fun c => by
          have := iff.mpr c
          rw [el] at this
          cases this]
        rfl
    refine ⟨v13, by rw [← e13]; rfl, ?_, fun H14 s14 => ⟨_, rfl, iteF ?_⟩⟩
    · by_cases c : Comes L x y
      · exact .inl ⟨_, h13 c⟩
      · exact .inr (.inr (g13 c))
    have s914 := s913.trans s14
    have l14 := l9.same s914
    -- the sum of differences
    have rest : ∀ (H15 : Hp), Same H9 H15 → tSeq (tAsg (tLc (iList K (tCall spSteepIn [] E0 (tCons (tVar 2) (tCons (tVar 7) tNil)))) (gTup K 2 (gCons (gName 9) (gCons (gName 10) gNil)))
          (tOr (tTest (tOp (rI0 fun i j => .bl (decide (j < i))) (tOp (rIxT K) (tVar 4) (tVar 9)) (tOp (rIxT K) (tVar 7) (tVar 9)))) (tTest (tOp (rI0 fun i j => .bl (decide (i < j))) (tOp (rIxT K) (tVar 4) (tVar 10)) (tOp (rIxT K) (tVar 7) (tVar 10)))))
          (tTup (tCons (tVar 9) (tCons (tVar 10) tNil))) [9, 10]) (gName 8))
        (tIfS (tNot (tB (tCall spAlike2 [] E0 (tCons (tCall spBars [] E0 (tCons (tVar 2) (tCons (tVar 3) (tCons (tVar 4) (tCons (tVar 7) tNil)))))
          (tCons (tCB (fun xs H Q => ∃ p ys, xs = [V.ref p] ∧ ((SqL K H p ys ∧ ∀ l, H l = none → Q (.ref l) (upd H l (.tup ys))) ∨ (SqT K H p ys ∧ Q (.ref p) H))) (tCons (tVar 8) tNil)) tNil))))) tNever tNext)
        { nx := fun σ H' => ∃ y6 y7 y8 y9 y10, σ = [some (.ref a), some (.ref r), some (.ref wb), some (.int R), some (.ref o), some (.ref fd), y6, y7, y8, y9, y10] ∧ LawAt K r wb o fd n L R x F H', rt := Q }
        [some (.ref a), some (.ref r), some (.ref wb), some (.int R), some (.ref o), some (.ref fd), some (.int (0 + (i : Int))), some (.ref t), y8, y9, y10] H15 := fun H15 s915 => by
      have l15 := l9.same s915
      refine ⟨_, rfl, _, rfl, wb, n, L, t, y, rfl, l15.web, we, s915 _ _ ht, vy.len, fun H16 p0 ys s16 hp0 hys hS => ?_⟩
      have s916 := s915.trans s16
      have hb1 : HsAt H16 o x := (l9.same s916).one
      have hc1 : HsAt H16 t y := s916 _ _ ht
      refine ⟨p0, rfl, ⟨_, SqL.of hys⟩, fun D hD => ?_⟩
      refine lc_list (K := K) (a := p0) (xs := ys) (fun i H' => Same H16 H' ∧ ∃ acc, H' D = some (.lst acc) ∧ PsAt H' acc (bar x y ((sortP (steepL L y)).take i))) ⟨same_upd hD, [], upd_same, .nil⟩ (fun i H' _ p => SqL.of (p.1 _ _ hys)) (fun i z H2 hi p => ?_) (fun H2 p => ?_)
      · obtain ⟨sm, acc, hacc, hps⟩ := p
        obtain ⟨⟨c1, d1⟩, hL, tz, rfl, htz⟩ := paired_get hS hi
        have hn := we.steepn y _ (List.mem_of_getElem? hL)
        have hn1 : c1 < n := hn.1
        have hn2 : d1 < n := hn.2
        have htz := sm _ _ htz
        have hb2 := sm _ _ hb1
        have hc2 := sm _ _ hc1
        have xc : (x.map V.int)[c1]? = some (.int (g x c1)) := map_get (by rw [vx.len]; exact hn1)
        have xd : (x.map V.int)[d1]? = some (.int (g x d1)) := map_get (by rw [vx.len]; exact hn2)
        have yc : (y.map V.int)[c1]? = some (.int (g y c1)) := map_get (by rw [vy.len]; exact hn1)
        have yd : (y.map V.int)[d1]? = some (.int (g y d1)) := map_get (by rw [vy.len]; exact hn2)
        have hlen : acc.length ≤ 100000 := by
          rw [Paired.length hps]
          have h1 := we.slen y
          have h3 : (bar x y ((sortP (steepL L y)).take i)).length ≤ ((sortP (steepL L y)).take i).length := List.length_filter_le _ _
          rw [List.length_take] at h3
          omega
        have etake : bar x y ((sortP (steepL L y)).take (i + 1)) = bar x y ((sortP (steepL L y)).take i) ++ (if barB x y (c1, d1) = true then [(c1, d1)] else []) := by
          rw [take_snoc hL]
          unfold bar
          rw [List.filter_append]
          congr 1
          by_cases q : barB x y (c1, d1) = true <;> simp [q]
        have put : barB x y (c1, d1) = true → tTup (tCons (tVar 9) (tCons (tVar 10) tNil)) [some (.ref a), some (.ref r), some (.ref wb), some (.int R), some (.ref o), some (.ref fd), some (.int (0 + (i : Int))), some (.ref t), y8, some (nV c1), some (nV d1)] H2 (fun yv H4 => ∃ acc, H4 D = some (.lst acc) ∧ acc.length < sizeLine ∧
            Same H16 (upd H4 D (.lst (acc ++ [yv]))) ∧ ∃ acc2, (upd H4 D (.lst (acc ++ [yv]))) D = some (.lst acc2) ∧ PsAt (upd H4 D (.lst (acc ++ [yv]))) acc2 (bar x y ((sortP (steepL L y)).take (i + 1)))) := fun q => by
          refine ⟨_, rfl, _, rfl, by show 2 ≤ sizeLine; decide, fun tp htp => ?_⟩
          have s3 := same_upd (o := .tup [nV c1, nV d1]) htp
          have e3 := s3 _ _ hacc
          refine ⟨acc, e3, line_small hlen, same_upd2 (sm.trans s3) hD, _, upd_same, ?_⟩
          have t4 := Tups.lst (o := .lst (acc ++ [.ref tp])) e3
          rw [etake, if_pos q]
          exact paired_append (PsAt.keep hps ((Tups.of s3).trans t4)) (.cons ⟨tp, rfl, t4 _ _ upd_same⟩ .nil)
        refine ⟨tz, _, rfl, SqT.of htz, rfl, _, _, rfl, _, _, rfl, rfl, rfl, ?_⟩
        refine ⟨_, rfl, _, rfl, o, _, (c1 : Int), _, rfl, rfl, SqT.of hb2, atI_nat xc, _, rfl, _, rfl, t, _, (c1 : Int), _, rfl, rfl, SqT.of hc2, atI_nat yc, _, _, rfl, rfl, _, rfl, ?_⟩
        by_cases q1 : g y c1 < g x c1
        · refine iteTT (decide_eq_true q1) (iteT ?_)
          exact put (by unfold barB; rw [decide_eq_true (show g x c1 > g y c1 from q1)]; rfl)
        · refine iteFF (decide_eq_false q1) ?_
          refine ⟨_, rfl, _, rfl, o, _, (d1 : Int), _, rfl, rfl, SqT.of hb2, atI_nat xd, _, rfl, _, rfl, t, _, (d1 : Int), _, rfl, rfl, SqT.of hc2, atI_nat yd, _, _, rfl, rfl, _, rfl, ?_⟩
          by_cases q2 : g x d1 < g y d1
          · refine iteTT (decide_eq_true q2) ?_
            exact put (by unfold barB; rw [decide_eq_true (show g y d1 > g x d1 from q2), Bool.or_true])
          · refine iteFF (decide_eq_false q2) ?_
            refine ⟨sm, acc, hacc, ?_⟩
            have qb : barB x y (c1, d1) = false := by
              unfold barB
              rw [decide_eq_false (show ¬ g x c1 > g y c1 from q1), decide_eq_false (show ¬ g y d1 > g x d1 from q2)]
              rfl
            rw [etake, if_neg (by rw [qb]; exact Bool.false_ne_true), List.append_nil]
            exact hps
      · obtain ⟨sm, acc, hacc, hps⟩ := p
        rw [Paired.length hS, List.take_length] at hps
        have s92 := s916.trans sm
        -- bars
        refine ⟨_, rfl, _, rfl, _, rfl, _, rfl, wb, n, L, R, o, x, t, y, arg _ s92, fun H17 pb zs s17 hzs hpz => ?_⟩
        refine ⟨_, rfl, D, acc, rfl, .inl ⟨SqL.of (s17 _ _ hacc), fun l hl => ?_⟩⟩
        have s18 := same_upd (o := .tup acc) hl
        refine ⟨pb, l, zs, acc, bar x y (sortP (steepL L y)), rfl, s18 _ _ hzs, upd_same, hpz.keep (Tups.of s18), PsAt.keep hps (Tups.of (s17.trans s18)), ?_, fun H19 s19 => ⟨_, rfl, iteF ?_⟩⟩
        · have h1 := we.slen y
          have h3 : (bar x y (sortP (steepL L y))).length ≤ (sortP (steepL L y)).length := List.length_filter_le _ _
          omega
        · exact ⟨_, _, _, _, _, rfl, l9.same (((s92.trans s17).trans s18).trans s19)⟩
    refine ⟨_, rfl, _, rfl, fd, _, rfl, l14.get (s914 _ _ ht), _, rfl, ?_⟩
    cases el : look F y with
    | none => exact iteFF rfl (iteF (rest _ s914))
    | some d =>
      refine iteTT rfl ?_
      obtain ⟨c, ed⟩ := l9.kn.there y d el
      have gg := l14.get (s914 _ _ ht)
      rw [el] at gg
      refine ⟨_, rfl, _, rfl, fd, _, rfl, gg, _, rfl, _, rfl, o, x, t, y, rfl, l14.one, s914 _ _ ht, by rw [vx.len, vy.len], by rw [vx.len]; have := we.n5; omega, fun H15 s15 => ?_⟩
      refine ⟨rfl, _, rfl, iteNS (by rw [ed]) (rest _ (s914.trans s15))⟩
end
end Lev
set_option Elab.async false
set_option linter.all false
set_option maxRecDepth 100000
set_option maxHeartbeats 0
namespace Lev
open PySem PySem.Spec PyProof.Rows L2
def dOf (x : Str) (st : Stmt) : He.DefD := ⟨(x, none), x, x, defArgs st, defBody st, defScope st, [], []⟩
def fn : List He.DefD := [dOf "is_in" sIsIn, dOf "is_edge" sIsEdge, dOf "need_web" sNeedWeb, dOf "need_roof" sNeedRoof, dOf "need_table" sNeedTable, dOf "need_heights" sNeedHeights, dOf "need_one" sNeedOne, dOf "need_two" sNeedTwo,
  dOf "steep_in" sSteepIn, dOf "comes_in" sComesIn, dOf "can_come" sCanCome, dOf "bars" sBars, dOf "steps_in" sStepsIn, dOf "fewest" sFewest, dOf "_law_taken" sTaken, dOf "_law_pick" sPick, dOf "_law_many" sMany, dOf "_law_table" sTable,
  dOf "_law_heights" sHeights, dOf "_law_step" sStep, dOf "_law_beside" sBeside, dOf "_law_deeds" sDeeds, dOf "_law_after" sAfter, dOf "_law_from" sFrom, dOf "_law_there" sThere, dOf "_law_alike" sAlike, dOf "_law_comes" sComes, dOf "_law_off" sOff,
  dOf "_law_steep" sSteep, dOf "law" sLaw]
def names1 : List Str := ["HeapError", "BadWeb", "BadRoof", "BadHeights", "is_in", "MOST_PLACES", "MOST_ROOF", "is_edge", "need_web", "need_roof", "need_table", "need_heights", "need_one", "need_two", "HIGH"]
def names2 : List Str := ["steep_in", "comes_in", "can_come", "bars", "steps_in", "fewest", "_law_taken", "_law_pick", "_law_many", "_law_table", "_law_heights", "_law_step", "_law_beside", "_law_deeds", "_law_after", "_law_from", "_law_there", "_law_alike",
  "_law_comes", "_law_off", "_law_steep"]
def names : List Str := names1 ++ names2
def frees : List Str := ["isinstance", "tuple", "list", "int", "bool", "str", "len", "enumerate", "sorted", "set", "range", "sum", "abs", "min", "max"]
def fa : List He.Fa := (fn.map fun d => .glo d.name) ++ (frees.map fun x => .free x) ++ [.int "MOST_PLACES" 9, .int "MOST_ROOF" 9, .int "HIGH" 2]
abbrev R : PySem.W.OpenRow := PySem.W.OpenLaw.row PySem.Challenge.rw_levellers_k05_whole_heights_that_come
abbrev hk : PySem.W.Hook := He.hookD 4 fa fn
def ob (s : PySem.W.SharedT) : He.AlD := He.obsDG 4 fa fn (HandSHeadRun.getT s)
theorem ob_eq (s : PySem.W.SharedT) : ob s = hk.obs s.abs := He.obsDG_eq (HandSHeadRun.getT_eq s)
theorem run (w : World) : HandSHeadRun.RunEq R (PySem.W.view R.prog [42]) hk ob 4000 names w := by
  intro os
  kernel_rfl
end Lev
set_option Elab.async false
set_option linter.all false
set_option maxRecDepth 100000
set_option maxHeartbeats 0
namespace Lev
open PySem PySem.Spec PyProof.Rows L2
theorem scl_of {K : PySem.W.Frag} {H : Hp} {a : Addr} {xs : List V} (o : Only H) (h : SqL K H a xs) : ScL K H a xs := by
  rcases h with h | h
  · rcases h with h | ⟨ob, h⟩
    · rcases o a with e | ⟨ob, ys, e⟩
      · rw [e] at h
        cases h
      · rw [e] at h
        cases h
    · exact .inl ⟨ob, h⟩
  · exact .inr fun _ => .inr h
section
variable {P : Program} {w : World} {K : PySem.W.Frag} {h : Heap} {mg : Str → Option Value}
theorem at_of_ (X : K.In h) (G : h.Ns mainGlobals mg) (c : He.SaysD fa fn K) (i : Nat) {x : Str} {st : Stmt} (h1 : fn[i]? = some (dOf x st)) (h2 : fa[i]? = some (.glo x)) : At K mg x st := by
  obtain ⟨fd, F⟩ := c.def_ i h1
  exact ⟨_, fd, F, He.glo_ok X G (c.fact i h2)⟩
theorem facts {f : Addr} (X : K.In h) (G : h.Ns mainGlobals mg) (hfa : mg ("law" : Str) = some (.ref f)) (c : He.SaysD fa fn K) :
    ∃ fd : FuncData, (∀ (s : Shared) (v : Value), BindsTo s fd ⟨[v], []⟩ [("_law_script", v)]) ∧ ∀ base : Heap, K.In base → base.Ns mainGlobals mg → FnOk P w K mg base CX0 8 f fd ["_law_script"] (spLaw K) := by
  obtain ⟨fdL, FL⟩ := c.def_ 29 (d := dOf "law" sLaw) rfl
  have gL : mg ("law" : Str) = some (.ref (He.ga K "law")) := He.glo_ok X G (c.fact 29 (f := .glo "law") rfl)
  have e := hfa.symm.trans gL
  cases e
  have b := FunD.bindsA (ps := ["_law_script"]) FL fun _ _ _ _ _ _ us hl => match us, hl with | [_], _ => rfl
  have T : Free mg := ⟨He.free_ok X G (c.fact 30 (f := .free "isinstance") rfl), He.free_ok X G (c.fact 31 (f := .free "tuple") rfl), He.free_ok X G (c.fact 32 (f := .free "list") rfl), He.free_ok X G (c.fact 33 (f := .free "int") rfl),
    He.free_ok X G (c.fact 34 (f := .free "bool") rfl), He.free_ok X G (c.fact 35 (f := .free "str") rfl), He.free_ok X G (c.fact 36 (f := .free "len") rfl), He.free_ok X G (c.fact 37 (f := .free "enumerate") rfl),
    He.free_ok X G (c.fact 38 (f := .free "sorted") rfl), He.free_ok X G (c.fact 39 (f := .free "set") rfl), He.free_ok X G (c.fact 40 (f := .free "range") rfl), He.free_ok X G (c.fact 41 (f := .free "sum") rfl),
    He.free_ok X G (c.fact 42 (f := .free "abs") rfl), He.free_ok X G (c.fact 43 (f := .free "min") rfl), He.free_ok X G (c.fact 44 (f := .free "max") rfl)⟩
  have C : Cst mg := ⟨He.int_ok X G (c.fact 45 (f := .int "MOST_PLACES" 9) rfl), He.int_ok X G (c.fact 46 (f := .int "MOST_ROOF" 9) rfl), He.int_ok X G (c.fact 47 (f := .int "HIGH" 2) rfl)⟩
  refine ⟨fdL, fun s v => b s [v] rfl, fun base _ _ => ?_⟩
  have hIsIn := ok_isIn (P := P) (w := w) (base := base) (at_of_ X G c 0 rfl rfl) T
  have hIsEdge := ok_isEdge (at_of_ X G c 1 rfl rfl) T hIsIn
  have hNeedWeb := ok_needWeb (at_of_ X G c 2 rfl rfl) T C hIsIn hIsEdge
  have hNeedRoof := ok_needRoof (at_of_ X G c 3 rfl rfl) C hIsIn
  have hNeedTable := ok_needTable (at_of_ X G c 4 rfl rfl) hNeedWeb hNeedRoof
  have hNeedHeights := ok_needHeights (at_of_ X G c 5 rfl rfl) T hIsIn
  have hNeedOne := ok_needOne (at_of_ X G c 6 rfl rfl) hNeedTable hNeedHeights
  have hNeedTwo := ok_needTwo (at_of_ X G c 7 rfl rfl) hNeedOne hNeedHeights
  have hSteepIn := ok_steepIn (P := P) (w := w) (base := base) (at_of_ X G c 8 rfl rfl) T C
  have hComesIn := ok_comesIn (at_of_ X G c 9 rfl rfl) hSteepIn
  have hCanCome := ok_canCome (at_of_ X G c 10 rfl rfl) hNeedTwo hComesIn
  have hBars := ok_bars (at_of_ X G c 11 rfl rfl) T hNeedTwo hSteepIn
  have hStepsIn := ok_stepsIn (P := P) (w := w) (base := base) (at_of_ X G c 12 rfl rfl) T
  have hFewest := ok_fewest (at_of_ X G c 13 rfl rfl) hNeedTwo hComesIn hStepsIn
  have hTaken := ok_taken (P := P) (w := w) (base := base) (at_of_ X G c 14 rfl rfl) T
  have hPick := ok_pick (at_of_ X G c 15 rfl rfl) T hTaken
  have hMany := ok_many (P := P) (w := w) (base := base) (at_of_ X G c 16 rfl rfl) T
  have hTable := ok_table (at_of_ X G c 17 rfl rfl) T hTaken hPick hMany
  have hHeights := ok_heights (at_of_ X G c 18 rfl rfl) T hTaken
  have hStep := ok_step (P := P) (w := w) (base := base) (at_of_ X G c 19 rfl rfl) T
  have hBeside := ok_beside (P := P) (w := w) (base := base) (at_of_ X G c 20 rfl rfl) T
  have hDeeds := ok_deeds (at_of_ X G c 21 rfl rfl) T hBeside
  have hAfter := ok_after (at_of_ X G c 22 rfl rfl) hDeeds hStep
  have hFrom := ok_from (at_of_ X G c 23 rfl rfl) hAfter
  have hThere := ok_there (at_of_ X G c 24 rfl rfl) T hTaken hPick hAfter hHeights
  have aAlike : At K mg "_law_alike" sAlike := at_of_ X G c 25 rfl rfl
  have hComes := ok_comes (P := P) (w := w) (base := base) (at_of_ X G c 26 rfl rfl)
  have hOff := ok_off (P := P) (w := w) (base := base) (at_of_ X G c 27 rfl rfl) T
  have hSteep := ok_steep (P := P) (w := w) (base := base) (at_of_ X G c 28 rfl rfl) T
  exact (ok_law FL gL T ⟨hTable, hHeights, hFrom, hPick, hThere, ok_alike0 aAlike T, ok_alike2 aAlike T, hCanCome, hComes, hFewest, hOff, hSteep, hBars⟩).ok
end
end Lev
open PySem PySem.W PySem.Calls PyProof.Rows
set_option maxHeartbeats 0 in
theorem PySem.Challenge.cw_levellers_k05_whole_heights_that_come_holds : PySem.Challenge.rw_levellers_k05_whole_heights_that_come.Holds := by
  w_on; o_law
  refine HandSHeadRun.head_any (r := OpenLaw.row PySem.Challenge.rw_levellers_k05_whole_heights_that_come) (q := view (OpenLaw.row PySem.Challenge.rw_levellers_k05_whole_heights_that_come).prog [42]) (H := Lev.hk) (ob := Lev.ob) (M := 4000) (loose := Lev.names)
    (d := HandSHeadRun.topDef (OpenLaw.row PySem.Challenge.rw_levellers_k05_whole_heights_that_come).prog 42) (kwd := []) Lev.ob_eq
    (by kernel_rfl) (fun s => by kernel_rfl) Lev.run (by kernel_rfl) (by kernel_rfl) (by kernel_rfl) (by rfl) (by first | assumption | decide +kernel) (by decide +kernel) ⟨rfl, rfl, rfl, rfl, rfl, by decide +kernel⟩ ?hw ?hc
  case hw => w_witness2
  case hc =>
    refine L2.walk_ofE (l := PySem.Challenge.rw_levellers_k05_whole_heights_that_come) (n := 63) (k := 8) (x := "_law_script") (CX := L2.CX0) rfl (by decide) (by kernel_rfl) ⟨rfl, by decide, by decide⟩ ?F (fun _ _ _ _ z => z)
    intro w mg fa h Y G hmg0
    obtain ⟨K, KX, c⟩ := Y
    have hmg : mg ("law" : PySem.Str) = some (.ref fa) := by
      have e : (HandSHeadRun.topDef (OpenLaw.row PySem.Challenge.rw_levellers_k05_whole_heights_that_come).prog 42).name = ("law" : PySem.Str) := by kernel_rfl
      rw [← e]
      exact hmg0
    obtain ⟨fd, hb, hF⟩ := Lev.facts (P := (PySem.Challenge.rw_levellers_k05_whole_heights_that_come).prog) (w := w) KX G hmg c
    exact ⟨K, fd, Lev.spLaw K, KX, hb, fun H a ns hl hO hS => ⟨a, ns, rfl, Lev.scl_of hO hS, fun _ => rfl⟩, hF⟩
#print axioms PySem.Challenge.cw_levellers_k05_whole_heights_that_come_holds

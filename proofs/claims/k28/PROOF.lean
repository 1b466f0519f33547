import PyProof.Rows.All
import HandS.Iter
import KE.GoesMore
import PyProof.EnumMake
import PyProof.Draws
import Wide.All
import OpenK.AllK
import Wide.FinOn
import HandS.ForMost
import HandS.Exc
import HandS.ExcOwn
import HandS.WordsExc
import HandS.Flow
import HandS.TupAny
import HandS.IsInst
import HandS.SortRule
import HandS.CallSlots
import HandS.NoneIn
import HandS.TupLen
import KE.KeyNested
import HandS.NestedK
import HandS.Wide
import HandS.Deep
import KE.SortData
import HandS.More
import HandS.Text
import HandS.StrMore
import HandS.Defaults
import HandS.ExcInit
import HandS.ExcIs
import HandS.ExcField
import KE.KExcIs
import HandS.HeadHook2
import HandS.HeadWalk
import HandS.Conv
import HandS.Style
import HandS.MakeKwOnly
import HandS.HeadEnd
import HandS.Head2
import HandS.Codes
import HandS.EndTab
import HandS.HeadHook4
import HandS.TryMany
import HandS.TryOnly
import HandS.Head0
import HandS.Head1
import HandS.HeadHook1
import Lean
import PySem.Challenge.RW_firstway_k28_simplified_by_the_rules
set_option Elab.async false
set_option linter.all false
set_option maxRecDepth 100000
set_option maxHeartbeats 8000000
namespace DL
open PySem L2
open AutoSeq1 (wpAny_loadPart')
theorem meets_enumerate_newT (l : Addr) (items : Array Value) (dct : Option Addr) (sl : Array (Option Value)) (n : Nat) :
    Meets (Builtin.«enumerate.__new__» ⟨[.type "enumerate", .ref l], []⟩) (fun _ R s => s.heap.get? l = some { cls := .type "tuple", dict := dct, data := .seq items n, slots := sl } ∧
      R (.ok (.ret (.ref (s.heap.push { cls := .type "tuple_iterator", data := .fields #[.ref l, .int 0 0] }).objs.size)))
        { s with heap := (s.heap.push { cls := .type "tuple_iterator", data := .fields #[.ref l, .int 0 0] }).push { cls := .type "enumerate", data := .fields #[.none, .bool false, .ref s.heap.objs.size, rawInt 0, .none, .none] } }) :=
  .of_wp fun prog w A R s h => by
    obtain ⟨hp, g, d, tk, os⟩ := s; obtain ⟨hl, h⟩ := h
    have hsub := sub_enumerate
    have hL : Heap.IsTuple (Shared.heap ⟨hp, g, d, tk, os⟩) l items := ⟨_, hl, rfl, n, rfl⟩
    wp_walk using wpAny_loadPart' hl
    refine wpAny_stack_any fun st => wpAny_pure ?_
    split
    · rename_i c _ _ _ _ _
      cases (c == Value.type "enumerate")
      · wp_walk using wpAny_loadPart' hl, wpAny_pyIter_tuple hL
        exact ⟨_, rfl, h⟩
      · wp_walk using wpAny_loadPart' hl, wpAny_pyIter_tuple hL
        exact ⟨_, rfl, h⟩
    · wp_walk using wpAny_loadPart' hl, wpAny_pyIter_tuple hL
      exact ⟨_, rfl, h⟩
section
variable {prog : Program} {w : World} {A : Around} {E : Value → Shared → Prop} {s : Shared}
theorem call_enumerate_tuple {l : Addr} {items : Array Value} {Q : Value → Shared → Prop} (hL : s.heap.IsTuple l items)
    (h : ∀ h', IsEnum h' (s.heap.objs.size + 1) s.heap.objs.size 0 .none → h'.IsTupleIter s.heap.objs.size l 0 → h'.objs.size = s.heap.objs.size + 2 →
      (∀ b o, s.heap.get? b = some o → h'.get? b = some o) → Q (.ref (s.heap.objs.size + 1)) { s with heap := h' }) :
    wpAny (model prog w) A (call (.type "enumerate") [.ref l]) Q E s := by
  obtain ⟨⟨c, dct, dt, sl⟩, hl, hc, n, hd⟩ := hL
  replace hc : c = .type "tuple" := hc
  replace hd : dt = .seq items n := hd
  subst hc hd
  refine callType_new F.called_enumerate (by decide) (F.typeCall_enumerate_1 _) (F.newCall_enumerate_1 _) (fun obj => F.args_object_init_2 obj _) F.entry_enumerate_new
    (meets_enumerate_newT l items dct sl n) ⟨hl, ?_⟩
  have hz : (s.heap.push { cls := .type "tuple_iterator", data := .fields #[.ref l, .int 0 0] }).objs.size = s.heap.objs.size + 1 := Heap.size_push ..
  show _ ∧ _
  rw [hz]
  have he : IsEnum ((s.heap.push { cls := .type "tuple_iterator", data := .fields #[.ref l, .int 0 0] }).push
      { cls := .type "enumerate", data := .fields #[.none, .bool false, .ref s.heap.objs.size, rawInt 0, .none, .none] }) (s.heap.objs.size + 1) s.heap.objs.size 0 .none := by
    have := Heap.get?_push_size (s.heap.push { cls := .type "tuple_iterator", data := .fields #[.ref l, .int 0 0] })
      (o := { cls := .type "enumerate", data := .fields #[.none, .bool false, .ref s.heap.objs.size, rawInt 0, .none, .none] }) rfl
    rw [hz] at this; exact this
  refine ⟨⟨_, he, rfl⟩, h _ he ⟨_, Heap.get?_push_of_some _ (Heap.get?_push_size _ rfl), rfl, rfl⟩ (by rw [Heap.size_push, hz]) fun b o x => Heap.get?_push_of_some _ (Heap.get?_push_of_some _ x)⟩
end
theorem wpAny_pyNext_enum_endT {prog : Program} {w : World} {A : Around} {E : Value → Shared → Prop} {s : Shared} {e it l : Addr} {i : Nat} {items : Array Value} {old : Value} {Q : Option Value → Shared → Prop} (hh : A.handled = none)
    (he : IsEnum s.heap e it i old) (hit : s.heap.IsTupleIter it l i) (hl : s.heap.IsTuple l items) (hx : items[i]? = none)
    (hQ : ∀ h', Heap.ExtBut it s.heap h' → Q none { s with heap := h' }) : wpAny (model prog w) A (pyNext (.ref e)) Q E s := by
  have hT : s.TypeIs (.ref e) "enumerate" := ⟨_, he, rfl⟩
  unfold pyNext
  refine wpAny_bind (wpAny_attempt (wpAny_callSpecial?_slot (name := Str.ofString "__next__") hT F.slot_enumerate_next
    (wpAny_call_entry F.slot_enumerate_next hT F.entry_enumerate_next ?_ (F.args_enumerate_next_1 _))))
  show wpAny _ _ (field (.ref e) 2 >>= _) _ _ _
  refine wpAny_bind (wpAny_field he rfl (x := .ref it) rfl ?_)
  refine wpAny_bind (wpAny_nextOf_tuple_end hh hit hl hx fun h' x he' hx' => ?_)
  obtain ⟨o, ho, hc⟩ := hx'
  refine wpAny_bind (wpAny_isInstance (T := "StopIteration") (b := true) ⟨o, ho, hc⟩ isSubtype_stop ?_)
  exact wpAny_pure (hQ _ he')
/-- the tuple at a, each item in a new pair -/
def IteT (K : PySem.W.Frag) (a : Addr) : It :=
  ⟨fun i H => ∃ (xs : List V) (x : V), SqT K H a xs ∧ xs[i]? = some x, fun i H v H' => ∃ T x, v = .ref T ∧ H T = none ∧ H' = upd H T (.tup [.int (i : Nat), x]) ∧ ∀ xs, SqT K H a xs → xs[i]? = some x, fun i H => ∃ xs : List V, SqT K H a xs ∧ xs.length ≤ i⟩
theorem turn_enumT {P : Program} {w : World} {K : PySem.W.Frag} {elts : List Expr} {kk : Nat} {tpos : Pos} (a e it : Addr) (hat : a ≠ it) (hae : a ≠ e) :
    Turn P w K (.Tuple elts kk tpos) (IteT K a) [e, it] e (fun i h => (∃ old, IsEnum h e it ((i : Nat) : Int) old) ∧ h.IsTupleIter it a i ∧ e ≠ it) where
  mem := by simp
  obj := fun i h st b hb => by
    obtain ⟨⟨old, he⟩, ⟨o, ho, hc, hd⟩, _⟩ := st
    have e' : b = e ∨ b = it := by simpa using hb
    rcases e' with z | z
    · rw [z]; exact ⟨_, he, fun v q => nomatch q⟩
    · rw [z]; exact ⟨o, ho, fun v q => by rw [hd] at q; cases q⟩
  keep := fun i h h' st k => let ⟨⟨old, he⟩, hi, hne⟩ := st; ⟨⟨old, k e (by simp) _ he⟩, hi.at fun o q => k it (by simp) o q, hne⟩
  item := by
    intro X hP hw hK hc i pins s σ H E I hf st hg
    subst hP hw hK
    obtain ⟨⟨old, he⟩, hit, hne⟩ := st
    obtain ⟨xs, x, hq, hx⟩ := hg
    obtain ⟨its, rv, p, hz⟩ := I.tuple hq
    obtain ⟨u, hu, ru⟩ := rv.get hx
    have hel : e < s.heap.objs.size := Heap.lt_size he
    have hil : it < s.heap.objs.size := by obtain ⟨_, q, _⟩ := hit; exact Heap.lt_size q
    have p' : s.heap.IsTuple a its.toArray := p
    have hlt : i < its.toArray.size := by have := (List.getElem?_eq_some_iff.mp hu).1; simpa using this
    have D := Draws.tuple (prog := X.prog) (w := X.w) (A := X.A.in1) (I.ok.hd hc) it a hat its.toArray
    refine wpAny_pyNext_enum_itemD (n := its.toArray.size) D he ⟨hit, p'⟩ hlt hne (fun z => by
      have e' : e = it ∨ e = a := by simpa using z
      rcases e' with z | z
      · exact hne z
      · exact hae z.symm) fun x' h' tk hPx ho hst hT hsz hk => ?_
    have hx' : x' = u := by
      have : its.toArray[i]? = some u := by simpa using hu
      rw [this] at hPx; exact (Option.some.inj hPx).symm
    subst hx'
    refine ⟨_, rfl, wpAny_letOwnedTupleGo_enum (s := { s with heap := h', toks := tk + 1 }) ho fun h'' he' sb => ?_⟩
    have hT2 : h''.get? s.heap.objs.size = some { cls := .type "tuple", data := .seq #[.int i tk, x'] } := (sb.2 _ (Nat.ne_of_gt hel)).trans hT
    have new : ObjOk X.prog X.w (upd H s.heap.objs.size (.tup [.int (i : Nat), x])) h'' s.heap.objs.size (.tup [.int (i : Nat), x]) :=
      ⟨by show 2 ≤ sizeLine; decide, [.int i tk, x'], .cons ⟨_, rfl⟩ (.cons ru .nil), ⟨_, hT2, rfl, _, rfl⟩⟩
    have I1 : Inv X pins σ (upd H s.heap.objs.size (.tup [.int (i : Nat), x])) { s with heap := h'', toks := tk + 1 } :=
      I.turnedNew (ch := [e, it]) (fun b ob hb q => (sb.2 b (fun z => hb (by simp [z]))).trans (hk b ob (fun z => hb (by simp [z])) (fun z => hb (by simp [z])) q)) hf (Nat.le_refl _) new
    refine ⟨.ref s.heap.objs.size, _, I1, rfl, ⟨_, x, rfl, I.hok.fresh (Nat.le_refl _), rfl, fun ys hy => by rw [I.tuple_inj hy hq]; exact hx⟩, ⟨⟨x', ?_⟩, hst.1.at fun o q => (sb.2 it (Ne.symm hne)).trans q, hne⟩, fun b hb => ?_⟩
    · have e1 : ((i + 1 : Nat) : Int) = (i : Int) + 1 := by omega
      rw [e1]; exact he'
    · have hb' : b < s.heap.objs.size := by
        have e' : b = e ∨ b = it := by simpa using hb
        rcases e' with z | z
        · rw [z]; exact hel
        · rw [z]; exact hil
      rw [upd_ne (Nat.ne_of_lt hb')]
      exact (hf b hb).1
  done := by
    intro X hP hw hK hc i pins s σ H E I hf st hg
    subst hP hw hK
    obtain ⟨⟨old, he⟩, hit, hne⟩ := st
    obtain ⟨xs, hq, hx⟩ := hg
    obtain ⟨its, rv, p, hz⟩ := I.tuple hq
    obtain ⟨f0, f1, f2, f3, f4, f5⟩ := hf it (by simp)
    have hl := rv.length
    have p' : s.heap.IsTuple a its.toArray := p
    exact wpAny_pyNext_enum_endT (I.ok.hd hc) he hit p' (by simp; omega) fun h' eb => ⟨rfl, I.turned (t' := s.toks) (fun b o hb q => eb b o hb q) f0 f1 f3 f4 f5⟩
  self := fun A i s Q E st h => let ⟨⟨_, he⟩, _⟩ := st; wpAny_pyIter_enum he h
def iEnumT (K : PySem.W.Frag) (ta : TA) : TI := fun σ H R => ta σ H fun vs H1 => ∃ a xs, vs = [.ref a] ∧ SqT K H1 a xs ∧ R (IteT K a) H1
theorem pi_enumT {X : Cx} {e : Expr} {ta : TA} {p pos tpos : Pos} {elts : List Expr} {kk : Nat} (hg : Gl X "enumerate") (hm : X.mg "enumerate" = none) (ha : PA X [e] ta) (hs : starEach [e] X.env = [(false, eval e X.env)] := by rfl) :
    PI X (.Tuple elts kk tpos) (.Call (.Name "enumerate" p) [e] [] pos) (iEnumT X.K ta) := by
  refine ⟨fun pins s σ H R I h => ?_⟩
  refine PyProof.Rows.Call_ (ld_blt I hg hm PyProof.Rows.boot_enumerate (PyProof.Rows.callWith_type1 (thn (ha.run pos pins s σ H _ I h) fun us s1 ⟨vs, H1, I1, r1, q1⟩ => ?_) hs rfl))
  obtain ⟨a, xs, ex, hq, q⟩ := q1
  subst ex
  cases r1 with
  | cons r rr =>
    cases rr
    cases r
    obtain ⟨its, rv, p', hz⟩ := I1.tuple hq
    have p2 : s1.heap.IsTuple a its.toArray := p'
    have hal : a < s1.heap.objs.size := by obtain ⟨_, z, _⟩ := p2; exact Heap.lt_size z
    refine call_enumerate_tuple p2 fun h' he hit hsz hk => wpAny_pyIter_enum he ?_
    have I2 : Inv X pins σ H1 { s1 with heap := h' } := I1.kept (t' := s1.toks) hk
    refine ⟨s1.heap.objs.size + 1, [s1.heap.objs.size + 1, s1.heap.objs.size], _, _, H1, rfl, I2, turn_enumT a (s1.heap.objs.size + 1) s1.heap.objs.size (Nat.ne_of_lt hal) (Nat.ne_of_lt (Nat.lt_succ_of_lt hal)), ⟨⟨.none, he⟩, hit, Nat.succ_ne_self _⟩, fun b hb => ?_, q⟩
    have e' : b = s1.heap.objs.size + 1 ∨ b = s1.heap.objs.size := by simpa using hb
    have hle : s1.heap.objs.size ≤ b := by
      rcases e' with z | z
      · rw [z]; exact Nat.le_add_right _ _
      · rw [z]; exact Nat.le_refl _
    exact I1.fpOk hle (I1.hok.fresh hle)
end DL
namespace DL
open PySem PySem.Spec PyProof.Rows L2
/-- a dict by None, ints, texts -/
def FD (pg : Program) (w : World) (a : Addr) (us : List (Option Key × V)) : HO := .ext fun h =>
  us.length ≤ sizeLine ∧ (a == sysModules) = false ∧ ∃ vs, KV us vs ∧ h.DictOf (noneKind pg w) a vs
def kVo : Option Key → V
  | none => .non
  | some k => kV k
theorem kVo_is {P : Program} {w : World} {k : Option Key} {u : Value} (r : RelV (kVo k) u) : (noneKind P w).is k u = true := by
  cases k with
  | none => have r : u = Value.none := r; subst r; rfl
  | some k => exact kV_is (P := P) (w := w) r
section
variable {X : Cx} {pins : List (Addr × Obj)} {σ : L2.St} {H : Hp} {s : Shared} {a : Addr} {y v : V} {u r : Value} {A : Around} {E : Value → Shared → Prop} {us : List (Option Key × V)} {k : Option Key}
theorem fd_of (I : Inv X pins σ H s) (e : H a = some (FD X.prog X.w a us)) : us.length ≤ sizeLine ∧ (a == sysModules) = false ∧ ∃ vs, KV us vs ∧ s.heap.DictOf (noneKind X.prog X.w) a vs := by
  obtain ⟨z, _, _⟩ := I.hok a _ e
  exact z
theorem fd_getItem {Q : Value → Shared → Prop} (I : Inv X pins σ H s) (e : H a = some (FD X.prog X.w a us)) (l : valV us k = some v) (ry : RelV (kVo k) u) (h : ∀ w' s', Inv X pins σ H s' → RelV v w' → Q w' s') :
    wpAny (model X.prog X.w) A (getItem (.ref a) u) Q E s := by
  obtain ⟨z, hd, vs, rel, dd⟩ := fd_of I e
  obtain ⟨w', hw, rw'⟩ := RelO.some_of (v := v) (o := valueAt vs k) (by rw [← l]; exact rel.val k)
  exact wpAny_getItem_of (kVo_is ry) dd.mapOf hw (h w' _ (I.tok _) rw')
theorem fd_in {Q : Value → Shared → Prop} (I : Inv X pins σ H s) (e : H a = some (FD X.prog X.w a us)) (ry : RelV (kVo k) u) (h : ∀ s', Inv X pins σ H s' → Q (.bool (valV us k).isSome) s') :
    wpAny (model X.prog X.w) A (compareOp .In u (.ref a)) Q E s := by
  obtain ⟨z, hd, vs, rel, dd⟩ := fd_of I e
  refine wpAny_in_of (kVo_is ry) hd dd.mapOf ?_
  rw [← (rel.val k).isSome_eq]
  exact h _ (I.tok _)
theorem fd_notIn {Q : Value → Shared → Prop} (I : Inv X pins σ H s) (e : H a = some (FD X.prog X.w a us)) (ry : RelV (kVo k) u) (h : ∀ s', Inv X pins σ H s' → Q (.bool (!(valV us k).isSome)) s') :
    wpAny (model X.prog X.w) A (compareOp .NotIn u (.ref a)) Q E s := by
  obtain ⟨z, hd, vs, rel, dd⟩ := fd_of I e
  refine wpAny_notIn_of (kVo_is ry) hd dd.mapOf ?_
  rw [← (rel.val k).isSome_eq]
  exact h _ (I.tok _)
theorem fd_ok {P : Program} {w : World} {H' : Hp} {h' : Heap} {us : List (Option Key × V)} {vs : List (Option Key × Value)} (z : us.length ≤ sizeLine) (hd : (a == sysModules) = false) (rel : KV us vs) (dd : h'.DictOf (noneKind P w) a vs) :
    ObjOk P w H' h' a (FD P w a us) := by
  refine ⟨⟨z, hd, vs, rel, dd⟩, ?_, ?_⟩
  · obtain ⟨o, _, _, ho, _⟩ := dd; exact ⟨o, ho⟩
  · rintro h1 h2 ⟨z, hd, vs, rel, o, es, ep, ho, hx, hdt, hk, hp, hn⟩ st
    exact ⟨z, hd, vs, rel, o, es, ep, st _ ho, hx, hdt, hk, hp, hn⟩
theorem fd_setItem {Q : Unit → Shared → Prop} (I : Inv X pins σ H s) (e : H a = some (FD X.prog X.w a us)) (l : us.length < sizeLine) (ry : RelV (kVo k) u) (rv : RelV v r)
    (h : ∀ s', Inv X pins σ (upd H a (FD X.prog X.w a (putK us k v))) s' → Q () s') : wpAny (model X.prog X.w) A (setItem (.ref a) u r) Q E s := by
  obtain ⟨z, hd, vs, rel, dd⟩ := fd_of I e
  have hz : vs.length ≤ sizeLine := by rw [← rel.length]; exact z
  have hl : (putK us k v).length ≤ sizeLine := by have := length_putK us k v; omega
  refine wpAny_setItem_pairs (hsz := hz) (kVo_is ry) dd fun h' dd' hs => h _ ?_
  have he : ∃ q, h'.get? a = some q := let ⟨q, _, _, hq, _⟩ := dd'; ⟨q, hq⟩
  exact d_write I (by rw [e]; exact True.intro) hs he (fd_ok hl hd (rel.put k rv) dd')
end
/-- the entries: the key, where its tuple lies, the value -/
def TD (pg : Program) (w : World) (a : Addr) (es : List (NestedKey × Addr × V)) : HO := .ext fun h =>
  es.length ≤ sizeLine ∧ (a == sysModules) = false ∧ ∃ xs : List (NestedKey × Addr × Value), Paired (fun (p : NestedKey × Addr × V) (q : NestedKey × Addr × Value) => p.1 = q.1 ∧ p.2.1 = q.2.1 ∧ RelV p.2.2 q.2.2) es xs ∧
    ∃ o e ep, h.get? a = some o ∧ o.ExactDict ∧ o.data = .dict e ep ∧ e.toList = xs.map (entryOfKey (nestedKind pg w)) ∧ (xs.map (·.1)).Nodup
def tVal (es : List (NestedKey × Addr × V)) (k : NestedKey) : Option V := (es.find? fun x => decide (x.1 = k)).map (·.2.2)
def tPut (es : List (NestedKey × Addr × V)) (k : NestedKey) (b : Addr) (v : V) : List (NestedKey × Addr × V) :=
  if (es.any fun x => decide (x.1 = k)) = true then es.map (fun x => if x.1 = k then (x.1, x.2.1, v) else x) else es ++ [(k, b, v)]
abbrev TR : List (NestedKey × Addr × V) → List (NestedKey × Addr × Value) → Prop := Paired fun p q => p.1 = q.1 ∧ p.2.1 = q.2.1 ∧ RelV p.2.2 q.2.2
theorem TR.val {es xs} (r : TR es xs) (k : NestedKey) : RelO (tVal es k) ((atKey xs k).map (·.2)) := by
  induction r with
  | nil => exact True.intro
  | @cons p q ps qs h t ih =>
    obtain ⟨h1, _, h2⟩ := h
    by_cases e : p.1 = k
    · have e' : q.1 = k := h1.symm.trans e
      have b : atKey (q :: qs) k = some q.2 := by simp [atKey, List.find?_cons, e']
      have c : tVal (p :: ps) k = some p.2.2 := by simp [tVal, List.find?_cons, e]
      rw [c, b]; exact h2
    · have e' : ¬ q.1 = k := fun z => e (h1.trans z)
      have b : atKey (q :: qs) k = atKey qs k := by simp [atKey, List.find?_cons, e']
      have c : tVal (p :: ps) k = tVal ps k := by simp [tVal, List.find?_cons, e]
      rw [c, b]; exact ih
theorem TR.any {es xs} (r : TR es xs) (k : NestedKey) : (es.any fun x => decide (x.1 = k)) = (atKey xs k).isSome := by
  induction r with
  | nil => rfl
  | @cons p q ps qs h t ih =>
    obtain ⟨h1, _, h2⟩ := h
    rw [List.any_cons, ih]
    by_cases e : p.1 = k
    · have e' : q.1 = k := h1.symm.trans e
      have b : atKey (q :: qs) k = some q.2 := by simp [atKey, List.find?_cons, e']
      rw [b]; simp [e]
    · have e' : ¬ q.1 = k := fun z => e (h1.trans z)
      have b : atKey (q :: qs) k = atKey qs k := by simp [atKey, List.find?_cons, e']
      rw [b]; simp [e]
theorem TR.put {es xs} (r : TR es xs) (k : NestedKey) {b : Addr} {v : V} {u : Value} (rv : RelV v u) : TR (tPut es k b v) (storedH xs k b u) := by
  unfold tPut storedH
  rw [r.any]
  by_cases q : (atKey xs k).isSome = true
  · rw [if_pos q, if_pos q]
    clear q
    induction r with
    | nil => exact .nil
    | @cons p q ps qs h t ih =>
      rw [List.map_cons, List.map_cons]
      refine .cons ?_ ih
      obtain ⟨h1, h2, h3⟩ := h
      unfold putAt
      by_cases e : p.1 = k
      · rw [if_pos e, if_pos (h1.symm.trans e)]; exact ⟨h1, h2, rv⟩
      · rw [if_neg e, if_neg (fun z => e (h1.trans z))]; exact ⟨h1, h2, h3⟩
  · rw [if_neg q, if_neg q]; exact Paired.snoc r ⟨rfl, rfl, rv⟩
theorem tPut_len (es : List (NestedKey × Addr × V)) (k : NestedKey) (b : Addr) (v : V) : (tPut es k b v).length ≤ es.length + 1 := by
  unfold tPut
  split
  · rw [List.length_map]; omega
  · rw [List.length_append]; simp
theorem nested_room {A : Around} (hu : A.units + 10 < cLine) {pg : Program} {w : World} : (nestedKind pg w).room A.in1 := by
  show A.in1.units + 8 < cLine
  rw [Around.in1_units]; omega
section
variable {X : Cx} {pins : List (Addr × Obj)} {σ : L2.St} {H : Hp} {s : Shared} {a b : Addr} {y v : V} {u r : Value} {A : Around} {E : Value → Shared → Prop} {es : List (NestedKey × Addr × V)} {k : NestedKey}
/-- the keys lie as they should -/
def KeysAt (pg : Program) (w : World) (h : Heap) (es : List (NestedKey × Addr × V)) : Prop := ∀ x ∈ es, (nestedKind pg w).is h x.1 x.2.1
theorem td_of (I : Inv X pins σ H s) (e : H a = some (TD X.prog X.w a es)) (hk : KeysAt X.prog X.w s.heap es) : es.length ≤ sizeLine ∧ (a == sysModules) = false ∧ ∃ xs, TR es xs ∧ s.heap.DictOfH (nestedKind X.prog X.w) a xs := by
  obtain ⟨⟨z, hd, xs, r, o, e1, ep, h1, h2, h3, h4, h5⟩, _, _⟩ := I.hok a _ e
  refine ⟨z, hd, xs, r, o, e1, ep, h1, h2, h3, h4, fun x hx => ?_, h5⟩
  have : ∀ {l m}, TR l m → (∀ x ∈ l, (nestedKind X.prog X.w).is s.heap x.1 x.2.1) → ∀ x ∈ m, (nestedKind X.prog X.w).is s.heap x.1 x.2.1 := by
    intro l m r
    induction r with
    | nil => intro _ x hx; cases hx
    | @cons p q ps qs h t ih =>
      intro hl x hx
      rcases List.mem_cons.mp hx with e | hx
      · subst e
        obtain ⟨h1, h2, _⟩ := h
        rw [← h1, ← h2]
        exact hl p List.mem_cons_self
      · exact ih (fun y hy => hl y (List.mem_cons_of_mem _ hy)) x hx
  exact this r hk x hx
theorem td_getItem {Q : Value → Shared → Prop} (hu : A.units + 10 < cLine) (I : Inv X pins σ H s) (e : H a = some (TD X.prog X.w a es)) (hk : KeysAt X.prog X.w s.heap es) (hb : (nestedKind X.prog X.w).is s.heap k b) (l : tVal es k = some v)
    (h : ∀ w' s', Inv X pins σ H s' → RelV v w' → Q w' s') : wpAny (model X.prog X.w) A (getItem (.ref a) (.ref b)) Q E s := by
  obtain ⟨z, hd, xs, rel, dd⟩ := td_of I e hk
  obtain ⟨w', hw, rw'⟩ := RelO.some_of (v := v) (o := (atKey xs k).map (·.2)) (by rw [← l]; exact rel.val k)
  obtain ⟨p, hp, hp2⟩ := Option.map_eq_some_iff.mp hw
  refine wpAny_getItem_heap (nested_room hu) hb dd hp ?_
  rw [hp2]
  exact h w' _ (I.tok _) rw'
theorem td_in {Q : Value → Shared → Prop} (hu : A.units + 10 < cLine) (I : Inv X pins σ H s) (e : H a = some (TD X.prog X.w a es)) (hk : KeysAt X.prog X.w s.heap es) (hb : (nestedKind X.prog X.w).is s.heap k b)
    (h : ∀ s', Inv X pins σ H s' → Q (.bool (tVal es k).isSome) s') : wpAny (model X.prog X.w) A (compareOp .In (.ref b) (.ref a)) Q E s := by
  obtain ⟨z, hd, xs, rel, dd⟩ := td_of I e hk
  refine wpAny_in_heap (nested_room hu) hb hd dd ?_
  have q := (rel.val k).isSome_eq
  rw [Option.isSome_map] at q
  rw [← q]
  exact h _ (I.tok _)
theorem td_notIn {Q : Value → Shared → Prop} (hu : A.units + 10 < cLine) (I : Inv X pins σ H s) (e : H a = some (TD X.prog X.w a es)) (hk : KeysAt X.prog X.w s.heap es) (hb : (nestedKind X.prog X.w).is s.heap k b)
    (h : ∀ s', Inv X pins σ H s' → Q (.bool (!(tVal es k).isSome)) s') : wpAny (model X.prog X.w) A (compareOp .NotIn (.ref b) (.ref a)) Q E s := by
  obtain ⟨z, hd, xs, rel, dd⟩ := td_of I e hk
  refine wpAny_notIn_heap (nested_room hu) hb hd dd ?_
  have q := (rel.val k).isSome_eq
  rw [Option.isSome_map] at q
  rw [← q]
  exact h _ (I.tok _)
theorem td_ok {P : Program} {w : World} {H' : Hp} {h' : Heap} {xs : List (NestedKey × Addr × Value)} (z : es.length ≤ sizeLine) (hd : (a == sysModules) = false) (rel : TR es xs) (dd : h'.DictOfH (nestedKind P w) a xs) :
    ObjOk P w H' h' a (TD P w a es) := by
  obtain ⟨o, e1, ep, h1, h2, h3, h4, _, h5⟩ := dd
  refine ⟨⟨z, hd, xs, rel, o, e1, ep, h1, h2, h3, h4, h5⟩, ⟨o, h1⟩, ?_⟩
  rintro g1 g2 ⟨z, hd, xs, rel, o, e1, ep, h1, h2, h3, h4, h5⟩ st
  exact ⟨z, hd, xs, rel, o, e1, ep, st _ h1, h2, h3, h4, h5⟩
theorem td_setItem {Q : Unit → Shared → Prop} (hu : A.units + 10 < cLine) (I : Inv X pins σ H s) (e : H a = some (TD X.prog X.w a es)) (hk : KeysAt X.prog X.w s.heap es) (hb : (nestedKind X.prog X.w).is s.heap k b) (l : es.length < sizeLine) (rv : RelV v r)
    (h : ∀ s', Inv X pins σ (upd H a (TD X.prog X.w a (tPut es k b v))) s' → Q () s') : wpAny (model X.prog X.w) A (setItem (.ref a) (.ref b) r) Q E s := by
  obtain ⟨z, hd, xs, rel, dd⟩ := td_of I e hk
  have hz : xs.length ≤ sizeLine := by rw [← Paired.length rel]; exact z
  have hl : (tPut es k b v).length ≤ sizeLine := by have := tPut_len es k b v; omega
  refine wpAny_setItem_heap (hsz := hz) (nested_room hu) hb dd fun h' dd' hs => h _ ?_
  have he : ∃ q, h'.get? a = some q := let ⟨q, _, _, hq, _⟩ := dd'; ⟨q, hq⟩
  exact d_write I (by rw [e]; exact True.intro) hs he (td_ok hl hd (rel.put k rv) dd')
end
theorem pe_dnewF {X : Cx} {pos : Pos} : PE X (.Dict [] [] pos) fun _ H Q => ∀ p, H p = none → Q (.ref p) (upd H p (FD X.prog X.w p [])) := ⟨fun pins s σ H Q I h =>
  wpAny_Dict_empty ⟨.ref s.heap.objs.size, _, I.laid (a := s.heap.objs.size) (o := FD X.prog X.w s.heap.objs.size []) (t' := s.toks) (fun _ _ q => Heap.get?_push_of_some _ q) (Nat.le_refl _)
    (fd_ok (vs := []) (Nat.zero_le _) (beq_eq_false_iff_ne.mpr (Nat.ne_of_gt I.big)) .nil ⟨_, #[], 0, Heap.get?_push_size _ rfl, ⟨rfl, rfl, rfl⟩, rfl, fun _ he => by simp at he, by constructor, by simp⟩), rfl, h _ (I.hok.fresh (Nat.le_refl _))⟩⟩
theorem pe_dnewT {X : Cx} {pos : Pos} : PE X (.Dict [] [] pos) fun _ H Q => ∀ p, H p = none → Q (.ref p) (upd H p (TD X.prog X.w p [])) := ⟨fun pins s σ H Q I h =>
  wpAny_Dict_empty ⟨.ref s.heap.objs.size, _, I.laid (a := s.heap.objs.size) (o := TD X.prog X.w s.heap.objs.size []) (t' := s.toks) (fun _ _ q => Heap.get?_push_of_some _ q) (Nat.le_refl _)
    (td_ok (xs := []) (Nat.zero_le _) (beq_eq_false_iff_ne.mpr (Nat.ne_of_gt I.big)) .nil ⟨_, #[], 0, Heap.get?_push_size _ rfl, ⟨rfl, rfl, rfl⟩, rfl, rfl, fun _ he => (nomatch he), by simp⟩), rfl, h _ (I.hok.fresh (Nat.le_refl _))⟩⟩
structure PD (X : Cx) (KS : List Str) (keys : List (Option Expr)) (values : List Expr) (t : TA) : Prop where
  run : ∀ (pos : Pos) (pins : List (Addr × Obj)) (s : Shared) (σ : L2.St) (H : Hp) (Q : List V → Hp → Prop), Inv X pins σ H s → t σ H Q →
    wpAny (model X.prog X.w) X.A (evalPairs (pairTrees keys values X.env pos)) (fun ws s' => ∃ us H', Inv X pins σ H' s' ∧ us.length = KS.length ∧ VV ((KS.zip us).map fun p => (V.str p.1, p.2)) ws ∧ Q us H') X.xe s
theorem pd_nil {X : Cx} : PD X [] [] [] (fun _ H Q => Q [] H) := ⟨fun pos pins s σ H Q I h => pairTrees_nil_walk ⟨[], H, I, rfl, .nil, h⟩⟩
theorem pd_cons {X : Cx} {KS : List Str} {k : Str} {a : Nat} {b : Pos} {v : Expr} {keys : List (Option Expr)} {values : List Expr} {tv : TE} {tr : TA} (hv : PE X v tv) (hr : PD X KS keys values tr) :
    PD X (k :: KS) (some (.Constant (.str k) a b) :: keys) (v :: values) (fun σ H Q => tv σ H fun y H2 => tr σ H2 fun us H3 => Q (y :: us) H3) := ⟨fun pos pins s σ H Q I h =>
  pairTrees_cons_walk (thn ((pe_str (x := k) (j := a) (pos := b)).run pins s σ H (fun x H1 => x = .str k ∧ H1 = H) I ⟨rfl, rfl⟩) fun u s1 ⟨x, H1, I1, rx, ex, e1⟩ => by
    subst ex; subst e1
    exact thn (hv.run pins s1 σ _ _ I1 h) fun w2 s2 ⟨y, H2, I2, ry, q2⟩ =>
      thn (hr.run pos pins s2 σ H2 _ I2 q2) fun ws s3 ⟨us, H3, I3, hl, rel, q3⟩ => ⟨y :: us, H3, I3, by rw [List.length_cons, List.length_cons, hl], .cons ⟨rx, ry⟩ rel, q3⟩)⟩
def fPut (l : List (Str × V)) (acc : List (Option Key × V)) : List (Option Key × V) := l.foldl (fun acc kv => putK acc (some (.inr kv.1)) kv.2) acc
theorem fPut_len : ∀ (l : List (Str × V)) (acc : List (Option Key × V)), (fPut l acc).length ≤ acc.length + l.length
  | [], acc => Nat.le_refl _
  | p :: l, acc => by
    have h1 := fPut_len l (putK acc (some (.inr p.1)) p.2)
    have h2 := length_putK acc (some (.inr p.1) : Option Key) p.2
    show (fPut l (putK acc (some (.inr p.1)) p.2)).length ≤ _
    rw [List.length_cons]; omega
theorem carriesF {P : Program} {w : World} : ∀ {l : List (Str × V)} {ws : List (Value × Value)}, VV (l.map fun p => (V.str p.1, p.2)) ws → ∃ rs : List (Option Key × Value), Carries (noneKind P w) ws rs ∧ ∀ {acc vs}, KV acc vs → KV (fPut l acc) (merged vs rs)
  | [], _, r => by rw [List.map_nil] at r; cases r; exact ⟨[], True.intro, fun q => q⟩
  | p :: l, _, r => by
    rw [List.map_cons] at r
    cases r with
    | @cons a b as bs h t =>
      obtain ⟨rs, c, q⟩ := carriesF (P := P) (w := w) t
      obtain ⟨b1, b2⟩ := b
      have h1 : (noneKind P w).is (some (.inr p.1)) b1 = true := kVo_is (P := P) (w := w) (k := some (.inr p.1)) h.1
      exact ⟨(some (.inr p.1), b2) :: rs, ⟨h1, rfl, c⟩, fun q0 => q (q0.put _ h.2)⟩
theorem pe_dlitF {X : Cx} {pos : Pos} {KS : List Str} {keys : List (Option Expr)} {values : List Expr} {t : TA} (h : PD X KS keys values t) (hall : keys.all (·.isSome) = true) (hl : keys.length = values.length) (h0 : keys ≠ []) (h15 : keys.length ≤ 15) (hk : KS.length ≤ 15) :
    PE X (.Dict keys values pos) fun σ H Q => ∀ p, H p = none → t σ (upd H p (FD X.prog X.w p [])) fun us H2 => H2 p = some (FD X.prog X.w p []) ∧ Q (.ref p) (upd H2 p (FD X.prog X.w p (fPut (KS.zip us) []))) := by
  refine ⟨fun pins s σ H Q I q => ?_⟩
  have hn := I.hok.fresh (Nat.le_refl s.heap.objs.size)
  have I1 := I.laid (a := s.heap.objs.size) (o := FD X.prog X.w s.heap.objs.size []) (h' := s.heap.push { cls := .type "dict", data := .dict #[] }) (t' := s.toks) (fun _ _ q => Heap.get?_push_of_some _ q) (Nat.le_refl _)
    (fd_ok (vs := []) (Nat.zero_le _) (beq_eq_false_iff_ne.mpr (Nat.ne_of_gt I.big)) .nil ⟨_, #[], 0, Heap.get?_push_size _ rfl, ⟨rfl, rfl, rfl⟩, rfl, fun _ he => by simp at he, by constructor, by simp⟩)
  refine wpAny_Dict_walk (knd := noneKind X.prog X.w) hall hl h0 h15 (thn (h.run pos pins _ σ _ _ I1 (q _ hn)) fun ws s2 ⟨us, H2, I2, hlen, rel, e, q2⟩ => ?_)
  obtain ⟨rs, c, rk⟩ := carriesF (P := X.prog) (w := X.w) rel
  obtain ⟨z, hd, vs0, r0, dd⟩ := fd_of I2 e
  cases r0
  refine ⟨rs, c, dd, fun h' dd' hs => ⟨.ref s.heap.objs.size, _, ?_, rfl, q2⟩⟩
  have hz : (fPut (KS.zip us) []).length ≤ sizeLine := by
    have h1 := fPut_len (KS.zip us) []
    rw [List.length_nil, List.length_zip, hlen] at h1
    rw [sizeLine_eq]; omega
  have he : ∃ q, h'.get? s.heap.objs.size = some q := let ⟨q, _, _, hq, _⟩ := dd'; ⟨q, hq⟩
  exact d_write I2 (by rw [e]; exact True.intro) hs he (fd_ok hz hd (rk .nil) dd')
def tFGet2 (pg : Program) (wl : World) (td ty tx : TE) : TE := fun σ H Q => td σ H fun x H1 => ∃ a us, x = .ref a ∧ H1 a = some (FD pg wl a us) ∧ ty σ H1 fun y H2 => tx σ H2 fun z H3 => ∃ us k, H3 a = some (FD pg wl a us) ∧ y = kVo k ∧ Q ((valV us k).getD z) H3
theorem fd_get2 {X : Cx} {pins : List (Addr × Obj)} {σ : L2.St} {H : Hp} {s : Shared} {a : Addr} {z : V} {u r : Value} {A : Around} {E : Value → Shared → Prop} {us : List (Option Key × V)} {k : Option Key} {Q : Value → Shared → Prop} (hu : A.units + 1 < cLine) (I : Inv X pins σ H s) (e : H a = some (FD X.prog X.w a us)) (ry : RelV (kVo k) u) (rd : RelV z r)
    (h : ∀ w' s', Inv X pins σ H s' → RelV ((valV us k).getD z) w' → Q w' s') : wpAny (model X.prog X.w) A (call (.builtin "dict.get") [.ref a, u, r]) Q E s := by
  obtain ⟨_, hd, vs, rel, dd⟩ := fd_of I e
  refine call_meetsIn PySem.F.slot_dict_get dd.typeIs PySem.F.entry_dict_get (PySem.F.args_dict_get_3 _ _ _) (meets_dict_get_default (noneKind X.prog X.w) a (kVo_is ry) hd r) ⟨_, dd.mapOf, h _ _ (I.tok _) ?_⟩
  exact (rel.val k).getD rd
theorem pe_fget2 {X : Cx} {o e f : Expr} {apos cpos : Pos} {td ty tx : TE} (hu : X.A.units + 1 < cLine) (ho : PE X o td) (he : PE X e ty) (hf : PE X f tx) (m : M2 X o "get" apos e f cpos) : PE X (.Call (.Attribute o "get" apos) [e, f] [] cpos) (tFGet2 X.prog X.w td ty tx) := by
  refine ⟨fun pins s σ H Q I h => ?_⟩
  refine wpAny_Call_method m.base m.few m.line PySem.F.plainAttrs_dict PySem.F.slot_dict_get PySem.F.type_dict_get (thn (ho.run pins s σ H _ I h) fun u s1 ⟨x, H1, I1, rx, a, us, ex, d, q1⟩ => ?_)
  subst ex
  obtain rfl : u = Value.ref a := rx
  obtain ⟨_, hd, vs, _, dd⟩ := fd_of I1 d
  have t2 : ∀ b, Value.ref a = .ref b → ∃ ob, s1.heap.get? b = some ob ∧ ob.dict = none := fun b q => by
    cases q
    obtain ⟨ob, _, _, h1, h2, _⟩ := dd
    exact ⟨ob, h1, h2.2.1⟩
  refine ⟨dd.typeIs, t2, ?_⟩
  rw [m.trees]
  refine Calls.callWith_builtin rfl (Calls.evalArgs_plain (Calls.spliced_cons (thn (he.run pins s1 σ H1 _ I1 q1) fun iv s2 ⟨y, H2, I2, ry, q2⟩ =>
    Calls.spliced_cons (thn (hf.run pins s2 σ H2 _ I2 q2) fun fv s3 ⟨z, H3, I3, rz, us3, k, e3, ey, q3⟩ => Calls.spliced_nil ?_))))
  subst ey
  exact fd_get2 hu I3 e3 ry rz fun w' s4 I4 rw' => ⟨_, H3, I4, rw', q3⟩
end DL
namespace DL
open PySem L2
/-- data: what a name holds, tuples and settled lists by value; ref k: the k-th changing object -/
inductive D where
  | non | bl (b : Bool) | int (i : Int) | str (s : Str) | tup (ds : List D) | lst (ds : List D) | scr (ns : List Int) | ref (k : Nat) | obj (c : Str) (ns : List Str) (ds : List D)
  | exc (a : Addr) (od : Option Addr) (c : Str) (ns : List Str) (ds : List D)
/-- a changing object; dead: one that is settled or let go -/
inductive MO where
  | lst (ds : List D) | dct (kvs : List (Option Key × D)) | dctT (kvs : List (D × D)) | ins (c : Str) (fs : List (Str × D)) | fn (F : NdefX.NF) (n : Nat) (cs : List D) (cvs : List V) | dead
abbrev Md := List MO
abbrev Std := List (Option D)
/-- how data lie: F what is settled, r where the changing objects stand -/
structure Wd where
  F : Hp
  r : List Addr
/-- the classes of the text -/
structure Pm where
  pg : Program
  wl : World
  K : PySem.W.Frag
  cls : Str → Addr
  T : List NdefX.NTab
mutual
def RelD (P : Pm) (w : Wd) : D → V → Prop
  | .non, v => v = .non
  | .bl b, v => v = .bl b
  | .int i, v => v = .int i
  | .str s, v => v = .str s
  | .tup ds, v => ∃ p vs, v = .ref p ∧ SqT P.K w.F p vs ∧ RelDs P w ds vs
  | .lst ds, v => ∃ p vs, v = .ref p ∧ w.F p = some (.lst vs) ∧ RelDs P w ds vs
  | .scr ns, v => ∃ p, v = .ref p ∧ SqL P.K w.F p (ns.map V.int)
  | .ref k, v => ∃ p, v = .ref p ∧ w.r[k]? = some p
  | .obj c ns ds, v => ∃ p dx vs, v = .ref p ∧ w.F p = some (.ins (P.cls c) dx (ns.zip vs)) ∧ ns.length = ds.length ∧ RelDs P w ds vs
  | .exc a od _ ns ds, v => ∃ vs, v = .ref a ∧ (∀ d, od = some d → w.F d = some (.xd (ns.zip vs))) ∧ ns.length = ds.length ∧ RelDs P w ds vs
def RelDs (P : Pm) (w : Wd) : List D → List V → Prop
  | [], vs => vs = []
  | d :: ds, vs => ∃ v r, vs = v :: r ∧ RelD P w d v ∧ RelDs P w ds r
end
structure Le (w w' : Wd) : Prop where
  F : ∀ a o, w.F a = some o → w'.F a = some o
  r : ∀ (k : Nat) p, w.r[k]? = some p → w'.r[k]? = some p
theorem Le.refl (w : Wd) : Le w w := ⟨fun _ _ h => h, fun _ _ h => h⟩
theorem Le.trans {a b c : Wd} (x : Le a b) (y : Le b c) : Le a c := ⟨fun p o h => y.F p o (x.F p o h), fun k p h => y.r k p (x.r k p h)⟩
theorem rd_mono {H H' : Hp} (e : ∀ a o, H a = some o → H' a = some o) {a : Addr} {u : HO} (h : Rd H a u) : Rd H' a u := by
  rcases h with h | ⟨o, h⟩
  · exact .inl (e _ _ h)
  · exact .inr ⟨o, e _ _ h⟩
theorem sqT_mono {K : PySem.W.Frag} {H H' : Hp} (e : ∀ a o, H a = some o → H' a = some o) {a : Addr} {xs : List V} (h : SqT K H a xs) : SqT K H' a xs := by
  rcases h with h | h
  · exact .inl (rd_mono e h)
  · exact .inr h
theorem sqL_mono {K : PySem.W.Frag} {H H' : Hp} (e : ∀ a o, H a = some o → H' a = some o) {a : Addr} {xs : List V} (h : SqL K H a xs) : SqL K H' a xs := by
  rcases h with h | h
  · exact .inl (rd_mono e h)
  · exact .inr h
section
variable {P : Pm} {w w' : Wd}
mutual
theorem RelD.mono (l : Le w w') : ∀ {d : D} {v : V}, RelD P w d v → RelD P w' d v
  | .non, _, h => h
  | .bl _, _, h => h
  | .int _, _, h => h
  | .str _, _, h => h
  | .tup ds, _, ⟨p, vs, e, hp, hs⟩ => ⟨p, vs, e, sqT_mono l.F hp, RelDs.mono l hs⟩
  | .lst ds, _, ⟨p, vs, e, hp, hs⟩ => ⟨p, vs, e, l.F _ _ hp, RelDs.mono l hs⟩
  | .scr _, _, ⟨p, e, hp⟩ => ⟨p, e, sqL_mono l.F hp⟩
  | .ref _, _, ⟨p, e, hp⟩ => ⟨p, e, l.r _ _ hp⟩
  | .obj c ns ds, _, ⟨p, dx, vs, e, hp, hl, hs⟩ => ⟨p, dx, vs, e, l.F _ _ hp, hl, RelDs.mono l hs⟩
  | .exc a od c ns ds, _, ⟨vs, e, hp, hl, hs⟩ => ⟨vs, e, fun d hd => l.F _ _ (hp d hd), hl, RelDs.mono l hs⟩
theorem RelDs.mono (l : Le w w') : ∀ {ds : List D} {vs : List V}, RelDs P w ds vs → RelDs P w' ds vs
  | [], _, h => h
  | d :: ds, _, ⟨v, r, e, h1, h2⟩ => ⟨v, r, e, RelD.mono l h1, RelDs.mono l h2⟩
end
theorem RelDs.length : ∀ {ds : List D} {vs : List V}, RelDs P w ds vs → vs.length = ds.length
  | [], _, h => by
    have h : _ = [] := h
    rw [h]; rfl
  | d :: ds, _, ⟨v, r, e, h1, h2⟩ => by rw [e, List.length_cons, List.length_cons, RelDs.length h2]
theorem RelDs.nil : RelDs P w [] [] := rfl
theorem RelDs.cons {d : D} {ds : List D} {v : V} {vs : List V} (h : RelD P w d v) (t : RelDs P w ds vs) : RelDs P w (d :: ds) (v :: vs) := ⟨v, vs, rfl, h, t⟩
theorem RelDs.append : ∀ {ds es : List D} {vs us : List V}, RelDs P w ds vs → RelDs P w es us → RelDs P w (ds ++ es) (vs ++ us)
  | [], _, _, _, h, t => by
    have h : _ = [] := h
    rw [h]; exact t
  | d :: ds, _, _, _, ⟨v, r, e, h1, h2⟩, t => by rw [e]; exact ⟨v, _, rfl, h1, RelDs.append h2 t⟩
theorem RelDs.get : ∀ {ds : List D} {vs : List V} {i : Nat} {d : D}, RelDs P w ds vs → ds[i]? = some d → ∃ v, vs[i]? = some v ∧ RelD P w d v
  | [], _, _, _, _, h => by simp at h
  | d :: ds, _, 0, _, ⟨v, r, e, h1, h2⟩, h => by
    simp at h; subst h; rw [e]; exact ⟨v, rfl, h1⟩
  | d :: ds, _, i + 1, _, ⟨v, r, e, h1, h2⟩, h => by
    rw [e]
    simpa using RelDs.get (i := i) h2 (by simpa using h)
theorem RelDs.set : ∀ {ds : List D} {vs : List V} {d : D} {v : V} (i : Nat), RelD P w d v → RelDs P w ds vs → RelDs P w (ds.set i d) (vs.set i v)
  | [], _, _, _, _, _, h => by
    have h : _ = [] := h
    rw [h]; rfl
  | d :: ds, _, _, _, 0, q, ⟨v, r, e, h1, h2⟩ => by rw [e]; exact ⟨_, _, rfl, q, h2⟩
  | d :: ds, _, _, _, i + 1, q, ⟨v, r, e, h1, h2⟩ => by rw [e]; exact ⟨_, _, rfl, h1, RelDs.set i q h2⟩
theorem RelDs.take : ∀ {ds : List D} {vs : List V} (n : Nat), RelDs P w ds vs → RelDs P w (ds.take n) (vs.take n)
  | _, _, 0, _ => by simp [RelDs]
  | [], _, n + 1, h => by
    have h : _ = [] := h
    rw [h]; rfl
  | d :: ds, _, n + 1, ⟨v, r, e, h1, h2⟩ => by rw [e]; exact ⟨_, _, rfl, h1, RelDs.take n h2⟩
theorem RelDs.drop : ∀ {ds : List D} {vs : List V} (n : Nat), RelDs P w ds vs → RelDs P w (ds.drop n) (vs.drop n)
  | _, _, 0, h => by simpa using h
  | [], _, n + 1, h => by
    have h : _ = [] := h
    rw [h]; rfl
  | d :: ds, _, n + 1, ⟨v, r, e, h1, h2⟩ => by rw [e]; exact RelDs.drop n h2
theorem RelDs.reverse : ∀ {ds : List D} {vs : List V}, RelDs P w ds vs → RelDs P w ds.reverse vs.reverse
  | [], _, h => by
    have h : _ = [] := h
    rw [h]; rfl
  | d :: ds, _, ⟨v, r, e, h1, h2⟩ => by
    rw [e, List.reverse_cons, List.reverse_cons]
    exact RelDs.append (RelDs.reverse h2) (.cons h1 .nil)
end
/-- entries, field by field -/
def RelKs {κ : Type} (P : Pm) (w : Wd) : List (κ × D) → List (κ × V) → Prop
  | [], us => us = []
  | (k, d) :: r, us => ∃ v us', us = (k, v) :: us' ∧ RelD P w d v ∧ RelKs P w r us'
theorem RelKs.mono {κ : Type} {P : Pm} {w w' : Wd} (l : Le w w') : ∀ {ds : List (κ × D)} {vs : List (κ × V)}, RelKs P w ds vs → RelKs P w' ds vs
  | [], _, h => h
  | (k, d) :: r, _, ⟨v, us', e, h2, h3⟩ => ⟨v, us', e, h2.mono l, RelKs.mono l h3⟩
theorem RelKs.length {κ : Type} {P : Pm} {w : Wd} : ∀ {ds : List (κ × D)} {vs : List (κ × V)}, RelKs P w ds vs → vs.length = ds.length
  | [], _, h => by
    have h : _ = [] := h
    rw [h]; rfl
  | (k, d) :: r, _, ⟨v, us', e, h2, h3⟩ => by rw [e, List.length_cons, List.length_cons, RelKs.length h3]
mutual
def keyN : D → Option NestedKey
  | .non => some .none
  | .bl b => some (.num (if b = true then 1 else 0))
  | .int i => some (.num i)
  | .str s => some (.text s)
  | .tup ds => (keyNs ds).map .tup
  | .lst _ => none
  | .scr _ => none
  | .ref _ => none
  | .obj _ _ _ => none
  | .exc _ _ _ _ _ => none
def keyNs : List D → Option (List NestedKey)
  | [] => some []
  | d :: ds => match keyN d, keyNs ds with
    | some k, some ks => some (k :: ks)
    | _, _ => none
end
/-- entries by tuples -/
def RelTs (P : Pm) (w : Wd) : List (D × D) → List (NestedKey × Addr × V) → Prop
  | [], es => es = []
  | (kd, d) :: r, es => ∃ k b v es', es = (k, b, v) :: es' ∧ keyN kd = some k ∧ k.depth ≤ 8 ∧ RelD P w kd (.ref b) ∧ RelD P w d v ∧ RelTs P w r es'
theorem RelTs.mono {P : Pm} {w w' : Wd} (l : Le w w') : ∀ {ds : List (D × D)} {es : List (NestedKey × Addr × V)}, RelTs P w ds es → RelTs P w' ds es
  | [], _, h => h
  | (kd, d) :: r, _, ⟨k, b, v, es', e, h1, h2, h3, h4, h5⟩ => ⟨k, b, v, es', e, h1, h2, h3.mono l, h4.mono l, RelTs.mono l h5⟩
theorem RelTs.length {P : Pm} {w : Wd} : ∀ {ds : List (D × D)} {es : List (NestedKey × Addr × V)}, RelTs P w ds es → es.length = ds.length
  | [], _, h => by
    have h : _ = [] := h
    rw [h]; rfl
  | (kd, d) :: r, _, ⟨k, b, v, es', e, h1, h2, h3, h4, h5⟩ => by rw [e, List.length_cons, List.length_cons, RelTs.length h5]
/-- a changing object as it stands at p -/
def CellOk (P : Pm) (w : Wd) (H : Hp) (p : Addr) : MO → Prop
  | .dead => True
  | .lst ds => w.F p = none ∧ ∃ vs, H p = some (.lst vs) ∧ RelDs P w ds vs
  | .dct kvs => w.F p = none ∧ ∃ us, H p = some (FD P.pg P.wl p us) ∧ RelKs P w kvs us
  | .dctT kvs => w.F p = none ∧ ∃ es, H p = some (TD P.pg P.wl p es) ∧ RelTs P w kvs es
  | .ins c fs => w.F p = none ∧ ∃ dx us, H p = some (.ins (P.cls c) dx us) ∧ RelKs P w fs us
  | .fn F _ cs cvs => w.F p = none ∧ H p = some (NdefX.FnO p F) ∧ F.c ∉ w.r ∧ H F.c = some (LamX.CodeO F.c F.qual) ∧ RelDs P w cs cvs
/-- no code object, no table -/
structure NoC (b : Addr) (o : HO) : Prop where
  c : ∀ q, o ≠ LamX.CodeO b q
  t : ∀ ps, o ≠ .tbl ps
/-- the tables of code objects stand, apart from all else -/
structure TabOk (P : Pm) (w : Wd) (H : Hp) : Prop where
  t : ∀ t ∈ P.T, (t.1 ∉ w.r ∧ w.F t.1 = none) ∧ ∃ ps : Array Value, H t.1 = some (.tbl ps) ∧ TriplesOk ps.toList ∧ ∀ (pos : Pos) (cv : Value), codeAmong pos ps.toList = some cv → ∃ c, cv = .ref c ∧ c ∉ w.r ∧ H c = some (LamX.CodeO c (t.2 pos.line pos.col))
  nt : ∀ a ps, w.F a ≠ some (.tbl ps)
  nc : ∀ b ∈ w.r, ∀ o, H b = some o → NoC b o
structure RepM (P : Pm) (w : Wd) (M : Md) (H : Hp) : Prop where
  sub : ∀ a o, w.F a = some o → H a = some o
  len : M.length = w.r.length
  nd : w.r.Nodup
  inH : ∀ p ∈ w.r, H p ≠ none
  cell : ∀ (k : Nat) m p, M[k]? = some m → w.r[k]? = some p → CellOk P w H p m
  tab : TabOk P w H
def RelSt (P : Pm) (w : Wd) (sd : Std) (σ : L2.St) : Prop := sd.length = σ.length ∧ ∀ (i : Nat) d, sd[i]? = some (some d) → ∃ v, σ[i]? = some (some v) ∧ RelD P w d v
theorem RelSt.mono {P : Pm} {w w' : Wd} {sd : Std} {σ : L2.St} (l : Le w w') (h : RelSt P w sd σ) : RelSt P w' sd σ :=
  ⟨h.1, fun i d e => let ⟨v, e', r⟩ := h.2 i d e; ⟨v, e', r.mono l⟩⟩
theorem upd_some {H : Hp} {p a : Addr} {o : HO} (e : H a ≠ none) : upd H p o a ≠ none := by
  by_cases h : a = p
  · subst h; rw [upd_same]; simp
  · rw [upd_ne h]; exact e
/-- what a step keeps -/
structure Step (w : Wd) (H : Hp) (w' : Wd) (H' : Hp) : Prop where
  le : Le w w'
  keep : ∀ a o, H a = some o → (∀ ps, o ≠ .tbl ps) → (a ∉ w.r ∨ w.F a ≠ none) → H' a = some o
  new : ∀ a, H a ≠ none → w.F a = none → a ∉ w.r → w'.F a = none ∧ a ∉ w'.r
  stay : ∀ a, H a ≠ none → H' a ≠ none
/-- the code objects stand as they did -/
def KpC (w : Wd) (H : Hp) (w' : Wd) (H' : Hp) : Prop := ∀ b q, b ∉ w.r → H b = some (LamX.CodeO b q) → b ∉ w'.r ∧ H' b = some (LamX.CodeO b q)
theorem TabOk.on {P : Pm} {w w' : Wd} {H H' : Hp} (T : TabOk P w H) (hC : KpC w H w' H') (hT : ∀ b ps, b ∉ w.r → w.F b = none → H b = some (.tbl ps) → b ∉ w'.r ∧ w'.F b = none ∧ H' b = some (.tbl ps)) (hn : ∀ a ps, w'.F a = some (.tbl ps) → w.F a = some (.tbl ps)) (hN : ∀ b ∈ w'.r, ∀ o, H' b = some o → NoC b o) : TabOk P w' H' := ⟨fun t ht => by
  obtain ⟨⟨h1, h2⟩, ps, h3, h4, h5⟩ := T.t t ht
  obtain ⟨g1, g2, g3⟩ := hT _ _ h1 h2 h3
  exact ⟨⟨g1, g2⟩, ps, g3, h4, fun pos cv hc => let ⟨c, e1, e2, e3⟩ := h5 pos cv hc; ⟨c, e1, hC c _ e2 e3⟩⟩, fun a ps z => T.nt a ps (hn a ps z), hN⟩
theorem NoC.lst {b : Addr} {vs : List V} : NoC b (.lst vs) := ⟨(fun q z => by unfold LamX.CodeO at z; cases z), (fun ps z => by cases z)⟩
theorem NoC.ins {b C dx : Addr} {fs : List (Str × V)} : NoC b (.ins C dx fs) := ⟨(fun q z => by unfold LamX.CodeO at z; cases z), (fun ps z => by cases z)⟩
/-- a heap whose object at b is a code object -/
def hpC (b : Addr) (q : Str) : Heap := ⟨Array.replicate (b + 1) ⟨.none, none, .fields #[.none, .str q default], #[]⟩, {}⟩
theorem hpC_at {b : Addr} {q : Str} : (hpC b q).get? b = some ⟨.none, none, .fields #[.none, .str q default], #[]⟩ := by
  unfold hpC Heap.get?
  simp
theorem NoC.ext {b : Addr} {p : Heap → Prop} (h : ∀ hp o vs, hp.get? b = some o → o.data = .fields vs → ¬ p hp) : NoC b (.ext p) := ⟨(fun q z => by
  unfold LamX.CodeO at z
  have e : p = _ := HO.ext.inj z
  refine h (hpC b q) _ _ hpC_at rfl ?_
  rw [e]
  exact ⟨_, _, default, hpC_at, rfl, rfl⟩), (fun ps z => by cases z)⟩
theorem NoC.fd {pg : Program} {w : World} {b : Addr} {us : List (Option Key × V)} : NoC b (FD pg w b us) := .ext fun hp o vs h1 h2 ⟨_, _, vs', _, o', es, ep, h3, _, h4, _⟩ => by
  rw [h1] at h3; cases h3; rw [h2] at h4; cases h4
theorem NoC.td {pg : Program} {w : World} {b : Addr} {us : List (NestedKey × Addr × V)} : NoC b (TD pg w b us) := .ext fun hp o vs h1 h2 ⟨_, _, xs, _, o', es, ep, h3, _, h4, _⟩ => by
  rw [h1] at h3; cases h3; rw [h2] at h4; cases h4
theorem NoC.fn {b : Addr} {F : NdefX.NF} : NoC b (NdefX.FnO b F) := .ext fun hp o vs h1 h2 ⟨od, sl, doc, pm, ctv, h3⟩ => by
  rw [h1] at h3; cases h3; cases h2
theorem codeO_lst {a : Addr} {q : Str} {vs : List V} : LamX.CodeO a q ≠ .lst vs := fun z => by unfold LamX.CodeO at z; cases z
theorem Step.refl (w : Wd) (H : Hp) : Step w H w H := ⟨.refl w, fun _ _ h _ _ => h, fun _ _ h1 h2 => ⟨h1, h2⟩, fun _ h => h⟩
theorem Step.trans {a b c : Wd} {H1 H2 H3 : Hp} (x : Step a H1 b H2) (y : Step b H2 c H3) : Step a H1 c H3 where
  le := x.le.trans y.le
  keep := fun p o h ht hp => by
    by_cases hF : a.F p = none
    · rcases hp with hp | hp
      · obtain ⟨n1, n2⟩ := x.new p (by rw [h]; simp) hF hp
        exact y.keep p o (x.keep p o h ht (.inl hp)) ht (.inl n2)
      · exact absurd hF hp
    · have hF' : b.F p ≠ none := by
        cases q : a.F p with
        | none => exact absurd q hF
        | some u => rw [x.le.F _ _ q]; simp
      exact y.keep p o (x.keep p o h ht hp) ht (.inr hF')
  new := fun p h h1 h2 => by
    obtain ⟨n1, n2⟩ := x.new p h h1 h2
    exact y.new p (x.stay p h) n1 n2
  stay := fun p h => y.stay p (x.stay p h)
section
variable {P : Pm} {w : Wd} {M : Md} {H : Hp} {p : Addr}
theorem RepM.Fnone (R : RepM P w M H) (h : H p = none) : w.F p = none := by
  cases q : w.F p with
  | none => rfl
  | some o => rw [R.sub _ _ q] at h; cases h
theorem RepM.notin (R : RepM P w M H) (h : H p = none) : p ∉ w.r := fun hm => R.inH p hm h
theorem CellOk.mono {w' : Wd} {H' : Hp} (l : Le w w') (hF : w.F p = none → w'.F p = none) (hH : H' p = H p) (hC : KpC w H w' H') : ∀ {m : MO}, CellOk P w H p m → CellOk P w' H' p m
  | .dead, _ => trivial
  | .lst ds, ⟨h, vs, e, r⟩ => ⟨hF h, vs, hH.trans e, r.mono l⟩
  | .dct _, ⟨h, vs, e, r⟩ => ⟨hF h, vs, hH.trans e, r.mono l⟩
  | .dctT _, ⟨h, vs, e, r⟩ => ⟨hF h, vs, hH.trans e, r.mono l⟩
  | .fn _ _ _ _, ⟨h, e, r1, r2, r3⟩ => ⟨hF h, hH.trans e, (hC _ _ r1 r2).1, (hC _ _ r1 r2).2, r3.mono l⟩
  | .ins _ _, ⟨h, dx, vs, e, r⟩ => ⟨hF h, dx, vs, hH.trans e, r.mono l⟩
/-- a new settled object -/
theorem RepM.newF (R : RepM P w M H) (h : H p = none) (o : HO) (hnt : ∀ ps, o ≠ .tbl ps) : RepM P { w with F := upd w.F p o } M (upd H p o) ∧ Step w H { w with F := upd w.F p o } (upd H p o) := by
  have hF := R.Fnone h
  have hr := R.notin h
  have le : Le w { w with F := upd w.F p o } := ⟨fun a u e => by rw [show ({ w with F := upd w.F p o } : Wd).F = upd w.F p o from rfl, upd_ne (fun z => by rw [z, hF] at e; cases e)]; exact e, fun _ _ e => e⟩
  have hC : KpC w H { w with F := upd w.F p o } (upd H p o) := fun b q h1 h2 => ⟨h1, by rw [upd_ne (fun z => by rw [z, h] at h2; cases h2)]; exact h2⟩
  refine ⟨⟨fun a u e => ?_, R.len, R.nd, fun q hq => ?_, fun k m q hm hq => ?_, R.tab.on hC (fun a ps h1 h2 h3 => ?_) (fun a ps z => ?_) fun b hb o' e => R.tab.nc b hb o' (by rw [upd_ne (fun z => hr (by rw [← z]; exact hb))] at e; exact e)⟩, le, fun a u e _ _ => ?_, fun a e h1 h2 => ⟨?_, h2⟩, fun a e => upd_some e⟩
  · by_cases ha : a = p
    · subst ha
      have e' : upd w.F a o a = some u := e
      rw [upd_same] at e' ⊢; exact e'
    · have e' : upd w.F p o a = some u := e
      rw [upd_ne ha] at e' ⊢; exact R.sub _ _ e'
  · have : q ≠ p := fun z => hr (z ▸ hq)
    rw [upd_ne this]; exact R.inH q hq
  · have hqr : q ∈ w.r := List.mem_of_getElem? hq
    have nq : q ≠ p := fun z => hr (z ▸ hqr)
    exact (R.cell k m q hm hq).mono le (fun z => by show upd w.F p o q = none; rw [upd_ne nq]; exact z) (upd_ne nq) hC
  · have np : a ≠ p := fun z => by rw [z, h] at h3; cases h3
    exact ⟨h1, (by show upd w.F p o a = none; rw [upd_ne np]; exact h2), by rw [upd_ne np]; exact h3⟩
  · have z : upd w.F p o a = some (.tbl ps) := z
    by_cases ha : a = p
    · subst ha; rw [upd_same] at z; exact absurd (Option.some.inj z) (hnt ps)
    · rw [upd_ne ha] at z; exact z
  · rw [upd_ne (fun z => by rw [z, h] at e; cases e)]; exact e
  · show upd w.F p o a = none
    rw [upd_ne (fun z => e (by rw [z]; exact h))]; exact h1
/-- a new changing object -/
theorem RepM.newC (R : RepM P w M H) (h : H p = none) (o : HO) (m : MO) (hno : NoC p o) (hc : CellOk P { w with r := w.r ++ [p] } (upd H p o) p m) :
    RepM P { w with r := w.r ++ [p] } (M ++ [m]) (upd H p o) ∧ Step w H { w with r := w.r ++ [p] } (upd H p o) := by
  have hF := R.Fnone h
  have hr := R.notin h
  have le : Le w { w with r := w.r ++ [p] } := ⟨fun _ _ e => e, fun k q e => by
    show (w.r ++ [p])[k]? = some q
    rw [List.getElem?_append_left (List.getElem?_eq_some_iff.mp e).1]; exact e⟩
  have hC : KpC w H { w with r := w.r ++ [p] } (upd H p o) := fun b q h1 h2 => by
    have np : b ≠ p := fun z => by rw [z, h] at h2; cases h2
    refine ⟨fun z => ?_, by rw [upd_ne np]; exact h2⟩
    rcases List.mem_append.mp z with z | z
    · exact h1 z
    · simp at z; exact np z
  refine ⟨⟨fun a u e => ?_, by simp [R.len], ?_, fun q hq => ?_, fun k m' q hm hq => ?_, R.tab.on hC (fun a ps h1 h2 h3 => ?_) (fun a ps z => z) fun b hb o' e => ?_⟩, le, fun a u e _ _ => ?_, fun a e h1 h2 => ⟨h1, ?_⟩, fun a e => upd_some e⟩
  · rw [upd_ne (fun z => by rw [z] at e; rw [show w.F p = some u from e] at hF; cases hF)]; exact R.sub _ _ e
  · exact List.nodup_append.mpr ⟨R.nd, by simp, fun a ha b hb => by simp at hb; subst hb; exact fun z => hr (z ▸ ha)⟩
  · by_cases hq' : q = p
    · subst hq'; rw [upd_same]; simp
    · rw [upd_ne hq']
      refine R.inH q ?_
      rcases List.mem_append.mp hq with z | z
      · exact z
      · simp at z; exact absurd z hq'
  · by_cases hk : k < M.length
    · rw [List.getElem?_append_left hk] at hm
      have hq2 : w.r[k]? = some q := by
        have : (w.r ++ [p])[k]? = some q := hq
        rwa [List.getElem?_append_left (by rw [← R.len]; exact hk)] at this
      have nq : q ≠ p := fun z => hr (z ▸ List.mem_of_getElem? hq2)
      exact (R.cell k m' q hm hq2).mono le (fun z => z) (upd_ne nq) hC
    · have hk2 : k = M.length := by
        have := (List.getElem?_eq_some_iff.mp hm).1
        simp at this; omega
      subst hk2
      have e1 : m' = m := by simpa using hm.symm
      have e2 : q = p := by
        have : (w.r ++ [p])[M.length]? = some q := hq
        rw [R.len] at this
        simpa using this.symm
      subst e1; subst e2
      exact hc
  · have np : a ≠ p := fun z => by rw [z, h] at h3; cases h3
    refine ⟨fun z => ?_, h2, by rw [upd_ne np]; exact h3⟩
    rcases List.mem_append.mp z with z | z
    · exact h1 z
    · simp at z; exact np z
  · by_cases hbp : b = p
    · subst hbp; rw [upd_same] at e; cases e; exact hno
    · rw [upd_ne hbp] at e
      refine R.tab.nc b ?_ o' e
      rcases List.mem_append.mp hb with z | z
      · exact z
      · simp at z; exact absurd z hbp
  · rw [upd_ne (fun z => by rw [z, h] at e; cases e)]; exact e
  · intro z
    rcases List.mem_append.mp z with z | z
    · exact h2 z
    · simp at z; exact e (by rw [z]; exact h)
/-- a changing object changed -/
theorem RepM.write (R : RepM P w M H) {k : Nat} {m m' : MO} {o : HO} (hm : M[k]? = some m) (hl : w.F p = none) (hp : w.r[k]? = some p) (hno : NoC p o) (hc : CellOk P w (upd H p o) p m') :
    RepM P w (M.set k m') (upd H p o) ∧ Step w H w (upd H p o) := by
  have hpr : p ∈ w.r := List.mem_of_getElem? hp
  have hC : KpC w H w (upd H p o) := fun b q h1 h2 => ⟨h1, by rw [upd_ne (fun z => h1 (by rw [z]; exact hpr))]; exact h2⟩
  refine ⟨⟨fun a u e => ?_, by simp [R.len], R.nd, fun q hq => ?_, fun j n q hn hq => ?_, R.tab.on hC (fun a ps h1 h2 h3 => ⟨h1, h2, by rw [upd_ne (fun z => h1 (by rw [z]; exact hpr))]; exact h3⟩) (fun a ps z => z) fun b hb o' e => ?_⟩, .refl w, fun a u e _ ha => ?_, fun a e h1 h2 => ⟨h1, h2⟩, fun a e => upd_some e⟩
  · rw [upd_ne (fun z => by rw [z, hl] at e; cases e)]; exact R.sub _ _ e
  · by_cases hq' : q = p
    · subst hq'; rw [upd_same]; simp
    · rw [upd_ne hq']; exact R.inH q hq
  · by_cases hj : j = k
    · subst hj
      have e2 : q = p := by rw [hp] at hq; exact (Option.some.inj hq).symm
      subst e2
      have hlt : j < M.length := (List.getElem?_eq_some_iff.mp hm).1
      rw [List.getElem?_set_self hlt] at hn
      cases hn
      exact hc
    · rw [List.getElem?_set_ne (Ne.symm hj)] at hn
      have nq : q ≠ p := fun z => by
        subst z
        obtain ⟨l1, e1⟩ := List.getElem?_eq_some_iff.mp hq
        obtain ⟨l2, e2⟩ := List.getElem?_eq_some_iff.mp hp
        exact hj ((List.getElem_inj R.nd).mp (e1.trans e2.symm))
      exact (R.cell j n q hn hq).mono (.refl w) (fun z => z) (upd_ne nq) hC
  · by_cases hbp : b = p
    · subst hbp; rw [upd_same] at e; cases e; exact hno
    · rw [upd_ne hbp] at e; exact R.tab.nc b hb o' e
  · rw [upd_ne (fun z => by
      subst z
      rcases ha with ha | ha
      · exact ha hpr
      · exact ha hl)]
    exact e
theorem RepM.at (R : RepM P w M H) {k : Nat} {m : MO} (hm : M[k]? = some m) : ∃ p, w.r[k]? = some p := by
  have hlt : k < M.length := (List.getElem?_eq_some_iff.mp hm).1
  rw [R.len] at hlt
  exact ⟨w.r[k], List.getElem?_eq_getElem hlt⟩
/-- a changing list is settled -/
theorem RepM.settle (R : RepM P w M H) {k : Nat} {ds : List D} (hm : M[k]? = some (.lst ds)) (hp : w.r[k]? = some p) :
    ∃ vs, H p = some (.lst vs) ∧ RelDs P w ds vs ∧ RepM P { w with F := upd w.F p (.lst vs) } (M.set k .dead) H ∧ Step w H { w with F := upd w.F p (.lst vs) } H := by
  obtain ⟨hF, vs, hv, r⟩ := R.cell k _ p hm hp
  have hpr : p ∈ w.r := List.mem_of_getElem? hp
  have le : Le w { w with F := upd w.F p (.lst vs) } := ⟨fun a u e => by show upd w.F p _ a = _; rw [upd_ne (fun z => by rw [z, hF] at e; cases e)]; exact e, fun _ _ e => e⟩
  refine ⟨vs, hv, r, ⟨fun a u e => ?_, by simp [R.len], R.nd, R.inH, fun j n q hn hq => ?_, R.tab.on (fun _ _ h1 h2 => ⟨h1, h2⟩) (fun a ps h1 h2 h3 => ⟨h1, (by show upd w.F p _ a = none; rw [upd_ne (fun z => h1 (by rw [z]; exact hpr))]; exact h2), h3⟩) (fun a ps z => by
    have z : upd w.F p _ a = some (.tbl ps) := z
    by_cases ha : a = p
    · subst ha; rw [upd_same] at z; cases z
    · rw [upd_ne ha] at z; exact z) R.tab.nc⟩, le, fun a u e _ _ => e, fun a e h1 h2 => ⟨?_, h2⟩, fun a e => e⟩
  · have e' : upd w.F p (.lst vs) a = some u := e
    by_cases ha : a = p
    · subst ha; rw [upd_same] at e'; rw [← e']; exact hv
    · rw [upd_ne ha] at e'; exact R.sub _ _ e'
  · by_cases hj : j = k
    · subst hj
      have hlt : j < M.length := (List.getElem?_eq_some_iff.mp hm).1
      rw [List.getElem?_set_self hlt] at hn
      cases hn
      trivial
    · rw [List.getElem?_set_ne (Ne.symm hj)] at hn
      have nq : q ≠ p := fun z => by
        subst z
        obtain ⟨l1, e1⟩ := List.getElem?_eq_some_iff.mp hq
        obtain ⟨l2, e2⟩ := List.getElem?_eq_some_iff.mp hp
        exact hj ((List.getElem_inj R.nd).mp (e1.trans e2.symm))
      exact (R.cell j n q hn hq).mono le (fun z => by show upd w.F p _ q = none; rw [upd_ne nq]; exact z) rfl fun _ _ h1 h2 => ⟨h1, h2⟩
  · show upd w.F p _ a = none
    rw [upd_ne (fun z => h2 (by rw [z]; exact hpr))]; exact h1
/-- a changing instance is settled -/
theorem relKs_zip {P : Pm} {w : Wd} : ∀ {fs : List (Str × D)} {us : List (Str × V)}, RelKs P w fs us → us = (fs.map (·.1)).zip (us.map (·.2)) ∧ RelDs P w (fs.map (·.2)) (us.map (·.2))
  | [], us, h => by
    have h : us = [] := h
    subst h; exact ⟨rfl, rfl⟩
  | (k, d) :: r, _, ⟨v, us', e, h2, h3⟩ => by
    subst e
    obtain ⟨a, b⟩ := relKs_zip h3
    refine ⟨?_, v, _, rfl, h2, b⟩
    rw [List.map_cons, List.map_cons, List.zip_cons_cons, ← a]
theorem RepM.settleI (R : RepM P w M H) {k : Nat} {c : Str} {fs : List (Str × D)} (hm : M[k]? = some (.ins c fs)) (hp : w.r[k]? = some p) :
    ∃ w', w'.r = w.r ∧ RepM P w' (M.set k .dead) H ∧ Step w H w' H ∧ RelD P w' (.obj c (fs.map (·.1)) (fs.map (·.2))) (.ref p) := by
  obtain ⟨hF, dx, us, hv, r⟩ := R.cell k _ p hm hp
  have hpr : p ∈ w.r := List.mem_of_getElem? hp
  have le : Le w { w with F := upd w.F p (.ins (P.cls c) dx us) } := ⟨fun a u e => by show upd w.F p _ a = _; rw [upd_ne (fun z => by rw [z, hF] at e; cases e)]; exact e, fun _ _ e => e⟩
  obtain ⟨z1, z2⟩ := relKs_zip r
  refine ⟨{ w with F := upd w.F p (.ins (P.cls c) dx us) }, rfl, ⟨fun a u e => ?_, by simp [R.len], R.nd, R.inH, fun j n q hn hq => ?_, R.tab.on (fun _ _ h1 h2 => ⟨h1, h2⟩) (fun a ps h1 h2 h3 => ⟨h1, (by show upd w.F p _ a = none; rw [upd_ne (fun z => h1 (by rw [z]; exact hpr))]; exact h2), h3⟩) (fun a ps z => by
    have z : upd w.F p _ a = some (.tbl ps) := z
    by_cases ha : a = p
    · subst ha; rw [upd_same] at z; cases z
    · rw [upd_ne ha] at z; exact z) R.tab.nc⟩, ⟨le, fun a u e _ _ => e, fun a e h1 h2 => ⟨?_, h2⟩, fun a e => e⟩, ⟨p, dx, us.map (·.2), rfl, ?_, by simp, z2.mono le⟩⟩
  · have e' : upd w.F p (.ins (P.cls c) dx us) a = some u := e
    by_cases ha : a = p
    · subst ha; rw [upd_same] at e'; rw [← e']; exact hv
    · rw [upd_ne ha] at e'; exact R.sub _ _ e'
  · by_cases hj : j = k
    · subst hj
      have hlt : j < M.length := (List.getElem?_eq_some_iff.mp hm).1
      rw [List.getElem?_set_self hlt] at hn
      cases hn
      trivial
    · rw [List.getElem?_set_ne (Ne.symm hj)] at hn
      have nq : q ≠ p := fun z => by
        subst z
        obtain ⟨l1, e1⟩ := List.getElem?_eq_some_iff.mp hq
        obtain ⟨l2, e2⟩ := List.getElem?_eq_some_iff.mp hp
        exact hj ((List.getElem_inj R.nd).mp (e1.trans e2.symm))
      exact (R.cell j n q hn hq).mono le (fun z => by show upd w.F p _ q = none; rw [upd_ne nq]; exact z) rfl fun _ _ h1 h2 => ⟨h1, h2⟩
  · show upd w.F p _ a = none
    rw [upd_ne (fun z => h2 (by rw [z]; exact hpr))]; exact h1
  · show upd w.F p _ p = _
    rw [upd_same, ← z1]
end
mutual
def RLt (n : Nat) : D → Prop
  | .ref k => k < n
  | .tup ds => RLts n ds
  | .lst ds => RLts n ds
  | .obj _ _ ds => RLts n ds
  | .exc _ _ _ _ ds => RLts n ds
  | _ => True
def RLts (n : Nat) : List D → Prop
  | [] => True
  | d :: ds => RLt n d ∧ RLts n ds
end
theorem RLts_iff {n : Nat} : ∀ {ds : List D}, RLts n ds ↔ ∀ d ∈ ds, RLt n d
  | [] => by simp [RLts]
  | d :: ds => by simp [RLts, RLts_iff (ds := ds)]
def RLtM (n : Nat) : MO → Prop
  | .dead => True
  | .fn _ _ cs _ => RLts n cs
  | .lst ds => RLts n ds
  | .dct kvs => ∀ p ∈ kvs, RLt n p.2
  | .dctT kvs => ∀ p ∈ kvs, RLt n p.1 ∧ RLt n p.2
  | .ins _ fs => ∀ p ∈ fs, RLt n p.2
/-- what stands at changing objects points to changing objects that stand -/
def MOk (M : Md) : Prop := ∀ m ∈ M, RLtM M.length m
section
variable {P : Pm} {w : Wd}
mutual
theorem RelD.rlt : ∀ {d : D} {v : V}, RelD P w d v → RLt w.r.length d
  | .non, _, _ => trivial
  | .bl _, _, _ => trivial
  | .int _, _, _ => trivial
  | .str _, _, _ => trivial
  | .scr _, _, _ => trivial
  | .tup ds, _, ⟨p, vs, e, hp, hs⟩ => RelDs.rlt hs
  | .lst ds, _, ⟨p, vs, e, hp, hs⟩ => RelDs.rlt hs
  | .ref _, _, ⟨p, e, hp⟩ => (List.getElem?_eq_some_iff.mp hp).1
  | .obj c ns ds, _, ⟨p, dx, vs, e, hp, hl, hs⟩ => RelDs.rlt hs
  | .exc a od c ns ds, _, ⟨vs, e, hp, hl, hs⟩ => RelDs.rlt hs
theorem RelDs.rlt : ∀ {ds : List D} {vs : List V}, RelDs P w ds vs → RLts w.r.length ds
  | [], _, _ => trivial
  | d :: ds, _, ⟨v, r, e, h1, h2⟩ => ⟨RelD.rlt h1, RelDs.rlt h2⟩
end
mutual
theorem RelD.cut {n : Nat} : ∀ {d : D} {v : V}, RelD P w d v → RLt n d → RelD P { w with r := w.r.take n } d v
  | .non, _, h, _ => h
  | .bl _, _, h, _ => h
  | .int _, _, h, _ => h
  | .str _, _, h, _ => h
  | .scr _, _, h, _ => h
  | .tup ds, _, ⟨p, vs, e, hp, hs⟩, l => ⟨p, vs, e, hp, RelDs.cut hs l⟩
  | .lst ds, _, ⟨p, vs, e, hp, hs⟩, l => ⟨p, vs, e, hp, RelDs.cut hs l⟩
  | .ref k, _, ⟨p, e, hp⟩, l => ⟨p, e, by
    have l : k < n := l
    show (w.r.take n)[k]? = some p
    rw [List.getElem?_take_of_lt l]; exact hp⟩
  | .obj c ns ds, _, ⟨p, dx, vs, e, hp, hl, hs⟩, l => ⟨p, dx, vs, e, hp, hl, RelDs.cut hs l⟩
  | .exc a od c ns ds, _, ⟨vs, e, hp, hl, hs⟩, l => ⟨vs, e, hp, hl, RelDs.cut hs l⟩
theorem RelDs.cut {n : Nat} : ∀ {ds : List D} {vs : List V}, RelDs P w ds vs → RLts n ds → RelDs P { w with r := w.r.take n } ds vs
  | [], _, h, _ => h
  | d :: ds, _, ⟨v, r, e, h1, h2⟩, l => ⟨v, r, e, RelD.cut h1 l.1, RelDs.cut h2 l.2⟩
end
theorem RelKs.rlt {κ : Type} : ∀ {ds : List (κ × D)} {vs : List (κ × V)}, RelKs P w ds vs → ∀ p ∈ ds, RLt w.r.length p.2
  | [], _, _, p, hp => by cases hp
  | (k, d) :: r, _, ⟨v, us', e, h2, h3⟩, p, hp => by
    rcases List.mem_cons.mp hp with z | z
    · rw [z]; exact h2.rlt
    · exact RelKs.rlt h3 p z
theorem RelKs.cut {κ : Type} {n : Nat} : ∀ {ds : List (κ × D)} {vs : List (κ × V)}, RelKs P w ds vs → (∀ p ∈ ds, RLt n p.2) → RelKs P { w with r := w.r.take n } ds vs
  | [], _, h, _ => h
  | (k, d) :: r, _, ⟨v, us', e, h2, h3⟩, l => ⟨v, us', e, h2.cut (l _ List.mem_cons_self), RelKs.cut h3 fun p hp => l p (List.mem_cons_of_mem _ hp)⟩
theorem RelTs.rlt : ∀ {ds : List (D × D)} {es : List (NestedKey × Addr × V)}, RelTs P w ds es → ∀ p ∈ ds, RLt w.r.length p.1 ∧ RLt w.r.length p.2
  | [], _, _, p, hp => by cases hp
  | (kd, d) :: r, _, ⟨k, b, v, es', e, h1, h2, h3, h4, h5⟩, p, hp => by
    rcases List.mem_cons.mp hp with z | z
    · rw [z]; exact ⟨h3.rlt, h4.rlt⟩
    · exact RelTs.rlt h5 p z
theorem RelTs.cut {n : Nat} : ∀ {ds : List (D × D)} {es : List (NestedKey × Addr × V)}, RelTs P w ds es → (∀ p ∈ ds, RLt n p.1 ∧ RLt n p.2) → RelTs P { w with r := w.r.take n } ds es
  | [], _, h, _ => h
  | (kd, d) :: r, _, ⟨k, b, v, es', e, h1, h2, h3, h4, h5⟩, l => ⟨k, b, v, es', e, h1, h2, h3.cut (l _ List.mem_cons_self).1, h4.cut (l _ List.mem_cons_self).2, RelTs.cut h5 fun p hp => l p (List.mem_cons_of_mem _ hp)⟩
variable {M : Md} {H : Hp}
theorem RepM.ok (R : RepM P w M H) : MOk M := fun m hm => by
  obtain ⟨k, hk, e⟩ := List.getElem_of_mem hm
  have hm' : M[k]? = some m := by rw [List.getElem?_eq_getElem hk, e]
  obtain ⟨p, hp⟩ := R.at hm'
  have c := R.cell k m p hm' hp
  rw [R.len]
  cases m with
  | dead => trivial
  | fn _ _ _ _ => exact c.2.2.2.2.rlt
  | lst ds => obtain ⟨_, vs, _, r⟩ := c; exact r.rlt
  | dct kvs => obtain ⟨_, us, _, r⟩ := c; exact r.rlt
  | dctT kvs => obtain ⟨_, us, _, r⟩ := c; exact r.rlt
  | ins _ fs => obtain ⟨_, dx, us, _, r⟩ := c; exact r.rlt
theorem RepM.letgo (R : RepM P w M H) {n : Nat} (hn : n ≤ M.length) (hm : ∀ m ∈ M.take n, RLtM n m) : RepM P { w with r := w.r.take n } (M.take n) H where
  sub := R.sub
  len := by rw [List.length_take, List.length_take, R.len]
  nd := R.nd.sublist (List.take_sublist _ _)
  inH := fun p hp => R.inH p (List.mem_of_mem_take hp)
  cell := fun k m p h1 h2 => by
    have hk : k < n := by
      have := (List.getElem?_eq_some_iff.mp h1).1
      rw [List.length_take] at this; omega
    have h1' : M[k]? = some m := by rwa [List.getElem?_take_of_lt hk] at h1
    have h2' : w.r[k]? = some p := by
      have : (w.r.take n)[k]? = some p := h2
      rwa [List.getElem?_take_of_lt hk] at this
    have c := R.cell k m p h1' h2'
    have l := hm m (List.mem_of_getElem? h1)
    cases m with
    | dead => trivial
    | fn F n _ _ => exact ⟨c.1, c.2.1, fun z => c.2.2.1 (List.mem_of_mem_take z), c.2.2.2.1, c.2.2.2.2.cut l⟩
    | lst ds => obtain ⟨a, vs, e, r⟩ := c; exact ⟨a, vs, e, r.cut l⟩
    | dct kvs => obtain ⟨a, us, e, r⟩ := c; exact ⟨a, us, e, r.cut l⟩
    | dctT kvs => obtain ⟨a, us, e, r⟩ := c; exact ⟨a, us, e, r.cut l⟩
    | ins _ fs => obtain ⟨a, dx, us, e, r⟩ := c; exact ⟨a, dx, us, e, r.cut l⟩
  tab := R.tab.on (fun _ _ h1 h2 => ⟨fun z => h1 (List.mem_of_mem_take z), h2⟩) (fun a ps h1 h2 h3 => ⟨fun z => h1 (List.mem_of_mem_take z), h2, h3⟩) (fun a ps z => z) fun b hb => R.tab.nc b (List.mem_of_mem_take hb)
theorem Step.letgo {w0 : Wd} {H0 : Hp} (s : Step w0 H0 w H) {n : Nat} (h0 : w0.r.length ≤ n) : Step w0 H0 { w with r := w.r.take n } H where
  le := ⟨s.le.F, fun k p e => by
    have hk : k < n := Nat.lt_of_lt_of_le (List.getElem?_eq_some_iff.mp e).1 h0
    show (w.r.take n)[k]? = some p
    rw [List.getElem?_take_of_lt hk]; exact s.le.r _ _ e⟩
  keep := s.keep
  new := fun a e h1 h2 => ⟨(s.new a e h1 h2).1, fun z => (s.new a e h1 h2).2 (List.mem_of_mem_take z)⟩
  stay := s.stay
end
/-- what a def hands back: as it is; a changing list settled; changing objects of its own let go -/
inductive Fin (n0 : Nat) (Q : D → Md → Prop) : D → Md → Prop
  | keep {d : D} {M : Md} : Q d M → Fin n0 Q d M
  | drop {d : D} {M : Md} (n : Nat) : n0 ≤ n → n ≤ M.length → RLt n d → (∀ m ∈ M.take n, RLtM n m) → Fin n0 Q d (M.take n) → Fin n0 Q d M
  | settle {k : Nat} {ds : List D} {M : Md} : M[k]? = some (.lst ds) → Fin n0 Q (.lst ds) (M.set k .dead) → Fin n0 Q (.ref k) M
  | settleI {k : Nat} {c : Str} {fs : List (Str × D)} {M : Md} : M[k]? = some (.ins c fs) → Fin n0 Q (.obj c (fs.map (·.1)) (fs.map (·.2))) (M.set k .dead) → Fin n0 Q (.ref k) M
  | settleT {k : Nat} {ds es us : List D} {M : Md} : M[k]? = some (.lst ds) → Fin n0 Q (.tup (es ++ .lst ds :: us)) (M.set k .dead) → Fin n0 Q (.tup (es ++ .ref k :: us)) M
theorem RelDs.split {P : Pm} {w : Wd} {ds : List D} : ∀ {es : List D} {vs : List V}, RelDs P w (es ++ ds) vs → ∃ a b, vs = a ++ b ∧ RelDs P w es a ∧ RelDs P w ds b
  | [], vs, h => ⟨[], vs, rfl, rfl, h⟩
  | e :: es, vs, ⟨v, r, z, h1, h2⟩ => by
    obtain ⟨a, b, z2, h3, h4⟩ := RelDs.split h2
    exact ⟨v :: a, b, by rw [z, z2]; rfl, ⟨v, a, rfl, h1, h3⟩, h4⟩
theorem Fin.run {P : Pm} {n0 : Nat} {Q : D → Md → Prop} {d : D} {M : Md} (f : Fin n0 Q d M) : ∀ {w0 w : Wd} {H0 H : Hp} {v : V}, w0.r.length ≤ n0 → Step w0 H0 w H → RepM P w M H → RelD P w d v →
    ∃ d' M' w', Step w0 H0 w' H ∧ RepM P w' M' H ∧ RelD P w' d' v ∧ Q d' M' := by
  induction f with
  | keep q => intro w0 w H0 H v _ s R r; exact ⟨_, _, w, s, R, r, q⟩
  | drop n h0 hn hd hm _ ih =>
    intro w0 w H0 H v hw s R r
    exact ih hw (s.letgo (Nat.le_trans hw h0)) (R.letgo hn hm) (r.cut hd)
  | @settle k ds M hk _ ih =>
    intro w0 w H0 H v hw s R r
    obtain ⟨p, e, hp⟩ := r
    obtain ⟨vs, hv, rs, R', s'⟩ := R.settle hk hp
    refine ih hw (s.trans s') R' ⟨p, vs, e, ?_, rs.mono s'.le⟩
    show upd w.F p (.lst vs) p = _
    rw [upd_same]
  | @settleI k c fs M hk _ ih =>
    intro w0 w H0 H v hw s R r
    obtain ⟨p, e, hp⟩ := r
    obtain ⟨w', e1, R', s', r'⟩ := R.settleI hk hp
    subst e
    exact ih hw (s.trans s') R' r'
  | @settleT k ds es us M hk _ ih =>
    intro w0 w H0 H v hw s R r
    obtain ⟨q, vs, e, hq, rs⟩ := r
    obtain ⟨a, b, e2, h1, h2⟩ := rs.split
    obtain ⟨v, b, e3, ⟨p, e4, hp⟩, h3⟩ := h2
    obtain ⟨us', hv, rs', R', s'⟩ := R.settle hk hp
    refine ih hw (s.trans s') R' ⟨q, vs, e, sqT_mono s'.le.F hq, ?_⟩
    subst e2 e3 e4
    refine (h1.mono s'.le).append (.cons ⟨p, us', rfl, ?_, rs'.mono s'.le⟩ (h3.mono s'.le))
    show upd w.F p (.lst us') p = _
    rw [upd_same]
end DL
namespace DL
open PySem L2
abbrev QE := D → Md → Prop
/-- an exception: its class, its fields -/
structure XD where
  cls : Str
  fs : Option (List (Str × D))
abbrev EX := XD → Md → Prop
abbrev O2 := D → D → Md → QE → Prop
abbrev OA := List D → Md → QE → Prop
def Lk (P : Pm) (w : Wd) (H : Hp) (Qd : QE) (Q : VK) : Prop := ∀ w' M' H' d v, Step w H w' H' → RepM P w' M' H' → RelD P w' d v → Qd d M' → Q v H'
section
variable {P : Pm} {w : Wd} {M : Md} {H : Hp} {p : Addr} {Qd : QE} {Q : VK}
theorem Lk.same (l : Lk P w H Qd Q) (R : RepM P w M H) {d : D} {v : V} (r : RelD P w d v) (q : Qd d M) : Q v H := l w M H d v (.refl _ _) R r q
theorem Lk.tup (l : Lk P w H Qd Q) (R : RepM P w M H) {ds : List D} {vs : List V} (r : RelDs P w ds vs) (h : H p = none) (q : Qd (.tup ds) M) : Q (.ref p) (upd H p (.tup vs)) := by
  obtain ⟨R', s⟩ := R.newF h (.tup vs) fun _ z => by cases z
  exact l _ M _ (.tup ds) _ s R' ⟨p, vs, rfl, .inl (.inl upd_same), r.mono s.le⟩ q
theorem Lk.lst (l : Lk P w H Qd Q) (R : RepM P w M H) {ds : List D} {vs : List V} (r : RelDs P w ds vs) (h : H p = none) (q : Qd (.lst ds) M) : Q (.ref p) (upd H p (.lst vs)) := by
  obtain ⟨R', s⟩ := R.newF h (.lst vs) fun _ z => by cases z
  exact l _ M _ (.lst ds) _ s R' ⟨p, vs, rfl, upd_same, r.mono s.le⟩ q
theorem Lk.cell (l : Lk P w H Qd Q) (R : RepM P w M H) {ds : List D} {vs : List V} (r : RelDs P w ds vs) (h : H p = none) (q : Qd (.ref M.length) (M ++ [.lst ds])) : Q (.ref p) (upd H p (.lst vs)) := by
  have le : Le w { w with r := w.r ++ [p] } := ⟨fun _ _ e => e, fun k q e => by
    show (w.r ++ [p])[k]? = some q
    rw [List.getElem?_append_left (List.getElem?_eq_some_iff.mp e).1]; exact e⟩
  obtain ⟨R', s⟩ := R.newC h (.lst vs) (.lst ds) .lst ⟨R.Fnone h, vs, upd_same, r.mono le⟩
  exact l _ _ _ (.ref M.length) _ s R' ⟨p, rfl, by show (w.r ++ [p])[M.length]? = some p; rw [R.len]; simp⟩ q
end
def lstOf : D → Md → Option (List D)
  | .lst ds, _ => some ds
  | .ref k, M => match M[k]? with
    | some (.lst ds) => some ds
    | _ => none
  | _, _ => none
def seqOf : D → Md → Option (List D)
  | .tup ds, _ => some ds
  | .scr ns, _ => some (ns.map D.int)
  | .lst ds, _ => some ds
  | .ref k, M => match M[k]? with
    | some (.lst ds) => some ds
    | _ => none
  | _, _ => none
section
variable {P : Pm} {w : Wd} {M : Md} {H : Hp} {p : Addr} {Qd : QE} {Q : VK}
theorem relDs_ints : ∀ ns : List Int, RelDs P w (ns.map D.int) (ns.map V.int)
  | [] => rfl
  | n :: ns => ⟨.int n, _, rfl, rfl, relDs_ints ns⟩
theorem lstOf_at (R : RepM P w M H) {d : D} {v : V} {ds : List D} (r : RelD P w d v) (h : lstOf d M = some ds) : ∃ p vs, v = .ref p ∧ H p = some (.lst vs) ∧ RelDs P w ds vs := by
  cases d with
  | lst es =>
    cases h
    obtain ⟨p, vs, e, hp, hs⟩ := r
    exact ⟨p, vs, e, R.sub _ _ hp, hs⟩
  | ref k =>
    obtain ⟨p, e, hp⟩ := r
    have h : (match M[k]? with
      | some (.lst ds) => some ds
      | _ => none) = some ds := h
    split at h
    · rename_i ds' hm
      cases h
      obtain ⟨_, vs, e2, hs⟩ := R.cell k _ p hm hp
      exact ⟨p, vs, e, e2, hs⟩
    · cases h
  | _ => cases h
theorem seqOf_at (R : RepM P w M H) {d : D} {v : V} {ds : List D} (r : RelD P w d v) (h : seqOf d M = some ds) : ∃ p vs, v = .ref p ∧ (SqL P.K H p vs ∨ SqT P.K H p vs) ∧ RelDs P w ds vs := by
  cases d with
  | tup es =>
    cases h
    obtain ⟨p, vs, e, hp, hs⟩ := r
    exact ⟨p, vs, e, .inr (sqT_mono R.sub hp), hs⟩
  | lst es =>
    cases h
    obtain ⟨p, vs, e, hp, hs⟩ := r
    exact ⟨p, vs, e, .inl (SqL.of (R.sub _ _ hp)), hs⟩
  | scr ns =>
    cases h
    obtain ⟨p, e, hp⟩ := r
    exact ⟨p, _, e, .inl (sqL_mono R.sub hp), relDs_ints ns⟩
  | ref k =>
    obtain ⟨p, e, hp⟩ := r
    have h : (match M[k]? with
      | some (.lst ds) => some ds
      | _ => none) = some ds := h
    split at h
    · rename_i ds' hm
      cases h
      obtain ⟨_, vs, e2, hs⟩ := R.cell k _ p hm hp
      exact ⟨p, vs, e, .inl (SqL.of e2), hs⟩
    · cases h
  | _ => cases h
end
def truD : D → Md → (Bool → Prop) → Prop
  | .non, _, Q => Q false
  | .bl b, _, Q => Q b
  | .int i, _, Q => Q (i != 0)
  | .str s, _, Q => s.length ≤ sizeLine ∧ Q ((s.length : Int) != 0)
  | .tup ds, _, Q => Q (!ds.isEmpty)
  | .lst ds, _, Q => Q (!ds.isEmpty)
  | .scr ns, _, Q => Q (!ns.isEmpty)
  | .obj _ _ _, _, _ => False
  | .exc _ _ _ _ _, _, _ => False
  | .ref k, M, Q => match M[k]? with
    | some (.lst ds) => Q (!ds.isEmpty)
    | _ => False
theorem relDs_empty {P : Pm} {w : Wd} {ds : List D} {vs : List V} (r : RelDs P w ds vs) : vs.isEmpty = ds.isEmpty := by
  cases ds with
  | nil => have r : vs = [] := r; rw [r]; rfl
  | cons d ds => obtain ⟨v, r, e, _⟩ := r; rw [e]; rfl
theorem truD_at {P : Pm} {w : Wd} {M : Md} {H : Hp} (R : RepM P w M H) {d : D} {v : V} {Q : Bool → Prop} (r : RelD P w d v) (h : truD d M Q) : ∃ k, TruV P.K v H k ∧ Q k := by
  cases d with
  | non => have r : v = .non := r; subst r; exact ⟨_, rfl, h⟩
  | bl b => have r : v = .bl b := r; subst r; exact ⟨_, rfl, h⟩
  | int b => have r : v = .int b := r; subst r; exact ⟨_, rfl, h⟩
  | str b => have r : v = .str b := r; subst r; exact ⟨_, ⟨h.1, rfl⟩, h.2⟩
  | tup ds =>
    obtain ⟨p, vs, e, hp, hs⟩ := r
    subst e
    exact ⟨!vs.isEmpty, .inr (.inl ⟨vs, sqT_mono R.sub hp, rfl⟩), by rw [relDs_empty hs]; exact h⟩
  | lst ds =>
    obtain ⟨p, vs, e, hp, hs⟩ := r
    subst e
    exact ⟨!vs.isEmpty, .inl ⟨vs, SqL.of (R.sub _ _ hp), rfl⟩, by rw [relDs_empty hs]; exact h⟩
  | scr ns =>
    obtain ⟨p, e, hp⟩ := r
    subst e
    exact ⟨!(ns.map V.int).isEmpty, .inl ⟨_, sqL_mono R.sub hp, rfl⟩, by rw [List.isEmpty_map]; exact h⟩
  | obj c ns ds => exact h.elim
  | exc a od c ns ds => exact h.elim
  | ref k =>
    obtain ⟨p, e, hp⟩ := r
    subst e
    have h : (match M[k]? with
      | some (.lst ds) => Q (!ds.isEmpty)
        | _ => False) := h
    split at h
    · rename_i ds hm
      obtain ⟨_, vs, e2, hs⟩ := R.cell k _ p hm hp
      exact ⟨!vs.isEmpty, .inl ⟨vs, SqL.of e2, rfl⟩, by rw [relDs_empty hs]; exact h⟩
    · exact h.elim
def liO2 (P : Pm) (o : O2) : R2 := fun x y H Q => ∃ w M dx dy Qd, RepM P w M H ∧ RelD P w dx x ∧ RelD P w dy y ∧ Lk P w H Qd Q ∧ o dx dy M Qd
def liOA (P : Pm) (o : OA) : List V → Hp → VK → Prop := fun xs H Q => ∃ w M ds Qd, RepM P w M H ∧ RelDs P w ds xs ∧ Lk P w H Qd Q ∧ o ds M Qd
inductive Op where
  | add | cat | sub | mul | fdiv | fdivW | mod | pow | band
def opO : Op → Operator
  | .add => .Add | .cat => .Add | .sub => .Sub | .mul => .Mult | .fdiv => .FloorDiv | .fdivW => .FloorDiv | .mod => .Mod | .pow => .Pow | .band => .BitAnd
def repS (s : Str) (n : Nat) : Str := ⟨(List.replicate n s.cps).foldl (· ++ ·) #[]⟩
theorem op_mul_str {X : Cx} : OpR X (binaryOp .Mult) (fun x y H Q => ∃ i j, x = .str i ∧ y = .int j ∧ 0 ≤ j ∧ 1 ≤ i.length ∧ i.length * j.toNat ≤ sizeLine ∧ Q (.str (repS i j.toNat)) H) := by
  intro pins s σ H x y v u Q I rx ry h
  obtain ⟨i, j, rfl, rfl, hj, hi, hz, q⟩ := h
  obtain ⟨t, rfl⟩ := rx
  obtain ⟨t', rfl⟩ := ry
  have hjn : j.toNat ≤ sizeLine := Nat.le_trans (Nat.le_mul_of_pos_left _ hi) hz
  have hzl : sizeLine = 16777216 := rfl
  have htl : Builtin.Str.tooLong (i.length * j.toNat) = false := by
    unfold Builtin.Str.tooLong
    exact decide_eq_false (by omega)
  refine P.mul_str ?_ (fun hj1 _ => ?_) (fun _ _ => htl) ?_
  · rw [decide_eq_false (by omega), decide_eq_false (by omega)]; rfl
  · have hil : i.length ≤ sizeLine := Nat.le_trans (Nat.le_mul_of_pos_right _ (by omega)) hz
    have h1 : j.toNat * i.length ≤ 16777216 := by rw [Nat.mul_comm]; exact hz
    have h2 : (i.length : Int) * j ≤ 16777216 := by
      have e : j = (j.toNat : Int) := by omega
      rw [e, Int.mul_comm]
      have h4 : ((j.toNat * i.length : Nat) : Int) ≤ ((16777216 : Nat) : Int) := Int.ofNat_le.mpr h1
      rw [Int.natCast_mul] at h4
      exact h4
    have h3 : (i.length : Int) ≤ (2 ^ 63 - 1) / j := by
      refine (Int.le_ediv_iff_mul_le (by omega)).mpr ?_
      omega
    omega
  · by_cases h0 : j = 0
    · subst h0
      rw [if_pos (by omega)]
      exact ⟨by decide, .str (repS i 0), H, I.tok _, ⟨_, rfl⟩, q⟩
    rw [if_neg (by omega)]
    by_cases h1 : j = 1
    · subst h1
      rw [if_pos (by rfl)]
      have e : repS i 1 = i := by
        show (⟨#[] ++ i.cps⟩ : Str) = i
        rw [Array.empty_append]
      have q' : Q (.str (repS i 1)) H := q
      rw [e] at q'
      exact ⟨.str i, H, I, ⟨_, rfl⟩, q'⟩
    rw [if_neg (by
      simp only [Bool.or_eq_true, beq_iff_eq]
      omega)]
    exact ⟨PySem.fits_reps htl, .str (repS i j.toNat), H, I.tok _, ⟨_, rfl⟩, q⟩
/-- add: a list comes out settled; cat: it may be changed later -/
def opD : Op → O2
  | .add, .int i, .int j, M, Q => Q (.int (i + j)) M
  | .add, .str s, .str t, M, Q => s.length + t.length ≤ sizeLine ∧ Q (.str (s ++ t)) M
  | .add, .tup a, .tup b, M, Q => a.length + b.length ≤ sizeLine ∧ Q (.tup (a ++ b)) M
  | .add, x, y, M, Q => match lstOf x M, lstOf y M with
    | some a, some b => a.length + b.length ≤ sizeLine ∧ Q (.lst (a ++ b)) M
    | _, _ => False
  | .cat, x, y, M, Q => match lstOf x M, lstOf y M with
    | some a, some b => a.length + b.length ≤ sizeLine ∧ Q (.ref M.length) (M ++ [.lst (a ++ b)])
    | _, _ => False
  | .sub, .int i, .int j, M, Q => Q (.int (i - j)) M
  | .mul, .int i, .int j, M, Q => CMul i j ∧ Q (.int (i * j)) M
  | .mul, .str s, .int j, M, Q => 0 ≤ j ∧ 1 ≤ s.length ∧ s.length * j.toNat ≤ sizeLine ∧ Q (.str (repS s j.toNat)) M
  | .fdiv, .int i, .int j, M, Q => CDiv i j ∧ Q (.int (i / j)) M
  | .fdivW, .int i, .int j, M, Q => CDivW i j ∧ Q (.int (i / j)) M
  | .mod, .int i, .int j, M, Q => 0 < j ∧ Q (.int (i % j)) M
  | .pow, .int i, .int j, M, Q => CPow i j ∧ Q (.int (i ^ j.toNat)) M
  | .band, .int i, .int j, M, Q => Q (.int (Builtin.bitAnd i j)) M
  | _, _, _, _, _ => False
theorem op_sound {X : Cx} {P : Pm} (hK : P.K = X.K) (o : Op) : OpR X (binaryOp (opO o)) (liO2 P (opD o)) := by
  intro pins st σ H x y v u Q I rx ry q
  obtain ⟨w, M, dx, dy, Qd, R, hx, hy, l, q⟩ := q
  have lists : ∀ {k : List D → Prop}, (match lstOf dx M, lstOf dy M with
      | some a, some b => a.length + b.length ≤ sizeLine ∧ k (a ++ b)
      | _, _ => False) → (∀ {p : Addr} {ds : List D} {vs : List V}, k ds → RelDs P w ds vs → H p = none → Q (.ref p) (upd H p (.lst vs))) →
      wpAny (model X.prog X.w) X.A (binaryOp .Add v u) (EP X pins σ Q) X.xe st := fun {k} h f => by
    split at h
    · rename_i a b ha hb
      obtain ⟨p1, v1, e1, h1, r1⟩ := lstOf_at R hx ha
      obtain ⟨p2, v2, e2, h2, r2⟩ := lstOf_at R hy hb
      subst e1; subst e2
      exact op_cat pins st σ H _ _ v u Q I rx ry ⟨p1, p2, v1, v2, rfl, rfl, h1, h2, by rw [r1.length, r2.length]; exact h.1, fun p hp => f h.2 (r1.append r2) hp⟩
    · exact h.elim
  have i2 : ∀ {i j : Int} {g : Int}, dx = .int i → dy = .int j → Qd (.int g) M → x = .int i ∧ y = .int j ∧ Q (.int g) H := fun {i j g} e1 e2 q2 => by
    subst e1; subst e2
    exact ⟨hx, hy, l.same R (d := .int g) (v := .int g) rfl q2⟩
  cases o with
  | add =>
    cases dx with
    | int i =>
      cases dy with
      | int j => obtain ⟨a, b, c⟩ := i2 rfl rfl q; exact op_add pins st σ H x y v u Q I rx ry ⟨i, j, a, b, c⟩
      | _ => exact lists (k := fun ds => Qd (.lst ds) M) q fun k r h => l.lst R r h k
    | str i =>
      cases dy with
      | str j =>
        have hx : x = .str i := hx
        have hy : y = .str j := hy
        subst hx; subst hy
        exact op_add_str pins st σ H _ _ v u Q I rx ry ⟨i, j, rfl, rfl, q.1, l.same R (d := .str _) rfl q.2⟩
      | _ => exact lists (k := fun ds => Qd (.lst ds) M) q fun k r h => l.lst R r h k
    | tup i =>
      cases dy with
      | tup j =>
        obtain ⟨p1, v1, e1, h1, r1⟩ := hx
        obtain ⟨p2, v2, e2, h2, r2⟩ := hy
        subst e1; subst e2
        rw [hK] at h1 h2
        have hh : ∀ p, RelD P w (.tup (i ++ j)) (.ref p) → Q (.ref p) H := fun p r => l.same R r q.2
        refine op_catA pins st σ H _ _ v u Q I rx ry ⟨p1, p2, v1, v2, rfl, rfl, sqT_mono R.sub h1, sqT_mono R.sub h2, by rw [r1.length, r2.length]; exact q.1, fun e => ?_, fun _ e => ?_, fun _ _ p hp => ?_⟩
        · have e' : i = [] := by have := r1.length; rw [e] at this; exact List.length_eq_zero_iff.mp this.symm
          refine hh p2 ⟨p2, v2, rfl, by rw [hK]; exact h2, by rw [e']; exact r2⟩
        · have e' : j = [] := by have := r2.length; rw [e] at this; exact List.length_eq_zero_iff.mp this.symm
          refine hh p1 ⟨p1, v1, rfl, by rw [hK]; exact h1, by rw [e', List.append_nil]; exact r1⟩
        · exact l.tup R (r1.append r2) hp q.2
      | _ => exact lists (k := fun ds => Qd (.lst ds) M) q fun k r h => l.lst R r h k
    | _ => cases dy <;> exact lists (k := fun ds => Qd (.lst ds) M) q fun k r h => l.lst R r h k
  | cat => exact lists (k := fun ds => Qd (.ref M.length) (M ++ [.lst ds])) (by cases dx <;> exact q) fun k r h => l.cell R r h k
  | sub =>
    cases dx <;> cases dy <;> first | exact False.elim q | skip
    obtain ⟨a, b, c⟩ := i2 rfl rfl q
    exact op_sub pins st σ H x y v u Q I rx ry ⟨_, _, a, b, c⟩
  | mul =>
    cases dx <;> cases dy <;> first | exact False.elim q | skip
    · obtain ⟨a, b, c⟩ := i2 rfl rfl q.2
      exact op_mul pins st σ H x y v u Q I rx ry ⟨_, _, a, b, q.1, c⟩
    · rename_i s j
      have hx : x = .str s := hx
      have hy : y = .int j := hy
      subst hx; subst hy
      exact op_mul_str pins st σ H _ _ v u Q I rx ry ⟨s, j, rfl, rfl, q.1, q.2.1, q.2.2.1, l.same R (d := .str _) rfl q.2.2.2⟩
  | fdiv =>
    cases dx <;> cases dy <;> first | exact False.elim q | skip
    obtain ⟨a, b, c⟩ := i2 rfl rfl q.2
    exact op_fdiv pins st σ H x y v u Q I rx ry ⟨_, _, a, b, q.1, c⟩
  | fdivW =>
    cases dx <;> cases dy <;> first | exact False.elim q | skip
    obtain ⟨a, b, c⟩ := i2 rfl rfl q.2
    exact op_fdivW pins st σ H x y v u Q I rx ry ⟨_, _, a, b, q.1, c⟩
  | mod =>
    cases dx <;> cases dy <;> first | exact False.elim q | skip
    obtain ⟨a, b, c⟩ := i2 rfl rfl q.2
    exact op_mod pins st σ H x y v u Q I rx ry ⟨_, _, a, b, q.1, c⟩
  | pow =>
    cases dx <;> cases dy <;> first | exact False.elim q | skip
    obtain ⟨a, b, c⟩ := i2 rfl rfl q.2
    exact op_pow pins st σ H x y v u Q I rx ry ⟨_, _, a, b, q.1, c⟩
  | band =>
    cases dx <;> cases dy <;> first | exact False.elim q | skip
    obtain ⟨a, b, c⟩ := i2 rfl rfl q
    exact op_and pins st σ H x y v u Q I rx ry ⟨_, _, a, b, c⟩
end DL
namespace DL
open PySem L2
mutual
def pyD : D → Option PyData
  | .non => some .none
  | .bl b => some (.bool b)
  | .int i => some (.int i)
  | .str s => some (.str s)
  | .tup ds => (pyDs ds).map .tuple
  | .lst ds => (pyDs ds).map .list
  | .scr ns => some (.list (ns.map .int))
  | .ref _ => none
  | .obj _ _ _ => none
  | .exc _ _ _ _ _ => none
def pyDs : List D → Option (List PyData)
  | [] => some []
  | d :: ds => match pyD d, pyDs ds with
    | some x, some xs => some (x :: xs)
    | _, _ => none
end
section
variable {P : Pm} {w : Wd} {M : Md} {H : Hp}
mutual
theorem pyD_at (R : RepM P w M H) : ∀ {d : D} {v : V} {y : PyData}, RelD P w d v → pyD d = some y → Dp P.K H v y
  | .non, v, y, r, e => by
    have r : v = .non := r
    cases e; subst r; exact .non
  | .bl b, v, y, r, e => by
    have r : v = .bl b := r
    cases e; subst r; exact .bl b
  | .int b, v, y, r, e => by
    have r : v = .int b := r
    cases e; subst r; exact .int b
  | .str b, v, y, r, e => by
    have r : v = .str b := r
    cases e; subst r; exact .str b
  | .tup ds, v, y, ⟨p, vs, ev, hp, hs⟩, e => by
    have e : (pyDs ds).map PyData.tuple = some y := e
    obtain ⟨ys, h1, h2⟩ := Option.map_eq_some_iff.mp e
    subst h2; subst ev
    exact .tup (sqT_mono R.sub hp) (pyDs_at R hs h1)
  | .lst ds, v, y, ⟨p, vs, ev, hp, hs⟩, e => by
    have e : (pyDs ds).map PyData.list = some y := e
    obtain ⟨ys, h1, h2⟩ := Option.map_eq_some_iff.mp e
    subst h2; subst ev
    exact .lst (SqL.of (R.sub _ _ hp)) (pyDs_at R hs h1)
  | .scr ns, v, y, ⟨p, ev, hp⟩, e => by
    cases e; subst ev
    refine .lst (sqL_mono R.sub hp) ?_
    clear hp
    induction ns with
    | nil => exact .nil
    | cons n ns ih => exact .cons (.int n) ih
  | .ref _, _, _, _, e => by cases e
  | .obj _ _ _, _, _, _, e => by cases e
  | .exc _ _ _ _ _, _, _, _, e => by cases e
theorem pyDs_at (R : RepM P w M H) : ∀ {ds : List D} {vs : List V} {ys : List PyData}, RelDs P w ds vs → pyDs ds = some ys → DpAll P.K H vs ys
  | [], vs, ys, r, e => by
    have r : vs = [] := r
    cases e; subst r; exact .nil
  | d :: ds, vs, ys, ⟨v, us, ev, h1, h2⟩, e => by
    have e : (match pyD d, pyDs ds with
      | some x, some xs => some (x :: xs)
      | _, _ => none) = some ys := e
    split at e
    · rename_i x xs hx hxs
      cases e; subst ev
      exact .cons (pyD_at R h1 hx) (pyDs_at R h2 hxs)
    · cases e
end
end
/-- a changing list as what it holds -/
def rsD (d : D) (M : Md) : D := match d with
  | .ref k => match M[k]? with
    | some (.lst ds) => .lst ds
    | _ => .ref k
  | d => d
theorem rsD_at {P : Pm} {w : Wd} {M : Md} {H : Hp} (R : RepM P w M H) {d : D} {v : V} {y : PyData} (r : RelD P w d v) (e : pyD (rsD d M) = some y) : Dp P.K H v y := by
  cases d with
  | ref k =>
    obtain ⟨p, ev, hp⟩ := r
    have e : pyD (match M[k]? with
      | some (.lst ds) => .lst ds
      | _ => .ref k) = some y := e
    split at e
    · rename_i ds hm
      obtain ⟨_, vs, e2, hs⟩ := R.cell k _ p hm hp
      have e : (pyDs ds).map PyData.list = some y := e
      obtain ⟨ys, h1, h2⟩ := Option.map_eq_some_iff.mp e
      subst h2; subst ev
      exact .lst (SqL.of e2) (pyDs_at R hs h1)
    · cases e
  | non => exact pyD_at R r e
  | bl _ => exact pyD_at R r e
  | int _ => exact pyD_at R r e
  | str _ => exact pyD_at R r e
  | tup _ => exact pyD_at R r e
  | lst _ => exact pyD_at R r e
  | scr _ => exact pyD_at R r e
  | obj _ _ _ => exact pyD_at R r e
  | exc _ _ _ _ _ => exact pyD_at R r e
/-- of scalars -/
def eqS : D → D → Option Bool
  | .non, .non => some true
  | .non, .int _ => some false
  | .int _, .non => some false
  | .non, .bl _ => some false
  | .bl _, .non => some false
  | .non, .str _ => some false
  | .str _, .non => some false
  | .int i, .int j => some (decide (i = j))
  | .bl i, .bl j => some (decide (i = j))
  | .str i, .str j => some (decide (i = j))
  | .int _, .str _ => some false
  | .str _, .int _ => some false
  | .bl _, .str _ => some false
  | .str _, .bl _ => some false
  | _, _ => none
def flatD : D → Bool
  | .non => true | .bl _ => true | .int _ => true | .str _ => true | _ => false
def eqF : D → D → Bool
  | .non, .non => true
  | .bl a, .bl b => a == b
  | .bl a, .int b => (if a then 1 else 0) == b
  | .int a, .bl b => a == (if b then 1 else 0)
  | .int a, .int b => a == b
  | .str a, .str b => a == b
  | _, _ => false
inductive Cp where
  | eq | ne | lt | le | gt | ge | isN | notN | isB | notB | inn | nin
  deriving DecidableEq
def cpO : Cp → CmpOp
  | .eq => .Eq | .ne => .NotEq | .lt => .Lt | .le => .LtE | .gt => .Gt | .ge => .GtE | .isN => .Is | .notN => .IsNot | .isB => .Is | .notB => .IsNot | .inn => .In | .nin => .NotIn
/-- keys -/
def keyD : D → Option (Option Key)
  | .non => some none
  | .int i => some (some (.inl i))
  | .str s => some (some (.inr s))
  | _ => none
def tKey (d : D) : Option NestedKey := match d with
  | .tup ds => match keyN (.tup ds) with
    | some k => if k.depth ≤ 8 then some k else none
    | none => none
  | _ => none
def dctVal {κ : Type} [DecidableEq κ] (kvs : List (κ × D)) (k : κ) : Option D := (kvs.find? fun kv => decide (kv.1 = k)).map (·.2)
def dctPut {κ : Type} [DecidableEq κ] (kvs : List (κ × D)) (k : κ) (v : D) : List (κ × D) :=
  if (kvs.any fun kv => decide (kv.1 = k)) = true then kvs.map (fun kv => if kv.1 = k then (kv.1, v) else kv) else kvs ++ [(k, v)]
def dctValT (kvs : List (D × D)) (k : NestedKey) : Option D := (kvs.find? fun kv => decide (keyN kv.1 = some k)).map (·.2)
def dctPutT (kvs : List (D × D)) (kd : D) (k : NestedKey) (v : D) : List (D × D) :=
  if (kvs.any fun kv => decide (keyN kv.1 = some k)) = true then kvs.map (fun kv => if keyN kv.1 = some k then (kv.1, v) else kv) else kvs ++ [(kd, v)]
/-- what the dict d holds at k (none: no dict, or no key of its kind) -/
def dGet (d k : D) (M : Md) : Option (Option D) := match d with
  | .ref i => match M[i]? with
    | some (.dct kvs) => (keyD k).map (dctVal kvs)
    | some (.dctT kvs) => (tKey k).map (dctValT kvs)
    | _ => none
  | _ => none
def inD (x y : D) (M : Md) (Q : Bool → Prop) : Prop := match x, y with
  | .str s, .str t => Q (!(Builtin.Str.occurrences t s 0 t.length 1).isEmpty)
  | x, y => match dGet y x M with
    | some r => Q r.isSome
    | none => match seqOf y M with
      | some ds => if flatD x && ds.all flatD then Q (ds.any fun d => eqF d x) else
          match pyD x, pyDs ds with
          | some px, some ps => SeqAt.shaped px = true ∧ SeqAt.shaped (.list ps) = true ∧ Q (ps.any fun z => PyData.eqv z px)
          | _, _ => False
      | none => False
def eqQ (x y : D) (M : Md) (Q : Bool → Prop) : Prop := match eqS x y with
  | some b => Q b
  | none => match pyD (rsD x M), pyD (rsD y M) with
    | some a, some b => SeqAt.shaped a = true ∧ SeqAt.shaped b = true ∧ Q (PyData.eqv a b)
    | _, _ => False
def cpI (f : Int → Int → Bool) (x y : D) (Q : Bool → Prop) : Prop := match x, y with
  | .int i, .int j => Q (f i j)
  | _, _ => False
def isNon : D → Bool
  | .non => true
  | _ => false
/-- of two truth values -/
def isB2 (x y : D) (Q : Bool → Prop) : Prop := match x, y with
  | .bl a, .bl b => Q (decide (a = b))
  | _, _ => False
def cpD (c : Cp) (x y : D) (M : Md) (Q : Bool → Prop) : Prop := match c with
  | .eq => eqQ x y M Q
  | .ne => eqQ x y M fun b => Q (!b)
  | .lt => cpI (fun i j => decide (i < j)) x y Q
  | .le => cpI (fun i j => decide (i ≤ j)) x y Q
  | .gt => cpI (fun i j => decide (j < i)) x y Q
  | .ge => cpI (fun i j => decide (j ≤ i)) x y Q
  | .isN => isNon y = true ∧ Q (isNon x)
  | .notN => isNon y = true ∧ Q (!isNon x)
  | .isB => isB2 x y Q
  | .notB => isB2 x y fun b => Q (!b)
  | .inn => inD x y M Q
  | .nin => inD x y M fun b => Q (!b)
abbrev cpR (c : Cp) : O2 := fun x y M Q => cpD c x y M fun b => Q (.bl b) M
section
variable {P : Pm} {w : Wd} {M : Md} {H : Hp}
theorem op_inDT {X : Cx} (hu : X.A.units + 65 < cLine) : OpR X (compareOp .In) (fun x y H Q => ∃ d ds, Dp X.K H x d ∧ (Dp X.K H y (.list ds) ∨ Dp X.K H y (.tuple ds)) ∧ SeqAt.shaped d = true ∧ SeqAt.shaped (.list ds) = true ∧ Q (.bl (ds.any fun z => PyData.eqv z d)) H) := by
  intro pins s σ H x y v u Q I rx ry h
  obtain ⟨d, ds, hd, he, sd, se, q⟩ := h
  rcases he with he | he
  · exact op_inD hu pins s σ H x y v u Q I rx ry ⟨d, ds, hd, he, sd, se, q⟩
  · obtain ⟨as, r1⟩ := Dp.reads I d x v hd rx
    obtain ⟨bs, r2⟩ := Dp.reads I (.tuple ds) y u he ry
    exact SeqAt.in_tuple_reads r2 r1 (SeqAt.canLay_of_shaped se) (SeqAt.canLay_of_shaped sd) (PyProof.Rows.room_in_shaped sd hu) ⟨.bl _, H, I, rfl, q⟩
theorem op_notInDT {X : Cx} (hu : X.A.units + 65 < cLine) : OpR X (compareOp .NotIn) (fun x y H Q => ∃ d ds, Dp X.K H x d ∧ (Dp X.K H y (.list ds) ∨ Dp X.K H y (.tuple ds)) ∧ SeqAt.shaped d = true ∧ SeqAt.shaped (.list ds) = true ∧ Q (.bl (!ds.any fun z => PyData.eqv z d)) H) := by
  intro pins s σ H x y v u Q I rx ry h
  obtain ⟨d, ds, hd, he, sd, se, q⟩ := h
  rcases he with he | he
  · exact op_notInD hu pins s σ H x y v u Q I rx ry ⟨d, ds, hd, he, sd, se, q⟩
  · obtain ⟨as, r1⟩ := Dp.reads I d x v hd rx
    obtain ⟨bs, r2⟩ := Dp.reads I (.tuple ds) y u he ry
    exact SeqAt.notIn_tuple_reads r2 r1 (SeqAt.canLay_of_shaped se) (SeqAt.canLay_of_shaped sd) (PyProof.Rows.room_in_shaped sd hu) ⟨.bl _, H, I, rfl, q⟩
theorem op_isB {X : Cx} : OpR X (compareOp .Is) (fun x y H Q => ∃ a b, x = .bl a ∧ y = .bl b ∧ Q (.bl (decide (a = b))) H) := by
  intro pins s σ H x y v u Q I rx ry h
  obtain ⟨a, b, rfl, rfl, q⟩ := h
  cases rx; cases ry
  show wpAny _ _ ((isSame (Value.bool a) (Value.bool b)) >>= fun z => pure (Value.bool z)) _ _ s
  refine wpAny_bind (wpAny_isSame_plain rfl (wpAny_pure (fin_bl I q ?_)))
  cases a <;> cases b <;> rfl
theorem op_notB {X : Cx} : OpR X (compareOp .IsNot) (fun x y H Q => ∃ a b, x = .bl a ∧ y = .bl b ∧ Q (.bl (!decide (a = b))) H) := by
  intro pins s σ H x y v u Q I rx ry h
  obtain ⟨a, b, rfl, rfl, q⟩ := h
  cases rx; cases ry
  show wpAny _ _ ((isSame (Value.bool a) (Value.bool b)) >>= fun z => pure (Value.bool (!z))) _ _ s
  refine wpAny_bind (wpAny_isSame_plain rfl (wpAny_pure (fin_bl I q ?_)))
  cases a <;> cases b <;> rfl
theorem relD_non {d : D} {v : V} (r : RelD P w d v) : decide (v = .non) = isNon d := by
  cases d with
  | non => have r : v = .non := r; subst r; rfl
  | bl b => have r : v = .bl b := r; subst r; rfl
  | int b => have r : v = .int b := r; subst r; rfl
  | str b => have r : v = .str b := r; subst r; rfl
  | tup ds => obtain ⟨p, vs, e, _⟩ := r; subst e; rfl
  | lst ds => obtain ⟨p, vs, e, _⟩ := r; subst e; rfl
  | scr ds => obtain ⟨p, e, _⟩ := r; subst e; rfl
  | ref ds => obtain ⟨p, e, _⟩ := r; subst e; rfl
  | obj _ _ _ => obtain ⟨p, dx, vs, e, _⟩ := r; subst e; rfl
  | exc _ _ _ _ _ => obtain ⟨vs, e, _⟩ := r; subst e; rfl
theorem eqS_at {x y : D} {u v : V} {b : Bool} (r1 : RelD P w x u) (r2 : RelD P w y v) (e : eqS x y = some b) : scal u v = true ∧ decide (u = v) = b := by
  cases x <;> cases y <;> first
    | (exfalso; simp [eqS] at e; done)
    | (have r1 : u = _ := r1
       have r2 : v = _ := r2
       subst r1; subst r2
       cases e
       exact ⟨rfl, by simp⟩)
theorem flat_at {x : D} {u : V} (r : RelD P w x u) (h : flatD x = true) : flatV u = true := by
  cases x <;> first
    | (exfalso; simp [flatD] at h; done)
    | (have r : u = _ := r
       subst r
       rfl)
theorem eqF_at {x y : D} {u v : V} (r1 : RelD P w x u) (r2 : RelD P w y v) (h1 : flatD x = true) (h2 : flatD y = true) : eqV u v = eqF x y := by
  cases x <;> cases y <;> first
    | (exfalso; simp [flatD] at h1; done)
    | (exfalso; simp [flatD] at h2; done)
    | (have r1 : u = _ := r1
       have r2 : v = _ := r2
       subst r1; subst r2
       rfl)
theorem flats_at : ∀ {ds : List D} {vs : List V}, RelDs P w ds vs → ds.all flatD = true → vs.all flatV = true
  | [], vs, r, _ => by
    have r : vs = [] := r
    subst r; rfl
  | d :: ds, _, ⟨v, us, e, h1, h2⟩, h => by
    subst e
    rw [List.all_cons, Bool.and_eq_true] at h ⊢
    exact ⟨flat_at h1 h.1, flats_at h2 h.2⟩
theorem any_at {x : D} {u : V} (r : RelD P w x u) (hx : flatD x = true) : ∀ {ds : List D} {vs : List V}, RelDs P w ds vs → ds.all flatD = true → inV u vs = ds.any fun d => eqF d x
  | [], vs, r, _ => by
    have r : vs = [] := r
    subst r; rfl
  | d :: ds, _, ⟨v, us, e, h1, h2⟩, h => by
    subst e
    rw [List.all_cons, Bool.and_eq_true] at h
    show (eqV v u || inV u us) = _
    rw [List.any_cons, eqF_at h1 r h.1 hx, any_at r hx h2 h.2]
theorem keyD_at {d : D} {v : V} {k : Option Key} (r : RelD P w d v) (e : keyD d = some k) : v = kVo k := by
  cases d <;> first
    | (exfalso; simp [keyD] at e; done)
    | (have r : v = _ := r
       subst r
       cases e
       rfl)
theorem tKey_at {d : D} {k : NestedKey} (e : tKey d = some k) : (∃ ds, d = .tup ds) ∧ keyN d = some k ∧ k.depth ≤ 8 := by
  unfold tKey at e
  split at e
  · split at e
    · next h =>
      split at e
      · next h2 => cases e; exact ⟨⟨_, rfl⟩, h, h2⟩
      · cases e
    · cases e
  · cases e
theorem relKs_val {κ : Type} [DecidableEq κ] {k : κ} : ∀ {kvs : List (κ × D)} {us : List (κ × V)}, RelKs P w kvs us → (dctVal kvs k = none ∧ valV us k = none) ∨ ∃ d v, dctVal kvs k = some d ∧ valV us k = some v ∧ RelD P w d v
  | [], us, r => by
    have r : us = [] := r
    subst r; exact .inl ⟨rfl, rfl⟩
  | (j, d) :: kvs, us, ⟨v, us', e, h1, h2⟩ => by
    subst e
    by_cases h : j = k
    · exact .inr ⟨d, v, by simp [dctVal, h], by simp [valV, h], h1⟩
    · have := relKs_val (k := k) h2
      simpa [dctVal, valV, h] using this
theorem relTs_val {k : NestedKey} : ∀ {kvs : List (D × D)} {es : List (NestedKey × Addr × V)}, RelTs P w kvs es → (dctValT kvs k = none ∧ tVal es k = none) ∨ ∃ d v, dctValT kvs k = some d ∧ tVal es k = some v ∧ RelD P w d v
  | [], es, r => by
    have r : es = [] := r
    subst r; exact .inl ⟨rfl, rfl⟩
  | (kd, d) :: kvs, es, ⟨j, b, v, es', e, h1, h2, h3, h4, h5⟩ => by
    subst e
    by_cases h : j = k
    · exact .inr ⟨d, v, by simp [dctValT, h1, h], by simp [tVal, h], h4⟩
    · have := relTs_val (k := k) h5
      have h' : ¬ keyN kd = some k := by rw [h1]; intro z; exact h (Option.some.inj z)
      simpa [dctValT, tVal, h, h'] using this
section
variable {X : Cx} {pins : List (Addr × Obj)} {σ : L2.St} {s : Shared}
mutual
theorem nest_of (hK : P.K = X.K) (I : Inv X pins σ H s) (R : RepM P w M H) : ∀ {d : D} {v : V} {u : Value} {k : NestedKey}, RelD P w d v → RelV v u → keyN d = some k → NestedIs s.heap k u
  | .non, v, u, k, r, rv, e => by
    have r : v = .non := r
    subst r
    have rv : u = Value.none := rv
    subst rv
    cases e; exact .none
  | .bl b, v, u, k, r, rv, e => by
    have r : v = .bl b := r
    subst r
    have rv : u = Value.bool b := rv
    subst rv
    cases e; exact .bool rfl
  | .int i, v, u, k, r, rv, e => by
    have r : v = .int i := r
    subst r
    obtain ⟨t, rv⟩ : ∃ t, u = Value.int i t := rv
    subst rv
    cases e; exact .int i t
  | .str x, v, u, k, r, rv, e => by
    have r : v = .str x := r
    subst r
    obtain ⟨t, rv⟩ : ∃ t, u = Value.str x t := rv
    subst rv
    cases e; exact .text x t
  | .tup ds, v, u, k, ⟨p, vs, ev, hp, hs⟩, rv, e => by
    have e : (keyNs ds).map NestedKey.tup = some k := e
    obtain ⟨ks, h1, h2⟩ := Option.map_eq_some_iff.mp e
    subst h2; subst ev
    have rv : u = Value.ref p := rv
    subst rv
    obtain ⟨its, r, ⟨o, g, c, n, dt⟩, _⟩ := I.tuple (hK ▸ sqT_mono R.sub hp)
    exact .tup g c dt (nests_of hK I R hs r h1)
  | .lst _, _, _, _, _, _, e => by cases e
  | .scr _, _, _, _, _, _, e => by cases e
  | .ref _, _, _, _, _, _, e => by cases e
  | .obj _ _ _, _, _, _, _, _, e => by cases e
  | .exc _ _ _ _ _, _, _, _, _, _, e => by cases e
theorem nests_of (hK : P.K = X.K) (I : Inv X pins σ H s) (R : RepM P w M H) : ∀ {ds : List D} {vs : List V} {us : List Value} {ks : List NestedKey}, RelDs P w ds vs → Vals vs us → keyNs ds = some ks → NestedAll s.heap ks us
  | [], vs, us, ks, r, rv, e => by
    have r : vs = [] := r
    subst r
    cases rv; cases e; exact .nil
  | d :: ds, vs, us, ks, ⟨v, r, ev, h1, h2⟩, rv, e => by
    have e : (match keyN d, keyNs ds with
      | some k, some ks => some (k :: ks)
      | _, _ => none) = some ks := e
    subst ev
    cases rv with
    | cons a b =>
      split at e
      · next x xs hx hxs =>
        cases e
        exact .cons (nest_of hK I R h1 a hx) (nests_of hK I R h2 b hxs)
      · cases e
end
theorem keysAt_of (hK : P.K = X.K) (I : Inv X pins σ H s) (R : RepM P w M H) : ∀ {kvs : List (D × D)} {es : List (NestedKey × Addr × V)}, RelTs P w kvs es → KeysAt X.prog X.w s.heap es
  | [], es, r => by
    have r : es = [] := r
    subst r; intro x hx; cases hx
  | (kd, d) :: kvs, es, ⟨j, b, v, es', e, h1, h2, h3, h4, h5⟩ => by
    subst e
    intro x hx
    rcases List.mem_cons.mp hx with z | z
    · subst z
      exact ⟨nest_of hK I R h3 (show RelV (.ref b) (Value.ref b) from rfl) h1, h2⟩
    · exact keysAt_of hK I R h5 x z
/-- what a dict holds, below -/
theorem dGet_at (hK : P.K = X.K) (hp : P.pg = X.prog) (hw : P.wl = X.w) (I : Inv X pins σ H s) (R : RepM P w M H) {d k : D} {u v : V} {r : Option D} {vk : Value} (r1 : RelD P w d u) (r2 : RelD P w k v) (rk : RelV v vk) (e : dGet d k M = some r) :
    ∃ a, u = .ref a ∧ s.TypeIs (.ref a) "dict" ∧
      (∀ {A : Around} {E : Value → Shared → Prop} {Q : Value → Shared → Prop}, A.units + 10 < cLine → (∀ s', Inv X pins σ H s' → Q (.bool r.isSome) s') → wpAny (model X.prog X.w) A (compareOp .In vk (.ref a)) Q E s) ∧
      (∀ {A : Around} {E : Value → Shared → Prop} {Q : Value → Shared → Prop}, A.units + 10 < cLine → (∀ s', Inv X pins σ H s' → Q (.bool (!r.isSome)) s') → wpAny (model X.prog X.w) A (compareOp .NotIn vk (.ref a)) Q E s) ∧
      (∀ {A : Around} {E : Value → Shared → Prop} {Q : Value → Shared → Prop} {x : D}, r = some x → A.units + 10 < cLine → (∀ y w' s', Inv X pins σ H s' → RelD P w x y → RelV y w' → Q w' s') → wpAny (model X.prog X.w) A (getItem (.ref a) vk) Q E s) := by
  cases d with
  | ref i =>
    obtain ⟨p, eu, hpp⟩ := r1
    have e : (match M[i]? with
      | some (.dct kvs) => (keyD k).map (dctVal kvs)
      | some (.dctT kvs) => (tKey k).map (dctValT kvs)
      | _ => none) = some r := e
    split at e
    · rename_i kvs hm
      obtain ⟨_, us, e2, hs⟩ := R.cell i _ p hm hpp
      rw [hp, hw] at e2
      obtain ⟨ky, hk, er⟩ := Option.map_eq_some_iff.mp e
      have hv := keyD_at r2 hk
      subst hv; subst eu
      obtain ⟨_, _, vs, _, dd⟩ := fd_of I e2
      have hsome : (valV us ky).isSome = r.isSome := by
        rcases relKs_val (k := ky) hs with ⟨q1, q2⟩ | ⟨x, y, q1, q2, _⟩ <;> rw [← er, q1, q2] <;> rfl
      refine ⟨p, rfl, dd.typeIs, fun _ h => fd_in I e2 rk fun s' I' => by rw [hsome]; exact h s' I', fun _ h => fd_notIn I e2 rk fun s' I' => by rw [hsome]; exact h s' I', fun {A E Q x} hr _ h => ?_⟩
      rcases relKs_val (k := ky) hs with ⟨q1, q2⟩ | ⟨x', y, q1, q2, q3⟩
      · rw [← er, q1] at hr; cases hr
      · rw [← er, q1] at hr; cases hr
        exact fd_getItem I e2 q2 rk fun w' s' I' rw' => h y w' s' I' q3 rw'
    · rename_i kvs hm
      obtain ⟨_, es, e2, hs⟩ := R.cell i _ p hm hpp
      rw [hp, hw] at e2
      obtain ⟨ky, hk, er⟩ := Option.map_eq_some_iff.mp e
      obtain ⟨⟨ds, hd⟩, k1, k2⟩ := tKey_at hk
      subst hd; subst eu
      have hn := nest_of hK I R r2 rk k1
      obtain ⟨b, vs, ev, _, _⟩ := id r2
      subst ev
      have rk : vk = Value.ref b := rk
      subst rk
      have ka := keysAt_of hK I R hs
      have kb : (nestedKind X.prog X.w).is s.heap ky b := ⟨hn, k2⟩
      obtain ⟨_, _, vs, _, dd⟩ := td_of I e2 ka
      have hsome : (tVal es ky).isSome = r.isSome := by
        rcases relTs_val (k := ky) hs with ⟨q1, q2⟩ | ⟨x, y, q1, q2, _⟩ <;> rw [← er, q1, q2] <;> rfl
      refine ⟨p, rfl, dd.typeIs, fun hu h => td_in hu I e2 ka kb fun s' I' => by rw [hsome]; exact h s' I', fun hu h => td_notIn hu I e2 ka kb fun s' I' => by rw [hsome]; exact h s' I', fun {A E Q x} hr hu h => ?_⟩
      rcases relTs_val (k := ky) hs with ⟨q1, q2⟩ | ⟨x', y, q1, q2, q3⟩
      · rw [← er, q1] at hr; cases hr
      · rw [← er, q1] at hr; cases hr
        exact td_getItem hu I e2 ka kb q2 fun w' s' I' rw' => h y w' s' I' q3 rw'
    · cases e
  | _ => cases e
end
end
theorem cp_sound {X : Cx} {P : Pm} (hK : P.K = X.K) (hp : P.pg = X.prog) (hw : P.wl = X.w) (hu : X.A.units + 65 < cLine) (c : Cp) : OpR X (compareOp (cpO c)) (liO2 P (cpR c)) := by
  intro pins st σ H x y v u Q I rx ry q
  obtain ⟨w, M, dx, dy, Qd, R, hx, hy, l, q⟩ := q
  have bl : ∀ {b : Bool}, Qd (.bl b) M → Q (.bl b) H := fun {b} q => l.same R (d := .bl b) rfl q
  have intsH : ∀ {f : Int → Int → Bool}, cpI f dx dy (fun b => Qd (.bl b) M) → ∃ i j, x = .int i ∧ y = .int j ∧ Q (.bl (f i j)) H := fun {f} q => by
    cases dx <;> cases dy <;> first | exact False.elim q | skip
    exact ⟨_, _, hx, hy, bl q⟩
  have eqsH : ∀ {k : Bool → Bool}, eqQ dx dy M (fun b => Qd (.bl (k b)) M) → (scal x y = true ∧ Q (.bl (k (decide (x = y)))) H) ∨ ∃ a b, Dp X.K H x a ∧ Dp X.K H y b ∧ SeqAt.shaped a = true ∧ SeqAt.shaped b = true ∧ Q (.bl (k (PyData.eqv a b))) H := fun {k} q => by
    unfold eqQ at q
    split at q
    · rename_i b e
      obtain ⟨a1, a2⟩ := eqS_at hx hy e
      exact .inl ⟨a1, by rw [a2]; exact bl q⟩
    · split at q
      · rename_i a b ea eb
        exact .inr ⟨a, b, hK ▸ rsD_at R hx ea, hK ▸ rsD_at R hy eb, q.1, q.2.1, bl q.2.2⟩
      · exact q.elim
  have insH : ∀ {k : Bool → Bool}, inD dx dy M (fun b => Qd (.bl (k b)) M) →
      (∃ i j, x = .str i ∧ y = .str j ∧ Q (.bl (k (!(Builtin.Str.occurrences j i 0 j.length 1).isEmpty))) H) ∨
      (∃ r, dGet dy dx M = some r ∧ Q (.bl (k r.isSome)) H) ∨
      (∃ p xs, y = .ref p ∧ (SqL X.K H p xs ∨ SqT X.K H p xs) ∧ flatV x = true ∧ xs.all flatV = true ∧ Q (.bl (k (inV x xs))) H) ∨
      (∃ d ds, Dp X.K H x d ∧ (Dp X.K H y (.list ds) ∨ Dp X.K H y (.tuple ds)) ∧ SeqAt.shaped d = true ∧ SeqAt.shaped (.list ds) = true ∧ Q (.bl (k (ds.any fun z => PyData.eqv z d))) H) := fun {k} q => by
    unfold inD at q
    split at q
    · rename_i s t
      exact .inl ⟨_, _, hx, hy, bl q⟩
    · split at q
      · rename_i r er
        exact .inr (.inl ⟨r, er, bl q⟩)
      · split at q
        · rename_i ds hs
          split at q
          · rename_i hf
            rw [Bool.and_eq_true] at hf
            obtain ⟨p, vs, e1, e2, e3⟩ := seqOf_at R hy hs
            refine .inr (.inr (.inl ⟨p, vs, e1, hK ▸ e2, flat_at hx hf.1, flats_at e3 hf.2, ?_⟩))
            rw [any_at hx hf.1 e3 hf.2]; exact bl q
          · split at q
            · rename_i px ps ex es
              obtain ⟨q2, q3, q4⟩ := q
              refine .inr (.inr (.inr ⟨px, ps, hK ▸ pyD_at R hx ex, ?_, q2, q3, bl q4⟩))
              by_cases ht : ∃ fs, dy = .tup fs
              · obtain ⟨fs, rfl⟩ := ht
                cases hs
                exact .inr (hK ▸ rsD_at R hy (by show (pyDs ds).map _ = _; rw [es]; rfl))
              refine .inl (hK ▸ rsD_at R hy ?_)
              cases dy with
              | tup fs => exact absurd ⟨fs, rfl⟩ ht
              | lst fs => cases hs; show (pyDs ds).map _ = _; rw [es]; rfl
              | scr ns =>
                cases hs
                show some (PyData.list (ns.map .int)) = _
                have : ∀ ms : List Int, pyDs (ms.map D.int) = some (ms.map .int) := fun ms => by
                  induction ms with
                  | nil => rfl
                  | cons m ms ih => show (match pyD (.int m), pyDs (ms.map D.int) with
                      | some x, some xs => some (x :: xs)
                      | _, _ => none) = _
                                    rw [ih]; rfl
                rw [this] at es
                cases es; rfl
              | ref i =>
                have hs' : (match M[i]? with
                  | some (.lst ds) => some ds
                  | _ => none) = some ds := hs
                show pyD (match M[i]? with
                  | some (.lst ds) => .lst ds
                  | _ => .ref i) = _
                split at hs'
                · cases hs'; show (pyDs ds).map _ = _; rw [es]; rfl
                · cases hs'
              | _ => cases hs
            · exact q.elim
        · exact q.elim
  cases c with
  | eq =>
    rcases eqsH (k := id) q with ⟨a, b⟩ | ⟨d, e, h⟩
    · exact op_eq pins st σ H x y v u Q I rx ry ⟨a, b⟩
    · exact op_eqD (by omega) pins st σ H x y v u Q I rx ry ⟨d, e, h⟩
  | ne =>
    rcases eqsH (k := not) q with ⟨a, b⟩ | ⟨d, e, h⟩
    · exact op_ne pins st σ H x y v u Q I rx ry ⟨a, b⟩
    · exact op_neD (by omega) pins st σ H x y v u Q I rx ry ⟨d, e, h⟩
  | lt => exact op_lt pins st σ H x y v u Q I rx ry (intsH q)
  | le => exact op_le pins st σ H x y v u Q I rx ry (intsH q)
  | gt => exact op_gt pins st σ H x y v u Q I rx ry (intsH q)
  | ge => exact op_ge pins st σ H x y v u Q I rx ry (intsH q)
  | isN =>
    have hy' : y = .non := by
      cases dy <;> first | exact hy | exact absurd q.1 (by simp [isNon])
    exact op_isN pins st σ H x y v u Q I rx ry ⟨hy', by rw [relD_non hx]; exact bl q.2⟩
  | notN =>
    have hy' : y = .non := by
      cases dy <;> first | exact hy | exact absurd q.1 (by simp [isNon])
    exact op_notN pins st σ H x y v u Q I rx ry ⟨hy', by rw [relD_non hx]; exact bl q.2⟩
  | isB =>
    cases dx <;> cases dy <;> first | exact q.elim | exact op_isB pins st σ H x y v u Q I rx ry ⟨_, _, hx, hy, bl q⟩
  | notB =>
    cases dx <;> cases dy <;> first | exact q.elim | exact op_notB pins st σ H x y v u Q I rx ry ⟨_, _, hx, hy, bl q⟩
  | inn =>
    rcases insH (k := id) q with h | ⟨r, er, q⟩ | ⟨p, xs, e, h, f1, f2, q⟩ | h
    · exact op_in_str pins st σ H x y v u Q I rx ry h
    · obtain ⟨a, e, _, f, _, _⟩ := dGet_at hK hp hw I R hy hx rx er
      subst e
      cases ry
      exact f (by omega) fun s' I' => ⟨.bl r.isSome, H, I', rfl, q⟩
    · exact op_in_seq pins st σ H x y v u Q I rx ry ⟨p, xs, e, h, f1, f2, q⟩
    · exact op_inDT (by omega) pins st σ H x y v u Q I rx ry h
  | nin =>
    rcases insH (k := not) q with h | ⟨r, er, q⟩ | ⟨p, xs, e, h, f1, f2, q⟩ | h
    · exact op_notin_str pins st σ H x y v u Q I rx ry h
    · obtain ⟨a, e, _, _, f, _⟩ := dGet_at hK hp hw I R hy hx rx er
      subst e
      cases ry
      exact f (by omega) fun s' I' => ⟨.bl (!r.isSome), H, I', rfl, q⟩
    · exact op_notIn_seq pins st σ H x y v u Q I rx ry ⟨p, xs, e, h, f1, f2, q⟩
    · exact op_notInDT (by omega) pins st σ H x y v u Q I rx ry h
end DL
namespace DL
open PySem L2
def ixD : O2 := fun x y M Q => match x, y with
  | .str s, .int i => s.length ≤ sizeLine ∧ match atI s.cps.toList i with
    | some c => Q (.str ⟨#[c]⟩) M
    | none => False
  | x, y => match dGet x y M with
    | some (some d) => Q d M
    | some none => False
    | none => match seqOf x M, y with
      | some ds, .int i => match atI ds i with
        | some d => Q d M
        | none => False
      | _, _ => False
theorem relDs_atI {P : Pm} {w : Wd} {ds : List D} {vs : List V} {i : Int} {d : D} (r : RelDs P w ds vs) (h : atI ds i = some d) : ∃ v, atI vs i = some v ∧ RelD P w d v := by
  unfold atI at h ⊢
  rw [r.length]
  cases e : ixN ds.length i with
  | none => rw [e] at h; cases h
  | some j =>
    rw [e] at h
    exact r.get h
theorem ix_sound {X : Cx} {P : Pm} (hK : P.K = X.K) (hp : P.pg = X.prog) (hw : P.wl = X.w) (hu : X.A.units + 65 < cLine) : IxR X (liO2 P ixD) := by
  intro value slice pins st σ H x y v u Q I rx ry q hs
  obtain ⟨w, M, dx, dy, Qd, R, hx, hy, l, q⟩ := q
  unfold ixD at q
  split at q
  · rename_i s i
    obtain ⟨hz, q⟩ := q
    split at q
    · rename_i c hc
      exact ix_str value slice pins st σ H x y v u Q I rx ry ⟨_, _, c, hx, hy, hz, hc, l.same R (d := .str _) rfl q⟩ hs
    · exact q.elim
  · split at q
    · rename_i d e
      obtain ⟨a, e1, ty, _, _, f⟩ := dGet_at hK hp hw I R hx hy ry e
      subst e1
      cases rx
      exact PyProof.Rows.tail_any ty PySem.F.slot_dict_getitem.lookup (f rfl (by omega) fun y' w' s' I' z3 rw' => ⟨y', H, I', rw', l.same R z3 q⟩) hs
    · exact q.elim
    · split at q
      · rename_i ds i hds
        split at q
        · rename_i d hd
          obtain ⟨p, vs, e1, e2, e3⟩ := seqOf_at R hx (by assumption)
          obtain ⟨z, hz, rz⟩ := relDs_atI e3 hd
          rcases e2 with e2 | e2
          · exact ix_list value slice pins st σ H x y v u Q I rx ry ⟨p, vs, _, z, e1, hy, hK ▸ e2, hz, l.same R rz q⟩ hs
          · exact ix_tup value slice pins st σ H x y v u Q I rx ry ⟨p, vs, _, z, e1, hy, hK ▸ e2, hz, l.same R rz q⟩ hs
        · exact q.elim
      · exact q.elim
def cutD {α : Type} (xs : List α) (lo hi : Option Int) : List α := (xs.drop (HT.sIx xs.length 0 lo)).take (HT.sIx xs.length xs.length hi - HT.sIx xs.length 0 lo)
/-- m: the new list may be changed -/
def slD (m : Bool) (x : D) (lo hi : Option Int) (M : Md) (Q : QE) : Prop := match x with
  | .str s => s.length ≤ sizeLine ∧ Q (.str ⟨(cutD s.cps.toList lo hi).toArray⟩) M
  | .tup ds => Q (.tup (cutD ds lo hi)) M
  | x => match seqOf x M with
    | some ds => if m then Q (.ref M.length) (M ++ [.lst (cutD ds lo hi)]) else Q (.lst (cutD ds lo hi)) M
    | none => False
def liSl (P : Pm) (m : Bool) : V → Option Int → Option Int → Hp → VK → Prop := fun x lo hi H Q => ∃ w M dx Qd, RepM P w M H ∧ RelD P w dx x ∧ Lk P w H Qd Q ∧ slD m dx lo hi M Qd
theorem relDs_cut {P : Pm} {w : Wd} {ds : List D} {vs : List V} (r : RelDs P w ds vs) (lo hi : Option Int) : RelDs P w (cutD ds lo hi) (cutV vs lo hi) := by
  unfold cutD cutV
  rw [r.length]
  exact (r.drop _).take _
theorem cut_whole {α : Type} (xs : List α) {lo hi : Option Int} (h : HT.sIx xs.length 0 lo = 0 ∧ HT.sIx xs.length xs.length hi = xs.length) : cutD xs lo hi = xs := by
  unfold cutD
  rw [h.1, h.2]
  simp
/-- a list that is read -/
theorem seqL_at {P : Pm} {w : Wd} {M : Md} {H : Hp} (R : RepM P w M H) {d : D} {v : V} {ds : List D} (r : RelD P w d v) (h : seqOf d M = some ds) (hn : ∀ es, d ≠ .tup es) : ∃ p vs, v = .ref p ∧ SqL P.K H p vs ∧ RelDs P w ds vs := by
  cases d with
  | tup es => exact absurd rfl (hn es)
  | lst es =>
    cases h
    obtain ⟨p, vs, e, hp, hs⟩ := r
    exact ⟨p, vs, e, SqL.of (R.sub _ _ hp), hs⟩
  | scr ns =>
    cases h
    obtain ⟨p, e, hp⟩ := r
    exact ⟨p, _, e, sqL_mono R.sub hp, relDs_ints ns⟩
  | ref k =>
    obtain ⟨p, e, hp⟩ := r
    have h : (match M[k]? with
      | some (.lst ds) => some ds
      | _ => none) = some ds := h
    split at h
    · rename_i ds' hm
      cases h
      obtain ⟨_, vs, e2, hs⟩ := R.cell k _ p hm hp
      exact ⟨p, vs, e, SqL.of e2, hs⟩
    · cases h
  | _ => cases h
theorem sl_sound {X : Cx} {P : Pm} (hK : P.K = X.K) (m : Bool) : SlR X (liSl P m) := by
  intro pins st σ H x v vl vu lo hi sl Q I rx hs pl pu q
  obtain ⟨w, M, dx, Qd, R, hx, l, q⟩ := q
  unfold slD at q
  split at q
  · rename_i s
    have e : cutS s lo hi = ⟨(cutD s.cps.toList lo hi).toArray⟩ := rfl
    exact sl_str pins st σ H x v vl vu lo hi sl Q I rx hs pl pu ⟨s, hx, q.1, by rw [e]; exact l.same R (d := .str _) rfl q.2⟩
  · rename_i ds
    obtain ⟨p, vs, e1, h1, r1⟩ := id hx
    refine sl_tupA pins st σ H x v vl vu lo hi sl Q I rx hs pl pu ⟨p, vs, e1, hK ▸ sqT_mono R.sub h1, fun hw => ?_, fun _ p' hp' => l.tup R (relDs_cut r1 lo hi) hp' q⟩
    rw [r1.length] at hw
    rw [cut_whole ds hw] at q
    exact e1 ▸ l.same R hx q
  · rename_i hn1 hn2
    split at q
    · rename_i ds hds
      obtain ⟨p, vs, e1, e2, e3⟩ := seqL_at R hx hds fun es e => hn2 es e
      refine sl_list pins st σ H x v vl vu lo hi sl Q I rx hs pl pu ⟨p, vs, e1, hK ▸ e2, fun p' hp => ?_⟩
      cases m with
      | true => exact l.cell R (relDs_cut e3 lo hi) hp q
      | false => exact l.lst R (relDs_cut e3 lo hi) hp q
    · exact q.elim
inductive Bt where
  | len | list | listM | tuple | max2 | min2 | int | sorted | sortedM | sortedD | sum | ord | str | any | all | isi (T : String)
def tyOf : D → Md → Option String
  | .non, _ => some "NoneType"
  | .bl _, _ => some "bool"
  | .int _, _ => some "int"
  | .str _, _ => some "str"
  | .tup _, _ => some "tuple"
  | .lst _, _ => some "list"
  | .scr _, _ => some "list"
  | .obj _ _ _, _ => none
  | .exc _ _ _ _ _, _ => none
  | .ref k, M => match M[k]? with
    | some (.lst _) => some "list"
    | _ => none
def intsOf : List D → Option (List Int)
  | [] => some []
  | .int i :: ds => (intsOf ds).map (i :: ·)
  | _ :: _ => none
def blsOf : List D → Option (List Bool)
  | [] => some []
  | .bl i :: ds => (blsOf ds).map (i :: ·)
  | _ :: _ => none
def strsOf : List D → Option (List Str)
  | [] => some []
  | .str i :: ds => (strsOf ds).map (i :: ·)
  | _ :: _ => none
def pyG (d : D) : PyData := (pyD d).getD .none
/-- what may be sorted -/
structure SortOk (ds : List D) : Prop where
  py : ∀ d ∈ ds, (pyD d).isSome = true
  al : PySem.W.AllAlike (ds.map pyG)
  so : PySem.W.Sortable (ds.map pyG)
  dp : ∀ d ∈ ds, (pyG d).depth ≤ 50
def sortD (ds : List D) : List D := ds.mergeSort (PySem.W.dataLe false pyG)
def btD : Bt → OA
  | .len, [.str s], M, Q => s.length ≤ sizeLine ∧ Q (.int s.length) M
  | .len, [d], M, Q => match seqOf d M with
    | some ds => Q (.int ds.length) M
    | none => False
  | .list, [d], M, Q => match seqOf d M with
    | some ds => Q (.lst ds) M
    | none => False
  | .listM, [d], M, Q => match seqOf d M with
    | some ds => Q (.ref M.length) (M ++ [.lst ds])
    | none => False
  | .tuple, [d], M, Q => match seqOf d M with
    | some ds => Q (.tup ds) M
    | none => False
  | .max2, [.int i, .int j], M, Q => Q (.int (if j > i then j else i)) M
  | .min2, [.int i, .int j], M, Q => Q (.int (if j < i then j else i)) M
  | .int, [.int i], M, Q => Q (.int i) M
  | .int, [.bl b], M, Q => Q (.int (if b then 1 else 0)) M
  | .int, [.str s], M, Q => ∃ n, PySem.intText? s = some n ∧ s.length ≤ 640 ∧ Q (.int n) M
  | .sorted, [d], M, Q => (∀ es, d ≠ .tup es) ∧ match seqOf d M with
    | some ds => SortOk ds ∧ Q (.lst (sortD ds)) M
    | none => False
  | .sortedM, [d], M, Q => (∀ es, d ≠ .tup es) ∧ match seqOf d M with
    | some ds => SortOk ds ∧ Q (.ref M.length) (M ++ [.lst (sortD ds)])
    | none => False
  | .sortedD, [.ref k], M, Q => match M[k]? with
    | some (.dct kvs) => ∃ ns : List Int, kvs.map (·.1) = ns.map (fun n => some (.inl n)) ∧ Q (.lst (sortD (ns.map D.int))) M
    | _ => False
  | .sum, [d], M, Q => (∀ es, d ≠ .tup es) ∧ match (seqOf d M).bind intsOf with
    | some ns => Q (.int ns.sum) M
    | none => False
  | .ord, [.str s], M, Q => s.length = 1 ∧ Q (.int (s.cps.getD 0 0 : Nat)) M
  | .str, [.int i], M, Q => i.natAbs.log2 < 1920 ∧ Q (.str (toString i)) M
  | .any, [d], M, Q => (∀ es, d ≠ .tup es) ∧ match (seqOf d M).bind blsOf with
    | some bs => Q (.bl (bs.any id)) M
    | none => False
  | .all, [d], M, Q => (∀ es, d ≠ .tup es) ∧ match (seqOf d M).bind blsOf with
    | some bs => Q (.bl (bs.all id)) M
    | none => False
  | .isi T, [d], M, Q => match tyOf d M with
    | some t => match kitB t T with
      | some b => Q (.bl b) M
      | none => False
    | none => False
  | _, _, _, _ => False
end DL
namespace DL
open PySem L2
section
variable {P : Pm} {w : Wd} {M : Md} {H : Hp}
theorem rel1 {d : D} {xs : List V} (r : RelDs P w [d] xs) : ∃ x, xs = [x] ∧ RelD P w d x := by
  obtain ⟨v, us, e, h, t⟩ := r
  have t : us = [] := t
  exact ⟨v, by rw [e, t], h⟩
theorem rel2 {d e : D} {xs : List V} (r : RelDs P w [d, e] xs) : ∃ x y, xs = [x, y] ∧ RelD P w d x ∧ RelD P w e y := by
  obtain ⟨v, us, e, h, t⟩ := r
  obtain ⟨y, e2, h2⟩ := rel1 t
  exact ⟨v, y, by rw [e, e2], h, h2⟩
theorem intsOf_at : ∀ {ds : List D} {vs : List V} {ns : List Int}, RelDs P w ds vs → intsOf ds = some ns → vs = ns.map V.int
  | [], vs, ns, r, e => by
    have r : vs = [] := r
    cases e; subst r; rfl
  | d :: ds, vs, ns, ⟨v, us, ev, h1, h2⟩, e => by
    cases d with
    | int i =>
      have e : (intsOf ds).map (i :: ·) = some ns := e
      obtain ⟨ms, hm, en⟩ := Option.map_eq_some_iff.mp e
      have h1 : v = .int i := h1
      subst ev; subst h1; subst en
      rw [intsOf_at h2 hm]; rfl
    | _ => cases e
theorem blsOf_at : ∀ {ds : List D} {vs : List V} {ns : List Bool}, RelDs P w ds vs → blsOf ds = some ns → vs = ns.map V.bl
  | [], vs, ns, r, e => by
    have r : vs = [] := r
    cases e; subst r; rfl
  | d :: ds, vs, ns, ⟨v, us, ev, h1, h2⟩, e => by
    cases d with
    | bl i =>
      have e : (blsOf ds).map (i :: ·) = some ns := e
      obtain ⟨ms, hm, en⟩ := Option.map_eq_some_iff.mp e
      have h1 : v = .bl i := h1
      subst ev; subst h1; subst en
      rw [blsOf_at h2 hm]; rfl
    | _ => cases e
theorem strsOf_at : ∀ {ds : List D} {vs : List V} {ns : List Str}, RelDs P w ds vs → strsOf ds = some ns → vs = ns.map V.str
  | [], vs, ns, r, e => by
    have r : vs = [] := r
    cases e; subst r; rfl
  | d :: ds, vs, ns, ⟨v, us, ev, h1, h2⟩, e => by
    cases d with
    | str i =>
      have e : (strsOf ds).map (i :: ·) = some ns := e
      obtain ⟨ms, hm, en⟩ := Option.map_eq_some_iff.mp e
      have h1 : v = .str i := h1
      subst ev; subst h1; subst en
      rw [strsOf_at h2 hm]; rfl
    | _ => cases e
theorem tyOf_at (R : RepM P w M H) {d : D} {v : V} {t : String} (r : RelD P w d v) (e : tyOf d M = some t) : TyX P.K H v (.type t) := by
  cases d with
  | non => have r : v = .non := r; subst r; cases e; exact .base .non
  | bl b => have r : v = .bl b := r; subst r; cases e; exact .base (.bl b)
  | int b => have r : v = .int b := r; subst r; cases e; exact .base (.int b)
  | str b => have r : v = .str b := r; subst r; cases e; exact .base (.str b)
  | tup ds =>
    obtain ⟨p, vs, ev, hp, _⟩ := r
    subst ev
    cases e
    rcases sqT_mono R.sub hp with (h | ⟨o, h⟩) | ⟨o, its, n, hk, hc, _⟩
    · exact .base (.tup h)
    · exact .fTuple h
    · exact .kTuple hk hc
  | lst ds =>
    obtain ⟨p, vs, ev, hp, _⟩ := r
    subst ev
    cases e
    exact .base (.lst (R.sub _ _ hp))
  | scr ns =>
    obtain ⟨p, ev, hp⟩ := r
    subst ev
    cases e
    rcases sqL_mono R.sub hp with (h | ⟨o, h⟩) | ⟨o, its, n, hk, hc, _⟩
    · exact .base (.lst h)
    · exact .base (.frz h)
    · exact .kList hk hc
  | obj _ _ _ => cases e
  | exc _ _ _ _ _ => cases e
  | ref k =>
    obtain ⟨p, ev, hp⟩ := r
    subst ev
    have e : (match M[k]? with
      | some (.lst _) => some "list"
      | _ => none) = some t := e
    split at e
    · rename_i ds hm
      cases e
      obtain ⟨_, vs, e2, _⟩ := R.cell k _ p hm hp
      exact .base (.lst e2)
    · cases e
end
section
variable {X : Cx} {P : Pm}
theorem bt_len (hK : P.K = X.K) : CallR X (.builtin "len") (liOA P (btD .len)) := by
  intro pins st σ H xs us Q I rv q
  obtain ⟨w, M, ds, Qd, R, hx, l, q⟩ := q
  match ds, q with
  | [], q => exact q.elim
  | _ :: _ :: _, q => exact absurd q (by simp [btD])
  | [d], q =>
    obtain ⟨x, e, r⟩ := rel1 hx
    subst e
    have h : (∃ s, d = .str s ∧ s.length ≤ sizeLine ∧ Qd (.int s.length) M) ∨ (match seqOf d M with
        | some ds => Qd (.int ds.length) M
        | none => False) := by
      cases d <;> first | exact .inl ⟨_, rfl, q⟩ | exact .inr q
    rcases h with ⟨s, e, q1, q2⟩ | q
    · subst e
      have r : x = .str s := r
      subst r
      exact call_len pins st σ H _ us Q I rv ⟨_, _, rfl, ⟨q1, rfl⟩, l.same R (d := .int _) rfl q2⟩
    · split at q
      · rename_i ds hds
        obtain ⟨p, vs, e1, e2, e3⟩ := seqOf_at R r hds
        exact call_len_seq pins st σ H _ us Q I rv ⟨p, vs, by rw [e1], hK ▸ e2, by rw [e3.length]; exact l.same R (d := .int _) rfl q⟩
      · exact q.elim
theorem bt_list (hK : P.K = X.K) (m : Bool) : CallR X (.type "list") (liOA P (btD (if m then .listM else .list))) := by
  intro pins st σ H xs us Q I rv q
  obtain ⟨w, M, ds, Qd, R, hx, l, q⟩ := q
  match ds, q with
  | [], q => cases m <;> exact q.elim
  | _ :: _ :: _, q => cases m <;> exact absurd q (by simp [btD])
  | [d], q =>
    obtain ⟨x, e, r⟩ := rel1 hx
    subst e
    cases m with
    | true =>
      have q : (match seqOf d M with
        | some ds => Qd (.ref M.length) (M ++ [.lst ds])
        | none => False) := q
      split at q
      · rename_i ds hds
        obtain ⟨p, vs, e1, e2, e3⟩ := seqOf_at R r hds
        exact call_list_of pins st σ H _ us Q I rv ⟨p, vs, by rw [e1], hK ▸ e2, fun p' hp => l.cell R e3 hp q⟩
      · exact q.elim
    | false =>
      have q : (match seqOf d M with
        | some ds => Qd (.lst ds) M
        | none => False) := q
      split at q
      · rename_i ds hds
        obtain ⟨p, vs, e1, e2, e3⟩ := seqOf_at R r hds
        exact call_list_of pins st σ H _ us Q I rv ⟨p, vs, by rw [e1], hK ▸ e2, fun p' hp => l.lst R e3 hp q⟩
      · exact q.elim
theorem bt_tuple (hK : P.K = X.K) : CallR X (.type "tuple") (liOA P (btD .tuple)) := by
  intro pins st σ H xs us Q I rv q
  obtain ⟨w, M, ds, Qd, R, hx, l, q⟩ := q
  match ds, q with
  | [], q => exact q.elim
  | _ :: _ :: _, q => exact absurd q (by simp [btD])
  | [d], q =>
    obtain ⟨x, e, r⟩ := rel1 hx
    subst e
    have q : (match seqOf d M with
      | some ds => Qd (.tup ds) M
      | none => False) := q
    split at q
    · rename_i ds hds
      by_cases ht : ∃ es, d = .tup es
      · obtain ⟨es, et⟩ := ht
        subst et
        cases hds
        obtain ⟨p, vs, e1, h1, r1⟩ := id r
        exact call_tuple_of pins st σ H _ us Q I rv ⟨p, vs, by rw [e1], .inr ⟨hK ▸ sqT_mono R.sub h1, e1 ▸ l.same R r q⟩⟩
      · obtain ⟨p, vs, e1, e2, e3⟩ := seqL_at R r hds fun es e => ht ⟨es, e⟩
        exact call_tuple_of pins st σ H _ us Q I rv ⟨p, vs, by rw [e1], .inl ⟨hK ▸ e2, fun p' hp => l.tup R e3 hp q⟩⟩
    · exact q.elim
theorem bt_int : CallR X (.type "int") (liOA P (btD .int)) := by
  intro pins st σ H xs us Q I rv q
  obtain ⟨w, M, ds, Qd, R, hx, l, q⟩ := q
  match ds, q with
  | [], q => exact q.elim
  | _ :: _ :: _, q => exact absurd q (by simp [btD])
  | [d], q =>
    obtain ⟨x, e, r⟩ := rel1 hx
    subst e
    cases d with
    | int i =>
      have r : x = .int i := r
      subst r
      exact call_int1 pins st σ H _ us Q I rv (.inl ⟨i, rfl, l.same R (d := .int _) rfl q⟩)
    | bl i =>
      have r : x = .bl i := r
      subst r
      exact call_int1 pins st σ H _ us Q I rv (.inr ⟨i, rfl, l.same R (d := .int _) rfl q⟩)
    | str s =>
      have r : x = .str s := r
      subst r
      obtain ⟨n, h1, h2, q⟩ := q
      exact call_int_str pins st σ H _ us Q I rv ⟨s, n, rfl, h1, h2, l.same R (d := .int _) rfl q⟩
    | _ => exact q.elim
theorem bt_ord : CallR X (.builtin "ord") (liOA P (btD .ord)) := by
  intro pins st σ H xs us Q I rv q
  obtain ⟨w, M, ds, Qd, R, hx, l, q⟩ := q
  match ds, q with
  | [], q => exact q.elim
  | _ :: _ :: _, q => exact absurd q (by simp [btD])
  | [d], q =>
    obtain ⟨x, e, r⟩ := rel1 hx
    subst e
    cases d with
    | str i =>
      have r : x = .str i := r
      subst r
      exact call_ord pins st σ H _ us Q I rv ⟨i, rfl, q.1, l.same R (d := .int _) rfl q.2⟩
    | _ => exact q.elim
theorem bt_str : CallR X (.type "str") (liOA P (btD .str)) := by
  intro pins st σ H xs us Q I rv q
  obtain ⟨w, M, ds, Qd, R, hx, l, q⟩ := q
  match ds, q with
  | [], q => exact q.elim
  | _ :: _ :: _, q => exact absurd q (by simp [btD])
  | [d], q =>
    obtain ⟨x, e, r⟩ := rel1 hx
    subst e
    cases d with
    | int i =>
      have r : x = .int i := r
      subst r
      exact call_str_int pins st σ H _ us Q I rv ⟨i, rfl, q.1, l.same R (d := .str _) rfl q.2⟩
    | _ => exact q.elim
theorem bt_mm (hc : X.calm = true) (m : Bool) : CallR X (.builtin (if m then "max" else "min")) (liOA P (btD (if m then .max2 else .min2))) := by
  intro pins st σ H xs us Q I rv q
  obtain ⟨w, M, ds, Qd, R, hx, l, q⟩ := q
  match ds, q with
  | [], q => cases m <;> exact q.elim
  | [_], q => cases m <;> exact absurd q (by simp [btD])
  | _ :: _ :: _ :: _, q => cases m <;> exact absurd q (by simp [btD])
  | [d, e], q =>
    obtain ⟨x, y, e, r1, r2⟩ := rel2 hx
    subst e
    have h : ∃ i j, d = .int i ∧ e = .int j ∧ if m then Qd (.int (if j > i then j else i)) M else Qd (.int (if j < i then j else i)) M := by
      cases m <;> cases d <;> first | exact q.elim | skip
      all_goals (cases e <;> first | exact q.elim | exact ⟨_, _, rfl, rfl, q⟩)
    obtain ⟨i, j, e1, e2, q⟩ := h
    subst e1; subst e2
    have r1 : x = .int i := r1
    have r2 : y = .int j := r2
    subst r1; subst r2
    cases m with
    | true => exact call_max2 hc pins st σ H _ us Q I rv ⟨i, j, rfl, l.same R (d := .int _) rfl q⟩
    | false => exact call_min2 hc pins st σ H _ us Q I rv ⟨i, j, rfl, l.same R (d := .int _) rfl q⟩
theorem bt_sum (hK : P.K = X.K) (hc : X.calm = true) : CallR X (.builtin "sum") (liOA P (btD .sum)) := by
  intro pins st σ H xs us Q I rv q
  obtain ⟨w, M, ds, Qd, R, hx, l, q⟩ := q
  match ds, q with
  | [], q => exact q.elim
  | _ :: _ :: _, q => exact absurd q (by simp [btD])
  | [d], q =>
    obtain ⟨x, e, r⟩ := rel1 hx
    subst e
    obtain ⟨hn, q⟩ := q
    split at q
    · rename_i ns hns
      obtain ⟨ds, hds, hi⟩ := Option.bind_eq_some_iff.mp hns
      obtain ⟨p, vs, e1, e2, e3⟩ := seqL_at R r hds hn
      rw [intsOf_at e3 hi] at e2
      exact cr_sum hc pins st σ H _ us Q I rv ⟨p, ns, by rw [e1], hK ▸ e2, l.same R (d := .int _) rfl q⟩
    · exact q.elim
theorem bt_any (hK : P.K = X.K) (hc : X.calm = true) : CallR X (.builtin "any") (liOA P (btD .any)) := by
  intro pins st σ H xs us Q I rv q
  obtain ⟨w, M, ds, Qd, R, hx, l, q⟩ := q
  match ds, q with
  | [], q => exact q.elim
  | _ :: _ :: _, q => exact absurd q (by simp [btD])
  | [d], q =>
    obtain ⟨x, e, r⟩ := rel1 hx
    subst e
    obtain ⟨hn, q⟩ := q
    split at q
    · rename_i ns hns
      obtain ⟨ds, hds, hi⟩ := Option.bind_eq_some_iff.mp hns
      obtain ⟨p, vs, e1, e2, e3⟩ := seqL_at R r hds hn
      rw [blsOf_at e3 hi] at e2
      exact cr_any hc pins st σ H _ us Q I rv ⟨p, ns, by rw [e1], hK ▸ e2, l.same R (d := .bl _) rfl q⟩
    · exact q.elim
theorem bt_all (hK : P.K = X.K) (hc : X.calm = true) : CallR X (.builtin "all") (liOA P (btD .all)) := by
  intro pins st σ H xs us Q I rv q
  obtain ⟨w, M, ds, Qd, R, hx, l, q⟩ := q
  match ds, q with
  | [], q => exact q.elim
  | _ :: _ :: _, q => exact absurd q (by simp [btD])
  | [d], q =>
    obtain ⟨x, e, r⟩ := rel1 hx
    subst e
    obtain ⟨hn, q⟩ := q
    split at q
    · rename_i ns hns
      obtain ⟨ds, hds, hi⟩ := Option.bind_eq_some_iff.mp hns
      obtain ⟨p, vs, e1, e2, e3⟩ := seqL_at R r hds hn
      rw [blsOf_at e3 hi] at e2
      exact cr_all hc pins st σ H _ us Q I rv ⟨p, ns, by rw [e1], hK ▸ e2, l.same R (d := .bl _) rfl q⟩
    · exact q.elim
/-- isinstance(x, T): the second place the class itself -/
theorem bt_isi (hK : P.K = X.K) {T : String} : CallR X (.builtin "isinstance") (fun xs H Q => ∃ x, xs = [x, .ty T] ∧ liOA P (btD (.isi T)) [x] H Q) := by
  intro pins st σ H xs us Q I rv q
  obtain ⟨x, e, w, M, ds, Qd, R, hx, l, q⟩ := q
  subst e
  match ds, q with
  | [], q => exact q.elim
  | _ :: _ :: _, q => exact absurd q (by simp [btD])
  | [d], q =>
    obtain ⟨x', e, r⟩ := rel1 hx
    cases e
    have q : (match tyOf d M with
      | some t => match kitB t T with
        | some b => Qd (.bl b) M
        | none => False
      | none => False) := q
    split at q
    · rename_i t ht
      split at q
      · rename_i b hb
        exact call_isi pins st σ H _ us Q I rv ⟨_, _, _, _, b, rfl, ClsV.ty T, hK ▸ tyOf_at R r ht, kit_ty hb, l.same R (d := .bl _) rfl q⟩
      · exact q.elim
    · exact q.elim
/-- the items as data -/
theorem each_of {pins : List (Addr × Obj)} {st : Shared} {σ : L2.St} {H : Hp} {w : Wd} {M : Md} (hK : P.K = X.K) (I : Inv X pins σ H st) (R : RepM P w M H) : ∀ {ds : List D} {vs : List V} {us : List Value}, RelDs P w ds vs → Vals vs us → (∀ d ∈ ds, (pyD d).isSome = true) →
    PySem.W.EachIs (fun u d => ∃ x, RelV x u ∧ RelD P w d x) us ds ∧ PySem.W.EachIs (fun u d => ∃ as, Reads st.heap u (pyG d) as) us ds
  | [], vs, us, r, v, _ => by
    have r : vs = [] := r
    subst r; cases v; exact ⟨.nil, .nil⟩
  | d :: ds, _, us, ⟨x, xs, e, h1, h2⟩, v, hp => by
    subst e
    cases v with
    | cons v1 v2 =>
      obtain ⟨a, b⟩ := each_of hK I R h2 v2 fun d hd => hp d (List.mem_cons_of_mem _ hd)
      obtain ⟨y, hy⟩ := Option.isSome_iff_exists.mp (hp d List.mem_cons_self)
      refine ⟨.cons ⟨x, v1, h1⟩ a, .cons ?_ b⟩
      have : pyG d = y := by unfold pyG; rw [hy]; rfl
      rw [this]
      exact Dp.reads I y x _ (hK ▸ pyD_at R h1 hy) v1
theorem each_back {w : Wd} : ∀ {ds : List D} {us : List Value}, PySem.W.EachIs (fun u d => ∃ x, RelV x u ∧ RelD P w d x) us ds → ∃ vs, Vals vs us ∧ RelDs P w ds vs
  | [], _, h => by cases h; exact ⟨[], .nil, rfl⟩
  | d :: ds, _, h => by
    cases h with
    | cons h1 h2 =>
      obtain ⟨x, a, b⟩ := h1
      obtain ⟨vs, c, e⟩ := each_back h2
      exact ⟨x :: vs, .cons a c, .cons b e⟩
theorem bt_sorted (hK : P.K = X.K) (hu : X.A.units + 65 < cLine) (m : Bool) : CallR X (.builtin "sorted") (liOA P (btD (if m then .sortedM else .sorted))) := by
  intro pins st σ H xs us Q I rv q
  obtain ⟨w, M, ds, Qd, R, hx, l, q⟩ := q
  match ds, q with
  | [], q => cases m <;> exact q.elim
  | _ :: _ :: _, q => cases m <;> exact absurd q (by simp [btD])
  | [d], q =>
    obtain ⟨x, e, r⟩ := rel1 hx
    subst e
    have q : (∀ es, d ≠ .tup es) ∧ match seqOf d M with
      | some ds => SortOk ds ∧ (if m then Qd (.ref M.length) (M ++ [.lst (sortD ds)]) else Qd (.lst (sortD ds)) M)
      | none => False := by cases m <;> exact q
    obtain ⟨hn, q⟩ := q
    split at q
    · rename_i ds hds
      obtain ⟨ok, q⟩ := q
      obtain ⟨p, vs, e1, e2, e3⟩ := seqL_at R r hds hn
      subst e1
      obtain ⟨u, rfl, ru⟩ := vals1 rv
      obtain rfl : u = Value.ref p := ru
      obtain ⟨its, r1, pl, hz⟩ := I.list (hK ▸ e2)
      obtain ⟨ea, er⟩ := each_of hK I R e3 r1 ok.py
      refine PySem.W.sorted_data (enc := pyG) pl.isList ea er ok.al ok.so (by rw [← e3.length]; exact hz) (fun b hb => by have := ok.dp b hb; omega) fun out ho eo => ?_
      obtain ⟨ws, r2, r3⟩ := each_back eo
      have hf : H (st.heap.objs.size + 1) = none := I.hok.fresh (Nat.le_succ _)
      obtain ⟨c, hc⟩ := PyProof.Rows.sortedAll_at st.heap its (List.toArray out)
      have J : Inv X pins σ (upd H (st.heap.objs.size + 1) (.lst ws)) { st with heap := PyProof.Rows.sortedAll st.heap its (List.toArray out) } := by
        refine I.laid (t' := st.toks) (fun b o e => PyProof.Rows.sortedAll_old e) (Nat.le_succ _) ⟨?_, out, c, r2, hc⟩
        rw [r3.length, List.length_mergeSort, ← e3.length]; exact hz
      refine ⟨.ref (st.heap.objs.size + 1), _, J, rfl, ?_⟩
      cases m with
      | true => exact l.cell R r3 hf q
      | false => exact l.lst R r3 hf q
    · exact q.elim
/-- numbers, one by one -/
theorem each_int {P : Pm} {w : Wd} {h : Heap} {a : Addr} : ∀ {us : List Value} {ns : List Int}, us.length = ns.length → (∀ (j : Nat) (v : Value), us[j]? = some v → ∃ (n : Int) (t : Tok), ns[j]? = some n ∧ v = .int n t) →
    PySem.W.EachIs (fun u d => ∃ x, RelV x u ∧ RelD P w d x) us (ns.map D.int) ∧ PySem.W.EachIs (fun u d => ∃ as, Reads h u (pyG d) as ∧ a ∉ as) us (ns.map D.int)
  | [], [], _, _ => ⟨.nil, .nil⟩
  | u :: us, n :: ns, hl, hq => by
    obtain ⟨m, t, e1, e2⟩ := hq 0 u rfl
    have e1 : n = m := Option.some.inj e1
    subst e1 e2
    obtain ⟨q1, q2⟩ := each_int (P := P) (w := w) (h := h) (a := a) (us := us) (ns := ns) (by simpa using hl) fun j v e => by
      obtain ⟨m, t, e3, e4⟩ := hq (j + 1) v (by simpa using e)
      exact ⟨m, t, by simpa using e3, e4⟩
    exact ⟨.cons ⟨.int n, ⟨t, rfl⟩, rfl⟩ q1, .cons ⟨[], .int n t, by simp⟩ q2⟩
  | [], _ :: _, hl, _ => by simp at hl
  | _ :: _, [], hl, _ => by simp at hl
theorem relKs_keys {κ : Type} {P : Pm} {w : Wd} : ∀ {kvs : List (κ × D)} {us : List (κ × V)}, RelKs P w kvs us → us.map (·.1) = kvs.map (·.1)
  | [], us, h => by
    have h : us = [] := h
    subst h; rfl
  | (k, d) :: r, us, ⟨v, us', e, _, h⟩ => by
    subst e
    rw [List.map_cons, List.map_cons, relKs_keys h]
theorem bt_sortedD (hK : P.K = X.K) (hpg : P.pg = X.prog) (hwl : P.wl = X.w) (hu : X.A.units + 65 < cLine) (hcalm : X.calm = true) : CallR X (.builtin "sorted") (liOA P (btD .sortedD)) := by
  intro pins st σ H xs us Q I rv q
  obtain ⟨w, M, ds, Qd, R, hx, l, q⟩ := q
  match ds, q with
  | [], q => exact q.elim
  | _ :: _ :: _, q => exact absurd q (by simp [btD])
  | [d], q =>
    obtain ⟨x, e, r⟩ := rel1 hx
    subst e
    cases d with
    | ref k =>
      have q : (match M[k]? with
        | some (.dct kvs) => ∃ ns : List Int, kvs.map (·.1) = ns.map (fun n => some (.inl n)) ∧ Qd (.lst (sortD (ns.map D.int))) M
        | _ => False) := q
      obtain ⟨p, e1, hp⟩ := r
      subst e1
      split at q
      · rename_i kvs hm
        obtain ⟨ns, hns, q⟩ := q
        obtain ⟨hF, vus, eH, hk⟩ := R.cell k _ p hm hp
        rw [hpg, hwl] at eH
        obtain ⟨u, rfl, ru⟩ := vals1 rv
        obtain rfl : u = Value.ref p := ru
        obtain ⟨z, hd, vs, rel, dd⟩ := fd_of I eH
        obtain ⟨ep, hat⟩ := dd.dictAt
        have hkeys : vs.map (·.1) = ns.map fun n => some (.inl n) := by
          rw [← rel.keys, relKs_keys hk, hns]
        have hl : vs.length = ns.length := by
          have e := congrArg List.length hkeys
          rw [List.length_map, List.length_map] at e
          exact e
        have hzl : vs.length ≤ sizeLine := by rw [← rel.length]; exact z
        refine Calls.call_function_entry PyProof.Rows.kind_sorted PyProof.Rows.plain_sorted PyProof.Rows.entry_sorted (PyProof.Rows.args_sorted1 _) ?_
        unfold Builtin.«sorted»
        refine wpAny_bind (m := checkCount "sorted" 1 1 _) (wpAny_pure ?_)
        refine wpAny_bind (PySem.W.kdu_collect (A := X.A.in1) (PySem.W.kdl_dict (knd := noneKind X.prog X.w) (kvs := vs) (ep := ep) hd) (I.ok.hd hcalm) hat hzl fun h' tk acc hkp hacc => ?_)
        have hal : acc.toList.length = ns.length := by rw [Array.length_toList, hacc.1, hl]
        have I1 : Inv X pins σ H { st with heap := h', toks := tk } := I.kept hkp
        refine wpAny_bind (wpAny_newList ?_ (by rw [hal, ← hl]; exact hzl))
        have hoL : (h'.push (PyProof.Rows.seqObj "list" acc.toList.toArray 0)).get? h'.objs.size = some (PyProof.Rows.seqObj "list" acc.toList.toArray 0) := Heap.get?_push_size _ rfl
        show wpAny _ _ _ _ _ { st with heap := h'.push (PyProof.Rows.seqObj "list" acc.toList.toArray 0), toks := tk }
        obtain ⟨E1, E2⟩ := each_int (P := P) (w := w) (h := h'.push (PyProof.Rows.seqObj "list" acc.toList.toArray 0)) (a := h'.objs.size) hal fun j v e => by
          obtain ⟨ky, x, e1, e2⟩ := hacc.2 j v (by rw [← Array.getElem?_toList]; exact e)
          have e3 : (vs.map (·.1))[j]? = some ky := by rw [List.getElem?_map, e1]; rfl
          rw [hkeys, List.getElem?_map] at e3
          cases e4 : ns[j]? with
          | none => rw [e4] at e3; cases e3
          | some y =>
            rw [e4] at e3
            have e5 : some (Sum.inl y) = ky := Option.some.inj e3
            subst e5
            rcases keyIs_shape (show keyIs (Sum.inl y) v = true from e2) with ⟨i, t, ek, ev⟩ | ⟨z, t, ek, ev⟩
            · cases ek
              exact ⟨y, t, rfl, ev⟩
            · cases ek
        have hpy : ∀ b ∈ ns.map D.int, ∃ n, pyG b = .int n := fun b hb => by
          obtain ⟨n, _, rfl⟩ := List.mem_map.mp hb
          exact ⟨n, rfl⟩
        refine wpAny_bind (wpAny_holding (PySem.W.list_sort_data (s := { st with heap := h'.push (PyProof.Rows.seqObj "list" acc.toList.toArray 0), toks := tk }) (enc := pyG) hoL E1 E2 ?_ ?_ (by rw [List.length_map, ← hl]; exact hzl) (fun b hb => ?_) fun out ho eo => ?_))
        · intro a ha b hb
          obtain ⟨a', ha', rfl⟩ := List.mem_map.mp ha
          obtain ⟨b', hb', rfl⟩ := List.mem_map.mp hb
          obtain ⟨n, e1⟩ := hpy _ ha'
          obtain ⟨m, e2⟩ := hpy _ hb'
          rw [e1, e2]
          simp [PySem.W.alike]
        · refine .inr fun a ha => ?_
          obtain ⟨a', ha', rfl⟩ := List.mem_map.mp ha
          obtain ⟨n, e1⟩ := hpy _ ha'
          rw [e1]
          exact ⟨(fun z => by cases z), (fun _ z => by cases z)⟩
        · obtain ⟨n, e1⟩ := hpy _ hb
          rw [e1, PyData.depth, Around.in1_units]
          omega
        · obtain ⟨ws, r2, r3⟩ := each_back eo
          obtain ⟨e', he'⟩ := PyProof.Rows.sortedHeap_at (vs := acc.toList) (out := List.toArray out) hoL
          have hf : H h'.objs.size = none := I1.hok.fresh (Nat.le_refl _)
          have hws : ws.length ≤ sizeLine := by
            rw [r3.length, List.length_mergeSort, List.length_map, ← hl]; exact hzl
          have J : Inv X pins σ (upd H h'.objs.size (.lst ws)) { st with heap := PyProof.Rows.sortedHeap (h'.push (PyProof.Rows.seqObj "list" acc.toList.toArray 0)) h'.objs.size acc.toList (List.toArray out), toks := tk } := by
            refine I1.laid (t' := tk) (fun b o e => ?_) (Nat.le_refl _) ⟨hws, out, e', r2, he'⟩
            have hb : b < h'.objs.size := Heap.lt_size e
            rw [PyProof.Rows.sortedHeap_old (Nat.ne_of_lt hb) (by rw [PyProof.Rows.size_push']; exact Nat.lt_succ_of_lt hb)]
            exact Heap.get?_push_of_some _ e
          exact wpAny_pure ⟨_, rfl, .ref h'.objs.size, _, J, rfl, l.lst R r3 hf q⟩
      · exact q.elim
    | _ => exact q.elim
end
end DL
namespace DL
open PySem L2
inductive Mt where
  | append | extend | pop | popAt | insert | clear | reverse | join | find | lower | upper | split | index | find2
  deriving DecidableEq
def mtT : Mt → String
  | .append | .extend | .pop | .popAt | .insert | .clear | .reverse | .index => "list"
  | _ => "str"
def mtN : Mt → Str
  | .append => "append" | .extend => "extend" | .pop => "pop" | .popAt => "pop" | .insert => "insert" | .clear => "clear" | .reverse => "reverse"
  | .join => "join" | .find => "find" | .lower => "lower" | .upper => "upper" | .split => "split" | .index => "index" | .find2 => "find"
def mtI : Mt → String
  | .append => "list.append" | .extend => "list.extend" | .pop => "list.pop" | .popAt => "list.pop" | .insert => "list.insert" | .clear => "list.clear" | .reverse => "list.reverse"
  | .join => "str.join" | .find => "str.find" | .lower => "str.lower" | .upper => "str.upper" | .split => "str.split" | .index => "list.index" | .find2 => "str.find"
/-- how many arguments -/
def mtA : Mt → Nat
  | .pop | .clear | .reverse | .lower | .upper => 0
  | .insert | .find2 => 2
  | _ => 1
/-- the receiver's kind -/
def mtK (m : Mt) (d : D) (M : Md) : Prop := if mtT m = "list" then (seqOf d M).isSome = true ∧ ∀ es, d ≠ .tup es else ∃ s, d = .str s
/-- a list that may be changed -/
def mutOf (d : D) (M : Md) : Option (Nat × List D) := match d with
  | .ref k => match M[k]? with
    | some (.lst ds) => some (k, ds)
    | _ => none
  | _ => none
/-- the first place of y -/
def idxF (y : D) : List D → Option Nat
  | [] => none
  | d :: ds => if eqF d y = true then some 0 else (idxF y ds).map (· + 1)
theorem idxF_get {y : D} : ∀ {ds : List D} {j : Nat}, idxF y ds = some j → (∃ z, ds[j]? = some z ∧ eqF z y = true) ∧ ∀ m z, m < j → ds[m]? = some z → eqF z y = false
  | [], j, h => by cases h
  | d :: ds, j, h => by
    unfold idxF at h
    split at h
    · next e => cases h; exact ⟨⟨d, rfl, e⟩, fun m z hm => absurd hm (Nat.not_lt_zero m)⟩
    · next e =>
      obtain ⟨i, hi, e2⟩ := Option.map_eq_some_iff.mp h
      subst e2
      obtain ⟨⟨z, hz, e3⟩, h2⟩ := idxF_get hi
      refine ⟨⟨z, by simpa using hz, e3⟩, fun m z hm hz => ?_⟩
      cases m with
      | zero =>
        have hz : d = z := by simpa using hz
        subst hz
        simpa using e
      | succ m => exact h2 m z (by omega) (by simpa using hz)
def mtD (m : Mt) (x : D) (args : List D) (M : Md) (Q : QE) : Prop := match m with
  | .append => match mutOf x M, args with
    | some (k, ds), [d] => ds.length < sizeLine ∧ Q .non (M.set k (.lst (ds ++ [d])))
    | _, _ => False
  | .extend => match mutOf x M, args with
    | some (k, ds), [d] => match lstOf d M with
      | some es => ds.length + es.length ≤ sizeLine ∧ Q .non (M.set k (.lst (ds ++ es)))
      | none => False
    | _, _ => False
  | .pop => match mutOf x M, args with
    | some (k, ds), [] => match ds.getLast? with
      | some d => Q d (M.set k (.lst ds.dropLast))
      | none => False
    | _, _ => False
  | .popAt => match mutOf x M, args with
    | some (k, ds), [.int i] => -(2 ^ 63) ≤ i ∧ i < 2 ^ 63 ∧ match ixN ds.length i with
      | some j => match ds[j]? with
        | some d => Q d (M.set k (.lst (ds.eraseIdx j)))
        | none => False
      | none => False
    | _, _ => False
  | .insert => match mutOf x M, args with
    | some (k, ds), [.int i, d] => ds.length < sizeLine ∧ 0 ≤ i ∧ i < 2 ^ 63 ∧ Q .non (M.set k (.lst (ds.take i.toNat ++ [d] ++ ds.drop i.toNat)))
    | _, _ => False
  | .clear => match mutOf x M, args with
    | some (k, ds), [] => Q .non (M.set k (.lst []))
    | _, _ => False
  | .reverse => match mutOf x M, args with
    | some (k, ds), [] => Q .non (M.set k (.lst ds.reverse))
    | _, _ => False
  | .join => match x, args with
    | .str s, [d] => match (seqOf d M).bind strsOf with
      | some ys => (ys.map (·.length)).sum + ys.length * s.length ≤ 16777216 ∧ Q (.str (Txt.join s ys)) M
      | none => False
    | _, _ => False
  | .find => match x, args with
    | .str s, [.str t] => Q (.int (Txt.find s t)) M
    | _, _ => False
  | .find2 => match x, args with
    | .str s, [.str t, .int i] => Q (.int (Txt.find3 s t i)) M
    | _, _ => False
  | .lower => match x, args with
    | .str s, [] => s.length ≤ 5592405 ∧ Q (.str (Txt.lower s)) M
    | _, _ => False
  | .upper => match x, args with
    | .str s, [] => s.length ≤ 5592405 ∧ Q (.str (Txt.upper s)) M
    | _, _ => False
  | .split => match x, args with
    | .str s, [.str t] => (t.length == 0) = false ∧ s.length + 2 ≤ sizeLine ∧ Q (.lst ((Txt.split s t).map D.str)) M
    | _, _ => False
  | .index => match lstOf x M, args with
    | some ds, [y] => flatD y = true ∧ ds.all flatD = true ∧ match idxF y ds with
      | some j => Q (.int j) M
      | none => False
    | _, _ => False
def liM (P : Pm) (m : Mt) : V → List V → Hp → VK → Prop := fun x xs H Q => ∃ w M dx ds Qd, RepM P w M H ∧ RelD P w dx x ∧ RelDs P w ds xs ∧ Lk P w H Qd Q ∧ mtD m dx ds M Qd
theorem mutOf_at {P : Pm} {w : Wd} {M : Md} {H : Hp} (R : RepM P w M H) {d : D} {v : V} {k : Nat} {ds : List D} (r : RelD P w d v) (h : mutOf d M = some (k, ds)) :
    ∃ p vs, v = .ref p ∧ H p = some (.lst vs) ∧ RelDs P w ds vs ∧ w.r[k]? = some p ∧ M[k]? = some (.lst ds) ∧ w.F p = none := by
  cases d with
  | ref j =>
    obtain ⟨p, e, hp⟩ := r
    have h : (match M[j]? with
      | some (.lst ds) => some (j, ds)
      | _ => none) = some (k, ds) := h
    split at h
    · rename_i ds' hm
      cases h
      obtain ⟨hF, vs, e2, hs⟩ := R.cell _ _ p hm hp
      exact ⟨p, vs, e, e2, hs, hp, hm, hF⟩
    · cases h
  | _ => cases h
theorem Lk.put {P : Pm} {w : Wd} {M : Md} {H : Hp} {Qd : QE} {Q : VK} (l : Lk P w H Qd Q) (R : RepM P w M H) {k : Nat} {p : Addr} {ds ds' : List D} {vs' : List V} (hm : M[k]? = some (.lst ds)) (hp : w.r[k]? = some p) (hF : w.F p = none)
    (r' : RelDs P w ds' vs') {d : D} {v : V} (r : RelD P w d v) (q : Qd d (M.set k (.lst ds'))) : Q v (upd H p (.lst vs')) := by
  obtain ⟨R', s⟩ := R.write (o := .lst vs') (m' := .lst ds') hm hF hp .lst ⟨hF, vs', upd_same, r'⟩
  exact l _ _ _ _ _ s R' r q
theorem relDs_strs {P : Pm} {w : Wd} : ∀ ys : List Str, RelDs P w (ys.map D.str) (ys.map V.str)
  | [] => rfl
  | n :: ns => ⟨.str n, _, rfl, rfl, relDs_strs ns⟩
theorem relDs_eraseIdx {P : Pm} {w : Wd} : ∀ {ds : List D} {vs : List V} (i : Nat), RelDs P w ds vs → RelDs P w (ds.eraseIdx i) (vs.eraseIdx i)
  | [], _, _, h => by
    have h : _ = [] := h
    rw [h]; rfl
  | d :: ds, _, 0, ⟨v, r, e, h1, h2⟩ => by rw [e]; exact h2
  | d :: ds, _, i + 1, ⟨v, r, e, h1, h2⟩ => by rw [e]; exact ⟨v, _, rfl, h1, relDs_eraseIdx i h2⟩
theorem ixN_seqIndex {n : Nat} {i : Int} {j : Nat} (h : ixN n i = some j) : seqIndex? i n = some j := (ixN_seq h).1
section
variable {X : Cx} {P : Pm}
theorem mt_sound (hK : P.K = X.K) (m : Mt) : MtR X (mtI m) (liM P m) := by
  intro pins st σ H x xs v us Q I rx rs q
  obtain ⟨w, M, dx, ds, Qd, R, hx, hs, l, q⟩ := q
  cases m with
  | append =>
    simp only [mtD] at q
    split at q
    · rename_i k es d hm
      obtain ⟨p, vs, e1, e2, e3, e4, e5, e6⟩ := mutOf_at R hx hm
      obtain ⟨y, ey, ry⟩ := rel1 hs
      exact mt_append pins st σ H x xs v us Q I rx rs ⟨p, vs, y, e1, ey, e2, by rw [e3.length]; exact q.1, l.put R e5 e4 e6 (e3.append (.cons ry .nil)) (d := .non) rfl q.2⟩
    · exact q.elim
  | extend =>
    simp only [mtD] at q
    split at q
    · rename_i k es d hm
      split at q
      · rename_i fs hl
        obtain ⟨p, vs, e1, e2, e3, e4, e5, e6⟩ := mutOf_at R hx hm
        obtain ⟨y, ey, ry⟩ := rel1 hs
        obtain ⟨p2, vs2, f1, f2, f3⟩ := lstOf_at R ry hl
        exact mt_extend pins st σ H x xs v us Q I rx rs ⟨p, p2, vs, vs2, e1, by rw [ey, f1], e2, f2, by rw [e3.length, f3.length]; exact q.1, l.put R e5 e4 e6 (e3.append f3) (d := .non) rfl q.2⟩
      · exact q.elim
    · exact q.elim
  | pop =>
    simp only [mtD] at q
    split at q
    · rename_i k es hm
      split at q
      · rename_i d hd
        obtain ⟨p, vs, e1, e2, e3, e4, e5, e6⟩ := mutOf_at R hx hm
        have hs : xs = [] := hs
        rw [List.getLast?_eq_getElem?] at hd
        obtain ⟨y, hy, ry⟩ := e3.get hd
        refine mt_pop pins st σ H x xs v us Q I rx rs ⟨p, vs, y, e1, hs, e2, by rw [e3.length]; exact hy, l.put R e5 e4 e6 ?_ ry q⟩
        rw [List.dropLast_eq_take, List.dropLast_eq_take, e3.length]
        exact e3.take _
      · exact q.elim
    · exact q.elim
  | popAt =>
    simp only [mtD] at q
    split at q
    · rename_i k es i hm
      obtain ⟨q1, q2, q⟩ := q
      split at q
      · rename_i j hj
        split at q
        · rename_i d hd
          obtain ⟨p, vs, e1, e2, e3, e4, e5, e6⟩ := mutOf_at R hx hm
          obtain ⟨z, ez, rz⟩ := rel1 hs
          have rz : z = .int i := rz
          obtain ⟨y, hy, ry⟩ := e3.get hd
          exact mt_popAt pins st σ H x xs v us Q I rx rs ⟨p, vs, i, j, y, e1, by rw [ez, rz], e2, q1, q2, by rw [e3.length]; exact ixN_seqIndex hj, hy, l.put R e5 e4 e6 (relDs_eraseIdx j e3) ry q⟩
        · exact q.elim
      · exact q.elim
    · exact q.elim
  | insert =>
    simp only [mtD] at q
    split at q
    · rename_i k es i d hm
      obtain ⟨q1, q2, q3, q⟩ := q
      obtain ⟨p, vs, e1, e2, e3, e4, e5, e6⟩ := mutOf_at R hx hm
      obtain ⟨z, y, ez, rz, ry⟩ := rel2 hs
      have rz : z = .int i := rz
      exact mt_insert pins st σ H x xs v us Q I rx rs ⟨p, vs, i, y, e1, by rw [ez, rz], e2, by rw [e3.length]; exact q1, q2, q3, l.put R e5 e4 e6 (((e3.take _).append (.cons ry .nil)).append (e3.drop _)) (d := .non) rfl q⟩
    · exact q.elim
  | clear =>
    simp only [mtD] at q
    split at q
    · rename_i k es hm
      obtain ⟨p, vs, e1, e2, e3, e4, e5, e6⟩ := mutOf_at R hx hm
      have hs : xs = [] := hs
      exact mt_clear pins st σ H x xs v us Q I rx rs ⟨p, vs, e1, hs, e2, l.put R e5 e4 e6 .nil (d := .non) rfl q⟩
    · exact q.elim
  | reverse =>
    simp only [mtD] at q
    split at q
    · rename_i k es hm
      obtain ⟨p, vs, e1, e2, e3, e4, e5, e6⟩ := mutOf_at R hx hm
      have hs : xs = [] := hs
      exact mt_reverse pins st σ H x xs v us Q I rx rs ⟨p, vs, e1, hs, e2, l.put R e5 e4 e6 e3.reverse (d := .non) rfl q⟩
    · exact q.elim
  | join =>
    simp only [mtD] at q
    split at q
    · rename_i s d
      split at q
      · rename_i ys hys
        obtain ⟨es, hes, hst⟩ := Option.bind_eq_some_iff.mp hys
        obtain ⟨y, ey, ry⟩ := rel1 hs
        obtain ⟨p, vs, e1, e2, e3⟩ := seqOf_at R ry hes
        rw [strsOf_at e3 hst] at e2
        exact mt_join pins st σ H x xs v us Q I rx rs ⟨s, p, ys, hx, by rw [ey, e1], hK ▸ e2, q.1, l.same R (d := .str _) rfl q.2⟩
      · exact q.elim
    · exact q.elim
  | find =>
    simp only [mtD] at q
    split at q
    · rename_i s t
      obtain ⟨y, ey, ry⟩ := rel1 hs
      have ry : y = .str t := ry
      exact mt_find pins st σ H x xs v us Q I rx rs ⟨s, t, hx, by rw [ey, ry], l.same R (d := .int _) rfl q⟩
    · exact q.elim
  | find2 =>
    simp only [mtD] at q
    split at q
    · rename_i s t i
      obtain ⟨y, y2, ey, ry, ry2⟩ := rel2 hs
      have ry : y = .str t := ry
      have ry2 : y2 = .int i := ry2
      exact mt_find3 pins st σ H x xs v us Q I rx rs ⟨s, t, i, hx, by rw [ey, ry, ry2], l.same R (d := .int _) rfl q⟩
    · exact q.elim
  | lower =>
    simp only [mtD] at q
    split at q
    · rename_i s
      have hs : xs = [] := hs
      exact mt_lower pins st σ H x xs v us Q I rx rs ⟨s, hx, hs, q.1, l.same R (d := .str _) rfl q.2⟩
    · exact q.elim
  | upper =>
    simp only [mtD] at q
    split at q
    · rename_i s
      have hs : xs = [] := hs
      exact mt_upper pins st σ H x xs v us Q I rx rs ⟨s, hx, hs, q.1, l.same R (d := .str _) rfl q.2⟩
    · exact q.elim
  | split =>
    simp only [mtD] at q
    split at q
    · rename_i s t
      obtain ⟨y, ey, ry⟩ := rel1 hs
      have ry : y = .str t := ry
      exact mt_split pins st σ H x xs v us Q I rx rs ⟨s, t, hx, by rw [ey, ry], q.1, q.2.1, fun p hp => l.lst R (relDs_strs _) hp q.2.2⟩
    · exact q.elim
  | index =>
    simp only [mtD] at q
    split at q
    · rename_i ds y hl
      obtain ⟨q1, q2, q⟩ := q
      split at q
      · rename_i j hj
        obtain ⟨p, vs, e1, e2, e3⟩ := lstOf_at R hx hl
        obtain ⟨y', ey, ry⟩ := rel1 hs
        obtain ⟨⟨z, hz, e4⟩, h5⟩ := idxF_get hj
        have fl : ∀ {m : Nat} {d : D}, ds[m]? = some d → flatD d = true := fun h => List.all_eq_true.mp q2 _ (List.mem_of_getElem? h)
        obtain ⟨v', hv, rv⟩ := e3.get hz
        refine mt_index pins st σ H x xs v us Q I rx rs ⟨p, vs, y', j, v', e1, ey, SqL.of e2, flat_at ry q1, flats_at e3 q2, hv, by rw [eqF_at rv ry (fl hz) q1]; exact e4, fun m z' hm hz' => ?_, l.same R (d := .int _) rfl q⟩
        have hm2 : m < ds.length := by
          have := (List.getElem?_eq_some_iff.mp hz').1
          rw [e3.length] at this; exact this
        obtain ⟨v2, hv2, rv2⟩ := e3.get (List.getElem?_eq_getElem hm2)
        rw [hz'] at hv2; cases hv2
        rw [eqF_at rv2 ry (fl (List.getElem?_eq_getElem hm2)) q1]
        exact h5 m _ hm (List.getElem?_eq_getElem hm2)
      · exact q.elim
    · exact q.elim
theorem mt_pa (m : Mt) : PlainAttrs (mtT m) := by cases m <;> first | exact PySem.F.plainAttrs_list | exact PySem.F.plainAttrs_str
theorem mt_slot (m : Mt) : Slot (mtT m) (mtN m) (mtI m) := by
  cases m
  · exact PySem.F.slot_list_append
  · exact PySem.F.slot_list_extend
  · exact PySem.F.slot_list_pop
  · exact PySem.F.slot_list_pop
  · exact PySem.F.slot_list_insert
  · exact PySem.F.slot_list_clear
  · exact PySem.F.slot_list_reverse
  · exact PySem.F.slot_str_join
  · exact PySem.F.slot_str_find
  · exact PySem.F.slot_str_lower
  · exact PySem.F.slot_str_upper
  · exact PySem.F.slot_str_split
  · exact PySem.F.slot_list_index
  · exact PySem.F.slot_str_find
theorem mt_type (m : Mt) : typeOf (.builtin (mtI m)) = pure (.type "method_descriptor") := by
  cases m
  · exact PySem.F.type_list_append
  · exact PySem.F.type_list_extend
  · exact PySem.F.type_list_pop
  · exact PySem.F.type_list_pop
  · exact PySem.F.type_list_insert
  · exact PySem.F.type_list_clear
  · exact PySem.F.type_list_reverse
  · exact PySem.F.type_str_join
  · exact PySem.F.type_str_find
  · exact PySem.F.type_str_lower
  · exact PySem.F.type_str_upper
  · exact PySem.F.type_str_split
  · exact PySem.F.type_list_index
  · exact PySem.F.type_str_find
theorem mtK_at (hK : P.K = X.K) {w : Wd} {M : Md} {H : Hp} (R : RepM P w M H) {m : Mt} {d : D} {v : V} (r : RelD P w d v) (h : mtK m d M) : tyV X.K (mtT m) v H := by
  unfold mtK at h
  split at h
  · rename_i e
    rw [e]
    obtain ⟨h1, h2⟩ := h
    obtain ⟨ds, hds⟩ := Option.isSome_iff_exists.mp h1
    obtain ⟨p, vs, e1, e2, _⟩ := seqL_at R r hds h2
    subst e1
    exact .inl ⟨rfl, vs, hK ▸ e2⟩
  · rename_i e
    obtain ⟨s, e1⟩ := h
    subst e1
    have r : v = .str s := r
    subst r
    show mtT m = "str"
    cases m <;> first | rfl | exact absurd rfl e
end
end DL
namespace DL
open PySem L2
/-- values of defaults -/
inductive Sc where | non | bl (b : Bool) | int (i : Int) | str (s : Str)
  deriving DecidableEq
def Sc.d : Sc → D
  | .non => .non | .bl b => .bl b | .int i => .int i | .str s => .str s
def Sc.v : Sc → V
  | .non => .non | .bl b => .bl b | .int i => .int i | .str s => .str s
inductive Tg where
  | nm (i : Nat) | tp (is : List Nat)
mutual
inductive CE where
  | var (i : Nat) | int (i : Int) | str (s : Str) | bl (b : Bool) | non
  | glob (g : Nat)
  | bin (o : Op) (a b : CE)
  | neg (a : CE) | not (a : CE)
  | and (a b : CE) | or (a b : CE)
  | cmp (c : Cp) (a b : CE)
  | chain (c1 c2 : Cp) (a b d : CE)
  | ife (c a b : CE)
  | tup (es : CEs) | lst (m : Bool) (es : CEs)
  | idx (a b : CE)
  | slc (m : Bool) (a : CE) (lo hi : CO)
  | call (f : Nat) (es : CEs)
  | blt (b : Bt) (es : CEs)
  | mth (m : Mt) (o : CE) (es : CEs)
  | comp (m : Bool) (elt : CE) (t : Tg) (it : CI) (ifs : CO) (own : List Nat)
  | dnew | dnewT
  | dlit (ks : List Str) (es : CEs)
  | dget (o k x : CE)
  | listRg (m : Bool) (a : CE)
  | fld (c : Str) (a : CE) (f : Str)
  | make (m : Bool) (n : Nat) (c : Str) (es : CEs)
  | meth (c m : Str) (n : Nat) (o : CE) (es : CEs)
  | rev (m : Bool) (a : CE)
  | calln (i n : Nat) (js : List Nat) (es : CEs)
  | callK (f j : Nat) (es : CEs) (ks : List Str) (zs : CEs) (df : List Sc)
  | makeK (m : Bool) (n : Nat) (c : Str) (j : Nat) (es : CEs) (ks : List Str) (zs : CEs) (df : List Sc)
  | methK (c m : Str) (n : Nat) (o : CE) (j : Nat) (es : CEs) (ks : List Str) (zs : CEs) (df : List Sc)
  | xis (i : Nat) (T : Str) | xfld (i : Nat) (c f : Str)
  | gin (x : Str) (kv : List (Str × Str)) (a : CE) | gidx (x : Str) (kv : List (Str × Str)) (a : CE)
inductive CEs where
  | nil | cons (e : CE) (es : CEs)
inductive CO where
  | none | some (e : CE)
inductive CI where
  | seq (e : CE) | rng1 (a : CE) | rng2 (a b : CE) | chars (e : CE)
end
mutual
inductive CS where
  | setFld (c : Str) (o : CE) (f : Str) (v : CE)
  | set (i : Nat) (e : CE) | setT (is : List Nat) (e : CE) | setIx (o i v : CE)
  | setP (is : List Nat) (es : CEs) | setTF (cf : List (Str × Str)) (os : CEs) (e : CE) | aug (i : Nat) (e : CE) | augF (c : Str) (o : CE) (f : Str) (e : CE)
  | expr (e : CE) | ret (e : CE) | retN | pass | brk | cont | never
  | raise (c : Str) (e : CE) | raiseI (c : Str) (fs : List Str) (es : CEs)
  | ifs (c : CE) (a b : CSs) | fors (t : Tg) (it : CI) (body : CSs) | enums (t : Tg) (e : CE) (body : CSs) | whil (c : CE) (body : CSs)
inductive CSs where
  | nil | cons (s : CS) (r : CSs)
end
/-- a field of an instance of class c -/
def fldD (c : Str) (f : Str) (d : D) (M : Md) (Q : QE) : Prop := match d with
  | .ref k => match M[k]? with
    | some (.ins c' fs) => c' = c ∧ match fs.lookup f with
      | some x => Q x M
      | none => False
    | _ => False
  | .obj c' ns ds => c' = c ∧ match (ns.zip ds).lookup f with
    | some x => Q x M
    | none => False
  | _ => False
/-- an instance of class c without a field m -/
def objD (c m : Str) (d : D) (M : Md) : Prop := match d with
  | .ref k => match M[k]? with
    | some (.ins c' fs) => c' = c ∧ (fs.map (·.1)).contains m = false
    | _ => False
  | .obj c' ns _ => c' = c ∧ ns.contains m = false
  | _ => False
def putFD (f : Str) (v : D) : List (Str × D) → List (Str × D)
  | [] => [(f, v)]
  | (g, x) :: r => if g = f then (g, v) :: r else (g, x) :: putFD f v r
def setFD (c : Str) (f : Str) (x d : D) (M : Md) (Q : Md → Prop) : Prop := match x with
  | .ref k => match M[k]? with
    | some (.ins c' fs) => c' = c ∧ fs.length < 1000 ∧ Q (M.set k (.ins c (putFD f d fs)))
    | _ => False
  | _ => False
/-- own exceptions: c is one of T -/
def xsub (c T : Str) : Bool := T == ("FirstwayError" : Str) || (T == ("ValueError" : Str) || c == T)
/-- the exception that an except suite holds, by its name -/
def xheld (σ : Std) (i : Nat) (e : D) (Q : Str → List Str → List D → Prop) : Prop := match σ[i]?, e with
  | some (some (.exc a od c ns ds)), .exc a' od' c' _ _ => a = a' ∧ od = od' ∧ c = c' ∧ Q c ns ds
  | _, _ => False
/-- it has fields -/
def xdct : D → Prop
  | .exc _ (some _) _ _ _ => True
  | _ => False
/-- a dict of the module, of texts: a key in it; its value -/
def ginD (kv : List (Str × Str)) (d : D) (Q : Bool → Prop) : Prop := match d with
  | .str s => Q (kv.lookup s).isSome
  | _ => False
def gidxD (kv : List (Str × Str)) (d : D) (Q : D → Prop) : Prop := match d with
  | .str s => match kv.lookup s with
    | some t => Q (.str t)
    | none => False
  | _ => False
abbrev RE := EX → Std → Md → QE → Prop
abbrev RT := EX → Std → Md → (Bool → Md → Prop) → Prop
abbrev RA := EX → Std → Md → (List D → Md → Prop) → Prop
abbrev RO := EX → Std → Md → (Option Int → Md → Prop) → Prop
/-- what is walked: its items; the changing list that must stay as it is -/
abbrev RI := EX → Std → Md → (List D → Option Nat → Md → Prop) → Prop
/-- a function made here stands at k: the nested def n -/
def isFn (M : Md) (k n : Nat) : Prop := match M[k]? with
  | some (.fn _ m _ _) => m = n
  | _ => False
/-- what the captured names hold -/
def capsD (σ : Std) : List Nat → Option (List D)
  | [] => some []
  | j :: js => match σ[j]?, capsD σ js with
    | some (some d), some ds => some (d :: ds)
    | _, _ => none
abbrev SpD := List D → Md → QE → EX → Prop
structure EndsD where
  nx : Std → Md → Prop
  rt : QE
  bk : Std → Md → Prop
  ct : Std → Md → Prop
abbrev EXS := XD → Std → Md → Prop
abbrev RS := EXS → EndsD → Std → Md → Prop
def lkOk (lk : Option Nat) (all : List D) (M : Md) : Prop := match lk with
  | none => True
  | some k => M[k]? = some (.lst all)
/-- the changing list that is walked -/
def lkOf : D → Option Nat
  | .ref k => some k
  | _ => none
def setAll : Std → List Nat → List D → Std
  | σ, i :: is, d :: ds => setAll (σ.set i (some d)) is ds
  | σ, _, _ => σ
def asgT (t : Tg) (d : D) (σ : Std) (M : Md) (Q : Std → Md → Prop) : Prop := match t with
  | .nm i => Q (σ.set i (some d)) M
  | .tp is => match d with
    | .tup ds => ds.length = is.length ∧ Q (setAll σ is ds) M
    | _ => False
def wipeD (σ : Std) : List Nat → Std
  | [] => σ
  | v :: vs => (wipeD σ vs).set v none
/-- a dict's value at a key, or another -/
def dgetD (d y z : D) (M : Md) (Q : QE) : Prop := match d with
  | .ref k => match M[k]? with
    | some (.dct kvs) => match keyD y with
      | some ky => Q ((dctVal kvs ky).getD z) M
      | none => False
    | _ => False
  | _ => False
def isDct (d : D) (M : Md) : Prop := ∃ k kvs, d = .ref k ∧ M[k]? = some (.dct kvs)
/-- texts as keys, one behind another -/
def dlitP : List Str → List D → List (Option Key × D) → List (Option Key × D)
  | k :: ks, d :: ds, acc => dlitP ks ds (dctPut acc (some (.inr k)) d)
  | _, _, acc => acc
def valT (v : RE) : RE × RT := (v, fun E σ M Q => v E σ M fun d M1 => truD d M1 fun k => Q k M1)
def tstT (t : RT) : RE × RT := (fun E σ M Q => t E σ M fun k M1 => Q (.bl k) M1, t)
/-- [elt for t in xs if ..] -/
def compD (lk : Option Nat) (all : List D) (asg : D → (Std → Md → Prop) → Md → Prop) (tst : Std → Md → (Bool → Md → Prop) → Prop) (elt : Std → Md → QE → Prop) (Q : List D → Md → Prop) : List D → List D → Md → Prop
  | [], acc, M => lkOk lk all M ∧ Q acc M
  | d :: ds, acc, M => lkOk lk all M ∧ asg d (fun σ1 M1 => tst σ1 M1 fun k M2 => if k = true then elt σ1 M2 fun y M3 => acc.length < sizeLine ∧ compD lk all asg tst elt Q ds (acc ++ [y]) M3 else compD lk all asg tst elt Q ds acc M2) M
/-- a text's characters, each a text -/
def charsD (s : Str) : List D := s.cps.toList.map fun c => D.str ⟨#[c]⟩
/-- items with their places -/
def enumD (ds : List D) : List D := ds.zipIdx.map fun p => D.tup [.int (p.2 : Nat), p.1]
/-- a tuple, walked with places -/
def enumQ (d : D) (M : Md) (QI : List D → Option Nat → Md → Prop) : Prop := match d with
  | .tup ds => QI (enumD ds) none M
  | _ => False
def rngD (a b : Int) : List D := (List.range (b - a).toNat).map fun i => D.int (a + (i : Nat))
section
variable (Φ : Nat → SpD) (κ : Nat → D)
mutual
def rd : CE → RE × RT
  | .var i => valT fun _ σ M Q => match σ[i]? with
    | some (some d) => Q d M
    | _ => False
  | .int i => valT fun _ _ M Q => Q (.int i) M
  | .str s => valT fun _ _ M Q => Q (.str s) M
  | .bl b => valT fun _ _ M Q => Q (.bl b) M
  | .non => valT fun _ _ M Q => Q .non M
  | .glob g => valT fun _ _ M Q => Q (κ g) M
  | .xis i T => valT fun _ σ M Q => xheld σ i (κ 0) fun c _ _ => Q (.bl (xsub c T)) M
  | .xfld i k f => valT fun _ σ M Q => xdct (κ 0) ∧ xheld σ i (κ 0) fun c ns ds => c = k ∧ match (ns.zip ds).lookup f with
    | some x => Q x M
    | none => False
  | .gin _ kv a => tstT fun E σ M Q => (rd a).1 E σ M fun d M1 => ginD kv d fun b => Q b M1
  | .gidx _ kv a => valT fun E σ M Q => (rd a).1 E σ M fun d M1 => gidxD kv d fun t => Q t M1
  | .bin o a b => valT fun E σ M Q => (rd a).1 E σ M fun x M1 => (rd b).1 E σ M1 fun y M2 => opD o x y M2 Q
  | .neg a => valT fun E σ M Q => (rd a).1 E σ M fun x M1 => match x with
    | .int i => Q (.int (-i)) M1
    | _ => False
  | .not a => (fun E σ M Q => (rd a).1 E σ M fun x M1 => truD x M1 fun k => Q (.bl (!k)) M1, fun E σ M Q => (rd a).2 E σ M fun k M1 => Q (!k) M1)
  | .and a b => (fun E σ M Q => (rd a).1 E σ M fun x M1 => truD x M1 fun k => if k = true then (rd b).1 E σ M1 Q else Q x M1, fun E σ M Q => (rd a).2 E σ M fun k M1 => if k = true then (rd b).2 E σ M1 Q else Q false M1)
  | .or a b => (fun E σ M Q => (rd a).1 E σ M fun x M1 => truD x M1 fun k => if k = true then Q x M1 else (rd b).1 E σ M1 Q, fun E σ M Q => (rd a).2 E σ M fun k M1 => if k = true then Q true M1 else (rd b).2 E σ M1 Q)
  | .cmp c a b => tstT fun E σ M Q => (rd a).1 E σ M fun x M1 => (rd b).1 E σ M1 fun y M2 => cpD c x y M2 fun k => Q k M2
  | .chain c1 c2 a b d => tstT fun E σ M Q => (rd a).1 E σ M fun x M1 => (rd b).1 E σ M1 fun y M2 => cpD c1 x y M2 fun k => if k = true then (rd d).1 E σ M2 fun z M3 => cpD c2 y z M3 fun k => Q k M3 else Q false M2
  | .ife c a b => (fun E σ M Q => (rd c).2 E σ M fun k M1 => if k = true then (rd a).1 E σ M1 Q else (rd b).1 E σ M1 Q, fun _ _ _ _ => False)
  | .tup es => valT fun E σ M Q => rds es E σ M fun ds M1 => ds.length ≤ sizeLine ∧ Q (.tup ds) M1
  | .lst m es => valT fun E σ M Q => rds es E σ M fun ds M1 => ds.length ≤ sizeLine ∧ if m = true then Q (.ref M1.length) (M1 ++ [.lst ds]) else Q (.lst ds) M1
  | .idx a b => valT fun E σ M Q => (rd a).1 E σ M fun x M1 => (rd b).1 E σ M1 fun y M2 => ixD x y M2 Q
  | .slc m a lo hi => valT fun E σ M Q => (rd a).1 E σ M fun x M1 => rdo lo E σ M1 fun l M2 => rdo hi E σ M2 fun h M3 => slD m x l h M3 Q
  | .call f es => valT fun E σ M Q => rds es E σ M fun ds M1 => Φ f ds M1 Q E
  | .blt b es => valT fun E σ M Q => rds es E σ M fun ds M1 => btD b ds M1 Q
  | .mth m o es => valT fun E σ M Q => (rd o).1 E σ M fun x M1 => mtK m x M1 ∧ rds es E σ M1 fun ds M2 => mtD m x ds M2 Q
  | .comp m elt t it ifs own => valT fun E σ M Q => rdi it E σ M fun ds lk M1 =>
      compD lk ds (fun d k M => asgT t d (wipeD σ own) M k) (fun σ M Q => rdt ifs (fun _ _ => False) σ M Q) (fun σ M Q => (rd elt).1 (fun _ _ => False) σ M Q) (fun acc M => if m = true then Q (.ref M.length) (M ++ [.lst acc]) else Q (.lst acc) M) ds [] M1
  | .dnew => valT fun _ _ M Q => Q (.ref M.length) (M ++ [.dct []])
  | .dnewT => valT fun _ _ M Q => Q (.ref M.length) (M ++ [.dctT []])
  | .dget o k x => valT fun E σ M Q => (rd o).1 E σ M fun d M1 => isDct d M1 ∧ (rd k).1 E σ M1 fun y M2 => (rd x).1 E σ M2 fun z M3 => dgetD d y z M3 Q
  | .dlit ks es => valT fun E σ M Q => rds es E σ (M ++ [.dct []]) fun ds M1 => M1[M.length]? = some (.dct []) ∧ Q (.ref M.length) (M1.set M.length (.dct (dlitP ks ds [])))
  | .listRg m a => valT fun E σ M Q => (rd a).1 E σ M fun d M1 => match d with
    | .int j => -(2 ^ 62) ≤ j ∧ j ≤ 16777216 ∧ if m = true then Q (.ref M1.length) (M1 ++ [.lst (rngD 0 j)]) else Q (.lst (rngD 0 j)) M1
    | _ => False
  | .fld c a f => valT fun E σ M Q => (rd a).1 E σ M fun d M1 => fldD c f d M1 Q
  | .make m n c es => valT fun E σ M Q => rds es E σ M fun ds M1 => Φ n (.ref M1.length :: ds) (M1 ++ [.ins c []]) (fun d M2 => d = .non ∧ if m = true then Q (.ref M1.length) M2 else ∃ fs, M2 = M1 ++ [.ins c fs] ∧ RLtM M1.length (.ins c fs) ∧ Q (.obj c (fs.map (·.1)) (fs.map (·.2))) M1) E
  | .rev m a => valT fun E σ M Q => (rd a).1 E σ M fun x M1 => match lstOf x M1 with
    | some ds => if m = true then Q (.ref M1.length) (M1 ++ [.lst ds.reverse]) else Q (.lst ds.reverse) M1
    | none => False
  | .calln i n js es => valT fun E σ M Q => match σ[i]?, capsD σ js with
    | some (some (.ref k)), some cs => isFn M k n ∧ rds es E σ M fun ds M1 => isFn M1 k n ∧ Φ n (.ref k :: (cs ++ ds)) M1 Q E
    | _, _ => False
  | .meth c m n o es => valT fun E σ M Q => (rd o).1 E σ M fun x M1 => objD c m x M1 ∧ rds es E σ M1 fun ds M2 => Φ n (x :: ds) M2 Q E
  | .callK f j es ks zs df => valT fun E σ M Q => rds es E σ M fun ds M1 => ds.length = j ∧ rds zs E σ M1 fun us M2 => us.length = ks.length ∧ Φ f (ds ++ (us ++ df.map Sc.d)) M2 Q E
  | .makeK m n c j es ks zs df => valT fun E σ M Q => rds es E σ M fun ds M0 => ds.length = j ∧ rds zs E σ M0 fun us M1 => us.length = ks.length ∧ Φ n (.ref M1.length :: (ds ++ (us ++ df.map Sc.d))) (M1 ++ [.ins c []]) (fun d M2 => d = .non ∧ if m = true then Q (.ref M1.length) M2 else ∃ fs, M2 = M1 ++ [.ins c fs] ∧ RLtM M1.length (.ins c fs) ∧ Q (.obj c (fs.map (·.1)) (fs.map (·.2))) M1) E
  | .methK c m n o j es ks zs df => valT fun E σ M Q => (rd o).1 E σ M fun x M1 => objD c m x M1 ∧ rds es E σ M1 fun ds M2 => ds.length = j ∧ rds zs E σ M2 fun us M3 => us.length = ks.length ∧ Φ n (x :: (ds ++ (us ++ df.map Sc.d))) M3 Q E
def rds : CEs → RA
  | .nil => fun _ _ M Q => Q [] M
  | .cons e es => fun E σ M Q => (rd e).1 E σ M fun d M1 => rds es E σ M1 fun ds M2 => Q (d :: ds) M2
def rdo : CO → RO
  | .none => fun _ _ M Q => Q none M
  | .some e => fun E σ M Q => (rd e).1 E σ M fun d M1 => match d with
    | .int i => Q (some i) M1
    | _ => False
/-- a comprehension's test -/
def rdt : CO → RT
  | .none => fun _ _ M Q => Q true M
  | .some e => (rd e).2
def rdi : CI → RI
  | .seq e => fun E σ M Q => (rd e).1 E σ M fun d M1 => match seqOf d M1 with
    | some ds => Q ds (lkOf d) M1
    | none => False
  | .chars e => fun E σ M Q => (rd e).1 E σ M fun d M1 => match d with
    | .str s => Q (charsD s) none M1
    | _ => False
  | .rng1 a => fun E σ M Q => (rd a).1 E σ M fun d M1 => match d with
    | .int j => -(2 ^ 62) ≤ j ∧ j < 2 ^ 62 ∧ Q (rngD 0 j) none M1
    | _ => False
  | .rng2 a b => fun E σ M Q => (rd a).1 E σ M fun d M1 => (rd b).1 E σ M1 fun e M2 => match d, e with
    | .int i, .int j => -(2 ^ 62) ≤ i ∧ i < 2 ^ 62 ∧ -(2 ^ 62) ≤ j ∧ j < 2 ^ 62 ∧ Q (rngD i j) none M2
    | _, _ => False
end
abbrev rE (c : CE) : RE := (rd Φ κ c).1
abbrev rT (c : CE) : RT := (rd Φ κ c).2
/-- fields set one behind another -/
def setTFd (E : EX) (σ : Std) : List (Str × Str) → CEs → List D → Md → (Md → Prop) → Prop
  | [], .nil, [], M, Q => Q M
  | (c, f) :: r, .cons o os, d :: ds, M, Q => rE Φ κ o E σ M fun x M1 => setFD c f x d M1 fun M2 => setTFd E σ r os ds M2 Q
  | _, _, _, _, _ => False
def isRef : D → Prop
  | .ref _ => True
  | _ => False
def addI (x y : D) (Q : D → Prop) : Prop := match x, y with
  | .int a, .int b => Q (.int (a + b))
  | _, _ => False
/-- a for's turns -/
def loopD (lk : Option Nat) (all : List D) (asg : D → Std → Md → (Std → Md → Prop) → Prop) (body : EndsD → Std → Md → Prop) (K : EndsD) : List D → Std → Md → Prop
  | [], σ, M => lkOk lk all M ∧ K.nx σ M
  | d :: ds, σ, M => lkOk lk all M ∧ asg d σ M fun σ1 M1 => body { nx := loopD lk all asg body K ds, rt := K.rt, bk := K.nx, ct := loopD lk all asg body K ds } σ1 M1
/-- a while, n turns at most -/
def whilD (tst : Std → Md → (Bool → Md → Prop) → Prop) (body : EndsD → Std → Md → Prop) (K : EndsD) : Nat → Std → Md → Prop
  | 0, _, _ => False
  | n + 1, σ, M => tst σ M fun k M1 => if k = true then body { nx := whilD tst body K n, rt := K.rt, bk := K.nx, ct := whilD tst body K n } σ M1 else K.nx σ M1
mutual
def rS : CS → RS
  | .setFld c o f v => fun E K σ M => rE Φ κ v (fun x => E x σ) σ M fun d M1 => rE Φ κ o (fun x => E x σ) σ M1 fun x M2 => setFD c f x d M2 fun M' => K.nx σ M'
  | .set i e => fun E K σ M => rE Φ κ e (fun x => E x σ) σ M fun d M1 => K.nx (σ.set i (some d)) M1
  | .setT is e => fun E K σ M => rE Φ κ e (fun x => E x σ) σ M fun d M1 => asgT (.tp is) d σ M1 K.nx
  | .setP is es => fun E K σ M => rds Φ κ es (fun x => E x σ) σ M fun ds M1 => ds.length = is.length ∧ K.nx (setAll σ is ds) M1
  | .setTF cf os e => fun E K σ M => rE Φ κ e (fun x => E x σ) σ M fun d M1 => match d with
    | .tup ds => ds.length = cf.length ∧ setTFd Φ κ (fun x => E x σ) σ cf os ds M1 fun M2 => K.nx σ M2
    | _ => False
  | .aug i e => fun E K σ M => match σ[i]? with
    | some (some x) => rE Φ κ e (fun x => E x σ) σ M fun y M1 => addI x y fun z => K.nx (σ.set i (some z)) M1
    | _ => False
  | .augF c o f e => fun E K σ M => rE Φ κ o (fun x => E x σ) σ M fun x M1 => isRef x ∧ fldD c f x M1 fun v M2 => rE Φ κ e (fun x => E x σ) σ M2 fun y M3 => addI v y fun z => setFD c f x z M3 fun M' => K.nx σ M'
  | .setIx o i v => fun E K σ M => rE Φ κ v (fun x => E x σ) σ M fun d M1 => rE Φ κ o (fun x => E x σ) σ M1 fun x M2 => rE Φ κ i (fun x => E x σ) σ M2 fun y M3 => match x with
    | .ref k => match M3[k]?, y with
      | some (.lst ds), .int j => match ixN ds.length j with
        | some j => K.nx σ (M3.set k (.lst (ds.set j d)))
        | none => False
      | some (.dct kvs), y => match keyD y with
        | some ky => kvs.length < sizeLine ∧ K.nx σ (M3.set k (.dct (dctPut kvs ky d)))
        | none => False
      | some (.dctT kvs), y => match tKey y with
        | some ky => kvs.length < sizeLine ∧ K.nx σ (M3.set k (.dctT (dctPutT kvs y ky d)))
        | none => False
      | _, _ => False
    | _ => False
  | .expr e => fun E K σ M => rE Φ κ e (fun x => E x σ) σ M fun _ M1 => K.nx σ M1
  | .ret e => fun E K σ M => rE Φ κ e (fun x => E x σ) σ M K.rt
  | .retN => fun _ K _ M => K.rt .non M
  | .pass => fun _ K σ M => K.nx σ M
  | .never => fun _ _ _ _ => False
  | .raise c e => fun E _ σ M => rE Φ κ e (fun x => E x σ) σ M fun _ M1 => E ⟨c, none⟩ σ M1
  | .raiseI c fs es => fun E _ σ M => rds Φ κ es (fun x => E x σ) σ M fun ds M1 => ds.length = fs.length ∧ E ⟨c, some (fs.zip ds).reverse⟩ σ M1
  | .brk => fun _ K σ M => K.bk σ M
  | .cont => fun _ K σ M => K.ct σ M
  | .ifs c a b => fun E K σ M => rT Φ κ c (fun x => E x σ) σ M fun k M1 => if k = true then rSs a E K σ M1 else rSs b E K σ M1
  | .fors t it body => fun E K σ M => rdi Φ κ it (fun x => E x σ) σ M fun ds lk M1 => loopD lk ds (asgT t) (rSs body E) K ds σ M1
  | .enums t e body => fun E K σ M => rE Φ κ e (fun x => E x σ) σ M fun d M1 => enumQ d M1 fun ds lk M2 => loopD lk ds (asgT t) (rSs body E) K ds σ M2
  | .whil c body => fun E K σ M => ∃ n, whilD (fun σ M Q => rT Φ κ c (fun x => E x σ) σ M Q) (rSs body E) K n σ M
def rSs : CSs → RS
  | .nil => fun _ K σ M => K.nx σ M
  | .cons s r => fun E K σ M => rS s E { K with nx := rSs r E K } σ M
end
end
def tgIdx : Tg → List Nat
  | .nm i => [i]
  | .tp is => is
inductive GD where
  | fn (f : Nat) | cst (g : Nat)
/-- what a law's own exceptions are -/
structure XCtx where
  hot : Bool := false
  xs : List Str := []
  xr : List Str := []
  xi : List (Str × List Str) := []
  xf : List (Str × Str) := []
  kd : List (Str × List (Str × Str)) := []
structure Ctx where
  N : List Str
  sc : Scope
  fn : Str → Bool
  G : List (Str × GD)
  B : List Str
  FL : List (Str × Str) := []
  MK : List (Str × Nat × Str) := []
  MT : List (Str × Str × Nat) := []
  KF : List (Str × Nat × Nat × List Str × List Sc) := []
  KM : List (Str × (Nat × Str) × Nat × List Str × List Sc) := []
  KT : List ((Str × Str) × Nat × Nat × List Str × List Sc) := []
  NS : List (Nat × List Nat) := []
  X : XCtx := {}
def Ctx.blk (C : Ctx) (scope : Scope) : Ctx := { C with NS := [], sc := relS scope C.sc, fn := fun x => scope.names.lookup x == some .cell }
def nodbg (x : Str) : Bool := !(x == ("__debug__" : Str)) && !(x == ("__classdict__" : Str))
def okVar (C : Ctx) (i : Nat) (x : Str) : Bool := (C.N[i]? == some x) && nodbg x && (match C.sc.names.lookup x with
  | some .local => true
  | some .cell => true
  | some .free => true
  | _ => false)
def okTgt (C : Ctx) (i : Nat) (x : Str) : Bool := (C.N[i]? == some x) && (match C.sc.names.lookup x with
  | some .local => true
  | some .cell => C.fn x
  | _ => false)
def okGlob (C : Ctx) (x : Str) : Bool := nodbg x && (C.sc.names.lookup x == some .globalImplicit)
def okBlt (C : Ctx) (n x : Str) : Bool := (x == n) && okGlob C x && C.B.contains x && !(x == ("__name__" : Str))
def okTg (C : Ctx) : Tg → Expr → Bool
  | .nm i, .Name x _ => okTgt C i x
  | .tp is, .Tuple es _ _ => !C.X.hot && go is es
  | _, _ => false
where go : List Nat → List Expr → Bool
  | [], [] => true
  | i :: is, .Name x _ :: es => okTgt C i x && go is es
  | _, _ => false
def btN : Bt → Str
  | .len => "len" | .list => "list" | .listM => "list" | .tuple => "tuple" | .max2 => "max" | .min2 => "min" | .int => "int" | .sorted => "sorted" | .sortedM => "sorted" | .sortedD => "sorted"
  | .sum => "sum" | .ord => "ord" | .str => "str" | .any => "any" | .all => "all" | .isi _ => "isinstance"
/-- what an except suite may call -/
def coolB : Bt → Bool
  | .sortedD => false | .max2 => false | .min2 => false | .sum => false | .any => false | .all => false
  | _ => true
def okBltH (C : Ctx) (b : Bt) (x : Str) : Bool := okBlt C (btN b) x && (coolB b || !C.X.hot)
def plainE : Expr → Bool
  | .Starred .. => false
  | .Slice .. => false
  | .Set .. => false
  | _ => true
def notComp : Expr → Bool
  | .ListComp .. => false
  | .SetComp .. => false
  | .DictComp .. => false
  | _ => true
def notTuple : Expr → Bool
  | .Tuple .. => false
  | _ => true
def notCallName : Expr → Bool
  | .Call (.Name _ _) [] [] _ => false
  | _ => true
mutual
def chkE (C : Ctx) : CE → Expr → Bool
  | .var i, e => match e with
    | .Name x _ => okVar C i x
    | _ => false
  | .int i, e => match e with
    | .Constant (.int j) _ _ => i == j
    | _ => false
  | .str s, e => match e with
    | .Constant (.str t) _ _ => s == t
    | _ => false
  | .bl b, e => match e with
    | .Constant (.bool c) _ _ => b == c
    | _ => false
  | .non, e => match e with
    | .Constant .none _ _ => true
    | _ => false
  | .glob g, e => match e with
    | .Name x _ => okGlob C x && (match C.G.lookup x with
      | some (.cst h) => g == h
      | _ => false)
    | _ => false
  | .bin o a b, e => match e with
    | .BinOp l p r _ => (p == opO o) && chkE C a l && chkE C b r
    | _ => false
  | .neg a, e => match e with
    | .UnaryOp .USub x _ => chkE C a x
    | _ => false
  | .not a, e => match e with
    | .UnaryOp .Not x _ => chkE C a x
    | _ => false
  | .and a b, e => match e with
    | .BoolOp .And (x :: y :: rest) pos => chkE C a x && (match rest with
      | [] => chkE C b y
      | z :: rest => chkE C b (.BoolOp .And (y :: z :: rest) pos))
    | _ => false
  | .or a b, e => match e with
    | .BoolOp .Or (x :: y :: rest) pos => chkE C a x && (match rest with
      | [] => chkE C b y
      | z :: rest => chkE C b (.BoolOp .Or (y :: z :: rest) pos))
    | _ => false
  | .cmp c a b, e => match e with
    | .Compare l [op] [r] _ => (op == cpO c) && plainE r && chkE C a l && chkE C b r
    | _ => false
  | .chain c1 c2 a b d, e => match e with
    | .Compare l [op, op2] [r, r2] _ => (op == cpO c1) && (op2 == cpO c2) && plainE r && plainE r2 && chkE C a l && chkE C b r && chkE C d r2
    | _ => false
  | .ife c a b, e => match e with
    | .IfExp x y z _ => chkE C c x && chkE C a y && chkE C b z
    | _ => false
  | .tup es, e => match e with
    | .Tuple xs _ _ => chkEs C es xs
    | _ => false
  | .lst _ es, e => match e with
    | .List xs _ => chkEs C es xs
    | _ => false
  | .idx a b, e => match e with
    | .Subscript x y _ => plainE y && chkE C a x && chkE C b y
    | _ => false
  | .slc _ a lo hi, e => match e with
    | .Subscript x (.Slice l h none _) _ => chkE C a x && chkO C lo l && chkO C hi h
    | _ => false
  | .call f es, e => match e with
    | .Call (.Name x _) ys [] _ => okGlob C x && (match C.G.lookup x with
      | some (.fn g) => f == g
      | _ => false) && chkEs C es ys
    | _ => false
  | .xis i T, e => match e with
    | .Call (.Name x _) [.Name y _, .Name z _] [] _ => C.X.hot && okBlt C "isinstance" x && okVar C i y && (z == T) && (if T == ("ValueError" : Str) then okBlt C "ValueError" z else okGlob C z && C.X.xs.contains T)
    | _ => false
  | .xfld i c f, e => match e with
    | .Attribute (.Name y _) g _ => C.X.hot && (f == g) && okVar C i y && C.X.xf.contains (c, f)
    | _ => false
  | .gin x kv a, e => match e with
    | .Compare l [.In] [.Name y _] _ => (y == x) && okGlob C y && C.X.kd.contains (x, kv) && chkE C a l
    | _ => false
  | .gidx x kv a, e => match e with
    | .Subscript (.Name y _) z _ => (y == x) && okGlob C y && C.X.kd.contains (x, kv) && plainE z && chkE C a z
    | _ => false
  | .blt (.isi T) es, e => match e with
    | .Call (.Name x _) [y, .Name z _] [] _ => okBlt C "isinstance" x && okBlt C (Str.ofString T) z && (bootBuiltins z == some (.type T)) && (match es with
      | .cons e .nil => plainE y && chkE C e y
      | _ => false)
    | _ => false
  | .blt b es, e => match e with
    | .Call (.Name x _) (y :: ys) [] _ => okBltH C b x && chkEs C es (y :: ys)
    | _ => false
  | .mth m o es, e => match e with
    | .Call (.Attribute x n ap) ys [] p => (n == mtN m) && notCallName x && (ap.endLine == p.line) && (ys.length == mtA m) && chkE C o x && chkEs C es ys
    | _ => false
  | .comp _ elt t it ifs own, e => match e with
    | .ListComp x [⟨tg, iter, fs, 0⟩] scope _ => (!C.X.hot && blkC C.N C.sc scope (own.filterMap fun i => (C.N[i]?).map fun n => (n, i))) && (own.all fun i => decide (i < C.N.length)) && (tgIdx t).all (fun i => own.contains i) && plainE iter && okTg (C.blk scope) t tg && chkI C it iter && chkE (C.blk scope) elt x && chkF (C.blk scope) ifs fs
    | _ => false
  | .dnew, e => match e with
    | .Dict [] [] _ => true
    | _ => false
  | .dnewT, e => match e with
    | .Dict [] [] _ => true
    | _ => false
  | .dget o k x, e => match e with
    | .Call (.Attribute y n ap) [a, b] [] p => (n == "get") && notCallName y && (ap.endLine == p.line) && plainE a && plainE b && chkE C o y && chkE C k a && chkE C x b
    | _ => false
  | .dlit ks es, e => match e with
    | .Dict keys vs _ => !ks.isEmpty && decide (ks.length ≤ 15) && chkDs C ks es keys vs
    | _ => false
  | .fld c a f, e => match e with
    | .Attribute x g _ => (f == g) && C.FL.contains (c, f) && notCallName x && chkE C a x
    | _ => false
  | .make _ n c es, e => match e with
    | .Call (.Name x _) ys [] _ => okGlob C x && C.MK.contains (x, n, c) && chkEs C es ys
    | _ => false
  | .rev _ a, e => match e with
    | .Subscript x (.Slice none none (some (.UnaryOp .USub (.Constant (.int 1) _ _) _)) _) _ => chkE C a x
    | _ => false
  | .meth c m n o es, e => match e with
    | .Call (.Attribute x g ap) ys [] p => (g == m) && notCallName x && (ap.endLine == p.line) && decide (ys.length < 30) && C.MT.contains (c, m, n) && chkE C o x && chkEs C es ys
    | _ => false
  | .callK f j es ks zs df, e => match e with
    | .Call (.Name x _) (y :: ys) kws _ => okGlob C x && (j == ys.length + 1) && C.KF.contains (x, f, j, ks, df) && chkEs C es (y :: ys) && chkKs C ks zs kws
    | _ => false
  | .makeK _ n c j es ks zs df, e => match e with
    | .Call (.Name x _) (y :: ys) kws _ => okGlob C x && (j == ys.length + 1) && C.KM.contains (x, (n, c), j, ks, df) && chkEs C es (y :: ys) && chkKs C ks zs kws
    | _ => false
  | .methK c m n o j es ks zs df, e => match e with
    | .Call (.Attribute x g ap) (y :: ys) kws p => (g == m) && notCallName x && (ap.endLine == p.line) && decide (ys.length + kws.length < 20) && (j == ys.length + 1) && C.KT.contains ((c, m), n, j, ks, df) && chkE C o x && chkEs C es (y :: ys) && chkKs C ks zs kws
    | _ => false
  | .calln i n js es, e => match e with
    | .Call (.Name x _) (y :: ys) [] _ => okVar C i x && C.NS.contains (n, js) && chkEs C es (y :: ys)
    | _ => false
  | .listRg _ a, e => match e with
    | .Call (.Name x _) [.Call (.Name y _) [z] [] _] [] _ => okBlt C "list" x && okBlt C "range" y && (plainE z && !C.X.hot) && chkE C a z
    | _ => false
def chkEs (C : Ctx) : CEs → List Expr → Bool
  | .nil, es => match es with
    | [] => true
    | _ => false
  | .cons c cs, es => match es with
    | e :: es => plainE e && chkE C c e && chkEs C cs es
    | _ => false
/-- keywords by name -/
def chkKs (C : Ctx) (ks : List Str) : CEs → List Keyword → Bool
  | .nil, kws => match ks, kws with
    | [], [] => true
    | _, _ => false
  | .cons z zs, kws => match ks, kws with
    | k :: ks, ⟨some k', e, _⟩ :: r => (k == k') && chkE C z e && chkKs C ks zs r
    | _, _ => false
/-- a display's pairs -/
def chkDs (C : Ctx) (ks : List Str) : CEs → List (Option Expr) → List Expr → Bool
  | .nil, keys, vs => match ks, keys, vs with
    | [], [], [] => true
    | _, _, _ => false
  | .cons z zs, keys, vs => match ks, keys, vs with
    | k :: ks, some (.Constant (.str t) _ _) :: keys, v :: vs => (k == t) && chkE C z v && chkDs C ks zs keys vs
    | _, _, _ => false
def chkO (C : Ctx) : CO → Option Expr → Bool
  | .none, e => match e with
    | none => true
    | _ => false
  | .some c, e => match e with
    | some e => chkE C c e
    | _ => false
def chkF (C : Ctx) : CO → List Expr → Bool
  | .none, e => match e with
    | [] => true
    | _ => false
  | .some c, e => match e with
    | [e] => chkE C c e
    | _ => false
def chkI (C : Ctx) : CI → Expr → Bool
  | .seq c, e => plainE e && chkE C c e
  | .chars c, e => plainE e && chkE C c e
  | .rng1 c, e => match e with
    | .Call (.Name x _) [a] [] _ => okBlt C "range" x && plainE a && chkE C c a
    | _ => false
  | .rng2 c d, e => match e with
    | .Call (.Name x _) [a, b] [] _ => okBlt C "range" x && plainE a && plainE b && chkE C c a && chkE C d b
    | _ => false
end
def okLoc (C : Ctx) (i : Nat) (x : Str) : Bool := (C.N[i]? == some x) && (C.sc.names.lookup x == some .local) && !C.X.hot
def parOk (vs : List Expr) : Bool := vs.all plainE && !(vs.all (foldedForSure 8)) && !(vs.all (constantsAlone 8))
def manyTuple : Expr → Bool
  | .Tuple es _ _ => decide (3 < es.length)
  | _ => true
/-- several fields -/
def chkTF (C : Ctx) : List (Str × Str) → CEs → List Expr → Bool
  | [], .nil, [] => true
  | (c, f) :: r, .cons o os, .Attribute a g _ :: es => (f == g) && C.FL.contains (c, f) && chkE C o a && chkTF C r os es
  | _, _, _ => false
/-- name = [..], stored by the comprehension's own end -/
def lcSwap (C : Ctx) (x : Str) (px : Pos) (e : Expr) : Bool := match e with
  | .ListComp _ _ scope pos => (C.sc.names.lookup x == some .local) && (px.line == pos.line) && !(scope.names.any fun (n, k) => n == x && (k == .local || k == .cell))
  | _ => false
mutual
def chkS (C : Ctx) : CS → Stmt → Bool
  | .setFld c o f v, s => match s with
    | .Assign [.Attribute a g _] e _ => (f == g) && C.FL.contains (c, f) && chkE C o a && chkE C v e
    | _ => false
  | .set i c, s => match s with
    | .Assign [.Name x px] e pos => okTgt C i x && chkE C c e && (notComp e || lcSwap C x px e || (C.sc.names.lookup x == some .cell))
    | _ => false
  | .setT is c, s => match s with
    | .Assign [tg] e _ => okTg C (.tp is) tg && chkE C c e && manyTuple e
    | _ => false
  | .setP is es, s => match s with
    | .Assign [.Tuple [.Name x px, .Name y py] _ _] (.Tuple [a, b] _ _) _ => (match is with
      | [i, j] => okLoc C i x && okLoc C j y && decide (i ≠ j) && !(x == y) && (py.line == px.line) && parOk [a, b] && chkEs C es [a, b]
      | _ => false)
    | .Assign [.Tuple [.Name x px, .Name y py, .Name z pz] _ _] (.Tuple [a, b, c] _ _) _ => (match is with
      | [i, j, k] => okLoc C i x && okLoc C j y && okLoc C k z && decide (i ≠ j) && decide (i ≠ k) && decide (j ≠ k) && !(x == y) && !(x == z) && !(y == z) && (py.line == px.line) && (pz.line == px.line) && parOk [a, b, c] && chkEs C es [a, b, c]
      | _ => false)
    | _ => false
  | .setTF cf os e, s => match s with
    | .Assign [.Tuple ts _ _] v _ => chkTF C cf os ts && chkE C e v && (notTuple v && !C.X.hot)
    | _ => false
  | .aug i e, s => match s with
    | .AugAssign (.Name x _) .Add v _ => okTgt C i x && chkE C e v
    | _ => false
  | .augF c o f e, s => match s with
    | .AugAssign (.Attribute a g _) .Add v _ => (f == g) && C.FL.contains (c, f) && chkE C o a && chkE C e v
    | _ => false
  | .setIx o i v, s => match s with
    | .Assign [.Subscript a b _] e _ => plainE b && chkE C o a && chkE C i b && chkE C v e
    | _ => false
  | .expr c, s => match s with
    | .Expr e _ => notComp e && chkE C c e
    | _ => false
  | .ret c, s => match s with
    | .Return (some e) _ => chkE C c e
    | _ => false
  | .retN, s => match s with
    | .Return none _ => true
    | _ => false
  | .pass, s => match s with
    | .Pass _ => true
    | _ => false
  | .never, _ => true
  | .raise c e, s => match s with
    | .Raise (some (.Call (.Name x _) [y] [] _)) none _ => !C.X.hot && (x == c) && okGlob C x && C.X.xr.contains c && plainE y && chkE C e y
    | _ => false
  | .raiseI c fs es, s => match s with
    | .Raise (some (.Call (.Name x _) (y :: ys) [] _)) none _ => !C.X.hot && (x == c) && okGlob C x && (C.X.xi.contains (c, fs) && decide (fs.length ≤ 100)) && chkEs C es (y :: ys)
    | _ => false
  | .brk, s => match s with
    | .Break _ => true
    | _ => false
  | .cont, s => match s with
    | .Continue _ => true
    | _ => false
  | .ifs c a b, s => match s with
    | .If e x y _ => chkE C c e && chkSs C a x && chkSs C b y
    | _ => false
  | .fors t it body, s => match s with
    | .For tg iter x [] _ => okTg C t tg && (plainE iter && !C.X.hot) && chkI C it iter && chkSs C body x
    | _ => false
  | .enums t c body, s => match s with
    | .For (.Tuple es k p2) (.Call (.Name x p) [a] [] pos) y [] _ => okTg C t (.Tuple es k p2) && plainE (.Call (.Name x p) [a] [] pos) && okBlt C "enumerate" x && (plainE a && !C.X.hot) && chkE C c a && chkSs C body y
    | _ => false
  | .whil c body, s => match s with
    | .While e x [] _ => chkE C c e && chkSs C body x
    | _ => false
def chkSs (C : Ctx) : CSs → List Stmt → Bool
  | .nil, s => match s with
    | [] => true
    | _ => false
  | .cons c cs, s => match s with
    | s :: ss => chkS C c s && chkSs C cs ss
    | _ => false
end
end DL
namespace DL
open PySem L2
abbrev Vals := L2.Vals
section
variable {X : Cx}
theorem peI {e : Expr} {t t' : TE} (h : PE X e t) (i : ∀ σ H Q, t' σ H Q → t σ H Q) : PE X e t' := ⟨fun pins s σ H Q I q => h.run pins s σ H Q I (i σ H Q q)⟩
theorem ptI {e : Expr} {t t' : TT} (h : PT X e t) (i : ∀ σ H Q, t' σ H Q → t σ H Q) : PT X e t' := ⟨fun pins s σ H Q I q => h.run pins s σ H Q I (i σ H Q q)⟩
theorem pwI {e : Expr} {t t' : TT} (h : PW X e t) (i : ∀ σ H Q, t' σ H Q → t σ H Q) : PW X e t' := ⟨fun wh pins s σ H Q I q => h.run wh pins s σ H Q I (i σ H Q q)⟩
theorem paI {e : List Expr} {t t' : TA} (h : PA X e t) (i : ∀ σ H Q, t' σ H Q → t σ H Q) : PA X e t' := ⟨fun pos pins s σ H Q I q => h.run pos pins s σ H Q I (i σ H Q q)⟩
theorem psI {e : Stmt} {t t' : TS} (h : PS X e t) (i : ∀ K σ H, t' K σ H → t K σ H) : PS X e t' := ⟨fun pins s σ H K I q => h.run pins s σ H K I (i K σ H q)⟩
theorem pssI {e : List Stmt} {t t' : TS} (h : PSs X e t) (i : ∀ K σ H, t' K σ H → t K σ H) : PSs X e t' := ⟨fun pins s σ H K I q => h.run pins s σ H K I (i K σ H q)⟩
theorem pgI {e : Expr} {t t' : TG} (h : PG X e t) (i : ∀ v σ H Q, t' v σ H Q → t v σ H Q) : PG X e t' := ⟨fun pins s σ H v u Q I r q => h.run pins s σ H v u Q I r (i v σ H Q q)⟩
theorem piI {tg e : Expr} {t t' : TI} (h : PI X tg e t) (i : ∀ σ H Q, t' σ H Q → t σ H Q) : PI X tg e t' := ⟨fun pins s σ H Q I q => h.run pins s σ H Q I (i σ H Q q)⟩
theorem poI {e : Option Expr} {t t' : TO} (h : PO X e t) (i : ∀ σ H Q, t' σ H Q → t σ H Q) : PO X e t' := ⟨fun pins s σ H Q I q => h.run pins s σ H Q I (i σ H Q q)⟩
end
def RelX (P : Pm) (w : Wd) (x : XD) (cls : Value) (dd : Option Addr) (H : Hp) : Prop :=
  cls = .ref (P.cls x.cls) ∧ ((x.fs = none ∧ dd = none) ∨ ∃ fs a us, x.fs = some fs ∧ dd = some a ∧ w.F a = some (.xd us) ∧ RelKs P w fs us)
def LkX (P : Pm) (w : Wd) (H : Hp) (Ed : EX) (E : XK) : Prop := ∀ w' M' H' x cls dd, Step w H w' H' → RepM P w' M' H' → RelX P w' x cls dd H' → Ed x M' → E cls dd H'
theorem LkX.on {P : Pm} {w w' : Wd} {H H' : Hp} {Ed : EX} {E : XK} (l : LkX P w H Ed E) (s : Step w H w' H') : LkX P w' H' Ed E := fun w2 M2 H2 x cls dd s2 R r q => l w2 M2 H2 x cls dd (s.trans s2) R r q
theorem Lk.on {P : Pm} {w w' : Wd} {H H' : Hp} {Qd : QE} {Q : VK} (l : Lk P w H Qd Q) (s : Step w H w' H') : Lk P w' H' Qd Q := fun w2 M2 H2 d v s2 R r q => l w2 M2 H2 d v (s.trans s2) R r q
def liE (P : Pm) (W : WX) (t : RE) : TE := fun σ H Q => ∃ w M sd Qd Ed, RepM P w M H ∧ RelSt P w sd σ ∧ Lk P w H Qd Q ∧ LkX P w H Ed (WE W σ) ∧ t Ed sd M Qd
def LkT (P : Pm) (w : Wd) (H : Hp) (Qd : Bool → Md → Prop) (Q : Bool → Hp → Prop) : Prop := ∀ w' M' H' b, Step w H w' H' → RepM P w' M' H' → Qd b M' → Q b H'
def liT (P : Pm) (W : WX) (t : RT) : TT := fun σ H Q => ∃ w M sd Qd Ed, RepM P w M H ∧ RelSt P w sd σ ∧ LkT P w H Qd Q ∧ LkX P w H Ed (WE W σ) ∧ t Ed sd M Qd
def LkA (P : Pm) (w : Wd) (H : Hp) (Qd : List D → Md → Prop) (Q : List V → Hp → Prop) : Prop := ∀ w' M' H' ds vs, Step w H w' H' → RepM P w' M' H' → RelDs P w' ds vs → Qd ds M' → Q vs H'
def liA (P : Pm) (W : WX) (t : RA) : TA := fun σ H Q => ∃ w M sd Qd Ed, RepM P w M H ∧ RelSt P w sd σ ∧ LkA P w H Qd Q ∧ LkX P w H Ed (WE W σ) ∧ t Ed sd M Qd
def LkO (P : Pm) (w : Wd) (H : Hp) (Qd : Option Int → Md → Prop) (Q : Option Int → Hp → Prop) : Prop := ∀ w' M' H' o, Step w H w' H' → RepM P w' M' H' → Qd o M' → Q o H'
def liO (P : Pm) (W : WX) (t : RO) : TO := fun σ H Q => ∃ w M sd Qd Ed, RepM P w M H ∧ RelSt P w sd σ ∧ LkO P w H Qd Q ∧ LkX P w H Ed (WE W σ) ∧ t Ed sd M Qd
def LkSt (P : Pm) (w : Wd) (H : Hp) (Qd : Std → Md → Prop) (Q : L2.St → Hp → Prop) : Prop := ∀ w' M' H' sd σ, Step w H w' H' → RepM P w' M' H' → RelSt P w' sd σ → Qd sd M' → Q σ H'
theorem LkSt.on {P : Pm} {w w' : Wd} {H H' : Hp} {Qd : Std → Md → Prop} {Q : L2.St → Hp → Prop} (l : LkSt P w H Qd Q) (s : Step w H w' H') : LkSt P w' H' Qd Q := fun w2 M2 H2 sd σ s2 R r q => l w2 M2 H2 sd σ (s.trans s2) R r q
def LkXS (P : Pm) (w : Wd) (H : Hp) (Ed : EXS) (W : WX) : Prop := ∀ w' M' H' sd σ x cls dd, Step w H w' H' → RepM P w' M' H' → RelSt P w' sd σ → RelX P w' x cls dd H' → Ed x sd M' → W cls dd σ H'
theorem LkXS.on {P : Pm} {w w' : Wd} {H H' : Hp} {Ed : EXS} {W : WX} (l : LkXS P w H Ed W) (s : Step w H w' H') : LkXS P w' H' Ed W := fun w2 M2 H2 sd σ x cls dd s2 R rs r q => l w2 M2 H2 sd σ x cls dd (s.trans s2) R rs r q
theorem LkXS.at {P : Pm} {w : Wd} {H : Hp} {Ed : EXS} {W : WX} (l : LkXS P w H Ed W) {sd : Std} {σ : L2.St} (rs : RelSt P w sd σ) : LkX P w H (fun x => Ed x sd) (WE W σ) := fun w2 M2 H2 x cls dd s2 R r q => l w2 M2 H2 sd σ x cls dd s2 R (rs.mono s2.le) r q
structure LkK (P : Pm) (w : Wd) (H : Hp) (Kd : EndsD) (K : Ends) : Prop where
  nx : LkSt P w H Kd.nx K.nx
  rt : Lk P w H Kd.rt K.rt
  bk : LkSt P w H Kd.bk K.bk
  ct : LkSt P w H Kd.ct K.ct
theorem LkK.on {P : Pm} {w w' : Wd} {H H' : Hp} {Kd : EndsD} {K : Ends} (l : LkK P w H Kd K) (s : Step w H w' H') : LkK P w' H' Kd K := ⟨l.nx.on s, l.rt.on s, l.bk.on s, l.ct.on s⟩
def liS (P : Pm) (W : WX) (t : RS) : TS := fun K σ H => ∃ w M sd Kd Ed, RepM P w M H ∧ RelSt P w sd σ ∧ LkK P w H Kd K ∧ LkXS P w H Ed W ∧ t Ed Kd sd M
def liG (P : Pm) (t : D → Std → Md → (Std → Md → Prop) → Prop) : TG := fun v σ H Q => ∃ w M sd d Qd, RepM P w M H ∧ RelSt P w sd σ ∧ RelD P w d v ∧ LkSt P w H Qd Q ∧ t d sd M Qd
/-- what is walked below: a list or a tuple, or a range -/
inductive ItOk (P : Pm) (K : PySem.W.Frag) (w : Wd) (H : Hp) (ds : List D) (lk : Option Nat) : It → Prop
  | lst {a : Addr} : (∀ w' M' H', Step w H w' H' → RepM P w' M' H' → lkOk lk ds M' → ∃ vs, SqL K H' a vs ∧ RelDs P w' ds vs) → ItOk P K w H ds lk (Itl K a)
  | tup {a : Addr} : (∀ w' M' H', Step w H w' H' → RepM P w' M' H' → lkOk lk ds M' → ∃ vs, SqT K H' a vs ∧ RelDs P w' ds vs) → ItOk P K w H ds lk (Itt K a)
  | chr {s : Str} : ds = charsD s → ItOk P K w H ds lk (Its s)
  | enm {a : Addr} {es : List D} : (∀ w' M' H', Step w H w' H' → RepM P w' M' H' → ∃ vs, SqT K H' a vs ∧ RelDs P w' es vs) → ds = enumD es → ItOk P K w H ds lk (IteT K a)
  | rng {i j : Int} : ds = rngD i j → ItOk P K w H ds lk (Itr i (j - i).toNat)
def LkI (P : Pm) (K : PySem.W.Frag) (w : Wd) (H : Hp) (Qd : List D → Option Nat → Md → Prop) (Q : It → Hp → Prop) : Prop := ∀ w' M' H' ds lk J, Step w H w' H' → RepM P w' M' H' → ItOk P K w' H' ds lk J → Qd ds lk M' → Q J H'
def liI (P : Pm) (K : PySem.W.Frag) (W : WX) (t : RI) : TI := fun σ H Q => ∃ w M sd Qd Ed, RepM P w M H ∧ RelSt P w sd σ ∧ LkI P K w H Qd Q ∧ LkX P w H Ed (WE W σ) ∧ t Ed sd M Qd
/-- a def's promise below -/
def liSp (P : Pm) (s : SpD) : Sp := fun vs H Q E => ∃ w M ds Qd Ed, RepM P w M H ∧ RelDs P w ds vs ∧ Lk P w H Qd Q ∧ LkX P w H Ed E ∧ s ds M Qd Ed
/-- what an own exception class says to isinstance, to its fields' readers -/
structure ExcN (K : PySem.W.Frag) (C : Addr) : Prop where
  cl : (PySem.W.clsIn K C).isSome = true
  ga : PySem.W.findIn K (.ref C) "__getattribute__" = some (some (.builtin "BaseException.__getattribute__"))
  gt : PySem.W.findIn K (.ref C) "__getattr__" = some none
  sb : PySem.W.subIn K (.ref C) (.type "BaseException") = some true
  ca : PySem.W.findIn K (.ref C) "__class__" = some (some (.builtin "object.__class__"))
  gs : PySem.W.specialIn K (.builtin "object.__class__") "__get__" = some (some (.builtin "getset_descriptor.__get__"))
  tk : PySem.W.takesIn K (.builtin "object.__class__") = some true
  mr : PySem.W.mroIn K C (.type "object") = some true
  hd : PySem.W.hasDictIn K C = true
/-- what it says to raise, no __init__ of its own -/
structure RaisN (K : PySem.W.Frag) (C : Addr) : Prop where
  ex : PySem.W.excIn K C He.veBase "ValueError.__new__" = true
  kp : PySem.W.keepIn K (.ref C) = true
  sb : PySem.W.subIn K (.ref C) (.type "BaseException") = some true
  ty : PySem.W.typeIn K (.ref C) = some (.type "type")
/-- an __init__ that stores its arguments as fields, one behind another -/
def initSp (C : Addr) (fs : List Str) : L2.Sp := fun vs H Q _ => ∃ a ws, vs = .ref a :: ws ∧ ws.length = fs.length ∧ H a = some (exo a C none) ∧
  ∀ d H', H d = none → d ≠ a → H' a = some (exo a C (some d)) → H' d = some (exd d (fs.zip ws).reverse) → (∀ b, b ≠ a → b ≠ d → H' b = H b) → Q .non H'
/-- what a dict of the module holds: texts by texts -/
def TabV (K : PySem.W.Frag) (a : Addr) (kv : List (Str × Str)) : Prop := ∀ z, match kv.lookup z with
  | some t => ∃ u, PySem.W.nsIn K a z = some (some u) ∧ RelV (.str t) u
  | none => PySem.W.nsIn K a z = some none
structure EnvOk (X : Cx) (P : Pm) (C : Ctx) (Φ : Nat → SpD) (κ : Nat → D) : Prop where
  K : P.K = X.K
  pg : P.pg = X.prog
  wl : P.wl = X.w
  calm : C.X.hot = false → X.calm = true
  N : X.N = C.N
  nd : C.N.Nodup
  sc : X.env.scope = C.sc
  fn : ∀ x, C.fn x = true → X.fn x = true
  hu : X.A.units + 65 < cLine
  fun_ : ∀ x f, C.G.lookup x = some (.fn f) → ∃ k a fd ps, X.mg x = some (.ref a) ∧ PySem.W.keepIn X.K (.ref a) = true ∧ FnOk X.prog X.w X.K X.mg X.base (L2.CX X.prog X.w) k a fd ps (liSp P (Φ f)) ∧ Room k X.A ∧ Binds X.K fd ps []
  cst : ∀ x g, C.G.lookup x = some (.cst g) → ∃ u v, X.mg x = some u ∧ RelV v u ∧ ∀ w, RelD P w (κ g) v
  blt : ∀ x ∈ C.B, X.mg x = none
  fl : ∀ q ∈ C.FL, Cls X.K (P.cls q.1) ∧ NoAttr X.K (P.cls q.1) q.2
  mkr : ∀ q ∈ C.MK, ∃ k f fd ps, X.mg q.1 = some (.ref (P.cls q.2.2)) ∧ Mk X.K (P.cls q.2.2) f ∧ FnOk X.prog X.w X.K X.mg X.base (L2.CX X.prog X.w) k f fd ps (liSp P (Φ q.2.1)) ∧ Room (k + 1) X.A ∧ Binds X.K fd ps []
  mt : ∀ q ∈ C.MT, ∃ k f fd ps, Cls X.K (P.cls q.1) ∧ Meth X.K (P.cls q.1) q.2.1 f ∧ FnOk X.prog X.w X.K X.mg X.base (L2.CX X.prog X.w) k f fd ps (liSp P (Φ q.2.2)) ∧ Room k X.A ∧ Binds X.K fd ps []
  kf : ∀ q ∈ C.KF, ∃ k a fd ps g, X.mg q.1 = some (.ref a) ∧ PySem.W.keepIn X.K (.ref a) = true ∧ FnOk X.prog X.w X.K X.mg X.base (L2.CX X.prog X.w) k a fd ps (liSp P (Φ q.2.1)) ∧ Room k X.A ∧ KBn X.K fd ps q.2.2.1 q.2.2.2.1 g (fun vs zs => vs ++ (zs ++ q.2.2.2.2.map Sc.v))
  km : ∀ q ∈ C.KM, ∃ k f fd ps g, X.mg q.1 = some (.ref (P.cls q.2.1.2)) ∧ Mk X.K (P.cls q.2.1.2) f ∧ FnOk X.prog X.w X.K X.mg X.base (L2.CX X.prog X.w) k f fd ps (liSp P (Φ q.2.1.1)) ∧ Room (k + 1) X.A ∧ KBn X.K fd ps (q.2.2.1 + 1) q.2.2.2.1 g (fun vs zs => vs ++ (zs ++ q.2.2.2.2.map Sc.v))
  kt : ∀ q ∈ C.KT, ∃ k f fd ps g, Cls X.K (P.cls q.1.1) ∧ Meth X.K (P.cls q.1.1) q.1.2 f ∧ FnOk X.prog X.w X.K X.mg X.base (L2.CX X.prog X.w) k f fd ps (liSp P (Φ q.2.1)) ∧ Room k X.A ∧ KBn X.K fd ps (q.2.2.1 + 1) q.2.2.2.1 g (fun vs zs => vs ++ (zs ++ q.2.2.2.2.map Sc.v))
  xs : ∀ T ∈ C.X.xs, X.mg T = some (.ref (P.cls T)) ∧ ExcN X.K (P.cls T) ∧ PySem.W.kitOne X.K (.ref (P.cls T)) (.type "ValueError") = some true ∧ ∀ c ∈ C.X.xs, PySem.W.kitOne X.K (.ref (P.cls c)) (.ref (P.cls T)) = some (xsub c T) ∧ PySem.W.exmOne X.K (.ref (P.cls c)) (.ref (P.cls T)) = some (xsub c T)
  xr : ∀ c ∈ C.X.xr, X.mg c = some (.ref (P.cls c)) ∧ RaisN X.K (P.cls c)
  xi : ∀ q ∈ C.X.xi, X.mg q.1 = some (.ref (P.cls q.1)) ∧ OexC X.K (P.cls q.1) ∧ ∃ k f fd, PySem.W.findIn X.K (.ref (P.cls q.1)) "__init__" = some (some (.ref f)) ∧ PySem.W.typeIn X.K (.ref f) = some (.type "function") ∧ FnOk X.prog X.w X.K X.mg X.base (L2.CX X.prog X.w) k f fd ("self" :: q.2) (initSp (P.cls q.1) q.2) ∧ Room (k + 1) X.A ∧ Binds X.K fd ("self" :: q.2) []
  xf : ∀ q ∈ C.X.xf, q.1 ∈ C.X.xs ∧ PySem.W.findIn X.K (.ref (P.cls q.1)) q.2 = some none
  kd : ∀ q ∈ C.X.kd, ∃ a es n, X.mg q.1 = some (.ref a) ∧ KDict X.K X.w a es n ∧ TabV X.K a q.2
  hx : C.X.hot = true → ∃ a od c ns ds oe, κ 0 = .exc a od c ns ds ∧ c ∈ C.X.xs ∧ (a, oe) ∈ X.pn ∧ Zc (.ref (P.cls c)) od oe ∧ ∃ vs, oe.data = .fields vs
  nst : ∀ n ∈ C.NS, ∀ (cvs : List V) (E : XK) (pins : List (Addr × Obj)) (σ : L2.St) (H : Hp) (s : Shared) (us : List Value) (vs : List V) (p : Addr) (Q : VK), PassesAt (L2.CX X.prog X.w) X σ E → Inv X pins σ H s → L2.Vals vs us → n.2.map (NdefX.slotAt σ) = cvs.map some → liSp P (Φ n.1) (.ref p :: (cvs ++ vs)) H Q E → wpAny (model X.prog X.w) X.A (call (.ref p) us) (EP X pins σ Q) X.xe s
section
variable {X : Cx} {P : Pm} {C : Ctx} {Φ : Nat → SpD} {κ : Nat → D} {W : WX}
/-- an expression's value as a test -/
theorem pt_of {e : Expr} {t : RE} (O : EnvOk X P C Φ κ) (h : PE X e (liE P W t)) (he : ∀ whole, isTrue e X.env whole = (do let v ← whole; standAt e.pos; holding [v] (truthy v))) : PT X e (liT P W (valT t).2) := by
  refine ptI (pt_truth h he) fun σ H Q q => ?_
  obtain ⟨w, M, sd, Qd, Ed, R, rs, l, lx, q⟩ := q
  refine ⟨w, M, sd, _, Ed, R, rs, fun w' M' H' d v s R' r q => ?_, lx, q⟩
  obtain ⟨k, h1, h2⟩ := truD_at R' r q
  exact ⟨k, O.K ▸ h1, l w' M' H' k s R' h2⟩
theorem liE_bind {a : RE} {f : D → Md → QE → Prop} {r : V → Hp → VK → Prop} (hf : ∀ {w M H d v Qd Q}, RepM P w M H → RelD P w d v → Lk P w H Qd Q → f d M Qd → r v H Q) :
    ∀ σ H Q, liE P W (fun E σ M Q => a E σ M fun d M1 => f d M1 Q) σ H Q → liE P W a σ H fun x H1 => r x H1 Q := fun σ H Q q => by
  obtain ⟨w, M, sd, Qd, Ed, R, rs, l, lx, q⟩ := q
  exact ⟨w, M, sd, _, Ed, R, rs, fun w' M' H' d v s R' r q => hf R' r (l.on s) q, lx, q⟩
/-- two expressions, then an operation -/
theorem liE_op {a b : RE} {o : O2} : ∀ σ H Q, liE P W (fun E σ M Q => a E σ M fun x M1 => b E σ M1 fun y M2 => o x y M2 Q) σ H Q → tOp (liO2 P o) (liE P W a) (liE P W b) σ H Q := fun σ H Q q => by
  obtain ⟨w, M, sd, Qd, Ed, R, rs, l, lx, q⟩ := q
  refine ⟨w, M, sd, _, Ed, R, rs, fun w1 M1 H1 d v s R1 r q => ?_, lx, q⟩
  refine ⟨w1, M1, sd, _, Ed, R1, rs.mono s.le, fun w2 M2 H2 d2 v2 s2 R2 r2 q => ?_, lx.on s, q⟩
  exact ⟨w2, M2, d, d2, Qd, R2, r.mono s2.le, r2, (l.on s).on s2, q⟩
theorem liT_op {a b : RE} {c : Cp} : ∀ σ H Q, liT P W (fun E σ M Q => a E σ M fun x M1 => b E σ M1 fun y M2 => cpD c x y M2 fun k => Q k M2) σ H Q → tTest (tOp (liO2 P (cpR c)) (liE P W a) (liE P W b)) σ H Q := fun σ H Q q => by
  obtain ⟨w, M, sd, Qd, Ed, R, rs, l, lx, q⟩ := q
  refine ⟨w, M, sd, _, Ed, R, rs, fun w1 M1 H1 d v s R1 r q => ?_, lx, q⟩
  refine ⟨w1, M1, sd, _, Ed, R1, rs.mono s.le, fun w2 M2 H2 d2 v2 s2 R2 r2 q => ?_, lx.on s, q⟩
  refine ⟨w2, M2, d, d2, fun x M => ∃ k, x = .bl k ∧ Qd k M, R2, r.mono s2.le, r2, fun w3 M3 H3 d3 v3 s3 R3 r3 q => ?_, ?_⟩
  · obtain ⟨k, e, q⟩ := q
    subst e
    have r3 : v3 = .bl k := r3
    exact ⟨k, r3, l w3 M3 H3 k ((s.trans s2).trans s3) R3 q⟩
  · show cpD c d d2 M2 fun b => ∃ k, D.bl b = .bl k ∧ Qd k M2
    have e : (fun b => ∃ k, D.bl b = .bl k ∧ Qd k M2) = fun k => Qd k M2 := by
      funext b
      refine propext ⟨fun ⟨k, e, q⟩ => ?_, fun q => ⟨b, rfl, q⟩⟩
      cases e
      exact q
    rw [e]; exact q
theorem vis_of {i : Nat} {x : Str} (O : EnvOk X P C Φ κ) (h : okVar C i x = true) : X.N[i]? = some x ∧ Vis X.env.scope x ∧ (x == ("__debug__" : Str)) = false ∧ (x == ("__classdict__" : Str)) = false := by
  unfold okVar nodbg at h
  simp only [Bool.and_eq_true, Bool.not_eq_true', beq_iff_eq] at h
  obtain ⟨⟨h1, h2, h3⟩, h4⟩ := h
  refine ⟨by rw [O.N]; exact h1, ?_, h2, h3⟩
  unfold Vis
  rw [O.sc]
  split at h4
  · rename_i e; exact .inl e
  · rename_i e; exact .inr (.inl e)
  · rename_i e; exact .inr (.inr e)
  · cases h4
theorem glob_of {x : Str} (O : EnvOk X P C Φ κ) (h : okGlob C x = true) : Gl X x ∧ (x == ("__debug__" : Str)) = false := by
  unfold okGlob nodbg at h
  simp only [Bool.and_eq_true, Bool.not_eq_true', beq_iff_eq] at h
  refine ⟨?_, h.1.1⟩
  show X.env.scope.names.lookup x = _
  rw [O.sc]
  exact h.2
theorem blt_of {n x : Str} (O : EnvOk X P C Φ κ) (h : okBlt C n x = true) : x = n ∧ Gl X x ∧ (x == ("__debug__" : Str)) = false ∧ X.mg x = none ∧ x ≠ "__name__" := by
  unfold okBlt at h
  simp only [Bool.and_eq_true, beq_iff_eq, Bool.not_eq_true'] at h
  obtain ⟨⟨⟨h1, h2⟩, h3⟩, h4⟩ := h
  obtain ⟨g1, g2⟩ := glob_of O h2
  exact ⟨h1, g1, g2, O.blt x (List.elem_iff.mp h3), fun z => by rw [beq_eq_false_iff_ne] at h4; exact h4 z⟩
theorem star_of {e : Expr} {es : List Expr} {env : Env} (h : plainE e = true) : starEach (e :: es) env = (false, eval e env) :: starEach es env := by
  cases e <;> first | rfl | (exfalso; simp [plainE] at h; done)
theorem mark_of {e : Expr} {op : CmpOp} (h : plainE e = true) : behindInMarks op e = false := by
  cases e <;> first | rfl | (exfalso; simp [plainE] at h; done)
theorem plain_ix {e : Expr} (h : plainE e = true) : PlainIx e := by
  cases e <;> first | (intro o i; rfl) | (exfalso; simp [plainE] at h; done)
theorem swaps_of {e : Expr} {t : Option Expr} {l : Nat} {env : Env} (h : notComp e = true) : swapsWith e t l env = pure false := by
  cases e <;> first | rfl | (exfalso; simp [notComp] at h; done)
theorem base_of {e : Expr} {n : Str} {env : Env} (h : notCallName e = true) : attributeBase e n env (eval e env) = eval e env := by
  cases e with
  | Call f args kws pos =>
    cases f <;> first
      | rfl
      | (cases args <;> first
          | (cases kws <;> first
              | (exfalso; simp [notCallName] at h; done)
              | rfl)
          | rfl)
  | _ => rfl
theorem folded_of {e : Expr} {env : Env} (h : plainE e = true) : ∀ x, foldedSetIterable e env x = pure x := by
  intro x
  cases e <;> first | rfl | (exfalso; simp [plainE] at h; done)
theorem tgt_of {i : Nat} {x : Str} (O : EnvOk X P C Φ κ) (h : okTgt C i x = true) : X.N[i]? = some x ∧ L2.Loc X.env.scope x ∧ (X.fn x = true ∨ X.env.scope.names.lookup x = some .local) := by
  unfold okTgt at h
  simp only [Bool.and_eq_true, beq_iff_eq] at h
  obtain ⟨h1, h2⟩ := h
  refine ⟨by rw [O.N]; exact h1, ?_⟩
  unfold L2.Loc
  rw [O.sc]
  split at h2
  · rename_i e; exact ⟨.inl e, .inr e⟩
  · rename_i e; exact ⟨.inr e, .inl (O.fn x h2)⟩
  · cases h2
theorem relSt_set {w : Wd} {sd : Std} {σ : L2.St} {d : D} {v : V} (r : RelSt P w sd σ) (i : Nat) (h : RelD P w d v) : RelSt P w (sd.set i (some d)) (σ.set i (some v)) := by
  refine ⟨by simp [r.1], fun j e he => ?_⟩
  by_cases hj : j = i
  · subst hj
    by_cases hl : j < sd.length
    · rw [List.getElem?_set_self hl] at he
      cases he
      exact ⟨v, List.getElem?_set_self (by rw [← r.1]; exact hl), h⟩
    · rw [List.getElem?_eq_none (by simpa using hl)] at he
      cases he
  · rw [List.getElem?_set_ne (Ne.symm hj)] at he ⊢
    exact r.2 j e he
theorem pg_nm {i : Nat} {x : Str} {pos : Pos} (O : EnvOk X P C Φ κ) (h : okTgt C i x = true) : PG X (.Name x pos) (liG P (asgT (.nm i))) := by
  obtain ⟨h1, h2, h3⟩ := tgt_of O h
  refine pgI (pg_name (by rw [O.N]; exact O.nd) h1 h2 h3) fun v σ H Q q => ?_
  obtain ⟨w, M, sd, d, Qd, R, rs, r, l, q⟩ := q
  exact l w M H _ _ (.refl _ _) R (relSt_set rs i r) q
theorem assignEach_cons {x : Str} {p : Pos} {es : List Expr} {env : Env} : assignEach (.Name x p :: es) env = (false, assign (.Name x p) env) :: assignEach es env := rfl
/-- several names, one after another -/
theorem pgs_of (O : EnvOk X P C Φ κ) : ∀ {is : List Nat} {es : List Expr}, okTg.go C is es = true → ∃ t, PGs X es t ∧ (assignEach es X.env).length = is.length ∧ (assignEach es X.env).findIdx? (·.1) = none ∧
    ∀ {w M H sd σ ds vs} {Qd : Std → Md → Prop} {Q : L2.St → Hp → Prop}, RepM P w M H → RelSt P w sd σ → RelDs P w ds vs → ds.length = is.length → LkSt P w H Qd Q → Qd (setAll sd is ds) M → t vs σ H Q
  | [], [], _ => ⟨_, pgs_nil, rfl, rfl, fun {w M H sd σ ds vs Qd Q} R rs r hl l q => by
    have e : ds = [] := List.length_eq_zero_iff.mp hl
    subst e
    have r : vs = [] := r
    exact ⟨r, l w M H sd σ (.refl _ _) R rs (show Qd sd M from q)⟩⟩
  | [], _ :: _, h => by simp [okTg.go] at h
  | _ :: _, [], h => by simp [okTg.go] at h
  | i :: is, e :: es, h => by
    cases e with
    | Name x pos =>
      have h : (okTgt C i x && okTg.go C is es) = true := h
      rw [Bool.and_eq_true] at h
      obtain ⟨t, h1, h2, h3, h4⟩ := pgs_of O h.2
      refine ⟨_, pgs_cons (pg_nm O h.1) h1, by rw [assignEach_cons, List.length_cons, List.length_cons, h2], by rw [assignEach_cons, List.findIdx?_cons, h3]; rfl, fun {w M H sd σ ds vs Qd Q} R rs r hl l q => ?_⟩
      cases ds with
      | nil => cases hl
      | cons d ds =>
        obtain ⟨v, us, e, r1, r2⟩ := r
        refine ⟨v, us, e, w, M, sd, d, fun sd' M' => sd' = sd.set i (some d) ∧ M' = M, R, rs, r1, fun w' M' H' sd' σ' s' R' rs' q' => ?_, rfl, rfl⟩
        obtain ⟨q1, q2⟩ := q'
        subst q1; subst q2
        exact h4 R' rs' (r2.mono s'.le) (by simpa using hl) (l.on s') q
    | _ => exact absurd h (by simp [okTg.go])
theorem pg_of {t : Tg} {e : Expr} (O : EnvOk X P C Φ κ) (h : okTg C t e = true) : PG X e (liG P (asgT t)) := by
  cases t with
  | nm i =>
    cases e with
    | Name x pos => exact pg_nm O h
    | _ => exact absurd h (by simp [okTg])
  | tp is =>
    cases e with
    | Tuple es k pos =>
      have h : (!C.X.hot && okTg.go C is es) = true := h
      rw [Bool.and_eq_true, Bool.not_eq_true'] at h
      obtain ⟨t, h1, h2, h3, h4⟩ := pgs_of O h.2
      refine pgI (pg_tup (O.calm h.1) h1 h2 h3) fun v σ H Q q => ?_
      obtain ⟨w, M, sd, d, Qd, R, rs, r, l, q⟩ := q
      cases d with
      | tup ds =>
        obtain ⟨p, vs, e, hp, hs⟩ := r
        exact ⟨p, vs, e, O.K ▸ sqT_mono R.sub hp, by rw [hs.length]; exact q.1, h4 R rs hs q.1 l q.2⟩
      | _ => exact q.elim
    | _ => exact absurd h (by simp [okTg])
end
end DL
namespace DL
open PySem L2
section
variable {P : Pm} {w : Wd} {M : Md} {H : Hp} {p : Addr}
/-- an object that stands and is not tracked here becomes settled -/
theorem RepM.adoptF (R : RepM P w M H) {o : HO} (h : H p = some o) (hnt : ∀ ps, o ≠ .tbl ps) (hF : w.F p = none) (hr : p ∉ w.r) : RepM P { w with F := upd w.F p o } M H ∧ Le w { w with F := upd w.F p o } := by
  have le : Le w { w with F := upd w.F p o } := ⟨fun a u e => by show upd w.F p o a = _; rw [upd_ne (fun z => by rw [z, hF] at e; cases e)]; exact e, fun _ _ e => e⟩
  refine ⟨⟨fun a u e => ?_, R.len, R.nd, R.inH, fun k m q hm hq => ?_, R.tab.on (fun _ _ h1 h2 => ⟨h1, h2⟩) (fun a ps h1 h2 h3 => ⟨h1, ?_, h3⟩) (fun a ps z => ?_) R.tab.nc⟩, le⟩
  · have e' : upd w.F p o a = some u := e
    by_cases ha : a = p
    · subst ha; rw [upd_same] at e'; rw [← e']; exact h
    · rw [upd_ne ha] at e'; exact R.sub _ _ e'
  · have nq : q ≠ p := fun z => hr (z ▸ List.mem_of_getElem? hq)
    exact (R.cell k m q hm hq).mono le (fun z => by show upd w.F p o q = none; rw [upd_ne nq]; exact z) rfl fun _ _ h1 h2 => ⟨h1, h2⟩
  · show upd w.F p o a = none
    rw [upd_ne (fun z => by rw [z, h] at h3; exact hnt ps (Option.some.inj h3))]; exact h2
  · have z : upd w.F p o a = some (.tbl ps) := z
    by_cases ha : a = p
    · subst ha; rw [upd_same] at z; exact absurd (Option.some.inj z) (hnt ps)
    · rw [upd_ne ha] at z; exact z
theorem RepM.adoptC (R : RepM P w M H) {vs : List V} {ds : List D} (h : H p = some (.lst vs)) (hF : w.F p = none) (hr : p ∉ w.r) (hs : RelDs P w ds vs) : RepM P { w with r := w.r ++ [p] } (M ++ [.lst ds]) H ∧ Le w { w with r := w.r ++ [p] } := by
  have le : Le w { w with r := w.r ++ [p] } := ⟨fun _ _ e => e, fun k q e => by
    show (w.r ++ [p])[k]? = some q
    rw [List.getElem?_append_left (List.getElem?_eq_some_iff.mp e).1]; exact e⟩
  have hC : KpC w H { w with r := w.r ++ [p] } H := fun b q h1 h2 => ⟨fun z => by
    rcases List.mem_append.mp z with z | z
    · exact h1 z
    · simp at z; rw [z, h] at h2; exact codeO_lst (Option.some.inj h2).symm, h2⟩
  refine ⟨⟨R.sub, by simp [R.len], ?_, fun q hq => ?_, fun k m' q hm hq => ?_, R.tab.on hC (fun a ps h1 h2 h3 => ⟨fun z => ?_, h2, h3⟩) (fun a ps z => z) fun b hb o' e => ?_⟩, le⟩
  · exact List.nodup_append.mpr ⟨R.nd, by simp, fun a ha b hb => by simp at hb; subst hb; exact fun z => hr (z ▸ ha)⟩
  · rcases List.mem_append.mp hq with z | z
    · exact R.inH q z
    · simp at z; rw [z, h]; simp
  · by_cases hk : k < M.length
    · rw [List.getElem?_append_left hk] at hm
      have hq2 : w.r[k]? = some q := by
        have : (w.r ++ [p])[k]? = some q := hq
        rwa [List.getElem?_append_left (by rw [← R.len]; exact hk)] at this
      exact (R.cell k m' q hm hq2).mono le (fun z => z) rfl hC
    · have hk2 : k = M.length := by
        have := (List.getElem?_eq_some_iff.mp hm).1
        simp at this; omega
      subst hk2
      have e1 : m' = .lst ds := by simpa using hm.symm
      have e2 : q = p := by
        have : (w.r ++ [p])[M.length]? = some q := hq
        rw [R.len] at this
        simpa using this.symm
      subst e1; subst e2
      exact ⟨hF, vs, h, hs.mono le⟩
  · rcases List.mem_append.mp z with z | z
    · exact h1 z
    · simp at z; rw [z, h] at h3; cases h3
  · rcases List.mem_append.mp hb with z | z
    · exact R.tab.nc b z o' e
    · simp at z; rw [z, h] at e; cases e; exact .lst
end
theorem nlt {vs : List V} (ps : Array Value) : HO.lst vs ≠ .tbl ps := fun z => by cases z
theorem wipe_at {σ : L2.St} {j : Nat} : ∀ vs : List Nat, (wipe σ vs)[j]? = if j ∈ vs then (if j < σ.length then some none else none) else σ[j]?
  | [] => by simp [wipe]
  | v :: vs => by
    have ih := wipe_at (σ := σ) (j := j) vs
    unfold wipe
    by_cases h : j = v
    · subst h
      rw [if_pos List.mem_cons_self]
      by_cases hl : j < σ.length
      · rw [List.getElem?_set_self (by rw [wipe_length]; exact hl), if_pos hl]
      · rw [List.getElem?_eq_none (by rw [List.length_set, wipe_length]; omega), if_neg hl]
    · rw [List.getElem?_set_ne (Ne.symm h), ih]
      simp [h]
theorem wipe_back {σ σ' : L2.St} {vs idx : List Nat} (hs : ∀ j ∈ idx, j ∈ vs) (hl : σ'.length = σ.length) (h : ∀ j, j ∉ idx → σ'[j]? = (wipe σ vs)[j]?) : wipe σ' vs = wipe σ vs := by
  apply List.ext_getElem?
  intro j
  rw [wipe_at, wipe_at]
  by_cases hj : j ∈ vs
  · rw [if_pos hj, if_pos hj, hl]
  · rw [if_neg hj, if_neg hj, h j (fun z => hj (hs j z)), wipe_at, if_neg hj]
theorem wipeD_at {σ : Std} {j : Nat} : ∀ vs : List Nat, (wipeD σ vs)[j]? = if j ∈ vs then (if j < σ.length then some none else none) else σ[j]?
  | [] => by simp [wipeD]
  | v :: vs => by
    have ih := wipeD_at (σ := σ) (j := j) vs
    have hlen : ∀ vs : List Nat, (wipeD σ vs).length = σ.length := fun vs => by
      induction vs with
      | nil => rfl
      | cons v vs ih => unfold wipeD; rw [List.length_set, ih]
    unfold wipeD
    by_cases h : j = v
    · subst h
      rw [if_pos List.mem_cons_self]
      by_cases hl : j < σ.length
      · rw [List.getElem?_set_self (by rw [hlen]; exact hl), if_pos hl]
      · rw [List.getElem?_eq_none (by rw [List.length_set, hlen]; omega), if_neg hl]
    · rw [List.getElem?_set_ne (Ne.symm h), ih]
      simp [h]
theorem wipeD_length {σ : Std} : ∀ vs : List Nat, (wipeD σ vs).length = σ.length
  | [] => rfl
  | v :: vs => by unfold wipeD; rw [List.length_set, wipeD_length vs]
theorem relSt_wipe {P : Pm} {w : Wd} {sd : Std} {σ : L2.St} (r : RelSt P w sd σ) (vs : List Nat) : RelSt P w (wipeD sd vs) (wipe σ vs) := by
  refine ⟨by rw [wipeD_length, wipe_length]; exact r.1, fun j d h => ?_⟩
  rw [wipeD_at] at h
  rw [wipe_at]
  by_cases hj : j ∈ vs
  · rw [if_pos hj] at h
    split at h <;> cases h
  · rw [if_neg hj] at h ⊢
    exact r.2 j d h
def liGC (P : Pm) (t : D → Std → Md → (Std → Md → Prop) → Prop) (idx : List Nat) : TG := fun v σ H Q => ∃ w M sd d Qd, RepM P w M H ∧ RelSt P w sd σ ∧ RelD P w d v ∧
  (∀ w' M' H' sd' σ', Step w H w' H' → RepM P w' M' H' → RelSt P w' sd' σ' → σ'.length = σ.length → (∀ j, j ∉ idx → σ'[j]? = σ[j]?) → Qd sd' M' → Q σ' H') ∧ t d sd M Qd
section
variable {X : Cx} {P : Pm} {C : Ctx} {Φ : Nat → SpD} {κ : Nat → D} {W : WX}
theorem pgc_nm {i : Nat} {x : Str} {pos : Pos} (O : EnvOk X P C Φ κ) (h : okTgt C i x = true) : PG X (.Name x pos) (liGC P (asgT (.nm i)) [i]) := by
  obtain ⟨h1, h2, h3⟩ := tgt_of O h
  refine pgI (pg_name (by rw [O.N]; exact O.nd) h1 h2 h3) fun v σ H Q q => ?_
  obtain ⟨w, M, sd, d, Qd, R, rs, r, l, q⟩ := q
  exact l w M H _ _ (.refl _ _) R (relSt_set rs i r) (by simp) (fun j hj => List.getElem?_set_ne (fun z => hj (by simp [z]))) q
theorem pgcs_of (O : EnvOk X P C Φ κ) : ∀ {is : List Nat} {es : List Expr}, okTg.go C is es = true → ∃ t, PGs X es t ∧ (assignEach es X.env).length = is.length ∧ (assignEach es X.env).findIdx? (·.1) = none ∧
    ∀ {w M H sd σ ds vs} {Qd : Std → Md → Prop} {Q : L2.St → Hp → Prop}, RepM P w M H → RelSt P w sd σ → RelDs P w ds vs → ds.length = is.length →
      (∀ w' M' H' sd' σ', Step w H w' H' → RepM P w' M' H' → RelSt P w' sd' σ' → σ'.length = σ.length → (∀ j, j ∉ is → σ'[j]? = σ[j]?) → Qd sd' M' → Q σ' H') → Qd (setAll sd is ds) M → t vs σ H Q
  | [], [], _ => ⟨_, pgs_nil, rfl, rfl, fun {w M H sd σ ds vs Qd Q} R rs r hl l q => by
    have e : ds = [] := List.length_eq_zero_iff.mp hl
    subst e
    have r : vs = [] := r
    exact ⟨r, l w M H sd σ (.refl _ _) R rs rfl (fun _ _ => rfl) (show Qd sd M from q)⟩⟩
  | [], _ :: _, h => by simp [okTg.go] at h
  | _ :: _, [], h => by simp [okTg.go] at h
  | i :: is, e :: es, h => by
    cases e with
    | Name x pos =>
      have h : (okTgt C i x && okTg.go C is es) = true := h
      rw [Bool.and_eq_true] at h
      obtain ⟨t, h1, h2, h3, h4⟩ := pgcs_of O h.2
      refine ⟨_, pgs_cons (pgc_nm O h.1) h1, by rw [assignEach_cons, List.length_cons, List.length_cons, h2], by rw [assignEach_cons, List.findIdx?_cons, h3]; rfl, fun {w M H sd σ ds vs Qd Q} R rs r hl l q => ?_⟩
      cases ds with
      | nil => cases hl
      | cons d ds =>
        obtain ⟨v, us, e, r1, r2⟩ := r
        refine ⟨v, us, e, w, M, sd, d, fun sd' M' => sd' = sd.set i (some d) ∧ M' = M, R, rs, r1, fun w' M' H' sd' σ' s' R' rs' hl' ho' q' => ?_, rfl, rfl⟩
        obtain ⟨q1, q2⟩ := q'
        subst q1; subst q2
        refine h4 R' rs' (r2.mono s'.le) (by simpa using hl) (fun w2 M2 H2 sd2 σ2 s2 R2 rs2 hl2 ho2 q2 => l w2 M2 H2 sd2 σ2 (s'.trans s2) R2 rs2 (hl2.trans hl') (fun j hj => ?_) q2) q
        simp only [List.mem_cons, not_or] at hj
        rw [ho2 j hj.2, ho' j (by simp [hj.1])]
    | _ => exact absurd h (by simp [okTg.go])
theorem pgc_of {t : Tg} {e : Expr} (O : EnvOk X P C Φ κ) (h : okTg C t e = true) : PG X e (liGC P (asgT t) (tgIdx t)) := by
  cases t with
  | nm i =>
    cases e with
    | Name x pos => exact pgc_nm O h
    | _ => exact absurd h (by simp [okTg])
  | tp is =>
    cases e with
    | Tuple es k pos =>
      have h : (!C.X.hot && okTg.go C is es) = true := h
      rw [Bool.and_eq_true, Bool.not_eq_true'] at h
      obtain ⟨t, h1, h2, h3, h4⟩ := pgcs_of O h.2
      refine pgI (pg_tup (O.calm h.1) h1 h2 h3) fun v σ H Q q => ?_
      obtain ⟨w, M, sd, d, Qd, R, rs, r, l, q⟩ := q
      cases d with
      | tup ds =>
        obtain ⟨p, vs, e, hp, hs⟩ := r
        exact ⟨p, vs, e, O.K ▸ sqT_mono R.sub hp, by rw [hs.length]; exact q.1, h4 R rs hs q.1 l q.2⟩
      | _ => exact q.elim
    | _ => exact absurd h (by simp [okTg])
/-- a list or a tuple, walked -/
def iSeq (K : PySem.W.Frag) (tl : TE) : TI := fun σ H R => tl σ H fun x H1 => ∃ a, x = .ref a ∧ (((∃ xs, SqL K H1 a xs) ∧ R (Itl K a) H1) ∨ ((∃ xs, SqT K H1 a xs) ∧ R (Itt K a) H1))
theorem pi_seq {tg l : Expr} {tl : TE} (hl : PE X l tl) : PI X tg l (iSeq X.K tl) := by
  refine ⟨fun pins s σ H R I h => ?_⟩
  refine thn (hl.run pins s σ H _ I h) fun v s1 ⟨x, H1, I1, r1, q1⟩ => ?_
  obtain ⟨a, e, q⟩ := q1
  subst e
  cases r1
  have fp : ∀ b ∈ [s1.heap.objs.size], FpOk X pins H1 b := fun b hb => by
    have e : b = s1.heap.objs.size := by simpa using hb
    subst e
    exact I1.fpOk (Nat.le_refl _) (I1.hok.fresh (Nat.le_refl _))
  rcases q with ⟨⟨xs, hq⟩, q⟩ | ⟨⟨xs, hq⟩, q⟩
  · obtain ⟨its, rv, p, hz⟩ := I1.list hq
    refine wpAny_pyIter_list p.isList ?_
    exact ⟨s1.heap.objs.size, [s1.heap.objs.size], _, _, H1, rfl, I1.kept (t' := s1.toks) fun b o e => Heap.get?_push_of_some _ e, turn_list a _, ⟨_, Heap.get?_push_size _ rfl, rfl, rfl⟩, fp, q⟩
  · obtain ⟨its, rv, p, hz⟩ := I1.tuple hq
    refine wpAny_pyIter_tuple (show s1.heap.IsTuple a its.toArray from p) ?_
    exact ⟨s1.heap.objs.size, [s1.heap.objs.size], _, _, H1, rfl, I1.kept (t' := s1.toks) fun b o e => Heap.get?_push_of_some _ e, turn_tuple a _, ⟨_, Heap.get?_push_size _ rfl, rfl, rfl⟩, fp, q⟩
/-- the value's list, walked: its items -/
theorem itOk_seq {w : Wd} {M : Md} {H : Hp} {K : PySem.W.Frag} (hK : P.K = K) (R : RepM P w M H) {d : D} {v : V} {ds : List D} (r : RelD P w d v) (h : seqOf d M = some ds) :
    ∃ a, v = .ref a ∧ (((∃ xs, SqL K H a xs) ∧ ItOk P K w H ds (lkOf d) (Itl K a)) ∨ ((∃ xs, SqT K H a xs) ∧ ItOk P K w H ds (lkOf d) (Itt K a))) := by
  subst hK
  cases d with
  | tup es =>
    cases h
    obtain ⟨p, vs, e, hp, hs⟩ := r
    exact ⟨p, e, .inr ⟨⟨vs, sqT_mono R.sub hp⟩, .tup fun w' M' H' s R' _ => ⟨vs, sqT_mono R'.sub (sqT_mono s.le.F hp), hs.mono s.le⟩⟩⟩
  | lst es =>
    cases h
    obtain ⟨p, vs, e, hp, hs⟩ := r
    exact ⟨p, e, .inl ⟨⟨vs, SqL.of (R.sub _ _ hp)⟩, .lst fun w' M' H' s R' _ => ⟨vs, SqL.of (R'.sub _ _ (s.le.F _ _ hp)), hs.mono s.le⟩⟩⟩
  | scr ns =>
    cases h
    obtain ⟨p, e, hp⟩ := r
    exact ⟨p, e, .inl ⟨⟨_, sqL_mono R.sub hp⟩, .lst fun w' M' H' s R' _ => ⟨_, sqL_mono R'.sub (sqL_mono s.le.F hp), relDs_ints ns⟩⟩⟩
  | ref k =>
    obtain ⟨p, e, hp⟩ := r
    have h : (match M[k]? with
      | some (.lst ds) => some ds
      | _ => none) = some ds := h
    split at h
    · rename_i ds' hm
      cases h
      obtain ⟨_, vs, e2, hs⟩ := R.cell k _ p hm hp
      refine ⟨p, e, .inl ⟨⟨vs, SqL.of e2⟩, .lst fun w' M' H' s R' lk => ?_⟩⟩
      obtain ⟨_, vs', e3, hs'⟩ := R'.cell k (.lst ds) p lk (s.le.r _ _ hp)
      exact ⟨vs', SqL.of e3, hs'⟩
    · cases h
  | _ => cases h
theorem rngD_at {i j : Int} {k : Nat} (h : k < (j - i).toNat) : (rngD i j)[k]? = some (.int (i + (k : Nat))) := by
  unfold rngD
  rw [List.getElem?_map, List.getElem?_range h]
  rfl
theorem rngD_length (i j : Int) : (rngD i j).length = (j - i).toNat := by unfold rngD; rw [List.length_map, List.length_range]
/-- a turn's item -/
theorem ItOk.turn {K : PySem.W.Frag} {w w' : Wd} {M' : Md} {H H' : Hp} {ds : List D} {lk : Option Nat} {J : It} (T : ItOk P K w H ds lk J) (s : Step w H w' H') (R : RepM P w' M' H') (l : lkOk lk ds M') (i : Nat) :
    (ds.length ≤ i → J.stop i H') ∧ (∀ d, ds[i]? = some d → J.go i H' ∧ ∀ x H2, J.yld i H' x H2 → ∃ w2, Step w' H' w2 H2 ∧ RepM P w2 M' H2 ∧ RelD P w2 d x) := by
  have same : ∀ {H2 : Hp} {d : D} {x : V}, H2 = H' → RelD P w' d x → ∃ w2, Step w' H' w2 H2 ∧ RepM P w2 M' H2 ∧ RelD P w2 d x := fun e r => by subst e; exact ⟨w', .refl _ _, R, r⟩
  cases T with
  | @lst a f =>
    obtain ⟨vs, h1, h2⟩ := f w' M' H' s R l
    refine ⟨fun hi => ⟨vs, h1, by rw [h2.length]; exact hi⟩, fun d hd => ?_⟩
    obtain ⟨v, hv, r⟩ := h2.get hd
    refine ⟨⟨vs, v, h1, hv⟩, fun x H2 hy => ?_⟩
    obtain ⟨e, y⟩ := hy
    have := y vs h1
    rw [hv] at this
    cases this
    exact same e r
  | @tup a f =>
    obtain ⟨vs, h1, h2⟩ := f w' M' H' s R l
    refine ⟨fun hi => ⟨vs, h1, by rw [h2.length]; exact hi⟩, fun d hd => ?_⟩
    obtain ⟨v, hv, r⟩ := h2.get hd
    refine ⟨⟨vs, v, h1, hv⟩, fun x H2 hy => ?_⟩
    obtain ⟨e, y⟩ := hy
    have := y vs h1
    rw [hv] at this
    cases this
    exact same e r
  | @chr z e =>
    subst e
    have hl : (charsD z).length = z.cps.size := by unfold charsD; simp
    refine ⟨fun hi => by rw [hl] at hi; exact hi, fun d hd => ?_⟩
    have hlt : i < z.cps.size := by
      have := (List.getElem?_eq_some_iff.mp hd).1
      rwa [hl] at this
    refine ⟨hlt, fun x H2 hy => ?_⟩
    obtain ⟨e1, c, hc, e2⟩ := hy
    have hd : (z.cps.toList.map fun c => D.str ⟨#[c]⟩)[i]? = some d := hd
    rw [List.getElem?_map, Array.getElem?_toList, hc] at hd
    cases hd
    exact same e1 e2
  | @rng a b e =>
    subst e
    refine ⟨fun hi => by rw [rngD_length] at hi; exact hi, fun d hd => ?_⟩
    have hlt : i < (b - a).toNat := by
      have := (List.getElem?_eq_some_iff.mp hd).1
      rwa [rngD_length] at this
    rw [rngD_at hlt] at hd
    cases hd
    refine ⟨hlt, fun x H2 hy => ?_⟩
    obtain ⟨e1, e2⟩ := hy
    exact same e1 e2
  | @enm a es f e =>
    subst e
    obtain ⟨vs, h1, h2⟩ := f w' M' H' s R
    have hl : (enumD es).length = es.length := by unfold enumD; simp
    refine ⟨fun hi => ⟨vs, h1, by rw [h2.length]; rw [hl] at hi; exact hi⟩, fun d hd => ?_⟩
    have hd2 : ∃ x, es[i]? = some x ∧ d = .tup [.int (i : Nat), x] := by
      unfold enumD at hd
      rw [List.getElem?_map] at hd
      obtain ⟨q, hq, rfl⟩ := Option.map_eq_some_iff.mp hd
      rw [List.getElem?_zipIdx] at hq
      obtain ⟨x, hx, rfl⟩ := Option.map_eq_some_iff.mp hq
      exact ⟨x, hx, by simp⟩
    obtain ⟨x, hx, rfl⟩ := hd2
    obtain ⟨v, hv, r⟩ := h2.get hx
    refine ⟨⟨vs, v, h1, hv⟩, fun y H2 hy => ?_⟩
    obtain ⟨T, z, rfl, hT, rfl, hz⟩ := hy
    have := hz vs h1
    rw [hv] at this
    cases this
    obtain ⟨R2, s2⟩ := R.newF hT (.tup [.int (i : Nat), v]) fun _ z => by cases z
    have rp : RelDs P w' [.int (i : Nat), x] [.int (i : Nat), v] := .cons rfl (.cons r .nil)
    exact ⟨_, s2, R2, ⟨T, _, rfl, .inl (.inl upd_same), rp.mono s2.le⟩⟩
/-- for -/
theorem for_lift {wi : RI} {t : Tg} {tb : RS} {σ : L2.St} {H : Hp} {K : Ends} :
    liS P W (fun E K σ M => wi (fun x => E x σ) σ M fun ds lk M1 => loopD lk ds (asgT t) (tb E) K ds σ M1) K σ H → tFor (liI P X.K W wi) (liG P (asgT t)) (liS P W tb) K σ H := by
  rintro ⟨w, M, sd, Kd, Ed, R, rs, lk, lx, q⟩
  refine ⟨w, M, sd, _, _, R, rs, fun w1 M1 H1 ds l J s R1 T q => ?_, lx.at rs, q⟩
  have lkK := lk.on s
  have lxK := lx.on s
  refine ⟨fun i m σ' H' => m = ds.length - i ∧ i ≤ ds.length ∧ ∃ w' M' sd', Step w1 H1 w' H' ∧ RepM P w' M' H' ∧ RelSt P w' sd' σ' ∧ loopD l ds (asgT t) (tb Ed) Kd (ds.drop i) sd' M', ⟨ds.length, by simp, Nat.zero_le _, w1, M1, sd, .refl _ _, R1, rs.mono s.le, by simpa using q⟩, ?_⟩
  rintro i m σ' H' ⟨rfl, hi, w', M', sd', s', R', rs', q'⟩
  by_cases hlt : i < ds.length
  · rw [List.drop_eq_getElem_cons hlt] at q'
    obtain ⟨l1, q'⟩ := q'
    obtain ⟨g1, g2⟩ := (T.turn s' R' l1 i).2 ds[i] (List.getElem?_eq_getElem hlt)
    refine .inr ⟨g1, fun σ2 H2 => ∃ w2 M2 sd2, Step w1 H1 w2 H2 ∧ RepM P w2 M2 H2 ∧ RelSt P w2 sd2 σ2 ∧ loopD l ds (asgT t) (tb Ed) Kd (ds.drop (i + 1)) sd2 M2, fun σ2 H2 h => ⟨ds.length - (i + 1), by omega, rfl, hlt, h⟩, fun x H2 y => ?_⟩
    obtain ⟨w2, s2, R2, rx⟩ := g2 x H2 y
    refine ⟨w2, M', sd', ds[i], _, R2, rs'.mono s2.le, rx, fun w3 M3 H3 sd3 σ3 s3 R3 rs3 q3 => ?_, q'⟩
    have s13 := (s'.trans s2).trans s3
    refine ⟨w3, M3, sd3, { nx := loopD l ds (asgT t) (tb Ed) Kd (ds.drop (i + 1)), rt := Kd.rt, bk := Kd.nx, ct := loopD l ds (asgT t) (tb Ed) Kd (ds.drop (i + 1)) }, Ed, R3, rs3, ⟨?_, (lkK.on s13).rt, (lkK.on s13).nx, ?_⟩, lxK.on s13, q3⟩
    · exact fun w4 M4 H4 sd4 σ4 s4 R4 rs4 q4 => ⟨w4, M4, sd4, s13.trans s4, R4, rs4, q4⟩
    · exact fun w4 M4 H4 sd4 σ4 s4 R4 rs4 q4 => ⟨w4, M4, sd4, s13.trans s4, R4, rs4, q4⟩
  · have e : i = ds.length := by omega
    subst e
    rw [List.drop_length] at q'
    obtain ⟨l1, q'⟩ := q'
    exact .inl ⟨(T.turn s' R' l1 ds.length).1 (Nat.le_refl _), lkK.nx w' M' H' sd' σ' s' R' rs' q'⟩
/-- while -/
theorem while_lift {tt : RT} {tb : RS} {σ : L2.St} {H : Hp} {K : Ends} :
    liS P W (fun E K σ M => ∃ n, whilD (fun σ M Q => tt (fun x => E x σ) σ M Q) (tb E) K n σ M) K σ H → tWhile (liT P W tt) (liS P W tb) K σ H := by
  rintro ⟨w, M, sd, Kd, Ed, R, rs, lk, lx, n, q⟩
  refine ⟨fun m σ' H' => ∃ w' M' sd', Step w H w' H' ∧ RepM P w' M' H' ∧ RelSt P w' sd' σ' ∧ whilD (fun σ M Q => tt (fun x => Ed x σ) σ M Q) (tb Ed) Kd m sd' M', ⟨n, w, M, sd, .refl _ _, R, rs, q⟩, ?_⟩
  rintro m σ' H' ⟨w', M', sd', s', R', rs', q'⟩
  cases m with
  | zero => exact q'.elim
  | succ m =>
    refine ⟨w', M', sd', _, _, R', rs', fun w1 M1 H1 b s1 R1 q1 => ?_, (lx.on s').at rs', q'⟩
    have s01 := s'.trans s1
    cases b with
    | true =>
      simp only [if_true] at q1 ⊢
      refine ⟨fun σ2 H2 => ∃ w2 M2 sd2, Step w H w2 H2 ∧ RepM P w2 M2 H2 ∧ RelSt P w2 sd2 σ2 ∧ whilD (fun σ M Q => tt (fun x => Ed x σ) σ M Q) (tb Ed) Kd m sd2 M2, fun σ2 H2 h => ⟨m, Nat.lt_succ_self _, h⟩, ?_⟩
      refine ⟨w1, M1, sd', { nx := whilD (fun σ M Q => tt (fun x => Ed x σ) σ M Q) (tb Ed) Kd m, rt := Kd.rt, bk := Kd.nx, ct := whilD (fun σ M Q => tt (fun x => Ed x σ) σ M Q) (tb Ed) Kd m }, Ed, R1, rs'.mono s1.le, ⟨?_, (lk.on s01).rt, (lk.on s01).nx, ?_⟩, lx.on s01, q1⟩
      · exact fun w4 M4 H4 sd4 σ4 s4 R4 rs4 q4 => ⟨w4, M4, sd4, s01.trans s4, R4, rs4, q4⟩
      · exact fun w4 M4 H4 sd4 σ4 s4 R4 rs4 q4 => ⟨w4, M4, sd4, s01.trans s4, R4, rs4, q4⟩
    | false =>
      simp only [Bool.false_eq_true, if_false] at q1 ⊢
      exact lk.nx w1 M1 H1 sd' σ' s01 R1 (rs'.mono s1.le) q1
abbrev W0 : WX := fun _ _ _ _ => False
theorem lkX0 {w : Wd} {H : Hp} {σ : L2.St} : LkX P w H (fun _ _ => False) (WE W0 σ) := fun _ _ _ _ _ _ _ _ _ q => q.elim
/-- a comprehension -/
theorem comp_lift {m : Bool} {wi : RI} {t : Tg} {tt : RT} {te : RE} {own : List Nat} (hs : ∀ j ∈ tgIdx t, j ∈ own) : ∀ σ H Q,
    liE P W (fun E σ M Q => wi E σ M fun ds lk M1 => compD lk ds (fun d k M => asgT t d (wipeD σ own) M k) (fun σ M Q => tt (fun _ _ => False) σ M Q) (fun σ M Q => te (fun _ _ => False) σ M Q)
      (fun acc M => if m = true then Q (.ref M.length) (M ++ [.lst acc]) else Q (.lst acc) M) ds [] M1) σ H Q →
    tLc (liI P X.K W wi) (liGC P (asgT t) (tgIdx t)) (liT P W0 tt) (liE P W0 te) own σ H Q := by
  rintro σ H Q ⟨w, M, sd, Qd, Ed, R, rs, lq, lx, q⟩
  refine ⟨w, M, sd, _, Ed, R, rs, fun w1 M1 H1 ds l J s R1 T q => ?_, lx, q⟩
  intro Da hD
  have rs1 := rs.mono s.le
  have lq1 := lq.on s
  let INV : Nat → Hp → Prop := fun i H' => ∃ w' M' acc vs, Step w1 H1 w' H' ∧ RepM P w' M' H' ∧ w'.F Da = none ∧ Da ∉ w'.r ∧ H' Da = some (.lst vs) ∧ RelDs P w' acc vs ∧
    compD l ds (fun d k M => asgT t d (wipeD sd own) M k) (fun σ M Q => tt (fun _ _ => False) σ M Q) (fun σ M Q => te (fun _ _ => False) σ M Q) (fun acc M => if m = true then Qd (.ref M.length) (M ++ [.lst acc]) else Qd (.lst acc) M) (ds.drop i) acc M'
  have start : INV 0 (upd H1 Da (.lst [])) := by
    have hC0 : KpC w1 H1 w1 (upd H1 Da (.lst [])) := fun b q h1 h2 => ⟨h1, by rw [upd_ne fun z => by rw [z, hD] at h2; cases h2]; exact h2⟩
    refine ⟨w1, M1, [], [], ⟨.refl _, fun a o e _ _ => ?_, fun a e h1 h2 => ⟨h1, h2⟩, fun a e => upd_some e⟩, ⟨fun a o e => ?_, R1.len, R1.nd, fun p hp => ?_, fun k mo p h1 h2 => ?_, R1.tab.on hC0 (fun a ps h1 h2 h3 => ⟨h1, h2, by rw [upd_ne fun z => by rw [z, hD] at h3; cases h3]; exact h3⟩) (fun a ps z => z) fun b hb o' e => R1.tab.nc b hb o' (by rw [upd_ne (fun z => R1.inH b hb (by rw [z]; exact hD))] at e; exact e)⟩, R1.Fnone hD, R1.notin hD, upd_same, rfl, by simpa using q⟩
    · rw [upd_ne (ne_of_none e hD)]; exact e
    · rw [upd_ne (ne_of_none (R1.sub _ _ e) hD)]; exact R1.sub _ _ e
    · rw [upd_ne (fun z => R1.inH p hp (by rw [z]; exact hD))]; exact R1.inH p hp
    · exact (R1.cell k mo p h1 h2).mono (.refl _) (fun z => z) (upd_ne (fun z => R1.inH p (List.mem_of_getElem? h2) (by rw [z]; exact hD))) hC0
  refine ⟨fun i n H' => n = ds.length - i ∧ i ≤ ds.length ∧ INV i H', ⟨ds.length, by simp, Nat.zero_le _, start⟩, ?_⟩
  rintro i n H' ⟨rfl, hi, w', M', acc, vs, s', R', f1, f2, hH, ha, q'⟩
  by_cases hlt : i < ds.length
  · rw [List.drop_eq_getElem_cons hlt] at q'
    obtain ⟨l1, q'⟩ := q'
    obtain ⟨g1, g2⟩ := (T.turn s' R' l1 i).2 ds[i] (List.getElem?_eq_getElem hlt)
    refine .inr ⟨g1, fun H2 => INV (i + 1) H2, fun H2 h => ⟨ds.length - (i + 1), by omega, rfl, hlt, h⟩, fun x H2 y => ?_⟩
    obtain ⟨w2, s2, R2, rx⟩ := g2 x H2 y
    refine ⟨w2, M', wipeD sd own, ds[i], _, R2, relSt_wipe (rs1.mono (s'.trans s2).le) own, rx, fun w3 M3 H3 sd3 σ3 s3 R3 rs3 hl3 ho3 q3 => ⟨wipe_back hs (by rw [hl3, wipe_length]) ho3, ?_⟩, q'⟩
    refine ⟨w3, M3, sd3, _, _, R3, rs3, fun w4 M4 H4 b s4 R4 q4 => ?_, lkX0, q3⟩
    have s34 := s2.trans (s3.trans s4)
    cases b with
    | false =>
      simp only [Bool.false_eq_true, if_false] at q4 ⊢
      obtain ⟨n1, n2⟩ := s34.new Da (by rw [hH]; simp) f1 f2
      exact ⟨w4, M4, acc, vs, s'.trans s34, R4, n1, n2, s34.keep _ _ hH nlt (.inl f2), ha.mono s34.le, q4⟩
    | true =>
      simp only [if_true] at q4 ⊢
      refine ⟨w4, M4, sd3, _, _, R4, rs3.mono s4.le, fun w5 M5 H5 d5 v5 s5 R5 r5 q5 => ?_, lkX0, q4⟩
      have s35 := s34.trans s5
      obtain ⟨n1, n2⟩ := s35.new Da (by rw [hH]; simp) f1 f2
      have h5 := s35.keep _ _ hH nlt (.inl f2)
      refine ⟨vs, h5, by rw [ha.length]; exact q5.1, w5, M5, acc ++ [d5], vs ++ [v5], ?_, ?_, n1, n2, upd_same, (ha.mono s35.le).append (.cons r5 .nil), q5.2⟩
      · have st := s'.trans s35
        refine ⟨st.le, fun a o e ht h => ?_, st.new, fun a e => upd_some (st.stay a e)⟩
        rw [upd_ne (ne_of_none e hD)]
        exact st.keep a o e ht h
      · have hC : KpC w5 H5 w5 (upd H5 Da (.lst (vs ++ [v5]))) := fun b q h1 h2 => ⟨h1, by rw [upd_ne fun z => by rw [z, h5] at h2; exact codeO_lst (Option.some.inj h2).symm]; exact h2⟩
        refine ⟨fun a o e => ?_, R5.len, R5.nd, fun p hp => ?_, fun k mo p h1 h2 => ?_, R5.tab.on hC (fun a ps h1 h2 h3 => ⟨h1, h2, by rw [upd_ne fun z => by rw [z, h5] at h3; cases h3]; exact h3⟩) (fun a ps z => z) fun b hb o' e => R5.tab.nc b hb o' (by rw [upd_ne (fun z => n2 (by rw [← z]; exact hb))] at e; exact e)⟩
        · rw [upd_ne (fun z => by rw [z, n1] at e; cases e)]; exact R5.sub _ _ e
        · rw [upd_ne (fun z => n2 (by rw [← z]; exact hp))]; exact R5.inH p hp
        · exact (R5.cell k mo p h1 h2).mono (.refl _) (fun z => z) (upd_ne (fun z => n2 (by rw [← z]; exact List.mem_of_getElem? h2))) hC
  · have e : i = ds.length := by omega
    subst e
    rw [List.drop_length] at q'
    obtain ⟨l1, q'⟩ := q'
    refine .inl ⟨(T.turn s' R' l1 ds.length).1 (Nat.le_refl _), ?_⟩
    cases m with
    | false =>
      rw [if_neg Bool.false_ne_true] at q'
      obtain ⟨R2, le⟩ := R'.adoptF hH nlt f1 f2
      refine lq1 _ M' H' (.lst acc) _ ⟨s'.le.trans le, s'.keep, fun a e h1 h2 => ?_, s'.stay⟩ R2 ⟨Da, vs, rfl, upd_same, ha.mono le⟩ q'
      obtain ⟨z1, z2⟩ := s'.new a e h1 h2
      exact ⟨by show upd w'.F Da _ a = none; rw [upd_ne (fun z => e (by rw [z]; exact hD))]; exact z1, z2⟩
    | true =>
      rw [if_pos rfl] at q'
      obtain ⟨R2, le⟩ := R'.adoptC hH f1 f2 ha
      refine lq1 _ _ H' (.ref M'.length) _ ⟨s'.le.trans le, s'.keep, fun a e h1 h2 => ?_, s'.stay⟩ R2 ⟨Da, rfl, by show (w'.r ++ [Da])[M'.length]? = some Da; rw [R'.len]; simp⟩ q'
      obtain ⟨z1, z2⟩ := s'.new a e h1 h2
      refine ⟨z1, fun z => ?_⟩
      rcases List.mem_append.mp z with z | z
      · exact z2 z
      · simp at z; exact e (by rw [z]; exact hD)
end
end DL
namespace DL
open PySem L2 PySem.Spec PyProof.Rows
theorem meth_eq {o : Expr} {m : Str} {apos pos : Pos} {args : List Expr} {env : Env} (hbase : attributeBase o m env (eval o env) = eval o env)
    (hform : methodCallForm (args.length + ([] : List Keyword).length) (backTo pos (starEach args env)) (backToKw pos (keywordEach [] env)) = true) (hline : (apos.endLine == pos.line) = true) :
    eval (.Call (.Attribute o m apos) args [] pos) env = (do
      let ov ← eval o env
      standAt apos.atName
      let (f, first) ← holding [ov] (getMethod ov m (plainOf o env))
      callWith pos f first (backTo pos (starEach args env)) (backToKw pos (keywordEach [] env))) := by
  rw [arm_eval_Call, hbase]
  simp only [mcall_line hform hline]
section
variable {X : Cx} {CX : CXT} {k : Nat} {f C : Addr} {fd : FuncData} {ps : List Str} {sp : Sp} {E : L2.St → XK} {x m : Str} {p pos apos : Pos} {e o : Expr} {es : List Expr} {ta : TE} {t : TA}
def tNil' : TA := fun _ H Q => Q [] H
theorem pe_call0S (F : FnOk X.prog X.w X.K X.mg X.base CX k f fd ps sp) (hr : Room k X.A) (hg : Gl X x) (hm : X.mg x = some (.ref f)) (hk : PySem.W.keepIn X.K (.ref f) = true) (hb : Binds X.K fd ps []) (hx : ∀ σ, PassesAt CX X σ (E σ))
    (hdb : (x == ("__debug__" : Str)) = false) : PE X (.Call (.Name x p) [] [] pos) (tCallS sp E tNil') := by
  refine ⟨fun pins s σ H Q I h => ?_⟩
  refine wpAny_Call_Name_kw (ld_glob I hg hm ?_ hdb)
  exact PySem.W.callWith_K0 I.kIn hk (run_fnS (us := []) F hr hb (hx σ) I .nil h)
def tMethO (C : Addr) (m : Str) (sp : Sp) (E : L2.St → XK) (ta : TE) (t : TA) : TE := fun σ H Q => ta σ H fun x H1 => ∃ a dx fs, x = .ref a ∧ H1 a = some (.ins C dx fs) ∧ fs.lookup m = none ∧ t σ H1 fun vs H2 => sp (x :: vs) H2 Q (E σ)
theorem pe_methO {pl : Sem Bool} (he : PE X o ta) (c : Cls X.K C) (hm : Meth X.K C m f) (F : FnOk X.prog X.w X.K X.mg X.base CX k f fd ps sp) (hr : Room k X.A) (hb : Binds X.K fd ps []) (hx : ∀ σ, PassesAt CX X σ (E σ)) (ha : PA X (e :: es) t)
    (hst : starEach (e :: es) X.env = (false, eval e X.env) :: starEach es X.env) (hpl : (backTo pos (starEach es X.env)).any (·.1) = false)
    (ht : eval (.Call (.Attribute o m apos) (e :: es) [] pos) X.env = (do
      let ov ← eval o X.env
      standAt apos.atName
      let (f, first) ← holding [ov] (getMethod ov m pl)
      callWith pos f first (backTo pos (starEach (e :: es) X.env)) (backToKw pos (keywordEach [] X.env)))) :
    PE X (.Call (.Attribute o m apos) (e :: es) [] pos) (tMethO C m sp E ta t) := by
  refine ⟨fun pins s σ H Q I h => ?_⟩
  refine PySem.W.methodCall_KW (pl := pl) (thn (he.run pins s σ H _ I h) fun u s1 ⟨x, H1, I1, rx, a, dx, fs, ex, ea, l, q⟩ => ?_) ht
  subst ex
  obtain rfl : u = Value.ref a := rx
  refine getmeth_ok I1 ea c hm l ?_
  refine PySem.W.callWith_K (first := [.ref a]) (h₀ := X.base) I.ok.mod.kin hm.kp (thn (ha.run pos pins s1 σ H1 _ I1 q) fun us s2 ⟨vs, H2, I2, r, q2⟩ => ⟨I2.kIn, ?_⟩) hst hpl
  exact run_fnS (us := .ref a :: us) (vs := .ref a :: vs) F hr hb (hx σ) I2 (.cons rfl r) q2
theorem pe_methO0 {pl : Sem Bool} (he : PE X o ta) (c : Cls X.K C) (hm : Meth X.K C m f) (F : FnOk X.prog X.w X.K X.mg X.base CX k f fd ps sp) (hr : Room k X.A) (hb : Binds X.K fd ps []) (hx : ∀ σ, PassesAt CX X σ (E σ))
    (ht : eval (.Call (.Attribute o m apos) [] [] pos) X.env = (do
      let ov ← eval o X.env
      standAt apos.atName
      let (f, first) ← holding [ov] (getMethod ov m pl)
      callWith pos f first (backTo pos (starEach [] X.env)) (backToKw pos (keywordEach [] X.env)))) :
    PE X (.Call (.Attribute o m apos) [] [] pos) (tMethO C m sp E ta tNil') := by
  refine ⟨fun pins s σ H Q I h => ?_⟩
  refine PySem.W.methodCall_KW (pl := pl) (thn (he.run pins s σ H _ I h) fun u s1 ⟨x, H1, I1, rx, a, dx, fs, ex, ea, l, q⟩ => ?_) ht
  subst ex
  obtain rfl : u = Value.ref a := rx
  refine getmeth_ok I1 ea c hm l ?_
  exact PySem.W.callWith_K0 (first := [.ref a]) I1.kIn hm.kp (run_fnS (us := [.ref a]) (vs := [.ref a]) F hr hb (hx σ) I1 (.cons rfl .nil) q)
theorem run_makeS {pins : List (Addr × Obj)} {σ : L2.St} {H : Hp} {s : Shared} {Q : VK} {us : List Value} {vs : List V} (M : Mk X.K C f) (F : FnOk X.prog X.w X.K X.mg X.base CX k f fd ps sp) (hr : Room (k + 1) X.A) (hb : Binds X.K fd ps [])
    (hx : PassesAt CX X σ (E σ)) (I : Inv X pins σ H s) (r : L2.Vals vs us)
    (h : ∀ x dx, H x = none → H dx = none → dx ≠ x → sp (.ref x :: vs) (upd (upd H dx (.own x)) x (.ins C dx [])) (fun v H2 => v = .non ∧ Q (.ref x) H2) (E σ)) :
    wpAny (model X.prog X.w) X.A (call (.ref C) us) (EP X pins σ Q) X.xe s := by
  have hq := h (s.heap.objs.size + 1) s.heap.objs.size (I.hok.fresh (Nat.le_succ _)) (I.hok.fresh (Nat.le_refl _)) (Nat.ne_of_lt (Nat.lt_succ_self _))
  have I2 := Inv.made (C := C) I
  have r2 : L2.Vals (V.ref (s.heap.objs.size + 1) :: vs) (Value.ref (s.heap.objs.size + 1) :: us) := .cons rfl r
  have hl : (Value.ref (s.heap.objs.size + 1) :: us).length = ps.length := by
    have e := r2.length
    rw [F.len _ _ _ _ hq] at e
    exact e.symm
  refine wpAny_call (make_map (f := f) I.kIn M.makes M.init (beq_iff_eq.mp M.fn) (codeAny_mono (F.run _ X.stack _ _ ⟨Value.ref (s.heap.objs.size + 1) :: us, []⟩ (Value.ref (s.heap.objs.size + 1) :: us) _ _ (E σ) (hr.make C us [])
    (I2.env0.make C us []) (by have z := hb _ (Value.ref (s.heap.objs.size + 1) :: us) I2.kIn (by rw [List.append_nil]; exact hl); rw [List.append_nil] at z; exact z) r2 hq) fun r s' hq' => ?_))
  cases r with
  | error e => exact hx pins _ _ e s' I2 hq'
  | ok fl =>
    cases fl with
    | ret u =>
      obtain ⟨v, H', I3, rv, ev, q3⟩ := I2.after hq'
      subst ev
      exact ⟨rv, ⟨V.ref (s.heap.objs.size + 1), H', I3, rfl, q3⟩⟩
    | next => exact False.elim hq'
    | brk => exact False.elim hq'
    | cont => exact False.elim hq'
def tMakeO (C : Addr) (sp : Sp) (E : L2.St → XK) (t : TA) : TE := fun σ H Q => t σ H fun vs H1 => ∀ x dx, H1 x = none → H1 dx = none → dx ≠ x → sp (.ref x :: vs) (upd (upd H1 dx (.own x)) x (.ins C dx [])) (fun v H2 => v = .non ∧ Q (.ref x) H2) (E σ)
theorem pe_makeO (M : Mk X.K C f) (F : FnOk X.prog X.w X.K X.mg X.base CX k f fd ps sp) (hr : Room (k + 1) X.A) (hg : Gl X x) (hm : X.mg x = some (.ref C)) (hb : Binds X.K fd ps []) (hx : ∀ σ, PassesAt CX X σ (E σ))
    (ha : PA X (e :: es) t) (hdb : (x == ("__debug__" : Str)) = false) (he : starEach (e :: es) X.env = (false, eval e X.env) :: starEach es X.env) (hpl : (backTo pos (starEach es X.env)).any (·.1) = false) :
    PE X (.Call (.Name x p) (e :: es) [] pos) (tMakeO C sp E t) := by
  refine ⟨fun pins s σ H Q I h => ?_⟩
  refine wpAny_Call_Name_kw (ld_glob I hg hm ?_ hdb)
  refine PySem.W.callWith_K (h₀ := X.base) I.ok.mod.kin M.kp (thn (ha.run pos pins s σ H _ I h) fun us s1 ⟨vs, H1, I1, r, q⟩ => ⟨I1.kIn, ?_⟩) he hpl
  exact run_makeS M F hr hb (hx σ) I1 r q
theorem pe_makeO0 (M : Mk X.K C f) (F : FnOk X.prog X.w X.K X.mg X.base CX k f fd ps sp) (hr : Room (k + 1) X.A) (hg : Gl X x) (hm : X.mg x = some (.ref C)) (hb : Binds X.K fd ps []) (hx : ∀ σ, PassesAt CX X σ (E σ))
    (hdb : (x == ("__debug__" : Str)) = false) : PE X (.Call (.Name x p) [] [] pos) (tMakeO C sp E tNil') := by
  refine ⟨fun pins s σ H Q I h => ?_⟩
  refine wpAny_Call_Name_kw (ld_glob I hg hm ?_ hdb)
  exact PySem.W.callWith_K0 I.kIn M.kp (run_makeS (us := []) M F hr hb (hx σ) I .nil h)
variable {n : Nat} {ks : List Str} {kws : List Keyword} {tk : TA} {g : List Value → List Value → List Value} {gV : List V → List V → List V}
def tCallKO (n m : Nat) (sp : Sp) (gV : List V → List V → List V) (E : L2.St → XK) (t tk : TA) : TE := fun σ H Q => t σ H fun vs H1 => tk σ H1 fun zs H2 => vs.length = n ∧ zs.length = m ∧ sp (gV vs zs) H2 Q (E σ)
theorem run_fnKO {pins : List (Addr × Obj)} {σ : L2.St} {H : Hp} {s : Shared} {Q : VK} {us ws : List Value} {vs zs : List V} (F : FnOk X.prog X.w X.K X.mg X.base CX k f fd ps sp) (hr : Room k X.A) (hb : KBn X.K fd ps n ks g gV) (hx : PassesAt CX X σ (E σ))
    (I : Inv X pins σ H s) (r : L2.Vals vs us) (rz : L2.Vals zs ws) (l1 : vs.length = n) (l2 : zs.length = ks.length) (h : sp (gV vs zs) H Q (E σ)) : wpAny (model X.prog X.w) X.A (call (.ref f) us (ks.zip ws)) (EP X pins σ Q) X.xe s := by
  have r2 := hb.rel r rz
  refine wpAny_call (codeAny_mono (F.run X.A X.stack s H ⟨us, ks.zip ws⟩ (g us ws) (gV vs zs) Q (E σ) hr I.env0 (hb.to s us ws I.kIn (r.length.symm.trans l1) (rz.length.symm.trans l2)) r2 h) fun r s' hq => ?_)
  cases r with
  | error e => exact hx pins H s e s' I hq
  | ok fl =>
    cases fl with
    | ret u => exact I.after hq
    | next => exact False.elim hq
    | brk => exact False.elim hq
    | cont => exact False.elim hq
theorem pe_callKO (F : FnOk X.prog X.w X.K X.mg X.base CX k f fd ps sp) (hr : Room k X.A) (hg : Gl X x) (hm : X.mg x = some (.ref f)) (hk : PySem.W.keepIn X.K (.ref f) = true) (hb : KBn X.K fd ps n ks g gV) (hx : ∀ σ, PassesAt CX X σ (E σ))
    (ha : PA X (e :: es) t) (hkw : PK X kws tk) (hall : (backToKw pos (keywordEach kws X.env)).all (·.1.isSome) = true) (hks : (backToKw pos (keywordEach kws X.env)).filterMap (·.1) = ks)
    (hdb : (x == ("__debug__" : Str)) = false) (he : starEach (e :: es) X.env = (false, eval e X.env) :: starEach es X.env)
    (hpl : ((backTo pos (starEach (e :: es) X.env)).any (·.1) || (backToKw pos (keywordEach kws X.env)).any (·.1.isNone)) = false) :
    PE X (.Call (.Name x p) (e :: es) kws pos) (tCallKO n ks.length sp gV E t tk) := by
  refine ⟨fun pins s σ H Q I h => ?_⟩
  refine wpAny_Call_Name_kw (ld_glob I hg hm ?_ hdb)
  refine PySem.W.callWith_KW (h₀ := X.base) I.ok.mod.kin hk hall (thn (ha.run pos pins s σ H _ I h) fun us s1 ⟨vs, H1, I1, r, q⟩ => ?_) hpl he
  refine thn (hkw.run pos pins s1 σ H1 _ I1 q) fun ws s2 ⟨zs, H2, I2, rz, l1, l2, q2⟩ => ⟨I2.kIn, ?_⟩
  rw [hks]
  exact run_fnKO F hr hb (hx σ) I2 r rz l1 l2 q2
def tMakeKO (C : Addr) (n m : Nat) (sp : Sp) (gV : List V → List V → List V) (E : L2.St → XK) (t tk : TA) : TE := fun σ H Q => t σ H fun vs H1 => tk σ H1 fun zs H2 => vs.length = n ∧ zs.length = m ∧ ∀ x dx, H2 x = none → H2 dx = none → dx ≠ x →
  sp (gV (.ref x :: vs) zs) (upd (upd H2 dx (.own x)) x (.ins C dx [])) (fun v H3 => v = .non ∧ Q (.ref x) H3) (E σ)
theorem run_makeKO {pins : List (Addr × Obj)} {σ : L2.St} {H : Hp} {s : Shared} {Q : VK} {us ws : List Value} {vs zs : List V} (M : Mk X.K C f) (F : FnOk X.prog X.w X.K X.mg X.base CX k f fd ps sp) (hr : Room (k + 1) X.A) (hb : KBn X.K fd ps (n + 1) ks g gV) (hx : PassesAt CX X σ (E σ))
    (I : Inv X pins σ H s) (r : L2.Vals vs us) (rz : L2.Vals zs ws) (l1 : vs.length = n) (l2 : zs.length = ks.length)
    (h : ∀ x dx, H x = none → H dx = none → dx ≠ x → sp (gV (.ref x :: vs) zs) (upd (upd H dx (.own x)) x (.ins C dx [])) (fun v H2 => v = .non ∧ Q (.ref x) H2) (E σ)) :
    wpAny (model X.prog X.w) X.A (call (.ref C) us (ks.zip ws)) (EP X pins σ Q) X.xe s := by
  have hq := h (s.heap.objs.size + 1) s.heap.objs.size (I.hok.fresh (Nat.le_succ _)) (I.hok.fresh (Nat.le_refl _)) (Nat.ne_of_lt (Nat.lt_succ_self _))
  have I2 := Inv.made (C := C) I
  have r1 : L2.Vals (V.ref (s.heap.objs.size + 1) :: vs) (Value.ref (s.heap.objs.size + 1) :: us) := .cons rfl r
  have r2 := hb.rel r1 rz
  have n1 : (Value.ref (s.heap.objs.size + 1) :: us).length = n + 1 := by
    rw [List.length_cons, ← r.length, l1]
  refine wpAny_call (make_map (f := f) I.kIn M.makes M.init (beq_iff_eq.mp M.fn) (codeAny_mono (F.run _ X.stack _ _ ⟨Value.ref (s.heap.objs.size + 1) :: us, ks.zip ws⟩ (g (Value.ref (s.heap.objs.size + 1) :: us) ws) _ _ (E σ) (hr.make C us (ks.zip ws))
    (I2.env0.make C us (ks.zip ws)) (hb.to _ (Value.ref (s.heap.objs.size + 1) :: us) ws I2.kIn n1 (rz.length.symm.trans l2)) r2 hq) fun r s' hq' => ?_))
  cases r with
  | error e => exact hx pins _ _ e s' I2 hq'
  | ok fl =>
    cases fl with
    | ret u =>
      obtain ⟨v, H', I3, rv, ev, q3⟩ := I2.after hq'
      subst ev
      exact ⟨rv, ⟨V.ref (s.heap.objs.size + 1), H', I3, rfl, q3⟩⟩
    | next => exact False.elim hq'
    | brk => exact False.elim hq'
    | cont => exact False.elim hq'
theorem pe_makeKO (M : Mk X.K C f) (F : FnOk X.prog X.w X.K X.mg X.base CX k f fd ps sp) (hr : Room (k + 1) X.A) (hg : Gl X x) (hm : X.mg x = some (.ref C)) (hb : KBn X.K fd ps (n + 1) ks g gV) (hx : ∀ σ, PassesAt CX X σ (E σ)) (ha : PA X (e :: es) t) (hkw : PK X kws tk)
    (hall : (backToKw pos (keywordEach kws X.env)).all (·.1.isSome) = true) (hks : (backToKw pos (keywordEach kws X.env)).filterMap (·.1) = ks) (hdb : (x == ("__debug__" : Str)) = false)
    (he : starEach (e :: es) X.env = (false, eval e X.env) :: starEach es X.env) (hpl : ((backTo pos (starEach (e :: es) X.env)).any (·.1) || (backToKw pos (keywordEach kws X.env)).any (·.1.isNone)) = false) :
    PE X (.Call (.Name x p) (e :: es) kws pos) (tMakeKO C n ks.length sp gV E t tk) := by
  refine ⟨fun pins s σ H Q I h => ?_⟩
  refine wpAny_Call_Name_kw (ld_glob I hg hm ?_ hdb)
  refine PySem.W.callWith_KW (h₀ := X.base) I.ok.mod.kin M.kp hall (thn (ha.run pos pins s σ H _ I h) fun us s1 ⟨vs, H1, I1, r, q⟩ => ?_) hpl he
  refine thn (hkw.run pos pins s1 σ H1 _ I1 q) fun ws s2 ⟨zs, H2, I2, rz, l1, l2, q2⟩ => ⟨I2.kIn, ?_⟩
  rw [hks]
  exact run_makeKO M F hr hb (hx σ) I2 r rz l1 l2 q2
theorem meth_eqK {o : Expr} {m : Str} {apos pos : Pos} {args : List Expr} {kws : List Keyword} {env : Env} (hbase : attributeBase o m env (eval o env) = eval o env)
    (hform : methodCallForm (args.length + kws.length) (backTo pos (starEach args env)) (backToKw pos (keywordEach kws env)) = true) (hline : (apos.endLine == pos.line) = true) :
    eval (.Call (.Attribute o m apos) args kws pos) env = (do
      let ov ← eval o env
      standAt apos.atName
      let (f, first) ← holding [ov] (getMethod ov m (plainOf o env))
      callWith pos f first (backTo pos (starEach args env)) (backToKw pos (keywordEach kws env))) := by
  rw [arm_eval_Call, hbase]
  simp only [mcall_line hform hline]
def tMethKO (C : Addr) (m : Str) (n j : Nat) (sp : Sp) (gV : List V → List V → List V) (E : L2.St → XK) (ta : TE) (t tk : TA) : TE := fun σ H Q => ta σ H fun x H1 => ∃ a dx fs, x = .ref a ∧ H1 a = some (.ins C dx fs) ∧ fs.lookup m = none ∧ t σ H1 fun vs H2 => tk σ H2 fun zs H3 => vs.length = n ∧ zs.length = j ∧ sp (gV (x :: vs) zs) H3 Q (E σ)
theorem pe_methKO {pl : Sem Bool} (he : PE X o ta) (c : Cls X.K C) (hm : Meth X.K C m f) (F : FnOk X.prog X.w X.K X.mg X.base CX k f fd ps sp) (hr : Room k X.A) (hb : KBn X.K fd ps (n + 1) ks g gV) (hx : ∀ σ, PassesAt CX X σ (E σ)) (ha : PA X (e :: es) t) (hkw : PK X kws tk)
    (hall : (backToKw pos (keywordEach kws X.env)).all (·.1.isSome) = true) (hks : (backToKw pos (keywordEach kws X.env)).filterMap (·.1) = ks)
    (hst : starEach (e :: es) X.env = (false, eval e X.env) :: starEach es X.env) (hpl : ((backTo pos (starEach (e :: es) X.env)).any (·.1) || (backToKw pos (keywordEach kws X.env)).any (·.1.isNone)) = false)
    (ht : eval (.Call (.Attribute o m apos) (e :: es) kws pos) X.env = (do
      let ov ← eval o X.env
      standAt apos.atName
      let (f, first) ← holding [ov] (getMethod ov m pl)
      callWith pos f first (backTo pos (starEach (e :: es) X.env)) (backToKw pos (keywordEach kws X.env)))) :
    PE X (.Call (.Attribute o m apos) (e :: es) kws pos) (tMethKO C m n ks.length sp gV E ta t tk) := by
  refine ⟨fun pins s σ H Q I h => ?_⟩
  refine PySem.W.methodCall_KW (pl := pl) (thn (he.run pins s σ H _ I h) fun u s1 ⟨x, H1, I1, rx, a, dx, fs, ex, ea, l, q⟩ => ?_) ht
  subst ex
  obtain rfl : u = Value.ref a := rx
  refine getmeth_ok I1 ea c hm l ?_
  refine PySem.W.callWith_KW (first := [.ref a]) (h₀ := X.base) I.ok.mod.kin hm.kp hall (thn (ha.run pos pins s1 σ H1 _ I1 q) fun us s2 ⟨vs, H2, I2, r, q2⟩ => ?_) hpl hst
  refine thn (hkw.run pos pins s2 σ H2 _ I2 q2) fun ws s3 ⟨zs, H3, I3, rz, l1, l2, q3⟩ => ⟨I3.kIn, ?_⟩
  rw [hks]
  exact run_fnKO (us := .ref a :: us) (vs := .ref a :: vs) F hr hb (hx σ) I3 (.cons rfl r) rz (by rw [List.length_cons, l1]) l2 q3
end
section
variable {P : Pm}
theorem relKs_any {κ : Type} [DecidableEq κ] {w : Wd} {k : κ} : ∀ {kvs : List (κ × D)} {us : List (κ × V)}, RelKs P w kvs us → (us.any fun kv => decide (kv.1 = k)) = (kvs.any fun kv => decide (kv.1 = k))
  | [], us, r => by
    have r : us = [] := r
    subst r; rfl
  | (j, d) :: kvs, us, ⟨v, us', e, h1, h2⟩ => by
    subst e
    rw [List.any_cons, List.any_cons, relKs_any h2]
theorem relKs_map {κ : Type} [DecidableEq κ] {w : Wd} {k : κ} {d : D} {v : V} (r : RelD P w d v) : ∀ {kvs : List (κ × D)} {us : List (κ × V)}, RelKs P w kvs us →
    RelKs P w (kvs.map fun kv => if kv.1 = k then (kv.1, d) else kv) (us.map fun kv => if kv.1 = k then (kv.1, v) else kv)
  | [], us, h => by
    have h : us = [] := h
    subst h; rfl
  | (j, d') :: kvs, us, ⟨v', us', e, h1, h2⟩ => by
    subst e
    rw [List.map_cons, List.map_cons]
    by_cases hj : j = k
    · simp only [hj, if_true]
      exact ⟨v, _, rfl, r, relKs_map r h2⟩
    · simp only [hj, if_false]
      exact ⟨v', _, rfl, h1, relKs_map r h2⟩
theorem relKs_snoc {κ : Type} {w : Wd} {k : κ} {d : D} {v : V} (r : RelD P w d v) : ∀ {kvs : List (κ × D)} {us : List (κ × V)}, RelKs P w kvs us → RelKs P w (kvs ++ [(k, d)]) (us ++ [(k, v)])
  | [], us, h => by
    have h : us = [] := h
    subst h; exact ⟨v, [], rfl, r, rfl⟩
  | (j, d') :: kvs, us, ⟨v', us', e, h1, h2⟩ => by
    subst e
    exact ⟨v', _, rfl, h1, relKs_snoc r h2⟩
theorem relKs_put {κ : Type} [DecidableEq κ] {w : Wd} {k : κ} {d : D} {v : V} {kvs : List (κ × D)} {us : List (κ × V)} (h : RelKs P w kvs us) (r : RelD P w d v) : RelKs P w (dctPut kvs k d) (putK us k v) := by
  unfold dctPut putK
  rw [relKs_any h]
  split
  · exact relKs_map r h
  · exact relKs_snoc r h
theorem relKs_lit {w : Wd} : ∀ {ks : List Str} {ds : List D} {vs : List V} {kvs : List (Option Key × D)} {us : List (Option Key × V)}, RelKs P w kvs us → RelDs P w ds vs → RelKs P w (dlitP ks ds kvs) (fPut (ks.zip vs) us)
  | [], ds, vs, kvs, us, h, r => by
    cases ds <;> exact h
  | k :: ks, [], vs, kvs, us, h, r => by
    have r : vs = [] := r
    subst r
    exact h
  | k :: ks, d :: ds, vs, kvs, us, h, r => by
    obtain ⟨v, vs', e, r1, r2⟩ := r
    subst e
    show RelKs P w (dlitP ks ds (dctPut kvs (some (.inr k)) d)) (fPut (ks.zip vs') (putK us (some (.inr k)) v))
    exact relKs_lit (relKs_put h r1) r2
end
theorem chkDs_len {C : Ctx} : ∀ (cs : CEs) {ks : List Str} {keys : List (Option Expr)} {vs : List Expr}, chkDs C ks cs keys vs = true → keys.length = ks.length ∧ vs.length = ks.length ∧ keys.all (·.isSome) = true
  | .nil, ks, keys, vs, h => by
    unfold chkDs at h
    split at h
    · exact ⟨rfl, rfl, rfl⟩
    · cases h
  | .cons c cs, ks, keys, vs, h => by
    unfold chkDs at h
    split at h
    · simp only [Bool.and_eq_true] at h
      obtain ⟨g1, g2, g3⟩ := chkDs_len cs h.2
      exact ⟨by rw [List.length_cons, List.length_cons, g1], by rw [List.length_cons, List.length_cons, g2], by rw [List.all_cons, g3]; rfl⟩
    · cases h
theorem relKs_getD {P : Pm} {κ : Type} [DecidableEq κ] {w : Wd} {k : κ} {z : D} {v : V} : ∀ {kvs : List (κ × D)} {us : List (κ × V)}, RelKs P w kvs us → RelD P w z v → RelD P w ((dctVal kvs k).getD z) ((valV us k).getD v)
  | [], us, h, r => by
    have h : us = [] := h
    subst h; exact r
  | (j, d) :: kvs, us, ⟨v', us', e, h1, h2⟩, r => by
    subst e
    by_cases hj : j = k
    · simp only [dctVal, valV, List.find?_cons, hj, decide_true]
      exact h1
    · have := relKs_getD (k := k) h2 r
      simp only [dctVal, valV, List.find?_cons, hj, decide_false] at this ⊢
      exact this
end DL
namespace DL
open PySem L2
structure SE (X : Cx) (P : Pm) (W : WX) (e : Expr) (r : RE × RT) : Prop where
  pe : PE X e (liE P W r.1)
  pt : PT X e (liT P W r.2)
  pw : ∀ op vs pos, e = .BoolOp op vs pos → PW X e (liT P W r.2)
def plainT : Expr → Bool
  | .UnaryOp .Not _ _ => false
  | .BoolOp .. => false
  | .IfExp .. => false
  | .Compare .. => false
  | _ => true
theorem relKs_no {P : Pm} {w : Wd} {f : Str} : ∀ {fs : List (Str × D)} {us : List (Str × V)}, RelKs P w fs us → (fs.map (·.1)).contains f = false → us.lookup f = none
  | [], us, h, _ => by
    have h : us = [] := h
    rw [h]; rfl
  | (k, d) :: r, _, ⟨v, us', e, h2, h3⟩, z => by
    subst e
    rw [List.map_cons, List.contains_cons, Bool.or_eq_false_iff] at z
    rw [List.lookup_cons, z.1]
    exact relKs_no h3 z.2
theorem zip_no {f : Str} : ∀ {ns : List Str} {vs : List V}, ns.contains f = false → (ns.zip vs).lookup f = none
  | [], _, _ => rfl
  | n :: ns, [], _ => rfl
  | n :: ns, v :: vs, z => by
    rw [List.contains_cons, Bool.or_eq_false_iff] at z
    rw [List.zip_cons_cons, List.lookup_cons, z.1]
    exact zip_no z.2
theorem EnvOk.blk {X : Cx} {P : Pm} {C : Ctx} {Φ : Nat → SpD} {κ : Nat → D} (O : EnvOk X P C Φ κ) (hot : C.X.hot = false) (s : Shared) (H : Hp) (scope : Scope) (A : Addr) (cl : List (Str × Addr)) (fp : List Addr) :
    EnvOk (X.blk s H scope (compEnvC scope cl A X.env) fp) P (C.blk scope) Φ κ where
  K := O.K
  pg := O.pg
  wl := O.wl
  calm := O.calm
  N := O.N
  nd := O.nd
  sc := by
    show relS scope X.env.scope = relS scope C.sc
    rw [O.sc]
  fn := fun x h => h
  hu := O.hu
  fun_ := O.fun_
  cst := O.cst
  blt := O.blt
  fl := O.fl
  mkr := O.mkr
  mt := O.mt
  kf := O.kf
  km := O.km
  kt := O.kt
  xs := O.xs
  xr := O.xr
  xi := O.xi
  xf := O.xf
  kd := O.kd
  hx := fun h => by
    have h : C.X.hot = true := h
    rw [hot] at h; cases h
  nst := fun n h => by cases h
theorem capsD_at {P : Pm} {w : Wd} {sd : Std} {σ : L2.St} (rs : RelSt P w sd σ) : ∀ {js : List Nat} {cs : List D}, capsD sd js = some cs → ∃ cvs : List V, js.map (NdefX.slotAt σ) = cvs.map some ∧ RelDs P w cs cvs
  | [], _, h => by cases h; exact ⟨[], rfl, rfl⟩
  | j :: js, cs, h => by
    unfold capsD at h
    split at h
    · rename_i d ds hd hds
      cases h
      obtain ⟨v, hv, r⟩ := rs.2 j d hd
      obtain ⟨cvs, h1, h2⟩ := capsD_at rs hds
      exact ⟨v :: cvs, by rw [List.map_cons, List.map_cons, h1, NdefX.slotAt_of hv], v, cvs, rfl, r, h2⟩
    · cases h
open PySem.Spec PyProof.Rows NdefX in
/-- a call of a function made here -/
theorem pe_callD {X : Cx} {i : Nat} {x : Str} {t : TA} {r : Addr → L2.St → List V → Hp → VK → Prop} {e : Expr} {es : List Expr} {p pos : Pos}
    (hr : ∀ (pins : List (Addr × Obj)) (s : Shared) (σ : L2.St) (H : Hp) (us : List Value) (vs : List V) (Q : VK) (f : Addr), Inv X pins σ H s → L2.Vals vs us → r f σ vs H Q → wpAny (model X.prog X.w) X.A (call (.ref f) us) (EP X pins σ Q) X.xe s)
    (hN : X.N[i]? = some x) (hv : Vis X.env.scope x) (ha : PA X (e :: es) t) (hd : (x == ("__debug__" : Str)) = false) (hcd : (x == ("__classdict__" : Str)) = false)
    (he : starEach (e :: es) X.env = (false, eval e X.env) :: starEach es X.env) (hpl : (backTo pos (starEach es X.env)).any (·.1) = false) :
    PE X (.Call (.Name x p) (e :: es) [] pos) (fun σ H Q => ∃ f F, σ[i]? = some (some (.ref f)) ∧ H f = some (FnO f F) ∧ t σ H fun vs H1 => (∃ F', H1 f = some (FnO f F')) ∧ r f σ vs H1 Q) := by
  refine ⟨fun pins s σ H Q I h => ?_⟩
  obtain ⟨f, F, hs, hf, ht⟩ := h
  refine wpAny_Call_Name_kw (thn ((pe_var (pos := p) hN hv hd hcd).run pins s σ H (fun v H1 => v = .ref f ∧ H1 = H) I ⟨.ref f, hs, rfl, rfl⟩) fun u s1 ⟨v, H1, I1, r1, q1⟩ => ?_)
  obtain ⟨ev, eH⟩ := q1
  subst ev
  rw [eH] at I1
  obtain rfl : u = Value.ref f := r1
  refine PySem.W.callWith_F (first := []) (fnAt_of I1 hf) (thn (ha.run pos pins s1 σ H _ I1 ht) fun us s2 ⟨vs, H2, I2, rv, ⟨F', h1⟩, q⟩ => ⟨fnAt_of I2 h1, ?_⟩) he hpl
  show wpAny _ _ (call (.ref f) us) _ _ _
  exact hr _ _ _ _ _ _ _ _ I2 rv q
section
variable {X : Cx} {P : Pm} {C : Ctx} {Φ : Nat → SpD} {κ : Nat → D} {W : WX}
theorem SE.val {e : Expr} {t : RE} (O : EnvOk X P C Φ κ) (h : PE X e (liE P W t)) (hp : plainT e = true) : SE X P W e (valT t) :=
  ⟨h, pt_of O h (by
    intro whole
    cases e <;> first
      | rfl
      | (exfalso; simp [plainT] at hp; done)
      | (rename_i op _ _; cases op <;> first | rfl | (exfalso; simp [plainT] at hp; done))), fun op vs pos q => by rw [q] at hp; exact absurd hp (by simp [plainT])⟩
theorem SE.tst {e : Expr} {t : RT} (h : PE X e (liE P W fun E σ M Q => t E σ M fun k M1 => Q (.bl k) M1)) (h2 : PT X e (liT P W t)) (hp : ∀ op vs pos, e ≠ .BoolOp op vs pos) : SE X P W e (tstT t) := ⟨h, h2, fun op vs pos q => absurd q (hp op vs pos)⟩
theorem liE_c {d : D} {v : V} (r : ∀ w, RelD P w d v) : ∀ σ H Q, liE P W (fun _ _ M Q => Q d M) σ H Q → tC v σ H Q := fun σ H Q q => by
  obtain ⟨w, M, sd, Qd, Ed, R, rs, l, lx, q⟩ := q
  exact l.same R (r w) q
/-- (fun k => Q (.bl k)) below -/
theorem lkT_of {w : Wd} {H : Hp} {Qd : QE} {Q : VK} (l : Lk P w H Qd Q) : LkT P w H (fun k M => Qd (.bl k) M) fun k H => Q (.bl k) H := fun w' M' H' b s R q => l w' M' H' (.bl b) _ s R rfl q
theorem LkT.on {w w' : Wd} {H H' : Hp} {Qd : Bool → Md → Prop} {Q : Bool → Hp → Prop} (l : LkT P w H Qd Q) (s : Step w H w' H') : LkT P w' H' Qd Q := fun w2 M2 H2 b s2 R q => l w2 M2 H2 b (s.trans s2) R q
theorem LkA.on {w w' : Wd} {H H' : Hp} {Qd : List D → Md → Prop} {Q : List V → Hp → Prop} (l : LkA P w H Qd Q) (s : Step w H w' H') : LkA P w' H' Qd Q := fun w2 M2 H2 b c s2 R r q => l w2 M2 H2 b c (s.trans s2) R r q
theorem LkO.on {w w' : Wd} {H H' : Hp} {Qd : Option Int → Md → Prop} {Q : Option Int → Hp → Prop} (l : LkO P w H Qd Q) (s : Step w H w' H') : LkO P w' H' Qd Q := fun w2 M2 H2 b s2 R q => l w2 M2 H2 b (s.trans s2) R q
theorem LkI.on {K : PySem.W.Frag} {w w' : Wd} {H H' : Hp} {Qd : List D → Option Nat → Md → Prop} {Q : It → Hp → Prop} (l : LkI P K w H Qd Q) (s : Step w H w' H') : LkI P K w' H' Qd Q := fun w2 M2 H2 a b c s2 R r q => l w2 M2 H2 a b c (s.trans s2) R r q
/-- built-ins by name -/
theorem sBt (O : EnvOk X P C Φ κ) {b : Bt} {x : Str} {p pos : Pos} {y : Expr} {ys : List Expr} {t : RA} (hb : ∀ T, b ≠ .isi T) (hx0 : okBltH C b x = true) (hy : plainE y = true) (hpl : (backTo pos (starEach ys X.env)).any (·.1) = false)
    (ha : PA X (y :: ys) (liA P W t)) : PE X (.Call (.Name x p) (y :: ys) [] pos) (liE P W fun E σ M Q => t E σ M fun ds M1 => btD b ds M1 Q) := by
  unfold okBltH at hx0
  rw [Bool.and_eq_true, Bool.or_eq_true, Bool.not_eq_true'] at hx0
  obtain ⟨hx, hot⟩ := hx0
  obtain ⟨hn, hg, hd, hm, _⟩ := blt_of O hx
  have cm : coolB b = false → X.calm = true := fun z => O.calm (by rcases hot with q | q; (rw [z] at q; cases q); exact q)
  have fin : ∀ {r : List V → Hp → VK → Prop}, (∀ xs H Q, liOA P (btD b) xs H Q → r xs H Q) → ∀ σ H Q, liE P W (fun E σ M Q => t E σ M fun ds M1 => btD b ds M1 Q) σ H Q → tCB r (liA P W t) σ H Q := fun {r} hr σ H Q q => by
    obtain ⟨w, M, sd, Qd, Ed, R, rs, l, lx, q⟩ := q
    exact ⟨w, M, sd, _, Ed, R, rs, fun w' M' H' ds vs s R' r' q => hr _ _ _ ⟨w', M', ds, Qd, R', r', l.on s, q⟩, lx, q⟩
  subst hn
  have st := star_of (es := ys) (env := X.env) hy
  cases b with
  | isi T => exact absurd rfl (hb T)
  | len => exact peI (pe_callB (bt_len O.K) hg hm (by show bootBuiltins "len" = _; exact PySem.boot_len) ha (by decide) hd st hpl) (fin fun _ _ _ h => h)
  | list => exact peI (pe_callTy (bt_list O.K false) hg hm (by show bootBuiltins "list" = _; decide +kernel) ha (by decide) hd st hpl) (fin fun _ _ _ h => h)
  | listM => exact peI (pe_callTy (bt_list O.K true) hg hm (by show bootBuiltins "list" = _; decide +kernel) ha (by decide) hd st hpl) (fin fun _ _ _ h => h)
  | tuple => exact peI (pe_callTy (bt_tuple O.K) hg hm (by show bootBuiltins "tuple" = _; decide +kernel) ha (by decide) hd st hpl) (fin fun _ _ _ h => h)
  | max2 => exact peI (pe_callB (bt_mm (cm rfl) true) hg hm (by show bootBuiltins "max" = _; decide +kernel) ha (by decide) hd st hpl) (fin fun _ _ _ h => h)
  | min2 => exact peI (pe_callB (bt_mm (cm rfl) false) hg hm (by show bootBuiltins "min" = _; decide +kernel) ha (by decide) hd st hpl) (fin fun _ _ _ h => h)
  | int => exact peI (pe_callTy bt_int hg hm (by show bootBuiltins "int" = _; decide +kernel) ha (by decide) hd st hpl) (fin fun _ _ _ h => h)
  | sorted => exact peI (pe_callB (bt_sorted O.K O.hu false) hg hm (by show bootBuiltins "sorted" = _; decide +kernel) ha (by decide) hd st hpl) (fin fun _ _ _ h => h)
  | sortedM => exact peI (pe_callB (bt_sorted O.K O.hu true) hg hm (by show bootBuiltins "sorted" = _; decide +kernel) ha (by decide) hd st hpl) (fin fun _ _ _ h => h)
  | sortedD => exact peI (pe_callB (bt_sortedD O.K O.pg O.wl O.hu (cm rfl)) hg hm (by show bootBuiltins "sorted" = _; decide +kernel) ha (by decide) hd st hpl) (fin fun _ _ _ h => h)
  | sum => exact peI (pe_callB (bt_sum O.K (cm rfl)) hg hm (by show bootBuiltins "sum" = _; decide +kernel) ha (by decide) hd st hpl) (fin fun _ _ _ h => h)
  | ord => exact peI (pe_callB bt_ord hg hm (by show bootBuiltins "ord" = _; decide +kernel) ha (by decide) hd st hpl) (fin fun _ _ _ h => h)
  | str => exact peI (pe_callTy bt_str hg hm (by show bootBuiltins "str" = _; decide +kernel) ha (by decide) hd st hpl) (fin fun _ _ _ h => h)
  | any => exact peI (pe_callB (bt_any O.K (cm rfl)) hg hm (by show bootBuiltins "any" = _; decide +kernel) ha (by decide) hd st hpl) (fin fun _ _ _ h => h)
  | all => exact peI (pe_callB (bt_all O.K (cm rfl)) hg hm (by show bootBuiltins "all" = _; decide +kernel) ha (by decide) hd st hpl) (fin fun _ _ _ h => h)
theorem obj_look {c g : Str} {w1 : Wd} {M1 : Md} {H1 : Hp} {d : D} {v : V} (R1 : RepM P w1 M1 H1) (r1 : RelD P w1 d v) (z : objD c g d M1) : ∃ a dx fs, v = .ref a ∧ H1 a = some (.ins (P.cls c) dx fs) ∧ fs.lookup g = none := by
  cases d with
  | ref k =>
    obtain ⟨p, e1, hp⟩ := r1
    subst e1
    unfold objD at z
    dsimp only at z
    cases hM : M1[k]? with
    | none => rw [hM] at z; exact z.elim
    | some mo =>
      rw [hM] at z
      cases mo with
      | ins c' us =>
        obtain ⟨q1, z⟩ := z
        subst q1
        obtain ⟨hF, dx, us, e2, hs⟩ := R1.cell k _ p hM hp
        exact ⟨p, dx, us, rfl, e2, relKs_no hs z⟩
      | _ => exact z.elim
  | obj c' ns ds =>
    obtain ⟨p, dx, vs, e1, hp, hl, hs⟩ := r1
    obtain ⟨q1, z⟩ := z
    subst q1; subst e1
    exact ⟨p, dx, ns.zip vs, rfl, R1.sub _ _ hp, zip_no z⟩
  | _ => exact z.elim
theorem plains {env : Env} {pos : Pos} : ∀ {cs : CEs} {es : List Expr}, chkEs C cs es = true → (backTo pos (starEach es env)).any (·.1) = false
  | .nil, [], _ => rfl
  | .nil, _ :: _, h => by simp [chkEs] at h
  | .cons _ _, [], h => by simp [chkEs] at h
  | .cons c cs, e :: es, h => by
    simp only [chkEs, Bool.and_eq_true] at h
    rw [star_of h.1.1]
    show (false || (backTo pos (starEach es env)).any (·.1)) = false
    rw [plains h.2]; rfl
theorem RelDs.scs {w : Wd} : ∀ {df : List Sc}, RelDs P w (df.map Sc.d) (df.map Sc.v)
  | [] => rfl
  | a :: df => ⟨a.v, _, rfl, by cases a <;> rfl, RelDs.scs⟩
/-- keywords by name, what they show -/
theorem chkKs_at {env : Env} {pos : Pos} {ks : List Str} : ∀ {zs : CEs} {ks : List Str} {kws : List Keyword}, chkKs C ks zs kws = true →
    (backToKw pos (keywordEach kws env)).all (·.1.isSome) = true ∧ (backToKw pos (keywordEach kws env)).filterMap (·.1) = ks ∧ (backToKw pos (keywordEach kws env)).any (·.1.isNone) = false
  | .nil, ks, kws, h => by
    unfold chkKs at h
    split at h
    · exact ⟨rfl, rfl, rfl⟩
    · cases h
  | .cons z zs, ks, kws, h => by
    unfold chkKs at h
    split at h
    · simp only [Bool.and_eq_true, beq_iff_eq] at h
      obtain ⟨⟨h1, h2⟩, h3⟩ := h
      obtain ⟨a, b, c⟩ := chkKs_at (env := env) (pos := pos) (ks := ks) h3
      refine ⟨?_, ?_, ?_⟩
      · show (true && (backToKw pos (keywordEach _ env)).all (·.1.isSome)) = true
        rw [a]; rfl
      · show _ :: (backToKw pos (keywordEach _ env)).filterMap (·.1) = _
        rw [b, h1]
      · show (false || (backToKw pos (keywordEach _ env)).any (·.1.isNone)) = false
        rw [c]; rfl
    · cases h
theorem kwform {ys : List Expr} {y : Expr} {kws : List Keyword} {env : Env} {pos : Pos} (h1 : (backTo pos (starEach (y :: ys) env)).any (·.1) = false) (h2 : (backToKw pos (keywordEach kws env)).all (·.1.isSome) = true) (h3 : ys.length + kws.length < 20) :
    methodCallForm ((y :: ys).length + kws.length) (backTo pos (starEach (y :: ys) env)) (backToKw pos (keywordEach kws env)) = true := by
  have e1 : (backTo pos (starEach (y :: ys) env)).all (fun x => !x.1) = true := by
    rw [List.all_eq_true]
    intro z hz
    have := List.any_eq_false.mp h1 z hz
    simpa using this
  unfold methodCallForm
  rw [e1, h2, Bool.true_and, Bool.true_and, decide_eq_true_eq, List.length_cons]
  split <;> omega
/-- a comprehension, from its parts -/
theorem sComp {m : Bool} {elt : CE} {t : Tg} {it : CI} {ifs : CO} {own : List Nat} {x tg iter : Expr} {fs : List Expr} {scope : Scope} {pos : Pos} (O : EnvOk X P C Φ κ) (tk : Takes X W)
    (h0 : (!C.X.hot && blkC C.N C.sc scope (own.filterMap fun i => (C.N[i]?).map fun n => (n, i))) = true) (h2 : (own.all fun i => decide (i < C.N.length)) = true) (h3 : (tgIdx t).all (fun i => own.contains i) = true) (h4 : plainE iter = true)
    (hg : ∀ (s : Shared) (H : Hp) (A : Addr) (cl : List (Str × Addr)) (fp : List Addr), PG (X.blk s H scope (compEnvC scope cl A X.env) fp) tg (liGC P (asgT t) (tgIdx t)))
    (hi : PI X tg iter (liI P X.K W (rdi Φ κ it)))
    (he : ∀ (s : Shared) (H : Hp) (A : Addr) (cl : List (Str × Addr)) (fp : List Addr), PE (X.blk s H scope (compEnvC scope cl A X.env) fp) x (liE P W0 (rd Φ κ elt).1))
    (ht : ∀ (s : Shared) (H : Hp) (A : Addr) (cl : List (Str × Addr)) (fp : List Addr), PTs (X.blk s H scope (compEnvC scope cl A X.env) fp) fs (liT P W0 (rdt Φ κ ifs))) :
    PE X (.ListComp x [⟨tg, iter, fs, 0⟩] scope pos) (liE P W (rd Φ κ (.comp m elt t it ifs own)).1) := by
  rw [Bool.and_eq_true, Bool.not_eq_true'] at h0
  obtain ⟨cm, h1⟩ := h0
  have e : (own.filterMap fun i => (C.N[i]?).map fun n => (n, i)).map (·.2) = own := by
    clear h1 h3
    induction own with
    | nil => rfl
    | cons i is ih =>
      rw [List.all_cons, Bool.and_eq_true, decide_eq_true_eq] at h2
      rw [List.filterMap_cons, List.getElem?_eq_getElem h2.1]
      simp only [Option.map_some, List.map_cons]
      rw [ih h2.2]
  refine peI (pe_lc (own := own.filterMap fun i => (C.N[i]?).map fun n => (n, i)) (O.calm cm) (by rw [O.N]; exact O.nd) hi (blkOk_by (by rw [O.N, O.sc]; exact h1)) hg ht he (folded_of h4)) fun σ H Q q => ?_
  rw [e]
  exact comp_lift (fun j hj => List.elem_iff.mp (List.all_eq_true.mp h3 j hj)) σ H Q q
theorem chkE_blt {C : Ctx} {b : Bt} {es : CEs} {e : Expr} (hb : ∀ T, b ≠ .isi T) : chkE C (.blt b es) e = (match e with
    | .Call (.Name x _) (y :: ys) [] _ => okBltH C b x && chkEs C es (y :: ys)
    | _ => false) := by
  cases b <;> first
    | rfl
    | (unfold chkE; rfl)
    | (exfalso; exact hb _ rfl)
theorem relDs_rg {P : Pm} {w : Wd} (a b : Int) : RelDs P w (rngD a b) (rgV a b) := by
  unfold rngD rgV
  generalize List.range (b - a).toNat = xs
  induction xs with
  | nil => exact rfl
  | cons x xs ih => exact ⟨_, _, rfl, rfl, ih⟩
/-- an object of the heap that nothing here names -/
theorem RepM.other {P : Pm} {w : Wd} {M : Md} {H : Hp} {p : Addr} (R : RepM P w M H) (h : H p = none) (o : HO) : RepM P w M (upd H p o) ∧ Step w H w (upd H p o) := by
  have hC : KpC w H w (upd H p o) := fun b q h1 h2 => ⟨h1, by rw [upd_ne fun z => by rw [z, h] at h2; cases h2]; exact h2⟩
  refine ⟨⟨fun a u e => ?_, R.len, R.nd, fun q hq => ?_, fun k m q hm hq => ?_, R.tab.on hC (fun a ps h1 h2 h3 => ⟨h1, h2, by rw [upd_ne fun z => by rw [z, h] at h3; cases h3]; exact h3⟩) (fun a ps z => z) fun b hb o' e => R.tab.nc b hb o' (by rw [upd_ne (fun z => R.inH b hb (by rw [z]; exact h))] at e; exact e)⟩, .refl _, fun a u e _ _ => ?_, fun a _ h1 h2 => ⟨h1, h2⟩, fun a e => upd_some e⟩
  · rw [upd_ne (ne_of_none (R.sub _ _ e) h)]; exact R.sub _ _ e
  · rw [upd_ne (fun z => R.inH q hq (by rw [z]; exact h))]; exact R.inH q hq
  · exact (R.cell k m q hm hq).mono (.refl _) (fun z => z) (upd_ne (fun z => R.inH q (List.mem_of_getElem? hq) (by rw [z]; exact h))) hC
  · rw [upd_ne (ne_of_none e h)]; exact e
theorem relKs_look {P : Pm} {w : Wd} {f : Str} : ∀ {fs : List (Str × D)} {us : List (Str × V)} {d : D}, RelKs P w fs us → fs.lookup f = some d → ∃ v, us.lookup f = some v ∧ RelD P w d v
  | [], _, _, _, h => by cases h
  | (g, x) :: fs, us, d, r, h => by
    obtain ⟨v, us', e, h2, h3⟩ := r
    subst e
    rw [List.lookup_cons] at h
    rw [List.lookup_cons]
    cases hb : f == g with
    | true => rw [hb] at h; cases h; exact ⟨v, rfl, h2⟩
    | false => rw [hb] at h; exact relKs_look h3 h
theorem relDs_look {P : Pm} {w : Wd} {f : Str} : ∀ {ns : List Str} {ds : List D} {vs : List V} {d : D}, ns.length = ds.length → RelDs P w ds vs → (ns.zip ds).lookup f = some d → ∃ v, (ns.zip vs).lookup f = some v ∧ RelD P w d v
  | [], _, _, _, _, _, h => by cases h
  | n :: ns, [], _, _, hl, _, _ => by cases hl
  | n :: ns, x :: ds, vs, d, hl, r, h => by
    obtain ⟨v, us', e, h2, h3⟩ := r
    subst e
    rw [List.zip_cons_cons, List.lookup_cons] at h
    rw [List.zip_cons_cons, List.lookup_cons]
    cases hb : f == n with
    | true => rw [hb] at h; cases h; exact ⟨v, rfl, h2⟩
    | false => rw [hb] at h; exact relDs_look (by simpa using hl) h3 h
theorem relKs_putF {P : Pm} {w : Wd} {f : Str} {d : D} {v : V} (rv : RelD P w d v) : ∀ {fs : List (Str × D)} {us : List (Str × V)}, RelKs P w fs us → RelKs P w (putFD f d fs) (putF f v us)
  | [], us, r => by
    have r : us = [] := r
    subst r
    exact ⟨v, [], rfl, rv, rfl⟩
  | (g, x) :: fs, us, r => by
    obtain ⟨y, us', e, h2, h3⟩ := r
    subst e
    unfold putFD putF
    by_cases h : g = f
    · rw [if_pos h, if_pos h]; exact ⟨v, us', rfl, rv, h3⟩
    · rw [if_neg h, if_neg h]; exact ⟨y, _, rfl, h2, relKs_putF rv h3⟩
theorem passNo {X : Cx} : Passes (L2.CX X.prog X.w) X fun _ _ _ => False := fun _ _ _ _ _ _ _ h => by
  obtain ⟨_, _, _, _, _, _, _, _, _, _, _, _, q⟩ := h
  exact q.elim
theorem make_fin {n : Nat} {c : Str} {m : Bool} {w : Wd} {H : Hp} {Q : VK} {Qd : QE} {Ed : EX} {E' : XK} {w1 : Wd} {M1 : Md} {H1 : Hp} {ds : List D} {vs : List V} (l : Lk P w H Qd Q) (lx : LkX P w H Ed E') (s1 : Step w H w1 H1) (R1 : RepM P w1 M1 H1) (r : RelDs P w1 ds vs)
    (q : Φ n (.ref M1.length :: ds) (M1 ++ [.ins c []]) (fun d M2 => d = .non ∧ if m = true then Qd (.ref M1.length) M2 else ∃ fs, M2 = M1 ++ [.ins c fs] ∧ RLtM M1.length (.ins c fs) ∧ Qd (.obj c (fs.map (·.1)) (fs.map (·.2))) M1) Ed) :
    ∀ x dx, H1 x = none → H1 dx = none → dx ≠ x → liSp P (Φ n) (.ref x :: vs) (upd (upd H1 dx (.own x)) x (.ins (P.cls c) dx [])) (fun v H2 => v = .non ∧ Q (.ref x) H2) E' := by
  intro xa dx hx hdx hne
  obtain ⟨R2, s2⟩ := R1.other hdx (.own xa)
  have hx2 : upd H1 dx (HO.own xa) xa = none := by rw [upd_ne (fun z => hne z.symm)]; exact hx
  obtain ⟨R3, s3⟩ := R2.newC hx2 (.ins (P.cls c) dx []) (.ins c []) .ins ⟨R2.Fnone hx2, dx, [], upd_same, rfl⟩
  have hself : RelD P { w1 with r := w1.r ++ [xa] } (.ref M1.length) (.ref xa) := ⟨xa, rfl, by show (w1.r ++ [xa])[M1.length]? = some xa; rw [R1.len]; simp⟩
  have le13 := s2.le.trans s3.le
  refine ⟨_, _, .ref M1.length :: ds, _, Ed, R3, ⟨.ref xa, vs, rfl, hself, r.mono le13⟩, fun w4 M4 H4 d v s4 R4 r4 q4 => ?_, lx.on ((s1.trans s2).trans s3), q⟩
  obtain ⟨q5, q6⟩ := q4
  subst q5
  refine ⟨r4, ?_⟩
  cases m with
  | true =>
    rw [if_pos rfl] at q6
    exact l w4 M4 H4 _ _ (((s1.trans s2).trans s3).trans s4) R4 (hself.mono s4.le) q6
  | false =>
    rw [if_neg Bool.false_ne_true] at q6
    obtain ⟨fs, e4, hlt, q6⟩ := q6
    subst e4
    obtain ⟨p', ep, hp'⟩ := hself.mono s4.le
    cases ep
    obtain ⟨w5, er, R5, s5, r5⟩ := R4.settleI (k := M1.length) (c := c) (fs := fs) (by simp) hp'
    have e5 : (M1 ++ [MO.ins c fs]).set M1.length .dead = M1 ++ [.dead] := by
      rw [List.set_append_right _ _ (Nat.le_refl _), Nat.sub_self]; rfl
    rw [e5] at R5
    have st := ((s2.trans s3).trans s4).trans s5
    have e6 : (M1 ++ [MO.dead]).take M1.length = M1 := by simp
    have R6 := R5.letgo (n := M1.length) (by simp) (by rw [e6]; exact R1.ok)
    rw [e6] at R6
    refine l _ M1 H4 _ _ (s1.trans (st.letgo (n := M1.length) (by rw [R1.len]; exact Nat.le_refl _))) R6 (r5.cut ?_) q6
    show RLts M1.length (fs.map (·.2))
    rw [RLts_iff]
    intro d hd
    obtain ⟨x, hx, rfl⟩ := List.mem_map.mp hd
    exact hlt x hx
/-- what stands of a held exception -/
theorem held_at {a Da : Addr} {oe : Obj} {od : Option Addr} {pins : List (Addr × Obj)} {σ : L2.St} {H : Hp} {st : Shared} (I : Inv X pins σ H st) (hp : (a, oe) ∈ X.pn) (hz : Zc (.ref Da) od oe) (hf : ∃ vs, oe.data = .fields vs)
    (hd : ∀ d, od = some d → ∃ us, H d = some (.xd us)) : ∃ odo : Option Obj, PySem.W.InstAt st.heap a oe Da odo ∧ ∀ d us, od = some d → H d = some (.xd us) → ∃ o2, odo = some o2 ∧ ∃ mA : Str → Option Value, (∀ f, PySem.W.lookIn f o2 = some (mA f)) ∧ ∀ f, RelO (us.lookup f) (mA f) := by
  obtain ⟨hget, _⟩ := I.pin (a, oe) (List.mem_append.mpr (.inl hp))
  obtain ⟨vs, hv⟩ := hf
  have hnc : PySem.W.notCls oe = true := by
    unfold PySem.W.notCls
    rw [hv] <;> rfl
  cases od with
  | none =>
    refine ⟨none, ⟨hget, hz.1, hnc, ?_⟩, fun d us z => by cases z⟩
    rw [hz.2]; trivial
  | some d =>
    obtain ⟨us, hu⟩ := hd d rfl
    have ok : ObjOk X.prog X.w H st.heap d (.xd us) := I.hok d _ hu
    obtain ⟨mA, n1, rel⟩ := ok
    obtain ⟨o2, ho, hl⟩ := lookIn_ns n1
    refine ⟨some o2, ⟨hget, hz.1, hnc, ?_⟩, fun d' us' z hu' => ?_⟩
    · rw [hz.2]; exact ho
    · cases z
      rw [hu] at hu'
      cases hu'
      exact ⟨o2, rfl, mA, hl, rel⟩
def rIsX (K : PySem.W.Frag) (Da a : Addr) (od : Option Addr) : List V → Hp → VK → Prop := fun xs H Q => ∃ (c : V) (cv : Value) (b : Bool), xs = [.ref a, c] ∧ (∀ u, RelV c u → u = cv) ∧ (∀ d, od = some d → ∃ us, H d = some (.xd us)) ∧ PySem.W.kitOne K (.ref Da) cv = some b ∧ Q (.bl b) H
theorem call_isX {a Da : Addr} {oe : Obj} {od : Option Addr} (hp : (a, oe) ∈ X.pn) (N : ExcN X.K Da) (hz : Zc (.ref Da) od oe) (hf : ∃ vs, oe.data = .fields vs) : CallR X (.builtin "isinstance") (rIsX X.K Da a od) := by
  intro pins st σ H xs us Q I rv q
  obtain ⟨c, cv, b, e, hc, hd, hk, q⟩ := q
  subst e
  cases rv with
  | cons r1 rr =>
    cases rr with
    | cons r2 rr =>
      cases rr
      cases r1
      cases hc _ r2
      obtain ⟨odo, J, _⟩ := held_at I hp hz hf hd
      exact PySem.W.kia_one (PySem.W.kitx_exc (x := a) (ox := oe) (od := odo) N.cl N.ga N.gt N.sb N.ca N.gs N.tk N.mr) I.kIn J hk (fun z => nomatch z) fun t => ⟨.bl b, H, I.kept (t' := t) fun _ _ z => z, rfl, q⟩
theorem ix_kd {es : Array DictEntry} {n : Nat} {d : Addr} (D : KDict X.K X.w d es n) : IxR X (fun x y H Q => ∃ (z : Str) (u0 : Value) (v0 : V), x = .ref d ∧ y = .str z ∧ PySem.W.nsIn X.K d z = some (some u0) ∧ RelV v0 u0 ∧ Q v0 H) := by
  intro value slice pins s σ H x y v u Q I rx ry h hs
  obtain ⟨z, u0, v0, rfl, rfl, e, r, q⟩ := h
  cases rx
  obtain ⟨t, rfl⟩ := ry
  refine PyProof.Rows.tail_any (kd_type D I) PySem.slot_dict_getitem.lookup ?_ hs
  exact PySem.wpAny_getItem_of (PySem.strKind_is X.prog X.w z t) (PySem.W.mapOf_K (prog := X.prog) I.kIn D.at_ D.lit) (PySem.W.find_K D.at_ e) ⟨v0, H, I.tok _, r, q⟩
theorem str_of {P : Pm} {w : Wd} {s : Str} {v : V} (r : RelD P w (.str s) v) : v = .str s := r
theorem sGin (O : EnvOk X P C Φ κ) {x : Str} {kv : List (Str × Str)} {l : Expr} {py pos : Pos} {t : RE} (h2 : okGlob C x = true) (h3 : C.X.kd.contains (x, kv) = true) (ia : PE X l (liE P W t)) :
    SE X P W (.Compare l [.In] [.Name x py] pos) (tstT fun E σ M Q => t E σ M fun d M1 => ginD kv d fun b => Q b M1) := by
  obtain ⟨a, es, n, hm, DD, tv⟩ := O.kd _ (List.elem_iff.mp h3)
  obtain ⟨g1, g2⟩ := glob_of O h2
  have ib : PE X (.Name x py) (tC (.ref a)) := pe_glob g1 hm rfl g2
  have key : ∀ {w : Wd} {M : Md} {H : Hp} {d : D} {v : V} {Qd : Bool → Md → Prop} {Q : VK}, RelD P w d v → (∀ b, Qd b M → Q (.bl b) H) → ginD kv d (fun b => Qd b M) → ∃ (z : Str) (r : Option Value), v = .str z ∧ V.ref a = .ref a ∧ PySem.W.nsIn X.K a z = some r ∧ Q (.bl r.isSome) H := by
    intro w M H d v Qd Q r l q
    cases d with
    | str s =>
      have e := str_of r
      subst e
      have q : Qd (kv.lookup s).isSome M := q
      have tz := tv s
      cases hl : kv.lookup s with
      | none =>
        simp only [hl] at tz q
        exact ⟨s, none, rfl, rfl, tz, l _ q⟩
      | some y =>
        simp only [hl] at tz q
        obtain ⟨u, e1, _⟩ := tz
        exact ⟨s, some u, rfl, rfl, e1, l _ q⟩
    | _ => exact q.elim
  refine .tst (peI (pe_cmpR (op_in_kd DD) ia ib (mark_of rfl)) fun σ H Q q => ?_) (ptI (pt_cmpR (op_in_kd DD) ia ib (mark_of rfl)) fun σ H Q q => ?_) (by intro _ _ _ z; cases z)
  · obtain ⟨w, M, sd, Qd, Ed, R, rs, l, lx, q⟩ := q
    refine ⟨w, M, sd, _, Ed, R, rs, fun w1 M1 H1 d v s1 R1 r1 q => ?_, lx, q⟩
    exact key (Qd := fun b M => Qd (.bl b) M) r1 (fun b q => l w1 M1 H1 (.bl b) _ s1 R1 rfl q) q
  · obtain ⟨w, M, sd, Qd, Ed, R, rs, l, lx, q⟩ := q
    refine ⟨w, M, sd, _, Ed, R, rs, fun w1 M1 H1 d v s1 R1 r1 q => ?_, lx, q⟩
    obtain ⟨z, r, e1, e2, e3, e4⟩ := key (Qd := fun b M => Qd b M) (Q := fun x H => ∃ k, x = .bl k ∧ Q k H) r1 (fun b q => ⟨b, rfl, l w1 M1 H1 b s1 R1 q⟩) q
    exact ⟨z, r, e1, e2, e3, e4⟩
theorem sGidx (O : EnvOk X P C Φ κ) {x : Str} {kv : List (Str × Str)} {l : Expr} {py pos : Pos} {t : RE} (h2 : okGlob C x = true) (h3 : C.X.kd.contains (x, kv) = true) (hp : plainE l = true) (ia : PE X l (liE P W t)) :
    SE X P W (.Subscript (.Name x py) l pos) (valT fun E σ M Q => t E σ M fun d M1 => gidxD kv d fun b => Q b M1) := by
  obtain ⟨a, es, n, hm, DD, tv⟩ := O.kd _ (List.elem_iff.mp h3)
  obtain ⟨g1, g2⟩ := glob_of O h2
  have ib : PE X (.Name x py) (tC (.ref a)) := pe_glob g1 hm rfl g2
  refine .val O (peI (pe_ix (ix_kd DD) ib ia (plain_ix hp)) fun σ H Q q => ?_) rfl
  obtain ⟨w, M, sd, Qd, Ed, R, rs, l, lx, q⟩ := q
  refine ⟨w, M, sd, _, Ed, R, rs, fun w1 M1 H1 d v s1 R1 r1 q => ?_, lx, q⟩
  cases d with
  | str s =>
    have e := str_of r1
    subst e
    have tz := tv s
    unfold gidxD at q
    cases hl : kv.lookup s with
    | none => simp only [hl] at q
    | some y =>
      simp only [hl] at tz q
      obtain ⟨u, e1, e2⟩ := tz
      exact ⟨s, u, .str y, rfl, rfl, e1, e2, l w1 M1 H1 (.str y) _ s1 R1 rfl q⟩
  | _ => exact q.elim
theorem sXis (O : EnvOk X P C Φ κ) {i : Nat} {T x y z : Str} {p py pz pos : Pos} (h1 : C.X.hot = true) (h2 : okBlt C "isinstance" x = true) (h3 : okVar C i y = true) (h4 : z = T) (h5 : (if T = ("ValueError" : Str) then okBlt C "ValueError" z else okGlob C z && C.X.xs.contains T) = true) :
    PE X (.Call (.Name x p) [.Name y py, .Name z pz] [] pos) (liE P W fun _ σ M Q => xheld σ i (κ 0) fun c _ _ => Q (.bl (xsub c T)) M) := by
  obtain ⟨a, od, c, ns, ds, oe, e0, hc, hp, hz, hf⟩ := O.hx h1
  obtain ⟨n1, g1, d1, m1, _⟩ := blt_of O h2
  obtain ⟨v1, v2, v3, v4⟩ := vis_of O h3
  subst n1
  obtain ⟨_, N, hv, _⟩ := O.xs c hc
  have hT : ∃ (tv : V) (cv : Value), PE X (.Name z pz) (tC tv) ∧ (∀ u, RelV tv u → u = cv) ∧ PySem.W.kitOne X.K (.ref (P.cls c)) cv = some (xsub c T) := by
    split at h5
    · next e =>
      obtain ⟨n2, g2, d2, m2, k2⟩ := blt_of O h5
      refine ⟨.ty "ValueError", .type "ValueError", pe_bltn g2 m2 (by rw [n2]; show bootBuiltins "ValueError" = _; decide +kernel) rfl k2 d2, fun u r => r, ?_⟩
      rw [hv, e]
      unfold xsub
      rw [show ((("ValueError" : Str) == ("ValueError" : Str)) : Bool) = true from beq_self_eq_true _]
      simp
    · rw [Bool.and_eq_true] at h5
      obtain ⟨g2, d2⟩ := glob_of O h5.1
      have hm : T ∈ C.X.xs := List.elem_iff.mp h5.2
      obtain ⟨k1, _, _, k3⟩ := O.xs T hm
      subst h4
      exact ⟨.ref (P.cls z), .ref (P.cls z), pe_glob g2 k1 rfl d2, fun u r => r, (k3 c hc).1⟩
  obtain ⟨tv, cv, hz2, hcv, hk⟩ := hT
  refine peI (pe_callB (call_isX hp N hz hf) g1 m1 (by show bootBuiltins "isinstance" = _; decide +kernel) (pa_cons (pe_var v1 v2 v3 v4) (pa_cons hz2 pa_nil)) (by decide) d1) fun σ H Q q => ?_
  obtain ⟨w, M, sd, Qd, Ed, R, rs, l, lx, q⟩ := q
  unfold xheld at q
  rw [e0] at q
  split at q
  · rename_i a1 od1 c1 ns1 ds1 a2 od2 c2 ns2 ds2 hs he
    cases he
    obtain ⟨q1, q2, q3, q⟩ := q
    subst q1 q2 q3
    obtain ⟨v, hv2, vs, e1, hw, _, _⟩ := rs.2 i _ hs
    subst e1
    exact ⟨_, hv2, tv, cv, _, rfl, hcv, fun d hd => ⟨_, R.sub _ _ (hw d hd)⟩, hk, l.same R (d := .bl _) rfl q⟩
  · exact q.elim
theorem sXfld (O : EnvOk X P C Φ κ) {i : Nat} {k f y : Str} {py pos : Pos} (h1 : C.X.hot = true) (h3 : okVar C i y = true) (h4 : C.X.xf.contains (k, f) = true) :
    PE X (.Attribute (.Name y py) f pos) (liE P W fun _ σ M Q => xdct (κ 0) ∧ xheld σ i (κ 0) fun c ns ds => c = k ∧ match (ns.zip ds).lookup f with
      | some x => Q x M
      | none => False) := by
  obtain ⟨a, od, c, ns, ds, oe, e0, hc, hp, hz, hf⟩ := O.hx h1
  obtain ⟨v1, v2, v3, v4⟩ := vis_of O h3
  obtain ⟨_, hno⟩ := O.xf _ (List.elem_iff.mp h4)
  obtain ⟨_, N, _, _⟩ := O.xs c hc
  refine ⟨fun pins st σ H Q I q => ?_⟩
  obtain ⟨w, M, sd, Qd, Ed, R, rs, l, lx, q0, q⟩ := q
  unfold xheld at q
  unfold xdct at q0
  rw [e0] at q q0
  split at q
  · rename_i a1 od1 c1 ns1 ds1 a2 od2 c2 ns2 ds2 hs he
    cases he
    obtain ⟨q1, q2, q3, q4, q⟩ := q
    subst q1 q2 q3 q4
    split at q
    · rename_i x hx
      obtain ⟨v, hv2, vs, e1, hw, hlen, hds⟩ := rs.2 i _ hs
      subst e1
      refine attr_of rfl (thn ((pe_var v1 v2 v3 v4).run pins st σ H (fun u H1 => u = .ref a1 ∧ H1 = H) I ⟨_, hv2, rfl, rfl⟩) fun u s1 hh => ?_)
      obtain ⟨u', H1, I1, ru, eu, eH⟩ := hh
      subst eu eH
      cases ru
      obtain ⟨vx, hvx, rx⟩ := relDs_look hlen hds hx
      cases od1 with
      | none => exact q0.elim
      | some d =>
        have hH := R.sub _ _ (hw d rfl)
        obtain ⟨odo, J, fin⟩ := held_at I1 hp hz hf fun d' e => by cases e; exact ⟨_, hH⟩
        obtain ⟨o2, e2, mA, hl, rel⟩ := fin d _ rfl hH
        subst e2
        obtain ⟨u, hu, ru⟩ := RelO.some_of (v := vx) (o := mA f) (by rw [← hvx]; exact rel f)
        exact HandSPX.exc_get I1.kIn J N.ga N.gt N.sb (PySem.W.findObj_own N.hd hno rfl (by rw [hl, hu])) (handed_of ru) ⟨vx, H1, I1.tok _, ru, l.same R rx q⟩
    · exact q.elim
  · exact q.elim
mutual
theorem sE : ∀ (c : CE) {X : Cx} {C : Ctx} {W : WX} {e : Expr}, EnvOk X P C Φ κ → Takes X W → chkE C c e = true → SE X P W e (rd Φ κ c)
  | .var i, X, C, W, e, O, tk, h => by
    unfold chkE at h
    split at h
    · rename_i x pos
      obtain ⟨h1, h2, h3, h4⟩ := vis_of O h
      refine .val O (peI (pe_var h1 h2 h3 h4) fun σ H Q q => ?_) rfl
      obtain ⟨w, M, sd, Qd, Ed, R, rs, l, lx, q⟩ := q
      split at q
      · rename_i d hd
        obtain ⟨v, hv, r⟩ := rs.2 i d hd
        exact ⟨v, hv, l.same R r q⟩
      · exact q.elim
    · cases h
  | .int i, X, C, W, e, O, tk, h => by
    unfold chkE at h
    split at h
    · rw [beq_iff_eq] at h
      subst h
      exact .val O (peI pe_int (liE_c (d := .int i) fun _ => rfl)) rfl
    · cases h
  | .str s, X, C, W, e, O, tk, h => by
    unfold chkE at h
    split at h
    · rw [beq_iff_eq] at h
      subst h
      exact .val O (peI pe_str (liE_c (d := .str s) fun _ => rfl)) rfl
    · cases h
  | .bl s, X, C, W, e, O, tk, h => by
    unfold chkE at h
    split at h
    · rw [beq_iff_eq] at h
      subst h
      exact .val O (peI pe_bl (liE_c (d := .bl s) fun _ => rfl)) rfl
    · cases h
  | .non, X, C, W, e, O, tk, h => by
    unfold chkE at h
    split at h
    · exact .val O (peI pe_non (liE_c (d := .non) fun _ => rfl)) rfl
    · cases h
  | .glob g, X, C, W, e, O, tk, h => by
    unfold chkE at h
    split at h
    · rename_i x pos
      rw [Bool.and_eq_true] at h
      obtain ⟨h1, h2⟩ := h
      split at h2
      · rename_i g' hg
        rw [beq_iff_eq] at h2
        subst h2
        obtain ⟨u, v, hm, r, rr⟩ := O.cst x g hg
        obtain ⟨g1, g2⟩ := glob_of O h1
        exact .val O (peI (pe_glob g1 hm r g2) (liE_c rr)) rfl
      · cases h2
    · cases h
  | .bin o a b, X, C, W, e, O, tk, h => by
    unfold chkE at h
    split at h
    · simp only [Bool.and_eq_true, beq_iff_eq] at h
      obtain ⟨⟨h1, h2⟩, h3⟩ := h
      subst h1
      exact .val O (peI (pe_op (op_sound O.K o) (sE a O tk h2).pe (sE b O tk h3).pe) (liE_op (o := opD o))) rfl
    · cases h
  | .neg a, X, C, W, e, O, tk, h => by
    unfold chkE at h
    split at h
    · refine .val O (peI (pe_un un_neg (sE a O tk h).pe) (liE_bind fun {w M H d v Qd Q} R r l q => ?_)) rfl
      cases d with
      | int i =>
        have r : v = .int i := r
        exact ⟨i, r, l.same R (d := .int _) rfl q⟩
      | _ => exact q.elim
    · cases h
  | .not a, X, C, W, e, O, tk, h => by
    unfold chkE at h
    split at h
    · have ih := sE a O tk h
      refine ⟨peI (pe_notT ih.pe) fun σ H Q q => ?_, ptI (pt_not ih.pt) fun σ H Q q => ?_, by intro _ _ _ z; cases z⟩
      · obtain ⟨w, M, sd, Qd, Ed, R, rs, l, lx, q⟩ := q
        refine ⟨w, M, sd, _, Ed, R, rs, fun w' M' H' d v s R' r q => ?_, lx, q⟩
        obtain ⟨k, h1, h2⟩ := truD_at R' r q
        exact ⟨k, O.K ▸ h1, (l.on s).same R' (d := .bl _) rfl h2⟩
      · obtain ⟨w, M, sd, Qd, Ed, R, rs, l, lx, q⟩ := q
        exact ⟨w, M, sd, _, Ed, R, rs, fun w' M' H' b s R' q => l w' M' H' (!b) s R' q, lx, q⟩
    · cases h
  | .and a b, X, C, W, e, O, tk, h => by
    unfold chkE at h
    split at h
    · rename_i x y rest pos
      rw [Bool.and_eq_true] at h
      have ia := sE a O tk h.1
      have both : PE X (.BoolOp .And (y :: rest) pos) (liE P W (rd Φ κ b).1) ∧ PW X (.BoolOp .And (y :: rest) pos) (liT P W (rd Φ κ b).2) := by
        have h2 := h.2
        split at h2
        · have ib := sE b O tk h2
          exact ⟨pe_one ib.pe, pw_and1 ib.pt⟩
        · have ib := sE b O tk h2
          exact ⟨ib.pe, ib.pw _ _ _ rfl⟩
      have pw : PW X (.BoolOp .And (x :: y :: rest) pos) (liT P W (rd Φ κ (.and a b)).2) := pwI (pw_and ia.pt both.2) fun σ H Q q => by
        obtain ⟨w, M, sd, Qd, Ed, R, rs, l, lx, q⟩ := q
        refine ⟨w, M, sd, _, Ed, R, rs, fun w' M' H' k s R' q => ?_, lx, q⟩
        cases k with
        | true => simp only [if_true] at q ⊢; exact ⟨w', M', sd, Qd, Ed, R', rs.mono s.le, l.on s, lx.on s, q⟩
        | false => simp only [Bool.false_eq_true, if_false] at q ⊢; exact l w' M' H' false s R' q
      refine ⟨peI (pe_andT ia.pe both.1) fun σ H Q q => ?_, pw.pt, fun op vs pos' z => by cases z; exact pw⟩
      obtain ⟨w, M, sd, Qd, Ed, R, rs, l, lx, q⟩ := q
      refine ⟨w, M, sd, _, Ed, R, rs, fun w' M' H' d v s R' r q => ?_, lx, q⟩
      obtain ⟨k, h1, h2⟩ := truD_at R' r q
      refine ⟨k, O.K ▸ h1, ?_⟩
      cases k with
      | true => simp only [if_true] at h2 ⊢; exact ⟨w', M', sd, Qd, Ed, R', rs.mono s.le, l.on s, lx.on s, h2⟩
      | false => simp only [Bool.false_eq_true, if_false] at h2 ⊢; exact l w' M' H' d v s R' r h2
    · cases h
  | .or a b, X, C, W, e, O, tk, h => by
    unfold chkE at h
    split at h
    · rename_i x y rest pos
      rw [Bool.and_eq_true] at h
      have ia := sE a O tk h.1
      have both : PE X (.BoolOp .Or (y :: rest) pos) (liE P W (rd Φ κ b).1) ∧ PW X (.BoolOp .Or (y :: rest) pos) (liT P W (rd Φ κ b).2) := by
        have h2 := h.2
        split at h2
        · have ib := sE b O tk h2
          exact ⟨pe_one ib.pe, pw_or1 ib.pt⟩
        · have ib := sE b O tk h2
          exact ⟨ib.pe, ib.pw _ _ _ rfl⟩
      have pw : PW X (.BoolOp .Or (x :: y :: rest) pos) (liT P W (rd Φ κ (.or a b)).2) := pwI (pw_or ia.pt both.2) fun σ H Q q => by
        obtain ⟨w, M, sd, Qd, Ed, R, rs, l, lx, q⟩ := q
        refine ⟨w, M, sd, _, Ed, R, rs, fun w' M' H' k s R' q => ?_, lx, q⟩
        cases k with
        | true => simp only [if_true] at q ⊢; exact l w' M' H' true s R' q
        | false => simp only [Bool.false_eq_true, if_false] at q ⊢; exact ⟨w', M', sd, Qd, Ed, R', rs.mono s.le, l.on s, lx.on s, q⟩
      refine ⟨peI (pe_orT ia.pe both.1) fun σ H Q q => ?_, pw.pt, fun op vs pos' z => by cases z; exact pw⟩
      obtain ⟨w, M, sd, Qd, Ed, R, rs, l, lx, q⟩ := q
      refine ⟨w, M, sd, _, Ed, R, rs, fun w' M' H' d v s R' r q => ?_, lx, q⟩
      obtain ⟨k, h1, h2⟩ := truD_at R' r q
      refine ⟨k, O.K ▸ h1, ?_⟩
      cases k with
      | true => simp only [if_true] at h2 ⊢; exact l w' M' H' d v s R' r h2
      | false => simp only [Bool.false_eq_true, if_false] at h2 ⊢; exact ⟨w', M', sd, Qd, Ed, R', rs.mono s.le, l.on s, lx.on s, h2⟩
    · cases h
  | .cmp c a b, X, C, W, e, O, tk, h => by
    unfold chkE at h
    split at h
    · simp only [Bool.and_eq_true, beq_iff_eq] at h
      obtain ⟨⟨⟨h1, h2⟩, h3⟩, h4⟩ := h
      subst h1
      have ia := sE a O tk h3
      have ib := sE b O tk h4
      refine .tst (peI (pe_cmpR (cp_sound O.K O.pg O.wl O.hu c) ia.pe ib.pe (mark_of h2)) (liE_op (o := cpR c))) (ptI (pt_cmpR (cp_sound O.K O.pg O.wl O.hu c) ia.pe ib.pe (mark_of h2)) liT_op) (by intro _ _ _ z; cases z)
    · cases h
  | .chain c1 c2 a b d, X, C, W, e, O, tk, h => by
    unfold chkE at h
    split at h
    · rename_i l op op2 r r2 pos
      simp only [Bool.and_eq_true, beq_iff_eq] at h
      obtain ⟨⟨⟨⟨⟨⟨h1, h2⟩, h3⟩, h4⟩, h5⟩, h6⟩, h7⟩ := h
      subst h1; subst h2
      have ia := sE a O tk h5
      have ib := sE b O tk h6
      have ic := sE d O tk h7
      have lm : lastMarks [cpO c1, cpO c2] [r, r2] = false := by
        show behindInMarks (cpO c2) r2 = false
        exact mark_of h4
      have key : ∀ {σ : L2.St} {H : Hp} {Q : VK} {K : Bool → Md → Prop}, (∃ w M sd Ed, RepM P w M H ∧ RelSt P w sd σ ∧ LkT P w H K (fun k H => Q (.bl k) H) ∧ LkX P w H Ed (WE W σ) ∧ (rd Φ κ (.chain c1 c2 a b d)).2 Ed sd M K) →
          tChain (liO2 P (cpR c1)) (liO2 P (cpR c2)) (liE P W (rd Φ κ a).1) (liE P W (rd Φ κ b).1) (liE P W (rd Φ κ d).1) σ H Q := fun {σ H Q K} q => by
        obtain ⟨w, M, sd, Ed, R, rs, l, lx, q⟩ := q
        refine ⟨w, M, sd, _, Ed, R, rs, fun w1 M1 H1 x v s1 R1 r1 q => ?_, lx, q⟩
        refine ⟨w1, M1, sd, _, Ed, R1, rs.mono s1.le, fun w2 M2 H2 y u s2 R2 r2 q => ?_, lx.on s1, q⟩
        have s12 := s1.trans s2
        refine ⟨w2, M2, x, y, fun z M => ∃ k, z = .bl k ∧ M = M2 ∧ if k = true then (rd Φ κ d).1 Ed sd M2 fun z M3 => cpD c2 y z M3 fun k => K k M3 else K false M2, R2, r1.mono s2.le, r2, fun w3 M3 H3 z t s3 R3 r3 q => ?_, ?_⟩
        · obtain ⟨k, e1, e2, q⟩ := q
          subst e1; subst e2
          have r3 : t = .bl k := r3
          have s13 := s12.trans s3
          refine ⟨k, r3, ?_⟩
          cases k with
          | true =>
            simp only [if_true] at q ⊢
            refine ⟨w3, M3, sd, _, Ed, R3, rs.mono s13.le, fun w4 M4 H4 z4 t4 s4 R4 r4 q => ?_, lx.on s13, q⟩
            refine ⟨w4, M4, y, z4, fun z M => ∃ k, z = .bl k ∧ K k M, R4, (r2.mono s3.le).mono s4.le, r4, fun w5 M5 H5 z5 t5 s5 R5 r5 q => ?_, ?_⟩
            · obtain ⟨k, e1, q⟩ := q
              subst e1
              have r5 : t5 = .bl k := r5
              subst r5
              exact l w5 M5 H5 k ((s13.trans s4).trans s5) R5 q
            · have e : (fun b => ∃ k, D.bl b = .bl k ∧ K k M4) = fun k => K k M4 := by
                funext b
                refine propext ⟨fun ⟨k, e, q⟩ => ?_, fun q => ⟨b, rfl, q⟩⟩
                cases e
                exact q
              show cpD c2 y z4 M4 fun b => ∃ k, D.bl b = .bl k ∧ K k M4
              rw [e]; exact q
          | false =>
            simp only [Bool.false_eq_true, if_false] at q ⊢
            exact l w3 M3 H3 false s13 R3 q
        · have e : (fun b => ∃ k, D.bl b = .bl k ∧ M2 = M2 ∧ if k = true then (rd Φ κ d).1 Ed sd M2 fun z M3 => cpD c2 y z M3 fun k => K k M3 else K false M2) = fun k => if k = true then (rd Φ κ d).1 Ed sd M2 fun z M3 => cpD c2 y z M3 fun k => K k M3 else K false M2 := by
            funext b
            refine propext ⟨fun ⟨k, e, _, q⟩ => ?_, fun q => ⟨b, rfl, rfl, q⟩⟩
            cases e
            exact q
          show cpD c1 x y M2 fun b => ∃ k, D.bl b = .bl k ∧ M2 = M2 ∧ if k = true then (rd Φ κ d).1 Ed sd M2 fun z M3 => cpD c2 y z M3 fun k => K k M3 else K false M2
          rw [e]; exact q
      refine .tst (peI (pe_chain (cp_sound O.K O.pg O.wl O.hu c1) (cp_sound O.K O.pg O.wl O.hu c2) ia.pe ib.pe ic.pe lm) fun σ H Q q => ?_) (ptI (pt_chain (cp_sound O.K O.pg O.wl O.hu c1) (cp_sound O.K O.pg O.wl O.hu c2) ia.pe ib.pe ic.pe lm) fun σ H Q q => ?_) (by intro _ _ _ z; cases z)
      · obtain ⟨w, M, sd, Qd, Ed, R, rs, l, lx, q⟩ := q
        exact key ⟨w, M, sd, Ed, R, rs, lkT_of l, lx, q⟩
      · obtain ⟨w, M, sd, Qd, Ed, R, rs, l, lx, q⟩ := q
        exact key (Q := fun x H => ∃ k, x = .bl k ∧ Q k H) ⟨w, M, sd, Ed, R, rs, fun w' M' H' b s R' q => ⟨b, rfl, l w' M' H' b s R' q⟩, lx, q⟩
    · cases h
  | .ife c a b, X, C, W, e, O, tk, h => by
    unfold chkE at h
    split at h
    · simp only [Bool.and_eq_true] at h
      have ic := sE c O tk h.1.1
      have ia := sE a O tk h.1.2
      have ib := sE b O tk h.2
      refine ⟨peI (pe_ifExp ic.pt ia.pe ib.pe) fun σ H Q q => ?_, ⟨fun pins s σ H Q I q => ?_⟩, by intro _ _ _ z; cases z⟩
      · obtain ⟨w, M, sd, Qd, Ed, R, rs, l, lx, q⟩ := q
        refine ⟨w, M, sd, _, Ed, R, rs, fun w' M' H' k s R' q => ?_, lx, q⟩
        cases k with
        | true => simp only [if_true] at q ⊢; exact ⟨w', M', sd, Qd, Ed, R', rs.mono s.le, l.on s, lx.on s, q⟩
        | false => simp only [Bool.false_eq_true, if_false] at q ⊢; exact ⟨w', M', sd, Qd, Ed, R', rs.mono s.le, l.on s, lx.on s, q⟩
      · obtain ⟨w, M, sd, Qd, Ed, R, rs, l, lx, q⟩ := q
        exact False.elim q
    · cases h
  | .tup es, X, C, W, e, O, tk, h => by
    unfold chkE at h
    split at h
    · refine .val O (peI (pe_tup (sEs es O tk h)) fun σ H Q q => ?_) rfl
      obtain ⟨w, M, sd, Qd, Ed, R, rs, l, lx, q⟩ := q
      exact ⟨w, M, sd, _, Ed, R, rs, fun w' M' H' ds vs s R' r q => ⟨by rw [r.length]; exact q.1, fun p hp => (l.on s).tup R' r hp q.2⟩, lx, q⟩
    · cases h
  | .lst m es, X, C, W, e, O, tk, h => by
    unfold chkE at h
    split at h
    · refine .val O (peI (pe_lst (sEs es O tk h)) fun σ H Q q => ?_) rfl
      obtain ⟨w, M, sd, Qd, Ed, R, rs, l, lx, q⟩ := q
      refine ⟨w, M, sd, _, Ed, R, rs, fun w' M' H' ds vs s R' r q => ⟨by rw [r.length]; exact q.1, fun p hp => ?_⟩, lx, q⟩
      cases m with
      | true => exact (l.on s).cell R' r hp q.2
      | false => exact (l.on s).lst R' r hp q.2
    · cases h
  | .idx a b, X, C, W, e, O, tk, h => by
    unfold chkE at h
    split at h
    · simp only [Bool.and_eq_true] at h
      exact .val O (peI (pe_ix (ix_sound O.K O.pg O.wl O.hu) (sE a O tk h.1.2).pe (sE b O tk h.2).pe (plain_ix h.1.1)) (liE_op (o := ixD))) rfl
    · cases h
  | .slc m a lo hi, X, C, W, e, O, tk, h => by
    unfold chkE at h
    split at h
    · simp only [Bool.and_eq_true] at h
      refine .val O (peI (pe_slice (sl_sound O.K m) (sE a O tk h.1.1).pe (sO lo O tk h.1.2) (sO hi O tk h.2)) fun σ H Q q => ?_) rfl
      obtain ⟨w, M, sd, Qd, Ed, R, rs, l, lx, q⟩ := q
      refine ⟨w, M, sd, _, Ed, R, rs, fun w1 M1 H1 d v s1 R1 r1 q => ?_, lx, q⟩
      refine ⟨w1, M1, sd, _, Ed, R1, rs.mono s1.le, fun w2 M2 H2 o s2 R2 q => ?_, lx.on s1, q⟩
      refine ⟨w2, M2, sd, _, Ed, R2, (rs.mono s1.le).mono s2.le, fun w3 M3 H3 o3 s3 R3 q => ?_, (lx.on s1).on s2, q⟩
      exact ⟨w3, M3, d, Qd, R3, (r1.mono s2.le).mono s3.le, ((l.on s1).on s2).on s3, q⟩
    · cases h
  | .call f es, X, C, W, e, O, tk, h => by
    unfold chkE at h
    split at h
    · rename_i x p ys pos
      simp only [Bool.and_eq_true] at h
      obtain ⟨⟨h1, h2⟩, h3⟩ := h
      split at h2
      · rename_i g hg
        rw [beq_iff_eq] at h2
        subst h2
        obtain ⟨k, a, fd, ps, hm, hk, F, hr, hb⟩ := O.fun_ x f hg
        obtain ⟨g1, g2⟩ := glob_of O h1
        cases ys with
        | nil =>
          have he : es = .nil := by
            cases es with
            | nil => rfl
            | cons c cs => simp [chkEs] at h3
          subst he
          refine .val O (peI (pe_call0S F hr g1 hm hk hb (fun σ => passAt tk σ) g2) fun σ H Q q => ?_) rfl
          obtain ⟨w, M, sd, Qd, Ed, R, rs, l, lx, q⟩ := q
          exact ⟨w, M, [], Qd, Ed, R, rfl, l, lx, q⟩
        | cons y ys =>
        have hy : plainE y = true := by
          cases es with
          | nil => simp [chkEs] at h3
          | cons c cs => simp only [chkEs, Bool.and_eq_true] at h3; exact h3.1.1
        have hpl : (backTo pos (starEach ys X.env)).any (·.1) = false := by
          cases es with
          | nil => simp [chkEs] at h3
          | cons c cs => simp only [chkEs, Bool.and_eq_true] at h3; exact plains h3.2
        refine .val O (peI (pe_callS F hr g1 hm hk hb (fun σ => passAt tk σ) (sEs es O tk h3) g2 (star_of hy) hpl) fun σ H Q q => ?_) rfl
        obtain ⟨w, M, sd, Qd, Ed, R, rs, l, lx, q⟩ := q
        exact ⟨w, M, sd, _, Ed, R, rs, fun w1 M1 H1 ds vs s R1 r q => ⟨w1, M1, ds, Qd, Ed, R1, r, l.on s, lx.on s, q⟩, lx, q⟩
      · cases h2
    · cases h
  | .calln i n js es, X, C, W, e, O, tk, h => by
    unfold chkE at h
    split at h
    · rename_i x p y ys pos
      simp only [Bool.and_eq_true] at h
      obtain ⟨⟨h1, h2⟩, h3⟩ := h
      obtain ⟨v1, v2, v3, v4⟩ := vis_of O h1
      have hy : plainE y = true := by
        cases es with
        | nil => simp [chkEs] at h3
        | cons c cs => simp only [chkEs, Bool.and_eq_true] at h3; exact h3.1.1
      have hpl : (backTo pos (starEach ys X.env)).any (·.1) = false := by
        cases es with
        | nil => simp [chkEs] at h3
        | cons c cs => simp only [chkEs, Bool.and_eq_true] at h3; exact plains h3.2
      refine .val O (peI (pe_callD (r := fun f σ vs H Q => ∃ cvs, js.map (NdefX.slotAt σ) = cvs.map some ∧ liSp P (Φ n) (.ref f :: (cvs ++ vs)) H Q (WE W σ)) (fun pins s σ H us vs Q f I rv ⟨cvs, q1, q⟩ => O.nst (n, js) (List.elem_iff.mp h2) cvs _ pins σ H s us vs f Q (passAt tk σ) I rv q1 q) v1 v2 (sEs es O tk h3) v3 v4 (star_of hy) hpl) fun σ H Q q => ?_) rfl
      obtain ⟨w, M, sd, Qd, Ed, R, rs, l, lx, q⟩ := q
      split at q
      · rename_i k cs hk hcs
        obtain ⟨v, hv, f, ev, hf⟩ := rs.2 i _ hk
        subst ev
        obtain ⟨q1, q⟩ := q
        have key : ∀ {w' M' H'}, RepM P w' M' H' → w'.r[k]? = some f → isFn M' k n → ∃ F, H' f = some (NdefX.FnO f F) := fun {w' M' H'} R' hf' z => by
          unfold isFn at z
          split at z
          · rename_i F m _ _ hm
            exact ⟨F, (R'.cell k _ f hm hf').2.1⟩
          · exact z.elim
        obtain ⟨F, hF⟩ := key R hf q1
        obtain ⟨cvs, hc1, hc2⟩ := capsD_at rs hcs
        refine ⟨f, F, hv, hF, w, M, sd, _, Ed, R, rs, fun w1 M1 H1 ds vs s1 R1 r1 q => ?_, lx, q⟩
        have hf1 := s1.le.r _ _ hf
        exact ⟨key R1 hf1 q.1, cvs, hc1, w1, M1, .ref k :: (cs ++ ds), Qd, Ed, R1, ⟨.ref f, cvs ++ vs, rfl, ⟨f, rfl, hf1⟩, (hc2.mono s1.le).append r1⟩, l.on s1, lx.on s1, q.2⟩
      · exact q.elim
    · cases h
  | .rev m a, X, C, W, e, O, tk, h => by
    unfold chkE at h
    split at h
    · rename_i x k p1 p2 p3 pos
      refine .val O (peI (pe_revL (sE a O tk h).pe) fun σ H Q q => ?_) rfl
      obtain ⟨w, M, sd, Qd, Ed, R, rs, l, lx, q⟩ := q
      refine ⟨w, M, sd, _, Ed, R, rs, fun w1 M1 H1 d v s1 R1 r1 q => ?_, lx, q⟩
      split at q
      · rename_i ds hl
        obtain ⟨p, vs, e1, e2, e3⟩ := lstOf_at R1 r1 hl
        refine ⟨p, vs, e1, SqL.of e2, fun q' hq => ?_⟩
        cases m with
        | true =>
          rw [if_pos rfl] at q
          exact (l.on s1).cell R1 e3.reverse hq q
        | false =>
          rw [if_neg Bool.false_ne_true] at q
          exact (l.on s1).lst R1 e3.reverse hq q
      · exact q.elim
    · cases h
  | .meth c m n o es, X, C, W, e, O, tk, h => by
    unfold chkE at h
    split at h
    · rename_i x g ap ys pos
      simp only [Bool.and_eq_true, beq_iff_eq, decide_eq_true_eq] at h
      obtain ⟨⟨⟨⟨⟨⟨h1, h2⟩, h3⟩, h4⟩, h5⟩, h6⟩, h7⟩ := h
      subst h1
      obtain ⟨k, f, fd, ps, hc, hm, F, hr, hb⟩ := O.mt _ (List.elem_iff.mp h5)
      have hpl0 : (backTo pos (starEach ys X.env)).any (·.1) = false := plains h7
      have hform : methodCallForm (ys.length + ([] : List Keyword).length) (backTo pos (starEach ys X.env)) (backToKw pos (keywordEach [] X.env)) = true := by
        have e1 : (backTo pos (starEach ys X.env)).all (fun x => !x.1) = true := by
          rw [List.all_eq_true]
          intro z hz
          have := List.any_eq_false.mp hpl0 z hz
          simpa using this
        show (((backTo pos (starEach ys X.env)).all (fun x => !x.1) && true) && decide (ys.length + 0 + 0 < 30)) = true
        rw [e1]
        simpa using h4
      have ht := meth_eq (o := x) (m := g) (apos := ap) (pos := pos) (args := ys) (env := X.env) (base_of h2) hform (beq_iff_eq.mpr h3)
      have look := @obj_look P c g
      cases ys with
      | nil =>
        have he : es = .nil := by
          cases es with
          | nil => rfl
          | cons c cs => simp [chkEs] at h7
        subst he
        refine .val O (peI (pe_methO0 (sE o O tk h6).pe hc hm F hr hb (fun σ => passAt tk σ) ht) fun σ H Q q => ?_) rfl
        obtain ⟨w, M, sd, Qd, Ed, R, rs, l, lx, q⟩ := q
        refine ⟨w, M, sd, _, Ed, R, rs, fun w1 M1 H1 d v s1 R1 r1 q => ?_, lx, q⟩
        obtain ⟨z, q⟩ := q
        obtain ⟨a, dx, fs, e1, e2, e3⟩ := look R1 r1 z
        exact ⟨a, dx, fs, e1, e2, e3, w1, M1, [d], Qd, Ed, R1, ⟨v, [], rfl, r1, rfl⟩, l.on s1, lx.on s1, q⟩
      | cons y ys =>
        have hy : plainE y = true := by
          cases es with
          | nil => simp [chkEs] at h7
          | cons c cs => simp only [chkEs, Bool.and_eq_true] at h7; exact h7.1.1
        have hpl : (backTo pos (starEach ys X.env)).any (·.1) = false := by
          cases es with
          | nil => simp [chkEs] at h7
          | cons c cs => simp only [chkEs, Bool.and_eq_true] at h7; exact plains h7.2
        refine .val O (peI (pe_methO (sE o O tk h6).pe hc hm F hr hb (fun σ => passAt tk σ) (sEs es O tk h7) (star_of hy) hpl ht) fun σ H Q q => ?_) rfl
        obtain ⟨w, M, sd, Qd, Ed, R, rs, l, lx, q⟩ := q
        refine ⟨w, M, sd, _, Ed, R, rs, fun w1 M1 H1 d v s1 R1 r1 q => ?_, lx, q⟩
        obtain ⟨z, q⟩ := q
        obtain ⟨a, dx, fs, e1, e2, e3⟩ := look R1 r1 z
        refine ⟨a, dx, fs, e1, e2, e3, w1, M1, sd, _, Ed, R1, rs.mono s1.le, fun w2 M2 H2 ds vs s2 R2 r2 q => ?_, lx.on s1, q⟩
        exact ⟨w2, M2, d :: ds, Qd, Ed, R2, ⟨v, vs, rfl, r1.mono s2.le, r2⟩, (l.on s1).on s2, (lx.on s1).on s2, q⟩
    · cases h
  | .xis i T, X, C, W, e, O, tk, h => by
    unfold chkE at h
    split at h
    · rename_i x p y py z pz pos
      simp only [Bool.and_eq_true, beq_iff_eq] at h
      obtain ⟨⟨⟨⟨h1, h2⟩, h3⟩, h4⟩, h5⟩ := h
      exact .val O (sXis O h1 h2 h3 h4 h5) rfl
    · cases h
  | .xfld i c f, X, C, W, e, O, tk, h => by
    unfold chkE at h
    split at h
    · rename_i y py g pos
      simp only [Bool.and_eq_true, beq_iff_eq] at h
      obtain ⟨⟨⟨h1, h2⟩, h3⟩, h4⟩ := h
      subst h2
      exact .val O (sXfld O h1 h3 h4) rfl
    · cases h
  | .gin x kv a, X, C, W, e, O, tk, h => by
    unfold chkE at h
    split at h
    · rename_i l y py pos
      simp only [Bool.and_eq_true, beq_iff_eq] at h
      obtain ⟨⟨⟨h1, h2⟩, h3⟩, h4⟩ := h
      subst h1
      exact sGin O h2 h3 (sE a O tk h4).pe
    · cases h
  | .gidx x kv a, X, C, W, e, O, tk, h => by
    unfold chkE at h
    split at h
    · rename_i y py z pos
      simp only [Bool.and_eq_true, beq_iff_eq] at h
      obtain ⟨⟨⟨⟨h1, h2⟩, h3⟩, h4⟩, h5⟩ := h
      subst h1
      exact sGidx O h2 h3 h4 (sE a O tk h5).pe
    · cases h
  | .blt b es, X, C, W, e, O, tk, h => by
    by_cases hT : ∃ T, b = .isi T
    · obtain ⟨T, hT⟩ := hT
      subst hT
      unfold chkE at h
      split at h
      · rename_i x p y z pz pos
        simp only [Bool.and_eq_true] at h
        obtain ⟨⟨⟨h1, h2⟩, h3⟩, h4⟩ := h
        split at h4
        · rename_i c
          rw [Bool.and_eq_true] at h4
          obtain ⟨n1, g1, d1, m1, _⟩ := blt_of O h1
          obtain ⟨n2, g2, d2, m2, k2⟩ := blt_of O h2
          rw [beq_iff_eq] at h3
          have hz : PE X (.Name z pz) (tC (.ty T)) := by
            exact pe_bltn g2 m2 h3 rfl k2 d2
          subst n1
          refine .val O (peI (pe_callB (bt_isi (T := T) O.K) g1 m1 (by show bootBuiltins "isinstance" = _; decide +kernel) (pa_cons (sE c O tk h4.2).pe (pa_cons hz pa_nil) (star_of h4.1)) (by decide) d1 (star_of h4.1)) fun σ H Q q => ?_) rfl
          obtain ⟨w, M, sd, Qd, Ed, R, rs, l, lx, q⟩ := q
          refine ⟨w, M, sd, _, Ed, R, rs, fun w1 M1 H1 d v s R1 r q => ?_, lx, q⟩
          exact ⟨v, rfl, w1, M1, [d], Qd, R1, .cons r .nil, l.on s, q⟩
        · cases h4
      · cases h
    · have hb : ∀ T, b ≠ .isi T := fun T z => hT ⟨T, z⟩
      have h' := (chkE_blt hb).symm.trans h
      split at h'
      · rename_i x p y ys pos
        rw [Bool.and_eq_true] at h'
        have hy : plainE y = true := by
          cases es with
          | nil => have := h'.2; simp [chkEs] at this
          | cons c cs => have := h'.2; simp only [chkEs, Bool.and_eq_true] at this; exact this.1.1
        have hpl : (backTo pos (starEach ys X.env)).any (·.1) = false := by
          cases es with
          | nil => have := h'.2; simp [chkEs] at this
          | cons c cs => have := h'.2; simp only [chkEs, Bool.and_eq_true] at this; exact plains this.2
        exact .val O (sBt O hb h'.1 hy hpl (sEs es O tk h'.2)) rfl
      · cases h'
  | .mth m o es, X, C, W, e, O, tk, h => by
    unfold chkE at h
    split at h
    · rename_i x n ap ys pos
      simp only [Bool.and_eq_true, beq_iff_eq] at h
      obtain ⟨⟨⟨⟨⟨h1, h2⟩, h3⟩, h4⟩, h5⟩, h6⟩ := h
      subst h1
      have io := sE o O tk h5
      have ies := sEs es O tk h6
      have fin : ∀ σ H Q, liE P W (rd Φ κ (.mth m o es)).1 σ H Q → liE P W (rd Φ κ o).1 σ H fun x H1 => tyV X.K (mtT m) x H1 ∧ liA P W (rds Φ κ es) σ H1 fun xs H2 => liM P m x xs H2 Q := fun σ H Q q => by
        obtain ⟨w, M, sd, Qd, Ed, R, rs, l, lx, q⟩ := q
        refine ⟨w, M, sd, _, Ed, R, rs, fun w1 M1 H1 d v s1 R1 r1 q => ⟨mtK_at O.K R1 r1 q.1, ?_⟩, lx, q⟩
        refine ⟨w1, M1, sd, _, Ed, R1, rs.mono s1.le, fun w2 M2 H2 ds vs s2 R2 r2 q => ?_, lx.on s1, q.2⟩
        exact ⟨w2, M2, d, ds, Qd, R2, r1.mono s2.le, r2, (l.on s1).on s2, q⟩
      cases ys with
      | nil =>
        have he : es = .nil := by
          cases es with
          | nil => rfl
          | cons c cs => simp [chkEs] at h6
        subst he
        refine .val O (peI (pe_bm0 (mt_pa m) (mt_slot m) (mt_type m) (mt_sound O.K m) io.pe (base_of h2) (beq_iff_eq.mpr h3)) fun σ H Q q => ?_) rfl
        obtain ⟨w, M, sd, Qd, Ed, R, rs, l, lx, q⟩ := q
        refine ⟨w, M, sd, _, Ed, R, rs, fun w1 M1 H1 d v s1 R1 r1 q => ⟨mtK_at O.K R1 r1 q.1, ?_⟩, lx, q⟩
        exact ⟨w1, M1, d, [], Qd, R1, r1, rfl, l.on s1, q.2⟩
      | cons y ys =>
        have hy : plainE y = true := by
          cases es with
          | nil => simp [chkEs] at h6
          | cons c cs => simp only [chkEs, Bool.and_eq_true] at h6; exact h6.1.1
        have hpl : (backTo pos (starEach ys X.env)).any (·.1) = false := by
          cases es with
          | nil => simp [chkEs] at h6
          | cons c cs => simp only [chkEs, Bool.and_eq_true] at h6; exact plains h6.2
        refine .val O (peI (pe_bm (mt_pa m) (mt_slot m) (mt_type m) (mt_sound O.K m) io.pe ies (base_of h2) ?_ (beq_iff_eq.mpr h3) (star_of hy) hpl) fin) rfl
        rw [star_of hy]
        have e1 : (backTo pos (starEach ys X.env)).all (fun x => !x.1) = true := by
          rw [List.all_eq_true]
          intro z hz
          have := List.any_eq_false.mp hpl z hz
          simpa using this
        have e2 : (y :: ys).length < 30 := by rw [h4]; cases m <;> decide
        show (((true && (backTo pos (starEach ys X.env)).all (fun x => !x.1)) && true) && decide ((y :: ys).length + 0 + 0 < 30)) = true
        rw [e1]
        simpa using e2
    · cases h
  | .comp m elt t it ifs own, X, C, W, e, O, tk, h => by
    unfold chkE at h
    split at h
    · rename_i x tg iter fs scope pos
      simp only [Bool.and_eq_true] at h
      obtain ⟨⟨⟨⟨⟨⟨⟨h1, h2⟩, h3⟩, h4⟩, h5⟩, h6⟩, h7⟩, h8⟩ := h
      have hot : C.X.hot = false := by have := h1.1; rwa [Bool.not_eq_true'] at this
      exact .val O (sComp O tk (by rw [Bool.and_eq_true]; exact h1) h2 h3 h4 (fun s H A cl fp => pgc_of (O.blk hot s H scope A cl fp) h5) (sI it O tk h6) (fun s H A cl fp => (sE elt (O.blk hot s H scope A cl fp) takes0 h7).pe) (fun s H A cl fp => sF ifs (O.blk hot s H scope A cl fp) takes0 h8)) rfl
    · cases h
  | .fld c a f, X, C, W, e, O, tk, h => by
    unfold chkE at h
    split at h
    · simp only [Bool.and_eq_true, beq_iff_eq] at h
      obtain ⟨⟨⟨h1, h2⟩, h3⟩, h4⟩ := h
      subst h1
      obtain ⟨hc, hn⟩ := O.fl _ (List.elem_iff.mp h2)
      refine .val O (peI (pe_fld (sE a O tk h4).pe (base_of h3)) fun σ H Q q => ?_) rfl
      obtain ⟨w, M, sd, Qd, Ed, R, rs, l, lx, q⟩ := q
      refine ⟨w, M, sd, _, Ed, R, rs, fun w1 M1 H1 d v s1 R1 r1 z => ?_, lx, q⟩
      clear q
      unfold fldD at z
      split at z
      · rename_i k
        obtain ⟨p, e1, hp⟩ := r1
        subst e1
        split at z
        · rename_i c' fs hm
          obtain ⟨q1, z⟩ := z
          subst q1
          split at z
          · rename_i x hx
            obtain ⟨hF, dx, us, e2, hs⟩ := R1.cell k _ p hm hp
            obtain ⟨v, hv, rv⟩ := relKs_look hs hx
            exact ⟨p, _, dx, us, v, rfl, e2, hc, hn, hv, (l.on s1) w1 M1 H1 _ _ (.refl _ _) R1 rv z⟩
          · exact z.elim
        · exact z.elim
      · rename_i c' ns ds
        obtain ⟨p, dx, vs, e1, hp, hl, hs⟩ := r1
        obtain ⟨q1, z⟩ := z
        subst q1; subst e1
        split at z
        · rename_i x hx
          obtain ⟨v, hv, rv⟩ := relDs_look hl hs hx
          exact ⟨p, _, dx, ns.zip vs, v, rfl, R1.sub _ _ hp, hc, hn, hv, (l.on s1) w1 M1 H1 _ _ (.refl _ _) R1 rv z⟩
        · exact z.elim
      · exact z.elim
    · cases h
  | .make m n c es, X, C, W, e, O, tk, h => by
    unfold chkE at h
    split at h
    · rename_i x p ys pos
      simp only [Bool.and_eq_true] at h
      obtain ⟨⟨h1, h2⟩, h3⟩ := h
      obtain ⟨k, f, fd, ps, hm, mk, F, hr, hb⟩ := O.mkr _ (List.elem_iff.mp h2)
      obtain ⟨g1, g2⟩ := glob_of O h1
      have fin : ∀ {w : Wd} {H : Hp} {Q : VK} {Qd : QE} {Ed : EX} {E' : XK} {w1 : Wd} {M1 : Md} {H1 : Hp} {ds : List D} {vs : List V}, Lk P w H Qd Q → LkX P w H Ed E' → Step w H w1 H1 → RepM P w1 M1 H1 → RelDs P w1 ds vs → _ → _ := fun l lx s1 R1 r q => make_fin (n := n) (c := c) (m := m) (Φ := Φ) l lx s1 R1 r q
      cases ys with
      | nil =>
        have he : es = .nil := by
          cases es with
          | nil => rfl
          | cons c cs => simp [chkEs] at h3
        subst he
        refine .val O (peI (pe_makeO0 mk F hr g1 hm hb (fun σ => passAt tk σ) g2) fun σ H Q q => ?_) rfl
        obtain ⟨w, M, sd, Qd, Ed, R, rs, l, lx, q⟩ := q
        exact fin (ds := []) (vs := []) l lx (.refl _ _) R RelDs.nil q
      | cons y ys =>
        have hy : plainE y = true := by
          cases es with
          | nil => simp [chkEs] at h3
          | cons c cs => simp only [chkEs, Bool.and_eq_true] at h3; exact h3.1.1
        have hpl : (backTo pos (starEach ys X.env)).any (·.1) = false := by
          cases es with
          | nil => simp [chkEs] at h3
          | cons c cs => simp only [chkEs, Bool.and_eq_true] at h3; exact plains h3.2
        refine .val O (peI (pe_makeO mk F hr g1 hm hb (fun σ => passAt tk σ) (sEs es O tk h3) g2 (star_of hy) hpl) fun σ H Q q => ?_) rfl
        obtain ⟨w, M, sd, Qd, Ed, R, rs, l, lx, q⟩ := q
        exact ⟨w, M, sd, _, Ed, R, rs, fun w1 M1 H1 ds vs s1 R1 r q => fin l lx s1 R1 r q, lx, q⟩
    · cases h
  | .callK f j es ks zs df, X, C, W, e, O, tk, h => by
    unfold chkE at h
    split at h
    · rename_i x p y ys kws pos
      simp only [Bool.and_eq_true, beq_iff_eq] at h
      obtain ⟨⟨⟨⟨h1, h5⟩, h2⟩, h3⟩, h4⟩ := h
      obtain ⟨k, a, fd, ps, g, hm, hk, F, hr, hb⟩ := O.kf _ (List.elem_iff.mp h2)
      obtain ⟨g1, g2⟩ := glob_of O h1
      have hy : plainE y = true := by
        cases es with
        | nil => simp [chkEs] at h3
        | cons c cs => simp only [chkEs, Bool.and_eq_true] at h3; exact h3.1.1
      have hpl := plains (env := X.env) (pos := pos) h3
      obtain ⟨k1, k2, k3⟩ := chkKs_at (env := X.env) (pos := pos) (ks := ks) h4
      refine .val O (peI (pe_callKO F hr g1 hm hk hb (fun σ => passAt tk σ) (sEs es O tk h3) (sKs zs O tk h4) k1 k2 g2 (star_of hy) (by rw [hpl, k3]; rfl)) fun σ H Q q => ?_) rfl
      obtain ⟨w, M, sd, Qd, Ed, R, rs, l, lx, q⟩ := q
      refine ⟨w, M, sd, _, Ed, R, rs, fun w1 M1 H1 ds vs s1 R1 r q => ?_, lx, q⟩
      obtain ⟨l1, q⟩ := q
      refine ⟨w1, M1, sd, _, Ed, R1, rs.mono s1.le, fun w2 M2 H2 us zs s2 R2 r2 q => ?_, lx.on s1, q⟩
      obtain ⟨l2, q⟩ := q
      exact ⟨by rw [r.length]; exact l1, by rw [r2.length]; exact l2, w2, M2, _, Qd, Ed, R2, (r.mono s2.le).append (r2.append RelDs.scs), (l.on s1).on s2, (lx.on s1).on s2, q⟩
    · cases h
  | .makeK m n c j es ks zs df, X, C, W, e, O, tk, h => by
    unfold chkE at h
    split at h
    · rename_i x p y ys kws pos
      simp only [Bool.and_eq_true, beq_iff_eq] at h
      obtain ⟨⟨⟨⟨h1, h5⟩, h2⟩, h3⟩, h4⟩ := h
      obtain ⟨k, f, fd, ps, g, hm, mk, F, hr, hb⟩ := O.km _ (List.elem_iff.mp h2)
      obtain ⟨g1, g2⟩ := glob_of O h1
      have hy : plainE y = true := by
        cases es with
        | nil => simp [chkEs] at h3
        | cons c cs => simp only [chkEs, Bool.and_eq_true] at h3; exact h3.1.1
      have hpl := plains (env := X.env) (pos := pos) h3
      obtain ⟨k1, k2, k3⟩ := chkKs_at (env := X.env) (pos := pos) (ks := ks) h4
      refine .val O (peI (pe_makeKO mk F hr g1 hm hb (fun σ => passAt tk σ) (sEs es O tk h3) (sKs zs O tk h4) k1 k2 g2 (star_of hy) (by rw [hpl, k3]; rfl)) fun σ H Q q => ?_) rfl
      obtain ⟨w, M, sd, Qd, Ed, R, rs, l, lx, q⟩ := q
      refine ⟨w, M, sd, _, Ed, R, rs, fun w1 M1 H1 ds vs s1 R1 r q => ?_, lx, q⟩
      obtain ⟨l1, q⟩ := q
      refine ⟨w1, M1, sd, _, Ed, R1, rs.mono s1.le, fun w2 M2 H2 us zs s2 R2 r2 q => ?_, lx.on s1, q⟩
      obtain ⟨l2, q⟩ := q
      refine ⟨by rw [r.length]; exact l1, by rw [r2.length]; exact l2, ?_⟩
      exact make_fin (n := n) (c := c) (m := m) (Φ := Φ) l lx (s1.trans s2) R2 ((r.mono s2.le).append (r2.append RelDs.scs)) q
    · cases h
  | .methK c m n o j es ks zs df, X, C, W, e, O, tk, h => by
    unfold chkE at h
    split at h
    · rename_i x g ap y ys kws pos
      simp only [Bool.and_eq_true, beq_iff_eq, decide_eq_true_eq] at h
      obtain ⟨⟨⟨⟨⟨⟨⟨⟨h1, h2⟩, h3⟩, h4⟩, h9⟩, h5⟩, h6⟩, h7⟩, h8⟩ := h
      subst h1
      obtain ⟨k, f, fd, ps, gg, hc, hm, F, hr, hb⟩ := O.kt _ (List.elem_iff.mp h5)
      have hy : plainE y = true := by
        cases es with
        | nil => simp [chkEs] at h7
        | cons c cs => simp only [chkEs, Bool.and_eq_true] at h7; exact h7.1.1
      have hpl := plains (env := X.env) (pos := pos) h7
      obtain ⟨k1, k2, k3⟩ := chkKs_at (env := X.env) (pos := pos) (ks := ks) h8
      have ht := meth_eqK (o := x) (m := g) (apos := ap) (pos := pos) (args := y :: ys) (kws := kws) (env := X.env) (base_of h2) (kwform hpl k1 h4) (beq_iff_eq.mpr h3)
      refine .val O (peI (pe_methKO (sE o O tk h6).pe hc hm F hr hb (fun σ => passAt tk σ) (sEs es O tk h7) (sKs zs O tk h8) k1 k2 (star_of hy) (by rw [hpl, k3]; rfl) ht) fun σ H Q q => ?_) rfl
      obtain ⟨w, M, sd, Qd, Ed, R, rs, l, lx, q⟩ := q
      refine ⟨w, M, sd, _, Ed, R, rs, fun w1 M1 H1 d v s1 R1 r1 q => ?_, lx, q⟩
      obtain ⟨z, q⟩ := q
      obtain ⟨a, dx, fs, e1, e2, e3⟩ := obj_look R1 r1 z
      refine ⟨a, dx, fs, e1, e2, e3, w1, M1, sd, _, Ed, R1, rs.mono s1.le, fun w2 M2 H2 ds vs s2 R2 r2 q => ?_, lx.on s1, q⟩
      obtain ⟨l1, q⟩ := q
      refine ⟨w2, M2, sd, _, Ed, R2, (rs.mono s1.le).mono s2.le, fun w3 M3 H3 us zs s3 R3 r3 q => ?_, (lx.on s1).on s2, q⟩
      obtain ⟨l2, q⟩ := q
      refine ⟨by rw [r2.length]; exact l1, by rw [r3.length]; exact l2, w3, M3, d :: (ds ++ (us ++ df.map Sc.d)), Qd, Ed, R3, ⟨v, _, rfl, (r1.mono s2.le).mono s3.le, ?_⟩, ((l.on s1).on s2).on s3, ((lx.on s1).on s2).on s3, q⟩
      exact (r2.mono s3.le).append (r3.append RelDs.scs)
    · cases h
  | .listRg m a, X, C, W, e, O, tk, h => by
    unfold chkE at h
    split at h
    · simp only [Bool.and_eq_true] at h
      obtain ⟨⟨⟨h1, h2⟩, h3, h5⟩, h4⟩ := h
      rw [Bool.not_eq_true'] at h5
      obtain ⟨hn, hg, hd, hm, _⟩ := blt_of O h1
      obtain ⟨hn2, hg2, hd2, hm2, _⟩ := blt_of O h2
      subst hn; subst hn2
      refine .val O (peI (pe_listRg (O.calm h5) hg hm (prg_1 hg2 hm2 (sE a O tk h4).pe (star_of h3)) rfl) fun σ H Q q => ?_) rfl
      obtain ⟨w, M, sd, Qd, Ed, R, rs, l, lx, q⟩ := q
      refine ⟨w, M, sd, _, Ed, R, rs, fun w1 M1 H1 d v s1 R1 r1 q => ?_, lx, q⟩
      cases d with
      | int j =>
        have r1 : v = .int j := r1
        subst r1
        obtain ⟨q1, q2, q⟩ := q
        refine ⟨j, rfl, ⟨by omega, by omega, by omega, by omega, by omega⟩, fun p hp => ?_⟩
        cases m with
        | true => exact (l.on s1).cell R1 (relDs_rg 0 j) hp q
        | false => exact (l.on s1).lst R1 (relDs_rg 0 j) hp q
      | _ => exact q.elim
    · cases h
  | .dnew, X, C, W, e, O, tk, h => by
    unfold chkE at h
    split at h
    · refine .val O (peI pe_dnewF fun σ H Q q => ?_) rfl
      obtain ⟨w, M, sd, Qd, Ed, R, rs, l, lx, q⟩ := q
      intro p hp
      rw [← O.pg, ← O.wl]
      have le : Le w { w with r := w.r ++ [p] } := ⟨fun _ _ e => e, fun k q e => by
        show (w.r ++ [p])[k]? = some q
        rw [List.getElem?_append_left (List.getElem?_eq_some_iff.mp e).1]; exact e⟩
      obtain ⟨R', s⟩ := R.newC hp (FD P.pg P.wl p []) (.dct []) .fd ⟨R.Fnone hp, [], upd_same, rfl⟩
      exact l _ _ _ (.ref M.length) _ s R' ⟨p, rfl, by show (w.r ++ [p])[M.length]? = some p; rw [R.len]; simp⟩ q
    · cases h
  | .dget o k x, X, C, W, e, O, tk, h => by
    unfold chkE at h
    split at h
    · rename_i y n ap a b pos
      simp only [Bool.and_eq_true, beq_iff_eq] at h
      obtain ⟨⟨⟨⟨⟨⟨⟨h1, h2⟩, h3⟩, h4⟩, h5⟩, h6⟩, h7⟩, h8⟩ := h
      subst h1
      have sb : starEach [a, b] X.env = [(false, eval a X.env), (false, eval b X.env)] := by rw [star_of h4, star_of h5]; rfl
      refine .val O (peI (pe_fget2 (by have := O.hu; omega) (sE o O tk h6).pe (sE k O tk h7).pe (sE x O tk h8).pe ⟨base_of h2, by rw [sb]; rfl, beq_iff_eq.mpr h3, by rw [sb]; rfl⟩) fun σ H Q q => ?_) rfl
      obtain ⟨w, M, sd, Qd, Ed, R, rs, l, lx, q⟩ := q
      refine ⟨w, M, sd, _, Ed, R, rs, fun w1 M1 H1 d v s1 R1 r1 q => ?_, lx, q⟩
      obtain ⟨⟨i, kvs, ed, hm⟩, q⟩ := q
      subst ed
      obtain ⟨p, ev, hp⟩ := r1
      obtain ⟨hF, us, e2, _⟩ := R1.cell i _ p hm hp
      rw [O.pg, O.wl] at e2
      refine ⟨p, us, ev, e2, ?_⟩
      refine ⟨w1, M1, sd, _, Ed, R1, rs.mono s1.le, fun w2 M2 H2 y v2 s2 R2 r2 q => ?_, lx.on s1, q⟩
      refine ⟨w2, M2, sd, _, Ed, R2, (rs.mono s1.le).mono s2.le, fun w3 M3 H3 z v3 s3 R3 r3 q => ?_, (lx.on s1).on s2, q⟩
      have hp3 : w3.r[i]? = some p := s3.le.2 _ _ (s2.le.2 _ _ hp)
      unfold dgetD at q
      dsimp only at q
      split at q
      · rename_i kvs3 hm3
        split at q
        · rename_i ky hk
          obtain ⟨hF3, us3, e3, hs3⟩ := R3.cell i _ p hm3 hp3
          have hv := keyD_at (r2.mono s3.le) hk
          rw [O.pg, O.wl] at e3
          refine ⟨us3, ky, e3, hv, ?_⟩
          exact (((l.on s1).on s2).on s3).same R3 (relKs_getD hs3 r3) q
        · exact q.elim
      · exact q.elim
    · cases h
  | .dlit ks es, X, C, W, e, O, tk, h => by
    unfold chkE at h
    split at h
    · rename_i keys vs pos
      simp only [Bool.and_eq_true, decide_eq_true_eq] at h
      obtain ⟨⟨h1, h2⟩, h3⟩ := h
      obtain ⟨g1, g2, g3⟩ := chkDs_len es h3
      refine .val O (peI (pe_dlitF (sDs es O tk h3) g3 (by rw [g1, g2]) (fun z => by rw [z] at g1; cases ks with
        | nil => cases h1
        | cons _ _ => cases g1) (by rw [g1]; exact h2) h2) fun σ H Q q => ?_) rfl
      obtain ⟨w, M, sd, Qd, Ed, R, rs, l, lx, q⟩ := q
      intro p hp
      rw [← O.pg, ← O.wl]
      have le : Le w { w with r := w.r ++ [p] } := ⟨fun _ _ e => e, fun k q e => by
        show (w.r ++ [p])[k]? = some q
        rw [List.getElem?_append_left (List.getElem?_eq_some_iff.mp e).1]; exact e⟩
      obtain ⟨R', s⟩ := R.newC hp (FD P.pg P.wl p []) (.dct []) .fd ⟨R.Fnone hp, [], upd_same, rfl⟩
      have hpw : ({ w with r := w.r ++ [p] } : Wd).r[M.length]? = some p := by show (w.r ++ [p])[M.length]? = some p; rw [R.len]; simp
      refine ⟨_, _, sd, _, Ed, R', rs.mono s.le, fun w2 M2 H2 ds us s2 R2 r2 q => ?_, lx.on s, q⟩
      obtain ⟨hm, q⟩ := q
      have hp2 : w2.r[M.length]? = some p := s2.le.2 _ _ hpw
      obtain ⟨hF, us0, e2, hs⟩ := R2.cell M.length _ p hm hp2
      have hs : us0 = [] := hs
      subst hs
      obtain ⟨R3, s3⟩ := R2.write (o := FD P.pg P.wl p (fPut (ks.zip us) [])) (m' := .dct (dlitP ks ds [])) hm hF hp2 .fd ⟨hF, _, upd_same, relKs_lit rfl r2⟩
      exact ⟨e2, l _ _ _ (.ref M.length) _ (s.trans (s2.trans s3)) R3 ⟨p, rfl, hp2⟩ q⟩
    · cases h
  | .dnewT, X, C, W, e, O, tk, h => by
    unfold chkE at h
    split at h
    · refine .val O (peI pe_dnewT fun σ H Q q => ?_) rfl
      obtain ⟨w, M, sd, Qd, Ed, R, rs, l, lx, q⟩ := q
      intro p hp
      rw [← O.pg, ← O.wl]
      have le : Le w { w with r := w.r ++ [p] } := ⟨fun _ _ e => e, fun k q e => by
        show (w.r ++ [p])[k]? = some q
        rw [List.getElem?_append_left (List.getElem?_eq_some_iff.mp e).1]; exact e⟩
      obtain ⟨R', s⟩ := R.newC hp (TD P.pg P.wl p []) (.dctT []) .td ⟨R.Fnone hp, [], upd_same, rfl⟩
      exact l _ _ _ (.ref M.length) _ s R' ⟨p, rfl, by show (w.r ++ [p])[M.length]? = some p; rw [R.len]; simp⟩ q
    · cases h
theorem sEs : ∀ (cs : CEs) {X : Cx} {C : Ctx} {W : WX} {es : List Expr}, EnvOk X P C Φ κ → Takes X W → chkEs C cs es = true → PA X es (liA P W (rds Φ κ cs))
  | .nil, X, C, W, es, O, tk, h => by
    unfold chkEs at h
    split at h
    · refine paI pa_nil fun σ H Q q => ?_
      obtain ⟨w, M, sd, Qd, Ed, R, rs, l, lx, q⟩ := q
      exact l w M H [] [] (.refl _ _) R rfl q
    · cases h
  | .cons c cs, X, C, W, es, O, tk, h => by
    unfold chkEs at h
    split at h
    · simp only [Bool.and_eq_true] at h
      refine paI (pa_cons (sE c O tk h.1.2).pe (sEs cs O tk h.2) (star_of h.1.1)) fun σ H Q q => ?_
      obtain ⟨w, M, sd, Qd, Ed, R, rs, l, lx, q⟩ := q
      refine ⟨w, M, sd, _, Ed, R, rs, fun w1 M1 H1 d v s1 R1 r1 q => ?_, lx, q⟩
      refine ⟨w1, M1, sd, _, Ed, R1, rs.mono s1.le, fun w2 M2 H2 ds vs s2 R2 r2 q => ?_, lx.on s1, q⟩
      exact l w2 M2 H2 (d :: ds) (v :: vs) (s1.trans s2) R2 (.cons (r1.mono s2.le) r2) q
    · cases h
theorem sKs : ∀ (cs : CEs) {X : Cx} {C : Ctx} {W : WX} {ks : List Str} {kws : List Keyword}, EnvOk X P C Φ κ → Takes X W → chkKs C ks cs kws = true → PK X kws (liA P W (rds Φ κ cs))
  | .nil, X, C, W, ks, kws, O, tk, h => by
    unfold chkKs at h
    split at h
    · refine ⟨fun pos pins s σ H Q I q => pk_nil.run pos pins s σ H Q I ?_⟩
      obtain ⟨w, M, sd, Qd, Ed, R, rs, l, lx, q⟩ := q
      exact l w M H [] [] (.refl _ _) R rfl q
    · cases h
  | .cons c cs, X, C, W, ks, kws, O, tk, h => by
    unfold chkKs at h
    split at h
    · simp only [Bool.and_eq_true] at h
      refine ⟨fun pos pins s σ H Q I q => (pk_cons (sE c O tk h.1.2).pe (sKs cs O tk h.2)).run pos pins s σ H Q I ?_⟩
      obtain ⟨w, M, sd, Qd, Ed, R, rs, l, lx, q⟩ := q
      refine ⟨w, M, sd, _, Ed, R, rs, fun w1 M1 H1 d v s1 R1 r1 q => ?_, lx, q⟩
      refine ⟨w1, M1, sd, _, Ed, R1, rs.mono s1.le, fun w2 M2 H2 ds vs s2 R2 r2 q => ?_, lx.on s1, q⟩
      exact l w2 M2 H2 (d :: ds) (v :: vs) (s1.trans s2) R2 (.cons (r1.mono s2.le) r2) q
    · cases h
theorem sDs : ∀ (cs : CEs) {X : Cx} {C : Ctx} {W : WX} {ks : List Str} {keys : List (Option Expr)} {vs : List Expr}, EnvOk X P C Φ κ → Takes X W → chkDs C ks cs keys vs = true → PD X ks keys vs (liA P W (rds Φ κ cs))
  | .nil, X, C, W, ks, keys, vs, O, tk, h => by
    unfold chkDs at h
    split at h
    · refine ⟨fun pos pins s σ H Q I q => pd_nil.run pos pins s σ H Q I ?_⟩
      obtain ⟨w, M, sd, Qd, Ed, R, rs, l, lx, q⟩ := q
      exact l w M H [] [] (.refl _ _) R rfl q
    · cases h
  | .cons c cs, X, C, W, ks, keys, vs, O, tk, h => by
    unfold chkDs at h
    split at h
    · simp only [Bool.and_eq_true, beq_iff_eq] at h
      obtain ⟨⟨h1, h2⟩, h3⟩ := h
      subst h1
      refine ⟨fun pos pins s σ H Q I q => (pd_cons (sE c O tk h2).pe (sDs cs O tk h3)).run pos pins s σ H Q I ?_⟩
      obtain ⟨w, M, sd, Qd, Ed, R, rs, l, lx, q⟩ := q
      refine ⟨w, M, sd, _, Ed, R, rs, fun w1 M1 H1 d v s1 R1 r1 q => ?_, lx, q⟩
      refine ⟨w1, M1, sd, _, Ed, R1, rs.mono s1.le, fun w2 M2 H2 ds vs s2 R2 r2 q => ?_, lx.on s1, q⟩
      exact l w2 M2 H2 (d :: ds) (v :: vs) (s1.trans s2) R2 (.cons (r1.mono s2.le) r2) q
    · cases h
theorem sO : ∀ (c : CO) {X : Cx} {C : Ctx} {W : WX} {e : Option Expr}, EnvOk X P C Φ κ → Takes X W → chkO C c e = true → PO X e (liO P W (rdo Φ κ c))
  | .none, X, C, W, e, O, tk, h => by
    unfold chkO at h
    split at h
    · refine poI po_none fun σ H Q q => ?_
      obtain ⟨w, M, sd, Qd, Ed, R, rs, l, lx, q⟩ := q
      exact l w M H none (.refl _ _) R q
    · cases h
  | .some c, X, C, W, e, O, tk, h => by
    unfold chkO at h
    split at h
    · refine poI (po_some (sE c O tk h).pe) fun σ H Q q => ?_
      obtain ⟨w, M, sd, Qd, Ed, R, rs, l, lx, q⟩ := q
      refine ⟨w, M, sd, _, Ed, R, rs, fun w1 M1 H1 d v s1 R1 r1 q => ?_, lx, q⟩
      cases d with
      | int i =>
        have r1 : v = .int i := r1
        exact ⟨i, r1, l w1 M1 H1 (some i) s1 R1 q⟩
      | _ => exact q.elim
    · cases h
theorem sF : ∀ (c : CO) {X : Cx} {C : Ctx} {W : WX} {e : List Expr}, EnvOk X P C Φ κ → Takes X W → chkF C c e = true → PTs X e (liT P W (rdt Φ κ c))
  | .none, X, C, W, e, O, tk, h => by
    unfold chkF at h
    split at h
    · refine ⟨fun pins s σ H Q I q => pts_nil.run pins s σ H Q I ?_⟩
      obtain ⟨w, M, sd, Qd, Ed, R, rs, l, lx, q⟩ := q
      exact l w M H true (.refl _ _) R q
    · cases h
  | .some c, X, C, W, e, O, tk, h => by
    unfold chkF at h
    split at h
    · exact pts_one (sE c O tk h).pt
    · cases h
theorem sI : ∀ (c : CI) {X : Cx} {C : Ctx} {W : WX} {tg e : Expr}, EnvOk X P C Φ κ → Takes X W → chkI C c e = true → PI X tg e (liI P X.K W (rdi Φ κ c))
  | .seq c, X, C, W, tg, e, O, tk, h => by
    unfold chkI at h
    rw [Bool.and_eq_true] at h
    refine piI (pi_seq (sE c O tk h.2).pe) fun σ H Q q => ?_
    obtain ⟨w, M, sd, Qd, Ed, R, rs, l, lx, q⟩ := q
    refine ⟨w, M, sd, _, Ed, R, rs, fun w1 M1 H1 d v s1 R1 r1 q => ?_, lx, q⟩
    split at q
    · rename_i ds hds
      obtain ⟨a, e1, z⟩ := itOk_seq O.K R1 r1 hds
      refine ⟨a, e1, ?_⟩
      rcases z with ⟨z1, z2⟩ | ⟨z1, z2⟩
      · exact .inl ⟨z1, l w1 M1 H1 _ _ _ s1 R1 z2 q⟩
      · exact .inr ⟨z1, l w1 M1 H1 _ _ _ s1 R1 z2 q⟩
    · exact q.elim
  | .chars c, X, C, W, tg, e, O, tk, h => by
    unfold chkI at h
    rw [Bool.and_eq_true] at h
    refine piI (pi_str (sE c O tk h.2).pe) fun σ H Q q => ?_
    obtain ⟨w, M, sd, Qd, Ed, R, rs, l, lx, q⟩ := q
    refine ⟨w, M, sd, _, Ed, R, rs, fun w1 M1 H1 d v s1 R1 r1 q => ?_, lx, q⟩
    cases d with
    | str z =>
      have r1 : v = .str z := r1
      exact ⟨z, r1, l w1 M1 H1 _ _ _ s1 R1 (.chr rfl) q⟩
    | _ => exact q.elim
  | .rng1 c, X, C, W, tg, e, O, tk, h => by
    unfold chkI at h
    split at h
    · simp only [Bool.and_eq_true] at h
      obtain ⟨hn, hg, hd, hm, _⟩ := blt_of O h.1.1
      subst hn
      refine piI (pi_range1 hg hm (pa_cons (sE c O tk h.2).pe pa_nil (star_of h.1.2)) (star_of h.1.2)) fun σ H Q q => ?_
      obtain ⟨w, M, sd, Qd, Ed, R, rs, l, lx, q⟩ := q
      refine ⟨w, M, sd, _, Ed, R, rs, fun w1 M1 H1 d v s1 R1 r1 q => ?_, lx, q⟩
      cases d with
      | int j =>
        have r1 : v = .int j := r1
        subst r1
        refine ⟨j, rfl, q.1, q.2.1, ?_⟩
        have z := l w1 M1 H1 _ _ _ s1 R1 (.rng (i := 0) (j := j) rfl) q.2.2
        simpa using z
      | _ => exact q.elim
    · cases h
  | .rng2 c c2, X, C, W, tg, e, O, tk, h => by
    unfold chkI at h
    split at h
    · simp only [Bool.and_eq_true] at h
      obtain ⟨hn, hg, hd, hm, _⟩ := blt_of O h.1.1.1.1
      subst hn
      refine piI (pi_range2 hg hm (pa_cons (sE c O tk h.1.2).pe (pa_cons (sE c2 O tk h.2).pe pa_nil (star_of h.1.1.2)) (star_of h.1.1.1.2)) (by rw [star_of h.1.1.1.2, star_of h.1.1.2]; rfl) (by rw [star_of h.1.1.2]; rfl)) fun σ H Q q => ?_
      obtain ⟨w, M, sd, Qd, Ed, R, rs, l, lx, q⟩ := q
      refine ⟨w, M, sd, _, Ed, R, rs, fun w1 M1 H1 d v s1 R1 r1 q => ?_, lx, q⟩
      refine ⟨w1, M1, sd, _, Ed, R1, rs.mono s1.le, fun w2 M2 H2 d2 v2 s2 R2 r2 q => ?_, lx.on s1, q⟩
      cases d <;> cases d2 <;> first | exact False.elim q | skip
      have r1 : v = .int _ := r1
      have r2 : v2 = .int _ := r2
      subst r1; subst r2
      obtain ⟨q1, q2, q3, q4, q⟩ := q
      exact ⟨_, _, rfl, ⟨q1, q2, q3, q4⟩, l w2 M2 H2 _ _ _ (s1.trans s2) R2 (.rng rfl) q⟩
    · cases h
end
end
end DL
namespace DL
open PySem L2
theorem swaps_cell {e : Expr} {x : Str} {p : Pos} {l : Nat} {env : Env} (h : env.scope.names.lookup x = some .cell) : swapsWith e (some (.Name x p)) l env = pure false := by
  have k : env.kindOf x = some .cell := h
  cases e <;> first
    | rfl
    | (unfold swapsWith; simp only [k]; cases hb : (env.blockKind == ScopeKind.function) <;> rfl)
    | (unfold swapsWith; simp only [k]; cases hb : (env.blockKind == ScopeKind.function) <;> simp; done)
theorem sole_tuple {t e : Expr} {l : Nat} {env : Env} (ht : ∀ x p, t ≠ .Name x p) : swapsWithSole [t] e l env = pure false := by
  cases t <;> first
    | exact absurd rfl (ht _ _)
    | (cases e <;> rfl)
theorem swst_none {t e : Expr} {env : Env} (h : notTuple e = true) : swappedStores [t] e env = pure none := by
  cases e <;> first
    | (exfalso; simp [notTuple] at h; done)
    | (unfold swappedStores; cases t <;> rfl)
theorem swst_many {t e : Expr} {env : Env} (h : manyTuple e = true) : swappedStores [t] e env = pure none := by
  cases e with
  | Tuple vs k p =>
    have h : 3 < vs.length := of_decide_eq_true h
    unfold swappedStores
    cases t with
    | Tuple ts k2 p2 =>
      dsimp only
      have e1 : (!(ts.length == 2 || ts.length == 3) || vs.length != ts.length || env.blockKind != ScopeKind.function) = true := by
        by_cases h2 : ts.length = 2
        · have : (vs.length != ts.length) = true := by simp; omega
          rw [this]; simp
        · by_cases h3 : ts.length = 3
          · have : (vs.length != ts.length) = true := by simp; omega
            rw [this]; simp
          · have : (ts.length == 2 || ts.length == 3) = false := by simp [h2, h3]
            rw [this]; simp
      rw [if_pos e1]
    | List ts p2 =>
      dsimp only
      have e1 : (!(ts.length == 2 || ts.length == 3) || vs.length != ts.length || env.blockKind != ScopeKind.function) = true := by
        by_cases h2 : ts.length = 2
        · have : (vs.length != ts.length) = true := by simp; omega
          rw [this]; simp
        · by_cases h3 : ts.length = 3
          · have : (vs.length != ts.length) = true := by simp; omega
            rw [this]; simp
          · have : (ts.length == 2 || ts.length == 3) = false := by simp [h2, h3]
            rw [this]; simp
      rw [if_pos e1]
    | _ => rfl
  | _ => exact swst_none rfl
theorem starF {vs : List Expr} (h : vs.all plainE = true) : (vs.any fun | .Starred .. => true | _ => false) = false := by
  rw [List.any_eq_false]
  intro e he
  have := List.all_eq_true.mp h e he
  cases e <;> simp [plainE] at this ⊢
theorem swst_two {x y : Str} {px py kt pt : _} {a b : Expr} {k2 pt2 : _} {env : Env} (hk : env.blockKind = .function) (hx : env.kindOf x = some .local) (hy : env.kindOf y = some .local) (hl : (py.line == px.line) = true) (hn : (x == y) = false) (hp : parOk [a, b] = true) :
    swappedStores [.Tuple [.Name x px, .Name y py] kt pt] (.Tuple [a, b] k2 pt2) env = pure (some [x, y]) := by
  unfold parOk at hp
  simp only [Bool.and_eq_true, Bool.not_eq_true'] at hp
  obtain ⟨⟨h1, h2⟩, h3⟩ := hp
  have h4 := starF h1
  have e2 : ([x, y] : List Str).eraseDups.length = 2 := by
    have : (y == x) = false := by rw [beq_eq_false_iff_ne] at hn ⊢; exact fun z => hn z.symm
    simp [List.eraseDups, List.eraseDupsBy, List.eraseDupsBy.loop, this]
  have hl' : py.line = px.line := beq_iff_eq.mp hl
  unfold swappedStores
  simp [hk, h4, hx, hy, hl', e2, h2, h3, Expr.pos]
  intro z
  exfalso
  rcases z with z | z
  · cases a <;> first | (simp [plainE] at h1; done) | cases z
  · cases b <;> first | (simp [plainE] at h1; done) | cases z
theorem swst_three {x y z : Str} {px py pz kt pt : _} {a b c : Expr} {k2 pt2 : _} {env : Env} (hk : env.blockKind = .function) (hx : env.kindOf x = some .local) (hy : env.kindOf y = some .local) (hz : env.kindOf z = some .local) (hl : (py.line == px.line) = true) (hl2 : (pz.line == px.line) = true)
    (hn : (x == y) = false) (hn2 : (x == z) = false) (hn3 : (y == z) = false) (hp : parOk [a, b, c] = true) :
    swappedStores [.Tuple [.Name x px, .Name y py, .Name z pz] kt pt] (.Tuple [a, b, c] k2 pt2) env = pure (some [x, y, z]) := by
  unfold parOk at hp
  simp only [Bool.and_eq_true, Bool.not_eq_true'] at hp
  obtain ⟨⟨h1, h2⟩, h3⟩ := hp
  have h4 := starF h1
  have e2 : ([x, y, z] : List Str).eraseDups.length = 3 := by
    have t1 : (y == x) = false := by rw [beq_eq_false_iff_ne] at hn ⊢; exact fun w => hn w.symm
    have t2 : (z == x) = false := by rw [beq_eq_false_iff_ne] at hn2 ⊢; exact fun w => hn2 w.symm
    have t3 : (z == y) = false := by rw [beq_eq_false_iff_ne] at hn3 ⊢; exact fun w => hn3 w.symm
    simp [List.eraseDups, List.eraseDupsBy, List.eraseDupsBy.loop, t1, t2, t3]
  have hl' : py.line = px.line := beq_iff_eq.mp hl
  have hl2' : pz.line = px.line := beq_iff_eq.mp hl2
  unfold swappedStores
  simp [hk, h4, hx, hy, hz, hl', hl2', e2, h2, h3, Expr.pos]
  intro z
  exfalso
  rcases z with z | z | z
  · cases a <;> first | (simp [plainE] at h1; done) | cases z
  · cases b <;> first | (simp [plainE] at h1; done) | cases z
  · cases c <;> first | (simp [plainE] at h1; done) | cases z
section
variable {X : Cx} {P : Pm} {C : Ctx} {Φ : Nat → SpD} {κ : Nat → D} {W : WX}
theorem relTs_any {w : Wd} {k : NestedKey} : ∀ {kvs : List (D × D)} {es : List (NestedKey × Addr × V)}, RelTs P w kvs es → (es.any fun x => decide (x.1 = k)) = (kvs.any fun kv => decide (keyN kv.1 = some k))
  | [], es, r => by
    have r : es = [] := r
    subst r; rfl
  | (kd, d) :: kvs, es, ⟨j, b, v, es', e, h1, h2, h3, h4, h5⟩ => by
    subst e
    rw [List.any_cons, List.any_cons, relTs_any h5, h1]
    congr 1
    simp
theorem relTs_put {w : Wd} {k : NestedKey} {kd d : D} {b : Addr} {v : V} (r1 : RelD P w kd (.ref b)) (hk : keyN kd = some k) (hd : k.depth ≤ 8) (r : RelD P w d v) {kvs : List (D × D)} {es : List (NestedKey × Addr × V)} (h : RelTs P w kvs es) : RelTs P w (dctPutT kvs kd k d) (tPut es k b v) := by
  unfold dctPutT tPut
  rw [relTs_any h]
  split
  · next hc =>
    clear hc
    induction kvs generalizing es with
    | nil => have h : es = [] := h; subst h; rfl
    | cons p kvs ih =>
      obtain ⟨kd', d'⟩ := p
      obtain ⟨j, b', v', es', e, h1, h2, h3, h4, h5⟩ := h
      subst e
      rw [List.map_cons, List.map_cons]
      by_cases hj : j = k
      · simp only [h1, hj, if_true]
        exact ⟨k, b', v, _, rfl, hj ▸ h1, hj ▸ h2, h3, r, ih h5⟩
      · have : ¬ keyN kd' = some k := by rw [h1]; intro z; exact hj (Option.some.inj z)
        simp only [this, hj, if_false]
        exact ⟨j, b', v', _, rfl, h1, h2, h3, h4, ih h5⟩
  · next hc =>
    clear hc
    induction kvs generalizing es with
    | nil => have h : es = [] := h; subst h; exact ⟨k, b, v, [], rfl, hk, hd, r1, r, rfl⟩
    | cons p kvs ih =>
      obtain ⟨kd', d'⟩ := p
      obtain ⟨j, b', v', es', e, h1, h2, h3, h4, h5⟩ := h
      subst e
      exact ⟨j, b', v', _, rfl, h1, h2, h3, h4, ih h5⟩
/-- o[i] = v below -/
def setIxD (x y d : D) (M : Md) (Q : Md → Prop) : Prop := match x with
    | .ref k => match M[k]?, y with
      | some (.lst ds), .int j => match ixN ds.length j with
        | some j => Q (M.set k (.lst (ds.set j d)))
        | none => False
      | some (.dct kvs), y => match keyD y with
        | some ky => kvs.length < sizeLine ∧ Q (M.set k (.dct (dctPut kvs ky d)))
        | none => False
      | some (.dctT kvs), y => match tKey y with
        | some ky => kvs.length < sizeLine ∧ Q (M.set k (.dctT (dctPutT kvs y ky d)))
        | none => False
      | _, _ => False
    | _ => False
def rSetIx (P : Pm) : V → V → V → Hp → (Hp → Prop) → Prop := fun o i v H Q => ∃ w M x y d, RepM P w M H ∧ RelD P w x o ∧ RelD P w y i ∧ RelD P w d v ∧
  setIxD x y d M fun M' => ∀ H', Step w H w H' → RepM P w M' H' → Q H'
theorem setIx_sound (O : EnvOk X P C Φ κ) : PSet X (rSetIx P) := by
  intro pins s σ H o i v ov iv u Q I ro ri rv q
  obtain ⟨w, M, x, y, d, R, rx, ry, rd, q⟩ := q
  unfold setIxD at q
  split at q
  · rename_i k
    obtain ⟨p, e, hp⟩ := rx
    subst e
    split at q
    · rename_i ds j hm
      split at q
      · rename_i j' hj
        obtain ⟨hF, vs, e2, hs⟩ := R.cell k _ p hm hp
        have ry : i = .int j := ry
        obtain ⟨R', s'⟩ := R.write (o := .lst (vs.set j' v)) (m' := .lst (ds.set j' d)) hm hF hp .lst ⟨hF, _, upd_same, hs.set j' rd⟩
        exact set_list pins s σ H _ i v ov iv u Q I ro ri rv ⟨p, vs, j, j', rfl, ry, e2, by rw [hs.length]; exact hj, q _ s' R'⟩
      · exact q.elim
    · rename_i kvs hm
      split at q
      · rename_i ky hk
        obtain ⟨hF, us, e2, hs⟩ := R.cell k _ p hm hp
        have hv := keyD_at ry hk
        subst hv
        obtain rfl : ov = Value.ref p := ro
        obtain ⟨R', s'⟩ := R.write (o := FD P.pg P.wl p (putK us ky v)) (m' := .dct (dctPut kvs ky d)) hm hF hp .fd ⟨hF, _, upd_same, relKs_put hs rd⟩
        rw [O.pg, O.wl] at e2
        refine fd_setItem I e2 (by rw [hs.length]; exact q.1) ri rv fun s2 I2 => ⟨_, I2, ?_⟩
        rw [← O.pg, ← O.wl]
        exact q.2 _ s' R'
      · exact q.elim
    · rename_i kvs hm
      split at q
      · rename_i ky hk
        obtain ⟨hF, es, e2, hs⟩ := R.cell k _ p hm hp
        obtain ⟨⟨ds, hd⟩, k1, k2⟩ := tKey_at hk
        have hn := nest_of O.K I R ry ri k1
        subst hd
        obtain ⟨b, vs, ev, _, _⟩ := id ry
        subst ev
        obtain rfl : iv = Value.ref b := ri
        obtain rfl : ov = Value.ref p := ro
        obtain ⟨R', s'⟩ := R.write (o := TD P.pg P.wl p (tPut es ky b v)) (m' := .dctT (dctPutT kvs (.tup ds) ky d)) hm hF hp .td ⟨hF, _, upd_same, relTs_put ry k1 k2 rd hs⟩
        rw [O.pg, O.wl] at e2
        refine td_setItem (by have := O.hu; omega) I e2 (keysAt_of O.K I R hs) ⟨hn, k2⟩ (by rw [hs.length]; exact q.1) rv fun s2 I2 => ⟨_, I2, ?_⟩
        rw [← O.pg, ← O.wl]
        exact q.2 _ s' R'
      · exact q.elim
    · exact q.elim
  · exact q.elim
/-- o.f = .., as one of several targets -/
def gFld (K : PySem.W.Frag) (ta : TE) (f : Str) : TG := fun v σ H Q => ta σ H fun x H1 => ∃ a C dx fs, x = .ref a ∧ H1 a = some (.ins C dx fs) ∧ Cls K C ∧ NoAttr K C f ∧ fs.length < 1000 ∧ Q σ (upd H1 a (.ins C dx (putF f v fs)))
theorem pg_fld {o : Expr} {f : Str} {pos : Pos} {ta : TE} (ha : PE X o ta) : PG X (.Attribute o f pos) (gFld X.K ta f) := by
  refine ⟨fun pins s σ H v u Q I r h => ?_⟩
  show wpAny _ _ (do
    let ov ← holding [u] (eval o X.env)
    standAt pos.atName
    holding [u, ov] (setAttr ov f u)
    release [u, ov] []) _ _ s
  refine wpAny_bind (wpAny_holding (thn (ha.run pins s σ H _ I h) fun ov s1 ⟨x, H1, I1, rx, a, C, dx, fs, ex, ea, c, n, l, q⟩ => ?_))
  subst ex
  obtain rfl : ov = Value.ref a := rx
  refine wpAny_bind (wpAny_standAt (wpAny_bind (wpAny_holding (setattr_ok I1 ea c n l r fun s3 I3 => ?_))))
  exact wpAny_release ⟨σ, _, I3, q⟩
theorem sTF : ∀ (os : CEs) {X : Cx} {C : Ctx} {W : WX} {cf : List (Str × Str)} {es : List Expr}, EnvOk X P C Φ κ → Takes X W → chkTF C cf os es = true → ∃ t, PGs X es t ∧ (assignEach es X.env).length = cf.length ∧ (assignEach es X.env).findIdx? (·.1) = none ∧
    ∀ {w M H sd σ ds vs} {Qd : Md → Prop} {Ed : EX} {Q : L2.St → Hp → Prop}, RepM P w M H → RelSt P w sd σ → RelDs P w ds vs → (∀ w' M' H', Step w H w' H' → RepM P w' M' H' → RelSt P w' sd σ → Qd M' → Q σ H') → LkX P w H Ed (WE W σ) → setTFd Φ κ Ed sd cf os ds M Qd → t vs σ H Q
  | .nil, X, C, W, cf, es, O, tk, h => by
    unfold chkTF at h
    split at h
    · refine ⟨_, pgs_nil, rfl, rfl, fun {w M H sd σ ds vs Qd Ed Q} R rs r l lx q => ?_⟩
      cases ds with
      | nil => exact ⟨r, l w M H (.refl _ _) R rs q⟩
      | cons d ds => exact q.elim
    · rename_i z; cases z
    · cases h
  | .cons o os, X, C, W, cf, es, O, tk, h => by
    unfold chkTF at h
    split at h
    · rename_i z; cases z
    · rename_i c f r o' os' a g pa es' z
      cases z
      simp only [Bool.and_eq_true, beq_iff_eq] at h
      obtain ⟨⟨⟨h1, h2⟩, h3⟩, h4⟩ := h
      subst h1
      obtain ⟨hc, hn⟩ := O.fl _ (List.elem_iff.mp h2)
      obtain ⟨t, g1, g2, g3, g4⟩ := sTF os O tk h4
      refine ⟨_, pgs_cons (pg_fld (sE o O tk h3).pe) g1 rfl, ?_, ?_, fun {w M H sd σ ds vs Qd Ed Q} R rs rr l lx q => ?_⟩
      · show (assignEach es' X.env).length + 1 = _
        rw [g2]; rfl
      · show List.findIdx? (·.1) ((false, _) :: assignEach es' X.env) = none
        rw [List.findIdx?_cons, g3]; rfl
      · cases ds with
        | nil => exact q.elim
        | cons d ds =>
          obtain ⟨v, us, e, r1, r2⟩ := rr
          refine ⟨v, us, e, w, M, sd, _, Ed, R, rs, fun w1 M1 H1 x vx s1 R1 rx z => ?_, lx, q⟩
          clear q
          cases x with
          | ref k =>
            obtain ⟨p, e1, hp2⟩ := rx
            subst e1
            unfold setFD at z
            dsimp only at z
            cases hM : M1[k]? with
            | none => rw [hM] at z; exact z.elim
            | some mo =>
              rw [hM] at z
              cases mo with
              | ins c' fs =>
                obtain ⟨q1, q2, z⟩ := z
                subst q1
                obtain ⟨hF, dx, vs', e2, hs⟩ := R1.cell k _ p hM hp2
                have hl : vs'.length < 1000 := by rw [hs.length]; exact q2
                have ry := r1.mono s1.le
                obtain ⟨R', s'⟩ := R1.write (o := .ins (P.cls _) dx (putF f v vs')) (m' := .ins _ (putFD f d fs)) hM hF hp2 .ins ⟨hF, dx, _, upd_same, relKs_putF ry hs⟩
                refine ⟨p, _, dx, vs', rfl, e2, hc, hn, hl, ?_⟩
                have s12 := s1.trans s'
                exact g4 R' (rs.mono s12.le) (r2.mono s12.le) (fun w2 M2 H2 s2 R2 rs2 q2 => l w2 M2 H2 (s12.trans s2) R2 rs2 q2) (lx.on s12) z
              | _ => exact z.elim
          | _ => exact z.elim
    · cases h
theorem relKs_zip2 {w : Wd} : ∀ {fs : List Str} {ds : List D} {vs : List V}, fs.length = ds.length → RelDs P w ds vs → RelKs P w (fs.zip ds) (fs.zip vs)
  | [], ds, vs, _, _ => by rw [List.zip_nil_left, List.zip_nil_left]; rfl
  | f :: fs, [], vs, hl, _ => by cases hl
  | f :: fs, d :: ds, vs, hl, ⟨v, us, e, h1, h2⟩ => by
    subst e
    rw [List.zip_cons_cons, List.zip_cons_cons]
    exact ⟨v, _, rfl, h1, relKs_zip2 (by simpa using hl) h2⟩
theorem relKs_rev {κ : Type} {w : Wd} : ∀ {ds : List (κ × D)} {us : List (κ × V)}, RelKs P w ds us → RelKs P w ds.reverse us.reverse
  | [], us, h => by
    have h : us = [] := h
    subst h; rfl
  | (k, d) :: ds, us, ⟨v, us', e, h1, h2⟩ => by
    subst e
    rw [List.reverse_cons, List.reverse_cons]
    exact relKs_snoc h1 (relKs_rev h2)
theorem chkEs_cons {C : Ctx} {cs : CEs} {y : Expr} {ys : List Expr} (h : chkEs C cs (y :: ys) = true) : plainE y = true ∧ ∃ c2, chkEs C c2 ys = true := by
  cases cs with
  | nil => cases h
  | cons c cs =>
    have h : (plainE y && chkE C c y && chkEs C cs ys) = true := h
    simp only [Bool.and_eq_true] at h
    exact ⟨h.1.1, cs, h.2⟩
/-- an own exception, no __init__ of its own, one argument -/
theorem pmk_one {x : Str} {Ca : Addr} {e : Expr} {te : TE} {p pos : Pos} (R : RaisN X.K Ca) (hm : X.mg x = some (.ref Ca)) (hg : Gl X x) (hdb : (x == ("__debug__" : Str)) = false) (he : PE X e te) (st : starEach [e] X.env = (false, eval e X.env) :: starEach [] X.env) :
    PMk X (.Call (.Name x p) [e] [] pos) (fun σ H Q => tCons te tNil σ H fun vs H1 => vs.length = 1 ∧ Q (.ref Ca) none H1) := by
  intro pins st0 σ H Q I h
  refine wpAny_Call_Name_kw (ld_glob I hg hm ?_ hdb)
  have ha : PA X [e] (tCons te tNil) := pa_cons he pa_nil st
  refine PySem.W.callWith_K (h₀ := X.base) I.ok.mod.kin R.kp (thn (ha.run pos pins st0 σ H (fun vs H1 => vs.length = 1 ∧ Q (.ref Ca) none H1) I h) fun us s1 hh => ?_) st rfl
  obtain ⟨vs, H1, I1, r1, hl, q⟩ := hh
  refine ⟨I1.kIn, ?_⟩
  have hus : us.length = 1 := by rw [← r1.length]; exact hl
  match us, hus with
  | [u], _ =>
    show wpAny _ _ (call (.ref Ca) [u]) _ _ _
    obtain ⟨bm, N, nm, qn, bs, hdct, sn, sub, ab, col, dd, k0, k1, k2, k3, k5, mN, hC, hN, hni, T⟩ := exc_obj I1.kIn R.ex
    refine wpAny_call_exc_subT PySem.F.excBase_ValueError T hC hN hni (fun h' a ha' => ?_) (by show 1 ≤ sizeLine; rw [sizeLine_eq]; omega)
    exact mk_of I1 ha' (raises_own R.sb R.ty) q (I1.hok.gone ha'.new)
mutual
theorem sS : ∀ (c : CS) {X : Cx} {C : Ctx} {W : WX} {s : Stmt}, EnvOk X P C Φ κ → C.sc.kind = .function → Takes X W → PassesOwn (model X.prog X.w) X.A X.env X.xe → chkS C c s = true → PS X s (liS P W (rS Φ κ c))
  | .setFld c o f v, X, C, W, s, O, hk, tk, hp, h => by
    unfold chkS at h
    split at h
    · rename_i a g ps e pos
      simp only [Bool.and_eq_true, beq_iff_eq] at h
      obtain ⟨⟨⟨h1, h2⟩, h4⟩, h5⟩ := h
      subst h1
      obtain ⟨hc, hn⟩ := O.fl _ (List.elem_iff.mp h2)
      refine psI (ps_fld (sE o O tk h4).pe (sE v O tk h5).pe ?_) fun K σ H q => ?_
      · cases e <;> rfl
      · obtain ⟨w, M, sd, Kd, Ed, R, rs, l, lx, q⟩ := q
        refine ⟨w, M, sd, _, _, R, rs, fun w1 M1 H1 d y s1 R1 r1 q => ?_, lx.at rs, q⟩
        refine ⟨w1, M1, sd, _, _, R1, rs.mono s1.le, fun w2 M2 H2 x vx s2 R2 r2 z => ?_, (lx.on s1).at (rs.mono s1.le), q⟩
        clear q
        unfold setFD at z
        split at z
        · rename_i k
          obtain ⟨p, e1, hp2⟩ := r2
          subst e1
          split at z
          · rename_i c' fs hm
            obtain ⟨q1, q2, z⟩ := z
            subst q1
            obtain ⟨hF, dx, us, e2, hs⟩ := R2.cell k _ p hm hp2
            have hl : us.length < 1000 := by rw [hs.length]; exact q2
            have ry := r1.mono s2.le
            obtain ⟨R', s'⟩ := R2.write (o := .ins (P.cls _) dx (putF f y us)) (m' := .ins _ (putFD f d fs)) hm hF hp2 .ins ⟨hF, dx, _, upd_same, relKs_putF ry hs⟩
            exact ⟨p, _, dx, us, rfl, e2, hc, hn, hl, l.nx _ _ _ _ _ ((s1.trans s2).trans s') R' (((rs.mono s1.le).mono s2.le).mono s'.le) z⟩
          · exact z.elim
        · exact z.elim
    · cases h
  | .set i c, X, C, W, s, O, hk, tk, hp, h => by
    unfold chkS at h
    split at h
    · rename_i x px e pos
      simp only [Bool.and_eq_true, Bool.or_eq_true] at h
      obtain ⟨⟨h1, h2⟩, h3⟩ := h
      obtain ⟨t1, t2, t3⟩ := tgt_of O h1
      have he := (sE c O tk h2).pe
      have fin : ∀ K σ H, liS P W (rS Φ κ (.set i c)) K σ H → tAsg (liE P W (rd Φ κ c).1) (gName i) K σ H := fun K σ H q => by
        obtain ⟨w, M, sd, Kd, Ed, R, rs, l, lx, q⟩ := q
        exact ⟨w, M, sd, _, _, R, rs, fun w1 M1 H1 d v s1 R1 r1 q => l.nx w1 M1 H1 _ _ s1 R1 (relSt_set (rs.mono s1.le) i r1) q, lx.at rs, q⟩
      have nd : X.N.Nodup := by rw [O.N]; exact O.nd
      rcases h3 with (h3 | h3) | h3
      · exact psI (ps_set nd t1 t2 he (swaps_of h3) t3) fin
      · unfold lcSwap at h3
        split at h3
        · rename_i elt gs scope lpos
          simp only [Bool.and_eq_true, beq_iff_eq, Bool.not_eq_true'] at h3
          obtain ⟨⟨k1, k2⟩, k3⟩ := h3
          have hl : X.env.scope.names.lookup x = some .local := by rw [O.sc]; exact k1
          cases c with
          | comp m elt' t it ifs own =>
            unfold chkE at h2
            split at h2
            · rename_i x' tg iter fs scope' pos' heq
              cases heq
              simp only [Bool.and_eq_true] at h2
              obtain ⟨⟨⟨⟨⟨⟨⟨⟨g0, g1⟩, g2⟩, g3⟩, g4⟩, g5⟩, g6⟩, g7⟩, g8⟩ := h2
              have hot : C.X.hot = false := by rwa [Bool.not_eq_true'] at g0
              have e : (own.filterMap fun i => (C.N[i]?).map fun n => (n, i)).map (·.2) = own := by
                clear g1 g3 he fin
                induction own with
                | nil => rfl
                | cons i is ih =>
                  rw [List.all_cons, Bool.and_eq_true, decide_eq_true_eq] at g2
                  rw [List.filterMap_cons, List.getElem?_eq_getElem g2.1]
                  simp only [Option.map_some, List.map_cons]
                  rw [ih g2.2]
              refine psI (ps_setLc (own := own.filterMap fun i => (C.N[i]?).map fun n => (n, i)) (O.calm hot) nd t1 hl (sw_true (by rw [O.sc]; exact hk) hl (beq_iff_eq.mpr k2) k3) (sI it O tk g6) (blkOk_by (by rw [O.N, O.sc]; exact g1))
                (fun s H A cl fp => pgc_of (O.blk hot s H scope A cl fp) g5) (fun s H A cl fp => sF ifs (O.blk hot s H scope A cl fp) takes0 g8) (fun s H A cl fp => (sE elt' (O.blk hot s H scope A cl fp) takes0 g7).pe) (folded_of g4)) fun K σ H q => ?_
              rw [e]
              exact comp_lift (fun j hj => List.elem_iff.mp (List.all_eq_true.mp g3 j hj)) σ H _ (by
                obtain ⟨w, M, sd, Kd, Ed, R, rs, l, lx, q⟩ := q
                exact ⟨w, M, sd, _, _, R, rs, fun w1 M1 H1 d v s1 R1 r1 q => l.nx w1 M1 H1 _ _ s1 R1 (relSt_set (rs.mono s1.le) i r1) q, lx.at rs, q⟩)
            · cases h2
          | blt b es =>
            by_cases hT : ∃ T, b = .isi T
            · obtain ⟨T, hT⟩ := hT
              subst hT
              unfold chkE at h2
              cases h2
            · have := (chkE_blt (fun T z => hT ⟨T, z⟩)).symm.trans h2
              cases this
          | _ => unfold chkE at h2; cases h2
        · cases h3
      · rw [beq_iff_eq] at h3
        exact psI (ps_set nd t1 t2 he (swaps_cell (by rw [O.sc]; exact h3)) t3) fin
    · cases h
  | .setT is c, X, C, W, s, O, hk, tk, hp, h => by
    unfold chkS at h
    split at h
    · rename_i tg e pos
      simp only [Bool.and_eq_true] at h
      obtain ⟨⟨h1, h2⟩, h3⟩ := h
      have hn : ∀ x p, tg ≠ .Name x p := fun x p z => by subst z; simp [okTg] at h1
      have ha : (assignEach [tg] X.env).map (·.2) = [assign tg X.env] := by
        cases tg with
        | Tuple _ _ _ => rfl
        | _ => simp [okTg] at h1
      refine psI (ps_asg (sE c O tk h2).pe (pg_of O h1) (sole_tuple hn) (swst_many h3) ha) fun K σ H q => ?_
      obtain ⟨w, M, sd, Kd, Ed, R, rs, l, lx, q⟩ := q
      exact ⟨w, M, sd, _, _, R, rs, fun w1 M1 H1 d v s1 R1 r1 q => ⟨w1, M1, sd, d, Kd.nx, R1, rs.mono s1.le, r1, l.nx.on s1, q⟩, lx.at rs, q⟩
    · cases h
  | .setP is es, X, C, W, s, O, hk, tk, hp, h => by
    unfold chkS at h
    have hbk : X.env.blockKind = .function := by
      have e : X.env.scope.kind = .function := by rw [O.sc]; exact hk
      unfold Env.blockKind
      rw [e]; rfl
    have loc : ∀ {i : Nat} {x : Str}, okLoc C i x = true → X.N[i]? = some x ∧ X.env.scope.names.lookup x = some .local := fun {i x} h => by
      unfold okLoc at h
      simp only [Bool.and_eq_true, beq_iff_eq] at h
      exact ⟨by rw [O.N]; exact h.1.1, by rw [O.sc]; exact h.1.2⟩
    have cool : ∀ {i : Nat} {x : Str}, okLoc C i x = true → X.calm = true := fun {i x} h => by
      unfold okLoc at h
      simp only [Bool.and_eq_true, Bool.not_eq_true'] at h
      exact O.calm h.2
    have nd : X.N.Nodup := by rw [O.N]; exact O.nd
    split at h
    · rename_i x px y py kt pt a b k2 pt2 pos
      split at h
      · rename_i i j
        simp only [Bool.and_eq_true, decide_eq_true_eq, Bool.not_eq_true'] at h
        obtain ⟨⟨⟨⟨⟨⟨h1, h2⟩, h3⟩, h4⟩, h5⟩, h6⟩, h7⟩ := h
        obtain ⟨a1, a2⟩ := loc h1
        obtain ⟨b1, b2⟩ := loc h2
        refine psI (ps_par (cool h1) nd a1 b1 h3 a2 b2 (sEs es O tk h7) (swst_two hbk a2 b2 h5 h4 h6)) fun K σ H q => ?_
        obtain ⟨w, M, sd, Kd, Ed, R, rs, l, lx, q⟩ := q
        refine ⟨w, M, sd, _, _, R, rs, fun w1 M1 H1 ds vs s1 R1 r1 q => ?_, lx.at rs, q⟩
        obtain ⟨hl, q⟩ := q
        match ds, hl, r1, q with
        | [d1, d2], _, r1, q =>
          obtain ⟨v1, t1, e1, ra, v2, t2, e2, rb, e3⟩ := r1
          subst e3 e2 e1
          exact ⟨v1, v2, rfl, l.nx w1 M1 H1 _ _ s1 R1 (relSt_set (relSt_set (rs.mono s1.le) i ra) j rb) q⟩
      · cases h
    · rename_i x px y py z pz kt pt a b c k2 pt2 pos
      split at h
      · rename_i i j k
        simp only [Bool.and_eq_true, decide_eq_true_eq, Bool.not_eq_true'] at h
        obtain ⟨⟨⟨⟨⟨⟨⟨⟨⟨⟨⟨⟨h1, h2⟩, h3⟩, h4⟩, h5⟩, h6⟩, h7⟩, h8⟩, h9⟩, g1⟩, g2⟩, g3⟩, g4⟩ := h
        obtain ⟨a1, a2⟩ := loc h1
        obtain ⟨b1, b2⟩ := loc h2
        obtain ⟨c1, c2⟩ := loc h3
        refine psI (ps_par3 (cool h1) nd a1 b1 c1 h4 h5 h6 a2 b2 c2 (sEs es O tk g4) (swst_three hbk a2 b2 c2 g1 g2 h7 h8 h9 g3)) fun K σ H q => ?_
        obtain ⟨w, M, sd, Kd, Ed, R, rs, l, lx, q⟩ := q
        refine ⟨w, M, sd, _, _, R, rs, fun w1 M1 H1 ds vs s1 R1 r1 q => ?_, lx.at rs, q⟩
        obtain ⟨hl, q⟩ := q
        match ds, hl, r1, q with
        | [d1, d2, d3], _, r1, q =>
          obtain ⟨v1, t1, e1, ra, v2, t2, e2, rb, v3, t3, e3, rc, e4⟩ := r1
          subst e4 e3 e2 e1
          exact ⟨v1, v2, v3, rfl, l.nx w1 M1 H1 _ _ s1 R1 (relSt_set (relSt_set (relSt_set (rs.mono s1.le) i ra) j rb) k rc) q⟩
      · cases h
    · cases h
  | .setTF cf os e, X, C, W, s, O, hk, tk, hp, h => by
    unfold chkS at h
    split at h
    · rename_i ts kt pt v pos
      simp only [Bool.and_eq_true] at h
      obtain ⟨⟨h1, h2⟩, h3, h4⟩ := h
      rw [Bool.not_eq_true'] at h4
      obtain ⟨t, g1, g2, g3, g4⟩ := sTF os O tk h1
      refine psI (ps_asg (sE e O tk h2).pe (pg_tup (O.calm h4) g1 g2 g3) (sole_tuple (fun x p z => by cases z)) (swst_none h3) rfl) fun K σ H q => ?_
      obtain ⟨w, M, sd, Kd, Ed, R, rs, l, lx, q⟩ := q
      refine ⟨w, M, sd, _, _, R, rs, fun w1 M1 H1 d y s1 R1 r1 q => ?_, lx.at rs, q⟩
      cases d with
      | tup ds =>
        obtain ⟨q1, q⟩ := q
        obtain ⟨p, vs, e1, hp1, hs⟩ := r1
        refine ⟨p, vs, e1, O.K ▸ sqT_mono R1.sub hp1, by rw [hs.length]; exact q1, ?_⟩
        exact g4 R1 (rs.mono s1.le) hs (fun w2 M2 H2 s2 R2 rs2 q2 => l.nx w2 M2 H2 _ _ (s1.trans s2) R2 rs2 q2) ((lx.on s1).at (rs.mono s1.le)) q
      | _ => exact q.elim
    · cases h
  | .aug i e, X, C, W, s, O, hk, tk, hp, h => by
    unfold chkS at h
    split at h
    · rename_i x px v pos
      rw [Bool.and_eq_true] at h
      obtain ⟨t1, t2, t3⟩ := tgt_of O h.1
      have nd : X.N.Nodup := by rw [O.N]; exact O.nd
      refine psI (ps_aug nd t1 t2 (sE e O tk h.2).pe iop_add t3) fun K σ H q => ?_
      obtain ⟨w, M, sd, Kd, Ed, R, rs, l, lx, q⟩ := q
      have q : (match sd[i]? with
        | some (some x) => rE Φ κ e (fun x => Ed x sd) sd M fun y M1 => addI x y fun z => Kd.nx (sd.set i (some z)) M1
        | _ => False) := q
      split at q
      · rename_i d hd
        obtain ⟨x, hx, rx⟩ := rs.2 i d hd
        refine ⟨x, hx, w, M, sd, _, _, R, rs, fun w1 M1 H1 y vy s1 R1 r1 z => ?_, lx.at rs, q⟩
        clear q
        cases d with
        | int i1 =>
          cases y with
          | int i2 =>
            have rx : x = .int i1 := rx
            have r1 : vy = .int i2 := r1
            exact ⟨i1, i2, rx, r1, l.nx w1 M1 H1 _ _ s1 R1 (relSt_set (rs.mono s1.le) i (d := .int (i1 + i2)) rfl) z⟩
          | _ => exact z.elim
        | _ => exact z.elim
      · exact q.elim
    · cases h
  | .augF c o f e, X, C, W, s, O, hk, tk, hp, h => by
    unfold chkS at h
    split at h
    · rename_i a g pa v pos
      simp only [Bool.and_eq_true, beq_iff_eq] at h
      obtain ⟨⟨⟨h1, h2⟩, h4⟩, h5⟩ := h
      subst h1
      obtain ⟨hc, hn⟩ := O.fl _ (List.elem_iff.mp h2)
      refine psI (ps_fldaug (sE o O tk h4).pe (sE e O tk h5).pe in_add) fun K σ H q => ?_
      obtain ⟨w, M, sd, Kd, Ed, R, rs, l, lx, q⟩ := q
      refine ⟨w, M, sd, _, _, R, rs, fun w1 M1 H1 x vx s1 R1 r1 z => ?_, lx.at rs, q⟩
      clear q
      cases x with
      | ref k =>
        have z := z.2
        obtain ⟨p, e1, hp2⟩ := r1
        subst e1
        unfold fldD at z
        dsimp only at z
        cases hM : M1[k]? with
        | none => rw [hM] at z; exact z.elim
        | some mo =>
          rw [hM] at z
          cases mo with
          | ins c' fs =>
            obtain ⟨q1, z⟩ := z
            subst q1
            obtain ⟨hF, dx, us, e2, hs⟩ := R1.cell k _ p hM hp2
            cases hlk : fs.lookup f with
            | none => simp only [hlk] at z
            | some d =>
              simp only [hlk] at z
              obtain ⟨v0, hv0, r0⟩ := relKs_look hs hlk
              refine ⟨p, _, dx, us, v0, rfl, e2, hc, hn, hv0, w1, M1, sd, _, _, R1, rs.mono s1.le, fun w2 M2 H2 y vy s2 R2 r2 z' => ?_, (lx.on s1).at (rs.mono s1.le), z⟩
              clear z
              cases d with
              | int i1 =>
                cases y with
                | int i2 =>
                  have r0 : v0 = .int i1 := r0
                  have r2 : vy = .int i2 := r2
                  refine ⟨i1, i2, r0, r2, ?_⟩
                  have hp3 := s2.le.r _ _ hp2
                  have z' : setFD c' f (.ref k) (.int (i1 + i2)) M2 (fun M' => Kd.nx sd M') := z'
                  unfold setFD at z'
                  dsimp only at z'
                  cases hM2 : M2[k]? with
                  | none => rw [hM2] at z'; exact z'.elim
                  | some mo =>
                    rw [hM2] at z'
                    cases mo with
                    | ins c2 fs2 =>
                      obtain ⟨q1, q2, z'⟩ := z'
                      subst q1
                      obtain ⟨hF2, dx2, us2, e3, hs2⟩ := R2.cell k _ p hM2 hp3
                      have hl : us2.length < 1000 := by rw [hs2.length]; exact q2
                      have ry : RelD P w2 (.int (i1 + i2)) (.int (i1 + i2)) := rfl
                      obtain ⟨R', s'⟩ := R2.write (o := .ins (P.cls _) dx2 (putF f (.int (i1 + i2)) us2)) (m' := .ins _ (putFD f (.int (i1 + i2)) fs2)) hM2 hF2 hp3 .ins ⟨hF2, dx2, _, upd_same, relKs_putF ry hs2⟩
                      exact ⟨dx2, us2, e3, hl, l.nx _ _ _ _ _ ((s1.trans s2).trans s') R' (((rs.mono s1.le).mono s2.le).mono s'.le) z'⟩
                    | _ => exact z'.elim
                | _ => exact z'.elim
              | _ => exact z'.elim
          | _ => exact z.elim
      | _ => exact z.1.elim
    · cases h
  | .setIx o i c, X, C, W, s, O, hk, tk, hp, h => by
    unfold chkS at h
    split at h
    · rename_i a b pb e pos
      simp only [Bool.and_eq_true] at h
      obtain ⟨⟨⟨h1, h2⟩, h3⟩, h4⟩ := h
      refine psI (ps_asg (sE c O tk h4).pe (pg_sub (sE o O tk h2).pe (sE i O tk h3).pe (setIx_sound O) ?_) (sole_tuple (by intro _ _ z; cases z)) ?_ rfl) fun K σ H q => ?_
      · intro v
        cases b <;> first | rfl | (exfalso; simp [plainE] at h1; done)
      · unfold swappedStores
        cases e <;> rfl
      · obtain ⟨w, M, sd, Kd, Ed, R, rs, l, lx, q⟩ := q
        refine ⟨w, M, sd, _, _, R, rs, fun w1 M1 H1 d v s1 R1 r1 q => ?_, lx.at rs, q⟩
        refine ⟨w1, M1, sd, _, _, R1, rs.mono s1.le, fun w2 M2 H2 x vx s2 R2 r2 q => ?_, (lx.on s1).at (rs.mono s1.le), q⟩
        refine ⟨w2, M2, sd, _, _, R2, (rs.mono s1.le).mono s2.le, fun w3 M3 H3 y vy s3 R3 r3 q => ?_, ((lx.on s1).on s2).at ((rs.mono s1.le).mono s2.le), q⟩
        refine ⟨w3, M3, x, y, d, R3, r2.mono s3.le, r3, (r1.mono s2.le).mono s3.le, ?_⟩
        have s13 := (s1.trans s2).trans s3
        have key : ∀ {Q Q' : Md → Prop}, (∀ M, Q M → Q' M) → setIxD x y d M3 Q → setIxD x y d M3 Q' := fun {Q Q'} f q => by
          unfold setIxD at q ⊢
          cases x <;> first | exact q.elim | skip
          rename_i k
          simp only at q ⊢
          split at q
          · split at q
            · exact f _ q
            · exact q.elim
          · split at q
            · exact ⟨q.1, f _ q.2⟩
            · exact q.elim
          · split at q
            · exact ⟨q.1, f _ q.2⟩
            · exact q.elim
          · exact q.elim
        exact key (fun M' qm H' s4 R4 => l.nx w3 M' H' sd σ (s13.trans s4) R4 (rs.mono s13.le) qm) q
    · cases h
  | .expr c, X, C, W, s, O, hk, tk, hp, h => by
    unfold chkS at h
    split at h
    · rw [Bool.and_eq_true] at h
      refine psI (ps_expr (sE c O tk h.2).pe (swaps_of h.1)) fun K σ H q => ?_
      obtain ⟨w, M, sd, Kd, Ed, R, rs, l, lx, q⟩ := q
      exact ⟨w, M, sd, _, _, R, rs, fun w1 M1 H1 d v s1 R1 r1 q => l.nx w1 M1 H1 _ _ s1 R1 (rs.mono s1.le) q, lx.at rs, q⟩
    · cases h
  | .ret c, X, C, W, s, O, hk, tk, hp, h => by
    unfold chkS at h
    split at h
    · refine psI (ps_ret (sE c O tk h).pe) fun K σ H q => ?_
      obtain ⟨w, M, sd, Kd, Ed, R, rs, l, lx, q⟩ := q
      exact ⟨w, M, sd, _, _, R, rs, l.rt, lx.at rs, q⟩
    · cases h
  | .retN, X, C, W, s, O, hk, tk, hp, h => by
    unfold chkS at h
    split at h
    · refine psI ps_retN fun K σ H q => ?_
      obtain ⟨w, M, sd, Kd, Ed, R, rs, l, lx, q⟩ := q
      exact l.rt.same R (d := .non) rfl q
    · cases h
  | .pass, X, C, W, s, O, hk, tk, hp, h => by
    unfold chkS at h
    split at h
    · refine psI ps_pass fun K σ H q => ?_
      obtain ⟨w, M, sd, Kd, Ed, R, rs, l, lx, q⟩ := q
      exact l.nx w M H _ _ (.refl _ _) R rs q
    · cases h
  | .never, X, C, W, s, O, hk, tk, hp, h => by
    refine psI ps_never fun K σ H q => ?_
    obtain ⟨w, M, sd, Kd, Ed, R, rs, l, lx, q⟩ := q
    exact q
  | .brk, X, C, W, s, O, hk, tk, hp, h => by
    unfold chkS at h
    split at h
    · refine psI ps_break fun K σ H q => ?_
      obtain ⟨w, M, sd, Kd, Ed, R, rs, l, lx, q⟩ := q
      exact l.bk w M H _ _ (.refl _ _) R rs q
    · cases h
  | .cont, X, C, W, s, O, hk, tk, hp, h => by
    unfold chkS at h
    split at h
    · refine psI ps_continue fun K σ H q => ?_
      obtain ⟨w, M, sd, Kd, Ed, R, rs, l, lx, q⟩ := q
      exact l.ct w M H _ _ (.refl _ _) R rs q
    · cases h
  | .ifs c a b, X, C, W, s, O, hk, tk, hp, h => by
    unfold chkS at h
    split at h
    · simp only [Bool.and_eq_true] at h
      refine psI (ps_if (sE c O tk h.1.1).pt (sSs a O hk tk hp h.1.2) (sSs b O hk tk hp h.2)) fun K σ H q => ?_
      obtain ⟨w, M, sd, Kd, Ed, R, rs, l, lx, q⟩ := q
      refine ⟨w, M, sd, _, _, R, rs, fun w1 M1 H1 k s1 R1 q => ?_, lx.at rs, q⟩
      cases k with
      | true => simp only [if_true] at q ⊢; exact ⟨w1, M1, sd, Kd, Ed, R1, rs.mono s1.le, l.on s1, lx.on s1, q⟩
      | false => simp only [Bool.false_eq_true, if_false] at q ⊢; exact ⟨w1, M1, sd, Kd, Ed, R1, rs.mono s1.le, l.on s1, lx.on s1, q⟩
    · cases h
  | .fors t it body, X, C, W, s, O, hk, tk, hp, h => by
    unfold chkS at h
    split at h
    · simp only [Bool.and_eq_true] at h
      obtain ⟨⟨⟨h1, h2, h5⟩, h3⟩, h4⟩ := h
      rw [Bool.not_eq_true'] at h5
      exact psI (ps_for hp (O.calm h5) (sI it O tk h3) (pg_of O h1) (sSs body O hk tk hp h4) (folded_of h2)) fun K σ H q => for_lift q
    · cases h
  | .enums t c body, X, C, W, s, O, hk, tk, hp, h => by
    unfold chkS at h
    split at h
    · rename_i es k p2 x p a pos y p3
      simp only [Bool.and_eq_true] at h
      obtain ⟨⟨⟨⟨⟨h1, h2⟩, h3⟩, h4, h7⟩, h5⟩, h6⟩ := h
      rw [Bool.not_eq_true'] at h7
      obtain ⟨hn, hg, hd, hm, _⟩ := blt_of O h3
      subst hn
      have hi := piI (tg := .Tuple es k p2) (e := .Call (.Name (Str.ofString "enumerate") p) [a] [] pos) (t' := liI P X.K W (fun E σ M Q => rE Φ κ c E σ M fun d M1 => enumQ d M1 Q)) (pi_enumT (kk := k) (tpos := p2) (elts := es) (p := p) (pos := pos) hg hm (pa_cons (sE c O tk h5).pe pa_nil (star_of h4)) (star_of h4)) fun σ H Q q => by
        obtain ⟨w, M, sd, Qd, Ed, R, rs, l, lx, q⟩ := q
        refine ⟨w, M, sd, _, Ed, R, rs, fun w1 M1 H1 d v s1 R1 r1 q => ?_, lx, q⟩
        cases d with
        | tup es =>
          obtain ⟨p, vs, e, hp, hs⟩ := r1
          have hK := O.K
          subst e
          exact ⟨p, vs, rfl, hK ▸ sqT_mono R1.sub hp, l w1 M1 H1 _ _ _ s1 R1 (.enm (fun w' M' H' s R' => ⟨vs, hK ▸ sqT_mono R'.sub (sqT_mono s.le.F hp), hs.mono s.le⟩) rfl) q⟩
        | _ => exact q.elim
      exact psI (ps_for hp (O.calm h7) hi (pg_of O h1) (sSs body O hk tk hp h6) (folded_of h2)) fun K σ H q => for_lift q
    · cases h
  | .raise c e, X, C, W, s, O, hk, tk, hp, h => by
    unfold chkS at h
    split at h
    · rename_i x p y p2 p3
      simp only [Bool.and_eq_true, Bool.not_eq_true', beq_iff_eq] at h
      obtain ⟨⟨⟨⟨⟨h1, h2⟩, h3⟩, h4⟩, h5⟩, h6⟩ := h
      subst h2
      obtain ⟨g1, g2⟩ := glob_of O h3
      obtain ⟨k1, k2⟩ := O.xr _ (List.elem_iff.mp h4)
      refine psI (ps_raise (O.calm h1) tk (pmk_one k2 k1 g1 g2 (sE e O tk h6).pe (star_of h5))) fun K σ H q => ?_
      obtain ⟨w, M, sd, Kd, Ed, R, rs, l, lx, q⟩ := q
      refine ⟨w, M, sd, _, _, R, rs, fun w1 M1 H1 d v s1 R1 r1 q => ?_, lx.at rs, q⟩
      exact ⟨rfl, lx w1 M1 H1 _ _ _ _ _ s1 R1 (rs.mono s1.le) ⟨rfl, .inl ⟨rfl, rfl⟩⟩ q⟩
    · cases h
  | .raiseI c fs es, X, C, W, s, O, hk, tk, hp, h => by
    unfold chkS at h
    split at h
    · rename_i x p y ys p2 p3
      simp only [Bool.and_eq_true, Bool.not_eq_true', beq_iff_eq, decide_eq_true_eq] at h
      obtain ⟨⟨⟨⟨h1, h2⟩, h3⟩, h4, h6⟩, h5⟩ := h
      subst h2
      obtain ⟨g1, g2⟩ := glob_of O h3
      obtain ⟨k1, k2, k, f, fd, k3, k4, k5, k6, k7⟩ := O.xi _ (List.elem_iff.mp h4)
      obtain ⟨hy, cs2, hy2⟩ := chkEs_cons h5
      refine psI (ps_raise (O.calm h1) tk (pmk_oex k2 k3 k4 k5 k6 k7 .nil passNo g1 k1 (sEs es O tk h5) g2 (star_of hy) (plains hy2))) fun K σ H q => ?_
      obtain ⟨w, M, sd, Kd, Ed, R, rs, l, lx, q⟩ := q
      refine ⟨w, M, sd, _, _, R, rs, fun w1 M1 H1 ds vs s1 R1 r1 q => ?_, lx.at rs, q⟩
      obtain ⟨hl, q⟩ := q
      have hvl : vs.length = fs.length := by rw [r1.length]; exact hl
      refine ⟨by rw [hvl]; omega, fun a ha => ⟨a, vs, by rw [List.append_nil], hvl, upd_same, fun d H' hd hda e1 e2 e3 => ⟨rfl, d, _, e1, e2, ?_, ?_⟩⟩⟩
      · rw [upd_ne hda] at hd; exact hd
      · have hd : H1 d = none := by rw [upd_ne hda] at hd; exact hd
        have eH : upd (del H' a) d (.xd (fs.zip vs).reverse) = upd H1 d (.xd (fs.zip vs).reverse) := by
          funext b
          by_cases hb : b = d
          · rw [hb, upd_same, upd_same]
          · rw [upd_ne hb, upd_ne hb]
            by_cases hba : b = a
            · rw [hba, del_same, ha]
            · rw [del_ne hba, e3 b hba hb, upd_ne hba]
        rw [eH]
        obtain ⟨R2, s2⟩ := R1.newF hd (.xd (fs.zip vs).reverse) fun ps z => by cases z
        refine lx _ M1 _ _ _ _ _ _ (s1.trans s2) R2 (rs.mono (s1.trans s2).le) ⟨rfl, .inr ⟨_, d, _, rfl, rfl, upd_same, relKs_rev (relKs_zip2 hl.symm (r1.mono s2.le))⟩⟩ q
    · cases h
  | .whil c body, X, C, W, s, O, hk, tk, hp, h => by
    unfold chkS at h
    split at h
    · simp only [Bool.and_eq_true] at h
      exact psI (ps_while hp (sE c O tk h.1).pt (sSs body O hk tk hp h.2)) fun K σ H q => while_lift q
    · cases h
theorem sSs : ∀ (c : CSs) {X : Cx} {C : Ctx} {W : WX} {s : List Stmt}, EnvOk X P C Φ κ → C.sc.kind = .function → Takes X W → PassesOwn (model X.prog X.w) X.A X.env X.xe → chkSs C c s = true → PSs X s (liS P W (rSs Φ κ c))
  | .nil, X, C, W, s, O, hk, tk, hp, h => by
    unfold chkSs at h
    split at h
    · refine pssI pss_nil fun K σ H q => ?_
      obtain ⟨w, M, sd, Kd, Ed, R, rs, l, lx, q⟩ := q
      exact l.nx w M H _ _ (.refl _ _) R rs q
    · cases h
  | .cons c cs, X, C, W, s, O, hk, tk, hp, h => by
    unfold chkSs at h
    split at h
    · simp only [Bool.and_eq_true] at h
      refine pssI (pss_cons (sS c O hk tk hp h.1) (sSs cs O hk tk hp h.2)) fun K σ H q => ?_
      obtain ⟨w, M, sd, Kd, Ed, R, rs, l, lx, q⟩ := q
      exact ⟨w, M, sd, { Kd with nx := rSs Φ κ cs Ed Kd }, Ed, R, rs, ⟨fun w1 M1 H1 sd1 σ1 s1 R1 rs1 q => ⟨w1, M1, sd1, Kd, Ed, R1, rs1, l.on s1, lx.on s1, q⟩, l.rt, l.bk, l.ct⟩, lx, q⟩
    · cases h
end
end
/-- what the text's defs and constants are, for calls k deep -/
structure Tab (Pg : Program) (w : World) (K : PySem.W.Frag) (mg : Str → Option Value) (base : Heap) (P : Pm) (G : List (Str × GD)) (B : List Str) (Φ : Nat → SpD) (κ : Nat → D) (k : Nat) : Prop where
  fun_ : ∀ x f, G.lookup x = some (.fn f) → ∃ j a fd ps, j ≤ k ∧ mg x = some (.ref a) ∧ PySem.W.keepIn K (.ref a) = true ∧ FnOk Pg w K mg base (L2.CX Pg w) j a fd ps (liSp P (Φ f)) ∧ Binds K fd ps []
  cst : ∀ x g, G.lookup x = some (.cst g) → ∃ u v, mg x = some u ∧ RelV v u ∧ ∀ w, RelD P w (κ g) v
  blt : ∀ x ∈ B, mg x = none
def startD (n : Nat) (ds : List D) : Std := ds.map some ++ List.replicate (n - ds.length) none
def endsD (n0 : Nat) (Q : QE) : EndsD := ⟨fun _ M => Fin n0 Q .non M, fun d M => Fin n0 Q d M, fun _ _ => False, fun _ _ => False⟩
theorem relSt_start {P : Pm} {w : Wd} {ds : List D} {vs : List V} (N : List Str) (r : RelDs P w ds vs) : RelSt P w (startD N.length ds) (L2.start N vs) := by
  have hl := r.length
  refine ⟨by unfold startD L2.start; rw [List.length_append, List.length_append, List.length_map, List.length_map, List.length_replicate, List.length_replicate, hl], fun i d h => ?_⟩
  unfold startD at h
  unfold L2.start
  by_cases hi : i < ds.length
  · rw [List.getElem?_append_left (by simpa using hi), List.getElem?_map] at h
    rw [List.getElem?_append_left (by rw [List.length_map, hl]; exact hi), List.getElem?_map]
    cases e : ds[i]? with
    | none => rw [e] at h; cases h
    | some d' =>
      rw [e] at h
      cases h
      obtain ⟨v, hv, rv⟩ := r.get e
      exact ⟨v, by rw [hv]; rfl, rv⟩
  · rw [List.getElem?_append_right (by simpa using hi), List.getElem?_replicate] at h
    split at h <;> cases h
end DL
namespace DL
open PySem L2
section
variable {Φ : Nat → SpD} {κ : Nat → D} {E : EX} {EE : EXS} {K : EndsD} {σ : Std} {M : Md} {Q : QE} {QT : Bool → Md → Prop} {QA : List D → Md → Prop} {QO : Option Int → Md → Prop} {QI : List D → Option Nat → Md → Prop}
def nxt (Φ : Nat → SpD) (κ : Nat → D) (r : CSs) (E : EXS) (K : EndsD) : Std → Md → Prop := rSs Φ κ r E K
theorem nxt_eq {r : CSs} : nxt Φ κ r EE K σ M = rSs Φ κ r EE K σ M := rfl
theorem nxt_nil : nxt Φ κ .nil EE K σ M = K.nx σ M := rfl
theorem rSs_nil : rSs Φ κ .nil EE K σ M = K.nx σ M := rfl
theorem rSs_cons {s r} : rSs Φ κ (.cons s r) EE K σ M = rS Φ κ s EE ⟨nxt Φ κ r EE K, K.rt, K.bk, K.ct⟩ σ M := rfl
theorem rSs_one {s} : rSs Φ κ (.cons s .nil) EE K σ M = rS Φ κ s EE ⟨K.nx, K.rt, K.bk, K.ct⟩ σ M := rfl
theorem rS_set {i e} : rS Φ κ (.set i e) EE K σ M = rE Φ κ e (fun x => EE x σ) σ M fun d M1 => K.nx (σ.set i (some d)) M1 := rfl
theorem rS_setP {is es} : rS Φ κ (.setP is es) EE K σ M = rds Φ κ es (fun x => EE x σ) σ M fun ds M1 => ds.length = is.length ∧ K.nx (setAll σ is ds) M1 := rfl
def tupQ (d : D) (n : Nat) (f : List D → Prop) : Prop := match d with
  | .tup ds => ds.length = n ∧ f ds
  | _ => False
theorem tupQ_tup {ds : List D} {n : Nat} {f : List D → Prop} : tupQ (.tup ds) n f = (ds.length = n ∧ f ds) := rfl
theorem rS_setTF {cf os e} : rS Φ κ (.setTF cf os e) EE K σ M = rE Φ κ e (fun x => EE x σ) σ M fun d M1 => tupQ d cf.length fun ds => setTFd Φ κ (fun x => EE x σ) σ cf os ds M1 fun M2 => K.nx σ M2 := rfl
theorem setTFd_nil {E : EX} {QM : Md → Prop} : setTFd Φ κ E σ [] .nil [] M QM = QM M := rfl
theorem setTFd_cons {E : EX} {QM : Md → Prop} {c f : Str} {r : List (Str × Str)} {o os} {d : D} {ds : List D} : setTFd Φ κ E σ ((c, f) :: r) (.cons o os) (d :: ds) M QM = rE Φ κ o E σ M fun x M1 => setFD c f x d M1 fun M2 => setTFd Φ κ E σ r os ds M2 QM := rfl
theorem rS_aug {i e} : rS Φ κ (.aug i e) EE K σ M = match σ[i]? with
    | some (some x) => rE Φ κ e (fun x => EE x σ) σ M fun y M1 => addI x y fun z => K.nx (σ.set i (some z)) M1
    | _ => False := rfl
theorem rS_augF {c o f e} : rS Φ κ (.augF c o f e) EE K σ M = rE Φ κ o (fun x => EE x σ) σ M fun x M1 => isRef x ∧ fldD c f x M1 fun v M2 => rE Φ κ e (fun x => EE x σ) σ M2 fun y M3 => addI v y fun z => setFD c f x z M3 fun M' => K.nx σ M' := rfl
theorem isRef_ref {k : Nat} : isRef (.ref k) = True := rfl
theorem addI_int {a b : Int} {f : D → Prop} : addI (.int a) (.int b) f = f (.int (a + b)) := rfl
theorem rS_setT {is e} : rS Φ κ (.setT is e) EE K σ M = rE Φ κ e (fun x => EE x σ) σ M fun d M1 => asgT (.tp is) d σ M1 K.nx := rfl
theorem rS_setIx {o i v} : rS Φ κ (.setIx o i v) EE K σ M = rE Φ κ v (fun x => EE x σ) σ M fun d M1 => rE Φ κ o (fun x => EE x σ) σ M1 fun x M2 => rE Φ κ i (fun x => EE x σ) σ M2 fun y M3 => setIxD x y d M3 fun M' => K.nx σ M' := by
  have e : ∀ x y d (M3 : Md), (match x with
    | .ref k => match M3[k]?, y with
      | some (.lst ds), .int j => match ixN ds.length j with
        | some j => K.nx σ (M3.set k (.lst (ds.set j d)))
        | none => False
      | some (.dct kvs), y => match keyD y with
        | some ky => kvs.length < sizeLine ∧ K.nx σ (M3.set k (.dct (dctPut kvs ky d)))
        | none => False
      | some (.dctT kvs), y => match tKey y with
        | some ky => kvs.length < sizeLine ∧ K.nx σ (M3.set k (.dctT (dctPutT kvs y ky d)))
        | none => False
      | _, _ => False
    | _ => False) = setIxD x y d M3 fun M' => K.nx σ M' := fun x y d M3 => rfl
  rfl
theorem rS_raise {c e} : rS Φ κ (.raise c e) EE K σ M = rE Φ κ e (fun x => EE x σ) σ M fun _ M1 => EE ⟨c, none⟩ σ M1 := rfl
theorem rS_raiseI {c fs es} : rS Φ κ (.raiseI c fs es) EE K σ M = rds Φ κ es (fun x => EE x σ) σ M fun ds M1 => ds.length = fs.length ∧ EE ⟨c, some (fs.zip ds).reverse⟩ σ M1 := rfl
def xhQ (o : Option (Option D)) (e : D) (Q : Str → List Str → List D → Prop) : Prop := match o, e with
  | some (some (.exc a od c ns ds)), .exc a' od' c' _ _ => a = a' ∧ od = od' ∧ c = c' ∧ Q c ns ds
  | _, _ => False
theorem xheld_eq {i : Nat} {e : D} {QX : Str → List Str → List D → Prop} : xheld σ i e QX = xhQ σ[i]? e QX := rfl
theorem xhQ_at {a : Addr} {od : Option Addr} {c : Str} {ns ns2 : List Str} {ds ds2 : List D} {QX : Str → List Str → List D → Prop} : xhQ (some (some (.exc a od c ns ds))) (.exc a od c ns2 ds2) QX = QX c ns ds := by
  unfold xhQ
  simp
theorem xdct_some {a d : Addr} {c : Str} {ns : List Str} {ds : List D} : xdct (.exc a (some d) c ns ds) = True := rfl
theorem rE_xis {i T} : rE Φ κ (.xis i T) E σ M Q = xheld σ i (κ 0) fun c _ _ => Q (.bl (xsub c T)) M := rfl
theorem rT_xis {i T} : rT Φ κ (.xis i T) E σ M QT = rE Φ κ (.xis i T) E σ M fun d M1 => truD d M1 fun k => QT k M1 := rfl
def lkQ (f : Str) (fs : List (Str × D)) (M : Md) (Q : QE) : Prop := match fs.lookup f with
  | some x => Q x M
  | none => False
theorem rE_gin {x kv a} : rE Φ κ (.gin x kv a) E σ M Q = rE Φ κ a E σ M fun d M1 => ginD kv d fun b => Q (.bl b) M1 := rfl
theorem rT_gin {x kv a} : rT Φ κ (.gin x kv a) E σ M QT = rE Φ κ a E σ M fun d M1 => ginD kv d fun b => QT b M1 := rfl
theorem rE_gidx {x kv a} : rE Φ κ (.gidx x kv a) E σ M Q = rE Φ κ a E σ M fun d M1 => gidxD kv d fun t => Q t M1 := rfl
theorem ginD_str {kv : List (Str × Str)} {s : Str} {QB : Bool → Prop} : ginD kv (.str s) QB = QB (kv.lookup s).isSome := rfl
def gidxO (o : Option Str) (Q : D → Prop) : Prop := match o with
  | some t => Q (.str t)
  | none => False
theorem gidxD_str {kv : List (Str × Str)} {s : Str} {QD : D → Prop} : gidxD kv (.str s) QD = gidxO (kv.lookup s) QD := rfl
theorem gidxO_some {t : Str} {QD : D → Prop} : gidxO (some t) QD = QD (.str t) := rfl
theorem rE_xfld {i k f} : rE Φ κ (.xfld i k f) E σ M Q = (xdct (κ 0) ∧ xheld σ i (κ 0) fun c ns ds => c = k ∧ lkQ f (ns.zip ds) M Q) := rfl
theorem lkQ_hd {f : Str} {x : D} {fs : List (Str × D)} : lkQ f ((f, x) :: fs) M Q = Q x M := by
  unfold lkQ
  rw [List.lookup_cons]
  simp
theorem lkQ_tl {f g : Str} {x : D} {fs : List (Str × D)} (h : (f == g) = false) : lkQ f ((g, x) :: fs) M Q = lkQ f fs M Q := by
  unfold lkQ
  rw [List.lookup_cons, h]
theorem xsub_V {c : Str} : xsub c "ValueError" = true := by
  unfold xsub
  rw [show ((("ValueError" : Str) == ("ValueError" : Str)) : Bool) = true from beq_self_eq_true _]
  simp
theorem xsub_F {c : Str} : xsub c "FirstwayError" = true := by
  unfold xsub
  rw [show ((("FirstwayError" : Str) == ("FirstwayError" : Str)) : Bool) = true from beq_self_eq_true _]
  simp
theorem xsub_self {c : Str} : xsub c c = true := by
  unfold xsub
  simp
theorem xsub_ne {c T : Str} (h1 : (c == T) = false) (h2 : (T == ("FirstwayError" : Str)) = false) (h3 : (T == ("ValueError" : Str)) = false) : xsub c T = false := by
  unfold xsub
  rw [h1, h2, h3]; rfl
theorem rS_expr {e} : rS Φ κ (.expr e) EE K σ M = rE Φ κ e (fun x => EE x σ) σ M fun _ M1 => K.nx σ M1 := rfl
theorem rS_ret {e} : rS Φ κ (.ret e) EE K σ M = rE Φ κ e (fun x => EE x σ) σ M K.rt := rfl
theorem rS_retN : rS Φ κ .retN EE K σ M = K.rt .non M := rfl
theorem rS_pass : rS Φ κ .pass EE K σ M = K.nx σ M := rfl
theorem rS_brk : rS Φ κ .brk EE K σ M = K.bk σ M := rfl
theorem rS_cont : rS Φ κ .cont EE K σ M = K.ct σ M := rfl
theorem rS_ifs {c a b} : rS Φ κ (.ifs c a b) EE K σ M = rT Φ κ c (fun x => EE x σ) σ M fun k M1 => if k = true then rSs Φ κ a EE K σ M1 else rSs Φ κ b EE K σ M1 := rfl
theorem rS_fors {t it body} : rS Φ κ (.fors t it body) EE K σ M = rdi Φ κ it (fun x => EE x σ) σ M fun ds lk M1 => loopD lk ds (asgT t) (rSs Φ κ body EE) K ds σ M1 := rfl
theorem rS_enums {t e body} : rS Φ κ (.enums t e body) EE K σ M = rE Φ κ e (fun x => EE x σ) σ M fun d M1 => enumQ d M1 fun ds lk M2 => loopD lk ds (asgT t) (rSs Φ κ body EE) K ds σ M2 := rfl
theorem enumQ_tup {ds : List D} {QI : List D → Option Nat → Md → Prop} : enumQ (.tup ds) M QI = QI (enumD ds) none M := rfl
theorem rS_whil {c body} : rS Φ κ (.whil c body) EE K σ M = ∃ n, whilD (fun σ M Q => rT Φ κ c (fun x => EE x σ) σ M Q) (rSs Φ κ body EE) K n σ M := rfl
theorem rE_var {i} : rE Φ κ (.var i) E σ M Q = match σ[i]? with
    | some (some d) => Q d M
    | _ => False := rfl
theorem rE_int {i} : rE Φ κ (.int i) E σ M Q = Q (.int i) M := rfl
theorem rE_str {i} : rE Φ κ (.str i) E σ M Q = Q (.str i) M := rfl
theorem rE_bl {i} : rE Φ κ (.bl i) E σ M Q = Q (.bl i) M := rfl
theorem rE_non : rE Φ κ .non E σ M Q = Q .non M := rfl
theorem rE_glob {g} : rE Φ κ (.glob g) E σ M Q = Q (κ g) M := rfl
theorem rE_bin {o a b} : rE Φ κ (.bin o a b) E σ M Q = rE Φ κ a E σ M fun x M1 => rE Φ κ b E σ M1 fun y M2 => opD o x y M2 Q := rfl
def negD (x : D) (M : Md) (Q : QE) : Prop := match x with
    | .int i => Q (.int (-i)) M
    | _ => False
theorem rE_neg {a} : rE Φ κ (.neg a) E σ M Q = rE Φ κ a E σ M fun x M1 => negD x M1 Q := rfl
theorem negD_int {i : Int} : negD (.int i) M Q = Q (.int (-i)) M := rfl
theorem rE_not {a} : rE Φ κ (.not a) E σ M Q = rE Φ κ a E σ M fun x M1 => truD x M1 fun k => Q (.bl (!k)) M1 := rfl
theorem rE_and {a b} : rE Φ κ (.and a b) E σ M Q = rE Φ κ a E σ M fun x M1 => truD x M1 fun k => if k = true then rE Φ κ b E σ M1 Q else Q x M1 := rfl
theorem rE_or {a b} : rE Φ κ (.or a b) E σ M Q = rE Φ κ a E σ M fun x M1 => truD x M1 fun k => if k = true then Q x M1 else rE Φ κ b E σ M1 Q := rfl
theorem rE_cmp {c a b} : rE Φ κ (.cmp c a b) E σ M Q = rE Φ κ a E σ M fun x M1 => rE Φ κ b E σ M1 fun y M2 => cpD c x y M2 fun k => Q (.bl k) M2 := rfl
theorem rE_chain {c1 c2 a b d} : rE Φ κ (.chain c1 c2 a b d) E σ M Q = rE Φ κ a E σ M fun x M1 => rE Φ κ b E σ M1 fun y M2 => cpD c1 x y M2 fun k => if k = true then rE Φ κ d E σ M2 fun z M3 => cpD c2 y z M3 fun k => Q (.bl k) M3 else Q (.bl false) M2 := rfl
theorem rE_ife {c a b} : rE Φ κ (.ife c a b) E σ M Q = rT Φ κ c E σ M fun k M1 => if k = true then rE Φ κ a E σ M1 Q else rE Φ κ b E σ M1 Q := rfl
theorem rE_tup {es} : rE Φ κ (.tup es) E σ M Q = rds Φ κ es E σ M fun ds M1 => ds.length ≤ sizeLine ∧ Q (.tup ds) M1 := rfl
theorem rE_lst {es} : rE Φ κ (.lst false es) E σ M Q = rds Φ κ es E σ M fun ds M1 => ds.length ≤ sizeLine ∧ Q (.lst ds) M1 := rfl
theorem rE_lstM {es} : rE Φ κ (.lst true es) E σ M Q = rds Φ κ es E σ M fun ds M1 => ds.length ≤ sizeLine ∧ Q (.ref M1.length) (M1 ++ [.lst ds]) := rfl
theorem rE_idx {a b} : rE Φ κ (.idx a b) E σ M Q = rE Φ κ a E σ M fun x M1 => rE Φ κ b E σ M1 fun y M2 => ixD x y M2 Q := rfl
theorem rE_slc {m a lo hi} : rE Φ κ (.slc m a lo hi) E σ M Q = rE Φ κ a E σ M fun x M1 => rdo Φ κ lo E σ M1 fun l M2 => rdo Φ κ hi E σ M2 fun h M3 => slD m x l h M3 Q := rfl
theorem rE_call {f es} : rE Φ κ (.call f es) E σ M Q = rds Φ κ es E σ M fun ds M1 => Φ f ds M1 Q E := rfl
theorem rE_blt {b es} : rE Φ κ (.blt b es) E σ M Q = rds Φ κ es E σ M fun ds M1 => btD b ds M1 Q := rfl
def fnQ (o : Option (Option D)) (c : Option (List D)) (M : Md) (n : Nat) (K : Nat → List D → Prop) : Prop := match o, c with
  | some (some (.ref k)), some cs => isFn M k n ∧ K k cs
  | _, _ => False
theorem fnQ_ref {k n : Nat} {cs : List D} {K : Nat → List D → Prop} : fnQ (some (some (.ref k))) (some cs) M n K = (isFn M k n ∧ K k cs) := rfl
theorem rE_calln {i n js es} : rE Φ κ (.calln i n js es) E σ M Q = fnQ σ[i]? (capsD σ js) M n fun k cs => rds Φ κ es E σ M fun ds M1 => isFn M1 k n ∧ Φ n (.ref k :: (cs ++ ds)) M1 Q E := by
  show (match σ[i]?, capsD σ js with
    | some (some (.ref k)), some cs => isFn M k n ∧ rds Φ κ es E σ M fun ds M1 => isFn M1 k n ∧ Φ n (.ref k :: (cs ++ ds)) M1 Q E
    | _, _ => False) = _
  unfold fnQ
  rfl
def capQ (o : Option (Option D)) (c : Option (List D)) : Option (List D) := match o, c with
  | some (some d), some ds => some (d :: ds)
  | _, _ => none
theorem capQ_some {d : D} {ds : List D} : capQ (some (some d)) (some ds) = some (d :: ds) := rfl
theorem capsD_nil {σ : Std} : capsD σ [] = some [] := rfl
theorem capsD_cons {σ : Std} {j : Nat} {js : List Nat} : capsD σ (j :: js) = capQ σ[j]? (capsD σ js) := rfl
theorem rE_mth {m o es} : rE Φ κ (.mth m o es) E σ M Q = rE Φ κ o E σ M fun x M1 => mtK m x M1 ∧ rds Φ κ es E σ M1 fun ds M2 => mtD m x ds M2 Q := rfl
theorem rE_comp {elt t it ifs own} : rE Φ κ (.comp false elt t it ifs own) E σ M Q = rdi Φ κ it E σ M fun ds lk M1 =>
      compD lk ds (fun d k M => asgT t d (wipeD σ own) M k) (fun σ M Q => rdt Φ κ ifs (fun _ _ => False) σ M Q) (fun σ M Q => rE Φ κ elt (fun _ _ => False) σ M Q) (fun acc M => Q (.lst acc) M) ds [] M1 := rfl
theorem rE_compM {elt t it ifs own} : rE Φ κ (.comp true elt t it ifs own) E σ M Q = rdi Φ κ it E σ M fun ds lk M1 =>
      compD lk ds (fun d k M => asgT t d (wipeD σ own) M k) (fun σ M Q => rdt Φ κ ifs (fun _ _ => False) σ M Q) (fun σ M Q => rE Φ κ elt (fun _ _ => False) σ M Q) (fun acc M => Q (.ref M.length) (M ++ [.lst acc])) ds [] M1 := rfl
theorem rE_dnewT : rE Φ κ .dnewT E σ M Q = Q (.ref M.length) (M ++ [.dctT []]) := rfl
theorem rE_dlit {ks : List Str} {es : CEs} : rE Φ κ (.dlit ks es) E σ M Q = rds Φ κ es E σ (M ++ [.dct []]) fun ds M1 => M1[M.length]? = some (.dct []) ∧ Q (.ref M.length) (M1.set M.length (.dct (dlitP ks ds []))) := rfl
theorem rE_dget {o k x : CE} : rE Φ κ (.dget o k x) E σ M Q = rE Φ κ o E σ M fun d M1 => isDct d M1 ∧ rE Φ κ k E σ M1 fun y M2 => rE Φ κ x E σ M2 fun z M3 => dgetD d y z M3 Q := rfl
theorem rE_dnew : rE Φ κ .dnew E σ M Q = Q (.ref M.length) (M ++ [.dct []]) := rfl
def lrQ (d : D) (M : Md) (Q : QE) : Prop := match d with
    | .int j => -(2 ^ 62) ≤ j ∧ j ≤ 16777216 ∧ Q (.lst (rngD 0 j)) M
    | _ => False
theorem rE_fld {c a f} : rE Φ κ (.fld c a f) E σ M Q = rE Φ κ a E σ M fun d M1 => fldD c f d M1 Q := rfl
theorem rE_meth {c m n o es} : rE Φ κ (.meth c m n o es) E σ M Q = rE Φ κ o E σ M fun x M1 => objD c m x M1 ∧ rds Φ κ es E σ M1 fun ds M2 => Φ n (x :: ds) M2 Q E := rfl
theorem objD_obj {c m c' : Str} {ns : List Str} {ds : List D} : objD c m (.obj c' ns ds) M = (c' = c ∧ ns.contains m = false) := rfl
theorem rT_meth {c m n o es} : rT Φ κ (.meth c m n o es) E σ M QT = rE Φ κ (.meth c m n o es) E σ M fun d M1 => truD d M1 fun k => QT k M1 := rfl
theorem rE_callK {f j es ks zs df} : rE Φ κ (.callK f j es ks zs df) E σ M Q = rds Φ κ es E σ M fun ds M1 => ds.length = j ∧ rds Φ κ zs E σ M1 fun us M2 => us.length = ks.length ∧ Φ f (ds ++ (us ++ df.map Sc.d)) M2 Q E := rfl
theorem rE_methK {c m n o j es ks zs df} : rE Φ κ (.methK c m n o j es ks zs df) E σ M Q = rE Φ κ o E σ M fun x M1 => objD c m x M1 ∧ rds Φ κ es E σ M1 fun ds M2 => ds.length = j ∧ rds Φ κ zs E σ M2 fun us M3 => us.length = ks.length ∧ Φ n (x :: (ds ++ (us ++ df.map Sc.d))) M3 Q E := rfl
theorem rE_makeK {n c j es ks zs df} : rE Φ κ (.makeK true n c j es ks zs df) E σ M Q = rds Φ κ es E σ M fun ds M0 => ds.length = j ∧ rds Φ κ zs E σ M0 fun us M1 => us.length = ks.length ∧ Φ n (.ref M1.length :: (ds ++ (us ++ df.map Sc.d))) (M1 ++ [.ins c []]) (fun d M2 => d = .non ∧ Q (.ref M1.length) M2) E := rfl
theorem Sc_non : Sc.d .non = .non := rfl
theorem Sc_bl {b : Bool} : Sc.d (.bl b) = .bl b := rfl
theorem Sc_int {i : Int} : Sc.d (.int i) = .int i := rfl
theorem Sc_str {i : Str} : Sc.d (.str i) = .str i := rfl
theorem rE_make {n c es} : rE Φ κ (.make true n c es) E σ M Q = rds Φ κ es E σ M fun ds M1 => Φ n (.ref M1.length :: ds) (M1 ++ [.ins c []]) (fun d M2 => d = .non ∧ Q (.ref M1.length) M2) E := rfl
def mkQ (c : Str) (M1 : Md) (Q : QE) (d : D) (M2 : Md) : Prop := d = .non ∧ ∃ fs, M2 = M1 ++ [.ins c fs] ∧ RLtM M1.length (.ins c fs) ∧ Q (.obj c (fs.map (·.1)) (fs.map (·.2))) M1
theorem rE_makeKS {n c j es ks zs df} : rE Φ κ (.makeK false n c j es ks zs df) E σ M Q = rds Φ κ es E σ M fun ds M0 => ds.length = j ∧ rds Φ κ zs E σ M0 fun us M1 => us.length = ks.length ∧ Φ n (.ref M1.length :: (ds ++ (us ++ df.map Sc.d))) (M1 ++ [.ins c []]) (mkQ c M1 Q) E := rfl
theorem rE_makeS {n c es} : rE Φ κ (.make false n c es) E σ M Q = rds Φ κ es E σ M fun ds M1 => Φ n (.ref M1.length :: ds) (M1 ++ [.ins c []]) (mkQ c M1 Q) E := rfl
def objQ (c c' f : Str) (ns : List Str) (ds : List D) (M : Md) (Q : QE) : Prop := c' = c ∧ match (ns.zip ds).lookup f with
    | some x => Q x M
    | none => False
theorem fld_obj {c c' f : Str} {ns : List Str} {ds : List D} : fldD c f (.obj c' ns ds) M Q = objQ c c' f ns ds M Q := rfl
theorem objQ_hd {c c' f : Str} {ns : List Str} {ds : List D} {d : D} : objQ c c' f (f :: ns) (d :: ds) M Q = (c' = c ∧ Q d M) := by
  unfold objQ
  rw [List.zip_cons_cons, List.lookup_cons, beq_self_eq_true]
theorem objQ_tl {c c' f g : Str} {ns : List Str} {ds : List D} {d : D} (h : (f == g) = false) : objQ c c' f (g :: ns) (d :: ds) M Q = objQ c c' f ns ds M Q := by
  unfold objQ
  rw [List.zip_cons_cons, List.lookup_cons, h]
theorem rS_setFld {c o f v} : rS Φ κ (.setFld c o f v) EE K σ M = rE Φ κ v (fun x => EE x σ) σ M fun d M1 => rE Φ κ o (fun x => EE x σ) σ M1 fun x M2 => setFD c f x d M2 fun M' => K.nx σ M' := rfl
theorem rE_listRg {a} : rE Φ κ (.listRg false a) E σ M Q = rE Φ κ a E σ M fun d M1 => lrQ d M1 Q := rfl
def lrQM (d : D) (M : Md) (Q : QE) : Prop := match d with
    | .int j => -(2 ^ 62) ≤ j ∧ j ≤ 16777216 ∧ Q (.ref M.length) (M ++ [.lst (rngD 0 j)])
    | _ => False
theorem rE_listRgM {a} : rE Φ κ (.listRg true a) E σ M Q = rE Φ κ a E σ M fun d M1 => lrQM d M1 Q := rfl
theorem lrQM_int {j : Int} : lrQM (.int j) M Q = (-(2 ^ 62) ≤ j ∧ j ≤ 16777216 ∧ Q (.ref M.length) (M ++ [.lst (rngD 0 j)])) := rfl
theorem lrQ_int {j : Int} : lrQ (.int j) M Q = (-(2 ^ 62) ≤ j ∧ j ≤ 16777216 ∧ Q (.lst (rngD 0 j)) M) := rfl
theorem rds_nil : rds Φ κ .nil E σ M QA = QA [] M := rfl
theorem rds_cons {e es} : rds Φ κ (.cons e es) E σ M QA = rE Φ κ e E σ M fun d M1 => rds Φ κ es E σ M1 fun ds M2 => QA (d :: ds) M2 := rfl
theorem rdo_none : rdo Φ κ .none E σ M QO = QO none M := rfl
def intO (d : D) (M : Md) (Q : Option Int → Md → Prop) : Prop := match d with
    | .int i => Q (some i) M
    | _ => False
theorem intO_int {i : Int} : intO (.int i) M QO = QO (some i) M := rfl
theorem rdo_some {e} : rdo Φ κ (.some e) E σ M QO = rE Φ κ e E σ M fun d M1 => intO d M1 QO := rfl
theorem rdt_none : rdt Φ κ .none E σ M QT = QT true M := rfl
theorem rdt_some {e} : rdt Φ κ (.some e) E σ M QT = rT Φ κ e E σ M QT := rfl
def walkD (d : D) (M : Md) (Q : List D → Option Nat → Md → Prop) : Prop := match seqOf d M with
    | some ds => Q ds (lkOf d) M
    | none => False
def chrQ (d : D) (M : Md) (Q : List D → Option Nat → Md → Prop) : Prop := match d with
  | .str s => Q (charsD s) none M
  | _ => False
theorem chrQ_str {s : Str} : chrQ (.str s) M QI = QI (charsD s) none M := rfl
theorem rdi_chars {e} : rdi Φ κ (.chars e) E σ M QI = rE Φ κ e E σ M fun d M1 => chrQ d M1 QI := rfl
theorem rdi_seq {e} : rdi Φ κ (.seq e) E σ M QI = rE Φ κ e E σ M fun d M1 => walkD d M1 QI := rfl
theorem walkD_tup {ds} : walkD (.tup ds) M QI = QI ds none M := rfl
theorem walkD_lst {ds} : walkD (.lst ds) M QI = QI ds none M := rfl
def rngQ (d : D) (M : Md) (Q : List D → Option Nat → Md → Prop) : Prop := match d with
    | .int j => -(2 ^ 62) ≤ j ∧ j < 2 ^ 62 ∧ Q (rngD 0 j) none M
    | _ => False
theorem rdi_rng1 {e} : rdi Φ κ (.rng1 e) E σ M QI = rE Φ κ e E σ M fun d M1 => rngQ d M1 QI := rfl
theorem rngQ_int {j} : rngQ (.int j) M QI = (-(2 ^ 62) ≤ j ∧ j < 2 ^ 62 ∧ QI (rngD 0 j) none M) := rfl
def rngQ2 (d e : D) (M : Md) (Q : List D → Option Nat → Md → Prop) : Prop := match d, e with
    | .int i, .int j => -(2 ^ 62) ≤ i ∧ i < 2 ^ 62 ∧ -(2 ^ 62) ≤ j ∧ j < 2 ^ 62 ∧ Q (rngD i j) none M
    | _, _ => False
theorem rdi_rng2 {a b} : rdi Φ κ (.rng2 a b) E σ M QI = rE Φ κ a E σ M fun d M1 => rE Φ κ b E σ M1 fun e M2 => rngQ2 d e M2 QI := rfl
theorem rngQ2_int {i j} : rngQ2 (.int i) (.int j) M QI = (-(2 ^ 62) ≤ i ∧ i < 2 ^ 62 ∧ -(2 ^ 62) ≤ j ∧ j < 2 ^ 62 ∧ QI (rngD i j) none M) := rfl
theorem rT_not {a} : rT Φ κ (.not a) E σ M QT = rT Φ κ a E σ M fun k M1 => QT (!k) M1 := rfl
theorem rT_and {a b} : rT Φ κ (.and a b) E σ M QT = rT Φ κ a E σ M fun k M1 => if k = true then rT Φ κ b E σ M1 QT else QT false M1 := rfl
theorem rT_or {a b} : rT Φ κ (.or a b) E σ M QT = rT Φ κ a E σ M fun k M1 => if k = true then QT true M1 else rT Φ κ b E σ M1 QT := rfl
theorem rT_cmp {c a b} : rT Φ κ (.cmp c a b) E σ M QT = rE Φ κ a E σ M fun x M1 => rE Φ κ b E σ M1 fun y M2 => cpD c x y M2 fun k => QT k M2 := rfl
theorem rT_chain {c1 c2 a b d} : rT Φ κ (.chain c1 c2 a b d) E σ M QT = rE Φ κ a E σ M fun x M1 => rE Φ κ b E σ M1 fun y M2 => cpD c1 x y M2 fun k => if k = true then rE Φ κ d E σ M2 fun z M3 => cpD c2 y z M3 fun k => QT k M3 else QT false M2 := rfl
theorem rT_var {i} : rT Φ κ (.var i) E σ M QT = rE Φ κ (.var i) E σ M fun d M1 => truD d M1 fun k => QT k M1 := rfl
theorem rT_glob {i} : rT Φ κ (.glob i) E σ M QT = rE Φ κ (.glob i) E σ M fun d M1 => truD d M1 fun k => QT k M1 := rfl
theorem rT_bl {i} : rT Φ κ (.bl i) E σ M QT = QT i M := rfl
theorem rT_bin {o a b} : rT Φ κ (.bin o a b) E σ M QT = rE Φ κ (.bin o a b) E σ M fun d M1 => truD d M1 fun k => QT k M1 := rfl
theorem rT_idx {a b} : rT Φ κ (.idx a b) E σ M QT = rE Φ κ (.idx a b) E σ M fun d M1 => truD d M1 fun k => QT k M1 := rfl
theorem rT_fld {c f a} : rT Φ κ (.fld c a f) E σ M QT = rE Φ κ (.fld c a f) E σ M fun d M1 => truD d M1 fun k => QT k M1 := rfl
theorem rT_slc {m a b c} : rT Φ κ (.slc m a b c) E σ M QT = rE Φ κ (.slc m a b c) E σ M fun d M1 => truD d M1 fun k => QT k M1 := rfl
theorem rT_call {a b} : rT Φ κ (.call a b) E σ M QT = rE Φ κ (.call a b) E σ M fun d M1 => truD d M1 fun k => QT k M1 := rfl
theorem rT_blt {a b} : rT Φ κ (.blt a b) E σ M QT = rE Φ κ (.blt a b) E σ M fun d M1 => truD d M1 fun k => QT k M1 := rfl
theorem rT_mth {a b c} : rT Φ κ (.mth a b c) E σ M QT = rE Φ κ (.mth a b c) E σ M fun d M1 => truD d M1 fun k => QT k M1 := rfl
theorem rT_comp {m a b c d e} : rT Φ κ (.comp m a b c d e) E σ M QT = rE Φ κ (.comp m a b c d e) E σ M fun d M1 => truD d M1 fun k => QT k M1 := rfl
theorem opD_add {i j : Int} : opD .add (.int i) (.int j) M Q = Q (.int (i + j)) M := rfl
theorem opD_adds {s t : Str} : opD .add (.str s) (.str t) M Q = (s.length + t.length ≤ sizeLine ∧ Q (.str (s ++ t)) M) := rfl
theorem opD_addt {a b : List D} : opD .add (.tup a) (.tup b) M Q = (a.length + b.length ≤ sizeLine ∧ Q (.tup (a ++ b)) M) := rfl
theorem opD_addl {a b : List D} : opD .add (.lst a) (.lst b) M Q = (a.length + b.length ≤ sizeLine ∧ Q (.lst (a ++ b)) M) := rfl
theorem opD_catl {a b : List D} : opD .cat (.lst a) (.lst b) M Q = (a.length + b.length ≤ sizeLine ∧ Q (.ref M.length) (M ++ [.lst (a ++ b)])) := rfl
theorem opD_sub {i j : Int} : opD .sub (.int i) (.int j) M Q = Q (.int (i - j)) M := rfl
theorem opD_muls {s : Str} {j : Int} : opD .mul (.str s) (.int j) M Q = (0 ≤ j ∧ 1 ≤ s.length ∧ s.length * j.toNat ≤ sizeLine ∧ Q (.str (repS s j.toNat)) M) := rfl
theorem opD_mul {i j : Int} : opD .mul (.int i) (.int j) M Q = (CMul i j ∧ Q (.int (i * j)) M) := rfl
theorem opD_fdivW {i j : Int} : opD .fdivW (.int i) (.int j) M Q = (CDivW i j ∧ Q (.int (i / j)) M) := rfl
theorem opD_fdiv {i j : Int} : opD .fdiv (.int i) (.int j) M Q = (CDiv i j ∧ Q (.int (i / j)) M) := rfl
theorem opD_mod {i j : Int} : opD .mod (.int i) (.int j) M Q = (0 < j ∧ Q (.int (i % j)) M) := rfl
theorem opD_pow {i j : Int} : opD .pow (.int i) (.int j) M Q = (CPow i j ∧ Q (.int (i ^ j.toNat)) M) := rfl
theorem opD_band {i j : Int} : opD .band (.int i) (.int j) M Q = Q (.int (Builtin.bitAnd i j)) M := rfl
section
variable {QB : Bool → Prop}
theorem cp_lt {i j : Int} : cpD .lt (.int i) (.int j) M QB = QB (decide (i < j)) := rfl
theorem cp_le {i j : Int} : cpD .le (.int i) (.int j) M QB = QB (decide (i ≤ j)) := rfl
theorem cp_gt {i j : Int} : cpD .gt (.int i) (.int j) M QB = QB (decide (j < i)) := rfl
theorem cp_ge {i j : Int} : cpD .ge (.int i) (.int j) M QB = QB (decide (j ≤ i)) := rfl
theorem cp_eq {i j : Int} : cpD .eq (.int i) (.int j) M QB = QB (decide (i = j)) := rfl
theorem cp_eqs {i j : Str} : cpD .eq (.str i) (.str j) M QB = QB (decide (i = j)) := rfl
theorem cp_eqb {i j : Bool} : cpD .eq (.bl i) (.bl j) M QB = QB (decide (i = j)) := rfl
theorem cp_eqn : cpD .eq .non .non M QB = QB true := rfl
theorem cp_eqni {i} : cpD .eq .non (.int i) M QB = QB false := rfl
theorem cp_eqin {i} : cpD .eq (.int i) .non M QB = QB false := rfl
theorem cp_ne {i j : Int} : cpD .ne (.int i) (.int j) M QB = QB (!decide (i = j)) := rfl
theorem cp_nes {i j : Str} : cpD .ne (.str i) (.str j) M QB = QB (!decide (i = j)) := rfl
theorem cp_neb {i j : Bool} : cpD .ne (.bl i) (.bl j) M QB = QB (!decide (i = j)) := rfl
theorem cp_nen : cpD .ne .non .non M QB = QB false := rfl
theorem cp_neni {i} : cpD .ne .non (.int i) M QB = QB true := rfl
theorem cp_nein {i} : cpD .ne (.int i) .non M QB = QB true := rfl
theorem cp_isN {d : D} : cpD .isN d .non M QB = QB (isNon d) := by
  show (isNon .non = true ∧ QB (isNon d)) = _
  exact propext ⟨fun h => h.2, fun h => ⟨rfl, h⟩⟩
theorem cp_notN {d : D} : cpD .notN d .non M QB = QB (!isNon d) := by
  show (isNon .non = true ∧ QB (!isNon d)) = _
  exact propext ⟨fun h => h.2, fun h => ⟨rfl, h⟩⟩
theorem cp_isB {a b : Bool} : cpD .isB (.bl a) (.bl b) M QB = QB (decide (a = b)) := rfl
theorem cp_notB {a b : Bool} : cpD .notB (.bl a) (.bl b) M QB = QB (!decide (a = b)) := rfl
theorem isNon_non : isNon .non = true := rfl
theorem isNon_int {i} : isNon (.int i) = false := rfl
theorem isNon_bl {i} : isNon (.bl i) = false := rfl
theorem isNon_str {i} : isNon (.str i) = false := rfl
theorem isNon_tup {i} : isNon (.tup i) = false := rfl
theorem isNon_lst {i} : isNon (.lst i) = false := rfl
theorem isNon_ref {i} : isNon (.ref i) = false := rfl
theorem tru_non : truD .non M QB = QB false := rfl
theorem tru_bl {b} : truD (.bl b) M QB = QB b := rfl
theorem tru_int {i} : truD (.int i) M QB = QB (i != 0) := rfl
theorem tru_str {s} : truD (.str s) M QB = (s.length ≤ sizeLine ∧ QB ((s.length : Int) != 0)) := rfl
theorem tru_tup {ds} : truD (.tup ds) M QB = QB (!ds.isEmpty) := rfl
theorem tru_lst {ds} : truD (.lst ds) M QB = QB (!ds.isEmpty) := rfl
theorem cp_inn_flat {x y : D} {ds : List D} (h1 : seqOf y M = some ds) (h2 : dGet y x M = none) (hx : flatD x = true) (hf : ds.all flatD = true) (hs : ∀ s t, ¬ (x = .str s ∧ y = .str t)) : cpD .inn x y M QB = QB (ds.any fun d => eqF d x) := by
  show inD x y M QB = _
  unfold inD
  split
  · exact absurd ⟨rfl, rfl⟩ (hs _ _)
  · rw [h2]
    simp only [h1, hx, hf, Bool.and_self, if_true]
theorem cp_inn_tup {x : D} {ds : List D} (hx : flatD x = true) (hf : ds.all flatD = true) : cpD .inn x (.tup ds) M QB = QB (ds.any fun d => eqF d x) := cp_inn_flat rfl rfl hx hf (by rintro s t ⟨_, h⟩; cases h)
theorem cp_inn_lst {x : D} {ds : List D} (hx : flatD x = true) (hf : ds.all flatD = true) : cpD .inn x (.lst ds) M QB = QB (ds.any fun d => eqF d x) := cp_inn_flat rfl rfl hx hf (by rintro s t ⟨_, h⟩; cases h)
end
def atQ (ds : List D) (i : Int) (M : Md) (Q : QE) : Prop := match atI ds i with
  | some d => Q d M
  | none => False
theorem ix_tup' {ds i} : ixD (.tup ds) (.int i) M Q = atQ ds i M Q := rfl
theorem ix_lst' {ds i} : ixD (.lst ds) (.int i) M Q = atQ ds i M Q := rfl
theorem ix_scr {ns i} : ixD (.scr ns) (.int i) M Q = atQ (ns.map .int) i M Q := rfl
theorem ix_ref {k ds i} (h : M[k]? = some (.lst ds)) : ixD (.ref k) (.int i) M Q = atQ ds i M Q := by
  simp only [ixD, dGet, seqOf, h, atQ]
  try rfl
theorem atQ_some {ds : List D} {i : Int} {d : D} (h : atI ds i = some d) : atQ ds i M Q = Q d M := by simp only [atQ, h]
theorem atI_0 {α : Type} {x : α} {xs : List α} : atI (x :: xs) 0 = some x := by
  have : atI (x :: xs) ((0 : Nat) : Int) = some x := atI_nat rfl
  exact this
theorem atI_1 {α : Type} {x y : α} {xs : List α} : atI (x :: y :: xs) 1 = some y := by
  have : atI (x :: y :: xs) ((1 : Nat) : Int) = some y := atI_nat rfl
  exact this
theorem atI_2 {α : Type} {x y z : α} {xs : List α} : atI (x :: y :: z :: xs) 2 = some z := by
  have : atI (x :: y :: z :: xs) ((2 : Nat) : Int) = some z := atI_nat rfl
  exact this
theorem atI_3 {α : Type} {x y z u : α} {xs : List α} : atI (x :: y :: z :: u :: xs) 3 = some u := by
  have : atI (x :: y :: z :: u :: xs) ((3 : Nat) : Int) = some u := atI_nat rfl
  exact this
theorem atI_4 {α : Type} {x y z u v : α} {xs : List α} : atI (x :: y :: z :: u :: v :: xs) 4 = some v := by
  have : atI (x :: y :: z :: u :: v :: xs) ((4 : Nat) : Int) = some v := atI_nat rfl
  exact this
theorem atI_m1 {α : Type} {xs : List α} {x : α} : atI (xs ++ [x]) (-1) = some x := atI_last xs x
theorem atQ_0 {x : D} {xs} : atQ (x :: xs) 0 M Q = Q x M := atQ_some atI_0
theorem atQ_1 {x y : D} {xs} : atQ (x :: y :: xs) 1 M Q = Q y M := atQ_some atI_1
theorem atQ_2 {x y z : D} {xs} : atQ (x :: y :: z :: xs) 2 M Q = Q z M := atQ_some atI_2
theorem atQ_3 {x y z u : D} {xs} : atQ (x :: y :: z :: u :: xs) 3 M Q = Q u M := atQ_some atI_3
theorem atQ_4 {x y z u v : D} {xs} : atQ (x :: y :: z :: u :: v :: xs) 4 M Q = Q v M := atQ_some atI_4
theorem atQ_m1 {x : D} {xs} : atQ (xs ++ [x]) (-1) M Q = Q x M := atQ_some atI_m1
theorem bt_len_str {s : Str} : btD .len [.str s] M Q = (s.length ≤ sizeLine ∧ Q (.int s.length) M) := rfl
theorem bt_len_tup {ds} : btD .len [.tup ds] M Q = Q (.int ds.length) M := rfl
theorem bt_len_lst {ds} : btD .len [.lst ds] M Q = Q (.int ds.length) M := rfl
theorem bt_len_scr {ns} : btD .len [.scr ns] M Q = Q (.int ns.length) M := by
  show Q (.int (ns.map D.int).length) M = _
  rw [List.length_map]
theorem bt_list_tup {ds} : btD .list [.tup ds] M Q = Q (.lst ds) M := rfl
theorem bt_list_lst {ds} : btD .list [.lst ds] M Q = Q (.lst ds) M := rfl
theorem bt_listM_tup {ds} : btD .listM [.tup ds] M Q = Q (.ref M.length) (M ++ [.lst ds]) := rfl
theorem bt_listM_lst {ds} : btD .listM [.lst ds] M Q = Q (.ref M.length) (M ++ [.lst ds]) := rfl
theorem bt_tuple_tup {ds} : btD .tuple [.tup ds] M Q = Q (.tup ds) M := rfl
theorem bt_tuple_lst {ds} : btD .tuple [.lst ds] M Q = Q (.tup ds) M := rfl
theorem bt_max2 {i j : Int} : btD .max2 [.int i, .int j] M Q = Q (.int (if j > i then j else i)) M := rfl
theorem bt_min2 {i j : Int} : btD .min2 [.int i, .int j] M Q = Q (.int (if j < i then j else i)) M := rfl
theorem bt_int_int {i : Int} : btD .int [.int i] M Q = Q (.int i) M := rfl
theorem bt_int_bl {b} : btD .int [.bl b] M Q = Q (.int (if b then 1 else 0)) M := rfl
def srtQ (o : Option MO) (Q : List D → Prop) : Prop := match o with
  | some (.dct kvs) => ∃ ns : List Int, kvs.map (·.1) = ns.map (fun n => some (.inl n)) ∧ Q (sortD (ns.map D.int))
  | _ => False
theorem srt_dct {k : Nat} : btD .sortedD [.ref k] M Q = srtQ M[k]? fun ds => Q (.lst ds) M := rfl
theorem bt_sorted_lst {ds} : btD .sorted [.lst ds] M Q = (SortOk ds ∧ Q (.lst (sortD ds)) M) := by
  show ((∀ es, D.lst ds ≠ .tup es) ∧ SortOk ds ∧ Q (.lst (sortD ds)) M) = _
  exact propext ⟨fun h => h.2, fun h => ⟨(by intro _ h; cases h), h⟩⟩
theorem bt_ord' {s : Str} : btD .ord [.str s] M Q = (s.length = 1 ∧ Q (.int (s.cps.getD 0 0 : Nat)) M) := rfl
theorem bt_str' {i : Int} : btD .str [.int i] M Q = (i.natAbs.log2 < 1920 ∧ Q (.str (toString i)) M) := rfl
def isiQ (t T : String) (M : Md) (Q : QE) : Prop := match kitB t T with
  | some b => Q (.bl b) M
  | none => False
theorem isi_non {T} : btD (.isi T) [.non] M Q = isiQ "NoneType" T M Q := rfl
theorem isi_bl {T b} : btD (.isi T) [.bl b] M Q = isiQ "bool" T M Q := rfl
theorem isi_int {T b} : btD (.isi T) [.int b] M Q = isiQ "int" T M Q := rfl
theorem isi_str {T b} : btD (.isi T) [.str b] M Q = isiQ "str" T M Q := rfl
theorem isi_tup {T b} : btD (.isi T) [.tup b] M Q = isiQ "tuple" T M Q := rfl
theorem isi_lst {T b} : btD (.isi T) [.lst b] M Q = isiQ "list" T M Q := rfl
theorem isiQ_eq {t T : String} {b : Bool} (h : kitB t T = some b) : isiQ t T M Q = Q (.bl b) M := by simp only [isiQ, h]
theorem kit_bb : kitB "bool" "bool" = some true := by decide +kernel
theorem kit_bi : kitB "bool" "int" = some true := by decide +kernel
theorem kit_bs : kitB "bool" "str" = some false := by decide +kernel
theorem kit_bt : kitB "bool" "tuple" = some false := by decide +kernel
theorem kit_bl : kitB "bool" "list" = some false := by decide +kernel
theorem kit_ib : kitB "int" "bool" = some false := by decide +kernel
theorem kit_ii : kitB "int" "int" = some true := by decide +kernel
theorem kit_is : kitB "int" "str" = some false := by decide +kernel
theorem kit_it : kitB "int" "tuple" = some false := by decide +kernel
theorem kit_il : kitB "int" "list" = some false := by decide +kernel
theorem kit_sb : kitB "str" "bool" = some false := by decide +kernel
theorem kit_si : kitB "str" "int" = some false := by decide +kernel
theorem kit_ss : kitB "str" "str" = some true := by decide +kernel
theorem kit_st : kitB "str" "tuple" = some false := by decide +kernel
theorem kit_sl : kitB "str" "list" = some false := by decide +kernel
theorem kit_tb : kitB "tuple" "bool" = some false := by decide +kernel
theorem kit_ti : kitB "tuple" "int" = some false := by decide +kernel
theorem kit_ts : kitB "tuple" "str" = some false := by decide +kernel
theorem kit_tt : kitB "tuple" "tuple" = some true := by decide +kernel
theorem kit_tl : kitB "tuple" "list" = some false := by decide +kernel
theorem kit_lb : kitB "list" "bool" = some false := by decide +kernel
theorem kit_li : kitB "list" "int" = some false := by decide +kernel
theorem kit_ls : kitB "list" "str" = some false := by decide +kernel
theorem kit_lt : kitB "list" "tuple" = some false := by decide +kernel
theorem kit_ll : kitB "list" "list" = some true := by decide +kernel
theorem kit_nb : kitB "NoneType" "bool" = some false := by decide +kernel
theorem kit_ni : kitB "NoneType" "int" = some false := by decide +kernel
theorem kit_ns : kitB "NoneType" "str" = some false := by decide +kernel
theorem kit_nt : kitB "NoneType" "tuple" = some false := by decide +kernel
theorem kit_nl : kitB "NoneType" "list" = some false := by decide +kernel
theorem mt_app {k ds d} (h : M[k]? = some (.lst ds)) : mtD .append (.ref k) [d] M Q = (ds.length < sizeLine ∧ Q .non (M.set k (.lst (ds ++ [d])))) := by simp only [mtD, mutOf, h]
theorem sl_tup' {m ds lo hi} : slD m (.tup ds) lo hi M Q = Q (.tup (cutD ds lo hi)) M := rfl
theorem sl_lst' {ds lo hi} : slD false (.lst ds) lo hi M Q = Q (.lst (cutD ds lo hi)) M := rfl
theorem sl_str' {m s lo hi} : slD m (.str s) lo hi M Q = (s.length ≤ sizeLine ∧ Q (.str ⟨(cutD s.cps.toList lo hi).toArray⟩) M) := rfl
section
variable {QS : Std → Md → Prop}
theorem asg_nm {i d} : asgT (.nm i) d σ M QS = QS (σ.set i (some d)) M := rfl
theorem asg_tp {is ds} : asgT (.tp is) (.tup ds) σ M QS = (ds.length = is.length ∧ QS (setAll σ is ds) M) := rfl
theorem setAll_cons {i is d ds} : setAll σ (i :: is) (d :: ds) = setAll (σ.set i (some d)) is ds := rfl
theorem setAll_nil {ds} : setAll σ [] ds = σ := by cases ds <;> rfl
end
theorem at_new0 {l : Md} : (M ++ l)[M.length]? = l[0]? := by
  rw [List.getElem?_append_right (Nat.le_refl _), Nat.sub_self]
theorem at_new {l : Md} {i : Nat} : (M ++ l)[M.length + i]? = l[i]? := by
  rw [List.getElem?_append_right (Nat.le_add_right _ _), Nat.add_sub_cancel_left]
theorem at_old {l : Md} {k : Nat} {m : MO} (h : M[k]? = some m) : (M ++ l)[k]? = some m := by
  rw [List.getElem?_append_left (List.getElem?_eq_some_iff.mp h).1]; exact h
theorem set_new0 {l : Md} {m : MO} : (M ++ l).set M.length m = M ++ l.set 0 m := by
  rw [List.set_append_right _ _ (Nat.le_refl _), Nat.sub_self]
theorem set_new {l : Md} {i : Nat} {m : MO} : (M ++ l).set (M.length + i) m = M ++ l.set i m := by
  rw [List.set_append_right _ _ (Nat.le_add_right _ _), Nat.add_sub_cancel_left]
theorem len_set {k : Nat} {m : MO} : (M.set k m).length = M.length := List.length_set ..
end
/-- own changing objects are let go -/
theorem Fin.tail {n0 : Nat} {Q : QE} {d : D} {M l : Md} (hn : M.length = n0) (hd : RLt M.length d) (hM : MOk M) (q : Q d M) : Fin n0 Q d (M ++ l) := by
  have e : (M ++ l).take M.length = M := by simp
  refine .drop M.length (by omega) (by simp) hd (by rw [e]; exact hM) ?_
  rw [e]
  exact .keep q
theorem MOk.set {M : Md} (h : MOk M) {k : Nat} {m : MO} (hm : RLtM M.length m) : MOk (M.set k m) := fun x hx => by
  rw [List.length_set]
  rcases List.mem_or_eq_of_mem_set hx with z | z
  · exact h x z
  · rw [z]; exact hm
mutual
def noRef : D → Bool
  | .ref _ => false
  | .tup ds => noRefs ds
  | .lst ds => noRefs ds
  | .obj _ _ ds => noRefs ds
  | .exc _ _ _ _ ds => noRefs ds
  | _ => true
def noRefs : List D → Bool
  | [] => true
  | d :: ds => noRef d && noRefs ds
end
mutual
theorem noRef_lt {n : Nat} : ∀ {d : D}, noRef d = true → RLt n d
  | .ref _, h => by cases h
  | .tup ds, h => noRefs_lt (ds := ds) h
  | .lst ds, h => noRefs_lt (ds := ds) h
  | .non, _ => trivial
  | .bl _, _ => trivial
  | .int _, _ => trivial
  | .str _, _ => trivial
  | .scr _, _ => trivial
  | .obj _ _ ds, h => noRefs_lt (ds := ds) h
  | .exc _ _ _ _ ds, h => noRefs_lt (ds := ds) h
theorem noRefs_lt {n : Nat} : ∀ {ds : List D}, noRefs ds = true → RLts n ds
  | [], _ => trivial
  | d :: ds, h => by
    have h : (noRef d && noRefs ds) = true := h
    rw [Bool.and_eq_true] at h
    exact ⟨noRef_lt h.1, noRefs_lt h.2⟩
end
theorem noRefs_map {α : Type} {f : α → D} {xs : List α} (h : ∀ x ∈ xs, noRef (f x) = true) : noRefs (xs.map f) = true := by
  induction xs with
  | nil => rfl
  | cons x xs ih =>
    show (noRef (f x) && noRefs (xs.map f)) = true
    rw [h x List.mem_cons_self, ih fun y hy => h y (List.mem_cons_of_mem _ hy)]; rfl
end DL
namespace DL
open PySem PySem.Spec PyProof.Rows L2
section
variable {Pg : Program} {w : World} {K : PySem.W.Frag} {mg : Str → Option Value} {base : Heap} {P : Pm} {Φ : Nat → SpD} {κ : Nat → D} {k : Nat}
abbrev OkD (Pg : Program) (w : World) (K : PySem.W.Frag) (mg : Str → Option Value) (base : Heap) (P : Pm) (k : Nat) (f : Addr) (fd : FuncData) (ps : List Str) (sp : SpD) : Prop := FnOk Pg w K mg base (L2.CX Pg w) k f fd ps (liSp P sp)
theorem OkD.no {f : Addr} {fd : FuncData} {ps : List Str} : OkD Pg w K mg base P k f fd ps fun _ _ _ _ => False :=
  ⟨fun _ _ _ _ ⟨_, _, _, _, _, _, _, _, _, q⟩ => q.elim, fun _ _ _ _ _ _ _ _ _ _ _ _ _ ⟨_, _, _, _, _, _, _, _, _, q⟩ => q.elim⟩
theorem OkD.imp {f : Addr} {fd : FuncData} {ps : List Str} {sp sp' : SpD} (F : OkD Pg w K mg base P k f fd ps sp) (h : ∀ ds M Q E, sp' ds M Q E → sp ds M Q E) : OkD Pg w K mg base P k f fd ps sp' :=
  FnOk.imp F fun _ _ _ _ ⟨w, M, ds, Qd, Ed, R, r, l, lx, q⟩ => ⟨w, M, ds, Qd, Ed, R, r, l, lx, h _ _ _ _ q⟩
theorem Tab.nil {B : List Str} (hB : ∀ x ∈ B, mg x = none) : Tab Pg w K mg base P [] B Φ κ k :=
  .mk (fun x f h => absurd h (by simp [List.lookup])) (fun x g h => absurd h (by simp [List.lookup])) hB
theorem Tab.consF {G : List (Str × GD)} {B : List Str} {x : Str} {n j : Nat} {a : Addr} {fd : FuncData} {ps : List Str} (T : Tab Pg w K mg base P G B Φ κ k) (hj : j ≤ k) (hg : mg x = some (.ref a)) (hk : PySem.W.keepIn K (.ref a) = true)
    (F : OkD Pg w K mg base P j a fd ps (Φ n)) (b : Binds K fd ps []) : Tab Pg w K mg base P ((x, .fn n) :: G) B Φ κ k := by
  refine ⟨fun y f h => ?_, fun y g h => ?_, T.blt⟩
  · rw [List.lookup_cons] at h
    split at h
    · next e =>
      cases h
      rw [eq_of_beq e]
      exact ⟨j, a, fd, ps, hj, hg, hk, F, b⟩
    · exact T.fun_ y f h
  · rw [List.lookup_cons] at h
    split at h
    · cases h
    · exact T.cst y g h
theorem Tab.consC {G : List (Str × GD)} {B : List Str} {x : Str} {n : Nat} (T : Tab Pg w K mg base P G B Φ κ k) (c : ∃ u v, mg x = some u ∧ RelV v u ∧ ∀ w, RelD P w (κ n) v) : Tab Pg w K mg base P ((x, .cst n) :: G) B Φ κ k := by
  refine ⟨fun y f h => ?_, fun y g h => ?_, T.blt⟩
  · rw [List.lookup_cons] at h
    split at h
    · cases h
    · exact T.fun_ y f h
  · rw [List.lookup_cons] at h
    split at h
    · next e =>
      cases h
      rw [eq_of_beq e]
      exact c
    · exact T.cst y g h
/-- what stands of a law's own exceptions -/
structure XOk (Pg : Program) (w : World) (K : PySem.W.Frag) (mg : Str → Option Value) (base : Heap) (P : Pm) (XC : XCtx) (k : Nat) : Prop where
  hot : XC.hot = false
  xs : ∀ T ∈ XC.xs, mg T = some (.ref (P.cls T)) ∧ ExcN K (P.cls T) ∧ PySem.W.kitOne K (.ref (P.cls T)) (.type "ValueError") = some true ∧ ∀ c ∈ XC.xs, PySem.W.kitOne K (.ref (P.cls c)) (.ref (P.cls T)) = some (xsub c T) ∧ PySem.W.exmOne K (.ref (P.cls c)) (.ref (P.cls T)) = some (xsub c T)
  xr : ∀ c ∈ XC.xr, mg c = some (.ref (P.cls c)) ∧ RaisN K (P.cls c)
  xi : ∀ q ∈ XC.xi, mg q.1 = some (.ref (P.cls q.1)) ∧ OexC K (P.cls q.1) ∧ ∃ j f fd, j + 1 ≤ k ∧ PySem.W.findIn K (.ref (P.cls q.1)) "__init__" = some (some (.ref f)) ∧ PySem.W.typeIn K (.ref f) = some (.type "function") ∧ FnOk Pg w K mg base (L2.CX Pg w) j f fd ("self" :: q.2) (initSp (P.cls q.1) q.2) ∧ Binds K fd ("self" :: q.2) []
  xf : ∀ q ∈ XC.xf, q.1 ∈ XC.xs ∧ PySem.W.findIn K (.ref (P.cls q.1)) q.2 = some none
  kd : ∀ q ∈ XC.kd, ∃ a es n, mg q.1 = some (.ref a) ∧ KDict K w a es n ∧ TabV K a q.2
theorem XOk.none {base : Heap} : XOk Pg w K mg base P {} k := ⟨rfl, fun _ h => (by cases h), fun _ h => (by cases h), fun _ h => (by cases h), fun _ h => (by cases h), fun _ h => (by cases h)⟩
/-- a body's reading, sound -/
def BodyOk (P : Pm) (C : Ctx) (Φ : Nat → SpD) (κ : Nat → D) (bodyS : List Stmt) (rr : RS) : Prop := ∀ (X : Cx) (W : WX), EnvOk X P C Φ κ → C.sc.kind = .function → Takes X W → PassesOwn (model X.prog X.w) X.A X.env X.xe → X.stack = X.env :: X.outer → X.env.frame = some X.env.locals → PSs X bodyS (liS P W rr)
theorem BodyOk.of {C : Ctx} {bodyS : List Stmt} {cde : CSs} (h : chkSs C cde bodyS = true) : BodyOk P C Φ κ bodyS (rSs Φ κ cde) := fun X W O hk tk hp _ _ => sSs cde O hk tk hp h
/-- THE RULE of a def, of a head's facts, with calls by keywords, with exceptions -/
theorem okDX {G : List (Str × GD)} {B : List Str} {x qual : Str} {params : Arguments} {bodyS : List Stmt} {scope : Scope} {f : Addr} {fd : FuncData} {dvs : List V} {kws : List (Str × V)} {N ps : List Str} {rr : RS} {XC : XCtx} {sp : SpD} {FL : List (Str × Str)} {MK : List (Str × Nat × Str)} {MT : List (Str × Str × Nat)} {KF : List (Str × Nat × Nat × List Str × List Sc)} {KM : List (Str × (Nat × Str) × Nat × List Str × List Sc)} {KT : List ((Str × Str) × Nat × Nat × List Str × List Sc)}
    (hK : P.K = K) (hpg : P.pg = Pg) (hwl : P.wl = w) (T : Tab Pg w K mg base P G B Φ κ k) (F : FunD K x qual params bodyS scope dvs kws f fd) (S : FnScope N ps scope) (hX : XOk Pg w K mg base P XC k) (hc : BodyOk P ⟨N, scope, fun _ => true, G, B, FL, MK, MT, KF, KM, KT, [], XC⟩ Φ κ bodyS rr)
    (hF : ∀ q ∈ FL, Cls K (P.cls q.1) ∧ NoAttr K (P.cls q.1) q.2) (hM : ∀ q ∈ MK, ∃ j f fd ps, j + 1 ≤ k ∧ mg q.1 = some (.ref (P.cls q.2.2)) ∧ Mk K (P.cls q.2.2) f ∧ OkD Pg w K mg base P j f fd ps (Φ q.2.1) ∧ Binds K fd ps [])
    (hT : ∀ q ∈ MT, ∃ j f fd ps, j ≤ k ∧ Cls K (P.cls q.1) ∧ Meth K (P.cls q.1) q.2.1 f ∧ OkD Pg w K mg base P j f fd ps (Φ q.2.2) ∧ Binds K fd ps [])
    (hKF : ∀ q ∈ KF, ∃ j a fd ps g, j ≤ k ∧ mg q.1 = some (.ref a) ∧ PySem.W.keepIn K (.ref a) = true ∧ OkD Pg w K mg base P j a fd ps (Φ q.2.1) ∧ KBn K fd ps q.2.2.1 q.2.2.2.1 g (fun vs zs => vs ++ (zs ++ q.2.2.2.2.map Sc.v)))
    (hKM : ∀ q ∈ KM, ∃ j f fd ps g, j + 1 ≤ k ∧ mg q.1 = some (.ref (P.cls q.2.1.2)) ∧ Mk K (P.cls q.2.1.2) f ∧ OkD Pg w K mg base P j f fd ps (Φ q.2.1.1) ∧ KBn K fd ps (q.2.2.1 + 1) q.2.2.2.1 g (fun vs zs => vs ++ (zs ++ q.2.2.2.2.map Sc.v)))
    (hKT : ∀ q ∈ KT, ∃ j f fd ps g, j ≤ k ∧ Cls K (P.cls q.1.1) ∧ Meth K (P.cls q.1.1) q.1.2 f ∧ OkD Pg w K mg base P j f fd ps (Φ q.2.1) ∧ KBn K fd ps (q.2.2.1 + 1) q.2.2.2.1 g (fun vs zs => vs ++ (zs ++ q.2.2.2.2.map Sc.v)))
    (len : ∀ ds M Q E, sp ds M Q E → ds.length = ps.length)
    (body : ∀ ds M Q E, MOk M → RLts M.length ds → sp ds M Q E → rr (fun x _ M => E x M) (endsD M.length Q) (startD N.length ds) M) :
    OkD Pg w K mg base P (k + 1) f fd ps sp := by
  refine F.ok (CX := L2.CX Pg w) S (fun vs H Q E h => ?_) (fun cdv A outer s H vs Q E hr h => ?_)
  · obtain ⟨w, M, ds, Qd, Ed, R, r, l, lx, q⟩ := h
    rw [r.length]; exact len _ _ _ _ q
  · obtain ⟨wd, M, ds, Qd, Ed, R, r, l, lx, q⟩ := h
    have O : EnvOk (cxOf (L2.CX Pg w) Pg w K mg base N qual scope f cdv A outer s H E) P ⟨N, scope, fun _ => true, G, B, FL, MK, MT, KF, KM, KT, [], XC⟩ Φ κ := by
      refine ⟨hK, hpg, hwl, fun _ => rfl, rfl, S.nd, rfl, fun _ _ => rfl, ?_, fun x f hx => ?_, T.cst, T.blt, hF, fun q hq => ?_, fun q hq => ?_, fun q hq => ?_, fun q hq => ?_, fun q hq => ?_, hX.xs, hX.xr, fun q hq => ?_, hX.xf, hX.kd, fun h => (by rw [show (Ctx.X _).hot = false from hX.hot] at h; cases h), fun _ h => by cases h⟩
      · have := hr.un
        show (A.deeper (envOfC qual scope s.heap.objs.size f cdv)).units + 65 < cLine
        omega
      · obtain ⟨j, a, fd, ps, hj, h1, h2, h3, h4⟩ := T.fun_ x f hx
        exact ⟨j, a, fd, ps, h1, h2, h3, hr.mono hj, h4⟩
      · obtain ⟨j, f, fd, ps, hj, h1, h2, h3, h4⟩ := hM q hq
        exact ⟨j, f, fd, ps, h1, h2, h3, hr.mono hj, h4⟩
      · obtain ⟨j, f, fd, ps, hj, h1, h2, h3, h4⟩ := hT q hq
        exact ⟨j, f, fd, ps, h1, h2, h3, hr.mono hj, h4⟩
      · obtain ⟨j, f, fd, ps, g, hj, h1, h2, h3, h4⟩ := hKF q hq
        exact ⟨j, f, fd, ps, g, h1, h2, h3, hr.mono hj, h4⟩
      · obtain ⟨j, f, fd, ps, g, hj, h1, h2, h3, h4⟩ := hKM q hq
        exact ⟨j, f, fd, ps, g, h1, h2, h3, hr.mono hj, h4⟩
      · obtain ⟨j, f, fd, ps, g, hj, h1, h2, h3, h4⟩ := hKT q hq
        exact ⟨j, f, fd, ps, g, h1, h2, h3, hr.mono hj, h4⟩
      · obtain ⟨h1, h2, j, f, fd, hj, h3, h4, h5, h6⟩ := hX.xi q hq
        exact ⟨h1, h2, j, f, fd, h3, h4, h5, hr.mono hj, h6⟩
    refine ⟨_, hc _ (fun cls d _ H => E cls d H) O S.kind (takes_of rfl rfl rfl rfl) (passes_of rfl) rfl rfl, ?_⟩
    have ok := R.ok
    have rl := r.rlt
    rw [← R.len] at rl
    refine ⟨wd, M, _, endsD M.length Qd, fun x _ M => Ed x M, R, relSt_start N r, ⟨?_, ?_, ?_, ?_⟩, fun w' M' H' sd σ x cls dd s' R' rs' rx q => lx w' M' H' x cls dd s' R' rx q, body ds M Qd Ed ok rl q⟩
    · intro w' M' H' sd σ s' R' rs' q
      obtain ⟨d', M2, w2, s2, R2, r2, q2⟩ := Fin.run (d := .non) (v := .non) q (Nat.le_of_eq R.len.symm) s' R' rfl
      exact l w2 M2 H' d' .non s2 R2 r2 q2
    · intro w' M' H' d v s' R' r' q
      obtain ⟨d', M2, w2, s2, R2, r2, q2⟩ := Fin.run q (Nat.le_of_eq R.len.symm) s' R' r'
      exact l w2 M2 H' d' v s2 R2 r2 q2
    · intro w' M' H' sd σ s' R' rs' q
      exact q.elim
    · intro w' M' H' sd σ s' R' rs' q
      exact q.elim
/-- THE RULE of a def, of a head's facts, with calls by keywords -/
theorem okDK {G : List (Str × GD)} {B : List Str} {x qual : Str} {params : Arguments} {bodyS : List Stmt} {scope : Scope} {f : Addr} {fd : FuncData} {dvs : List V} {kws : List (Str × V)} {N ps : List Str} {code : CSs} {sp : SpD} {FL : List (Str × Str)} {MK : List (Str × Nat × Str)} {MT : List (Str × Str × Nat)} {KF : List (Str × Nat × Nat × List Str × List Sc)} {KM : List (Str × (Nat × Str) × Nat × List Str × List Sc)} {KT : List ((Str × Str) × Nat × Nat × List Str × List Sc)}
    (hK : P.K = K) (hpg : P.pg = Pg) (hwl : P.wl = w) (T : Tab Pg w K mg base P G B Φ κ k) (F : FunD K x qual params bodyS scope dvs kws f fd) (S : FnScope N ps scope) (hc : chkSs ⟨N, scope, fun _ => true, G, B, FL, MK, MT, KF, KM, KT, [], {}⟩ code bodyS = true)
    (hF : ∀ q ∈ FL, Cls K (P.cls q.1) ∧ NoAttr K (P.cls q.1) q.2) (hM : ∀ q ∈ MK, ∃ j f fd ps, j + 1 ≤ k ∧ mg q.1 = some (.ref (P.cls q.2.2)) ∧ Mk K (P.cls q.2.2) f ∧ OkD Pg w K mg base P j f fd ps (Φ q.2.1) ∧ Binds K fd ps [])
    (hT : ∀ q ∈ MT, ∃ j f fd ps, j ≤ k ∧ Cls K (P.cls q.1) ∧ Meth K (P.cls q.1) q.2.1 f ∧ OkD Pg w K mg base P j f fd ps (Φ q.2.2) ∧ Binds K fd ps [])
    (hKF : ∀ q ∈ KF, ∃ j a fd ps g, j ≤ k ∧ mg q.1 = some (.ref a) ∧ PySem.W.keepIn K (.ref a) = true ∧ OkD Pg w K mg base P j a fd ps (Φ q.2.1) ∧ KBn K fd ps q.2.2.1 q.2.2.2.1 g (fun vs zs => vs ++ (zs ++ q.2.2.2.2.map Sc.v)))
    (hKM : ∀ q ∈ KM, ∃ j f fd ps g, j + 1 ≤ k ∧ mg q.1 = some (.ref (P.cls q.2.1.2)) ∧ Mk K (P.cls q.2.1.2) f ∧ OkD Pg w K mg base P j f fd ps (Φ q.2.1.1) ∧ KBn K fd ps (q.2.2.1 + 1) q.2.2.2.1 g (fun vs zs => vs ++ (zs ++ q.2.2.2.2.map Sc.v)))
    (hKT : ∀ q ∈ KT, ∃ j f fd ps g, j ≤ k ∧ Cls K (P.cls q.1.1) ∧ Meth K (P.cls q.1.1) q.1.2 f ∧ OkD Pg w K mg base P j f fd ps (Φ q.2.1) ∧ KBn K fd ps (q.2.2.1 + 1) q.2.2.2.1 g (fun vs zs => vs ++ (zs ++ q.2.2.2.2.map Sc.v)))
    (len : ∀ ds M Q E, sp ds M Q E → ds.length = ps.length)
    (body : ∀ ds M Q E, MOk M → RLts M.length ds → sp ds M Q E → rSs Φ κ code (fun x _ M => E x M) (endsD M.length Q) (startD N.length ds) M) :
    OkD Pg w K mg base P (k + 1) f fd ps sp := okDX hK hpg hwl T F S .none (.of hc) hF hM hT hKF hKM hKT len body
/-- THE RULE of a def, of a head's facts -/
theorem okDM {G : List (Str × GD)} {B : List Str} {x qual : Str} {params : Arguments} {bodyS : List Stmt} {scope : Scope} {f : Addr} {fd : FuncData} {dvs : List V} {kws : List (Str × V)} {N ps : List Str} {code : CSs} {sp : SpD} {FL : List (Str × Str)} {MK : List (Str × Nat × Str)} {MT : List (Str × Str × Nat)}
    (hK : P.K = K) (hpg : P.pg = Pg) (hwl : P.wl = w) (T : Tab Pg w K mg base P G B Φ κ k) (F : FunD K x qual params bodyS scope dvs kws f fd) (S : FnScope N ps scope) (hc : chkSs ⟨N, scope, fun _ => true, G, B, FL, MK, MT, [], [], [], [], {}⟩ code bodyS = true)
    (hF : ∀ q ∈ FL, Cls K (P.cls q.1) ∧ NoAttr K (P.cls q.1) q.2) (hM : ∀ q ∈ MK, ∃ j f fd ps, j + 1 ≤ k ∧ mg q.1 = some (.ref (P.cls q.2.2)) ∧ Mk K (P.cls q.2.2) f ∧ OkD Pg w K mg base P j f fd ps (Φ q.2.1) ∧ Binds K fd ps [])
    (hT : ∀ q ∈ MT, ∃ j f fd ps, j ≤ k ∧ Cls K (P.cls q.1) ∧ Meth K (P.cls q.1) q.2.1 f ∧ OkD Pg w K mg base P j f fd ps (Φ q.2.2) ∧ Binds K fd ps [])
    (len : ∀ ds M Q E, sp ds M Q E → ds.length = ps.length)
    (body : ∀ ds M Q E, MOk M → RLts M.length ds → sp ds M Q E → rSs Φ κ code (fun x _ M => E x M) (endsD M.length Q) (startD N.length ds) M) :
    OkD Pg w K mg base P (k + 1) f fd ps sp := okDK hK hpg hwl T F S hc hF hM hT (fun _ h => by cases h) (fun _ h => by cases h) (fun _ h => by cases h) len body
/-- the same, without methods -/
theorem okDC {G : List (Str × GD)} {B : List Str} {x qual : Str} {params : Arguments} {bodyS : List Stmt} {scope : Scope} {f : Addr} {fd : FuncData} {dvs : List V} {kws : List (Str × V)} {N ps : List Str} {code : CSs} {sp : SpD} {FL : List (Str × Str)} {MK : List (Str × Nat × Str)}
    (hK : P.K = K) (hpg : P.pg = Pg) (hwl : P.wl = w) (T : Tab Pg w K mg base P G B Φ κ k) (F : FunD K x qual params bodyS scope dvs kws f fd) (S : FnScope N ps scope) (hc : chkSs ⟨N, scope, fun _ => true, G, B, FL, MK, [], [], [], [], [], {}⟩ code bodyS = true)
    (hF : ∀ q ∈ FL, Cls K (P.cls q.1) ∧ NoAttr K (P.cls q.1) q.2) (hM : ∀ q ∈ MK, ∃ j f fd ps, j + 1 ≤ k ∧ mg q.1 = some (.ref (P.cls q.2.2)) ∧ Mk K (P.cls q.2.2) f ∧ OkD Pg w K mg base P j f fd ps (Φ q.2.1) ∧ Binds K fd ps [])
    (len : ∀ ds M Q E, sp ds M Q E → ds.length = ps.length)
    (body : ∀ ds M Q E, MOk M → RLts M.length ds → sp ds M Q E → rSs Φ κ code (fun x _ M => E x M) (endsD M.length Q) (startD N.length ds) M) :
    OkD Pg w K mg base P (k + 1) f fd ps sp := okDM hK hpg hwl T F S hc hF hM (fun _ h => by cases h) len body
/-- the same, without classes -/
theorem okD {G : List (Str × GD)} {B : List Str} {x qual : Str} {params : Arguments} {bodyS : List Stmt} {scope : Scope} {f : Addr} {fd : FuncData} {dvs : List V} {kws : List (Str × V)} {N ps : List Str} {code : CSs} {sp : SpD}
    (hK : P.K = K) (hpg : P.pg = Pg) (hwl : P.wl = w) (T : Tab Pg w K mg base P G B Φ κ k) (F : FunD K x qual params bodyS scope dvs kws f fd) (S : FnScope N ps scope) (hc : chkSs ⟨N, scope, fun _ => true, G, B, [], [], [], [], [], [], [], {}⟩ code bodyS = true)
    (len : ∀ ds M Q E, sp ds M Q E → ds.length = ps.length)
    (body : ∀ ds M Q E, MOk M → RLts M.length ds → sp ds M Q E → rSs Φ κ code (fun x _ M => E x M) (endsD M.length Q) (startD N.length ds) M) :
    OkD Pg w K mg base P (k + 1) f fd ps sp := okDC hK hpg hwl T F S hc (fun _ h => by cases h) (fun _ h => by cases h) len body
end
/-- what a law's own def promises -/
def spLaw (n : Nat) : SpD := fun ds M Q _ => ∃ ns : List Int, ns.length ≤ n ∧ ds = [.scr ns] ∧ M = [] ∧ ∀ M', Q (.bl true) M'
theorem relScr {P : Pm} {H : Hp} {a : Addr} {ns : List Int} (hS : SqL P.K H a (ns.map V.int)) : ∃ F : Hp, (∀ b o, F b = some o → H b = some o) ∧ (∀ b ps, F b ≠ some (.tbl ps)) ∧ SqL P.K F a (ns.map V.int) := by
  rcases hS with (h | ⟨o, h⟩) | h
  · refine ⟨fun b => if b = a then H a else none, fun b o e => ?_, fun b ps e => ?_, .inl (.inl ((if_pos rfl).trans h))⟩
    · have e : (if b = a then H a else none) = some o := e
      by_cases hb : b = a
      · rw [if_pos hb] at e; rw [hb]; exact e
      · rw [if_neg hb] at e; cases e
    · have e : (if b = a then H a else none) = some (.tbl ps) := e
      by_cases hb : b = a
      · rw [if_pos hb, h] at e; cases e
      · rw [if_neg hb] at e; cases e
  · refine ⟨fun b => if b = a then H a else none, fun b o e => ?_, fun b ps e => ?_, .inl (.inr ⟨o, (if_pos rfl).trans h⟩)⟩
    · have e : (if b = a then H a else none) = some _ := e
      by_cases hb : b = a
      · rw [if_pos hb] at e; rw [hb]; exact e
      · rw [if_neg hb] at e; cases e
    · have e : (if b = a then H a else none) = some (.tbl ps) := e
      by_cases hb : b = a
      · rw [if_pos hb, h] at e; cases e
      · rw [if_neg hb] at e; cases e
  · exact ⟨fun _ => none, (fun _ _ e => by cases e), (fun _ _ e => by cases e), .inr h⟩
theorem liLaw {P : Pm} {n : Nat} {H : Hp} {a : Addr} {ns : List Int} (hl : ns.length ≤ n) (hT : P.T = []) (hS : SqL P.K H a (ns.map V.int)) : liSp P (spLaw n) [.ref a] H (fun v _ => v = .bl true) fun _ _ _ => False := by
  obtain ⟨F, hF, hn, hS⟩ := relScr hS
  refine ⟨⟨F, []⟩, [], [.scr ns], fun d _ => d = .bl true, fun _ _ => False, ⟨hF, rfl, .nil, (by intro p hp; cases hp), (fun k m p h => by cases h), ⟨fun t ht => (by rw [hT] at ht; cases ht), hn, (fun b hb => by cases hb)⟩⟩, ⟨.ref a, [], rfl, ⟨a, rfl, hS⟩, rfl⟩, fun w' M' H' d v _ _ r q => ?_, fun _ _ _ _ _ _ _ _ _ q => q.elim, ns, hl, rfl, rfl, fun _ => rfl⟩
  cases q
  exact r
/-- a law's end: of the facts its def's promise over every base -/
theorem walk_ofX {l : PySem.W.OpenLaw} {n k : Nat} {q : Program} {loose : List Str} {XP : (Str → Option Value) → Heap → Prop} {YP : World → Heap → Prop} {d : DefRec} {x : Str}
    (hn : l.most = some n) (hn2 : n ≤ sizeLine) (hdf : d.params.defaults = []) (hr : Room k callerA)
    (F : ∀ (w : World) (mg : Str → Option Value) (fa : Addr) (h : Heap), YP w h → h.Ns mainGlobals mg → mg d.name = some (.ref fa) →
      ∃ (P : Pm) (fd : FuncData), P.T = [] ∧ P.K.In h ∧ (∀ (s : Shared) (u : Value), BindsTo s fd ⟨[u], []⟩ [(x, u)]) ∧ ∀ base : Heap, P.K.In base → base.Ns mainGlobals mg → OkD l.prog w P.K mg base P k fa fd [x] (spLaw n)) :
    PySem.W.WalkO q loose XP YP l.row.toRowW d [] (fun f vs => PySem.call f vs) :=
  Att.attach_call hn hdf fun w s₀ s₁ mg mb fa o pm cd doc a vs ns G Y ho hd hcd hmg hobj hints hlen hg => by
    obtain ⟨P, fd, hT, KX, hb, hF⟩ := F w mg fa _ Y G.T.g hmg
    exact law_call (sp := liSp P (spLaw n)) KX G.T.g G.T.b G.T.builtins G.T.nolimit hg hobj hints (Nat.le_trans hlen hn2) hr hF hb (fun H _ hS => liLaw hlen hT hS) fun H e s' h => by
      obtain ⟨_, _, _, _, _, _, _, _, _, _, _, _, q⟩ := h
      exact q
end DL
namespace DL
open PySem L2
section
variable {lk : Option Nat} {all : List D} {asg : D → Std → Md → (Std → Md → Prop) → Prop} {body : EndsD → Std → Md → Prop} {K : EndsD}
theorem loop_list (Inv : List D → Std → Md → Prop) (hl : ∀ ds σ M, Inv ds σ M → lkOk lk all M)
    (step : ∀ d ds σ M (nx : Std → Md → Prop), Inv (d :: ds) σ M → (∀ σ' M', Inv ds σ' M' → nx σ' M') → asg d σ M fun σ1 M1 => body ⟨nx, K.rt, K.nx, nx⟩ σ1 M1)
    (fin : ∀ σ M, Inv [] σ M → K.nx σ M) : ∀ ds σ M, Inv ds σ M → loopD lk all asg body K ds σ M
  | [], σ, M, h => ⟨hl _ _ _ h, fin _ _ h⟩
  | d :: ds, σ, M, h => ⟨hl _ _ _ h, step d ds σ M _ h fun σ' M' h' => loop_list Inv hl step fin ds σ' M' h'⟩
theorem rngD_nil {a b : Int} (h : b ≤ a) : rngD a b = [] := by
  unfold rngD
  rw [Int.toNat_of_nonpos (by omega)]; rfl
theorem rngD_cons {a b : Int} (h : a < b) : rngD a b = .int a :: rngD (a + 1) b := by
  unfold rngD
  have e : (b - a).toNat = (b - (a + 1)).toNat + 1 := by omega
  rw [e, List.range_succ_eq_map, List.map_cons, List.map_map]
  congr 1
  · show D.int (a + ((0 : Nat) : Int)) = _
    simp
  · apply List.map_congr_left
    intro i _
    show D.int (a + ((i + 1 : Nat) : Int)) = D.int (a + 1 + (i : Int))
    congr 1
    push_cast
    omega
theorem loop_rng {b : Int} (Inv : Int → Std → Md → Prop) (hlk : lk = none)
    (step : ∀ j σ M (nx : Std → Md → Prop), j < b → Inv j σ M → (∀ σ' M', Inv (j + 1) σ' M' → nx σ' M') → asg (.int j) σ M fun σ1 M1 => body ⟨nx, K.rt, K.nx, nx⟩ σ1 M1)
    (fin : ∀ σ M, Inv b σ M → K.nx σ M) : ∀ (n : Nat) (a : Int) σ M, (b - a).toNat = n → a ≤ b → Inv a σ M → loopD lk all asg body K (rngD a b) σ M
  | 0, a, σ, M, hn, hab, h => by
    have e : a = b := by omega
    rw [e] at h
    rw [rngD_nil (by omega)]
    exact ⟨by rw [hlk]; trivial, fin _ _ h⟩
  | n + 1, a, σ, M, hn, hab, h => by
    have e : a < b := by omega
    rw [rngD_cons e]
    exact ⟨by rw [hlk]; trivial, step a σ M _ e h fun σ' M' h' => loop_rng Inv hlk step fin n (a + 1) σ' M' (by omega) (by omega) h'⟩
/-- a range from 0: the items are n -/
theorem loop_to {b : Int} (Inv : Int → Std → Md → Prop) {σ : Std} {M : Md} (hb : 0 ≤ b) (h0 : Inv 0 σ M)
    (step : ∀ j σ M (nx : Std → Md → Prop), 0 ≤ j → j < b → Inv j σ M → (∀ σ' M', Inv (j + 1) σ' M' → nx σ' M') → asg (.int j) σ M fun σ1 M1 => body ⟨nx, K.rt, K.nx, nx⟩ σ1 M1)
    (fin : ∀ σ M, Inv b σ M → K.nx σ M) : loopD none all asg body K (rngD 0 b) σ M :=
  loop_rng (fun j σ M => 0 ≤ j ∧ Inv j σ M) rfl (fun j σ M nx hj h hn => step j σ M nx h.1 hj h.2 fun σ' M' h' => hn σ' M' ⟨by omega, h'⟩) (fun σ M h => fin σ M h.2) _ 0 σ M rfl hb ⟨Int.le_refl 0, h0⟩
theorem loop_from {a b : Int} (Inv : Int → Std → Md → Prop) {σ : Std} {M : Md} (hb : a ≤ b) (h0 : Inv a σ M)
    (step : ∀ j σ M (nx : Std → Md → Prop), a ≤ j → j < b → Inv j σ M → (∀ σ' M', Inv (j + 1) σ' M' → nx σ' M') → asg (.int j) σ M fun σ1 M1 => body ⟨nx, K.rt, K.nx, nx⟩ σ1 M1)
    (fin : ∀ σ M, Inv b σ M → K.nx σ M) : loopD none all asg body K (rngD a b) σ M :=
  loop_rng (fun j σ M => a ≤ j ∧ Inv j σ M) rfl (fun j σ M nx hj h hn => step j σ M nx h.1 hj h.2 fun σ' M' h' => hn σ' M' ⟨by omega, h'⟩) (fun σ M h => fin σ M h.2) _ a σ M rfl hb ⟨Int.le_refl a, h0⟩
end
section
variable {lk : Option Nat} {all : List D} {asg : D → (Std → Md → Prop) → Md → Prop} {tst : Std → Md → (Bool → Md → Prop) → Prop} {elt : Std → Md → QE → Prop} {Q : List D → Md → Prop}
theorem comp_map {α : Type} {xs : List α} {M : Md} (enc : α → D) (f : α → D) (hl : lkOk lk all M) (hs : xs.length ≤ sizeLine)
    (step : ∀ x ∈ xs, ∀ (yes : D → Md → Prop) (no : Md → Prop), yes (f x) M → asg (enc x) (fun σ1 M1 => tst σ1 M1 fun k M2 => if k = true then elt σ1 M2 yes else no M2) M)
    (fin : Q (xs.map f) M) : compD lk all asg tst elt Q (xs.map enc) [] M := by
  have key : ∀ (ys : List α) (acc : List α), (∀ y ∈ ys, y ∈ xs) → acc.length + ys.length ≤ sizeLine → acc ++ ys = xs → compD lk all asg tst elt Q (ys.map enc) (acc.map f) M := by
    intro ys
    induction ys with
    | nil => intro acc _ _ e; rw [List.append_nil] at e; rw [e]; exact ⟨hl, fin⟩
    | cons y ys ih =>
      intro acc hm hlen e
      have hlen : acc.length + (ys.length + 1) ≤ sizeLine := hlen
      refine ⟨hl, step y (hm y List.mem_cons_self) _ _ ⟨by rw [List.length_map]; omega, ?_⟩⟩
      have := ih (acc ++ [y]) (fun z hz => hm z (List.mem_cons_of_mem _ hz)) (by rw [List.length_append]; show acc.length + 1 + ys.length ≤ _; omega) (by rw [← e, List.append_assoc]; rfl)
      rw [List.map_append] at this
      exact this
  exact key xs [] (fun _ h => h) (by simpa using hs) rfl
end
theorem endsD_nx {n : Nat} {Q : QE} {σ : Std} {M : Md} : (endsD n Q).nx σ M = Fin n Q .non M := rfl
theorem endsD_rt {n : Nat} {Q : QE} {d : D} {M : Md} : (endsD n Q).rt d M = Fin n Q d M := rfl
/-- a def's code reads as promised -/
def RdOk (Φ : Nat → SpD) (κ : Nat → D) (c : CSs) (n : Nat) (sp : SpD) : Prop := ∀ ds M Q E, MOk M → RLts M.length ds → sp ds M Q E → rSs Φ κ c (fun x _ M => E x M) (endsD M.length Q) (startD n ds) M
/-- what stands still to be run of a def -/
abbrev At (Φ : Nat → SpD) (κ : Nat → D) (E : EX) (n : Nat) (Q : QE) (c : CSs) (σ : Std) (M : Md) : Prop := nxt Φ κ c (fun x _ M => E x M) (endsD n Q) σ M
end DL
namespace DL
open PySem L2
section
variable {M R l : Md} {Q : QE} {QB : Bool → Prop} {QM : Md → Prop} {k : Nat} {ds es : List D} {kvs : List (Option Key × D)} {QI : List D → Option Nat → Md → Prop}
def optQ {α : Type} (o : Option α) (f : α → Prop) : Prop := match o with
  | some a => f a
  | none => False
theorem optQ_some {α : Type} {a : α} {f : α → Prop} : optQ (some a) f = f a := rfl
def seqQ (o : Option (List D)) (f : List D → Prop) : Prop := match o with
  | some ds => f ds
  | none => False
theorem seqQ_some {f : List D → Prop} : seqQ (some ds) f = f ds := rfl
def intsQ (o : Option (List Int)) (f : List Int → Prop) : Prop := match o with
  | some ds => f ds
  | none => False
theorem intsQ_some {f : List Int → Prop} {ns} : intsQ (some ns) f = f ns := rfl
def blsQ (o : Option (List Bool)) (f : List Bool → Prop) : Prop := match o with
  | some ds => f ds
  | none => False
theorem blsQ_some {f : List Bool → Prop} {ns} : blsQ (some ns) f = f ns := rfl
def strQ (o : Option String) (f : String → Prop) : Prop := match o with
  | some ds => f ds
  | none => False
theorem strQ_some {f : String → Prop} {t} : strQ (some t) f = f t := rfl
def seqR (o : Option MO) : Option (List D) := match o with
  | some (.lst ds) => some ds
  | _ => none
theorem seqR_lst : seqR (some (.lst ds)) = some ds := rfl
theorem seqOf_R : seqOf (.ref k) M = seqR M[k]? := rfl
theorem lstOf_R : lstOf (.ref k) M = seqR M[k]? := rfl
def ixR (o : Option MO) (k : Nat) (y : D) (M : Md) (Q : QE) : Prop := match o, y with
  | some (.lst ds), .int i => atQ ds i M Q
  | some (.dct kvs), y => optQ (keyD y) fun ky => optQ (dctVal kvs ky) fun d => Q d M
  | some (.dctT kvs), y => optQ (tKey y) fun ky => optQ (dctValT kvs ky) fun d => Q d M
  | _, _ => ixD (.ref k) y M Q
theorem ix_R {y : D} : ixD (.ref k) y M Q = ixR M[k]? k y M Q := by
  unfold ixR
  cases h : M[k]? with
  | none => rfl
  | some m =>
    cases m with
    | lst ds =>
      cases y with
      | int i => exact ix_ref h
      | _ => rfl
    | dct kvs =>
      cases e : keyD y with
      | none => cases y <;> simp only [ixD, dGet, h, e, optQ, Option.map_none, seqOf]
      | some ky => cases e2 : dctVal kvs ky <;> cases y <;> simp only [ixD, dGet, h, e, optQ, Option.map_some, e2]
    | dctT kvs =>
      cases e : tKey y with
      | none => cases y <;> simp only [ixD, dGet, h, e, optQ, Option.map_none, seqOf]
      | some ky => cases e2 : dctValT kvs ky <;> cases y <;> simp only [ixD, dGet, h, e, optQ, Option.map_some, e2]
    | _ => rfl
theorem ixR_lst {i : Int} : ixR (some (.lst ds)) k (.int i) M Q = atQ ds i M Q := rfl
theorem ixR_dct {y : D} : ixR (some (.dct kvs)) k y M Q = optQ (keyD y) fun ky => optQ (dctVal kvs ky) fun d => Q d M := by
  cases y <;> rfl
theorem ixR_dctT {kvs : List (D × D)} {y : D} : ixR (some (.dctT kvs)) k y M Q = optQ (tKey y) fun ky => optQ (dctValT kvs ky) fun d => Q d M := by
  cases y <;> rfl
/-- x in a changing object -/
def inR (o : Option MO) (k : Nat) (x : D) (M : Md) (Q : Bool → Prop) : Prop := match o with
  | some (.dct kvs) => optQ (keyD x) fun ky => Q (dctVal kvs ky).isSome
  | some (.dctT kvs) => optQ (tKey x) fun ky => Q (dctValT kvs ky).isSome
  | _ => inD x (.ref k) M Q
theorem inD_R {x : D} : inD x (.ref k) M QB = inR M[k]? k x M QB := by
  unfold inR
  cases h : M[k]? with
  | none => rfl
  | some m =>
    cases m with
    | dct kvs =>
      cases e : keyD x with
      | none => cases x <;> simp only [inD, dGet, h, e, optQ, Option.map_none, seqOf]
      | some ky => cases x <;> simp only [inD, dGet, h, e, optQ, Option.map_some]
    | dctT kvs =>
      cases e : tKey x with
      | none => cases x <;> simp only [inD, dGet, h, e, optQ, Option.map_none, seqOf]
      | some ky => cases x <;> simp only [inD, dGet, h, e, optQ, Option.map_some]
    | _ => rfl
theorem cp_inn_R {x : D} : cpD .inn x (.ref k) M QB = inR M[k]? k x M QB := inD_R
theorem cp_nin_R {x : D} : cpD .nin x (.ref k) M QB = inR M[k]? k x M fun b => QB (!b) := inD_R (QB := fun b => QB (!b))
theorem inR_dct {x : D} : inR (some (.dct kvs)) k x M QB = optQ (keyD x) fun ky => QB (dctVal kvs ky).isSome := rfl
theorem inR_dctT {kvs : List (D × D)} {x : D} : inR (some (.dctT kvs)) k x M QB = optQ (tKey x) fun ky => QB (dctValT kvs ky).isSome := rfl
theorem keyD_non : keyD .non = some none := rfl
theorem keyD_int {i : Int} : keyD (.int i) = some (some (.inl i)) := rfl
theorem keyD_str {i : Str} : keyD (.str i) = some (some (.inr i)) := rfl
def truR (o : Option MO) (QB : Bool → Prop) : Prop := match o with
  | some (.lst ds) => QB (!ds.isEmpty)
  | _ => False
theorem tru_R : truD (.ref k) M QB = truR M[k]? QB := rfl
theorem truR_lst : truR (some (.lst ds)) QB = QB (!ds.isEmpty) := rfl
theorem walk_R : walkD (.ref k) M QI = seqQ (seqR M[k]?) fun ds => QI ds (some k) M := rfl
theorem walk_scr {ns} : walkD (.scr ns) M QI = QI (ns.map .int) none M := rfl
theorem len_R : btD .len [.ref k] M Q = seqQ (seqR M[k]?) fun ds => Q (.int ds.length) M := rfl
theorem list_R : btD .list [.ref k] M Q = seqQ (seqR M[k]?) fun ds => Q (.lst ds) M := rfl
theorem listM_R : btD .listM [.ref k] M Q = seqQ (seqR M[k]?) fun ds => Q (.ref M.length) (M ++ [.lst ds]) := rfl
theorem tuple_R : btD .tuple [.ref k] M Q = seqQ (seqR M[k]?) fun ds => Q (.tup ds) M := rfl
theorem list_scr {ns} : btD .list [.scr ns] M Q = Q (.lst (ns.map .int)) M := rfl
theorem tuple_scr {ns} : btD .tuple [.scr ns] M Q = Q (.tup (ns.map .int)) M := rfl
theorem sorted_R : btD .sorted [.ref k] M Q = seqQ (seqR M[k]?) fun ds => SortOk ds ∧ Q (.lst (sortD ds)) M := by
  show ((∀ es, D.ref k ≠ .tup es) ∧ seqQ (seqR M[k]?) fun ds => SortOk ds ∧ Q (.lst (sortD ds)) M) = _
  exact propext ⟨fun h => h.2, fun h => ⟨(by intro _ h; cases h), h⟩⟩
theorem sortedM_lst : btD .sortedM [.lst ds] M Q = (SortOk ds ∧ Q (.ref M.length) (M ++ [.lst (sortD ds)])) := by
  show ((∀ es, D.lst ds ≠ .tup es) ∧ SortOk ds ∧ Q (.ref M.length) (M ++ [.lst (sortD ds)])) = _
  exact propext ⟨fun h => h.2, fun h => ⟨(by intro _ h; cases h), h⟩⟩
theorem sortedM_R : btD .sortedM [.ref k] M Q = seqQ (seqR M[k]?) fun ds => SortOk ds ∧ Q (.ref M.length) (M ++ [.lst (sortD ds)]) := by
  show ((∀ es, D.ref k ≠ .tup es) ∧ seqQ (seqR M[k]?) fun ds => SortOk ds ∧ Q (.ref M.length) (M ++ [.lst (sortD ds)])) = _
  exact propext ⟨fun h => h.2, fun h => ⟨(by intro _ h; cases h), h⟩⟩
theorem sum_lst : btD .sum [.lst ds] M Q = intsQ (intsOf ds) fun ns => Q (.int ns.sum) M := by
  show ((∀ es, D.lst ds ≠ .tup es) ∧ intsQ (intsOf ds) fun ns => Q (.int ns.sum) M) = _
  exact propext ⟨fun h => h.2, fun h => ⟨(by intro _ h; cases h), h⟩⟩
theorem any_lst : btD .any [.lst ds] M Q = blsQ (blsOf ds) fun bs => Q (.bl (bs.any id)) M := by
  show ((∀ es, D.lst ds ≠ .tup es) ∧ blsQ (blsOf ds) fun bs => Q (.bl (bs.any id)) M) = _
  exact propext ⟨fun h => h.2, fun h => ⟨(by intro _ h; cases h), h⟩⟩
theorem all_lst : btD .all [.lst ds] M Q = blsQ (blsOf ds) fun bs => Q (.bl (bs.all id)) M := by
  show ((∀ es, D.lst ds ≠ .tup es) ∧ blsQ (blsOf ds) fun bs => Q (.bl (bs.all id)) M) = _
  exact propext ⟨fun h => h.2, fun h => ⟨(by intro _ h; cases h), h⟩⟩
theorem intsOf_map {α : Type} {f : α → Int} {xs : List α} : intsOf (xs.map fun x => D.int (f x)) = some (xs.map f) := by
  induction xs with
  | nil => rfl
  | cons x xs ih => simp only [List.map_cons, intsOf, ih, Option.map_some]
theorem blsOf_map {α : Type} {f : α → Bool} {xs : List α} : blsOf (xs.map fun x => D.bl (f x)) = some (xs.map f) := by
  induction xs with
  | nil => rfl
  | cons x xs ih => simp only [List.map_cons, blsOf, ih, Option.map_some]
def tyR (o : Option MO) : Option String := match o with
  | some (.lst _) => some "list"
  | _ => none
theorem tyR_lst : tyR (some (.lst ds)) = some "list" := rfl
theorem isi_R {T : String} : btD (.isi T) [.ref k] M Q = strQ (tyR M[k]?) fun t => isiQ t T M Q := rfl
theorem isi_scr {T : String} {ns} : btD (.isi T) [.scr ns] M Q = isiQ "list" T M Q := rfl
def sxR (o : Option MO) (k : Nat) (y d : D) (M : Md) (Q : Md → Prop) : Prop := match o, y with
  | some (.lst ds), .int i => optQ (ixN ds.length i) fun j => Q (M.set k (.lst (ds.set j d)))
  | some (.dct kvs), y => optQ (keyD y) fun ky => kvs.length < sizeLine ∧ Q (M.set k (.dct (dctPut kvs ky d)))
  | some (.dctT kvs), y => optQ (tKey y) fun ky => kvs.length < sizeLine ∧ Q (M.set k (.dctT (dctPutT kvs y ky d)))
  | _, _ => False
theorem sx_R {y d : D} : setIxD (.ref k) y d M QM = sxR M[k]? k y d M QM := by
  unfold sxR
  cases h : M[k]? with
  | none => simp only [setIxD, h]
  | some m =>
    cases m with
    | lst ds =>
      cases y with
      | int i => cases e : ixN ds.length i <;> simp only [setIxD, h, e, optQ]
      | _ => simp only [setIxD, h]
    | dct kvs => cases e : keyD y <;> simp only [setIxD, h, e, optQ]
    | dctT kvs => cases e : tKey y <;> simp only [setIxD, h, e, optQ]
    | _ => simp only [setIxD, h]
theorem sxR_lst {i : Int} {d : D} : sxR (some (.lst ds)) k (.int i) d M QM = optQ (ixN ds.length i) fun j => QM (M.set k (.lst (ds.set j d))) := rfl
theorem sxR_dct {y d : D} : sxR (some (.dct kvs)) k y d M QM = optQ (keyD y) fun ky => kvs.length < sizeLine ∧ QM (M.set k (.dct (dctPut kvs ky d))) := by
  cases y <;> rfl
theorem sxR_dctT {kvs : List (D × D)} {y d : D} : sxR (some (.dctT kvs)) k y d M QM = optQ (tKey y) fun ky => kvs.length < sizeLine ∧ QM (M.set k (.dctT (dctPutT kvs y ky d))) := by
  cases y <;> rfl
theorem ixN_pos {n : Nat} {i : Int} (h : 0 ≤ i) (h2 : i < n) : ixN n i = some i.toNat := by
  unfold ixN
  rw [if_pos h, if_pos h2]
theorem ixN_0 {n : Nat} : ixN (n + 1) 0 = some 0 := ixN_pos (Int.le_refl 0) (by omega)
theorem ixN_1 {n : Nat} : ixN (n + 1 + 1) 1 = some 1 := ixN_pos (by omega) (by omega)
theorem ixN_m1 {n : Nat} : ixN (n + 1) (-1) = some n := by
  unfold ixN
  rw [if_neg (by omega), if_pos (by omega)]
  congr 1
  omega
theorem mtK_R {m : Mt} (h : mtT m = "list") : mtK m (.ref k) M = ((seqR M[k]?).isSome = true) := by
  unfold mtK
  rw [if_pos h]
  exact propext ⟨fun h => h.1, fun h => ⟨h, by intro _ h; cases h⟩⟩
theorem mtKa : mtK .append (.ref k) M = ((seqR M[k]?).isSome = true) := mtK_R rfl
theorem mtKe : mtK .extend (.ref k) M = ((seqR M[k]?).isSome = true) := mtK_R rfl
theorem mtKp : mtK .pop (.ref k) M = ((seqR M[k]?).isSome = true) := mtK_R rfl
theorem mtKpa : mtK .popAt (.ref k) M = ((seqR M[k]?).isSome = true) := mtK_R rfl
theorem mtKx : mtK .index (.ref k) M = ((seqR M[k]?).isSome = true) := mtK_R rfl
theorem mtKxl {ds : List D} : mtK .index (.lst ds) M = True := by
  show (if "list" = "list" then (seqOf (D.lst ds) M).isSome = true ∧ ∀ es, D.lst ds ≠ D.tup es else ∃ s, D.lst ds = D.str s) = True
  rw [if_pos rfl]
  exact propext ⟨fun _ => trivial, fun _ => ⟨rfl, fun _ h => by cases h⟩⟩
def idxQ (o : Option (List D)) (y : D) (M : Md) (Q : QE) : Prop := seqQ o fun ds => flatD y = true ∧ ds.all flatD = true ∧ match idxF y ds with
  | some j => Q (.int j) M
  | none => False
theorem idx_eq {x y : D} : mtD .index x [y] M Q = idxQ (lstOf x M) y M Q := by
  unfold idxQ
  show (match lstOf x M, [y] with
    | some ds, [y] => _
    | _, _ => False) = _
  cases lstOf x M <;> rfl
theorem rev_R {m : Bool} {a : CE} {Φ κ E σ} : rE Φ κ (.rev m a) E σ M Q = rE Φ κ a E σ M fun x M1 => seqQ (lstOf x M1) fun ds => if m = true then Q (.ref M1.length) (M1 ++ [.lst ds.reverse]) else Q (.lst ds.reverse) M1 := by
  show (rE Φ κ a E σ M fun x M1 => match lstOf x M1 with
    | some ds => if m = true then Q (.ref M1.length) (M1 ++ [.lst ds.reverse]) else Q (.lst ds.reverse) M1
    | none => False) = _
  congr 1
  try (funext x M1; cases lstOf x M1 <;> rfl)
theorem mtKi : mtK .insert (.ref k) M = ((seqR M[k]?).isSome = true) := mtK_R rfl
theorem mtKr : mtK .reverse (.ref k) M = ((seqR M[k]?).isSome = true) := mtK_R rfl
theorem app_R {d : D} : mtD .append (.ref k) [d] M Q = seqQ (seqR M[k]?) fun ds => ds.length < sizeLine ∧ Q .non (M.set k (.lst (ds ++ [d]))) := by
  cases e : seqR M[k]? with
  | none =>
    show (match mutOf (.ref k) M, [d] with
      | some (k, ds), [d] => ds.length < sizeLine ∧ Q .non (M.set k (.lst (ds ++ [d])))
      | _, _ => False) = False
    unfold seqR at e
    unfold mutOf
    cases h : M[k]? with
    | none => simp only [h, seqQ]
    | some m =>
      cases m with
      | lst ds => rw [h] at e; cases e
      | _ => simp only [h, seqQ]
  | some ds =>
    have h : M[k]? = some (.lst ds) := by
      unfold seqR at e
      split at e
      · next h => cases e; exact h
      · cases e
    exact mt_app h
theorem ext_R {d : D} (h : M[k]? = some (.lst ds)) : mtD .extend (.ref k) [d] M Q = seqQ (lstOf d M) fun es => ds.length + es.length ≤ sizeLine ∧ Q .non (M.set k (.lst (ds ++ es))) := by
  simp only [mtD, mutOf, h]
  cases lstOf d M <;> rfl
theorem pop_R (h : M[k]? = some (.lst ds)) : mtD .pop (.ref k) [] M Q = optQ ds.getLast? fun d => Q d (M.set k (.lst ds.dropLast)) := by
  simp only [mtD, mutOf, h]
  cases ds.getLast? <;> rfl
theorem addR : opD .add (.ref k) (.lst es) M Q = seqQ (seqR M[k]?) fun ds => ds.length + es.length ≤ sizeLine ∧ Q (.lst (ds ++ es)) M := by
  show (match seqR M[k]?, some es with
    | some a, some b => a.length + b.length ≤ sizeLine ∧ Q (.lst (a ++ b)) M
    | _, _ => False) = _
  cases seqR M[k]? <;> rfl
theorem catR : opD .cat (.ref k) (.lst es) M Q = seqQ (seqR M[k]?) fun ds => ds.length + es.length ≤ sizeLine ∧ Q (.ref M.length) (M ++ [.lst (ds ++ es)]) := by
  show (match seqR M[k]?, some es with
    | some a, some b => a.length + b.length ≤ sizeLine ∧ Q (.ref M.length) (M ++ [MO.lst (a ++ b)])
    | _, _ => False) = _
  cases seqR M[k]? <;> rfl
theorem isi_l {a : D} {T : String} (h : lstOf a M = some ds) : btD (.isi T) [a] M Q = isiQ "list" T M Q := by
  cases a with
  | lst _ => rfl
  | ref k =>
    rw [lstOf_R] at h
    unfold seqR at h
    split at h
    · next e => rw [isi_R, e]; rfl
    · cases h
  | _ => cases h
theorem len_l {a : D} (h : lstOf a M = some ds) : btD .len [a] M Q = Q (.int ds.length) M := by
  cases a with
  | lst _ => cases h; rfl
  | ref k =>
    rw [lstOf_R] at h
    rw [len_R, h]; rfl
  | _ => cases h
theorem ix_l {a : D} {i : Int} (h : lstOf a M = some ds) : ixD a (.int i) M Q = atQ ds i M Q := by
  cases a with
  | lst _ => cases h; rfl
  | ref k =>
    rw [lstOf_R] at h
    unfold seqR at h
    split at h
    · next e => cases h; rw [ix_R, e]; rfl
    · cases h
  | _ => cases h
theorem isNon_l {a : D} (h : lstOf a M = some ds) : isNon a = false := by
  cases a <;> first | rfl | cases h
theorem sorted_l {a : D} (h : lstOf a M = some ds) : btD .sorted [a] M Q = (SortOk ds ∧ Q (.lst (sortD ds)) M) := by
  cases a with
  | lst _ => cases h; exact bt_sorted_lst
  | ref k =>
    rw [lstOf_R] at h
    rw [sorted_R, h]; rfl
  | _ => cases h
theorem set_snoc {α : Type} {xs : List α} {x d : α} : (xs ++ [x]).set xs.length d = xs ++ [d] := by
  rw [List.set_append_right _ _ (Nat.le_refl _), Nat.sub_self]; rfl
theorem emp_snoc {α : Type} {xs : List α} {x : α} : (xs ++ [x]).isEmpty = false := by cases xs <;> rfl
theorem emp_cons {α : Type} {xs : List α} {x : α} : (x :: xs).isEmpty = false := rfl
theorem emp_nil {α : Type} : ([] : List α).isEmpty = true := rfl
theorem sz0 : (0 ≤ sizeLine) = True := by decide
theorem sz1 : (1 ≤ sizeLine) = True := by decide
theorem sz2 : (2 ≤ sizeLine) = True := by decide
theorem sz3 : (3 ≤ sizeLine) = True := by decide
theorem sz4 : (4 ≤ sizeLine) = True := by decide
theorem sz5 : (5 ≤ sizeLine) = True := by decide
theorem sz6 : (6 ≤ sizeLine) = True := by decide
theorem size_eq : sizeLine = 16777216 := by decide
theorem wipe_nil {σ : Std} : wipeD σ [] = σ := rfl
theorem wipe_cons {σ : Std} {v vs} : wipeD σ (v :: vs) = (wipeD σ vs).set v none := rfl
end
theorem lnLaw {n : Nat} : ∀ ds M Q E, spLaw n ds M Q E → ds.length = 1 := by
  rintro _ _ _ _ ⟨_, _, rfl, _⟩; rfl
end DL
namespace DL
open PySem PySem.Spec PyProof.Rows L2
mutual
def relC (K : PySem.W.Frag) : D → Value → Bool
  | .non, .none => true
  | .bl b, .bool c => b == c
  | .int i, .int j _ => decide (i = j)
  | .str s, .str t _ => decide (s = t)
  | .tup ds, .ref p => match K.lookup p with
    | some ⟨.type c, _, .seq its _, _⟩ => decide (c = "tuple") && (decide (its.size ≤ sizeLine) && relCs K ds its.toList)
    | _ => false
  | _, _ => false
def relCs (K : PySem.W.Frag) : List D → List Value → Bool
  | [], [] => true
  | d :: ds, u :: us => relC K d u && relCs K ds us
  | _, _ => false
end
mutual
theorem relC_ok {P : Pm} : ∀ {d : D} {u : Value}, relC P.K d u = true → ∃ v, RelV v u ∧ ∀ w, RelD P w d v
  | .non, u, h => by
    cases u <;> first | (cases h; done) | exact ⟨.non, rfl, fun _ => rfl⟩
  | .bl b, u, h => by
    cases u <;> first | (cases h; done) | exact ⟨.bl b, by rw [eq_of_beq (show (b == _) = true from h)]; rfl, fun _ => rfl⟩
  | .int i, u, h => by
    cases u with
    | int j t => exact ⟨.int i, ⟨t, by rw [of_decide_eq_true (show decide (i = j) = true from h)]⟩, fun _ => rfl⟩
    | _ => cases h
  | .str i, u, h => by
    cases u with
    | str j t => exact ⟨.str i, ⟨t, by rw [of_decide_eq_true (show decide (i = j) = true from h)]⟩, fun _ => rfl⟩
    | _ => cases h
  | .tup ds, u, h => by
    cases u with
    | ref p =>
      unfold relC at h
      cases q : P.K.lookup p with
      | none => rw [q] at h; cases h
      | some o =>
        obtain ⟨oc, od, dt, osl⟩ := o
        rw [q] at h
        cases oc with
        | type c =>
          cases dt with
          | seq its n =>
            have h : (decide (c = "tuple") && (decide (its.size ≤ sizeLine) && relCs P.K ds its.toList)) = true := h
            simp only [Bool.and_eq_true, decide_eq_true_eq] at h
            obtain ⟨h1, h2, h3⟩ := h
            obtain ⟨vs, r, hr⟩ := relCs_ok h3
            exact ⟨.ref p, rfl, fun w => ⟨p, vs, rfl, .inr ⟨_, its, n, q, congrArg Value.type h1, rfl, h2, r⟩, hr w⟩⟩
          | _ => cases h
        | _ => cases dt <;> cases h
    | _ => cases h
  | .lst _, u, h => by cases u <;> cases h
  | .scr _, u, h => by cases u <;> cases h
  | .ref _, u, h => by cases u <;> cases h
  | .obj _ _ _, u, h => by cases u <;> cases h
  | .exc _ _ _ _ _, u, h => by cases u <;> cases h
theorem relCs_ok {P : Pm} : ∀ {ds : List D} {us : List Value}, relCs P.K ds us = true → ∃ vs, Vals vs us ∧ ∀ w, RelDs P w ds vs
  | [], us, h => by
    cases us with
    | nil => exact ⟨[], .nil, fun _ => rfl⟩
    | cons _ _ => cases h
  | d :: ds, us, h => by
    cases us with
    | nil => cases h
    | cons u us =>
      have h : (relC P.K d u && relCs P.K ds us) = true := h
      rw [Bool.and_eq_true] at h
      obtain ⟨v, r1, r2⟩ := relC_ok h.1
      obtain ⟨vs, r3, r4⟩ := relCs_ok h.2
      exact ⟨v :: vs, .cons r1 r3, fun w => ⟨v, vs, rfl, r2 w, r4 w⟩⟩
end
/-- the module's name is this constant -/
def cstB0 (K : PySem.W.Frag) (c : Str × D) : Bool := match PySem.W.nsIn K mainGlobals c.1 with
  | some (some u) => relC K c.2 u
  | _ => false
/-- own exception classes: what isinstance and except ask of them -/
def xnB (K : PySem.W.Frag) (C : Addr) : Bool := (PySem.W.clsIn K C).isSome && (He.eqO (PySem.W.findIn K (.ref C) "__getattribute__") (some (some (.builtin "BaseException.__getattribute__"))) && (He.eqO (PySem.W.findIn K (.ref C) "__getattr__") (some none) &&
  (decide (PySem.W.subIn K (.ref C) (.type "BaseException") = some true) && (He.eqO (PySem.W.findIn K (.ref C) "__class__") (some (some (.builtin "object.__class__"))) && (He.eqO (PySem.W.specialIn K (.builtin "object.__class__") "__get__") (some (some (.builtin "getset_descriptor.__get__"))) &&
  (decide (PySem.W.takesIn K (.builtin "object.__class__") = some true) && (decide (PySem.W.mroIn K C (.type "object") = some true) && PySem.W.hasDictIn K C)))))))
def xpB (K : PySem.W.Frag) (x T : Str) : Bool := decide (PySem.W.kitOne K (.ref (He.ga K x)) (.ref (He.ga K T)) = some (xsub x T)) && decide (PySem.W.exmOne K (.ref (He.ga K x)) (.ref (He.ga K T)) = some (xsub x T))
def oexB (K : PySem.W.Frag) (C : Addr) : Bool := match K.lookup C with
  | some ⟨.type tn, _, .cls cd, sl⟩ => (match cd.mro, sl.toList with
    | .ref C' :: bm, [_, _, _, _, some (.builtin n), _] => decide (tn = "type") && (C' == C && (n == "ValueError.__new__" && (!cd.hasDel && (cd.hasDict && PySem.HandSPX.refsVE bm))))
    | _, _ => false)
  | _ => false
def xcB (K : PySem.W.Frag) (x k : Str) (ns : List Str) : Bool :=
  if k = ("s" : Str) then xnB K (He.ga K x) && (decide (PySem.W.kitOne K (.ref (He.ga K x)) (.type "ValueError") = some true) && ns.all (xpB K x))
  else if k = ("r" : Str) then PySem.W.excIn K (He.ga K x) He.veBase "ValueError.__new__" && (PySem.W.keepIn K (.ref (He.ga K x)) && (decide (PySem.W.subIn K (.ref (He.ga K x)) (.type "BaseException") = some true) && decide (PySem.W.typeIn K (.ref (He.ga K x)) = some (.type "type"))))
  else if k = ("f" : Str) then ns.all fun f => He.eqO (PySem.W.findIn K (.ref (He.ga K x)) f) (some none)
  else if k = ("i" : Str) then oexB K (He.ga K x) && (He.eqO (PySem.W.findIn K (.ref (He.ga K x)) "__setattr__") (some (some (.builtin "object.__setattr__"))) && (decide (PySem.W.subIn K (.ref (He.ga K x)) (.type "BaseException") = some true) && (decide (PySem.W.typeIn K (.ref (He.ga K x)) = some (.type "type")) && (PySem.W.keepIn K (.ref (He.ga K x)) &&
    (He.eqO (PySem.W.findIn K (.ref (He.ga K x)) "__init__") (some (some (.ref (He.ma K (He.ga K x) "__init__")))) && decide (PySem.W.typeIn K (.ref (He.ma K (He.ga K x) "__init__")) = some (.type "function")))))))
  else false
def cstB (K : PySem.W.Frag) (c : Str × D) : Bool := match c.2 with
  | .exc _ _ k ns _ => xcB K c.1 k ns
  | _ => cstB0 K c
theorem cstB_0 {K : PySem.W.Frag} {x : Str} {d : D} (c : cstB K (x, d) = true) (h : ∀ a od k ns ds, d ≠ .exc a od k ns ds) : cstB0 K (x, d) = true := by
  unfold cstB at c
  cases d with
  | exc a od k ns ds => exact absurd rfl (h a od k ns ds)
  | _ => exact c
theorem hcC {P : Pm} {h : Heap} {mg : Str → Option Value} {x : Str} {d : D} (X : P.K.In h) (G : h.Ns mainGlobals mg) (c : cstB0 P.K (x, d) = true) : ∃ u v, mg x = some u ∧ RelV v u ∧ ∀ w, RelD P w d v := by
  unfold cstB0 at c
  cases q : PySem.W.nsIn P.K mainGlobals x with
  | none => simp only [q] at c; cases c
  | some o =>
    cases o with
    | none => simp only [q] at c; cases c
    | some u =>
      simp only [q] at c
      obtain ⟨v, r1, r2⟩ := relC_ok c
      exact ⟨u, v, PySem.W.mg_of X G q, r1, r2⟩
def obsC (fa : List He.Fa) (fn : List He.DefD) (cs : List (Str × D)) (K : PySem.W.Frag) : He.AlD := ((He.obsD fa fn K).1 && cs.all (cstB K), (He.obsD fa fn K).2)
def SaysC (fa : List He.Fa) (fn : List He.DefD) (cs : List (Str × D)) (K : PySem.W.Frag) : Prop := obsC fa fn cs K = He.valD fn
theorem SaysC.two {fa : List He.Fa} {fn : List He.DefD} {cs : List (Str × D)} {K : PySem.W.Frag} (h : SaysC fa fn cs K) : He.SaysD fa fn K ∧ ∀ c ∈ cs, cstB K c = true := by
  have h0 : (obsC fa fn cs K).1 = true := congrArg (fun z : He.AlD => z.1) h
  have h1 : ((He.obsD fa fn K).1 && cs.all (cstB K)) = true := h0
  have h2 : (obsC fa fn cs K).2 = (He.valD fn).2 := congrArg (fun z : He.AlD => z.2) h
  rw [Bool.and_eq_true] at h1
  refine ⟨?_, fun c hc => List.all_eq_true.mp h1.2 c hc⟩
  show He.obsD fa fn K = He.valD fn
  exact Prod.ext h1.1 h2
def obsCG (n : Nat) (fa : List He.Fa) (fn : List He.DefD) (cs : List (Str × D)) (g : Addr → Option Obj) : He.AlD := obsC fa fn cs (He.frG g (He.asD g n))
def hookC (n : Nat) (fa : List He.Fa) (fn : List He.DefD) (cs : List (Str × D)) : PySem.W.Hook where
  α := He.AlD
  obs s := obsCG n fa fn cs s.heap.get?
  val _ := He.valD fn
  says _ h := ∃ K : PySem.W.Frag, K.In h ∧ SaysC fa fn cs K
  of _ _ e := ⟨_, He.frG_in, e⟩
  keeps := fun _ _ _ z k => let ⟨K, a, b⟩ := z; ⟨K, PySem.W.Frag.In.keeps a k, b⟩
theorem obsCG_eq {n : Nat} {fa : List He.Fa} {fn : List He.DefD} {cs : List (Str × D)} {g : Addr → Option Obj} {s : Shared} (h : ∀ a, g a = s.heap.get? a) : obsCG n fa fn cs g = (hookC n fa fn cs).obs s := by
  have e : g = s.heap.get? := funext fun a => h a
  rw [e]
  rfl
end DL
namespace DL
open PySem L2
def truB : D → Option Bool
  | .non => some false
  | .bl b => some b
  | .int i => some (i != 0)
  | .tup ds => some (!ds.isEmpty)
  | .lst ds => some (!ds.isEmpty)
  | _ => none
def cmpB (c : Cp) (x y : D) : Option Bool := match c, x, y with
  | .lt, .int i, .int j => some (decide (i < j))
  | .le, .int i, .int j => some (decide (i ≤ j))
  | .gt, .int i, .int j => some (decide (j < i))
  | .ge, .int i, .int j => some (decide (j ≤ i))
  | .eq, x, y => eqS x y
  | .ne, x, y => (eqS x y).map (!·)
  | .isN, x, .non => some (isNon x)
  | .notN, x, .non => some (!isNon x)
  | _, _, _ => none
def binB (o : Op) (x y : D) : Option D := match o, x, y with
  | .add, .int i, .int j => some (.int (i + j))
  | .sub, .int i, .int j => some (.int (i - j))
  | _, _, _ => none
def negB : D → Option D
  | .int i => some (.int (-i))
  | _ => none
def ev (σ : Std) : CE → Option D
  | .var i => (σ[i]?).bind id
  | .int i => some (.int i)
  | .str i => some (.str i)
  | .bl i => some (.bl i)
  | .non => some .non
  | .neg a => (ev σ a).bind negB
  | .not a => ((ev σ a).bind truB).map fun k => .bl (!k)
  | .and a b => (ev σ a).bind fun x => (truB x).bind fun k => if k then ev σ b else some x
  | .or a b => (ev σ a).bind fun x => (truB x).bind fun k => if k then some x else ev σ b
  | .cmp c a b => (ev σ a).bind fun x => (ev σ b).bind fun y => (cmpB c x y).map .bl
  | .bin o a b => (ev σ a).bind fun x => (ev σ b).bind fun y => binB o x y
  | _ => none
end DL
namespace DL
open PySem L2
/-- a text of codes -/
abbrev tx (l : List Nat) : Str := SX.S l
theorem tx_len {l : List Nat} : (tx l).length = l.length := SX.S_len l
theorem atQ_mem {ds : List D} {i : Int} {M : Md} {Q : QE} (h0 : 0 ≤ i) (h1 : i < ds.length) (h : ∀ d ∈ ds, Q d M) : atQ ds i M Q := by
  obtain ⟨j, rfl⟩ : ∃ j : Nat, i = j := ⟨i.toNat, by omega⟩
  have hj : j < ds.length := by omega
  rw [atQ_some (d := ds[j]) (atI_nat (List.getElem?_eq_getElem hj))]
  exact h _ (List.getElem_mem hj)
end DL
namespace DL
open PySem L2
section
variable {Φ : Nat → SpD} {κ : Nat → D} {E : EX} {EE : EXS} {K : EndsD} {σ : Std} {M : Md} {Q : QE}
theorem nxt_of {c : CSs} (h : rSs Φ κ c EE K σ M) : nxt Φ κ c EE K σ M := h
theorem rS_ifsN {c a b} : rS Φ κ (.ifs c a b) EE K σ M = rT Φ κ c (fun x => EE x σ) σ M fun k M1 => if k = true then nxt Φ κ a EE K σ M1 else nxt Φ κ b EE K σ M1 := rfl
theorem rS_forsN {t it body} : rS Φ κ (.fors t it body) EE K σ M = rdi Φ κ it (fun x => EE x σ) σ M fun ds lk M1 => loopD lk ds (asgT t) (nxt Φ κ body EE) K ds σ M1 := rfl
theorem rS_enumsN {t e body} : rS Φ κ (.enums t e body) EE K σ M = rE Φ κ e (fun x => EE x σ) σ M fun d M1 => enumQ d M1 fun ds lk M2 => loopD lk ds (asgT t) (nxt Φ κ body EE) K ds σ M2 := rfl
theorem rS_whilN {c body} : rS Φ κ (.whil c body) EE K σ M = ∃ n, whilD (fun σ M Q => rT Φ κ c (fun x => EE x σ) σ M Q) (nxt Φ κ body EE) K n σ M := rfl
theorem iteI {c : Prop} [Decidable c] {A B : Prop} (h1 : c → A) (h2 : ¬ c → B) : if c then A else B := by
  split
  · next h => exact h1 h
  · next h => exact h2 h
end
section
variable {M : Md} {Q : QE} {QB : Bool → Prop} {k : Nat} {ds : List D}
theorem seqR_some {o : Option MO} {ds : List D} (e : seqR o = some ds) : o = some (.lst ds) := by
  unfold seqR at e
  split at e
  · cases e; rfl
  · cases e
theorem ext_RR {d : D} : mtD .extend (.ref k) [d] M Q = seqQ (seqR M[k]?) fun ds => seqQ (lstOf d M) fun es => ds.length + es.length ≤ sizeLine ∧ Q .non (M.set k (.lst (ds ++ es))) := by
  cases e : seqR M[k]? with
  | none =>
    unfold seqR at e
    simp only [mtD, mutOf]
    cases h : M[k]? with
    | none => simp only [seqQ]
    | some m =>
      cases m with
      | lst ds => rw [h] at e; cases e
      | _ => simp only [seqQ]
  | some ds => exact ext_R (seqR_some e)
theorem pop_RR : mtD .pop (.ref k) [] M Q = seqQ (seqR M[k]?) fun ds => optQ ds.getLast? fun d => Q d (M.set k (.lst ds.dropLast)) := by
  cases e : seqR M[k]? with
  | none =>
    unfold seqR at e
    simp only [mtD, mutOf]
    cases h : M[k]? with
    | none => simp only [seqQ]
    | some m =>
      cases m with
      | lst ds => rw [h] at e; cases e
      | _ => simp only [seqQ]
  | some ds => exact pop_R (seqR_some e)
theorem lstOf_lst : lstOf (.lst ds) M = some ds := rfl
theorem seqOf_lst : seqOf (.lst ds) M = some ds := rfl
theorem seqOf_tup : seqOf (.tup ds) M = some ds := rfl
end
/-- a text in a tuple of two -/
theorem cp_inn2 {s a b : Str} {M : Md} {QB : Bool → Prop} : cpD .inn (.str s) (.tup [.str a, .str b]) M QB = QB (decide (a = s) || decide (b = s)) := by
  rw [cp_inn_tup rfl rfl]
  simp only [List.any_cons, List.any_nil, Bool.or_false]
  apply congrArg
  show (a == s || b == s) = _
  rw [Bool.eq_iff_iff]
  simp
/-- slots set anew -/
def setM (σ : Std) (J : List Nat) (vs : List (Option D)) : Std := (J.zip vs).foldl (fun σ p => σ.set p.1 p.2) σ
theorem setM_cons {σ i is v vs} : setM σ (i :: is) (v :: vs) = setM (σ.set i v) is vs := rfl
theorem setM_nil {σ vs} : setM σ [] vs = σ := rfl
section
variable {lk : Option Nat} {all : List D} {asg : D → Std → Md → (Std → Md → Prop) → Prop} {body : EndsD → Std → Md → Prop} {K : EndsD} {σ0 : Std} {M : Md}
/-- for x in xs, a settled list; J the slots that are set in the loop -/
theorem for_list {X : Type} {enc : X → D} {xs : List X} (J : List Nat) (Inv : List X → List (Option D) → Md → Prop)
    (h0 : ∃ js, setM σ0 J js = σ0 ∧ Inv xs js M)
    (step : ∀ x r js M' (nx : Std → Md → Prop), Inv (x :: r) js M' → (∀ js' M'', Inv r js' M'' → nx (setM σ0 J js') M'') → asg (enc x) (setM σ0 J js) M' fun σ1 M1 => body ⟨nx, K.rt, K.nx, nx⟩ σ1 M1)
    (fin : ∀ js M', Inv [] js M' → K.nx (setM σ0 J js) M') : loopD none all asg body K (xs.map enc) σ0 M := by
  obtain ⟨js, h1, h2⟩ := h0
  have key : ∀ ys js M, Inv ys js M → loopD none all asg body K (ys.map enc) (setM σ0 J js) M := by
    intro ys
    induction ys with
    | nil => intro js M h; exact ⟨trivial, fin _ _ h⟩
    | cons y ys ih => intro js M h; exact ⟨trivial, step y ys js M _ h fun js' M'' h' => ih js' M'' h'⟩
  have := key xs js M h2
  rwa [h1] at this
/-- for j in range(a, b) -/
theorem for_rng {a b : Int} (J : List Nat) (Inv : Int → List (Option D) → Md → Prop) (hab : a ≤ b)
    (h0 : ∃ js, setM σ0 J js = σ0 ∧ Inv a js M)
    (step : ∀ j js M' (nx : Std → Md → Prop), a ≤ j → j < b → Inv j js M' → (∀ js' M'', Inv (j + 1) js' M'' → nx (setM σ0 J js') M'') → asg (.int j) (setM σ0 J js) M' fun σ1 M1 => body ⟨nx, K.rt, K.nx, nx⟩ σ1 M1)
    (fin : ∀ js M', Inv b js M' → K.nx (setM σ0 J js) M') : loopD none all asg body K (rngD a b) σ0 M := by
  obtain ⟨js, h1, h2⟩ := h0
  have := loop_from (all := all) (asg := asg) (body := body) (K := K) (a := a) (b := b) (fun j σ M => ∃ js, σ = setM σ0 J js ∧ Inv j js M) (σ := setM σ0 J js) (M := M) hab ⟨js, rfl, h2⟩
    (fun j σ M nx h3 h4 ⟨js, e, h5⟩ hn => by subst e; exact step j js M nx h3 h4 h5 fun js' M'' h6 => hn _ _ ⟨js', rfl, h6⟩) (fun σ M ⟨js, e, h5⟩ => by subst e; exact fin js M h5)
  rwa [h1] at this
/-- while: Inv m holds where m turns at most are left -/
theorem while_at {tst : Std → Md → (Bool → Md → Prop) → Prop} (J : List Nat) (Inv : Nat → List (Option D) → Md → Prop)
    (h0 : ∃ m js, setM σ0 J js = σ0 ∧ Inv m js M)
    (step : ∀ m js M' (nx : Std → Md → Prop), Inv m js M' → (∀ m' js' M'', m = m' + 1 → Inv m' js' M'' → nx (setM σ0 J js') M'') → tst (setM σ0 J js) M' fun k M1 => if k = true then body ⟨nx, K.rt, K.nx, nx⟩ (setM σ0 J js) M1 else K.nx (setM σ0 J js) M1) : ∃ n, whilD tst body K n σ0 M := by
  obtain ⟨m, js, h1, h2⟩ := h0
  have key : ∀ m js M, Inv m js M → whilD tst body K (m + 1) (setM σ0 J js) M := by
    intro m
    induction m with
    | zero =>
      intro js M h
      exact step 0 js M (whilD tst body K 0) h fun m' js' M'' hlt h' => by omega
    | succ m ih =>
      intro js M h
      exact step (m + 1) js M (whilD tst body K (m + 1)) h fun m' js' M'' hlt h' => by
        have e : m' = m := by omega
        subst e
        exact ih js' M'' h'
  have := key m js M h2
  rw [h1] at this
  exact ⟨_, this⟩
end
/-- a list of its own is handed back -/
theorem Fin.lst {n0 : Nat} {Q : QE} {M L : Md} {k : Nat} {ds : List D} (hn : M.length = n0) (hM : MOk M) (hk : (M ++ L)[k]? = some (.lst ds)) (h : M.length ≤ k) (hd : noRefs ds = true) (q : Q (.lst ds) M) : Fin n0 Q (.ref k) (M ++ L) := by
  refine .settle hk ?_
  rw [List.set_append_right _ _ h]
  exact Fin.tail hn (noRefs_lt hd) hM q
/-- a value is handed back -/
theorem Fin.val {n0 : Nat} {Q : QE} {M L : Md} {d : D} (hn : M.length = n0) (hM : MOk M) (hd : noRef d = true) (q : Q d M) : Fin n0 Q d (M ++ L) := Fin.tail hn (noRef_lt hd) hM q
section
variable {M : Md} {Q : QE} {QM : Md → Prop} {k : Nat} {c c' f g : Str} {d x : D} {r fs : List (Str × D)}
def lookQ (fs : List (Str × D)) (f : Str) (M : Md) (Q : QE) : Prop := match fs.lookup f with
  | some x => Q x M
  | none => False
theorem lookQ_hd : lookQ ((f, d) :: r) f M Q = Q d M := by
  unfold lookQ
  rw [List.lookup_cons, beq_self_eq_true]
theorem lookQ_tl (h : (f == g) = false) : lookQ ((g, d) :: r) f M Q = lookQ r f M Q := by
  unfold lookQ
  rw [List.lookup_cons, h]
def fldR (o : Option MO) (c f : Str) (M : Md) (Q : QE) : Prop := match o with
  | some (.ins c' fs) => c' = c ∧ lookQ fs f M Q
  | _ => False
theorem fldD_R : fldD c f (.ref k) M Q = fldR M[k]? c f M Q := rfl
theorem fldR_ins : fldR (some (.ins c' fs)) c f M Q = (c' = c ∧ lookQ fs f M Q) := rfl
def setFR (o : Option MO) (c f : Str) (k : Nat) (d : D) (M : Md) (Q : Md → Prop) : Prop := match o with
  | some (.ins c' fs) => c' = c ∧ fs.length < 1000 ∧ Q (M.set k (.ins c (putFD f d fs)))
  | _ => False
theorem setFD_R : setFD c f (.ref k) d M QM = setFR M[k]? c f k d M QM := rfl
theorem setFR_ins : setFR (some (.ins c' fs)) c f k d M QM = (c' = c ∧ fs.length < 1000 ∧ QM (M.set k (.ins c (putFD f d fs)))) := rfl
theorem putFD_nil : putFD f d [] = [(f, d)] := rfl
theorem putFD_hd : putFD f d ((f, x) :: r) = (f, d) :: r := by unfold putFD; rw [if_pos rfl]
theorem putFD_tl (h : ¬ g = f) : putFD f d ((g, x) :: r) = (g, x) :: putFD f d r := by rw [putFD, if_neg h]
end
end DL
namespace DL
open PySem PySem.Spec PyProof.Rows L2
/-- an exception, held at a; its dict at od -/
def XD.held (x : XD) (a : Addr) (od : Option Addr) : D := match x.fs with
  | none => .exc a none x.cls [] []
  | some fs => .exc a od x.cls (fs.map (·.1)) (fs.map (·.2))
/-- one clause: its class, the name's slot, its suite -/
structure Hd where
  T : Str
  i : Option Nat
  su : CSs
inductive TBk where
  | one (s : CS)
  | tr (body : CSs) (hs : List Hd)
def clrE (i : Nat) (K : EndsD) : EndsD := ⟨fun σ M => K.nx (σ.set i none) M, K.rt, fun σ M => K.bk (σ.set i none) M, fun σ M => K.ct (σ.set i none) M⟩
section
variable (Φ : Nat → SpD) (κ : Nat → D) (xs : List Str)
/-- a clause's suite, the exception d in hand -/
def suR (h : Hd) (d : D) (K : EndsD) (σ : Std) (M : Md) : Prop := match h.i with
  | some i => rSs Φ (fun _ => d) h.su (fun _ _ _ => False) (clrE i K) (σ.set i (some d)) M
  | none => rSs Φ (fun _ => d) h.su (fun _ _ _ => False) K σ M
def hdsR (E : EXS) (K : EndsD) : List Hd → EXS
  | [] => E
  | h :: r => fun x σ M => x.cls ∈ xs ∧ if xsub x.cls h.T = true then (∀ a o, suR Φ h (x.held a (some o)) K σ M) else hdsR E K r x σ M
def rB : TBk → RS
  | .one s => rSs Φ κ (.cons s .nil)
  | .tr body hs => fun E K σ M => rSs Φ κ body (hdsR Φ xs E K hs) K σ M
def rBs : List TBk → RS
  | [] => fun _ K σ M => K.nx σ M
  | b :: r => fun E K σ M => rB Φ κ xs b E { K with nx := rBs r E K } σ M
end
section
variable {P : Pm} {Φ : Nat → SpD} {κ : Nat → D} {C : Ctx} {X : Cx} {W : WX}
theorem EnvOk.tr (O : EnvOk X P C Φ κ) (hot : C.X.hot = false) (hn : C.NS = []) (pn : List (Addr × Obj)) (xe : Value → Shared → Prop) : EnvOk (X.tr pn xe) P C Φ κ :=
  ⟨O.K, O.pg, O.wl, O.calm, O.N, O.nd, O.sc, O.fn, O.hu, O.fun_, O.cst, O.blt, O.fl, O.mkr, O.mt, O.kf, O.km, O.kt, O.xs, O.xr, O.xi, O.xf, O.kd, fun h => (by rw [hot] at h; cases h), fun n h => (by rw [hn] at h; cases h)⟩
end
section
variable {Φ : Nat → SpD} {κ : Nat → D} {xs : List Str} {EE : EXS} {K : EndsD} {σ : Std} {M : Md}
/-- what is left of a def's blocks -/
def nxb (Φ : Nat → SpD) (κ : Nat → D) (xs : List Str) (r : List TBk) (E : EXS) (K : EndsD) : Std → Md → Prop := rBs Φ κ xs r E K
theorem nxb_nil : nxb Φ κ xs [] EE K σ M = K.nx σ M := rfl
theorem nxb_one {s : CS} {r : List TBk} : nxb Φ κ xs (.one s :: r) EE K σ M = nxt Φ κ (.cons s .nil) EE ⟨nxb Φ κ xs r EE K, K.rt, K.bk, K.ct⟩ σ M := rfl
theorem nxb_tr {body : CSs} {hs : List Hd} {r : List TBk} : nxb Φ κ xs (.tr body hs :: r) EE K σ M = nxt Φ κ body (hdsR Φ xs EE ⟨nxb Φ κ xs r EE K, K.rt, K.bk, K.ct⟩ hs) ⟨nxb Φ κ xs r EE K, K.rt, K.bk, K.ct⟩ σ M := rfl
theorem hdsR_nil {x : XD} : hdsR Φ xs EE K [] x σ M = EE x σ M := rfl
theorem hdsR_cons {T : Str} {i : Option Nat} {su : CSs} {r : List Hd} {x : XD} : hdsR Φ xs EE K (⟨T, i, su⟩ :: r) x σ M = (x.cls ∈ xs ∧ if xsub x.cls T = true then (∀ a o, suR Φ ⟨T, i, su⟩ (x.held a (some o)) K σ M) else hdsR Φ xs EE K r x σ M) := rfl
theorem suR_as {T : Str} {i : Nat} {su : CSs} {d : D} : suR Φ ⟨T, some i, su⟩ d K σ M = nxt Φ (fun _ => d) su (fun _ _ _ => False) ⟨fun σ M => K.nx (σ.set i none) M, K.rt, fun σ M => K.bk (σ.set i none) M, fun σ M => K.ct (σ.set i none) M⟩ (σ.set i (some d)) M := rfl
theorem suR_no {T : Str} {su : CSs} {d : D} : suR Φ ⟨T, none, su⟩ d K σ M = nxt Φ (fun _ => d) su (fun _ _ _ => False) K σ M := rfl
theorem held_0 {c : Str} {a : Addr} {o : Option Addr} : XD.held ⟨c, none⟩ a o = .exc a none c [] [] := rfl
theorem held_1 {c : Str} {fs : List (Str × D)} {a : Addr} {o : Option Addr} : XD.held ⟨c, some fs⟩ a o = .exc a o c (fs.map (·.1)) (fs.map (·.2)) := rfl
end
end DL
namespace DL
open PySem L2
local macro_rules | `(tactic| walk_at "rd") => `(tactic| simp only [nxt_nil, rSs_nil, rSs_cons, rSs_one, rS_set, rS_setT, rS_setIx, rS_expr, rS_ret, rS_retN, rS_pass, rS_brk, rS_cont, rS_ifs, rS_fors, rS_enums, enumQ_tup, rS_whil,
  rE_var, rE_int, rE_str, rE_bl, rE_non, rE_glob, rE_bin, rE_neg, negD_int, rE_not, rE_and, rE_or, rE_cmp, rE_chain, rE_ife, rE_tup, rE_lst, rE_lstM, rE_idx, rE_slc, rE_call, rE_blt, rE_mth, rE_calln, fnQ_ref, capsD_nil, capsD_cons, capQ_some, rE_comp, rE_compM, rE_dnew, rE_dnewT, rE_dlit, rE_dget, rE_listRg, rE_listRgM, lrQM_int, rS_setP, rS_setTF, tupQ_tup, setTFd_nil, setTFd_cons, rS_aug, rS_augF, isRef_ref, addI_int, rS_raise, rS_raiseI, rE_xis, rT_xis, rE_gin, rT_gin, rE_gidx, ginD_str, gidxD_str, gidxO_some, rE_xfld, xheld_eq, xhQ_at, xdct_some, lkQ_hd, lkQ_tl, xsub_V, xsub_F, xsub_self, xsub_ne, nxb_nil, nxb_one, nxb_tr, hdsR_nil, hdsR_cons, suR_as, suR_no, held_0, held_1, List.zip_cons_cons, List.zip_nil_left, List.reverse_cons, List.reverse_nil, rE_callK, rE_makeK, rE_makeKS, rE_methK, Sc_non, Sc_bl, Sc_int, Sc_str, lrQ_int, rE_fld, rE_make, rE_makeS, rE_meth, objD_obj, rT_meth, rS_setFld,
  rds_nil, rds_cons, rdo_none, rdo_some, intO_int, rdt_none, rdt_some, rdi_seq, rdi_chars, chrQ_str, walkD_tup, walkD_lst, rdi_rng1, rngQ_int, rdi_rng2, rngQ2_int,
  rT_not, rT_and, rT_or, rT_cmp, rT_chain, rT_var, rT_glob, rT_bl, rT_bin, rT_idx, rT_fld, rT_slc, rT_call, rT_blt, rT_mth, rT_comp,
  opD_add, opD_adds, opD_addt, opD_addl, opD_catl, opD_sub, opD_mul, opD_muls, opD_fdiv, opD_fdivW, opD_mod, opD_pow, opD_band,
  cp_lt, cp_le, cp_gt, cp_ge, cp_eq, cp_eqs, cp_eqb, cp_eqn, cp_eqni, cp_eqin, cp_ne, cp_nes, cp_neb, cp_nen, cp_neni, cp_nein, cp_isN, cp_notN, cp_isB, cp_notB, isNon_non, isNon_int, isNon_bl, isNon_str, isNon_tup, isNon_lst, isNon_ref,
  tru_non, tru_bl, tru_int, tru_str, tru_tup, tru_lst, ix_tup', ix_lst', ix_scr, atQ_0, atQ_1, atQ_2, atQ_3, atQ_4, atQ_m1,
  bt_len_str, bt_len_tup, bt_len_lst, bt_len_scr, bt_list_tup, bt_list_lst, bt_listM_tup, bt_listM_lst, bt_tuple_tup, bt_tuple_lst, bt_max2, bt_min2, bt_int_int, bt_int_bl, bt_sorted_lst, srt_dct, bt_ord', bt_str',
  isi_non, isi_bl, isi_int, isi_str, isi_tup, isi_lst, isiQ_eq kit_bb, isiQ_eq kit_bi, isiQ_eq kit_bs, isiQ_eq kit_bt, isiQ_eq kit_bl, isiQ_eq kit_ib, isiQ_eq kit_ii, isiQ_eq kit_is, isiQ_eq kit_it, isiQ_eq kit_il, isiQ_eq kit_sb, isiQ_eq kit_si, isiQ_eq kit_ss, isiQ_eq kit_st, isiQ_eq kit_sl,
  isiQ_eq kit_tb, isiQ_eq kit_ti, isiQ_eq kit_ts, isiQ_eq kit_tt, isiQ_eq kit_tl, isiQ_eq kit_lb, isiQ_eq kit_li, isiQ_eq kit_ls, isiQ_eq kit_lt, isiQ_eq kit_ll, isiQ_eq kit_nb, isiQ_eq kit_ni, isiQ_eq kit_ns, isiQ_eq kit_nt, isiQ_eq kit_nl,
  sl_tup', sl_lst', sl_str', asg_nm, asg_tp, setAll_cons, setAll_nil, startD, endsD_nx, endsD_rt,
  List.map_cons, List.map_nil, List.length_cons, List.length_nil, List.replicate_succ, List.replicate_zero, List.cons_append, List.nil_append, List.set_cons_zero, List.set_cons_succ, List.getElem?_cons_zero, List.getElem?_cons_succ,
  Nat.reduceAdd, Nat.reduceSub, Nat.zero_add, Int.reduceNeg, Int.reduceToNat, Int.reducePow, if_true, if_false, Bool.false_eq_true, Bool.true_eq_false, Bool.not_true, Bool.not_false, Bool.not_eq_eq_eq_not, ix_R, ixR_lst, ixR_dct, tru_R, truR_lst, walk_R, walk_scr, seqQ_some, optQ_some, intsQ_some, blsQ_some, strQ_some, seqR_lst, len_R, list_R, listM_R, tuple_R, list_scr, tuple_scr, sorted_R, sortedM_lst, sortedM_R, sum_lst, any_lst, all_lst, tyR_lst, isi_R, isi_scr, sx_R, sxR_lst, sxR_dct, ixN_0, ixN_1, ixN_m1,
  mtKa, mtKe, mtKp, mtKpa, mtKi, mtKr, Option.isSome_some, app_R, addR, catR, seqOf_R, lstOf_R, at_new0, at_new, set_new0, set_new, len_set, List.length_append, List.append_assoc, set_snoc, emp_snoc, emp_cons, emp_nil, wipe_nil, wipe_cons, sz0, sz1, sz2, sz3, sz4, sz5, sz6, decide_eq_true_eq, decide_true, decide_false, true_and, and_true])
local macro_rules | `(tactic| walk_at "rd2") => `(tactic| simp (decide := true) only [setM_cons, setM_nil, rS_ifsN, rS_forsN, rS_enumsN, enumQ_tup, rS_whilN, nxt_nil, rSs_nil, rSs_cons, rSs_one, rS_set, rS_setT, rS_setIx, rS_expr, rS_ret, rS_retN, rS_pass, rS_brk, rS_cont, 
  rE_var, rE_int, rE_str, rE_bl, rE_non, rE_glob, rE_bin, rE_neg, negD_int, rE_not, rE_and, rE_or, rE_cmp, rE_chain, rE_ife, rE_tup, rE_lst, rE_lstM, rE_idx, rE_slc, rE_call, rE_blt, rE_mth, rE_calln, fnQ_ref, capsD_nil, capsD_cons, capQ_some, rE_comp, rE_compM, rE_dnew, rE_dnewT, rE_dlit, rE_dget, rE_listRg, rE_listRgM, lrQM_int, rS_setP, rS_setTF, tupQ_tup, setTFd_nil, setTFd_cons, rS_aug, rS_augF, isRef_ref, addI_int, rS_raise, rS_raiseI, rE_xis, rT_xis, rE_gin, rT_gin, rE_gidx, ginD_str, gidxD_str, gidxO_some, rE_xfld, xheld_eq, xhQ_at, xdct_some, lkQ_hd, lkQ_tl, xsub_V, xsub_F, xsub_self, xsub_ne, nxb_nil, nxb_one, nxb_tr, hdsR_nil, hdsR_cons, suR_as, suR_no, held_0, held_1, List.zip_cons_cons, List.zip_nil_left, List.reverse_cons, List.reverse_nil, rE_callK, rE_makeK, rE_makeKS, rE_methK, Sc_non, Sc_bl, Sc_int, Sc_str, lrQ_int, rE_fld, rE_make, rE_makeS, rE_meth, objD_obj, rT_meth, fldD_R, fldR_ins, lookQ_hd, lookQ_tl, setFD_R, setFR_ins, putFD_nil, putFD_hd, putFD_tl, fld_obj, objQ_hd, objQ_tl, rS_setFld,
  rds_nil, rds_cons, rdo_none, rdo_some, intO_int, rdt_none, rdt_some, rdi_seq, rdi_chars, chrQ_str, walkD_tup, walkD_lst, rdi_rng1, rngQ_int, rdi_rng2, rngQ2_int,
  rT_not, rT_and, rT_or, rT_cmp, rT_chain, rT_var, rT_glob, rT_bl, rT_bin, rT_idx, rT_fld, rT_slc, rT_call, rT_blt, rT_mth, rT_comp,
  opD_add, opD_adds, opD_addt, opD_addl, opD_catl, opD_sub, opD_mul, opD_muls, opD_fdiv, opD_fdivW, opD_mod, opD_pow, opD_band,
  cp_lt, cp_le, cp_gt, cp_ge, cp_eq, cp_eqs, cp_eqb, cp_eqn, cp_eqni, cp_eqin, cp_ne, cp_nes, cp_neb, cp_nen, cp_neni, cp_nein, cp_isN, cp_notN, cp_isB, cp_notB, isNon_non, isNon_int, isNon_bl, isNon_str, isNon_tup, isNon_lst, isNon_ref,
  tru_non, tru_bl, tru_int, tru_str, tru_tup, tru_lst, ix_tup', ix_lst', ix_scr, atQ_0, atQ_1, atQ_2, atQ_3, atQ_4, atQ_m1,
  bt_len_str, bt_len_tup, bt_len_lst, bt_len_scr, bt_list_tup, bt_list_lst, bt_listM_tup, bt_listM_lst, bt_tuple_tup, bt_tuple_lst, bt_max2, bt_min2, bt_int_int, bt_int_bl, bt_sorted_lst, srt_dct, bt_ord', bt_str',
  isi_non, isi_bl, isi_int, isi_str, isi_tup, isi_lst, isiQ_eq kit_bb, isiQ_eq kit_bi, isiQ_eq kit_bs, isiQ_eq kit_bt, isiQ_eq kit_bl, isiQ_eq kit_ib, isiQ_eq kit_ii, isiQ_eq kit_is, isiQ_eq kit_it, isiQ_eq kit_il, isiQ_eq kit_sb, isiQ_eq kit_si, isiQ_eq kit_ss, isiQ_eq kit_st, isiQ_eq kit_sl,
  isiQ_eq kit_tb, isiQ_eq kit_ti, isiQ_eq kit_ts, isiQ_eq kit_tt, isiQ_eq kit_tl, isiQ_eq kit_lb, isiQ_eq kit_li, isiQ_eq kit_ls, isiQ_eq kit_lt, isiQ_eq kit_ll, isiQ_eq kit_nb, isiQ_eq kit_ni, isiQ_eq kit_ns, isiQ_eq kit_nt, isiQ_eq kit_nl,
  sl_tup', sl_lst', sl_str', asg_nm, asg_tp, setAll_cons, setAll_nil, startD, endsD_nx, endsD_rt,
  List.map_cons, List.map_nil, List.length_cons, List.length_nil, List.replicate_succ, List.replicate_zero, List.cons_append, List.nil_append, List.set_cons_zero, List.set_cons_succ, List.getElem?_cons_zero, List.getElem?_cons_succ,
  Nat.reduceAdd, Nat.reduceSub, Nat.zero_add, Int.reduceNeg, Int.reduceToNat, Int.reducePow, if_true, if_false, Bool.false_eq_true, Bool.true_eq_false, Bool.not_true, Bool.not_false, Bool.not_eq_eq_eq_not, ix_R, ixR_lst, ixR_dct, ixR_dctT, cp_inn_R, cp_nin_R, inR_dct, inR_dctT, keyD_non, keyD_int, keyD_str, tru_R, truR_lst, walk_R, walk_scr, seqQ_some, optQ_some, intsQ_some, blsQ_some, strQ_some, seqR_lst, len_R, list_R, listM_R, tuple_R, list_scr, tuple_scr, sorted_R, sortedM_lst, sortedM_R, sum_lst, any_lst, all_lst, tyR_lst, isi_R, isi_scr, sx_R, sxR_lst, sxR_dct, sxR_dctT, ixN_0, ixN_1, ixN_m1,
  mtKa, mtKe, mtKp, mtKpa, mtKi, mtKr, mtKx, mtKxl, idx_eq, rev_R, cp_inn2, Bool.or_false, Bool.false_or, Bool.or_true, Bool.true_or, ext_RR, pop_RR, lstOf_lst, seqOf_lst, seqOf_tup, Option.isSome_some, app_R, addR, catR, seqOf_R, lstOf_R, at_new0, at_new, set_new0, set_new, len_set, List.length_append, List.append_assoc, set_snoc, emp_snoc, emp_cons, emp_nil, wipe_nil, wipe_cons, sz0, sz1, sz2, sz3, sz4, sz5, sz6, decide_eq_true_eq, decide_true, decide_false, true_and, and_true])
local macro_rules | `(tactic| walk_at "sz") => `(tactic| first | exact trivial | omega | (simp only [size_eq, tx_len, List.length_map, List.length_cons, List.length_nil, List.length_append, List.length_replicate, List.length_range, List.length_reverse, List.length_set, List.length_take, List.length_drop] <;> omega))
local macro_rules | `(tactic| walk_at "go") => `(tactic| ((try walk_at "rd2"); (first | (with_reducible refine nxt_of ?_; walk_at "go") | ((with_reducible refine And.intro ?hs ?_); (case hs => walk_at "sz"); walk_at "go") | skip)))
def k2 : D := .tup [.tup [.int 10, .int 11], .tup [.int 13, .int 14]]
def k4 : D := .tup [.tup [.int 48, .int 58], .tup [.int 65, .int 91], .tup [.int 95, .int 96], .tup [.int 97, .int 123]]
def k18 : D := .tup [.str "set", .tup []]
def k19 : D := .tup [.str "empty"]
def top (i : Nat) : Stmt := PySem.Challenge.pw_firstway_k28_simplified_by_the_rules.main.body.getD i (.Pass ⟨0, 0, 0, 0⟩)
abbrev s1 : Stmt := top 21
def dd1 : He.DefD := ⟨("_law_row", none), "_law_row", "_law_row", defArgs s1, defBody s1, defScope s1, [], []⟩
abbrev s2 : Stmt := top 22
def dd2 : He.DefD := ⟨("_law_digit", none), "_law_digit", "_law_digit", defArgs s2, defBody s2, defScope s2, [], []⟩
abbrev s166 : Stmt := top 24
def dd166 : He.DefD := ⟨("_law_tree", none), "_law_tree", "_law_tree", defArgs s166, defBody s166, defScope s166, [], []⟩
abbrev s162 : Stmt := top 25
def dd162 : He.DefD := ⟨("_law_looks", none), "_law_looks", "_law_looks", defArgs s162, defBody s162, defScope s162, [], []⟩
abbrev s3 : Stmt := top 23
def dd3 : He.DefD := ⟨("_law_same", none), "_law_same", "_law_same", defArgs s3, defBody s3, defScope s3, [], []⟩
abbrev s159 : Stmt := top 26
def dd159 : He.DefD := ⟨("_law_parts", none), "_law_parts", "_law_parts", defArgs s159, defBody s159, defScope s159, [], []⟩
abbrev s165 : Stmt := top 27
def dd165 : He.DefD := ⟨("_law_size", none), "_law_size", "_law_size", defArgs s165, defBody s165, defScope s165, [], []⟩
abbrev s35 : Stmt := top 1
def dd35 : He.DefD := ⟨("parts", none), "parts", "parts", defArgs s35, defBody s35, defScope s35, [], []⟩
abbrev s173 : Stmt := top 9
def dd173 : He.DefD := ⟨("tree_size", none), "tree_size", "tree_size", defArgs s173, defBody s173, defScope s173, [], []⟩
abbrev s158 : Stmt := top 28
def dd158 : He.DefD := ⟨("_law_bare", none), "_law_bare", "_law_bare", defArgs s158, defBody s158, defScope s158, [], []⟩
abbrev s163 : Stmt := top 29
def dd163 : He.DefD := ⟨("_law_sequence", none), "_law_sequence", "_law_sequence", defArgs s163, defBody s163, defScope s163, [], []⟩
abbrev s161 : Stmt := top 30
def dd161 : He.DefD := ⟨("_law_union", none), "_law_union", "_law_union", defArgs s161, defBody s161, defScope s161, [], []⟩
abbrev s160 : Stmt := top 31
def dd160 : He.DefD := ⟨("_law_choice", none), "_law_choice", "_law_choice", defArgs s160, defBody s160, defScope s160, [], []⟩
abbrev s164 : Stmt := top 32
def dd164 : He.DefD := ⟨("_law_simple", none), "_law_simple", "_law_simple", defArgs s164, defBody s164, defScope s164, [], []⟩
abbrev s37 : Stmt := top 2
def dd37 : He.DefD := ⟨("inner_groups", none), "inner_groups", "inner_groups", defArgs s37, defBody s37, defScope s37, [], []⟩
abbrev s171 : Stmt := top 10
def dd171 : He.DefD := ⟨("bare", none), "bare", "bare", defArgs s171, defBody s171, defScope s171, [], []⟩
abbrev s172 : Stmt := top 11
def dd172 : He.DefD := ⟨("join_sequence", none), "join_sequence", "join_sequence", defArgs s172, defBody s172, defScope s172, [], []⟩
abbrev s168 : Stmt := top 12
def dd168 : He.DefD := ⟨("alternatives", none), "alternatives", "alternatives", defArgs s168, defBody s168, defScope s168, [], []⟩
abbrev s0 : Stmt := top 4
def dd0 : He.DefD := ⟨("make_set", none), "make_set", "make_set", defArgs s0, defBody s0, defScope s0, [], []⟩
abbrev s8 : Stmt := top 5
def dd8 : He.DefD := ⟨("union", none), "union", "union", defArgs s8, defBody s8, defScope s8, [], []⟩
abbrev s169 : Stmt := top 14
def dd169 : He.DefD := ⟨("merged", none), "merged", "merged", defArgs s169, defBody s169, defScope s169, [], []⟩
abbrev s170 : Stmt := top 13
def dd170 : He.DefD := ⟨("choice_of", none), "choice_of", "choice_of", defArgs s170, defBody s170, defScope s170, [], []⟩
abbrev s167 : Stmt := top 15
def dd167 : He.DefD := ⟨("join_choice", none), "join_choice", "join_choice", defArgs s167, defBody s167, defScope s167, [], []⟩
abbrev s176 : Stmt := top 16
def dd176 : He.DefD := ⟨("simple_repeat", none), "simple_repeat", "simple_repeat", defArgs s176, defBody s176, defScope s176, [], []⟩
abbrev s177 : Stmt := top 17
def dd177 : He.DefD := ⟨("simple_look", none), "simple_look", "simple_look", defArgs s177, defBody s177, defScope s177, [], []⟩
abbrev s174 : Stmt := top 18
def dd174 : He.DefD := ⟨("simplify", none), "simplify", "simplify", defArgs s174, defBody s174, defScope s174, [], []⟩
abbrev s175 : Stmt := top 19
def dd175 : He.DefD := ⟨("simplest", none), "simplest", "simplest", defArgs s175, defBody s175, defScope s175, [], []⟩
abbrev s1178 : Stmt := top 33
def dd1178 : He.DefD := ⟨("law", none), "law", "law", defArgs s1178, defBody s1178, defScope s1178, [], []⟩
def fnL : List He.DefD := [dd1, dd2, dd166, dd162, dd3, dd159, dd165, dd35, dd173, dd158, dd163, dd161, dd160, dd164, dd37, dd171, dd172, dd168, dd0, dd8, dd169, dd170, dd167, dd176, dd177, dd174, dd175, dd1178]
def faL : List He.Fa := [(He.Fa.glo "_law_row"), (He.Fa.glo "_law_digit"), (He.Fa.glo "_law_tree"), (He.Fa.glo "_law_looks"), (He.Fa.glo "_law_same"), (He.Fa.glo "_law_parts"), (He.Fa.glo "_law_size"), (He.Fa.glo "parts"), (He.Fa.glo "tree_size"), (He.Fa.glo "_law_bare"), (He.Fa.glo "_law_sequence"), (He.Fa.glo "_law_union"), (He.Fa.glo "_law_choice"), (He.Fa.glo "_law_simple"), (He.Fa.glo "inner_groups"), (He.Fa.glo "bare"), (He.Fa.glo "join_sequence"), (He.Fa.glo "alternatives"), (He.Fa.glo "make_set"), (He.Fa.glo "union"), (He.Fa.glo "merged"), (He.Fa.glo "choice_of"), (He.Fa.glo "join_choice"), (He.Fa.glo "simple_repeat"), (He.Fa.glo "simple_look"), (He.Fa.glo "simplify"), (He.Fa.glo "simplest"), (He.Fa.glo "law"), (He.Fa.free "len"), (He.Fa.free "int"), (He.Fa.free "isinstance"), (He.Fa.free "bool"), (He.Fa.free "str"), (He.Fa.free "tuple"), (He.Fa.free "list"), (He.Fa.free "range"), (He.Fa.free "sum"), (He.Fa.free "all"), (He.Fa.free "any"), (He.Fa.free "sorted"), (He.Fa.free "max")]
abbrev rowL : PySem.W.OpenRow := PySem.W.OpenLaw.row PySem.Challenge.rw_firstway_k28_simplified_by_the_rules
def csL : List (Str × D) := [(("EMPTY", k19) : Str × D), (("NEVER", k18) : Str × D)]
abbrev hkL : PySem.W.Hook := hookC 6 faL fnL csL
def obL (s : PySem.W.SharedT) : He.AlD := obsCG 6 faL fnL csL (HandSHeadRun.getT s)
theorem obL_eq (s : PySem.W.SharedT) : obL s = hkL.obs s.abs := obsCG_eq (HandSHeadRun.getT_eq s)
theorem runL (w : World) : HandSHeadRun.RunEq rowL (PySem.W.view rowL.prog [33]) hkL obL 4000 [("parts" : PySem.Str), ("inner_groups" : PySem.Str), ("make_set" : PySem.Str), ("union" : PySem.Str), ("EMPTY" : PySem.Str), ("NEVER" : PySem.Str), ("tree_size" : PySem.Str), ("bare" : PySem.Str), ("join_sequence" : PySem.Str), ("alternatives" : PySem.Str), ("choice_of" : PySem.Str), ("merged" : PySem.Str), ("join_choice" : PySem.Str), ("simple_repeat" : PySem.Str), ("simple_look" : PySem.Str), ("simplify" : PySem.Str), ("simplest" : PySem.Str), ("_law_row" : PySem.Str), ("_law_digit" : PySem.Str), ("_law_same" : PySem.Str), ("_law_tree" : PySem.Str), ("_law_looks" : PySem.Str), ("_law_parts" : PySem.Str), ("_law_size" : PySem.Str), ("_law_bare" : PySem.Str), ("_law_sequence" : PySem.Str), ("_law_union" : PySem.Str), ("_law_choice" : PySem.Str), ("_law_simple" : PySem.Str)] w := by
  intro os
  kernel_rfl
def pr (p : Int × Int) : D := .tup [.int p.1, .int p.2]
theorem pr_eq (p : Int × Int) : pr p = .tup [.int p.1, .int p.2] := rfl
def inP (ps : List (Int × Int)) (x : Int) : Bool := ps.any fun p => decide (p.1 ≤ x ∧ x < p.2)
theorem inP_nil {x : Int} : inP [] x = false := rfl
theorem inP_iff {ps : List (Int × Int)} {x : Int} : inP ps x = true ↔ ∃ p ∈ ps, p.1 ≤ x ∧ x < p.2 := by
  unfold inP
  rw [List.any_eq_true]
  constructor
  · rintro ⟨p, h1, h2⟩; exact ⟨p, h1, of_decide_eq_true h2⟩
  · rintro ⟨p, h1, h2⟩; exact ⟨p, h1, decide_eq_true h2⟩
theorem inP_cons {p : Int × Int} {ps : List (Int × Int)} {x : Int} : inP (p :: ps) x = true ↔ (p.1 ≤ x ∧ x < p.2) ∨ inP ps x = true := by
  rw [inP_iff, inP_iff]
  constructor
  · rintro ⟨q, h1, h2⟩
    rcases List.mem_cons.mp h1 with rfl | h
    · exact .inl h2
    · exact .inr ⟨q, h, h2⟩
  · rintro (h | ⟨q, h1, h2⟩)
    · exact ⟨p, List.mem_cons_self, h⟩
    · exact ⟨q, List.mem_cons_of_mem _ h1, h2⟩
theorem inP_append {ps qs : List (Int × Int)} {x : Int} : inP (ps ++ qs) x = true ↔ inP ps x = true ∨ inP qs x = true := by
  unfold inP
  rw [List.any_append, Bool.or_eq_true]
theorem inP_one {p : Int × Int} {x : Int} : inP [p] x = true ↔ p.1 ≤ x ∧ x < p.2 := by
  rw [inP_cons, inP_nil]; simp
/-- the one form -/
def Canon : List (Int × Int) → Prop
  | [] => True
  | p :: L => p.1 < p.2 ∧ (∀ q ∈ L, p.2 < q.1) ∧ Canon L
theorem Canon.lt : ∀ {L : List (Int × Int)}, Canon L → ∀ p ∈ L, p.1 < p.2
  | p :: L, h, q, hq => by
    rcases List.mem_cons.mp hq with rfl | hq
    · exact h.1
    · exact h.2.2.lt q hq
theorem Canon.snoc : ∀ {L : List (Int × Int)} {p : Int × Int}, Canon L → p.1 < p.2 → (∀ q ∈ L, q.2 < p.1) → Canon (L ++ [p])
  | [], p, _, h, _ => ⟨h, fun _ hq => by simp at hq, trivial⟩
  | r :: L, p, hc, h, hl => ⟨hc.1, fun q hq => by
      rcases List.mem_append.mp hq with hq | hq
      · exact hc.2.1 q hq
      · rw [List.mem_singleton.mp hq]; exact hl r List.mem_cons_self, Canon.snoc hc.2.2 h fun q hq => hl q (List.mem_cons_of_mem _ hq)⟩
theorem Canon.init : ∀ {L : List (Int × Int)} {p : Int × Int}, Canon (L ++ [p]) → Canon L ∧ p.1 < p.2 ∧ ∀ q ∈ L, q.2 < p.1
  | [], p, h => ⟨trivial, h.1, fun _ hq => by cases hq⟩
  | r :: L, p, h => by
    obtain ⟨h1, h2, h3⟩ := Canon.init (L := L) h.2.2
    refine ⟨⟨h.1, fun q hq => h.2.1 q (List.mem_append_left _ hq), h1⟩, h2, fun q hq => ?_⟩
    rcases List.mem_cons.mp hq with rfl | hq
    · exact h.2.1 p (List.mem_append_right _ List.mem_cons_self)
    · exact h3 q hq
theorem canon_eq : ∀ {L1 L2 : List (Int × Int)}, Canon L1 → Canon L2 → (∀ x, inP L1 x = inP L2 x) → L1 = L2
  | [], [], _, _, _ => rfl
  | [], q :: L2, _, h2, h => by
    have z := h q.1
    rw [inP_nil, eq_comm] at z
    have : inP (q :: L2) q.1 = true := inP_cons.mpr (.inl ⟨Int.le_refl _, h2.1⟩)
    rw [z] at this; cases this
  | p :: L1, [], h1, _, h => by
    have z := h p.1
    rw [inP_nil] at z
    have : inP (p :: L1) p.1 = true := inP_cons.mpr (.inl ⟨Int.le_refl _, h1.1⟩)
    rw [z] at this; cases this
  | (a, b) :: L1, (c, d) :: L2, h1, h2, h => by
    have low : ∀ {e f : Int} {L : List (Int × Int)}, Canon ((e, f) :: L) → ∀ x, inP ((e, f) :: L) x = true → e ≤ x ∧ (x < f ∨ f < x ∧ inP L x = true) := by
      intro e f L hc x hx
      have hc1 : e < f := hc.1
      rcases inP_cons.mp hx with ⟨h3, h4⟩ | h3
      · exact ⟨h3, .inl h4⟩
      · obtain ⟨q, hq, h4, h5⟩ := inP_iff.mp h3
        have : f < q.1 := hc.2.1 q hq
        exact ⟨by omega, .inr ⟨by omega, h3⟩⟩
    have c1 : a < b := h1.1
    have c2 : c < d := h2.1
    have i1 : inP ((a, b) :: L1) a = true := inP_cons.mpr (.inl ⟨Int.le_refl _, c1⟩)
    have i2 : inP ((c, d) :: L2) c = true := inP_cons.mpr (.inl ⟨Int.le_refl _, c2⟩)
    have e1 : c ≤ a := (low h2 a (by rw [← h]; exact i1)).1
    have e2 : a ≤ c := (low h1 c (by rw [h]; exact i2)).1
    have e3 : a = c := by omega
    subst e3
    have e4 : b = d := by
      rcases Int.lt_trichotomy b d with z | z | z
      · have : inP ((a, d) :: L2) b = true := inP_cons.mpr (.inl ⟨by show a ≤ b; omega, z⟩)
        rw [← h] at this
        rcases (low h1 b this).2 with q | q <;> omega
      · exact z
      · have : inP ((a, b) :: L1) d = true := inP_cons.mpr (.inl ⟨by show a ≤ d; omega, z⟩)
        rw [h] at this
        rcases (low h2 d this).2 with q | q <;> omega
    subst e4
    have e5 : L1 = L2 := canon_eq h1.2.2 h2.2.2 fun x => by
      rw [Bool.eq_iff_iff]
      constructor
      · intro hx
        have : inP ((a, b) :: L2) x = true := by rw [← h]; exact inP_cons.mpr (.inr hx)
        obtain ⟨q, hq, h4, h5⟩ := inP_iff.mp hx
        have : b < q.1 := h1.2.1 q hq
        rcases (low h2 x (by assumption)).2 with z | z
        · omega
        · exact z.2
      · intro hx
        have : inP ((a, b) :: L1) x = true := by rw [h]; exact inP_cons.mpr (.inr hx)
        obtain ⟨q, hq, h4, h5⟩ := inP_iff.mp hx
        have : b < q.1 := h2.2.1 q hq
        rcases (low h1 x (by assumption)).2 with z | z
        · omega
        · exact z.2
    rw [e5]
/-- pairs sorted -/
theorem sort_pairs (ps : List (Int × Int)) : SortOk (ps.map pr) ∧ ∃ qs : List (Int × Int), sortD (ps.map pr) = qs.map pr ∧ qs.Perm ps ∧ qs.Pairwise fun p q => p.1 < q.1 ∨ p.1 = q.1 ∧ p.2 ≤ q.2 := by
  have e : ∀ p : Int × Int, pyG (pr p) = .tuple [.int p.1, .int p.2] := fun p => rfl
  have em : (ps.map pr).map pyG = ps.map fun p => PyData.tuple [.int p.1, .int p.2] := by
    rw [List.map_map]; rfl
  refine ⟨⟨fun d hd => ?_, ?_, ?_, fun d hd => ?_⟩, ps.mergeSort (PySem.W.dataLe false fun p : Int × Int => .tuple [.int p.1, .int p.2]), ?_, List.mergeSort_perm _ _, ?_⟩
  · obtain ⟨p, _, rfl⟩ := List.mem_map.mp hd; rfl
  · rw [em]; exact PySem.W.AllAlike.of fun _ _ => rfl
  · rw [em]; exact PySem.W.Sortable.tuples fun b => ⟨_, _, rfl⟩
  · obtain ⟨p, _, rfl⟩ := List.mem_map.mp hd
    rw [e]
    simp [PyData.depth, PyData.depthAll]
  · unfold sortD
    exact (List.map_mergeSort (f := pr) (fun a _ b _ => rfl)).symm
  · rw [PySem.W.dataLe_ii]
    have := List.pairwise_mergeSort (le := fun p q : Int × Int => decide (p.1 < q.1 ∨ (p.1 = q.1 ∧ p.2 ≤ q.2))) (fun a b c h1 h2 => by
      have h1 := of_decide_eq_true h1
      have h2 := of_decide_eq_true h2
      exact decide_eq_true (by omega)) (fun a b => by
      rw [Bool.or_eq_true]
      rcases Decidable.em (a.1 < b.1 ∨ a.1 = b.1 ∧ a.2 ≤ b.2) with h | h
      · exact .inl (decide_eq_true h)
      · exact .inr (decide_eq_true (by omega))) ps
    exact this.imp fun h => of_decide_eq_true h
theorem noRefs_pr (L : List (Int × Int)) : noRefs (L.map pr) = true := noRefs_map fun _ _ => rfl
theorem snoc_cases {α : Type} (xs : List α) : xs = [] ∨ ∃ ys y, xs = ys ++ [y] := by
  rcases List.eq_nil_or_concat xs with h | ⟨ys, y, h⟩
  · exact .inl h
  · exact .inr ⟨ys, y, by rw [h, List.concat_eq_append]⟩
theorem canon_len : ∀ {L : List (Int × Int)} {lo hi : Int}, Canon L → (∀ x, inP L x = true → lo ≤ x ∧ x < hi) → L = [] ∨ 2 * (L.length : Int) ≤ hi - lo + 1
  | [], _, _, _, _ => .inl rfl
  | p :: L, lo, hi, h, hx => by
    have h1 := h.1
    have a := hx p.1 (inP_cons.mpr (.inl ⟨Int.le_refl _, h1⟩))
    have b := hx (p.2 - 1) (inP_cons.mpr (.inl ⟨by omega, by omega⟩))
    right
    rcases canon_len (L := L) (lo := p.2 + 1) (hi := hi) h.2.2 (fun x hxL => by
      obtain ⟨q, hq, h2, h3⟩ := inP_iff.mp hxL
      have := h.2.1 q hq
      have := hx x (inP_cons.mpr (.inr hxL))
      omega) with rfl | z
    · show 2 * ((0 + 1 : Nat) : Int) ≤ _
      omega
    · rw [List.length_cons]
      push_cast
      omega
theorem canon_64 {L : List (Int × Int)} (h : Canon L) (hx : ∀ x, inP L x = true → 0 ≤ x ∧ x < 128) : L.length ≤ 64 := by
  rcases canon_len h hx with rfl | z
  · simp
  · omega
structure PyOk (n : Nat) (x : D) (a : PyData) : Prop where
  py : pyD x = some a
  lay : a.canLay0 = true
  dep : a.depth ≤ n
theorem PyOk.up {n m : Nat} {x : D} {a : PyData} (h : PyOk n x a) (hm : n ≤ m) : PyOk m x a := ⟨h.py, h.lay, Nat.le_trans h.dep hm⟩
theorem pyo_non {n : Nat} : PyOk n .non .none := ⟨rfl, by simp [PyData.canLay0], by simp [PyData.depth]⟩
theorem pyo_bl {n : Nat} {b : Bool} : PyOk n (.bl b) (.bool b) := ⟨rfl, by simp [PyData.canLay0], by simp [PyData.depth]⟩
theorem pyo_int {n : Nat} {i : Int} : PyOk n (.int i) (.int i) := ⟨rfl, by simp [PyData.canLay0], by simp [PyData.depth]⟩
theorem pyo_map {α : Type} {n : Nat} {f : α → D} {g : α → PyData} : ∀ {l : List α}, (∀ x ∈ l, PyOk n (f x) (g x)) → pyDs (l.map f) = some (l.map g) ∧ PyData.canLayAll0 (l.map g) = true ∧ PyData.depthAll (l.map g) ≤ n
  | [], _ => ⟨by simp [pyDs], by simp [PyData.canLayAll0], by simp [PyData.depthAll]⟩
  | x :: l, h => by
    obtain ⟨h1, h2, h3⟩ := pyo_map (l := l) fun y hy => h y (List.mem_cons_of_mem _ hy)
    obtain ⟨k1, k2, k3⟩ := h x List.mem_cons_self
    refine ⟨?_, ?_, ?_⟩
    · rw [List.map_cons, List.map_cons, pyDs, k1, h1]
    · rw [List.map_cons, PyData.canLayAll0, k2, h2]; rfl
    · rw [List.map_cons, PyData.depthAll]; omega
theorem pyo_tup {α : Type} {n : Nat} {f : α → D} {g : α → PyData} {l : List α} (h : ∀ x ∈ l, PyOk n (f x) (g x)) : PyOk (n + 1) (.tup (l.map f)) (.tuple (l.map g)) := by
  obtain ⟨h1, h2, h3⟩ := pyo_map h
  refine ⟨?_, ?_, ?_⟩
  · rw [pyD, h1]; rfl
  · rw [PyData.canLay0]; exact h2
  · rw [PyData.depth]; omega
theorem pyo_2 {n : Nat} {x y : D} {a b : PyData} (h : PyOk n x a) (k : PyOk n y b) : PyOk (n + 1) (.tup [x, y]) (.tuple [a, b]) := by
  have := pyo_tup (n := n) (f := Prod.fst) (g := Prod.snd) (l := [(x, a), (y, b)]) (by
    intro z hz
    simp only [List.mem_cons, List.not_mem_nil, or_false] at hz
    rcases hz with rfl | rfl
    · exact h
    · exact k)
  exact this
theorem pyo_3 {n : Nat} {x y z : D} {a b c : PyData} (h : PyOk n x a) (k : PyOk n y b) (j : PyOk n z c) : PyOk (n + 1) (.tup [x, y, z]) (.tuple [a, b, c]) := by
  have := pyo_tup (n := n) (f := Prod.fst) (g := Prod.snd) (l := [(x, a), (y, b), (z, c)]) (by
    intro z hz
    simp only [List.mem_cons, List.not_mem_nil, or_false] at hz
    rcases hz with rfl | rfl | rfl
    · exact h
    · exact k
    · exact j)
  exact this
theorem beq_dec {α : Type} [BEq α] [LawfulBEq α] [DecidableEq α] (a b : α) : (a == b) = decide (a = b) := by
  rw [Bool.eq_iff_iff, beq_iff_eq, decide_eq_true_eq]
theorem eqS_py {x y : D} {a b : PyData} {c : Bool} (h : eqS x y = some c) (hx : pyD x = some a) (hy : pyD y = some b) : c = PyData.eqv a b := by
  cases x <;> cases y <;> first
    | (cases hx; cases hy; cases h; simp [PyData.eqv, beq_dec]; done)
    | cases h
theorem noref_rs {x : D} {a : PyData} {M : Md} (h : pyD x = some a) : rsD x M = x := by
  cases x <;> first | rfl | (simp [pyD] at h)
theorem eq_py {n m : Nat} {x y : D} {a b : PyData} {M : Md} {Q : Bool → Prop} (hx : PyOk n x a) (hy : PyOk m y b) (hn : n ≤ 64) (hm : m ≤ 64) : cpD .eq x y M Q = Q (PyData.eqv a b) := by
  show eqQ x y M Q = _
  unfold eqQ
  cases e : eqS x y with
  | some c => dsimp only; rw [eqS_py e hx.py hy.py]
  | none =>
    dsimp only
    rw [noref_rs hx.py, noref_rs hy.py, hx.py, hy.py]
    dsimp only
    have h1 : SeqAt.shaped a = true := by unfold SeqAt.shaped; rw [hx.lay, Bool.true_and]; exact decide_eq_true (Nat.le_trans hx.dep hn)
    have h2 : SeqAt.shaped b = true := by unfold SeqAt.shaped; rw [hy.lay, Bool.true_and]; exact decide_eq_true (Nat.le_trans hy.dep hm)
    rw [h1, h2]
    exact propext ⟨fun h => h.2.2, fun h => ⟨rfl, rfl, h⟩⟩
theorem eqv_all {α : Type} {g : α → PyData} [DecidableEq α] (h : ∀ x y, PyData.eqv (g x) (g y) = decide (x = y)) : ∀ (l k : List α), PyData.eqvAll (l.map g) (k.map g) = decide (l = k)
  | [], [] => by simp [PyData.eqvAll]
  | [], y :: k => by simp [PyData.eqvAll]
  | x :: l, [] => by simp [PyData.eqvAll]
  | x :: l, y :: k => by
    rw [List.map_cons, List.map_cons, PyData.eqvAll, h, eqv_all h l k]
    by_cases h1 : x = y <;> by_cases h2 : l = k <;> simp [h1, h2]
theorem eqv_int (a b : Int) : PyData.eqv (.int a) (.int b) = decide (a = b) := by simp only [PyData.eqv]; exact beq_dec a b
theorem eqv_tup {α : Type} {g : α → PyData} [DecidableEq α] (h : ∀ x y, PyData.eqv (g x) (g y) = decide (x = y)) (l k : List α) : PyData.eqv (.tuple (l.map g)) (.tuple (k.map g)) = decide (l = k) := by
  rw [PyData.eqv]; exact eqv_all h l k
def c3_9 : CSs := .cons (.ret (.cmp .isN (.var 0) .non)) .nil
def c3_10 : CSs := .cons (.ret (.and (.blt (.isi "bool") (.cons (.var 0) .nil)) (.cmp .eq (.var 0) (.var 1)))) .nil
def c3_11 : CSs := .cons (.ret (.and (.blt (.isi "int") (.cons (.var 0) .nil)) (.and (.not (.blt (.isi "bool") (.cons (.var 0) .nil))) (.cmp .eq (.var 0) (.var 1))))) .nil
def c3_12 : CSs := .cons (.ret (.and (.blt (.isi "str") (.cons (.var 0) .nil)) (.cmp .eq (.var 0) (.var 1)))) .nil
def c3_13 : CSs := .cons (.ret (.bl false)) .nil
def c3_14 : CSs := .cons (.ret (.bl false)) .nil
def c3_15 : CSs := .cons (.ret (.bl false)) .nil
def c3_17 : CSs := .cons (.ret (.bl false)) .nil
def c3_16 : CSs := .cons (.ifs (.not (.call 3 (.cons (.idx (.var 0) (.var 2)) (.cons (.idx (.var 1) (.var 2)) .nil)))) c3_17 .nil) .nil
def c3_8 : CSs := .cons (.ret (.bl true)) .nil
def c3_7 : CSs := .cons (.fors (.nm 2) (.rng1 (.blt .len (.cons (.var 1) .nil))) c3_16) c3_8
def c3_6 : CSs := .cons (.ifs (.cmp .ne (.blt .len (.cons (.var 0) .nil)) (.blt .len (.cons (.var 1) .nil))) c3_15 .nil) c3_7
def c3_5 : CSs := .cons (.ifs (.and (.blt (.isi "list") (.cons (.var 1) .nil)) (.not (.blt (.isi "list") (.cons (.var 0) .nil)))) c3_14 .nil) c3_6
def c3_4 : CSs := .cons (.ifs (.and (.blt (.isi "tuple") (.cons (.var 1) .nil)) (.not (.blt (.isi "tuple") (.cons (.var 0) .nil)))) c3_13 .nil) c3_5
def c3_3 : CSs := .cons (.ifs (.blt (.isi "str") (.cons (.var 1) .nil)) c3_12 .nil) c3_4
def c3_2 : CSs := .cons (.ifs (.blt (.isi "int") (.cons (.var 1) .nil)) c3_11 .nil) c3_3
def c3_1 : CSs := .cons (.ifs (.blt (.isi "bool") (.cons (.var 1) .nil)) c3_10 .nil) c3_2
def c3 : CSs := .cons (.ifs (.cmp .isN (.var 1) .non) c3_9 .nil) c3_1
/-- the same, n deep at most -/
def Eqv (M : Md) : Nat → D → D → Prop
  | 0, _, _ => False
  | n + 1, a, e => (a = .non ∧ e = .non) ∨ (∃ b, a = .bl b ∧ e = .bl b) ∨ (∃ i, a = .int i ∧ e = .int i) ∨ (∃ s : Str, s.length ≤ sizeLine ∧ a = .str s ∧ e = .str s) ∨
    (∃ xs ys, a = .tup xs ∧ e = .tup ys ∧ xs.length = ys.length ∧ ys.length < 2 ^ 62 ∧ ∀ (i : Nat) x y, xs[i]? = some x → ys[i]? = some y → Eqv M n x y) ∨
    (∃ xs ys, lstOf a M = some xs ∧ lstOf e M = some ys ∧ xs.length = ys.length ∧ ys.length < 2 ^ 62 ∧ ∀ (i : Nat) x y, xs[i]? = some x → ys[i]? = some y → Eqv M n x y)
def sp3 (n : Nat) : SpD := fun ds M Q _ => ∃ a e, ds = [a, e] ∧ Eqv M n a e ∧ Q (.bl true) M
theorem ln3 (n : Nat) : ∀ ds M Q E, sp3 n ds M Q E → ds.length = 2 := by
  rintro _ _ _ _ ⟨_, _, rfl, _⟩; rfl
theorem z3 : ∀ ds M Q E, sp3 0 ds M Q E → False := by
  rintro _ _ _ _ ⟨_, _, _, h, _⟩; exact h
theorem rd3 {Φ : Nat → SpD} {κ : Nat → D} {n : Nat} (h3 : Φ 3 = sp3 n) : RdOk Φ κ c3 3 (sp3 (n + 1)) := by
  rintro ds M Q E hM hd ⟨a, e, rfl, hv, hQ⟩
  have lp : ∀ (xs ys : List D) (get : ∀ (i : Nat), i < xs.length → i < ys.length → ∀ Q : QE, (∀ x y, xs[i]? = some x → ys[i]? = some y → Q x M) → ixD a (.int i) M Q) (get2 : ∀ (i : Nat), i < ys.length → ∀ Q : QE, (∀ y, ys[i]? = some y → Q y M) → ixD e (.int i) M Q)
      (ll : btD .len [e] M = fun Q => Q (.int ys.length) M), xs.length = ys.length → ys.length < 2 ^ 62 → (∀ (i : Nat) x y, xs[i]? = some x → ys[i]? = some y → Eqv M n x y) →
      At Φ κ E M.length Q c3_7 [some a, some e, none] M := by
    intro xs ys get get2 ll hlen hsz hxy
    rw [At, nxt_eq, c3_7]; walk_at "rd"
    rw [ll]; walk_at "rd"
    refine ⟨by omega, by omega, ?_⟩
    refine loop_to (fun _ σ M' => M' = M ∧ ∃ x, σ = [some a, some e, x]) (by omega) ⟨rfl, _, rfl⟩ ?_ ?_
    · rintro j σ M' nx hj hj2 ⟨rfl, x, rfl⟩ hn
      obtain ⟨i, rfl⟩ : ∃ i : Nat, j = i := ⟨j.toNat, by omega⟩
      walk_at "rd"
      rw [c3_16]; walk_at "rd"
      refine get i (by omega) (by omega) _ fun x y hx hy => ?_
      refine get2 i (by omega) _ fun y' hy' => ?_
      rw [hy] at hy'; cases hy'
      rw [h3]
      refine ⟨x, y, rfl, hxy i x y hx hy, ?_⟩
      walk_at "rd"
      exact hn _ _ ⟨rfl, _, rfl⟩
    · rintro σ M' ⟨rfl, x, rfl⟩
      dsimp only; rw [nxt_eq, c3_8]; walk_at "rd"
      exact .keep hQ
  rcases hv with ⟨rfl, rfl⟩ | ⟨b, rfl, rfl⟩ | ⟨i, rfl, rfl⟩ | ⟨s, hs, rfl, rfl⟩ | ⟨xs, ys, rfl, rfl, hlen, hsz, hxy⟩ | ⟨xs, ys, ha, he, hlen, hsz, hxy⟩
  · rw [c3]; walk_at "rd"
    rw [c3_9]; walk_at "rd"
    exact .keep hQ
  · rw [c3]; walk_at "rd"
    rw [nxt_eq, c3_1]; walk_at "rd"
    rw [c3_10]; walk_at "rd"
    exact .keep hQ
  · rw [c3]; walk_at "rd"
    rw [nxt_eq, c3_1]; walk_at "rd"
    rw [nxt_eq, c3_2]; walk_at "rd"
    rw [c3_11]; walk_at "rd"
    exact .keep hQ
  · rw [c3]; walk_at "rd"
    rw [nxt_eq, c3_1]; walk_at "rd"
    rw [nxt_eq, c3_2]; walk_at "rd"
    rw [nxt_eq, c3_3]; walk_at "rd"
    rw [c3_12]; walk_at "rd"
    exact .keep hQ
  · rw [c3]; walk_at "rd"
    rw [nxt_eq, c3_1]; walk_at "rd"
    rw [nxt_eq, c3_2]; walk_at "rd"
    rw [nxt_eq, c3_3]; walk_at "rd"
    rw [nxt_eq, c3_4]; walk_at "rd"
    rw [nxt_eq, c3_5]; walk_at "rd"
    rw [nxt_eq, c3_6]; walk_at "rd"
    rw [hlen]; walk_at "rd"
    refine lp xs ys ?_ ?_ rfl hlen hsz hxy
    · intro i h1 h2 Q hq
      rw [ix_tup', atQ_some (atI_nat (List.getElem?_eq_getElem h1))]
      exact hq _ _ (List.getElem?_eq_getElem h1) (List.getElem?_eq_getElem h2)
    · intro i h2 Q hq
      rw [ix_tup', atQ_some (atI_nat (List.getElem?_eq_getElem h2))]
      exact hq _ (List.getElem?_eq_getElem h2)
  · rw [c3]; walk_at "rd"; rw [isNon_l he]; walk_at "rd"
    rw [nxt_eq, c3_1]; walk_at "rd"; rw [isi_l he]; walk_at "rd"
    rw [nxt_eq, c3_2]; walk_at "rd"; rw [isi_l he]; walk_at "rd"
    rw [nxt_eq, c3_3]; walk_at "rd"; rw [isi_l he]; walk_at "rd"
    rw [nxt_eq, c3_4]; walk_at "rd"; rw [isi_l he]; walk_at "rd"
    rw [nxt_eq, c3_5]; walk_at "rd"; rw [isi_l he]; walk_at "rd"; rw [isi_l ha]; walk_at "rd"
    rw [nxt_eq, c3_6]; walk_at "rd"
    rw [len_l ha, len_l he, hlen]; walk_at "rd"
    refine lp xs ys ?_ ?_ (by funext Q; rw [len_l he]) hlen hsz hxy
    · intro i h1 h2 Q hq
      rw [ix_l ha, atQ_some (atI_nat (List.getElem?_eq_getElem h1))]
      exact hq _ _ (List.getElem?_eq_getElem h1) (List.getElem?_eq_getElem h2)
    · intro i h2 Q hq
      rw [ix_l he, atQ_some (atI_nat (List.getElem?_eq_getElem h2))]
      exact hq _ (List.getElem?_eq_getElem h2)
/-- plain data, n deep at most -/
def Plain : Nat → D → Prop
  | 0, _ => False
  | _ + 1, .non => True
  | _ + 1, .bl _ => True
  | _ + 1, .int _ => True
  | _ + 1, .str s => s.length ≤ sizeLine
  | n + 1, .tup ds => ds.length < 2 ^ 62 ∧ ∀ d ∈ ds, Plain n d
  | n + 1, .lst ds => ds.length < 2 ^ 62 ∧ ∀ d ∈ ds, Plain n d
  | _ + 1, _ => False
theorem eqv_refl {M : Md} : ∀ {n : Nat} {d : D}, Plain n d → Eqv M n d d
  | 0, _, h => h.elim
  | n + 1, .non, h => .inl ⟨rfl, rfl⟩
  | n + 1, .bl b, h => .inr (.inl ⟨b, rfl, rfl⟩)
  | n + 1, .int b, h => .inr (.inr (.inl ⟨b, rfl, rfl⟩))
  | n + 1, .str b, h => .inr (.inr (.inr (.inl ⟨b, h, rfl, rfl⟩)))
  | n + 1, .tup ds, h => .inr (.inr (.inr (.inr (.inl ⟨ds, ds, rfl, rfl, rfl, h.1, fun i x y hx hy => by
      rw [hx] at hy; cases hy
      exact eqv_refl (h.2 x (List.mem_of_getElem? hx))⟩))))
  | n + 1, .lst ds, h => .inr (.inr (.inr (.inr (.inr ⟨ds, ds, rfl, rfl, rfl, h.1, fun i x y hx hy => by
      rw [hx] at hy; cases hy
      exact eqv_refl (h.2 x (List.mem_of_getElem? hx))⟩))))
  | n + 1, .scr _, h => h.elim
  | n + 1, .ref _, h => h.elim
def c1_6 : CSs := .cons (.set 2 (.idx (.var 0) (.var 1))) .nil
def c1_7 : CSs := .cons (.set 2 (.bin .sub (.int 1) (.bin .mul (.int 2) (.var 2)))) .nil
def c1_8 : CSs := .cons (.ret (.var 2)) .nil
def c1_5 : CSs := .cons (.ret (.bin .mod (.blt .int (.cons (.bin .add (.bin .add (.bin .mul (.var 3) (.var 3)) (.bin .mul (.int 104729) (.var 1))) (.int 977)) .nil)) (.int 2305843009213693951))) .nil
def c1_4 : CSs := .cons (.set 3 (.bin .mod (.blt .int (.cons (.bin .add (.bin .mul (.bin .add (.bin .add (.var 2) (.bin .mul (.int 7919) (.var 1))) (.int 1)) (.int 6364136223846793005)) (.int 1442695040888963407)) .nil)) (.int 2305843009213693951))) c1_5
def c1_3 : CSs := .cons (.ifs (.cmp .ge (.var 2) (.bin .pow (.int 10) (.int 9))) c1_8 .nil) c1_4
def c1_2 : CSs := .cons (.ifs (.cmp .lt (.var 2) (.int 0)) c1_7 .nil) c1_3
def c1_1 : CSs := .cons (.ifs (.cmp .lt (.var 1) (.blt .len (.cons (.var 0) .nil))) c1_6 .nil) c1_2
def c1 : CSs := .cons (.set 2 (.int 0)) c1_1
def sp1 : SpD := fun ds M Q _ => ∃ (ns : List Int) (k : Int), ds = [.scr ns, .int k] ∧ 0 ≤ k ∧ ∀ r : Int, 0 ≤ r → Q (.int r) M
theorem ln1 : ∀ ds M Q E, sp1 ds M Q E → ds.length = 2 := by
  rintro _ _ _ _ ⟨_, _, rfl, _⟩; rfl
theorem rd1 {Φ : Nat → SpD} {κ : Nat → D} : RdOk Φ κ c1 4 sp1 := by
  rintro ds M Q E hM hd ⟨ns, k, rfl, hk, hQ⟩
  have e3 : ∀ c x, At Φ κ E M.length Q c1_3 [some (.scr ns), some (.int k), some (.int c), x] M := by
    intro c x
    rw [At, nxt_eq, c1_3]; walk_at "rd"
    refine ⟨⟨by omega, by omega, by decide⟩, ?_⟩
    split
    · rw [c1_8]; walk_at "rd"
      exact .keep (hQ _ (by omega))
    · rw [nxt_eq, c1_4]; walk_at "rd"
      refine ⟨.inl ⟨by omega, by omega⟩, .inr ⟨by omega, by omega⟩, by omega, ?_⟩
      rw [nxt_eq, c1_5]; walk_at "rd"
      refine ⟨.inl ⟨by omega, by omega⟩, .inl ⟨by omega, by omega⟩, by omega, .keep (hQ _ (by omega))⟩
  have e2 : ∀ c x, At Φ κ E M.length Q c1_2 [some (.scr ns), some (.int k), some (.int c), x] M := by
    intro c x
    rw [At, nxt_eq, c1_2]; walk_at "rd"
    split
    · rw [c1_7]; walk_at "rd"
      exact ⟨.inl ⟨by omega, by omega⟩, e3 _ _⟩
    · exact e3 _ _
  rw [c1]; walk_at "rd"
  rw [nxt_eq, c1_1]; walk_at "rd"
  split
  · next h =>
    rw [c1_6]; walk_at "rd"
    obtain ⟨j, rfl⟩ : ∃ j : Nat, k = j := ⟨k.toNat, by omega⟩
    have hj : j < ns.length := by omega
    rw [atQ_some (d := .int ns[j]) (atI_nat (by simp [hj]))]
    exact e2 _ _
  · exact e2 _ _
def c2_5 : CSs := .cons (.setIx (.var 1) (.int 1) (.bin .add (.idx (.var 1) (.int 1)) (.int 1))) .nil
def c2_4 : CSs := .cons (.setIx (.var 1) (.int 0) (.call 1 (.cons (.var 0) (.cons (.idx (.var 1) (.int 1)) .nil)))) c2_5
def c2_3 : CSs := .cons (.ret (.var 3)) .nil
def c2_2 : CSs := .cons (.setIx (.var 1) (.int 0) (.bin .fdivW (.idx (.var 1) (.int 0)) (.var 2))) c2_3
def c2_1 : CSs := .cons (.set 3 (.bin .mod (.blt .int (.cons (.idx (.var 1) (.int 0)) .nil)) (.var 2))) c2_2
def c2 : CSs := .cons (.ifs (.cmp .eq (.idx (.var 1) (.int 0)) (.int 0)) c2_4 .nil) c2_1
/-- where the walk over the bits stands -/
structure Rg (bt : Int → Prop) (j : Int) (L : List (Int × Int)) (s : Int) : Prop where
  c : Canon L
  n : (L.length : Int) ≤ j
  l : -1 ≤ s
  u : s < j
  e : ∀ p ∈ L, p.2 < if s < 0 then j else s
  i : ∀ x, inP L x = true ↔ 0 ≤ x ∧ (x < if s < 0 then j else s) ∧ bt x
  t : ∀ x, 0 ≤ s → s ≤ x → x < j → bt x
theorem Rg.start {bt : Int → Prop} : Rg bt 0 [] (-1) := ⟨trivial, by simp, by omega, by omega, fun _ h => (by cases h), fun x => by rw [inP_nil]; simp; omega, fun x h => by omega⟩
theorem Rg.open_ {bt : Int → Prop} {j s : Int} {L : List (Int × Int)} (h : Rg bt j L s) (hs : s < 0) (hb : bt j) (hj : 0 ≤ j) : Rg bt (j + 1) L j := by
  refine ⟨h.c, by have := h.n; omega, by omega, by omega, fun p hp => ?_, fun x => ?_, fun x h0 h1 h2 => ?_⟩
  · have := h.e p hp
    rw [if_pos hs] at this
    rw [if_neg (by omega)]; exact this
  · have := h.i x
    rw [if_pos hs] at this
    rw [if_neg (by omega)]; exact this
  · have : x = j := by omega
    rw [this]; exact hb
theorem Rg.go {bt : Int → Prop} {j s : Int} {L : List (Int × Int)} (h : Rg bt j L s) (hs : ¬ s < 0) (hb : bt j) : Rg bt (j + 1) L s := by
  refine ⟨h.c, by have := h.n; omega, h.l, by have := h.u; omega, fun p hp => ?_, fun x => ?_, fun x h0 h1 h2 => ?_⟩
  · have := h.e p hp
    rw [if_neg hs] at this ⊢; exact this
  · have := h.i x
    rw [if_neg hs] at this ⊢; exact this
  · rcases Decidable.em (x < j) with z | z
    · exact h.t x h0 h1 z
    · have : x = j := by omega
      rw [this]; exact hb
theorem Rg.out {bt : Int → Prop} {j s : Int} {L : List (Int × Int)} (h : Rg bt j L s) (hs : s < 0) (hb : ¬ bt j) : Rg bt (j + 1) L s := by
  refine ⟨h.c, by have := h.n; omega, h.l, by have := h.u; omega, fun p hp => ?_, fun x => ?_, fun x h0 => by omega⟩
  · have := h.e p hp
    rw [if_pos hs] at this ⊢; omega
  · have := h.i x
    rw [if_pos hs] at this ⊢
    rw [this]
    constructor
    · rintro ⟨h1, h2, h3⟩; exact ⟨h1, by omega, h3⟩
    · rintro ⟨h1, h2, h3⟩
      rcases Decidable.em (x < j) with z | z
      · exact ⟨h1, z, h3⟩
      · have : x = j := by omega
        rw [this] at h3; exact absurd h3 hb
theorem Rg.close {bt : Int → Prop} {j s : Int} {L : List (Int × Int)} (h : Rg bt j L s) (hs : ¬ s < 0) (hb : ¬ bt j) : Rg bt (j + 1) (L ++ [(s, j)]) (-1) := by
  have hu := h.u
  refine ⟨h.c.snoc hu fun q hq => ?_, by have := h.n; simp; omega, by omega, by omega, fun p hp => ?_, fun x => ?_, fun x h0 => by omega⟩
  · have := h.e q hq
    rw [if_neg hs] at this; exact this
  · rw [if_pos (by omega)]
    rcases List.mem_append.mp hp with hp | hp
    · have := h.e p hp
      rw [if_neg hs] at this; omega
    · rw [List.mem_singleton.mp hp]
      show j < j + 1
      omega
  · have := h.i x
    rw [if_neg hs] at this
    rw [if_pos (by omega), inP_append, inP_one, this]
    constructor
    · rintro (⟨h1, h2, h3⟩ | ⟨h1, h2⟩)
      · exact ⟨h1, by omega, h3⟩
      · exact ⟨by have : s ≤ x := h1; omega, by have : x < j := h2; omega, h.t x (by omega) h1 h2⟩
    · rintro ⟨h1, h2, h3⟩
      rcases Decidable.em (x < s) with z | z
      · exact .inl ⟨h1, z, h3⟩
      · rcases Decidable.em (x < j) with z2 | z2
        · exact .inr ⟨by show s ≤ x; omega, z2⟩
        · have : x = j := by omega
          rw [this] at h3; exact absurd h3 hb
def c0_5 : CSs := .cons .cont .nil
def c0_6 : CSs := .cons (.setIx (.var 1) (.neg (.int 1)) (.tup (.cons (.idx (.idx (.var 1) (.neg (.int 1))) (.int 0)) (.cons (.blt .max2 (.cons (.idx (.idx (.var 1) (.neg (.int 1))) (.int 1)) (.cons (.var 3) .nil))) .nil)))) .nil
def c0_7 : CSs := .cons (.expr (.mth .append (.var 1) (.cons (.tup (.cons (.var 2) (.cons (.var 3) .nil))) .nil))) .nil
def c0_4 : CSs := .cons (.ifs (.and (.var 1) (.cmp .le (.var 2) (.idx (.idx (.var 1) (.neg (.int 1))) (.int 1)))) c0_6 c0_7) .nil
def c0_3 : CSs := .cons (.ifs (.cmp .ge (.var 2) (.var 3)) c0_5 .nil) c0_4
def c0_2 : CSs := .cons (.ret (.blt .tuple (.cons (.var 1) .nil))) .nil
def c0_1 : CSs := .cons (.fors (.tp [2, 3]) (.seq (.blt .sorted (.cons (.var 0) .nil))) c0_3) c0_2
def c0 : CSs := .cons (.set 1 (.lst true .nil)) c0_1
/-- where make_set's walk stands -/
structure Mk (ps acc qs : List (Int × Int)) : Prop where
  c : Canon acc
  n : acc.length + qs.length ≤ ps.length
  s : qs.Pairwise fun p q => p.1 < q.1 ∨ p.1 = q.1 ∧ p.2 ≤ q.2
  l : ∀ p ∈ acc, ∀ q ∈ qs, p.1 ≤ q.1
  i : ∀ x, (inP acc x = true ∨ inP qs x = true) ↔ inP ps x = true
theorem Mk.skip {ps acc qs : List (Int × Int)} {q : Int × Int} (h : Mk ps acc (q :: qs)) (hq : q.2 ≤ q.1) : Mk ps acc qs := by
  refine ⟨h.c, by have := h.n; simp at this; omega, (List.pairwise_cons.mp h.s).2, fun p hp r hr => h.l p hp r (List.mem_cons_of_mem _ hr), fun x => ?_⟩
  rw [← h.i x, inP_cons]
  constructor
  · rintro (z | z)
    · exact .inl z
    · exact .inr (.inr z)
  · rintro (z | z | z)
    · exact .inl z
    · omega
    · exact .inr z
theorem Mk.more {ps acc qs : List (Int × Int)} {q : Int × Int} (h : Mk ps acc (q :: qs)) (hq : q.1 < q.2) (hl : ∀ p ∈ acc, p.2 < q.1) : Mk ps (acc ++ [q]) qs := by
  refine ⟨h.c.snoc hq hl, by have := h.n; simp at this ⊢; omega, (List.pairwise_cons.mp h.s).2, fun p hp r hr => ?_, fun x => ?_⟩
  · rcases List.mem_append.mp hp with hp | hp
    · exact h.l p hp r (List.mem_cons_of_mem _ hr)
    · rw [List.mem_singleton.mp hp]
      have := (List.pairwise_cons.mp h.s).1 r hr
      omega
  · rw [← h.i x, inP_cons, inP_append, inP_one, or_assoc]
theorem Mk.join {ps acc qs : List (Int × Int)} {p q : Int × Int} (h : Mk ps (acc ++ [p]) (q :: qs)) (hq : q.1 < q.2) (hl : q.1 ≤ p.2) : Mk ps (acc ++ [(p.1, if q.2 > p.2 then q.2 else p.2)]) qs := by
  obtain ⟨h1, h2, h3⟩ := h.c.init
  have h4 := h.l p (List.mem_append_right _ List.mem_cons_self) q List.mem_cons_self
  have e : ∀ y : Int, (y < if q.2 > p.2 then q.2 else p.2) ↔ y < p.2 ∨ y < q.2 := fun y => by split <;> omega
  refine ⟨h1.snoc ((e _).mpr (.inl h2)) h3, by have := h.n; simp at this ⊢; omega, (List.pairwise_cons.mp h.s).2, fun r hr z hz => ?_, fun x => ?_⟩
  · rcases List.mem_append.mp hr with hr | hr
    · exact h.l r (List.mem_append_left _ hr) z (List.mem_cons_of_mem _ hz)
    · rw [List.mem_singleton.mp hr]
      exact h.l p (List.mem_append_right _ List.mem_cons_self) z (List.mem_cons_of_mem _ hz)
  · rw [← h.i x, inP_cons, inP_append, inP_append, inP_one, inP_one]
    show (inP acc x = true ∨ p.1 ≤ x ∧ x < if q.2 > p.2 then q.2 else p.2) ∨ inP qs x = true ↔ _
    rw [e]
    constructor
    · rintro ((z | ⟨z1, z2 | z2⟩) | z)
      · exact .inl (.inl z)
      · exact .inl (.inr ⟨z1, z2⟩)
      · rcases Decidable.em (x < p.2) with y | y
        · exact .inl (.inr ⟨z1, y⟩)
        · exact .inr (.inl ⟨by omega, z2⟩)
      · exact .inr (.inr z)
    · rintro ((z | z) | z | z)
      · exact .inl (.inl z)
      · exact .inl (.inr ⟨z.1, .inl z.2⟩)
      · exact .inl (.inr ⟨by omega, .inr z.2⟩)
      · exact .inr z
def sp0 : SpD := fun ds M Q _ => ∃ (c : D) (ps : List (Int × Int)), ds = [c] ∧ lstOf c M = some (ps.map pr) ∧ ps.length ≤ sizeLine ∧ ∀ L, Canon L → (∀ x : Int, inP L x = true ↔ inP ps x = true) → L.length ≤ ps.length → Q (.tup (L.map pr)) M
theorem ln0 : ∀ ds M Q E, sp0 ds M Q E → ds.length = 1 := by
  rintro _ _ _ _ ⟨_, _, rfl, _⟩; rfl
theorem rd0 {Φ : Nat → SpD} {κ : Nat → D} : RdOk Φ κ c0 4 sp0 := by
  rintro ds M Q E hM hd ⟨c, ps, rfl, hc, hsz, hQ⟩
  have hc' : lstOf c (M ++ [.lst []]) = some (ps.map pr) := by
    cases c with
    | lst _ => exact hc
    | ref k =>
      rw [lstOf_R] at hc ⊢
      unfold seqR at hc
      split at hc
      · next e => rw [at_old e]; exact hc
      · cases hc
    | _ => cases hc
  obtain ⟨so, qs, hqs, hperm, hsort⟩ := sort_pairs ps
  rw [c0]; walk_at "rd"
  rw [nxt_eq, c0_1]; walk_at "rd"
  rw [sorted_l hc']; walk_at "rd"
  rw [hqs]
  refine ⟨so, ?_⟩
  refine loop_list (fun rem σ M' => ∃ acc qs x2 x3, σ = [some c, some (.ref M.length), x2, x3] ∧ M' = M ++ [.lst (acc.map pr)] ∧ rem = qs.map pr ∧ Mk ps acc qs) ?_ ?_ ?_ _ _ _ ⟨[], qs, _, _, rfl, rfl, rfl, trivial, by simp [hperm.length_eq], hsort, (by intro p hp; cases hp), fun x => ?_⟩
  · intro _ _ _ _; trivial
  · rintro d rem σ M' nx ⟨acc, qs, x2, x3, rfl, rfl, he, G⟩ hn
    obtain ⟨q, qs, rfl, rfl, rfl⟩ : ∃ q qs', qs = q :: qs' ∧ d = pr q ∧ rem = qs'.map pr := by
      cases qs with
      | nil => cases he
      | cons q qs => cases he; exact ⟨q, qs, rfl, rfl, rfl⟩
    have hlen : acc.length < sizeLine := by
      have := G.n
      simp at this
      omega
    rw [pr_eq]; walk_at "rd"
    rw [c0_3]; walk_at "rd"
    split
    · rw [c0_5]; walk_at "rd"
      exact hn _ _ ⟨acc, qs, _, _, rfl, rfl, rfl, G.skip (by omega)⟩
    · rcases snoc_cases acc with rfl | ⟨acc, p, rfl⟩
      · rw [nxt_eq, c0_4]; walk_at "rd"
        rw [c0_7]; walk_at "rd"
        exact ⟨hlen, hn _ _ ⟨[q], qs, _, _, rfl, rfl, rfl, G.more (by omega) (by intro p hp; cases hp)⟩⟩
      · rw [List.map_append, List.map_cons, List.map_nil, nxt_eq, c0_4]; walk_at "rd"
        rw [pr_eq p]; walk_at "rd"
        split
        · rw [c0_6]; walk_at "rd"
          exact hn _ _ ⟨acc ++ [(p.1, if q.2 > p.2 then q.2 else p.2)], qs, _, _, rfl, by rw [List.map_append]; rfl, rfl, G.join (by omega) (by assumption)⟩
        · rw [c0_7]; walk_at "rd"
          refine ⟨by simpa using hlen, hn _ _ ⟨(acc ++ [p]) ++ [q], qs, _, _, rfl, by simp [pr], rfl, G.more (by omega) fun r hr => ?_⟩⟩
          obtain ⟨h1, h2, h3⟩ := G.c.init
          rcases List.mem_append.mp hr with hr | hr
          · have := h3 r hr
            omega
          · rw [List.mem_singleton.mp hr]; omega
  · rintro σ M' ⟨acc, qs, x2, x3, rfl, rfl, he, G⟩
    dsimp only; rw [nxt_eq, c0_2]; walk_at "rd"
    cases qs with
    | cons _ _ => cases he
    | nil => exact Fin.tail rfl (noRefs_lt (noRefs_pr acc)) hM (hQ acc G.c (fun x => by rw [← G.i x, inP_nil]; simp) (by have := G.n; simpa using this))
  · rw [inP_nil, inP_iff, inP_iff]
    simp only [Bool.false_eq_true, false_or]
    constructor
    · rintro ⟨p, h1, h2⟩; exact ⟨p, hperm.mem_iff.mp h1, h2⟩
    · rintro ⟨p, h1, h2⟩; exact ⟨p, hperm.mem_iff.mpr h1, h2⟩
inductive Cr where
  | set (n : Int) (ps : List (Int × Int)) | seq (a b : Cr) | alt (a b : Cr) | ne (t : Cr) | star (t : Cr) (x : Bool) | leaf (s : Str) (r : List D)
def Cr.hd : Cr → Str
  | .set _ _ => "set" | .seq _ _ => "sequence" | .alt _ _ => "choice" | .ne _ => "nonempty" | .star _ _ => "star" | .leaf s _ => s
def Cr.ht : Cr → Nat
  | .seq a b => max a.ht b.ht + 1
  | .alt a b => max a.ht b.ht + 1
  | .ne t => t.ht + 1
  | .star t _ => t.ht + 1
  | _ => 0
/-- a leaf of another kind -/
def leafOk (s : Str) (r : List D) : Prop := s ≠ "set" ∧ s ≠ "sequence" ∧ s ≠ "choice" ∧ s ≠ "nonempty" ∧ s ≠ "star" ∧ s.length ≤ sizeLine ∧ r.length ≤ 10 ∧ noRefs r = true ∧ ∀ d ∈ r, Plain 3 d
def Cr.ok : Cr → Prop
  | .set _ ps => ps.length ≤ 100
  | .seq a b => a.ok ∧ b.ok
  | .alt a b => a.ok ∧ b.ok
  | .ne t => t.ok
  | .star t _ => t.ok
  | .leaf s r => leafOk s r
theorem plain_up : ∀ {n : Nat} {d : D}, Plain n d → Plain (n + 1) d
  | 0, _, h => h.elim
  | _ + 1, .non, _ => trivial
  | _ + 1, .bl _, _ => trivial
  | _ + 1, .int _, _ => trivial
  | _ + 1, .str _, h => h
  | _ + 1, .tup _, h => ⟨h.1, fun d hd => plain_up (h.2 d hd)⟩
  | _ + 1, .lst _, h => ⟨h.1, fun d hd => plain_up (h.2 d hd)⟩
  | _ + 1, .scr _, h => h.elim
  | _ + 1, .ref _, h => h.elim
theorem plain_mono {n m : Nat} {d : D} (h : Plain n d) (hm : n ≤ m) : Plain m d := by
  induction hm with
  | refl => exact h
  | step _ ih => exact plain_up ih
inductive Co where
  | set (n : Nat) (ps : List (Int × Int)) | opn (g : Nat) | cls (g : Nat) | fgt (gs ms : List Nat) | bit (k : Nat) (b : Bool) | anc (s : Str) | emp
  | seq (a b : Co) | alt (a b : Co) | ne (a : Co) | star (a : Co) (g : Bool)
def Co.ht : Co → Nat
  | .seq a b => max a.ht b.ht + 1
  | .alt a b => max a.ht b.ht + 1
  | .ne t => t.ht + 1
  | .star t _ => t.ht + 1
  | _ => 0
def onD : Option Nat → D
  | none => .non
  | some n => .int n
structure Sp where
  pos : Int
  bf : Option Int
  af : Option Int
  bits : List Bool
def Co.sz : Co → Nat
  | .seq a b => a.sz + b.sz
  | .alt a b => a.sz + b.sz
  | .ne a => a.sz
  | .star a _ => a.sz + 1
  | _ => 1
theorem atQ_map {α : Type} {f : α → D} {l : List α} {i : Int} {M : Md} {Q : QE} (h0 : 0 ≤ i) (h1 : i < l.length) (h : ∀ x ∈ l, Q (f x) M) : atQ (l.map f) i M Q := by
  refine atQ_mem h0 (by rw [List.length_map]; exact h1) fun d hd => ?_
  obtain ⟨x, hx, rfl⟩ := List.mem_map.mp hd
  exact h x hx
/-- the item at a place -/
theorem atQ_at {α : Type} {f : α → D} {l : List α} {i : Nat} {x : α} {M : Md} {Q : QE} (h : l[i]? = some x) : atQ (l.map f) (i : Int) M Q = Q (f x) M :=
  atQ_some (atI_nat (by rw [List.getElem?_map, h]; rfl))
/-- the end of an __init__ that had lists of its own -/
theorem Fin.init {n0 : Nat} {Q : QE} {M0 L : Md} {c : Str} {fs : List (Str × D)} (hn : M0.length + 1 = n0) (hM : MOk (M0 ++ [.ins c []])) (hf : noRefs (fs.map (·.2)) = true) (q : Q .non (M0 ++ [.ins c fs])) : Fin n0 Q .non (M0 ++ .ins c fs :: L) := by
  have e : M0 ++ .ins c fs :: L = (M0 ++ [.ins c fs]) ++ L := by simp
  rw [e]
  refine Fin.tail (by simpa using hn) trivial ?_ q
  intro m hm
  have hl : (M0 ++ [MO.ins c fs]).length = (M0 ++ [MO.ins c []]).length := by simp
  rw [hl]
  rcases List.mem_append.mp hm with h | h
  · exact hM m (List.mem_append_left _ h)
  · rw [List.mem_singleton.mp h]
    intro p hp
    exact RLts_iff.mp (noRefs_lt hf) _ (List.mem_map_of_mem hp)
def Co.leaf : Co → Prop
  | .set _ _ | .seq _ _ | .alt _ _ | .ne _ | .star _ _ => False
  | _ => True
def Co.hd : Co → Str
  | .set _ _ => "set" | .opn _ => "open" | .cls _ => "close" | .fgt _ _ => "forget" | .bit _ _ => "bit" | .anc _ => "anchor" | .emp => "empty"
  | .seq _ _ => "sequence" | .alt _ _ => "choice" | .ne _ => "nonempty" | .star _ _ => "star"
theorem same_eq {d : D} {n : Nat} {M : Md} {Q : QE} {E : EX} (h : Plain n d) (q : Q (.bl true) M) : sp3 n [d, d] M Q E := ⟨_, _, rfl, eqv_refl h, q⟩
/-- the six anchors -/
def ancOk (s : Str) : Prop := s = "text_start" ∨ s = "text_end" ∨ s = "line_start" ∨ s = "line_end" ∨ s = "word_boundary" ∨ s = "no_word_boundary"
inductive Pt where
  | set (ps : List (Int × Int)) | empty | anchor (s : Str) | seq (a b : Pt) | alt (a b : Pt) | rep (t : Pt) (lo : Nat) (hi : Option Nat) (g : Bool) | grp (n : Nat) (t : Pt) | look (a p : Bool) (t : Pt) (k : Option Nat)
def ptD : Pt → D
  | .set ps => .tup [.str "set", .tup (ps.map pr)]
  | .empty => .tup [.str "empty"]
  | .anchor s => .tup [.str "anchor", .str s]
  | .seq a b => .tup [.str "sequence", ptD a, ptD b]
  | .alt a b => .tup [.str "choice", ptD a, ptD b]
  | .rep t lo hi g => .tup [.str "repeat", ptD t, .int lo, onD hi, .bl g]
  | .grp n t => .tup [.str "group", .int n, ptD t]
  | .look a p t none => .tup [.str "look", .bl a, .bl p, ptD t]
  | .look a p t (some k) => .tup [.str "look", .bl a, .bl p, ptD t, .int k]
def Pt.ht : Pt → Nat
  | .seq a b => max a.ht b.ht + 1
  | .alt a b => max a.ht b.ht + 1
  | .rep t _ _ _ => t.ht + 1
  | .grp _ t => t.ht + 1
  | .look _ _ t _ => t.ht + 1
  | _ => 0
def Pt.pts : Pt → List Pt
  | .seq a b => [a, b]
  | .alt a b => [a, b]
  | .rep t _ _ _ => [t]
  | .grp _ t => [t]
  | .look _ _ t _ => [t]
  | _ => []
def Pt.grps : Pt → List Nat
  | .seq a b => a.grps ++ b.grps
  | .alt a b => a.grps ++ b.grps
  | .rep t _ _ _ => t.grps
  | .grp n t => n :: t.grps
  | .look _ _ t _ => t.grps
  | _ => []
/-- all looks, those within ahead -/
def Pt.lks : Pt → List Pt
  | .seq a b => a.lks ++ b.lks
  | .alt a b => a.lks ++ b.lks
  | .rep t _ _ _ => t.lks
  | .grp _ t => t.lks
  | .look a p t k => t.lks ++ [.look a p t k]
  | _ => []
theorem Pt.pts_ht {t p : Pt} (h : p ∈ t.pts) : p.ht < t.ht := by
  cases t <;> simp [Pt.pts] at h <;> simp [Pt.ht] <;> first | (rcases h with rfl | rfl <;> omega) | (subst h; omega)
abbrev c35_5 : CSs := .cons (.ret (.lst false (.cons (.idx (.var 0) (.int 1)) (.cons (.idx (.var 0) (.int 2)) .nil)))) .nil
abbrev c35_6 : CSs := .cons (.ret (.lst false (.cons (.idx (.var 0) (.int 1)) .nil))) .nil
abbrev c35_7 : CSs := .cons (.ret (.lst false (.cons (.idx (.var 0) (.int 2)) .nil))) .nil
abbrev c35_8 : CSs := .cons (.ret (.lst false (.cons (.idx (.var 0) (.int 3)) .nil))) .nil
abbrev c35_4 : CSs := .cons (.ret (.lst false .nil)) .nil
abbrev c35_3 : CSs := .cons (.ifs (.cmp .eq (.idx (.var 0) (.int 0)) (.str "look")) c35_8 .nil) c35_4
abbrev c35_2 : CSs := .cons (.ifs (.cmp .eq (.idx (.var 0) (.int 0)) (.str "group")) c35_7 .nil) c35_3
abbrev c35_1 : CSs := .cons (.ifs (.cmp .eq (.idx (.var 0) (.int 0)) (.str "repeat")) c35_6 .nil) c35_2
abbrev c35 : CSs := .cons (.ifs (.cmp .inn (.idx (.var 0) (.int 0)) (.tup (.cons (.str "sequence") (.cons (.str "choice") .nil)))) c35_5 .nil) c35_1
def sp35w : SpD := fun ds M Q _ => ∃ t : Pt, ds = [ptD t] ∧ Q (.lst (t.pts.map ptD)) M
theorem ln35w : ∀ ds M Q E, sp35w ds M Q E → ds.length = 1 := by
  rintro _ _ _ _ ⟨_, rfl, _⟩; rfl
theorem rd35w {Φ : Nat → SpD} {κ : Nat → D} : RdOk Φ κ c35 1 sp35w := by
  rintro ds M Q E hM hd ⟨t, rfl, hQ⟩
  cases t with
  | look a p t k => cases k <;> (simp only [ptD]; walk_at "go"; exact .keep hQ)
  | _ => simp only [ptD]; walk_at "go"; exact .keep hQ
theorem nr_pt : ∀ t : Pt, noRef (ptD t) = true
  | .set ps => by
    have : noRefs (ps.map pr) = true := noRefs_pr ps
    simp only [ptD, noRef, noRefs, this, Bool.and_self]
  | .empty | .anchor _ => rfl
  | .seq a b => by simp only [ptD, noRef, noRefs, nr_pt a, nr_pt b, Bool.and_self]
  | .alt a b => by simp only [ptD, noRef, noRefs, nr_pt a, nr_pt b, Bool.and_self]
  | .rep t lo hi g => by
    have : noRef (onD hi) = true := by cases hi <;> rfl
    simp only [ptD, noRef, noRefs, nr_pt t, this, Bool.and_self]
  | .grp n t => by simp only [ptD, noRef, noRefs, nr_pt t, Bool.and_self]
  | .look a p t none => by simp only [ptD, noRef, noRefs, nr_pt t, Bool.and_self]
  | .look a p t (some k) => by simp only [ptD, noRef, noRefs, nr_pt t, Bool.and_self]
def Pt.hd : Pt → Str
  | .set _ => "set" | .empty => "empty" | .anchor _ => "anchor" | .seq _ _ => "sequence" | .alt _ _ => "choice" | .rep _ _ _ _ => "repeat" | .grp _ _ => "group" | .look _ _ _ _ => "look"
theorem pt_0 {t : Pt} {M : Md} {Q : QE} : ixD (ptD t) (.int 0) M Q = Q (.str t.hd) M := by
  cases t with
  | look a p t k => cases k <;> (simp only [ptD, ix_tup', atQ_0]; rfl)
  | _ => simp only [ptD, ix_tup', atQ_0]; rfl
inductive Tr where
  | set (ps : List (Int × Int)) | empty | anchor (s : Str) | seq (a b : Tr) | alt (a b : Tr) | rep (t : Tr) (lo : Int) (hi : Option Int) (g : Bool) | grp (n : Int) (t : Tr) | look (a p : Bool) (t : Tr)
def Tr.ht : Tr → Nat
  | .seq a b => max a.ht b.ht + 1
  | .alt a b => max a.ht b.ht + 1
  | .rep t _ _ _ => t.ht + 1
  | .grp _ t => t.ht + 1
  | .look _ _ t => t.ht + 1
  | _ => 0
def Tr.pts : Tr → List Tr
  | .seq a b => [a, b]
  | .alt a b => [a, b]
  | .rep t _ _ _ => [t]
  | .grp _ t => [t]
  | .look _ _ t => [t]
  | _ => []
def Tr.grps : Tr → List Int
  | .seq a b => a.grps ++ b.grps
  | .alt a b => a.grps ++ b.grps
  | .rep t _ _ _ => t.grps
  | .grp n t => n :: t.grps
  | .look _ _ t => t.grps
  | _ => []
/-- small bounds of repetitions -/
def Tr.ok : Tr → Prop
  | .seq a b => a.ok ∧ b.ok
  | .alt a b => a.ok ∧ b.ok
  | .rep t lo hi _ => (0 ≤ lo ∧ lo ≤ 100 ∧ ∀ h, hi = some h → 0 ≤ h ∧ h ≤ 100) ∧ t.ok
  | .grp _ t => t.ok
  | .look _ _ t => t.ok
  | _ => True
/-- a tree's first word -/
def Tr.hd : Tr → Str
  | .set _ => "set" | .empty => "empty" | .anchor _ => "anchor" | .seq _ _ => "sequence" | .alt _ _ => "choice" | .rep _ _ _ _ => "repeat" | .grp _ _ => "group" | .look _ _ _ => "look"
/-- ints sorted -/
theorem sort_ints {ns : List Int} (h : ns.Pairwise (· < ·)) : SortOk (ns.map .int) ∧ sortD (ns.map .int) = ns.map .int := by
  have em : (ns.map D.int).map pyG = ns.map fun i => PyData.int i := by
    rw [List.map_map]; rfl
  refine ⟨⟨fun d hd => ?_, ?_, ?_, fun d hd => ?_⟩, ?_⟩
  · obtain ⟨p, _, rfl⟩ := List.mem_map.mp hd; rfl
  · rw [em]; exact PySem.W.AllAlike.of fun _ _ => rfl
  · rw [em]; exact PySem.W.Sortable.others fun b => ⟨nofun, nofun⟩
  · obtain ⟨p, _, rfl⟩ := List.mem_map.mp hd
    show (PyData.int p).depth ≤ 50
    simp [PyData.depth]
  · unfold sortD
    rw [← List.map_mergeSort (f := D.int) (r := PySem.W.dataLe false fun i : Int => PyData.int i) (fun a _ b _ => rfl), PySem.W.dataLe_int (fun i : Int => i), List.mergeSort_of_pairwise]
    exact h.imp fun h => decide_eq_true (by omega)
abbrev c37_4 : CSs := .cons (.expr (.mth .append (.var 1) (.cons (.idx (.var 0) (.int 1)) .nil))) .nil
abbrev c37_5 : CSs := .cons (.expr (.mth .extend (.var 1) (.cons (.call 37 (.cons (.var 2) .nil)) .nil))) .nil
abbrev c37_3 : CSs := .cons (.ret (.blt .sorted (.cons (.var 1) .nil))) .nil
abbrev c37_2 : CSs := .cons (.fors (.nm 2) (.seq (.call 35 (.cons (.var 0) .nil))) c37_5) c37_3
abbrev c37_1 : CSs := .cons (.ifs (.cmp .eq (.idx (.var 0) (.int 0)) (.str "group")) c37_4 .nil) c37_2
abbrev c37 : CSs := .cons (.set 1 (.lst true .nil)) c37_1
def iN (n : Nat) : D := .int n
def gI (l : List Nat) : List Int := l.map fun n : Nat => (n : Int)
theorem gI_D (l : List Nat) : (gI l).map D.int = l.map iN := by rw [gI, List.map_map]; rfl
/-- its own number, if it is a group -/
def Pt.own : Pt → List Nat
  | .grp n _ => [n]
  | _ => []
theorem grps_eq (t : Pt) : t.grps = t.own ++ (t.pts.map Pt.grps).flatten := by
  cases t <;> simp [Pt.grps, Pt.pts, Pt.own]
def Pt.lnum : Pt → Nat
  | .look _ _ _ (some k) => k
  | _ => 0
def Pt.fgt (t : Pt) : Co := .fgt t.grps (t.lks.map Pt.lnum)
def Pt.lkCo : Pt → Co
  | .look _ p t (some k) => if p then .seq t.fgt (.bit k true) else .bit k false
  | _ => .emp
def seqN (it : Co) : Nat → Co → Co
  | 0, c => c
  | n + 1, c => .seq it (seqN it n c)
def optN (it : Co) (g : Bool) : Nat → Co
  | 0 => .emp
  | n + 1 => if g then .alt (.seq (.ne it) (optN it g n)) .emp else .alt .emp (.seq (.ne it) (optN it g n))
def repCo (it : Co) (lo : Nat) (hi : Option Nat) (g : Bool) : Co := seqN it lo (match hi with
  | none => .star it g
  | some h => optN it g (h - lo))
/-- the core of a tree, its sets without numbers -/
def Pt.un (b : Bool) : Pt → Co
  | .set ps => .set 0 ps
  | .empty => .emp
  | .anchor s => .anc s
  | .seq x y => if b then .seq (y.un b) (x.un b) else .seq (x.un b) (y.un b)
  | .alt x y => .alt (x.un b) (y.un b)
  | .rep t lo hi g => repCo (.seq t.fgt (t.un b)) lo hi g
  | .grp n t => .seq (.opn n) (.seq (t.un b) (.cls n))
  | .look a p t k => (Pt.look a p t k).lkCo
/-- repetitions of at most four -/
def Pt.r2 : Pt → Prop
  | .seq a b => a.r2 ∧ b.r2
  | .alt a b => a.r2 ∧ b.r2
  | .rep t lo hi _ => t.r2 ∧ lo ≤ 2 ∧ ∀ h, hi = some h → lo ≤ h ∧ h ≤ lo + 2
  | .grp _ t => t.r2
  | .look _ _ t _ => t.r2
  | _ => True
def Co.nd : Co → Nat
  | .seq a b => a.nd + b.nd + 1
  | .alt a b => a.nd + b.nd + 1
  | .ne a => a.nd + 1
  | .star a _ => a.nd + 1
  | _ => 1
/-- the numbers from g to below k -/
def rgN (g k : Nat) : List Nat := List.range' g (k - g)
theorem rgN_app {a b c : Nat} (h1 : a ≤ b) (h2 : b ≤ c) : rgN a b ++ rgN b c = rgN a c := by
  unfold rgN
  have e := List.range'_append_1 (s := a) (m := b - a) (n := c - b)
  rw [show a + (b - a) = b by omega] at e
  rw [e]
  congr 1
  omega
theorem rgN_nil {a : Nat} : rgN a a = [] := by simp [rgN]
theorem rgN_cons {a b : Nat} (h : a < b) : a :: rgN (a + 1) b = rgN a b := by
  have : rgN a (a + 1) = [a] := by simp [rgN]
  rw [← rgN_app (a := a) (b := a + 1) (c := b) (by omega) (by omega), this]; rfl
theorem rgN_lt {a b : Nat} : (rgN a b).Pairwise (· < ·) := List.pairwise_lt_range' (s := a) (n := b - a)
/-- sets in their one form, of a hundred ranges at most -/
def setOk (ps : List (Int × Int)) : Prop := ps.length ≤ 100 ∧ Canon ps ∧ ∀ x : Int, inP ps x = true → 0 ≤ x ∧ x < 128
theorem setOk_of {ps : List (Int × Int)} (h : ps.length ≤ 100) (hc : Canon ps) (hb : ∀ p ∈ ps, 0 ≤ p.1 ∧ p.2 ≤ 128) : setOk ps := ⟨h, hc, fun x hx => by
  obtain ⟨p, hp, h1, h2⟩ := inP_iff.mp hx
  have := hb p hp
  omega⟩
def Pt.pl : Pt → Prop
  | .set ps => setOk ps
  | .seq a b => a.pl ∧ b.pl
  | .alt a b => a.pl ∧ b.pl
  | .rep t _ _ _ => t.pl
  | .grp _ t => t.pl
  | .look _ _ t _ => t.pl
  | .anchor s => ancOk s
  | _ => True
/-- looks without numbers -/
def Pt.bare : Pt → Prop
  | .seq a b => a.bare ∧ b.bare
  | .alt a b => a.bare ∧ b.bare
  | .rep t _ _ _ => t.bare
  | .grp _ t => t.bare
  | .look _ _ t k => t.bare ∧ k = none
  | _ => True
/-- a drawn tree: its height, its groups from g to below g' -/
structure Gen (dep g g' : Nat) (t : Pt) : Prop where
  ht : t.ht ≤ dep
  r2 : t.r2
  pl : t.pl
  ba : t.bare
  le : g ≤ g'
  gs : t.grps = rgN g g'
theorem Gen.up {d d' g g' : Nat} {t : Pt} (h : Gen d g g' t) (hd : d ≤ d') : Gen d' g g' t := ⟨by have := h.ht; omega, h.r2, h.pl, h.ba, h.le, h.gs⟩
theorem Gen.set {d g : Nat} {ps : List (Int × Int)} (h : setOk ps) : Gen d g g (.set ps) := ⟨Nat.zero_le _, trivial, h, trivial, Nat.le_refl _, rgN_nil.symm⟩
theorem Gen.empty {d g : Nat} : Gen d g g .empty := ⟨Nat.zero_le _, trivial, trivial, trivial, Nat.le_refl _, rgN_nil.symm⟩
theorem Gen.anchor {d g : Nat} {s : Str} (h : ancOk s) : Gen d g g (.anchor s) := ⟨Nat.zero_le _, trivial, h, trivial, Nat.le_refl _, rgN_nil.symm⟩
theorem Gen.seq {d g g1 g2 : Nat} {a b : Pt} (h0 : 0 < d) (h : Gen (d - 1) g g1 a) (h' : Gen (d - 1) g1 g2 b) : Gen d g g2 (.seq a b) :=
  ⟨by have := h.ht; have := h'.ht; show max a.ht b.ht + 1 ≤ d; omega, ⟨h.r2, h'.r2⟩, ⟨h.pl, h'.pl⟩, ⟨h.ba, h'.ba⟩, Nat.le_trans h.le h'.le, by show a.grps ++ b.grps = _; rw [h.gs, h'.gs, rgN_app h.le h'.le]⟩
theorem Gen.alt {d g g1 g2 : Nat} {a b : Pt} (h0 : 0 < d) (h : Gen (d - 1) g g1 a) (h' : Gen (d - 1) g1 g2 b) : Gen d g g2 (.alt a b) :=
  ⟨by have := h.ht; have := h'.ht; show max a.ht b.ht + 1 ≤ d; omega, ⟨h.r2, h'.r2⟩, ⟨h.pl, h'.pl⟩, ⟨h.ba, h'.ba⟩, Nat.le_trans h.le h'.le, by show a.grps ++ b.grps = _; rw [h.gs, h'.gs, rgN_app h.le h'.le]⟩
theorem Gen.rep {d g g' : Nat} {t : Pt} {lo : Nat} {hi : Option Nat} {z : Bool} (h0 : 0 < d) (h : Gen (d - 1) g g' t) (h1 : lo ≤ 2) (h2 : ∀ k, hi = some k → lo ≤ k ∧ k ≤ lo + 2) : Gen d g g' (.rep t lo hi z) :=
  ⟨by have := h.ht; show t.ht + 1 ≤ d; omega, ⟨h.r2, h1, h2⟩, h.pl, h.ba, h.le, h.gs⟩
theorem Gen.grp {d g g' : Nat} {t : Pt} (h0 : 0 < d) (h : Gen (d - 1) (g + 1) g' t) : Gen d g g' (.grp g t) :=
  ⟨by have := h.ht; show t.ht + 1 ≤ d; omega, h.r2, h.pl, h.ba, by have := h.le; omega, by show g :: t.grps = _; rw [h.gs, rgN_cons (by have := h.le; omega)]⟩
theorem Gen.look {d g g' : Nat} {t : Pt} {a p : Bool} (h0 : 0 < d) (h : Gen (d - 1) g g' t) : Gen d g g' (.look a p t none) :=
  ⟨by have := h.ht; show t.ht + 1 ≤ d; omega, h.r2, h.pl, ⟨h.ba, rfl⟩, h.le, h.gs⟩
theorem Gen.pw {d g g' : Nat} {t : Pt} (h : Gen d g g' t) : t.grps.Pairwise (· < ·) := by rw [h.gs]; exact rgN_lt
theorem pyo_str {n : Nat} {s : Str} (h : PyData.strOk s = true) : PyOk n (.str s) (.str s) := ⟨rfl, by simp [PyData.canLay0, h], by simp [PyData.depth]⟩
theorem pyo_l {n : Nat} (l : List (D × PyData)) (h : ∀ x ∈ l, PyOk n x.1 x.2) : PyOk (n + 1) (.tup (l.map Prod.fst)) (.tuple (l.map Prod.snd)) := pyo_tup h
def csD (c : List (Int × Int)) : D := .tup (c.map pr)
def prG (p : Int × Int) : PyData := .tuple [.int p.1, .int p.2]
def csG (c : List (Int × Int)) : PyData := .tuple (c.map prG)
def onG : Option Nat → PyData
  | none => .none
  | some k => .int k
def trG : Pt → PyData
  | .set ps => .tuple [.str "set", csG ps]
  | .empty => .tuple [.str "empty"]
  | .anchor s => .tuple [.str "anchor", .str s]
  | .seq a b => .tuple [.str "sequence", trG a, trG b]
  | .alt a b => .tuple [.str "choice", trG a, trG b]
  | .rep t lo hi g => .tuple [.str "repeat", trG t, .int lo, onG hi, .bool g]
  | .grp n t => .tuple [.str "group", .int n, trG t]
  | .look a p t none => .tuple [.str "look", .bool a, .bool p, trG t]
  | .look a p t (some k) => .tuple [.str "look", .bool a, .bool p, trG t, .int k]
theorem pyo_pr {n : Nat} (p : Int × Int) : PyOk (n + 1) (pr p) (prG p) := pyo_2 pyo_int pyo_int
theorem pyo_cs {n : Nat} (c : List (Int × Int)) : PyOk (n + 2) (csD c) (csG c) := pyo_tup fun p _ => pyo_pr p
theorem pyo_on {n : Nat} (o : Option Nat) : PyOk n (onD o) (onG o) := by cases o <;> first | exact pyo_non | exact pyo_int
theorem pyo_tr : ∀ {t : Pt}, t.pl → PyOk (t.ht + 3) (ptD t) (trG t)
  | .set ps, _ => pyo_2 (pyo_str (by decide +kernel)) (pyo_cs ps)
  | .empty, _ => pyo_l (n := 2) [(.str "empty", .str "empty")] (by intro x hx; rw [List.mem_singleton.mp hx]; exact pyo_str (by decide +kernel))
  | .anchor s, h => by
    have : PyData.strOk s = true := by
      unfold Pt.pl ancOk at h
      rcases h with h | h | h | h | h | h <;> (subst h; decide +kernel)
    exact pyo_2 (pyo_str (by decide +kernel)) (pyo_str this)
  | .seq a b, h => by
    have h1 := (pyo_tr h.1).up (m := max a.ht b.ht + 3) (by omega)
    have h2 := (pyo_tr h.2).up (m := max a.ht b.ht + 3) (by omega)
    exact pyo_3 (pyo_str (by decide +kernel)) h1 h2
  | .alt a b, h => by
    have h1 := (pyo_tr h.1).up (m := max a.ht b.ht + 3) (by omega)
    have h2 := (pyo_tr h.2).up (m := max a.ht b.ht + 3) (by omega)
    exact pyo_3 (pyo_str (by decide +kernel)) h1 h2
  | .rep t lo hi g, h => by
    refine pyo_l (n := t.ht + 3) [(.str "repeat", .str "repeat"), (ptD t, trG t), (.int lo, .int lo), (onD hi, onG hi), (.bl g, .bool g)] ?_
    intro x hx
    simp only [List.mem_cons, List.not_mem_nil, or_false] at hx
    rcases hx with rfl | rfl | rfl | rfl | rfl
    · exact pyo_str (by decide +kernel)
    · exact pyo_tr (t := t) h
    · exact pyo_int
    · exact pyo_on _
    · exact pyo_bl
  | .grp n t, h => pyo_3 (pyo_str (by decide +kernel)) pyo_int (pyo_tr (t := t) h)
  | .look a p t none, h => by
    refine pyo_l (n := t.ht + 3) [(.str "look", .str "look"), (.bl a, .bool a), (.bl p, .bool p), (ptD t, trG t)] ?_
    intro x hx
    simp only [List.mem_cons, List.not_mem_nil, or_false] at hx
    rcases hx with rfl | rfl | rfl | rfl
    · exact pyo_str (by decide +kernel)
    · exact pyo_bl
    · exact pyo_bl
    · exact pyo_tr (t := t) h
  | .look a p t (some k), h => by
    refine pyo_l (n := t.ht + 3) [(.str "look", .str "look"), (.bl a, .bool a), (.bl p, .bool p), (ptD t, trG t), (.int k, .int k)] ?_
    intro x hx
    simp only [List.mem_cons, List.not_mem_nil, or_false] at hx
    rcases hx with rfl | rfl | rfl | rfl | rfl
    · exact pyo_str (by decide +kernel)
    · exact pyo_bl
    · exact pyo_bl
    · exact pyo_tr (t := t) h
    · exact pyo_int
theorem eqv_str (a b : Str) : PyData.eqv (.str a) (.str b) = decide (a = b) := by simp only [PyData.eqv]; exact beq_dec a b
theorem eqv_pr (p q : Int × Int) : PyData.eqv (prG p) (prG q) = decide (p = q) := by
  obtain ⟨a, b⟩ := p; obtain ⟨c, d⟩ := q
  unfold prG
  rw [PyData.eqv, PyData.eqvAll, PyData.eqvAll, PyData.eqvAll, eqv_int, eqv_int]
  by_cases h1 : a = c <;> by_cases h2 : b = d <;> simp [h1, h2]
theorem eqv_cs (c d : List (Int × Int)) : PyData.eqv (csG c) (csG d) = decide (c = d) := eqv_tup eqv_pr c d
theorem eqv_on (a b : Option Nat) : PyData.eqv (onG a) (onG b) = decide (a = b) := by
  cases a with
  | none => cases b <;> simp [onG, PyData.eqv]
  | some x =>
    cases b with
    | none => simp [onG, PyData.eqv]
    | some y =>
      simp only [onG]
      rw [eqv_int]
      by_cases h : x = y
      · simp [h]
      · have : ¬ ((x : Int) = (y : Int)) := by omega
        simp [h, this]
noncomputable instance decPt : DecidableEq Pt := fun _ _ => Classical.propDecidable _
def Pt.nm : Pt → Str
  | .set _ => "set" | .empty => "empty" | .anchor _ => "anchor" | .seq _ _ => "sequence" | .alt _ _ => "choice" | .rep _ _ _ _ => "repeat" | .grp _ _ => "group" | .look _ _ _ _ => "look"
theorem trG_nm (t : Pt) : ∃ l, trG t = .tuple (.str t.nm :: l) := by
  cases t with
  | look a p t k => cases k <;> exact ⟨_, rfl⟩
  | _ => exact ⟨_, rfl⟩
theorem eqv_nm {t u : Pt} (h : ¬ t.nm = u.nm) : PyData.eqv (trG t) (trG u) = decide (t = u) := by
  obtain ⟨l, e1⟩ := trG_nm t
  obtain ⟨k, e2⟩ := trG_nm u
  have : ¬ t = u := fun e => h (by rw [e])
  rw [e1, e2, PyData.eqv, PyData.eqvAll, eqv_str]
  simp [h, this]
theorem eqv_tr : ∀ (t u : Pt), PyData.eqv (trG t) (trG u) = decide (t = u) := by
  intro t
  induction t with
  | set ps =>
    intro u
    cases u with
    | set qs => simp only [trG, PyData.eqv, PyData.eqvAll]; rw [eqv_cs]; simp
    | _ => exact eqv_nm (by simp only [Pt.nm]; decide +kernel)
  | empty =>
    intro u
    cases u with
    | empty => simp [trG, PyData.eqv, PyData.eqvAll]
    | _ => exact eqv_nm (by simp only [Pt.nm]; decide +kernel)
  | anchor s =>
    intro u
    cases u with
    | anchor s => simp [trG, PyData.eqv, PyData.eqvAll, beq_dec]
    | _ => exact eqv_nm (by simp only [Pt.nm]; decide +kernel)
  | seq a b iha ihb =>
    intro u
    cases u with
    | seq c d => simp only [trG, PyData.eqv, PyData.eqvAll]; rw [iha, ihb]; simp
    | _ => exact eqv_nm (by simp only [Pt.nm]; decide +kernel)
  | alt a b iha ihb =>
    intro u
    cases u with
    | alt c d => simp only [trG, PyData.eqv, PyData.eqvAll]; rw [iha, ihb]; simp
    | _ => exact eqv_nm (by simp only [Pt.nm]; decide +kernel)
  | rep t lo hi g ih =>
    intro u
    cases u with
    | rep t' lo' hi' g' =>
      simp only [trG, PyData.eqv, PyData.eqvAll]
      rw [ih, eqv_on]
      by_cases h1 : lo = lo'
      · simp [h1, beq_dec]
      · have : ¬ ((lo : Int) = (lo' : Int)) := by omega
        simp [h1, this]
    | _ => exact eqv_nm (by simp only [Pt.nm]; decide +kernel)
  | grp n t ih =>
    intro u
    cases u with
    | grp n' t' =>
      simp only [trG, PyData.eqv, PyData.eqvAll]
      rw [ih]
      by_cases h1 : n = n'
      · simp [h1]
      · have : ¬ ((n : Int) = (n' : Int)) := by omega
        simp [h1, this]
    | _ => exact eqv_nm (by simp only [Pt.nm]; decide +kernel)
  | look a p t k ih =>
    intro u
    cases u with
    | look a' p' t' k' =>
      cases k with
      | none =>
        cases k' with
        | none => simp only [trG, PyData.eqv, PyData.eqvAll]; rw [ih]; simp [beq_dec]
        | some k' => simp [trG, PyData.eqvAll, PyData.eqv]
      | some k =>
        cases k' with
        | none => simp [trG, PyData.eqvAll, PyData.eqv]
        | some k' =>
          simp only [trG, PyData.eqv, PyData.eqvAll]
          rw [ih]
          by_cases h1 : k = k'
          · simp [h1, beq_dec]
          · have : ¬ ((k : Int) = (k' : Int)) := by omega
            simp [h1, this]
    | _ => exact eqv_nm (by simp only [Pt.nm]; decide +kernel)
/-- == of trees -/
theorem eq_tr {t u : Pt} {M : Md} {Q : Bool → Prop} (h1 : t.pl) (h2 : u.pl) (h3 : t.ht ≤ 60) (h4 : u.ht ≤ 60) : cpD .eq (ptD t) (ptD u) M Q = Q (decide (t = u)) := by
  rw [eq_py (pyo_tr h1) (pyo_tr h2) (by omega) (by omega), eqv_tr]
abbrev NV : Pt := .set []
noncomputable def unS (A B : List (Int × Int)) : List (Int × Int) := Classical.epsilon fun L => Canon L ∧ ∀ x : Int, inP L x = true ↔ inP A x = true ∨ inP B x = true
theorem unS_eq {A B L : List (Int × Int)} (h : Canon L) (hx : ∀ x : Int, inP L x = true ↔ inP A x = true ∨ inP B x = true) : L = unS A B := by
  have := Classical.epsilon_spec (p := fun L => Canon L ∧ ∀ x : Int, inP L x = true ↔ inP A x = true ∨ inP B x = true) ⟨L, h, hx⟩
  exact canon_eq h this.1 fun x => by rw [Bool.eq_iff_iff, hx]; exact (this.2 x).symm
theorem rg_ex (bt : Int → Prop) : ∀ n : Nat, ∃ L s, Rg bt n L s
  | 0 => ⟨[], -1, Rg.start⟩
  | n + 1 => by
    obtain ⟨L, s, h⟩ := rg_ex bt n
    rw [show ((n + 1 : Nat) : Int) = (n : Int) + 1 by omega]
    by_cases hb : bt n <;> by_cases hs : s < 0
    · exact ⟨_, _, h.open_ hs hb (by omega)⟩
    · exact ⟨_, _, h.go hs hb⟩
    · exact ⟨_, _, h.out hs hb⟩
    · exact ⟨_, _, h.close hs hb⟩
theorem can_ex (f : Int → Prop) (h : ∀ x, f x → 0 ≤ x ∧ x < 128) : ∃ L, Canon L ∧ ∀ x, inP L x = true ↔ f x := by
  obtain ⟨L, s, r⟩ := rg_ex f 129
  have hs : s < 0 := by
    rcases Decidable.em (s < 0) with z | z
    · exact z
    · have hu := r.u
      have := r.t 128 (by omega) (by omega) (by omega)
      have := h _ this
      omega
  refine ⟨L, r.c, fun x => ?_⟩
  rw [r.i x, if_pos hs]
  exact ⟨fun z => z.2.2, fun z => by have := h x z; exact ⟨this.1, by omega, z⟩⟩
theorem unS_ok {A B : List (Int × Int)} (hA : setOk A) (hB : setOk B) : setOk (unS A B) ∧ ∀ x : Int, inP (unS A B) x = true ↔ inP A x = true ∨ inP B x = true := by
  have hb : ∀ x : Int, inP A x = true ∨ inP B x = true → 0 ≤ x ∧ x < 128 := fun x z => z.elim (hA.2.2 x) (hB.2.2 x)
  have := Classical.epsilon_spec (p := fun L => Canon L ∧ ∀ x : Int, inP L x = true ↔ inP A x = true ∨ inP B x = true) (can_ex _ hb)
  have h2 : ∀ x : Int, inP (unS A B) x = true → 0 ≤ x ∧ x < 128 := fun x z => hb x ((this.2 x).mp z)
  exact ⟨⟨by have := canon_64 this.1 h2; exact Nat.le_trans this (by decide), this.1, h2⟩, this.2⟩
/-- inner nodes -/
def Pt.inn : Pt → Nat
  | .seq a b => a.inn + b.inn + 1
  | .alt a b => a.inn + b.inn + 1
  | .rep t _ _ _ => t.inn + 1
  | .grp _ t => t.inn + 1
  | .look _ _ t _ => t.inn + 1
  | _ => 0
theorem ht_inn : ∀ t : Pt, t.ht ≤ t.inn
  | .seq a b => by have := ht_inn a; have := ht_inn b; show max a.ht b.ht + 1 ≤ a.inn + b.inn + 1; omega
  | .alt a b => by have := ht_inn a; have := ht_inn b; show max a.ht b.ht + 1 ≤ a.inn + b.inn + 1; omega
  | .rep t _ _ _ => by have := ht_inn t; show t.ht + 1 ≤ t.inn + 1; omega
  | .grp _ t => by have := ht_inn t; show t.ht + 1 ≤ t.inn + 1; omega
  | .look _ _ t _ => by have := ht_inn t; show t.ht + 1 ≤ t.inn + 1; omega
  | .set _ | .empty | .anchor _ => Nat.le_refl _
theorem grps_inn : ∀ t : Pt, t.grps.length ≤ t.inn
  | .seq a b => by have := grps_inn a; have := grps_inn b; show (a.grps ++ b.grps).length ≤ a.inn + b.inn + 1; rw [List.length_append]; omega
  | .alt a b => by have := grps_inn a; have := grps_inn b; show (a.grps ++ b.grps).length ≤ a.inn + b.inn + 1; rw [List.length_append]; omega
  | .rep t _ _ _ => by have := grps_inn t; show t.grps.length ≤ t.inn + 1; omega
  | .grp n t => by have := grps_inn t; show (n :: t.grps).length ≤ t.inn + 1; rw [List.length_cons]; omega
  | .look _ _ t _ => by have := grps_inn t; show t.grps.length ≤ t.inn + 1; omega
  | .set _ | .empty | .anchor _ => Nat.le_refl _
/-- nodes in all -/
def Pt.sz : Pt → Nat
  | .seq a b => a.sz + b.sz + 1
  | .alt a b => a.sz + b.sz + 1
  | .rep t _ _ _ => t.sz + 1
  | .grp _ t => t.sz + 1
  | .look _ _ t _ => t.sz + 1
  | _ => 1
theorem sz_inn : ∀ t : Pt, t.sz ≤ 2 * t.inn + 1
  | .seq a b => by have := sz_inn a; have := sz_inn b; show a.sz + b.sz + 1 ≤ 2 * (a.inn + b.inn + 1) + 1; omega
  | .alt a b => by have := sz_inn a; have := sz_inn b; show a.sz + b.sz + 1 ≤ 2 * (a.inn + b.inn + 1) + 1; omega
  | .rep t _ _ _ => by have := sz_inn t; show t.sz + 1 ≤ 2 * (t.inn + 1) + 1; omega
  | .grp _ t => by have := sz_inn t; show t.sz + 1 ≤ 2 * (t.inn + 1) + 1; omega
  | .look _ _ t _ => by have := sz_inn t; show t.sz + 1 ≤ 2 * (t.inn + 1) + 1; omega
  | .set _ | .empty | .anchor _ => Nat.le_refl _
/-- small counts of repetitions -/
def Pt.ct : Pt → Prop
  | .seq a b => a.ct ∧ b.ct
  | .alt a b => a.ct ∧ b.ct
  | .rep t lo hi _ => t.ct ∧ lo ≤ 100 ∧ ∀ k, hi = some k → k ≤ 100
  | .grp _ t => t.ct
  | .look _ _ t k => t.ct ∧ k = none
  | _ => True
/-- in order: sets, anchors, counts -/
structure Pt.wf (t : Pt) : Prop where
  pl : t.pl
  ct : t.ct
theorem wf_seq {a b : Pt} : (Pt.seq a b).wf ↔ a.wf ∧ b.wf := ⟨fun h => ⟨⟨h.pl.1, h.ct.1⟩, ⟨h.pl.2, h.ct.2⟩⟩, fun h => ⟨⟨h.1.pl, h.2.pl⟩, ⟨h.1.ct, h.2.ct⟩⟩⟩
theorem wf_alt {a b : Pt} : (Pt.alt a b).wf ↔ a.wf ∧ b.wf := ⟨fun h => ⟨⟨h.pl.1, h.ct.1⟩, ⟨h.pl.2, h.ct.2⟩⟩, fun h => ⟨⟨h.1.pl, h.2.pl⟩, ⟨h.1.ct, h.2.ct⟩⟩⟩
theorem wf_grp {n : Nat} {t : Pt} : (Pt.grp n t).wf ↔ t.wf := ⟨fun h => ⟨h.pl, h.ct⟩, fun h => ⟨h.pl, h.ct⟩⟩
theorem wf_rep {t : Pt} {lo : Nat} {hi : Option Nat} {g : Bool} : (Pt.rep t lo hi g).wf ↔ t.wf ∧ lo ≤ 100 ∧ ∀ k, hi = some k → k ≤ 100 := ⟨fun h => ⟨⟨h.pl, h.ct.1⟩, h.ct.2⟩, fun h => ⟨h.1.pl, h.1.ct, h.2⟩⟩
theorem wf_look {a p : Bool} {t : Pt} {k : Option Nat} : (Pt.look a p t k).wf ↔ t.wf ∧ k = none := ⟨fun h => ⟨⟨h.pl, h.ct.1⟩, h.ct.2⟩, fun h => ⟨h.1.pl, h.1.ct, h.2⟩⟩
theorem wf_nv : NV.wf := ⟨⟨by decide, trivial, fun x h => by cases h⟩, trivial⟩
theorem wf_emp : Pt.empty.wf := ⟨trivial, trivial⟩
/-- two trees one behind the other -/
noncomputable def sj : Pt → Pt → Pt
  | .seq x y, b => sj x (sj y b)
  | a, b => if a = .empty then b else if b = .empty then a else if (a = NV ∧ b.grps = []) ∨ (b = NV ∧ a.grps = []) then NV else .seq a b
theorem sj_seq {x y b : Pt} : sj (.seq x y) b = sj x (sj y b) := rfl
theorem sj_else {a b : Pt} (h : ∀ x y, a ≠ .seq x y) : sj a b = if a = .empty then b else if b = .empty then a else if (a = NV ∧ b.grps = []) ∨ (b = NV ∧ a.grps = []) then NV else .seq a b := by
  cases a <;> first | rfl | exact absurd rfl (h _ _)
structure Jn (a b r : Pt) : Prop where
  wf : r.wf
  inn : r.inn ≤ a.inn + b.inn + 1
  grps : r.grps = a.grps ++ b.grps
theorem sj_jn : ∀ {a b : Pt}, a.wf → b.wf → Jn a b (sj a b) := by
  intro a
  induction a with
  | seq x y ihx ihy =>
    intro b ha hb
    have h2 := ihy (wf_seq.mp ha).2 hb
    have h1 := ihx (wf_seq.mp ha).1 h2.wf
    rw [sj_seq]
    refine ⟨h1.wf, ?_, ?_⟩
    · have := h1.inn; have := h2.inn; show _ ≤ (x.inn + y.inn + 1) + b.inn + 1; omega
    · rw [h1.grps, h2.grps, ← List.append_assoc]; rfl
  | _ =>
    intro b ha hb
    rw [sj_else (by intro _ _ h; cases h)]
    split
    · next e => rw [e]; exact ⟨hb, by show _ ≤ 0 + _ + 1; omega, rfl⟩
    split
    · next e => rw [e]; exact ⟨ha, by show _ ≤ _ + 0 + 1; omega, (List.append_nil _).symm⟩
    split
    · next e =>
      refine ⟨wf_nv, by show 0 ≤ _; omega, ?_⟩
      rcases e with ⟨e1, e2⟩ | ⟨e1, e2⟩
      · rw [e1, e2]; rfl
      · rw [e1, e2]; rfl
    · exact ⟨wf_seq.mpr ⟨ha, hb⟩, by show _ + _ + 1 ≤ _; omega, rfl⟩
/-- the alternatives -/
def alts : Pt → List Pt
  | .alt x y => x :: alts y
  | t => [t]
theorem alts_else {a : Pt} (h : ∀ x y, a ≠ .alt x y) : alts a = [a] := by
  cases a <;> first | rfl | exact absurd rfl (h _ _)
theorem alts_ne (t : Pt) : ∃ x r, alts t = x :: r := by
  cases t <;> exact ⟨_, _, rfl⟩
/-- the choice of them -/
def choF : List Pt → Pt
  | [] => .empty
  | [t] => t
  | t :: u :: r => .alt t (choF (u :: r))
theorem choF_cons {t : Pt} {r : List Pt} (h : r ≠ []) : choF (t :: r) = .alt t (choF r) := by
  cases r with
  | nil => exact absurd rfl h
  | cons u r => rfl
theorem choF_alts : ∀ t : Pt, choF (alts t) = t := by
  intro t
  induction t with
  | alt x y _ ih =>
    obtain ⟨u, r, e⟩ := alts_ne y
    show choF (x :: alts y) = _
    rw [choF_cons (by rw [e]; simp), ih]
  | _ => rfl
theorem choF_wf : ∀ {l : List Pt}, l ≠ [] → (∀ t ∈ l, t.wf) → (choF l).wf
  | [], h, _ => absurd rfl h
  | [t], _, h => h t List.mem_cons_self
  | t :: u :: r, _, h => wf_alt.mpr ⟨h t List.mem_cons_self, choF_wf (by simp) fun x hx => h x (List.mem_cons_of_mem _ hx)⟩
def sumI (l : List Pt) : Nat := (l.map fun t => t.inn + 1).sum
theorem sumI_cons {t : Pt} {l : List Pt} : sumI (t :: l) = t.inn + 1 + sumI l := by simp [sumI]
theorem choF_inn : ∀ {l : List Pt}, l ≠ [] → (choF l).inn + 1 = sumI l
  | [], h => absurd rfl h
  | [t], _ => by simp [sumI, choF]
  | t :: u :: r, _ => by
    rw [sumI_cons, ← choF_inn (l := u :: r) (by simp)]
    show (t.inn + (choF (u :: r)).inn + 1) + 1 = _
    omega
theorem choF_grps : ∀ {l : List Pt}, (choF l).grps = (l.map Pt.grps).flatten
  | [] => rfl
  | [t] => by simp [choF]
  | t :: u :: r => by
    show t.grps ++ (choF (u :: r)).grps = _
    rw [choF_grps (l := u :: r)]; rfl
theorem alts_inn (t : Pt) : sumI (alts t) = t.inn + 1 := by
  obtain ⟨x, r, e⟩ := alts_ne t
  rw [← choF_inn (by rw [e]; simp), choF_alts]
theorem alts_grps (t : Pt) : ((alts t).map Pt.grps).flatten = t.grps := by rw [← choF_grps, choF_alts]
theorem alts_wf : ∀ {t : Pt}, t.wf → ∀ x ∈ alts t, x.wf := by
  intro t
  induction t with
  | alt x y _ ih =>
    intro h z hz
    rcases List.mem_cons.mp hz with rfl | hz
    · exact (wf_alt.mp h).1
    · exact ih (wf_alt.mp h).2 z hz
  | _ => intro h z hz; rw [List.mem_singleton.mp hz]; exact h
/-- the alternatives stand in a row: none of them but the last is a choice's rest -/
def Pt.leaf : Pt → Bool
  | .set _ => true
  | .anchor _ => true
  | _ => false
/-- two that are one -/
noncomputable def mrg : Pt → Pt → Option Pt
  | .set A, .set B => some (.set (unS A B))
  | .seq x y, .seq x' z => if x = x' ∧ x.leaf = true then some (.seq x (.alt y z)) else none
  | _, _ => none
theorem mrg_jn {a b r : Pt} (ha : a.wf) (hb : b.wf) (h : mrg a b = some r) : Jn a b r := by
  unfold mrg at h
  split at h
  · cases h
    exact ⟨⟨(unS_ok ha.pl hb.pl).1, trivial⟩, by show 0 ≤ _; omega, rfl⟩
  · next x y x' z =>
    split at h
    · next e =>
      cases h
      obtain ⟨rfl, e⟩ := e
      have hx : x.grps = [] ∧ x.inn = 0 := by cases x <;> first | exact ⟨rfl, rfl⟩ | cases e
      refine ⟨wf_seq.mpr ⟨(wf_seq.mp ha).1, wf_alt.mpr ⟨(wf_seq.mp ha).2, (wf_seq.mp hb).2⟩⟩, ?_, ?_⟩
      · show x.inn + (y.inn + z.inn + 1) + 1 ≤ (x.inn + y.inn + 1) + (x.inn + z.inn + 1) + 1
        omega
      · show x.grps ++ (y.grps ++ z.grps) = (x.grps ++ y.grps) ++ (x.grps ++ z.grps)
        rw [hx.1]; rfl
    · cases h
  · cases h
/-- two trees, one or the other -/
noncomputable def cjE (a b : Pt) : Pt :=
  match alts b with
  | [] => a
  | o :: r => match mrg a o with
    | some m => choF (m :: r)
    | none => choF (a :: if a.grps = [] then (o :: r).filter (fun t => decide (t ≠ a)) else o :: r)
noncomputable def cj : Pt → Pt → Pt
  | .alt x y, b => cj x (cj y b)
  | a, b => if a = NV then b else if b = NV then a else cjE a b
theorem cj_alt {x y b : Pt} : cj (.alt x y) b = cj x (cj y b) := rfl
theorem cj_else {a b : Pt} (h : ∀ x y, a ≠ .alt x y) : cj a b = if a = NV then b else if b = NV then a else cjE a b := by
  cases a <;> first | rfl | exact absurd rfl (h _ _)
theorem sumI_filter {p : Pt → Bool} : ∀ l : List Pt, sumI (l.filter p) ≤ sumI l
  | [] => Nat.le_refl _
  | t :: l => by
    have := sumI_filter (p := p) l
    rw [List.filter_cons]
    split
    · rw [sumI_cons, sumI_cons]; omega
    · rw [sumI_cons]; omega
theorem grps_filter {a : Pt} (h : a.grps = []) : ∀ l : List Pt, ((l.filter fun t => decide (t ≠ a)).map Pt.grps).flatten = (l.map Pt.grps).flatten
  | [] => rfl
  | t :: l => by
    rw [List.filter_cons, List.map_cons, List.flatten_cons, ← grps_filter h l]
    by_cases e : t = a
    · rw [if_neg (by simp [e]), e, h]; rfl
    · rw [if_pos (by simp [e])]; rfl
theorem cjE_jn {a b : Pt} (ha : a.wf) (hb : b.wf) : Jn a b (cjE a b) := by
  obtain ⟨o, r, e⟩ := alts_ne b
  have hw := alts_wf hb
  have hi := alts_inn b
  have hg := alts_grps b
  unfold cjE
  rw [e] at hw hi hg ⊢
  dsimp only
  rw [sumI_cons] at hi
  rw [List.map_cons, List.flatten_cons] at hg
  cases hm : mrg a o with
  | some m =>
    dsimp only
    have j := mrg_jn ha (hw o List.mem_cons_self) hm
    refine ⟨choF_wf (by simp) fun x hx => ?_, ?_, ?_⟩
    · rcases List.mem_cons.mp hx with rfl | hx
      · exact j.wf
      · exact hw x (List.mem_cons_of_mem _ hx)
    · have := choF_inn (l := m :: r) (by simp)
      rw [sumI_cons] at this
      have := j.inn
      omega
    · rw [choF_grps, List.map_cons, List.flatten_cons, j.grps, ← hg, List.append_assoc]
  | none =>
    dsimp only
    refine ⟨choF_wf (by simp) fun x hx => ?_, ?_, ?_⟩
    · rcases List.mem_cons.mp hx with rfl | hx
      · exact ha
      · split at hx
        · exact hw x (List.mem_filter.mp hx).1
        · exact hw x hx
    · have := choF_inn (l := a :: if a.grps = [] then (o :: r).filter (fun t => decide (t ≠ a)) else o :: r) (by simp)
      rw [sumI_cons] at this
      have h2 : sumI (if a.grps = [] then (o :: r).filter (fun t => decide (t ≠ a)) else o :: r) ≤ sumI (o :: r) := by
        split
        · exact sumI_filter _
        · exact Nat.le_refl _
      rw [sumI_cons] at h2
      omega
    · rw [choF_grps, List.map_cons, List.flatten_cons]
      split
      · next e => rw [grps_filter e, List.map_cons, List.flatten_cons, hg]
      · rw [List.map_cons, List.flatten_cons, hg]
theorem cj_jn : ∀ {a b : Pt}, a.wf → b.wf → Jn a b (cj a b) := by
  intro a
  induction a with
  | alt x y ihx ihy =>
    intro b ha hb
    have h2 := ihy (wf_alt.mp ha).2 hb
    have h1 := ihx (wf_alt.mp ha).1 h2.wf
    rw [cj_alt]
    refine ⟨h1.wf, ?_, ?_⟩
    · have := h1.inn; have := h2.inn; show _ ≤ (x.inn + y.inn + 1) + b.inn + 1; omega
    · rw [h1.grps, h2.grps, ← List.append_assoc]; rfl
  | _ =>
    intro b ha hb
    rw [cj_else (by intro _ _ h; cases h)]
    split
    · next e => rw [e]; exact ⟨hb, by show _ ≤ 0 + _ + 1; omega, rfl⟩
    split
    · next e => rw [e]; exact ⟨ha, by show _ ≤ _ + 0 + 1; omega, (List.append_nil _).symm⟩
    · exact cjE_jn ha hb
/-- a repetition -/
def tailR (t : Pt) (g : Bool) : Bool := match t with
  | .rep _ 0 none g' => decide (g' = g)
  | _ => false
noncomputable def srp (i : Pt) (lo : Nat) (hi : Option Nat) (g : Bool) : Pt :=
  if i = .empty ∨ (i = NV ∧ lo = 0) then .empty else if i = NV then NV
  else if i.grps = [] ∧ hi = some 0 then .empty
  else if i.grps = [] ∧ lo = 1 ∧ hi = some 1 then i
  else if i.grps = [] ∧ tailR i g = true ∧ lo = 0 ∧ hi = none then i
  else .rep i lo hi g
noncomputable def slk (a p : Bool) (i : Pt) : Pt :=
  if i = .empty then (if p = true then .empty else NV) else if i = NV then (if p = true then NV else .empty) else .look a p i none
noncomputable def smp : Pt → Pt
  | .seq a b => sj (smp a) (smp b)
  | .alt a b => cj (smp a) (smp b)
  | .rep t lo hi g => srp (smp t) lo hi g
  | .grp n t => .grp n (smp t)
  | .look a p t _ => slk a p (smp t)
  | .set ps => .set ps
  | .empty => .empty
  | .anchor s => .anchor s
structure Sm (t r : Pt) : Prop where
  wf : r.wf
  inn : r.inn ≤ t.inn
  grps : r.grps = t.grps
theorem smp_ok : ∀ {t : Pt}, t.wf → Sm t (smp t) := by
  intro t
  induction t with
  | seq a b iha ihb =>
    intro h
    have h1 := iha (wf_seq.mp h).1
    have h2 := ihb (wf_seq.mp h).2
    have j := sj_jn h1.wf h2.wf
    exact ⟨j.wf, by have := j.inn; have := h1.inn; have := h2.inn; show _ ≤ a.inn + b.inn + 1; show (sj (smp a) (smp b)).inn ≤ _; omega, by show (sj (smp a) (smp b)).grps = _; rw [j.grps, h1.grps, h2.grps]; rfl⟩
  | alt a b iha ihb =>
    intro h
    have h1 := iha (wf_alt.mp h).1
    have h2 := ihb (wf_alt.mp h).2
    have j := cj_jn h1.wf h2.wf
    exact ⟨j.wf, by have := j.inn; have := h1.inn; have := h2.inn; show _ ≤ a.inn + b.inn + 1; show (cj (smp a) (smp b)).inn ≤ _; omega, by show (cj (smp a) (smp b)).grps = _; rw [j.grps, h1.grps, h2.grps]; rfl⟩
  | rep t lo hi g ih =>
    intro h
    obtain ⟨h0, hc⟩ := wf_rep.mp h
    have h1 := ih h0
    have hi' := h1.inn
    show Sm _ (srp (smp t) lo hi g)
    have hg : (Pt.rep t lo hi g).grps = (smp t).grps := h1.grps.symm
    have hn : (Pt.rep t lo hi g).inn = t.inn + 1 := rfl
    unfold srp
    split
    · next e =>
      have : (smp t).grps = [] := by rcases e with e | ⟨e, _⟩ <;> (rw [e]; rfl)
      exact ⟨wf_emp, Nat.zero_le _, by rw [hg, this]; rfl⟩
    split
    · next e => exact ⟨wf_nv, Nat.zero_le _, by rw [hg, e]⟩
    split
    · next e => exact ⟨wf_emp, Nat.zero_le _, by rw [hg, e.1]; rfl⟩
    split
    · next e => exact ⟨h1.wf, by rw [hn]; omega, by rw [hg]⟩
    split
    · next e => exact ⟨h1.wf, by rw [hn]; omega, by rw [hg]⟩
    · exact ⟨wf_rep.mpr ⟨h1.wf, hc⟩, by show (smp t).inn + 1 ≤ t.inn + 1; omega, by rw [hg]; rfl⟩
  | grp n t ih =>
    intro h
    have h1 := ih (wf_grp.mp h)
    exact ⟨wf_grp.mpr h1.wf, by have := h1.inn; show (smp t).inn + 1 ≤ t.inn + 1; omega, by show n :: (smp t).grps = n :: t.grps; rw [h1.grps]⟩
  | look a p t k ih =>
    intro h
    obtain ⟨h0, hc⟩ := wf_look.mp h
    have h1 := ih h0
    have hi' := h1.inn
    have hg : (Pt.look a p t k).grps = (smp t).grps := h1.grps.symm
    show Sm _ (slk a p (smp t))
    unfold slk
    split
    · next e =>
      split
      · exact ⟨wf_emp, Nat.zero_le _, by rw [hg, e]⟩
      · exact ⟨wf_nv, Nat.zero_le _, by rw [hg, e]; rfl⟩
    split
    · next e =>
      split
      · exact ⟨wf_nv, Nat.zero_le _, by rw [hg, e]⟩
      · exact ⟨wf_emp, Nat.zero_le _, by rw [hg, e]; rfl⟩
    · exact ⟨wf_look.mpr ⟨h1.wf, rfl⟩, by show (smp t).inn + 1 ≤ t.inn + 1; omega, by rw [hg]; rfl⟩
  | set ps => intro h; exact ⟨h, Nat.le_refl _, rfl⟩
  | empty => intro h; exact ⟨h, Nat.le_refl _, rfl⟩
  | anchor s => intro h; exact ⟨h, Nat.le_refl _, rfl⟩
/-- over and over -/
noncomputable def itS : Nat → Pt → Pt
  | 0, t => t
  | n + 1, t => if smp t = t then t else itS n (smp t)
theorem Sm.trans {a b c : Pt} (h : Sm a b) (k : Sm b c) : Sm a c := ⟨k.wf, Nat.le_trans k.inn h.inn, k.grps.trans h.grps⟩
theorem itS_ok : ∀ {n : Nat} {t : Pt}, t.wf → Sm t (itS n t)
  | 0, t, h => ⟨h, Nat.le_refl _, rfl⟩
  | n + 1, t, h => by
    unfold itS
    split
    · exact ⟨h, Nat.le_refl _, rfl⟩
    · exact (smp_ok h).trans (itS_ok (smp_ok h).wf)
theorem seq_D {a b : Pt} : ptD (.seq a b) = .tup [.str "sequence", ptD a, ptD b] := rfl
theorem alt_D {a b : Pt} : ptD (.alt a b) = .tup [.str "choice", ptD a, ptD b] := rfl
theorem emp_D : D.tup [.str "empty"] = ptD .empty := rfl
theorem nv_D : D.tup [.str "set", .tup []] = ptD NV := rfl
def Pt.kd : Pt → Nat
  | .set _ => 0 | .empty => 1 | .anchor _ => 2 | .seq _ _ => 3 | .alt _ _ => 4 | .rep _ _ _ _ => 5 | .grp _ _ => 6 | .look _ _ _ _ => 7
theorem nm_set (t : Pt) : (t.hd = Str.ofString "set") = (t.kd = 0) := by cases t <;> simp only [Pt.hd, Pt.kd] <;> decide +kernel
theorem nm_seq (t : Pt) : (t.hd = Str.ofString "sequence") = (t.kd = 3) := by cases t <;> simp only [Pt.hd, Pt.kd] <;> decide +kernel
theorem nm_alt (t : Pt) : (t.hd = Str.ofString "choice") = (t.kd = 4) := by cases t <;> simp only [Pt.hd, Pt.kd] <;> decide +kernel
theorem nm_rep (t : Pt) : (t.hd = Str.ofString "repeat") = (t.kd = 5) := by cases t <;> simp only [Pt.hd, Pt.kd] <;> decide +kernel
theorem nm_grp (t : Pt) : (t.hd = Str.ofString "group") = (t.kd = 6) := by cases t <;> simp only [Pt.hd, Pt.kd] <;> decide +kernel
theorem kd_seq {t : Pt} : t.kd = 3 → ∃ x y, t = .seq x y := by cases t <;> intro h <;> first | exact ⟨_, _, rfl⟩ | cases h
theorem kd_alt {t : Pt} : t.kd = 4 → ∃ x y, t = .alt x y := by cases t <;> intro h <;> first | exact ⟨_, _, rfl⟩ | cases h
theorem kd_set {t : Pt} : t.kd = 0 → ∃ ps, t = .set ps := by cases t <;> intro h <;> first | exact ⟨_, rfl⟩ | cases h
theorem kd_rep {t : Pt} : t.kd = 5 → ∃ u lo hi g, t = .rep u lo hi g := by cases t <;> intro h <;> first | exact ⟨_, _, _, _, rfl⟩ | cases h
theorem eq_tw {t u : Pt} {M : Md} {Q : Bool → Prop} (h1 : t.wf) (h2 : u.wf) (h3 : t.inn ≤ 60) (h4 : u.inn ≤ 60) : cpD .eq (ptD t) (ptD u) M Q = Q (decide (t = u)) := by
  have := ht_inn t
  have := ht_inn u
  exact eq_tr h1.pl h2.pl (by omega) (by omega)
theorem ne_tw {t u : Pt} {M : Md} {Q : Bool → Prop} (h1 : t.wf) (h2 : u.wf) (h3 : t.inn ≤ 60) (h4 : u.inn ≤ 60) : cpD .ne (ptD t) (ptD u) M Q = Q (decide (t ≠ u)) := by
  show cpD .eq (ptD t) (ptD u) M (fun b => Q (!b)) = _
  rw [eq_tw h1 h2 h3 h4]
  congr 1
  by_cases h : t = u <;> simp [h]
/-- two trees that are joined -/
structure Two (a b : Pt) : Prop where
  wa : a.wf
  wb : b.wf
  inn : a.inn + b.inn + 1 ≤ 60
  gr : (a.grps ++ b.grps).Pairwise (· < ·)
theorem Two.ga {a b : Pt} (h : Two a b) : a.grps.Pairwise (· < ·) := (List.pairwise_append.mp h.gr).1
theorem Two.gb {a b : Pt} (h : Two a b) : b.grps.Pairwise (· < ·) := (List.pairwise_append.mp h.gr).2.1
theorem Two.in_s {x y b : Pt} (h : Two (.seq x y) b) : Two y b := by
  have hi := h.inn
  have hg := h.gr
  have e : (Pt.seq x y).inn = x.inn + y.inn + 1 := rfl
  have eg : (Pt.seq x y).grps = x.grps ++ y.grps := rfl
  rw [eg, List.append_assoc] at hg
  exact ⟨(wf_seq.mp h.wa).2, h.wb, by omega, (List.pairwise_append.mp hg).2.1⟩
theorem Two.in_a {x y b : Pt} (h : Two (.alt x y) b) : Two y b := by
  have hi := h.inn
  have hg := h.gr
  have e : (Pt.alt x y).inn = x.inn + y.inn + 1 := rfl
  have eg : (Pt.alt x y).grps = x.grps ++ y.grps := rfl
  rw [eg, List.append_assoc] at hg
  exact ⟨(wf_alt.mp h.wa).2, h.wb, by omega, (List.pairwise_append.mp hg).2.1⟩
theorem two_out {x y b r : Pt} (hx : x.wf) (j : Jn y b r) (hi : x.inn + y.inn + 1 + b.inn + 1 ≤ 60) (hg : ((x.grps ++ y.grps) ++ b.grps).Pairwise (· < ·)) : Two x r :=
  ⟨hx, j.wf, by have := j.inn; omega, by rw [j.grps, ← List.append_assoc]; exact hg⟩
def t3 (lo : Nat) (hi : Option Nat) (g : Bool) : D := .tup [.int lo, onD hi, .bl g]
theorem t3_eq (lo : Nat) (hi : Option Nat) (g : Bool) : t3 lo hi g = .tup [.int lo, onD hi, .bl g] := rfl
theorem cut_rep {u : D} {lo : Nat} {hi : Option Nat} {g : Bool} {s : Str} : D.tup (cutD [.str s, u, .int lo, onD hi, .bl g] (some 2) none) = t3 lo hi g := rfl
theorem eq_t3 {lo lo' : Nat} {hi hi' : Option Nat} {g g' : Bool} {M : Md} {Q : Bool → Prop} : cpD .eq (t3 lo hi g) (t3 lo' hi' g') M Q = Q (decide (lo = lo' ∧ hi = hi' ∧ g = g')) := by
  rw [t3_eq, t3_eq, eq_py (pyo_3 (n := 0) pyo_int (pyo_on hi) pyo_bl) (pyo_3 (n := 0) pyo_int (pyo_on hi') pyo_bl) (by decide) (by decide)]
  congr 1
  simp only [PyData.eqv, PyData.eqvAll]
  rw [eqv_on]
  by_cases h1 : lo = lo'
  · simp [h1, beq_dec]
  · have : ¬ ((lo : Int) = (lo' : Int)) := by omega
    simp [h1, this]
/-- the digit's promise for a state at any place -/
def sp2k : SpD := fun ds M Q _ => ∃ (ns : List Int) (k : Nat) (a b m : Int) (T : List D), ds = [.scr ns, .ref k, .int m] ∧ M[k]? = some (.lst (.int a :: .int b :: T)) ∧ 0 ≤ a ∧ 0 ≤ b ∧ 0 < m ∧ m < 4611686018427387904 ∧
  ∀ d a' b' : Int, 0 ≤ d → d < m → 0 ≤ a' → 0 ≤ b' → Q (.int d) (M.set k (.lst (.int a' :: .int b' :: T)))
theorem ln2k : ∀ ds M Q E, sp2k ds M Q E → ds.length = 3 := by
  rintro _ _ _ _ ⟨_, _, _, _, _, _, rfl, _⟩; rfl
theorem rd2k {Φ : Nat → SpD} {κ : Nat → D} (h1 : Φ 1 = sp1) : RdOk Φ κ c2 4 sp2k := by
  rintro ds M Q E hM hd ⟨ns, k, a, b, m, T, rfl, hk, ha, hb, hm, hm2, hQ⟩
  have hkl : k < M.length := (List.getElem?_eq_some_iff.mp hk).1
  have e1 : ∀ a b x, 0 ≤ a → 0 ≤ b → At Φ κ E M.length Q c2_1 [some (.scr ns), some (.ref k), some (.int m), x] (M.set k (.lst (.int a :: .int b :: T))) := by
    intro a b x ha hb
    have hg : (M.set k (.lst (.int a :: .int b :: T)))[k]? = some (.lst (.int a :: .int b :: T)) := List.getElem?_set_self hkl
    rw [At, nxt_eq, c2_1]; walk_at "rd"
    rw [hg]
    walk_at "rd"
    refine ⟨hm, ?_⟩
    rw [nxt_eq, c2_2]; walk_at "rd"
    rw [hg]
    walk_at "rd"
    refine ⟨wide_div hm (b := 62) (by omega) (by decide) (by decide), ?_⟩
    try rw [hg]
    try walk_at "rd"
    rw [nxt_eq, c2_3]; walk_at "rd"
    try rw [List.set_set]
    exact .keep (hQ _ _ _ (Int.emod_nonneg _ (by omega)) (Int.emod_lt_of_pos _ hm) (Int.ediv_nonneg ha (by omega)) hb)
  rw [c2]; walk_at "rd"
  rw [hk]
  walk_at "rd"
  split
  · rw [c2_4]; walk_at "rd"
    rw [hk]
    walk_at "rd"
    rw [h1]
    refine ⟨ns, b, rfl, hb, fun r hr => ?_⟩
    walk_at "rd"
    rw [hk]
    walk_at "rd"
    have hg : ∀ r : Int, (M.set k (.lst (.int r :: .int b :: T)))[k]? = some (.lst (.int r :: .int b :: T)) := fun r => List.getElem?_set_self hkl
    rw [nxt_eq, c2_5]; walk_at "rd"
    rw [hg]
    walk_at "rd"
    rw [hg]
    walk_at "rd"
    rw [List.set_set]
    exact e1 _ _ _ hr (by omega)
  · have e : M.set k (.lst (.int a :: .int b :: T)) = M := by
      refine List.ext_getElem? fun i => ?_
      by_cases h : k = i
      · subst h; rw [List.getElem?_set_self hkl, hk]
      · rw [List.getElem?_set_ne h]
    have := e1 a b none ha hb
    rw [e] at this
    exact this
/-- looks drawn: from l to l' in all -/
def Lks (l l' : Nat) (t : Pt) : Prop := t.lks.length + l = l' ∧ (l' ≤ l ∨ l' ≤ 3)
theorem Lks.seq {l l1 l2 : Nat} {a b : Pt} (h : Lks l l1 a) (h' : Lks l1 l2 b) : Lks l l2 (.seq a b) := by
  obtain ⟨h1, h2⟩ := h; obtain ⟨h3, h4⟩ := h'
  exact ⟨by show (a.lks ++ b.lks).length + l = l2; rw [List.length_append]; omega, by omega⟩
theorem Lks.alt {l l1 l2 : Nat} {a b : Pt} (h : Lks l l1 a) (h' : Lks l1 l2 b) : Lks l l2 (.alt a b) := by
  obtain ⟨h1, h2⟩ := h; obtain ⟨h3, h4⟩ := h'
  exact ⟨by show (a.lks ++ b.lks).length + l = l2; rw [List.length_append]; omega, by omega⟩
theorem Lks.look {l l1 : Nat} {t : Pt} {a p : Bool} {k : Option Nat} (h0 : l ≤ 2) (h : Lks (l + 1) l1 t) : Lks l l1 (.look a p t k) := by
  obtain ⟨h1, h2⟩ := h
  exact ⟨by show (t.lks ++ [_]).length + l = l1; rw [List.length_append]; show t.lks.length + 1 + l = l1; omega, by omega⟩
theorem ixN_2 {n : Nat} : ixN (n + 1 + 1 + 1) 2 = some 2 := ixN_pos (by omega) (by omega)
abbrev c166_11 : CSs := .cons (.ret (.idx (.var 5) (.call 2 (.cons (.var 0) (.cons (.var 1) (.cons (.int 8) .nil)))))) .nil
abbrev c166_10 : CSs := .cons (.set 5 (.bin .add (.var 5) (.lst false (.cons (.tup (.cons (.str "anchor") (.cons (.str "text_start") .nil))) (.cons (.tup (.cons (.str "anchor") (.cons (.str "line_end") .nil))) (.cons (.tup (.cons (.str "set") (.cons (.tup (.cons (.tup (.cons (.int 99) (.cons (.int 101) .nil))) .nil)) .nil))) .nil)))))) c166_11
abbrev c166_9 : CSs := .cons (.set 5 (.lst false (.cons (.tup (.cons (.str "empty") .nil)) (.cons (.tup (.cons (.str "set") (.cons (.tup .nil) .nil))) (.cons (.tup (.cons (.str "set") (.cons (.tup (.cons (.tup (.cons (.int 97) (.cons (.int 98) .nil))) .nil)) .nil))) (.cons (.tup (.cons (.str "set") (.cons (.tup (.cons (.tup (.cons (.int 98) (.cons (.int 99) .nil))) .nil)) .nil))) (.cons (.tup (.cons (.str "set") (.cons (.tup (.cons (.tup (.cons (.int 97) (.cons (.int 98) .nil))) (.cons (.tup (.cons (.int 100) (.cons (.int 104) .nil))) .nil))) .nil))) .nil))))))) c166_10
abbrev c166_12 : CSs := .cons (.ret (.tup (.cons (.str "sequence") (.cons (.call 166 (.cons (.var 0) (.cons (.var 1) (.cons (.bin .sub (.var 2) (.int 1)) .nil)))) (.cons (.call 166 (.cons (.var 0) (.cons (.var 1) (.cons (.bin .sub (.var 2) (.int 1)) .nil)))) .nil))))) .nil
abbrev c166_13 : CSs := .cons (.ret (.tup (.cons (.str "choice") (.cons (.call 166 (.cons (.var 0) (.cons (.var 1) (.cons (.bin .sub (.var 2) (.int 1)) .nil)))) (.cons (.call 166 (.cons (.var 0) (.cons (.var 1) (.cons (.bin .sub (.var 2) (.int 1)) .nil)))) .nil))))) .nil
abbrev c166_16 : CSs := .cons (.ret (.tup (.cons (.str "choice") (.cons (.var 7) (.cons (.tup (.cons (.str "sequence") (.cons (.var 6) (.cons (.call 166 (.cons (.var 0) (.cons (.var 1) (.cons (.bin .sub (.var 2) (.int 1)) .nil)))) .nil)))) .nil))))) .nil
abbrev c166_15 : CSs := .cons (.set 7 (.tup (.cons (.str "sequence") (.cons (.var 6) (.cons (.call 166 (.cons (.var 0) (.cons (.var 1) (.cons (.bin .sub (.var 2) (.int 1)) .nil)))) .nil))))) c166_16
abbrev c166_14 : CSs := .cons (.set 6 (.call 166 (.cons (.var 0) (.cons (.lst true (.cons (.idx (.var 1) (.int 0)) (.cons (.idx (.var 1) (.int 1)) (.cons (.int 0) .nil)))) (.cons (.int 0) .nil))))) c166_15
abbrev c166_20 : CSs := .cons (.ret (.tup (.cons (.str "repeat") (.cons (.call 166 (.cons (.var 0) (.cons (.var 1) (.cons (.bin .sub (.var 2) (.int 1)) .nil)))) (.cons (.idx (.var 9) (.int 0)) (.cons (.idx (.var 9) (.int 1)) (.cons (.var 10) .nil))))))) .nil
abbrev c166_19 : CSs := .cons (.set 10 (.cmp .eq (.call 2 (.cons (.var 0) (.cons (.var 1) (.cons (.int 2) .nil)))) (.int 0))) c166_20
abbrev c166_18 : CSs := .cons (.set 9 (.idx (.var 8) (.call 2 (.cons (.var 0) (.cons (.var 1) (.cons (.int 8) .nil)))))) c166_19
abbrev c166_17 : CSs := .cons (.set 8 (.lst false (.cons (.tup (.cons (.int 0) (.cons .non .nil))) (.cons (.tup (.cons (.int 1) (.cons (.int 1) .nil))) (.cons (.tup (.cons (.int 0) (.cons (.int 0) .nil))) (.cons (.tup (.cons (.int 0) (.cons (.int 1) .nil))) (.cons (.tup (.cons (.int 2) (.cons .non .nil))) (.cons (.tup (.cons (.int 0) (.cons .non .nil))) (.cons (.tup (.cons (.int 1) (.cons .non .nil))) (.cons (.tup (.cons (.int 2) (.cons (.int 3) .nil))) .nil)))))))))) c166_18
abbrev c166_22 : CSs := .cons (.ret (.tup (.cons (.str "group") (.cons (.bin .sub (.idx (.var 1) (.int 2)) (.int 1)) (.cons (.call 166 (.cons (.var 0) (.cons (.var 1) (.cons (.bin .sub (.var 2) (.int 1)) .nil)))) .nil))))) .nil
abbrev c166_21 : CSs := .cons (.setIx (.var 1) (.int 2) (.bin .add (.idx (.var 1) (.int 2)) (.int 1))) c166_22
abbrev c166_8 : CSs := .cons (.ret (.tup (.cons (.str "look") (.cons (.var 4) (.cons (.cmp .eq (.call 2 (.cons (.var 0) (.cons (.var 1) (.cons (.int 2) .nil)))) (.int 0)) (.cons (.call 166 (.cons (.var 0) (.cons (.var 1) (.cons (.bin .sub (.var 2) (.int 1)) .nil)))) .nil)))))) .nil
abbrev c166_7 : CSs := .cons (.set 4 (.cmp .eq (.call 2 (.cons (.var 0) (.cons (.var 1) (.cons (.int 2) .nil)))) (.int 0))) c166_8
abbrev c166_6 : CSs := .cons (.ifs (.cmp .lt (.var 3) (.int 17)) c166_21 .nil) c166_7
abbrev c166_5 : CSs := .cons (.ifs (.cmp .lt (.var 3) (.int 15)) c166_17 .nil) c166_6
abbrev c166_4 : CSs := .cons (.ifs (.cmp .eq (.var 3) (.int 11)) c166_14 .nil) c166_5
abbrev c166_3 : CSs := .cons (.ifs (.cmp .lt (.var 3) (.int 11)) c166_13 .nil) c166_4
abbrev c166_2 : CSs := .cons (.ifs (.cmp .lt (.var 3) (.int 7)) c166_12 .nil) c166_3
abbrev c166_1 : CSs := .cons (.ifs (.or (.cmp .eq (.var 2) (.int 0)) (.cmp .lt (.var 3) (.int 4))) c166_9 .nil) c166_2
abbrev c166 : CSs := .cons (.set 3 (.call 2 (.cons (.var 0) (.cons (.var 1) (.cons (.int 18) .nil))))) c166_1
def stK (a b : Int) (g : Nat) : MO := .lst [.int a, .int b, .int g]
theorem stK_eq (a b : Int) (g : Nat) : stK a b g = .lst [.int a, .int b, .int g] := rfl
theorem mok_put {M : Md} {k : Nat} {x : MO} (h : MOk M) (hx : RLtM M.length x) : MOk (M.set k x) := by
  intro m hm
  rw [List.length_set]
  rcases List.mem_or_eq_of_mem_set hm with z | z
  · exact h m z
  · rw [z]; exact hx
/-- inner nodes of a drawn tree at most -/
def inD2 : Nat → Nat
  | 0 => 0
  | d + 1 => 2 * inD2 d + 3
structure GenS (dep g g' : Nat) (t : Pt) : Prop where
  wf : t.wf
  inn : t.inn ≤ inD2 dep
  le : g ≤ g'
  gs : t.grps = rgN g g'
def sp166 (n : Nat) : SpD := fun ds M Q _ => ∃ (ns : List Int) (k : Nat) (a b : Int) (g dep : Nat) (N : Md), ds = [.scr ns, .ref k, .int dep] ∧ M = N.set k (stK a b g) ∧ k < N.length ∧ 0 ≤ a ∧ 0 ≤ b ∧ dep < n ∧
  ∀ (t : Pt) (a' b' : Int) (g' : Nat), GenS dep g g' t → 0 ≤ a' → 0 ≤ b' → Q (ptD t) (N.set k (stK a' b' g'))
theorem ln166 (n : Nat) : ∀ ds M Q E, sp166 n ds M Q E → ds.length = 3 := by
  rintro _ _ _ _ ⟨_, _, _, _, _, _, _, rfl, _⟩; rfl
theorem z166 : ∀ ds M Q E, sp166 0 ds M Q E → False := by
  rintro _ _ _ _ ⟨_, _, _, _, _, _, _, _, _, _, _, _, h, _⟩; omega
theorem digK {Φ : Nat → SpD} (h2 : Φ 2 = sp2k) {ns : List Int} {k : Nat} {a b m : Int} {g : Nat} {N : Md} {Q : QE} {E : EX} (hk : k < N.length) (ha : 0 ≤ a) (hb : 0 ≤ b) (hm : 0 < m) (hm2 : m < 4611686018427387904)
    (q : ∀ d a' b' : Int, 0 ≤ d → d < m → 0 ≤ a' → 0 ≤ b' → Q (.int d) (N.set k (stK a' b' g))) : Φ 2 [.scr ns, .ref k, .int m] (N.set k (stK a b g)) Q E := by
  rw [h2]
  refine ⟨ns, k, a, b, m, [.int g], rfl, by rw [List.getElem?_set_self hk]; rfl, ha, hb, hm, hm2, fun d a' b' h1 h2 h3 h4 => ?_⟩
  rw [List.set_set]
  exact q d a' b' h1 h2 h3 h4
def lvs : List Pt := [.empty, .set [], .set [(97, 98)], .set [(98, 99)], .set [(97, 98), (100, 104)], .anchor "text_start", .anchor "line_end", .set [(99, 101)]]
theorem setOk_c {ps : List (Int × Int)} (h : ps.length ≤ 100) (hc : Canon ps) (hb : ∀ p ∈ ps, 0 ≤ p.1 ∧ p.2 ≤ 128) : (Pt.set ps).wf := ⟨setOk_of h hc hb, trivial⟩
theorem lvs_ok : ∀ t ∈ lvs, t.wf ∧ t.inn = 0 ∧ t.grps = [] := by
  intro t ht
  simp only [lvs, List.mem_cons, List.not_mem_nil, or_false] at ht
  rcases ht with rfl | rfl | rfl | rfl | rfl | rfl | rfl | rfl
  · exact ⟨wf_emp, rfl, rfl⟩
  · exact ⟨wf_nv, rfl, rfl⟩
  · exact ⟨setOk_c (by decide) (by simp [Canon]) (by simp), rfl, rfl⟩
  · exact ⟨setOk_c (by decide) (by simp [Canon]) (by simp), rfl, rfl⟩
  · exact ⟨setOk_c (by decide) (by simp [Canon]) (by simp), rfl, rfl⟩
  · exact ⟨⟨.inl rfl, trivial⟩, rfl, rfl⟩
  · exact ⟨⟨.inr (.inr (.inr (.inl rfl))), trivial⟩, rfl, rfl⟩
  · exact ⟨setOk_c (by decide) (by simp [Canon]) (by simp), rfl, rfl⟩
theorem lv_gen {t : Pt} {d g : Nat} (h : t ∈ lvs) : GenS d g g t := by
  obtain ⟨h1, h2, h3⟩ := lvs_ok t h
  exact ⟨h1, by rw [h2]; exact Nat.zero_le _, Nat.le_refl _, by rw [h3, rgN_nil]⟩
theorem GenS.seq {d g g1 g2 : Nat} {a b : Pt} (h0 : 0 < d) (h : GenS (d - 1) g g1 a) (h' : GenS (d - 1) g1 g2 b) : GenS d g g2 (.seq a b) := by
  obtain ⟨d, rfl⟩ : ∃ e, d = e + 1 := ⟨d - 1, by omega⟩
  rw [Nat.add_sub_cancel] at h h'
  exact ⟨wf_seq.mpr ⟨h.wf, h'.wf⟩, by have := h.inn; have := h'.inn; show a.inn + b.inn + 1 ≤ 2 * inD2 d + 3; omega, Nat.le_trans h.le h'.le, by show a.grps ++ b.grps = _; rw [h.gs, h'.gs, rgN_app h.le h'.le]⟩
theorem GenS.alt {d g g1 g2 : Nat} {a b : Pt} (h0 : 0 < d) (h : GenS (d - 1) g g1 a) (h' : GenS (d - 1) g1 g2 b) : GenS d g g2 (.alt a b) := by
  obtain ⟨d, rfl⟩ : ∃ e, d = e + 1 := ⟨d - 1, by omega⟩
  rw [Nat.add_sub_cancel] at h h'
  exact ⟨wf_alt.mpr ⟨h.wf, h'.wf⟩, by have := h.inn; have := h'.inn; show a.inn + b.inn + 1 ≤ 2 * inD2 d + 3; omega, Nat.le_trans h.le h'.le, by show a.grps ++ b.grps = _; rw [h.gs, h'.gs, rgN_app h.le h'.le]⟩
theorem GenS.twin {d g g1 g2 : Nat} {a b l : Pt} (h0 : 0 < d) (hl : GenS 0 0 0 l) (h : GenS (d - 1) g g1 a) (h' : GenS (d - 1) g1 g2 b) : GenS d g g2 (.alt (.seq l a) (.seq l b)) := by
  obtain ⟨d, rfl⟩ : ∃ e, d = e + 1 := ⟨d - 1, by omega⟩
  rw [Nat.add_sub_cancel] at h h'
  have li : l.inn ≤ 0 := hl.inn
  have lg : l.grps = [] := by rw [hl.gs, rgN_nil]
  refine ⟨wf_alt.mpr ⟨wf_seq.mpr ⟨hl.wf, h.wf⟩, wf_seq.mpr ⟨hl.wf, h'.wf⟩⟩, ?_, Nat.le_trans h.le h'.le, ?_⟩
  · have := h.inn; have := h'.inn
    show (l.inn + a.inn + 1) + (l.inn + b.inn + 1) + 1 ≤ 2 * inD2 d + 3
    omega
  · show (l.grps ++ a.grps) ++ (l.grps ++ b.grps) = _
    rw [lg, h.gs, h'.gs]
    exact rgN_app h.le h'.le
theorem GenS.rep {d g g' : Nat} {t : Pt} {lo : Nat} {hi : Option Nat} {z : Bool} (h0 : 0 < d) (h : GenS (d - 1) g g' t) (h1 : lo ≤ 100) (h2 : ∀ k, hi = some k → k ≤ 100) : GenS d g g' (.rep t lo hi z) := by
  obtain ⟨d, rfl⟩ : ∃ e, d = e + 1 := ⟨d - 1, by omega⟩
  rw [Nat.add_sub_cancel] at h
  exact ⟨wf_rep.mpr ⟨h.wf, h1, h2⟩, by have := h.inn; show t.inn + 1 ≤ 2 * inD2 d + 3; omega, h.le, h.gs⟩
theorem GenS.grp {d g g' : Nat} {t : Pt} (h0 : 0 < d) (h : GenS (d - 1) (g + 1) g' t) : GenS d g g' (.grp g t) := by
  obtain ⟨d, rfl⟩ : ∃ e, d = e + 1 := ⟨d - 1, by omega⟩
  rw [Nat.add_sub_cancel] at h
  exact ⟨wf_grp.mpr h.wf, by have := h.inn; show t.inn + 1 ≤ 2 * inD2 d + 3; omega, by have := h.le; omega, by show g :: t.grps = _; rw [h.gs, rgN_cons (by have := h.le; omega)]⟩
theorem GenS.look {d g g' : Nat} {t : Pt} {a p : Bool} (h0 : 0 < d) (h : GenS (d - 1) g g' t) : GenS d g g' (.look a p t none) := by
  obtain ⟨d, rfl⟩ : ∃ e, d = e + 1 := ⟨d - 1, by omega⟩
  rw [Nat.add_sub_cancel] at h
  exact ⟨wf_look.mpr ⟨h.wf, rfl⟩, by have := h.inn; show t.inn + 1 ≤ 2 * inD2 d + 3; omega, h.le, h.gs⟩
theorem rd166 {Φ : Nat → SpD} {κ : Nat → D} {n : Nat} (h2 : Φ 2 = sp2k) (h166 : Φ 166 = sp166 n) : RdOk Φ κ c166 11 (sp166 (n + 1)) := by
  rintro ds M Q E hM hd ⟨ns, k, a, b, g, dep, N, rfl, rfl, hk, ha, hb, hdn, hQ⟩
  have sub : ∀ (N : Md) (a b : Int) (g : Nat) (Q : QE) (E : EX), k < N.length → 0 < dep → 0 ≤ a → 0 ≤ b → (∀ (t : Pt) (a' b' : Int) (g' : Nat), GenS (dep - 1) g g' t → 0 ≤ a' → 0 ≤ b' → Q (ptD t) (N.set k (stK a' b' g'))) →
      Φ 166 [.scr ns, .ref k, .int ((dep : Int) - 1)] (N.set k (stK a b g)) Q E := by
    intro N a b g Q E hk h0 ha hb q
    rw [h166]
    exact ⟨ns, k, a, b, g, dep - 1, N, by rw [show (dep : Int) - 1 = ((dep - 1 : Nat) : Int) by omega], rfl, hk, ha, hb, by omega, q⟩
  have hg : ∀ a b g, (N.set k (stK a b g))[k]? = some (.lst [.int a, .int b, .int g]) := fun a b g => by rw [List.getElem?_set_self hk]; rfl
  walk_at "go"
  refine digK h2 hk ha hb (by decide) (by decide) fun c a b c0 c1 ha hb => ?_
  walk_at "go"
  have leaf : ∀ (a b : Int) (K : EndsD), K.rt = (endsD N.length Q).rt → 0 ≤ a → 0 ≤ b → nxt Φ κ c166_9 (fun x _ M => E x M) K [some (.scr ns), some (.ref k), some (.int dep), some (.int c), none, none, none, none, none, none, none] (N.set k (stK a b g)) := by
    intro a b K hK ha hb
    walk_at "go"
    refine digK h2 hk ha hb (by decide) (by decide) fun x a b x0 x1 ha hb => ?_
    walk_at "go"
    refine atQ_map (f := ptD) (l := lvs) x0 x1 fun t ht => ?_
    rw [hK]
    exact .keep (hQ t a b g (lv_gen ht) ha hb)
  refine iteI (fun h => leaf a b _ rfl ha hb) fun hd => ?_
  refine iteI (fun h => leaf a b _ rfl ha hb) fun hc4 => ?_
  have hd0 : 0 < dep := by omega
  walk_at "go"
  refine iteI (fun h => ?_) fun h => ?_
  · walk_at "go"
    refine sub N a b g _ _ hk hd0 ha hb fun t a b g1 ht ha hb => ?_
    walk_at "go"
    refine sub N a b g1 _ _ hk hd0 ha hb fun u a b g2 hu ha hb => ?_
    walk_at "go"
    exact .keep (hQ (.seq t u) a b g2 (GenS.seq hd0 ht hu) ha hb)
  walk_at "go"
  refine iteI (fun h => ?_) fun h => ?_
  · walk_at "go"
    refine sub N a b g _ _ hk hd0 ha hb fun t a b g1 ht ha hb => ?_
    walk_at "go"
    refine sub N a b g1 _ _ hk hd0 ha hb fun u a b g2 hu ha hb => ?_
    walk_at "go"
    exact .keep (hQ (.alt t u) a b g2 (GenS.alt hd0 ht hu) ha hb)
  walk_at "go"
  refine iteI (fun h => ?_) fun h => ?_
  · walk_at "go"
    rw [hg]
    walk_at "go"
    rw [hg]
    walk_at "go"
    have sp : ∀ (a b a' b' : Int) (g : Nat), N.set k (stK a b g) ++ [stK a' b' 0] = (N ++ [stK a' b' 0]).set k (stK a b g) := fun a b a' b' g => by
      rw [List.set_append_left _ _ hk]
    have sq : ∀ (a b a' b' c' d' : Int) (g : Nat), (N.set k (stK a b g) ++ [stK a' b' 0]).set N.length (stK c' d' 0) = N.set k (stK a b g) ++ [stK c' d' 0] := fun a b a' b' c' d' g => by
      rw [List.set_append_right _ _ (by rw [List.length_set]; exact Nat.le_refl _), List.length_set, Nat.sub_self]; rfl
    rw [h166]
    refine ⟨ns, N.length, a, b, 0, 0, N.set k (stK a b g) ++ [stK a b 0], rfl, by rw [sq]; rfl, by rw [List.length_append, List.length_set]; show _ < _ + 1; omega, ha, hb, by omega, fun l a' b' g' hl _ _ => ?_⟩
    have g0 : g' = 0 := by
      have h1 : l.grps.length ≤ 0 := Nat.le_trans (grps_inn l) hl.inn
      rw [hl.gs] at h1
      unfold rgN at h1
      rw [List.length_range'] at h1
      have := hl.le; omega
    subst g0
    rw [sq, sp]
    walk_at "go"
    refine sub (N ++ [stK a' b' 0]) a b g _ _ (by rw [List.length_append]; omega) hd0 ha hb fun t a b g1 ht ha hb => ?_
    walk_at "go"
    refine sub (N ++ [stK a' b' 0]) a b g1 _ _ (by rw [List.length_append]; omega) hd0 ha hb fun u a b g2 hu ha hb => ?_
    walk_at "go"
    rw [← sp]
    have hM2 : MOk (N.set k (stK a b g2)) := by
      have := mok_put (k := k) (x := stK a b g2) hM ⟨trivial, trivial, trivial, trivial⟩
      rwa [List.set_set] at this
    exact .val (by rw [List.length_set]) hM2 (nr_pt (.alt (.seq l t) (.seq l u))) (hQ (.alt (.seq l t) (.seq l u)) a b g2 (GenS.twin hd0 hl ht hu) ha hb)
  walk_at "go"
  refine iteI (fun h => ?_) fun h => ?_
  · walk_at "go"
    refine digK h2 hk ha hb (by decide) (by decide) fun x a b x0 x1 ha hb => ?_
    walk_at "go"
    refine atQ_map (f := fun p : Nat × Option Nat => D.tup [.int p.1, onD p.2]) (l := [(0, none), (1, some 1), (0, some 0), (0, some 1), (2, none), (0, none), (1, none), (2, some 3)]) x0 x1 fun p hp => ?_
    have hpp : p.1 ≤ 100 ∧ ∀ k, p.2 = some k → k ≤ 100 := by
      simp only [List.mem_cons, List.not_mem_nil, or_false] at hp
      rcases hp with rfl | rfl | rfl | rfl | rfl | rfl | rfl | rfl <;> exact ⟨by decide, fun k hk => by cases hk <;> decide⟩
    walk_at "go"
    refine digK h2 hk ha hb (by decide) (by decide) fun y a b y0 y1 ha hb => ?_
    walk_at "go"
    refine sub N a b g _ _ hk hd0 ha hb fun t a b g1 ht ha hb => ?_
    walk_at "go"
    exact .keep (hQ (.rep t p.1 p.2 (decide (y = 0))) a b g1 (GenS.rep hd0 ht hpp.1 hpp.2) ha hb)
  walk_at "go"
  refine iteI (fun h => ?_) fun h => ?_
  · walk_at "go"
    rw [hg]
    walk_at "go"
    rw [hg]
    walk_at "go"
    rw [show ixN 3 2 = some 2 from ixN_2]
    walk_at "go"
    rw [List.set_set, show MO.lst [.int a, .int b, .int ((g : Int) + 1)] = stK a b (g + 1) by rw [stK_eq]; congr 3]
    rw [hg]
    walk_at "go"
    refine sub N a b (g + 1) _ _ hk hd0 ha hb fun t a b g1 ht ha hb => ?_
    walk_at "go"
    rw [show (((g + 1 : Nat) : Int) - 1) = (g : Int) by omega]
    exact .keep (hQ (.grp g t) a b g1 (GenS.grp hd0 ht) ha hb)
  walk_at "go"
  refine digK h2 hk ha hb (by decide) (by decide) fun x a b x0 x1 ha hb => ?_
  walk_at "go"
  refine digK h2 hk ha hb (by decide) (by decide) fun y a b y0 y1 ha hb => ?_
  walk_at "go"
  refine sub N a b g _ _ hk hd0 ha hb fun t a b g1 ht ha hb => ?_
  walk_at "go"
  exact .keep (hQ (.look (decide (x = 0)) (decide (y = 0)) t none) a b g1 (GenS.look hd0 ht) ha hb)
abbrev c162_4 : CSs := .cons (.ret (.bin .add (.call 162 (.cons (.idx (.var 0) (.int 1)) .nil)) (.call 162 (.cons (.idx (.var 0) (.int 2)) .nil)))) .nil
abbrev c162_5 : CSs := .cons (.ret (.call 162 (.cons (.idx (.var 0) (.int 1)) .nil))) .nil
abbrev c162_6 : CSs := .cons (.ret (.call 162 (.cons (.idx (.var 0) (.int 2)) .nil))) .nil
abbrev c162_3 : CSs := .cons (.ret (.ife (.cmp .eq (.idx (.var 0) (.int 0)) (.str "look")) (.bin .add (.int 1) (.call 162 (.cons (.idx (.var 0) (.int 3)) .nil))) (.int 0))) .nil
abbrev c162_2 : CSs := .cons (.ifs (.cmp .eq (.idx (.var 0) (.int 0)) (.str "group")) c162_6 .nil) c162_3
abbrev c162_1 : CSs := .cons (.ifs (.cmp .eq (.idx (.var 0) (.int 0)) (.str "repeat")) c162_5 .nil) c162_2
abbrev c162 : CSs := .cons (.ifs (.or (.cmp .eq (.idx (.var 0) (.int 0)) (.str "sequence")) (.cmp .eq (.idx (.var 0) (.int 0)) (.str "choice"))) c162_4 .nil) c162_1
def Pt.lkc : Pt → Nat
  | .seq a b => a.lkc + b.lkc
  | .alt a b => a.lkc + b.lkc
  | .rep t _ _ _ => t.lkc
  | .grp _ t => t.lkc
  | .look _ _ t _ => 1 + t.lkc
  | _ => 0
def sp162 (n : Nat) : SpD := fun ds M Q _ => ∃ t : Pt, ds = [ptD t] ∧ t.ht < n ∧ Q (.int t.lkc) M
theorem ln162 (n : Nat) : ∀ ds M Q E, sp162 n ds M Q E → ds.length = 1 := by
  rintro _ _ _ _ ⟨_, rfl, _⟩; rfl
theorem z162 : ∀ ds M Q E, sp162 0 ds M Q E → False := by
  rintro _ _ _ _ ⟨_, _, h, _⟩; omega
theorem rd162 {Φ : Nat → SpD} {κ : Nat → D} {n : Nat} (h162 : Φ 162 = sp162 n) : RdOk Φ κ c162 1 (sp162 (n + 1)) := by
  rintro ds M Q E hM hd ⟨t, rfl, hh, hQ⟩
  cases t with
  | seq a b =>
    have hht : a.ht < n ∧ b.ht < n := by have : (Pt.seq a b).ht = max a.ht b.ht + 1 := rfl; omega
    simp only [ptD]; walk_at "go"
    rw [h162]
    refine ⟨a, rfl, hht.1, ?_⟩
    walk_at "go"
    refine ⟨b, rfl, hht.2, ?_⟩
    walk_at "go"
    rw [show (a.lkc : Int) + (b.lkc : Int) = ((Pt.seq a b).lkc : Int) by show _ = ((a.lkc + b.lkc : Nat) : Int); omega]
    exact .keep hQ
  | alt a b =>
    have hht : a.ht < n ∧ b.ht < n := by have : (Pt.alt a b).ht = max a.ht b.ht + 1 := rfl; omega
    simp only [ptD]; walk_at "go"
    rw [h162]
    refine ⟨a, rfl, hht.1, ?_⟩
    walk_at "go"
    refine ⟨b, rfl, hht.2, ?_⟩
    walk_at "go"
    rw [show (a.lkc : Int) + (b.lkc : Int) = ((Pt.alt a b).lkc : Int) by show _ = ((a.lkc + b.lkc : Nat) : Int); omega]
    exact .keep hQ
  | rep u lo k g =>
    have hht : u.ht < n := by have : (Pt.rep u lo k g).ht = u.ht + 1 := rfl; omega
    simp only [ptD]; walk_at "go"
    rw [h162]
    exact ⟨u, rfl, hht, .keep hQ⟩
  | grp m u =>
    have hht : u.ht < n := by have : (Pt.grp m u).ht = u.ht + 1 := rfl; omega
    simp only [ptD]; walk_at "go"
    rw [h162]
    exact ⟨u, rfl, hht, .keep hQ⟩
  | look a p u k =>
    have hht : u.ht < n := by have : (Pt.look a p u k).ht = u.ht + 1 := rfl; omega
    cases k <;>
    · simp only [ptD]; walk_at "go"
      rw [h162]
      refine ⟨u, rfl, hht, ?_⟩
      walk_at "go"
      rw [show (1 : Int) + (u.lkc : Int) = ((1 + u.lkc : Nat) : Int) by omega]
      exact .keep hQ
  | set ps => simp only [ptD]; walk_at "go"; exact .keep hQ
  | empty => simp only [ptD]; walk_at "go"; exact .keep hQ
  | anchor s => simp only [ptD]; walk_at "go"; exact .keep hQ
abbrev c173 : CSs := .cons (.ret (.bin .add (.int 1) (.blt .sum (.cons (.comp false (.call 173 (.cons (.var 1) .nil)) (.nm 1) (.seq (.call 35 (.cons (.var 0) .nil))) .none [1]) .nil)))) .nil
theorem sz_pts (t : Pt) : t.sz = 1 + (t.pts.map Pt.sz).sum := by
  cases t <;> simp [Pt.sz, Pt.pts] <;> omega
theorem sum_cast (f : Pt → Nat) : ∀ l : List Pt, (l.map fun q => (f q : Int)).sum = ((l.map f).sum : Nat)
  | [] => rfl
  | t :: l => by rw [List.map_cons, List.map_cons, List.sum_cons, List.sum_cons, sum_cast f l]; omega
theorem pts_le (t : Pt) : t.pts.length ≤ 2 := by cases t <;> simp [Pt.pts]
def sp173 (n : Nat) : SpD := fun ds M Q _ => ∃ t : Pt, ds = [ptD t] ∧ t.ht < n ∧ Q (.int t.sz) M
theorem ln173 (n : Nat) : ∀ ds M Q E, sp173 n ds M Q E → ds.length = 1 := by
  rintro _ _ _ _ ⟨_, rfl, _⟩; rfl
theorem z173 : ∀ ds M Q E, sp173 0 ds M Q E → False := by
  rintro _ _ _ _ ⟨_, _, h, _⟩; omega
theorem rd173 {Φ : Nat → SpD} {κ : Nat → D} {n : Nat} (h173 : Φ 173 = sp173 n) (h35 : Φ 35 = sp35w) : RdOk Φ κ c173 2 (sp173 (n + 1)) := by
  rintro ds M Q E hM hd ⟨t, rfl, hh, hQ⟩
  walk_at "go"
  rw [h35]
  refine ⟨t, rfl, ?_⟩
  walk_at "go"
  have hl := pts_le t
  refine comp_map (xs := t.pts) ptD (fun p => D.int p.sz) (by exact trivial) (by rw [size_eq]; omega) ?_ ?_
  · intro p hp yes no h
    have := Pt.pts_ht hp
    walk_at "go"
    rw [h173]
    exact ⟨p, rfl, by omega, h⟩
  walk_at "go"
  rw [show (t.pts.map fun p => D.int (p.sz : Int)) = t.pts.map fun p => D.int ((fun q : Pt => (q.sz : Int)) p) from rfl, intsOf_map]
  walk_at "go"
  have e : 1 + (t.pts.map fun q : Pt => (q.sz : Int)).sum = (t.sz : Int) := by
    rw [sz_pts, sum_cast]; omega
  rw [e]
  exact .keep hQ
abbrev c159_4 : CSs := .cons (.ret (.lst false (.cons (.idx (.var 0) (.int 1)) (.cons (.idx (.var 0) (.int 2)) .nil)))) .nil
abbrev c159_5 : CSs := .cons (.ret (.lst false (.cons (.idx (.var 0) (.int 1)) .nil))) .nil
abbrev c159_6 : CSs := .cons (.ret (.lst false (.cons (.idx (.var 0) (.int 2)) .nil))) .nil
abbrev c159_3 : CSs := .cons (.ret (.ife (.cmp .eq (.idx (.var 0) (.int 0)) (.str "look")) (.lst false (.cons (.idx (.var 0) (.int 3)) .nil)) (.lst false .nil))) .nil
abbrev c159_2 : CSs := .cons (.ifs (.cmp .eq (.idx (.var 0) (.int 0)) (.str "group")) c159_6 .nil) c159_3
abbrev c159_1 : CSs := .cons (.ifs (.cmp .eq (.idx (.var 0) (.int 0)) (.str "repeat")) c159_5 .nil) c159_2
abbrev c159 : CSs := .cons (.ifs (.or (.cmp .eq (.idx (.var 0) (.int 0)) (.str "sequence")) (.cmp .eq (.idx (.var 0) (.int 0)) (.str "choice"))) c159_4 .nil) c159_1
def sp159 : SpD := fun ds M Q _ => ∃ t : Pt, ds = [ptD t] ∧ Q (.lst (t.pts.map ptD)) M
theorem ln159 : ∀ ds M Q E, sp159 ds M Q E → ds.length = 1 := by
  rintro _ _ _ _ ⟨_, rfl, _⟩; rfl
theorem rd159 {Φ : Nat → SpD} {κ : Nat → D} : RdOk Φ κ c159 1 (sp159) := by
  rintro ds M Q E hM hd ⟨t, rfl, hQ⟩
  cases t with
  | look a p t k => cases k <;> (simp only [ptD]; walk_at "go"; exact .keep hQ)
  | _ => simp only [ptD]; walk_at "go"; exact .keep hQ
abbrev c165 : CSs := .cons (.ret (.bin .add (.int 1) (.blt .sum (.cons (.comp false (.call 165 (.cons (.var 1) .nil)) (.nm 1) (.seq (.call 159 (.cons (.var 0) .nil))) .none [1]) .nil)))) .nil
def sp165 (n : Nat) : SpD := fun ds M Q _ => ∃ t : Pt, ds = [ptD t] ∧ t.ht < n ∧ Q (.int t.sz) M
theorem ln165 (n : Nat) : ∀ ds M Q E, sp165 n ds M Q E → ds.length = 1 := by
  rintro _ _ _ _ ⟨_, rfl, _⟩; rfl
theorem z165 : ∀ ds M Q E, sp165 0 ds M Q E → False := by
  rintro _ _ _ _ ⟨_, _, h, _⟩; omega
theorem rd165 {Φ : Nat → SpD} {κ : Nat → D} {n : Nat} (h165 : Φ 165 = sp165 n) (h159 : Φ 159 = sp159) : RdOk Φ κ c165 2 (sp165 (n + 1)) := by
  rintro ds M Q E hM hd ⟨t, rfl, hh, hQ⟩
  walk_at "go"
  rw [h159]
  refine ⟨t, rfl, ?_⟩
  walk_at "go"
  have hl := pts_le t
  refine comp_map (xs := t.pts) ptD (fun p => D.int p.sz) (by exact trivial) (by rw [size_eq]; omega) ?_ ?_
  · intro p hp yes no h
    have := Pt.pts_ht hp
    walk_at "go"
    rw [h165]
    exact ⟨p, rfl, by omega, h⟩
  walk_at "go"
  rw [show (t.pts.map fun p => D.int (p.sz : Int)) = t.pts.map fun p => D.int ((fun q : Pt => (q.sz : Int)) p) from rfl, intsOf_map]
  walk_at "go"
  have e : 1 + (t.pts.map fun q : Pt => (q.sz : Int)).sum = (t.sz : Int) := by
    rw [sz_pts, sum_cast]; omega
  rw [e]
  exact .keep hQ
theorem pts_inn {t p : Pt} (h : p ∈ t.pts) : p.inn < t.inn := by
  cases t <;> simp [Pt.pts] at h <;> simp [Pt.inn] <;> first | (rcases h with rfl | rfl <;> omega) | (subst h; omega)
def sp37v (n : Nat) : SpD := fun ds M Q _ => ∃ t : Pt, ds = [ptD t] ∧ t.ht < n ∧ t.inn ≤ 60 ∧ t.grps.Pairwise (· < ·) ∧ Q (.lst (t.grps.map iN)) M
theorem ln37v (n : Nat) : ∀ ds M Q E, sp37v n ds M Q E → ds.length = 1 := by
  rintro _ _ _ _ ⟨_, rfl, _⟩; rfl
theorem z37v : ∀ ds M Q E, sp37v 0 ds M Q E → False := by
  rintro _ _ _ _ ⟨_, _, h, _⟩; omega
theorem rd37v {Φ : Nat → SpD} {κ : Nat → D} {n : Nat} (h35 : Φ 35 = sp35w) (h37 : Φ 37 = sp37v n) : RdOk Φ κ c37 3 (sp37v (n + 1)) := by
  rintro ds M Q E hM hd ⟨t, rfl, hh, hh2, hp, hQ⟩
  have hlen : t.grps.length < 4000000 := by
    have h1 := grps_inn t
    omega
  have he := grps_eq t
  have rest : ∀ acc : List Nat, acc = t.own → nxt Φ κ c37_2 (fun x _ M => E x M) (endsD M.length Q) [some (ptD t), some (.ref M.length), none] (M ++ [.lst (acc.map iN)]) := by
    rintro acc rfl
    walk_at "go"
    rw [h35]
    refine ⟨t, rfl, ?_⟩
    walk_at "go"
    refine for_list [2] (fun rem js M' => ∃ (acc : List Nat) (x2 : Option D), js = [x2] ∧ M ++ [.lst (acc.map iN)] = M' ∧ acc ++ (rem.map Pt.grps).flatten = t.grps ∧ ∀ p ∈ rem, p ∈ t.pts) ⟨[_], rfl, t.own, _, rfl, rfl, he.symm, fun _ h => h⟩ ?_ ?_
    · rintro p rem js M' nx ⟨acc, x2, rfl, rfl, h1, h2⟩ hn
      have hpp := Pt.pts_ht (h2 p List.mem_cons_self)
      have hpi := pts_inn (h2 p List.mem_cons_self)
      rw [List.map_cons, List.flatten_cons] at h1
      have hl : acc.length + p.grps.length ≤ t.grps.length := by
        have := congrArg List.length h1
        rw [List.length_append, List.length_append] at this; omega
      have hpw : p.grps.Pairwise (· < ·) := by
        rw [← h1, List.pairwise_append] at hp
        exact (List.pairwise_append.mp hp.2.1).1
      walk_at "go"
      rw [h37]
      refine ⟨p, rfl, by omega, by omega, hpw, ?_⟩
      walk_at "go"
      exact hn [_] _ ⟨acc ++ p.grps, _, rfl, by rw [List.map_append], by rw [List.append_assoc]; exact h1, fun q hq => h2 q (List.mem_cons_of_mem _ hq)⟩
    · rintro js M' ⟨acc, x2, rfl, rfl, h1, h2⟩
      have h1 : acc = t.grps := by simpa using h1
      subst h1
      walk_at "go"
      have hpi : (gI t.grps).Pairwise (· < ·) := List.Pairwise.map _ (fun a b h => by omega) hp
      obtain ⟨s1, s2⟩ := sort_ints hpi
      rw [gI_D] at s1 s2
      refine ⟨s1, ?_⟩
      rw [s2]
      exact .val rfl hM (noRefs_map fun _ _ => rfl) hQ
  cases t with
  | look a p t k => cases k <;> (simp only [ptD]; walk_at "go"; exact rest [] rfl)
  | grp m t =>
    have r := rest [m] rfl
    simp only [ptD] at r ⊢
    walk_at "go"
    exact r
  | _ => simp only [ptD]; walk_at "go"; exact rest [] rfl
abbrev c158 : CSs := .cons (.ret (.and (.cmp .ne (.idx (.var 0) (.int 0)) (.str "group")) (.blt .all (.cons (.comp false (.call 158 (.cons (.var 1) .nil)) (.nm 1) (.seq (.call 159 (.cons (.var 0) .nil))) .none [1]) .nil)))) .nil
theorem bare_pts (t : Pt) : decide (t.grps = []) = (decide (t.kd ≠ 6) && (t.pts.map fun p => decide (p.grps = [])).all id) := by
  cases t <;> simp [Pt.grps, Pt.kd, Pt.pts] <;> rfl
def sp158 (n : Nat) : SpD := fun ds M Q _ => ∃ t : Pt, ds = [ptD t] ∧ t.ht < n ∧ Q (.bl (decide (t.grps = []))) M
theorem ln158 (n : Nat) : ∀ ds M Q E, sp158 n ds M Q E → ds.length = 1 := by
  rintro _ _ _ _ ⟨_, rfl, _⟩; rfl
theorem z158 : ∀ ds M Q E, sp158 0 ds M Q E → False := by
  rintro _ _ _ _ ⟨_, _, h, _⟩; omega
theorem rd158 {Φ : Nat → SpD} {κ : Nat → D} {n : Nat} (h158 : Φ 158 = sp158 n) (h159 : Φ 159 = sp159) : RdOk Φ κ c158 2 (sp158 (n + 1)) := by
  rintro ds M Q E hM hd ⟨t, rfl, hh, hQ⟩
  walk_at "go"
  rw [pt_0]
  walk_at "go"
  have hl := pts_le t
  have hb := bare_pts t
  by_cases h6 : t.kd = 6
  · rw [decide_eq_true (by rw [nm_grp]; exact h6)]
    walk_at "go"
    rw [hb, show decide (t.kd ≠ 6) = false by simp [h6], Bool.false_and] at hQ
    exact .keep hQ
  · rw [decide_eq_false (by rw [nm_grp]; exact h6)]
    walk_at "go"
    rw [h159]
    refine ⟨t, rfl, ?_⟩
    walk_at "go"
    refine comp_map (xs := t.pts) ptD (fun p => D.bl (decide (p.grps = []))) (by exact trivial) (by rw [size_eq]; omega) ?_ ?_
    · intro p hp yes no h
      have := Pt.pts_ht hp
      walk_at "go"
      rw [h158]
      exact ⟨p, rfl, by omega, h⟩
    rw [show (t.pts.map fun p => D.bl (decide (p.grps = []))) = t.pts.map fun p => D.bl ((fun p : Pt => decide (p.grps = [])) p) from rfl, blsOf_map]
    walk_at "go"
    rw [hb, show decide (t.kd ≠ 6) = true by simp [h6], Bool.true_and] at hQ
    exact .keep hQ
abbrev c163_6 : CSs := .cons (.ret (.call 163 (.cons (.idx (.var 0) (.int 1)) (.cons (.call 163 (.cons (.idx (.var 0) (.int 2)) (.cons (.var 1) .nil))) .nil)))) .nil
abbrev c163_7 : CSs := .cons (.ret (.var 1)) .nil
abbrev c163_8 : CSs := .cons (.ret (.var 0)) .nil
abbrev c163_9 : CSs := .cons (.ret (.var 2)) .nil
abbrev c163_5 : CSs := .cons (.ret (.tup (.cons (.str "sequence") (.cons (.var 0) (.cons (.var 1) .nil))))) .nil
abbrev c163_4 : CSs := .cons (.ifs (.or (.and (.cmp .eq (.var 0) (.var 2)) (.call 158 (.cons (.var 1) .nil))) (.and (.cmp .eq (.var 1) (.var 2)) (.call 158 (.cons (.var 0) .nil)))) c163_9 .nil) c163_5
abbrev c163_3 : CSs := .cons (.ifs (.cmp .eq (.var 1) (.tup (.cons (.str "empty") .nil))) c163_8 .nil) c163_4
abbrev c163_2 : CSs := .cons (.ifs (.cmp .eq (.var 0) (.tup (.cons (.str "empty") .nil))) c163_7 .nil) c163_3
abbrev c163_1 : CSs := .cons (.ifs (.cmp .eq (.idx (.var 0) (.int 0)) (.str "sequence")) c163_6 .nil) c163_2
abbrev c163 : CSs := .cons (.set 2 (.tup (.cons (.str "set") (.cons (.tup .nil) .nil)))) c163_1
def sp163 (n : Nat) : SpD := fun ds M Q _ => ∃ a b : Pt, ds = [ptD a, ptD b] ∧ a.ht < n ∧ Two a b ∧ Q (ptD (sj a b)) M
theorem ln163 (n : Nat) : ∀ ds M Q E, sp163 n ds M Q E → ds.length = 2 := by
  rintro _ _ _ _ ⟨_, _, rfl, _⟩; rfl
theorem z163 : ∀ ds M Q E, sp163 0 ds M Q E → False := by
  rintro _ _ _ _ ⟨_, _, _, h, _⟩; omega
theorem rd163 {Φ : Nat → SpD} {κ : Nat → D} {n : Nat} (h163 : Φ 163 = sp163 n) (h158 : Φ 158 = sp158 (62)) : RdOk Φ κ c163 3 (sp163 (n + 1)) := by
  rintro ds M Q E hM hd ⟨a, b, rfl, hh, hT, hQ⟩
  by_cases hs : a.kd = 3
  · obtain ⟨x, y, rfl⟩ := kd_seq hs
    have hht : x.ht < n ∧ y.ht < n := by have : (Pt.seq x y).ht = max x.ht y.ht + 1 := rfl; omega
    have hT2 := hT.in_s
    have j := sj_jn hT2.wa hT2.wb
    rw [seq_D]
    walk_at "go"
    rw [h163]
    refine ⟨y, b, rfl, hht.2, hT2, ?_⟩
    walk_at "go"
    exact ⟨x, sj y b, rfl, hht.1, two_out (wf_seq.mp hT.wa).1 j hT.inn hT.gr, .keep hQ⟩
  rw [sj_else (fun x y e => hs (by rw [e]; rfl))] at hQ
  have hi := hT.inn
  have hta := ht_inn a
  have htb := ht_inn b
  walk_at "go"
  rw [pt_0]
  walk_at "go"
  rw [if_neg (by rw [nm_seq]; exact hs)]
  walk_at "go"
  rw [emp_D, eq_tw hT.wa wf_emp (by omega) (Nat.zero_le _)]
  walk_at "go"
  refine iteI (fun h => ?_) fun h => ?_
  · rw [if_pos h] at hQ; walk_at "go"; exact .keep hQ
  rw [if_neg h] at hQ
  walk_at "go"
  rw [emp_D, eq_tw hT.wb wf_emp (by omega) (Nat.zero_le _)]
  walk_at "go"
  refine iteI (fun h => ?_) fun h => ?_
  · rw [if_pos h] at hQ; walk_at "go"; exact .keep hQ
  rw [if_neg h] at hQ
  have els : ¬ ((a = NV ∧ b.grps = []) ∨ (b = NV ∧ a.grps = [])) → Fin M.length Q (ptD (.seq a b)) M := fun z => by
    rw [if_neg z] at hQ; exact .keep hQ
  have yes : (a = NV ∧ b.grps = []) ∨ (b = NV ∧ a.grps = []) → Fin M.length Q (ptD NV) M := fun z => by
    rw [if_pos z] at hQ; skip; exact .keep hQ
  walk_at "go"
  rw [nv_D, eq_tw hT.wa wf_nv (by omega) (Nat.zero_le _)]
  by_cases h1a : a = NV
  · rw [decide_eq_true h1a]
    try walk_at "go"
    rw [h158]
    refine ⟨b, rfl, by omega, ?_⟩
    by_cases h3 : b.grps = []
    · rw [decide_eq_true h3]
      try walk_at "go"
      exact yes (.inl ⟨h1a, h3⟩)
    · rw [decide_eq_false h3]
      have h1 : ¬ (a = NV ∧ b.grps = []) := fun z => h3 z.2
      try walk_at "go"
      try rw [nv_D]
      rw [eq_tw hT.wb wf_nv (by omega) (Nat.zero_le _)]
      by_cases h2 : b = NV
      · rw [decide_eq_true h2]
        try walk_at "go"
        try rw [h158]
        refine ⟨a, rfl, by omega, ?_⟩
        by_cases h3 : a.grps = []
        · rw [decide_eq_true h3]
          try walk_at "go"
          exact yes (.inr ⟨h2, h3⟩)
        · rw [decide_eq_false h3]
          try walk_at "go"
          exact els fun z => z.elim h1 fun z => h3 z.2
      · rw [decide_eq_false h2]
        try walk_at "go"
        exact els fun z => z.elim h1 fun z => h2 z.1
  · rw [decide_eq_false h1a]
    have h1 : ¬ (a = NV ∧ b.grps = []) := fun z => h1a z.1
    try walk_at "go"
    try rw [nv_D]
    rw [eq_tw hT.wb wf_nv (by omega) (Nat.zero_le _)]
    by_cases h2 : b = NV
    · rw [decide_eq_true h2]
      try walk_at "go"
      try rw [h158]
      refine ⟨a, rfl, by omega, ?_⟩
      by_cases h3 : a.grps = []
      · rw [decide_eq_true h3]
        try walk_at "go"
        exact yes (.inr ⟨h2, h3⟩)
      · rw [decide_eq_false h3]
        try walk_at "go"
        exact els fun z => z.elim h1 fun z => h3 z.2
    · rw [decide_eq_false h2]
      try walk_at "go"
      exact els fun z => z.elim h1 fun z => h2 z.1
theorem cut_frT {α : Type} {xs : List α} {n : Nat} : cutD xs (some (n : Int)) none = xs.drop n := by
  unfold cutD
  rw [HT.sIx_none, HT.sIx_nat]
  by_cases h : n ≤ xs.length
  · rw [Nat.min_eq_left h, List.take_of_length_le (by rw [List.length_drop]; exact Nat.le_refl _)]
  · rw [Nat.min_eq_right (by omega), List.drop_of_length_le (by omega), List.drop_of_length_le (by omega), List.take_nil]
/-- sets of a hundred ranges at most -/
def Co.pl : Co → Prop
  | .set _ ps => ps.length ≤ 100
  | .seq a b => a.pl ∧ b.pl
  | .alt a b => a.pl ∧ b.pl
  | .ne a => a.pl
  | .star a _ => a.pl
  | .anc s => ancOk s
  | _ => True
def Co.fs : Co → Prop
  | .fgt gs ms => gs.length ≤ 4000000 ∧ ms.length ≤ 4000000
  | .seq a b => a.fs ∧ b.fs
  | .alt a b => a.fs ∧ b.fs
  | .ne a => a.fs
  | .star a _ => a.fs
  | _ => True
def od (b : Bool) (len i : Nat) : Nat := if b then i else len - i
section
variable {lk : Option Nat} {all : List D} {asg : D → (Std → Md → Prop) → Md → Prop} {tst : Std → Md → (Bool → Md → Prop) → Prop} {elt : Std → Md → QE → Prop} {Q : List D → Md → Prop}
theorem comp_fmap {α : Type} {xs : List α} {M : Md} (enc : α → D) (f : α → Option D) (hl : lkOk lk all M) (hs : xs.length ≤ sizeLine)
    (step : ∀ x ∈ xs, ∀ (yes : D → Md → Prop) (no : Md → Prop), (match f x with
      | some y => yes y M
      | none => no M) → asg (enc x) (fun σ1 M1 => tst σ1 M1 fun k M2 => if k = true then elt σ1 M2 yes else no M2) M)
    (fin : Q (xs.filterMap f) M) : compD lk all asg tst elt Q (xs.map enc) [] M := by
  have key : ∀ (ys : List α) (acc : List D), (∀ y ∈ ys, y ∈ xs) → acc.length + ys.length ≤ sizeLine → acc ++ ys.filterMap f = xs.filterMap f → compD lk all asg tst elt Q (ys.map enc) acc M := by
    intro ys
    induction ys with
    | nil => intro acc _ _ e; rw [List.filterMap_nil, List.append_nil] at e; rw [e]; exact ⟨hl, fin⟩
    | cons y ys ih =>
      intro acc hm hlen e
      have hlen : acc.length + (ys.length + 1) ≤ sizeLine := hlen
      refine ⟨hl, step y (hm y List.mem_cons_self) _ _ ?_⟩
      cases e2 : f y with
      | none => exact ih acc (fun z hz => hm z (List.mem_cons_of_mem _ hz)) (by omega) (by rw [← e, List.filterMap_cons, e2])
      | some v => exact ⟨by omega, ih (acc ++ [v]) (fun z hz => hm z (List.mem_cons_of_mem _ hz)) (by rw [List.length_append]; show acc.length + 1 + ys.length ≤ _; omega) (by rw [← e, List.filterMap_cons, e2, List.append_assoc]; rfl)⟩
  exact key xs [] (fun _ h => h) (by simpa using hs) rfl
end
abbrev c161_5 : CSs := .cons (.setIx (.var 2) (.neg (.int 1)) (.tup (.cons (.idx (.idx (.var 2) (.neg (.int 1))) (.int 0)) (.cons (.bin .add (.var 3) (.int 1)) .nil)))) .nil
abbrev c161_7 : CSs := .cons (.expr (.mth .append (.var 2) (.cons (.tup (.cons (.var 3) (.cons (.bin .add (.var 3) (.int 1)) .nil))) .nil))) .nil
abbrev c161_6 : CSs := .cons (.ifs (.var 4) c161_7 .nil) .nil
abbrev c161_4 : CSs := .cons (.ifs (.and (.var 4) (.and (.cmp .gt (.blt .len (.cons (.var 2) .nil)) (.int 0)) (.cmp .eq (.idx (.idx (.var 2) (.neg (.int 1))) (.int 1)) (.var 3)))) c161_5 c161_6) .nil
abbrev c161_3 : CSs := .cons (.set 4 (.blt .any (.cons (.comp false (.and (.cmp .le (.idx (.var 5) (.int 0)) (.var 3)) (.cmp .lt (.var 3) (.idx (.var 5) (.int 1)))) (.nm 5) (.seq (.bin .add (.idx (.var 0) (.int 1)) (.idx (.var 1) (.int 1)))) .none [5]) .nil))) c161_4
abbrev c161_2 : CSs := .cons (.ret (.tup (.cons (.str "set") (.cons (.blt .tuple (.cons (.var 2) .nil)) .nil)))) .nil
abbrev c161_1 : CSs := .cons (.fors (.nm 3) (.rng1 (.int 128)) c161_3) c161_2
abbrev c161 : CSs := .cons (.set 2 (.lst true .nil)) c161_1
/-- codes below j that are in one of both, so far -/
structure Un (A B : List (Int × Int)) (j : Int) (L : List (Int × Int)) : Prop where
  c : Canon L
  i : ∀ x, inP L x = true ↔ x < j ∧ (inP A x = true ∨ inP B x = true)
  e : ∀ p ∈ L, p.2 ≤ j
  n : (L.length : Int) ≤ j
theorem any_in (A B : List (Int × Int)) (j : Int) : ((A ++ B).map fun p => decide (p.1 ≤ j ∧ j < p.2)).any id = true ↔ inP A j = true ∨ inP B j = true := by
  rw [← inP_append]
  unfold inP
  rw [List.any_map]; rfl
theorem Un.no {A B L : List (Int × Int)} {j : Int} (h : Un A B j L) (hj : ¬ (inP A j = true ∨ inP B j = true)) : Un A B (j + 1) L :=
  ⟨h.c, fun x => by
    rw [h.i]
    constructor
    · rintro ⟨h1, h2⟩; exact ⟨by omega, h2⟩
    · rintro ⟨h1, h2⟩
      rcases Decidable.em (x = j) with rfl | z
      · exact absurd h2 hj
      · exact ⟨by omega, h2⟩, fun p hp => by have := h.e p hp; omega, by have := h.n; omega⟩
theorem Un.new {A B L : List (Int × Int)} {j : Int} (h : Un A B j L) (hj : inP A j = true ∨ inP B j = true) (hl : ∀ p ∈ L, p.2 ≠ j) : Un A B (j + 1) (L ++ [(j, j + 1)]) :=
  ⟨h.c.snoc (by show j < j + 1; omega) fun p hp => by have := h.e p hp; have := hl p hp; show p.2 < j; omega, fun x => by
    rw [inP_append, h.i, inP_one]
    constructor
    · rintro (⟨h1, h2⟩ | ⟨h1, h2⟩)
      · exact ⟨by omega, h2⟩
      · have : x = j := by have h1 : j ≤ x := h1; have h2 : x < j + 1 := h2; omega
        exact ⟨by omega, by rw [this]; exact hj⟩
    · rintro ⟨h1, h2⟩
      rcases Decidable.em (x = j) with rfl | z
      · exact .inr ⟨Int.le_refl _, by show x < x + 1; omega⟩
      · exact .inl ⟨by omega, h2⟩, fun p hp => by
    rcases List.mem_append.mp hp with hp | hp
    · have := h.e p hp; omega
    · rw [List.mem_singleton.mp hp]; exact Int.le_refl _, by have := h.n; rw [List.length_append, List.length_singleton]; omega⟩
theorem Un.long {A B L : List (Int × Int)} {j : Int} {p : Int × Int} (h : Un A B j (L ++ [p])) (hj : inP A j = true ∨ inP B j = true) (hl : p.2 = j) : Un A B (j + 1) (L ++ [(p.1, j + 1)]) := by
  obtain ⟨h1, h2, h3⟩ := h.c.init
  refine ⟨h1.snoc (by show p.1 < j + 1; omega) h3, fun x => ?_, fun q hq => ?_, ?_⟩
  · have hi := h.i x
    rw [inP_append, inP_one] at hi
    rw [inP_append, inP_one]
    constructor
    · rintro (z | ⟨z1, z2⟩)
      · have := hi.mp (.inl z); exact ⟨by omega, this.2⟩
      · have z1 : p.1 ≤ x := z1
        have z2 : x < j + 1 := z2
        rcases Decidable.em (x = j) with rfl | z
        · exact ⟨by omega, hj⟩
        · have := hi.mp (.inr ⟨z1, by omega⟩); exact ⟨by omega, this.2⟩
    · rintro ⟨z1, z2⟩
      rcases Decidable.em (x = j) with rfl | z
      · exact .inr ⟨by show p.1 ≤ x; omega, by show x < x + 1; omega⟩
      · rcases hi.mpr ⟨by omega, z2⟩ with z | ⟨z3, z4⟩
        · exact .inl z
        · exact .inr ⟨z3, by show x < j + 1; omega⟩
  · rcases List.mem_append.mp hq with hq | hq
    · have := h.e q (List.mem_append_left _ hq); omega
    · rw [List.mem_singleton.mp hq]; exact Int.le_refl _
  · have := h.n; rw [List.length_append, List.length_singleton] at this ⊢; omega
def sp161 : SpD := fun ds M Q _ => ∃ A B : List (Int × Int), ds = [ptD (.set A), ptD (.set B)] ∧ setOk A ∧ setOk B ∧ Q (ptD (.set (unS A B))) M
theorem ln161 : ∀ ds M Q E, sp161 ds M Q E → ds.length = 2 := by
  rintro _ _ _ _ ⟨_, _, rfl, _⟩; rfl
theorem rd161 {Φ : Nat → SpD} {κ : Nat → D} : RdOk Φ κ c161 6 (sp161) := by
  rintro ds M Q E hM hd ⟨A, B, rfl, hA, hB, hQ⟩
  have hAl := hA.1
  have hBl := hB.1
  have sD : ∀ C : List (Int × Int), ptD (.set C) = .tup [.str "set", .tup (C.map pr)] := fun _ => rfl
  rw [sD, sD]
  walk_at "go"
  refine for_rng [3, 4, 5] (fun j js M' => ∃ (L : List (Int × Int)) (x3 x4 x5 : Option D), js = [x3, x4, x5] ∧ M ++ [.lst (L.map pr)] = M' ∧ Un A B j L) (by omega) ⟨[_, _, _], rfl, [], _, _, _, rfl, rfl, ⟨trivial, fun x => ?_, (fun p hp => by cases hp), Int.le_refl _⟩⟩ ?_ ?_
  · rw [inP_nil]
    constructor
    · intro h; cases h
    · rintro ⟨h1, h2⟩
      have : 0 ≤ x := h2.elim (fun z => (hA.2.2 x z).1) fun z => (hB.2.2 x z).1
      omega
  · rintro j js M' nx j0 j1 ⟨L, x3, x4, x5, rfl, rfl, hU⟩ hn
    walk_at "go"
    rw [← List.map_append]
    obtain ⟨f, hf⟩ : ∃ f : Int × Int → Bool, f = fun p => decide (p.1 ≤ j ∧ j < p.2) := ⟨_, rfl⟩
    refine comp_map (xs := A ++ B) pr (fun p => D.bl (f p)) (by exact trivial) (by rw [List.length_append, size_eq]; omega) ?_ ?_
    · intro p hp yes no h
      rw [pr_eq]
      walk_at "go"
      rw [hf] at h
      dsimp only at h
      refine iteI (fun h1 => ?_) fun h1 => ?_
      · rw [show decide (p.1 ≤ j ∧ j < p.2) = decide (j < p.2) by simp [h1]] at h
        exact h
      · rw [show decide (p.1 ≤ j ∧ j < p.2) = false by simp [h1]] at h
        rw [decide_eq_false h1]
        exact h
    rw [blsOf_map]
    walk_at "go"
    have ha := any_in A B j
    rw [← hf] at ha
    have hsz : L.length < sizeLine := by have := hU.n; rw [size_eq]; omega
    generalize ((A ++ B).map f).any id = w at ha ⊢
    cases w with
    | false =>
      have hno : ¬ (inP A j = true ∨ inP B j = true) := fun z => by cases ha.mpr z
      walk_at "go"
      exact hn [_, _, _] _ ⟨L, _, _, _, rfl, rfl, hU.no hno⟩
    | true =>
      have hyes : inP A j = true ∨ inP B j = true := ha.mp rfl
      rcases snoc_cases L with rfl | ⟨L, p, rfl⟩
      · walk_at "go"
        exact hn [_, _, _] _ ⟨[(j, j + 1)], _, _, _, rfl, rfl, hU.new hyes fun p hp => by cases hp⟩
      · rw [List.length_append, List.length_singleton] at hsz
        rw [List.map_append, List.map_cons, List.map_nil, pr_eq p]
        walk_at "go"
        rw [if_pos (by omega)]
        refine iteI (fun h1 => ?_) fun h1 => ?_
        · walk_at "go"
          refine hn [_, _, _] _ ⟨L ++ [(p.1, j + 1)], some (.int j), some (.bl true), x5, rfl, ?_, hU.long hyes h1⟩
          rw [List.map_append]; rfl
        · walk_at "go"
          refine ⟨by rw [List.length_map]; exact hsz, ?_⟩
          refine hn [_, _, _] _ ⟨L ++ [p] ++ [(j, j + 1)], some (.int j), some (.bl true), x5, rfl, ?_, hU.new hyes fun q hq => ?_⟩
          · rw [List.map_append, List.map_append, List.append_assoc]; rfl
          · obtain ⟨z1, z2, z3⟩ := hU.c.init
            have := hU.e p (by simp)
            rcases List.mem_append.mp hq with hq | hq
            · have := z3 q hq; omega
            · rw [List.mem_singleton.mp hq]; exact h1
  · rintro js M' ⟨L, x3, x4, x5, rfl, rfl, hU⟩
    walk_at "go"
    have e : L = unS A B := unS_eq hU.c fun x => by
      rw [hU.i]
      constructor
      · exact fun z => z.2
      · intro z
        have := z.elim (fun z => (hA.2.2 x z).2) fun z => (hB.2.2 x z).2
        exact ⟨this, z⟩
    rw [e]
    exact .val rfl hM (nr_pt (.set (unS A B))) hQ
abbrev c168_5 : CSs := .cons (.set 0 (.idx (.var 0) (.int 2))) .nil
abbrev c168_4 : CSs := .cons (.expr (.mth .append (.var 1) (.cons (.idx (.var 0) (.int 1)) .nil))) c168_5
abbrev c168_3 : CSs := .cons (.ret (.var 1)) .nil
abbrev c168_2 : CSs := .cons (.expr (.mth .append (.var 1) (.cons (.var 0) .nil))) c168_3
abbrev c168_1 : CSs := .cons (.whil (.cmp .eq (.idx (.var 0) (.int 0)) (.str "choice")) c168_4) c168_2
abbrev c168 : CSs := .cons (.set 1 (.lst true .nil)) c168_1
def sp168 : SpD := fun ds M Q _ => ∃ t : Pt, ds = [ptD t] ∧ t.inn ≤ 60 ∧ Q (.lst ((alts t).map ptD)) M
theorem ln168 : ∀ ds M Q E, sp168 ds M Q E → ds.length = 1 := by
  rintro _ _ _ _ ⟨_, rfl, _⟩; rfl
theorem alts_len (t : Pt) : (alts t).length ≤ t.inn + 1 := by
  have h := alts_inn t
  have : ∀ l : List Pt, l.length ≤ sumI l := by
    intro l
    induction l with
    | nil => exact Nat.le_refl _
    | cons x l ih => rw [sumI_cons, List.length_cons]; omega
  have := this (alts t)
  omega
theorem rd168 {Φ : Nat → SpD} {κ : Nat → D} : RdOk Φ κ c168 2 (sp168) := by
  rintro ds M Q E hM hd ⟨t, rfl, hi, hQ⟩
  have hal := alts_len t
  walk_at "go"
  refine while_at [0] (fun m js M' => ∃ (u : Pt) (acc : List Pt), js = [some (ptD u)] ∧ M ++ [.lst (acc.map ptD)] = M' ∧ acc ++ alts u = alts t ∧ u.ht ≤ m) ⟨t.ht, [_], rfl, t, [], rfl, rfl, rfl, Nat.le_refl _⟩ ?_
  rintro m js M' nx ⟨u, acc, rfl, rfl, he, hm⟩ hn
  have hl := congrArg List.length he
  rw [List.length_append] at hl
  walk_at "go"
  rw [pt_0]
  walk_at "go"
  by_cases h : u.kd = 4
  · obtain ⟨x, y, rfl⟩ := kd_alt h
    have e : alts (.alt x y) = x :: alts y := rfl
    rw [e, List.length_cons] at hl
    rw [if_pos (by rw [nm_alt]; exact h), alt_D]
    walk_at "go"
    have hht : (Pt.alt x y).ht = max x.ht y.ht + 1 := rfl
    exact hn (m - 1) [_] _ (by omega) ⟨y, acc ++ [x], rfl, by rw [List.map_append]; rfl, by rw [List.append_assoc]; exact he, by omega⟩
  · rw [if_neg (by rw [nm_alt]; exact h)]
    have e : alts u = [u] := alts_else fun x y z => h (by rw [z]; rfl)
    rw [e] at he hl
    walk_at "go"
    rw [show acc.map ptD ++ [ptD u] = (alts t).map ptD by rw [← he, List.map_append]; rfl]
    exact .lst rfl hM (at_new0 ..) (Nat.le_refl _) (noRefs_map fun _ _ => nr_pt _) hQ
def c8 : CSs := .cons (.ret (.call 0 (.cons (.bin .add (.blt .list (.cons (.var 0) .nil)) (.blt .list (.cons (.var 1) .nil))) .nil))) .nil
def sp8 : SpD := fun ds M Q _ => ∃ A B : List (Int × Int), ds = [.tup (A.map pr), .tup (B.map pr)] ∧ A.length + B.length ≤ sizeLine ∧ ∀ L, Canon L → (∀ x : Int, inP L x = true ↔ inP A x = true ∨ inP B x = true) → Q (.tup (L.map pr)) M
theorem ln8 : ∀ ds M Q E, sp8 ds M Q E → ds.length = 2 := by
  rintro _ _ _ _ ⟨_, _, rfl, _⟩; rfl
theorem rd8 {Φ : Nat → SpD} {κ : Nat → D} (h0 : Φ 0 = sp0) : RdOk Φ κ c8 2 sp8 := by
  rintro ds M Q E hM hd ⟨A, B, rfl, hsz, hQ⟩
  rw [c8]; walk_at "rd"
  refine ⟨by simpa using hsz, ?_⟩
  rw [h0]
  refine ⟨_, A ++ B, rfl, by rw [List.map_append]; rfl, by simpa using hsz, fun L hL hx hl => .keep (hQ L hL fun x => ?_)⟩
  rw [hx, inP_append]
abbrev c169_3 : CSs := .cons (.ret (.tup (.cons (.str "set") (.cons (.call 8 (.cons (.idx (.var 0) (.int 1)) (.cons (.idx (.var 1) (.int 1)) .nil))) .nil)))) .nil
abbrev c169_4 : CSs := .cons (.ret (.tup (.cons (.str "sequence") (.cons (.idx (.var 0) (.int 1)) (.cons (.tup (.cons (.str "choice") (.cons (.idx (.var 0) (.int 2)) (.cons (.idx (.var 1) (.int 2)) .nil)))) .nil))))) .nil
abbrev c169_2 : CSs := .cons (.ret .non) .nil
abbrev c169_1 : CSs := .cons (.ifs (.and (.cmp .eq (.idx (.var 0) (.int 0)) (.str "sequence")) (.and (.cmp .eq (.idx (.var 1) (.int 0)) (.str "sequence")) (.and (.cmp .eq (.idx (.var 0) (.int 1)) (.idx (.var 1) (.int 1))) (.cmp .inn (.idx (.idx (.var 0) (.int 1)) (.int 0)) (.tup (.cons (.str "set") (.cons (.str "anchor") .nil))))))) c169_4 .nil) c169_2
abbrev c169 : CSs := .cons (.ifs (.and (.cmp .eq (.idx (.var 0) (.int 0)) (.str "set")) (.cmp .eq (.idx (.var 1) (.int 0)) (.str "set"))) c169_3 .nil) c169_1
def oPt : Option Pt → D
  | none => .non
  | some t => ptD t
def sp169 : SpD := fun ds M Q _ => ∃ a b : Pt, ds = [ptD a, ptD b] ∧ a.wf ∧ b.wf ∧ a.inn ≤ 60 ∧ b.inn ≤ 60 ∧ Q (oPt (mrg a b)) M
theorem ln169 : ∀ ds M Q E, sp169 ds M Q E → ds.length = 2 := by
  rintro _ _ _ _ ⟨_, _, rfl, _⟩; rfl
theorem in_sa (t : Pt) {M : Md} {QB : Bool → Prop} : cpD .inn (.str t.hd) (.tup [.str (Str.ofString "set"), .str (Str.ofString "anchor")]) M QB = QB t.leaf := by
  cases t <;> simp only [Pt.hd] <;> walk_at "rd2" <;> rfl
theorem rd169 {Φ : Nat → SpD} {κ : Nat → D} (h8 : Φ 8 = sp8) : RdOk Φ κ c169 2 (sp169) := by
  rintro ds M Q E hM hd ⟨a, b, rfl, ha, hb, hai, hbi, hQ⟩
  walk_at "go"
  rw [pt_0]
  walk_at "go"
  have rest : ¬ (a.kd = 0 ∧ b.kd = 0) → nxt Φ κ c169_1 (fun x _ M => E x M) (endsD M.length Q) [some (ptD a), some (ptD b)] M := by
    intro h0
    have no : mrg a b = none → nxt Φ κ c169_2 (fun x _ M => E x M) (endsD M.length Q) [some (ptD a), some (ptD b)] M := by
      intro h
      rw [h] at hQ
      walk_at "go"
      exact .keep hQ
    walk_at "go"
    rw [pt_0]
    walk_at "go"
    by_cases h1 : a.kd = 3
    · obtain ⟨x, y, rfl⟩ := kd_seq h1
      rw [if_pos (by rw [nm_seq]; exact h1)]
      rw [pt_0]
      try walk_at "go"
      by_cases h2 : b.kd = 3
      · obtain ⟨x', z, rfl⟩ := kd_seq h2
        rw [if_pos (by rw [nm_seq]; exact h2), seq_D, seq_D]
        have i1 : (Pt.seq x y).inn = x.inn + y.inn + 1 := rfl
        have i2 : (Pt.seq x' z).inn = x'.inn + z.inn + 1 := rfl
        have em : mrg (.seq x y) (.seq x' z) = if x = x' ∧ x.leaf = true then some (.seq x (.alt y z)) else none := rfl
        walk_at "go"
        rw [eq_tw (wf_seq.mp ha).1 (wf_seq.mp hb).1 (by omega) (by omega)]
        by_cases h3 : x = x'
        · rw [decide_eq_true h3]
          walk_at "go"
          rw [pt_0, in_sa]
          try walk_at "go"
          refine iteI (fun h4 => ?_) fun h4 => ?_
          · rw [em, if_pos ⟨h3, h4⟩] at hQ
            walk_at "go"
            exact .keep hQ
          · rw [if_neg (fun z => h4 z.2)] at em
            exact no em
        · rw [decide_eq_false h3]
          rw [if_neg (fun z => h3 z.1)] at em
          try walk_at "go"
          exact no em
      · rw [if_neg (by rw [nm_seq]; exact h2)]
        refine no ?_
        cases b <;> first | rfl | exact absurd rfl h2
    · rw [if_neg (by rw [nm_seq]; exact h1)]
      refine no ?_
      cases a <;> first | rfl | exact absurd rfl h1 | (cases b <;> first | rfl | exact absurd ⟨rfl, rfl⟩ h0)
  by_cases h1 : a.kd = 0
  · rw [if_pos (by rw [nm_set]; exact h1), pt_0]
    try walk_at "go"
    by_cases h2 : b.kd = 0
    · obtain ⟨A, rfl⟩ := kd_set h1
      obtain ⟨B, rfl⟩ := kd_set h2
      rw [if_pos (by rw [nm_set]; exact h2)]
      simp only [ptD]
      walk_at "go"
      rw [h8]
      refine ⟨A, B, rfl, by rw [size_eq]; have := ha.pl.1; have := hb.pl.1; omega, fun L hL hx => ?_⟩
      rw [unS_eq hL hx]
      walk_at "go"
      exact .keep hQ
    · rw [if_neg (by rw [nm_set]; exact h2)]
      exact rest fun z => h2 z.2
  · rw [if_neg (by rw [nm_set]; exact h1)]
    exact rest fun z => h1 z.1
abbrev c170_3 : CSs := .cons (.set 1 (.tup (.cons (.str "choice") (.cons (.var 2) (.cons (.var 1) .nil))))) .nil
abbrev c170_2 : CSs := .cons (.ret (.var 1)) .nil
abbrev c170_1 : CSs := .cons (.fors (.nm 2) (.seq (.rev false (.slc false (.var 0) .none (.some (.neg (.int 1)))))) c170_3) c170_2
abbrev c170 : CSs := .cons (.set 1 (.idx (.var 0) (.neg (.int 1)))) c170_1
def sp170 : SpD := fun ds M Q _ => ∃ (l : List Pt), ds = [.lst (l.map ptD)] ∧ l ≠ [] ∧ l.length ≤ 100 ∧ Q (ptD (choF l)) M
theorem ln170 : ∀ ds M Q E, sp170 ds M Q E → ds.length = 1 := by
  rintro _ _ _ _ ⟨_, rfl, _⟩; rfl
theorem ch_snoc {t : Pt} : ∀ {r : List Pt}, r.foldl (fun acc p => Pt.alt p acc) t = choF (r.reverse ++ [t]) := by
  intro r
  induction r generalizing t with
  | nil => rfl
  | cons x r ih =>
    rw [List.foldl_cons, ih, List.reverse_cons]
    have : ∀ l : List Pt, choF (l ++ [Pt.alt x t]) = choF (l ++ [x] ++ [t]) := by
      intro l
      induction l with
      | nil => rfl
      | cons y l ih2 =>
        rw [List.cons_append, choF_cons (by simp), ih2, List.cons_append, List.cons_append, choF_cons (by simp)]
    exact this _
theorem cut_init {α : Type} {xs : List α} {x : α} : cutD (xs ++ [x]) none (some (-1)) = xs := by
  unfold cutD
  have : HT.sIx (xs ++ [x]).length (xs ++ [x]).length (some (-1)) = xs.length := by
    unfold HT.sIx
    simp
    try omega
  rw [this, HT.sIx_none]
  simp
theorem rd170 {Φ : Nat → SpD} {κ : Nat → D} : RdOk Φ κ c170 3 (sp170) := by
  rintro ds M Q E hM hd ⟨l, rfl, hne, hl, hQ⟩
  obtain ⟨r, t, rfl⟩ : ∃ r t, l = r ++ [t] := by
    rcases snoc_cases l with h | h
    · exact absurd h hne
    · exact h
  rw [List.length_append, List.length_singleton] at hl
  walk_at "go"
  rw [atQ_some (d := ptD t) (by rw [List.map_append]; exact atI_m1)]
  walk_at "go"
  have ec : cutD ((r ++ [t]).map ptD) none (some (-1)) = r.map ptD := by rw [List.map_append]; exact cut_init
  rw [ec, ← List.map_reverse]
  have ef := ch_snoc (r := r.reverse) (t := t)
  rw [List.reverse_reverse] at ef
  rw [← ef] at hQ
  refine for_list (xs := r.reverse) (enc := ptD) [1, 2] (fun rem js M' => ∃ (u : Pt) (x2 : Option D), js = [some (ptD u), x2] ∧ M = M' ∧ rem.foldl (fun acc p => Pt.alt p acc) u = r.reverse.foldl (fun acc p => Pt.alt p acc) t) ⟨[_, _], rfl, t, _, rfl, rfl, rfl⟩ ?_ ?_
  · rintro x rem js M' nx ⟨u, x2, rfl, rfl, he⟩ hn
    walk_at "go"
    exact hn [_, _] _ ⟨.alt x u, some (ptD x), rfl, rfl, he⟩
  · rintro js M' ⟨u, x2, rfl, rfl, he⟩
    rw [List.foldl_nil] at he
    subst he
    walk_at "go"
    exact .keep hQ
abbrev c171 : CSs := .cons (.ret (.not (.call 37 (.cons (.var 0) .nil)))) .nil
def sp171 : SpD := fun ds M Q _ => ∃ t : Pt, ds = [ptD t] ∧ t.inn ≤ 60 ∧ t.grps.Pairwise (· < ·) ∧ Q (.bl (decide (t.grps = []))) M
theorem ln171 : ∀ ds M Q E, sp171 ds M Q E → ds.length = 1 := by
  rintro _ _ _ _ ⟨_, rfl, _⟩; rfl
theorem rd171 {Φ : Nat → SpD} {κ : Nat → D} (h37 : Φ 37 = sp37v (62)) : RdOk Φ κ c171 1 (sp171) := by
  rintro ds M Q E hM hd ⟨t, rfl, hi, hp, hQ⟩
  walk_at "go"
  rw [h37]
  have := ht_inn t
  refine ⟨t, rfl, by omega, hi, hp, ?_⟩
  walk_at "go"
  have e : (!!(t.grps.map iN).isEmpty) = decide (t.grps = []) := by
    cases t.grps <;> simp
  rw [e]
  exact .keep hQ
abbrev c167_8 : CSs := .cons (.ret (.call 167 (.cons (.idx (.var 0) (.int 1)) (.cons (.call 167 (.cons (.idx (.var 0) (.int 2)) (.cons (.var 1) .nil))) .nil)))) .nil
abbrev c167_9 : CSs := .cons (.ret (.var 1)) .nil
abbrev c167_10 : CSs := .cons (.ret (.var 0)) .nil
abbrev c167_11 : CSs := .cons (.ret (.call 170 (.cons (.bin .add (.lst false (.cons (.var 3) .nil)) (.slc false (.var 2) (.some (.int 1)) .none)) .nil))) .nil
abbrev c167_12 : CSs := .cons (.set 2 (.comp false (.var 4) (.nm 4) (.seq (.var 2)) (.some (.cmp .ne (.var 4) (.var 0))) [4])) .nil
abbrev c167_7 : CSs := .cons (.ret (.call 170 (.cons (.bin .add (.lst false (.cons (.var 0) .nil)) (.var 2)) .nil))) .nil
abbrev c167_6 : CSs := .cons (.ifs (.call 171 (.cons (.var 0) .nil)) c167_12 .nil) c167_7
abbrev c167_5 : CSs := .cons (.ifs (.cmp .notN (.var 3) .non) c167_11 .nil) c167_6
abbrev c167_4 : CSs := .cons (.set 3 (.call 169 (.cons (.var 0) (.cons (.idx (.var 2) (.int 0)) .nil)))) c167_5
abbrev c167_3 : CSs := .cons (.set 2 (.call 168 (.cons (.var 1) .nil))) c167_4
abbrev c167_2 : CSs := .cons (.ifs (.cmp .eq (.var 1) (.glob 18)) c167_10 .nil) c167_3
abbrev c167_1 : CSs := .cons (.ifs (.cmp .eq (.var 0) (.glob 18)) c167_9 .nil) c167_2
abbrev c167 : CSs := .cons (.ifs (.cmp .eq (.idx (.var 0) (.int 0)) (.str "choice")) c167_8 .nil) c167_1
def sp167 (n : Nat) : SpD := fun ds M Q _ => ∃ a b : Pt, ds = [ptD a, ptD b] ∧ a.ht < n ∧ Two a b ∧ Q (ptD (cj a b)) M
theorem ln167 (n : Nat) : ∀ ds M Q E, sp167 n ds M Q E → ds.length = 2 := by
  rintro _ _ _ _ ⟨_, _, rfl, _⟩; rfl
theorem z167 : ∀ ds M Q E, sp167 0 ds M Q E → False := by
  rintro _ _ _ _ ⟨_, _, _, h, _⟩; omega
theorem inn_mem : ∀ {l : List Pt} {x : Pt}, x ∈ l → x.inn + 1 ≤ sumI l
  | t :: l, x, h => by
    rw [sumI_cons]
    rcases List.mem_cons.mp h with rfl | h
    · omega
    · have := inn_mem h; omega
theorem oPt_some {t : Pt} : oPt (some t) = ptD t := rfl
theorem isN_pt {t : Pt} : isNon (ptD t) = false := by
  cases t with
  | look a p t k => cases k <;> rfl
  | _ => rfl
theorem rd167 {Φ : Nat → SpD} {κ : Nat → D} {n : Nat} (h167 : Φ 167 = sp167 n) (h168 : Φ 168 = sp168) (h169 : Φ 169 = sp169) (h170 : Φ 170 = sp170) (h171 : Φ 171 = sp171) (hk18 : κ 18 = k18) : RdOk Φ κ c167 5 (sp167 (n + 1)) := by
  rintro ds M Q E hM hd ⟨a, b, rfl, hh, hT, hQ⟩
  have e18 : κ 18 = ptD NV := hk18
  by_cases hs : a.kd = 4
  · obtain ⟨x, y, rfl⟩ := kd_alt hs
    have hht : x.ht < n ∧ y.ht < n := by have : (Pt.alt x y).ht = max x.ht y.ht + 1 := rfl; omega
    have hT2 := hT.in_a
    have j := cj_jn hT2.wa hT2.wb
    rw [alt_D]
    walk_at "go"
    rw [h167]
    refine ⟨y, b, rfl, hht.2, hT2, ?_⟩
    walk_at "go"
    exact ⟨x, cj y b, rfl, hht.1, two_out (wf_alt.mp hT.wa).1 j hT.inn hT.gr, .keep hQ⟩
  rw [cj_else (fun x y e => hs (by rw [e]; rfl))] at hQ
  have hi := hT.inn
  walk_at "go"
  rw [pt_0]
  walk_at "go"
  rw [if_neg (by rw [nm_alt]; exact hs)]
  walk_at "go"
  rw [e18, eq_tw hT.wa wf_nv (by omega) (Nat.zero_le _)]
  walk_at "go"
  refine iteI (fun h => ?_) fun h => ?_
  · rw [if_pos h] at hQ; walk_at "go"; exact .keep hQ
  rw [if_neg h] at hQ
  walk_at "go"
  rw [e18, eq_tw hT.wb wf_nv (by omega) (Nat.zero_le _)]
  walk_at "go"
  refine iteI (fun h => ?_) fun h => ?_
  · rw [if_pos h] at hQ; walk_at "go"; exact .keep hQ
  rw [if_neg h] at hQ
  walk_at "go"
  rw [h168]
  refine ⟨b, rfl, by omega, ?_⟩
  obtain ⟨o, r, eo⟩ := alts_ne b
  have hal := alts_len b
  have hw := alts_wf hT.wb
  have hin := alts_inn b
  unfold cjE at hQ
  rw [eo] at hQ hal hw hin ⊢
  dsimp only at hQ
  rw [List.length_cons] at hal
  have hoi : o.inn ≤ b.inn := by have := inn_mem (l := o :: r) List.mem_cons_self; omega
  rw [List.map_cons]
  walk_at "go"
  rw [h169]
  refine ⟨a, o, rfl, hT.wa, hw o List.mem_cons_self, by omega, by omega, ?_⟩
  cases hm : mrg a o with
  | some m =>
    rw [hm] at hQ
    dsimp only at hQ
    rw [oPt_some]
    walk_at "go"
    rw [isN_pt, if_pos rfl]
    walk_at "go"
    have ec : cutD (ptD o :: r.map ptD) (some 1) none = r.map ptD := by
      have := cut_frT (xs := ptD o :: r.map ptD) (n := 1)
      exact this
    rw [ec, h170]
    refine ⟨by rw [List.length_map, size_eq]; omega, ?_⟩
    exact ⟨m :: r, rfl, by simp, by simp; omega, .keep hQ⟩
  | none =>
    rw [hm] at hQ
    dsimp only at hQ
    rw [show oPt none = D.non from rfl]
    walk_at "go"
    rw [h171]
    refine ⟨a, rfl, by omega, hT.ga, ?_⟩
    by_cases hg : a.grps = []
    · rw [if_pos hg] at hQ
      rw [decide_eq_true hg]
      try walk_at "go"
      have ef : ((o :: r).filter fun t => decide (t ≠ a)).map ptD = (o :: r).filterMap fun t => if t = a then none else some (ptD t) := by
        rw [← List.filterMap_eq_filter, List.map_filterMap]
        congr 1
        funext t
        by_cases e : t = a
        · simp [Option.guard, e]
        · simp [Option.guard, e]
      refine comp_fmap (xs := o :: r) ptD (fun t => if t = a then none else some (ptD t)) (by exact trivial) (by rw [List.length_cons, size_eq]; omega) ?_ ?_
      · intro t ht yes no h
        have hti : t.inn ≤ b.inn := by have := inn_mem (l := o :: r) ht; omega
        walk_at "go"
        rw [ne_tw (hw t ht) hT.wa (by omega) (by omega)]
        by_cases e : t = a
        · rw [if_pos e] at h
          rw [decide_eq_false (by simp [e])]
          try walk_at "go"
          exact h
        · rw [if_neg e] at h
          rw [decide_eq_true (by simp [e])]
          try walk_at "go"
          exact h
      · rw [← ef]
        have hfl := List.length_filter_le (fun t => decide (t ≠ a)) (o :: r)
        rw [List.length_cons] at hfl
        generalize (o :: r).filter (fun t => decide (t ≠ a)) = fl at hfl hQ
        walk_at "go"
        rw [h170]
        exact ⟨a :: fl, rfl, by simp, by rw [List.length_cons]; omega, .keep hQ⟩
    · rw [if_neg hg] at hQ
      rw [decide_eq_false hg]
      try walk_at "go"
      rw [h170]
      exact ⟨a :: o :: r, rfl, by simp, by simp; omega, .keep hQ⟩
abbrev c160_17 : CSs := .cons (.ret (.call 160 (.cons (.idx (.var 0) (.int 1)) (.cons (.call 160 (.cons (.idx (.var 0) (.int 2)) (.cons (.var 1) .nil))) .nil)))) .nil
abbrev c160_18 : CSs := .cons (.ret (.var 1)) .nil
abbrev c160_19 : CSs := .cons (.ret (.var 0)) .nil
abbrev c160_20 : CSs := .cons (.set 2 (.idx (.var 1) (.int 1))) .nil
abbrev c160_21 : CSs := .cons (.set 3 (.call 161 (.cons (.var 0) (.cons (.var 2) .nil)))) .nil
abbrev c160_22 : CSs := .cons (.set 3 (.tup (.cons (.str "sequence") (.cons (.idx (.var 0) (.int 1)) (.cons (.tup (.cons (.str "choice") (.cons (.idx (.var 0) (.int 2)) (.cons (.idx (.var 2) (.int 2)) .nil)))) .nil))))) .nil
abbrev c160_23 : CSs := .cons (.ret (.ife (.cmp .eq (.idx (.var 1) (.int 0)) (.str "choice")) (.tup (.cons (.str "choice") (.cons (.var 3) (.cons (.idx (.var 1) (.int 2)) .nil)))) (.var 3))) .nil
abbrev c160_25 : CSs := .cons (.set 1 (.idx (.var 1) (.int 2))) .nil
abbrev c160_24 : CSs := .cons (.expr (.mth .append (.var 4) (.cons (.idx (.var 1) (.int 1)) .nil))) c160_25
abbrev c160_26 : CSs := .cons (.set 4 (.comp true (.var 5) (.nm 5) (.seq (.var 4)) (.some (.cmp .ne (.var 5) (.var 0))) [5])) .nil
abbrev c160_27 : CSs := .cons (.set 5 (.tup (.cons (.str "choice") (.cons (.idx (.var 4) (.bin .sub (.bin .sub (.blt .len (.cons (.var 4) .nil)) (.int 2)) (.var 6))) (.cons (.var 5) .nil))))) .nil
abbrev c160_16 : CSs := .cons (.ret (.var 5)) .nil
abbrev c160_15 : CSs := .cons (.fors (.nm 6) (.rng1 (.bin .sub (.blt .len (.cons (.var 4) .nil)) (.int 1))) c160_27) c160_16
abbrev c160_14 : CSs := .cons (.set 5 (.idx (.var 4) (.neg (.int 1)))) c160_15
abbrev c160_13 : CSs := .cons (.set 4 (.bin .cat (.lst false (.cons (.var 0) .nil)) (.var 4))) c160_14
abbrev c160_12 : CSs := .cons (.ifs (.call 158 (.cons (.var 0) .nil)) c160_26 .nil) c160_13
abbrev c160_11 : CSs := .cons (.expr (.mth .append (.var 4) (.cons (.var 1) .nil))) c160_12
abbrev c160_10 : CSs := .cons (.whil (.and (.cmp .eq (.idx (.var 1) (.int 0)) (.str "choice")) (.cmp .lt (.blt .len (.cons (.var 4) .nil)) (.int 200))) c160_24) c160_11
abbrev c160_9 : CSs := .cons (.set 4 (.lst true .nil)) c160_10
abbrev c160_8 : CSs := .cons (.ifs (.cmp .notN (.var 3) .non) c160_23 .nil) c160_9
abbrev c160_7 : CSs := .cons (.ifs (.and (.cmp .eq (.idx (.var 0) (.int 0)) (.str "sequence")) (.and (.cmp .eq (.idx (.var 2) (.int 0)) (.str "sequence")) (.and (.cmp .eq (.idx (.var 0) (.int 1)) (.idx (.var 2) (.int 1))) (.cmp .inn (.idx (.idx (.var 0) (.int 1)) (.int 0)) (.lst false (.cons (.str "set") (.cons (.str "anchor") .nil))))))) c160_22 .nil) c160_8
abbrev c160_6 : CSs := .cons (.ifs (.and (.cmp .eq (.idx (.var 0) (.int 0)) (.str "set")) (.cmp .eq (.idx (.var 2) (.int 0)) (.str "set"))) c160_21 .nil) c160_7
abbrev c160_5 : CSs := .cons (.set 3 .non) c160_6
abbrev c160_4 : CSs := .cons (.ifs (.cmp .eq (.idx (.var 1) (.int 0)) (.str "choice")) c160_20 .nil) c160_5
abbrev c160_3 : CSs := .cons (.set 2 (.var 1)) c160_4
abbrev c160_2 : CSs := .cons (.ifs (.cmp .eq (.var 1) (.tup (.cons (.str "set") (.cons (.tup .nil) .nil)))) c160_19 .nil) c160_3
abbrev c160_1 : CSs := .cons (.ifs (.cmp .eq (.var 0) (.tup (.cons (.str "set") (.cons (.tup .nil) .nil)))) c160_18 .nil) c160_2
abbrev c160 : CSs := .cons (.ifs (.cmp .eq (.idx (.var 0) (.int 0)) (.str "choice")) c160_17 .nil) c160_1
def sp160 (n : Nat) : SpD := fun ds M Q _ => ∃ a b : Pt, ds = [ptD a, ptD b] ∧ a.ht < n ∧ Two a b ∧ Q (ptD (cj a b)) M
theorem ln160 (n : Nat) : ∀ ds M Q E, sp160 n ds M Q E → ds.length = 2 := by
  rintro _ _ _ _ ⟨_, _, rfl, _⟩; rfl
theorem z160 : ∀ ds M Q E, sp160 0 ds M Q E → False := by
  rintro _ _ _ _ ⟨_, _, _, h, _⟩; omega
theorem in_saL (t : Pt) {M : Md} {QB : Bool → Prop} : cpD .inn (.str t.hd) (.lst [.str (Str.ofString "set"), .str (Str.ofString "anchor")]) M QB = QB t.leaf := by
  exact (cp_inn_lst rfl rfl).trans ((cp_inn_tup (M := M) rfl rfl).symm.trans (in_sa t))
theorem cat_l {ds es : List D} {k : Nat} {M : Md} {Q : QE} (h : M[k]? = some (MO.lst es)) : opD .cat (.lst ds) (.ref k) M Q = (ds.length + es.length ≤ sizeLine ∧ Q (.ref M.length) (M ++ [MO.lst (ds ++ es)])) := by
  show (match lstOf (.lst ds) M, lstOf (.ref k) M with
    | some a, some b => a.length + b.length ≤ sizeLine ∧ Q (.ref M.length) (M ++ [MO.lst (a ++ b)])
    | _, _ => False) = _
  rw [lstOf_R, h]; rfl
theorem choF_drop {l : List Pt} {i : Nat} {x : Pt} (hx : l[i]? = some x) (hi : i + 1 < l.length) : choF (l.drop i) = .alt x (choF (l.drop (i + 1))) := by
  have h := (List.getElem?_eq_some_iff.mp hx)
  obtain ⟨h1, h2⟩ := h
  rw [List.drop_eq_getElem_cons h1, h2, choF_cons]
  intro z
  have := congrArg List.length z
  rw [List.length_drop, List.length_nil] at this
  omega
/-- the first of the alternatives, and what stands behind it -/
def Pt.fst (b : Pt) : Pt := match b with
  | .alt x _ => x
  | t => t
def rejoin (b m : Pt) : Pt := match b with
  | .alt _ y => .alt m y
  | _ => m
theorem cjE_law {a b : Pt} : cjE a b = match mrg a b.fst with
    | some m => rejoin b m
    | none => choF (a :: if a.grps = [] then (alts b).filter (fun t => decide (t ≠ a)) else alts b) := by
  unfold cjE
  cases b with
  | alt x y =>
    show (match mrg a x with
      | some m => choF (m :: alts y)
      | none => _) = _
    cases h : mrg a (Pt.alt x y).fst with
    | some m =>
      have h : mrg a x = some m := h
      rw [h]
      obtain ⟨u, r, e⟩ := alts_ne y
      show choF (m :: alts y) = .alt m y
      rw [choF_cons (by rw [e]; simp), choF_alts]
    | none =>
      have h : mrg a x = none := h
      rw [h]; rfl
  | _ => rfl
theorem rd160 {Φ : Nat → SpD} {κ : Nat → D} {n : Nat} (h160 : Φ 160 = sp160 n) (h161 : Φ 161 = sp161) (h158 : Φ 158 = sp158 (62)) : RdOk Φ κ c160 7 (sp160 (n + 1)) := by
  rintro ds M Q E hM hd ⟨a, b, rfl, hh, hT, hQ⟩
  by_cases hs : a.kd = 4
  · obtain ⟨x, y, rfl⟩ := kd_alt hs
    have hht : x.ht < n ∧ y.ht < n := by have : (Pt.alt x y).ht = max x.ht y.ht + 1 := rfl; omega
    have hT2 := hT.in_a
    have j := cj_jn hT2.wa hT2.wb
    rw [alt_D]
    walk_at "go"
    rw [h160]
    refine ⟨y, b, rfl, hht.2, hT2, ?_⟩
    walk_at "go"
    exact ⟨x, cj y b, rfl, hht.1, two_out (wf_alt.mp hT.wa).1 j hT.inn hT.gr, .keep hQ⟩
  rw [cj_else (fun x y e => hs (by rw [e]; rfl))] at hQ
  have hi := hT.inn
  walk_at "go"
  rw [pt_0]
  walk_at "go"
  rw [if_neg (by rw [nm_alt]; exact hs)]
  walk_at "go"
  rw [nv_D, eq_tw hT.wa wf_nv (by omega) (Nat.zero_le _)]
  walk_at "go"
  refine iteI (fun h => ?_) fun h => ?_
  · rw [if_pos h] at hQ; walk_at "go"; exact .keep hQ
  rw [if_neg h] at hQ
  walk_at "go"
  rw [nv_D, eq_tw hT.wb wf_nv (by omega) (Nat.zero_le _)]
  walk_at "go"
  refine iteI (fun h => ?_) fun h => ?_
  · rw [if_pos h] at hQ; walk_at "go"; exact .keep hQ
  rw [if_neg h, cjE_law] at hQ
  have hta := ht_inn a
  have hfw : b.fst.wf ∧ b.fst.inn ≤ b.inn := by
    have := hT.wb
    cases b with
    | alt x y => exact ⟨(wf_alt.mp this).1, by show x.inn ≤ x.inn + y.inn + 1; omega⟩
    | _ => exact ⟨this, Nat.le_refl _⟩
  have row : mrg a b.fst = none → ∀ x2 x3, nxt Φ κ c160_9 (fun x _ M => E x M) (endsD M.length Q) [some (ptD a), some (ptD b), x2, x3, none, none, none] M := by
    intro hm x2 x3
    rw [hm] at hQ
    dsimp only at hQ
    have hal := alts_len b
    have hw := alts_wf hT.wb
    have hin := alts_inn b
    walk_at "go"
    refine while_at [1] (fun m js M' => ∃ (u : Pt) (acc : List Pt), js = [some (ptD u)] ∧ M ++ [.lst (acc.map ptD)] = M' ∧ acc ++ alts u = alts b ∧ u.ht ≤ m) ⟨b.ht, [_], rfl, b, [], rfl, rfl, rfl, Nat.le_refl _⟩ ?_
    rintro m js M' nx ⟨u, acc, rfl, rfl, he, hm⟩ hn
    have hl := congrArg List.length he
    rw [List.length_append] at hl
    walk_at "go"
    rw [pt_0]
    walk_at "go"
    by_cases h4 : u.kd = 4
    · obtain ⟨x, y, rfl⟩ := kd_alt h4
      have e : alts (.alt x y) = x :: alts y := rfl
      rw [e, List.length_cons] at hl
      rw [if_pos (by rw [nm_alt]; exact h4), alt_D]
      walk_at "go"
      rw [if_pos (by rw [List.length_map]; omega)]
      walk_at "go"
      have hht : (Pt.alt x y).ht = max x.ht y.ht + 1 := rfl
      exact hn (m - 1) [_] _ (by omega) ⟨y, acc ++ [x], rfl, by rw [List.map_append]; rfl, by rw [List.append_assoc]; exact he, by omega⟩
    · rw [if_neg (by rw [nm_alt]; exact h4)]
      have e : alts u = [u] := alts_else fun x y z => h4 (by rw [z]; rfl)
      rw [e] at he hl
      walk_at "go"
      rw [show acc.map ptD ++ [ptD u] = (alts b).map ptD by rw [← he, List.map_append]; rfl]
      walk_at "go"
      rw [h158]
      refine ⟨a, rfl, by omega, ?_⟩
      have rest : ∀ (r : List Pt) (L : Md) (k : Nat), (M ++ L)[k]? = some (.lst (r.map ptD)) → r.length ≤ 61 → Q (ptD (choF (a :: r))) M → opD .cat (.lst [ptD a]) (.ref k) (M ++ L) fun d M1 => nxt Φ κ c160_14 (fun x _ M => E x M) (endsD M.length Q) [some (ptD a), some (ptD u), x2, x3, some d, none, none] M1 := by
        intro r L k hk hrl hq
        have hrow : ((a :: r).map ptD) = [ptD a] ++ r.map ptD := rfl
        obtain ⟨row, hrw⟩ : ∃ row, row = a :: r := ⟨_, rfl⟩
        rw [← hrw] at hrow hq
        have hrl2 : row.length = r.length + 1 := by rw [hrw, List.length_cons]
        obtain ⟨rw0, last, hlast⟩ : ∃ rw0 last, row = rw0 ++ [last] := by
          rcases snoc_cases row with z | z
          · rw [z] at hrl2; cases hrl2
          · exact z
        have hl0 : rw0.length + 1 = row.length := by rw [hlast, List.length_append]; rfl
        rw [cat_l hk]
        refine ⟨by rw [List.length_map, size_eq]; show 1 + _ ≤ _; omega, ?_⟩
        rw [← hrow]
        obtain ⟨N, hN⟩ : ∃ N, N = M ++ L ++ [MO.lst (row.map ptD)] := ⟨_, rfl⟩
        have hNk : N[(M ++ L).length]? = some (.lst (row.map ptD)) := by rw [hN]; simp
        obtain ⟨kk, hkk⟩ : ∃ kk, kk = (M ++ L).length := ⟨_, rfl⟩
        rw [← hN, ← hkk]
        rw [← hkk] at hNk
        walk_at "go"
        rw [hNk]
        walk_at "go"
        rw [atQ_some (d := ptD last) (by rw [hlast, List.map_append]; exact atI_m1)]
        walk_at "go"
        rw [hNk]
        walk_at "go"
        rw [List.length_map]
        refine for_rng [5, 6] (fun j js M' => ∃ (x6 : Option D) (i : Nat), js = [some (ptD (choF (row.drop i))), x6] ∧ N = M' ∧ (i : Int) + j + 1 = row.length) (by omega) ⟨[_, _], rfl, none, rw0.length, ?_, rfl, by omega⟩ ?_ ?_
        · rw [hlast, List.drop_left]; rfl
        · rintro j js M' nx2 j0 j1 ⟨x6, i, rfl, rfl, hi⟩ hn2
          obtain ⟨i, rfl⟩ : ∃ q, i = q + 1 := ⟨i - 1, by omega⟩
          obtain ⟨x, hx⟩ : ∃ x, row[i]? = some x := ⟨_, List.getElem?_eq_getElem (by omega)⟩
          walk_at "go"
          rw [hNk]
          walk_at "go"
          rw [List.length_map]
          try rw [hNk]
          try walk_at "go"
          rw [show (row.length : Int) - 2 - j = (i : Int) by omega, atQ_at hx]
          walk_at "go"
          exact hn2 [_, _] _ ⟨some (.int j), i, by rw [choF_drop hx (by omega)]; rfl, rfl, by omega⟩
        · rintro js M' ⟨x6, i, rfl, rfl, hi⟩
          have : i = 0 := by omega
          subst this
          rw [List.drop_zero]
          walk_at "go"
          rw [hN, List.append_assoc]
          exact .val rfl hM (nr_pt _) hq
      by_cases hg : a.grps = []
      · rw [if_pos hg] at hQ
        rw [decide_eq_true hg]
        walk_at "go"
        have hfl := List.length_filter_le (fun t => decide (t ≠ a)) (alts b)
        have ef : ((alts b).filter fun t => decide (t ≠ a)).map ptD = (alts b).filterMap fun t => if t = a then none else some (ptD t) := by
          rw [← List.filterMap_eq_filter, List.map_filterMap]
          congr 1
          funext t
          by_cases e : t = a
          · simp [Option.guard, e]
          · simp [Option.guard, e]
        refine comp_fmap (xs := alts b) ptD (fun t => if t = a then none else some (ptD t)) (show (M ++ [MO.lst ((alts b).map ptD)])[M.length]? = _ by rw [at_new0]; rfl) (by rw [size_eq]; omega) ?_ ?_
        · intro t ht yes no h
          have hti : t.inn ≤ b.inn := by have := inn_mem ht; omega
          walk_at "go"
          rw [ne_tw (hw t ht) hT.wa (by omega) (by omega)]
          by_cases e : t = a
          · rw [if_pos e] at h
            rw [decide_eq_false (by simp [e])]
            try walk_at "go"
            exact h
          · rw [if_neg e] at h
            rw [decide_eq_true (by simp [e])]
            try walk_at "go"
            exact h
        · rw [← ef]
          refine nxt_of ?_
          try walk_at "rd2"
          refine rest ((alts b).filter fun t => decide (t ≠ a)) [_, _] _ ?_ (by omega) hQ
          rw [List.getElem?_append_right (by omega), Nat.add_sub_cancel_left]; rfl
      · rw [if_neg hg] at hQ
        rw [decide_eq_false hg]
        walk_at "go"
        exact rest (alts b) [_] _ (by rw [at_new0]; rfl) (by omega) hQ
  have done : ∀ m, mrg a b.fst = some m → nxt Φ κ c160_8 (fun x _ M => E x M) (endsD M.length Q) [some (ptD a), some (ptD b), some (ptD b.fst), some (ptD m), none, none, none] M := by
    intro m hm
    rw [hm] at hQ
    dsimp only at hQ
    walk_at "go"
    rw [isN_pt]
    walk_at "go"
    rw [pt_0]
    walk_at "go"
    by_cases h4 : b.kd = 4
    · obtain ⟨x, y, rfl⟩ := kd_alt h4
      rw [if_pos (by rw [nm_alt]; exact h4), alt_D]
      walk_at "go"
      exact .keep hQ
    · rw [if_neg (by rw [nm_alt]; exact h4)]
      have e : rejoin b m = m := by cases b <;> first | rfl | exact absurd rfl h4
      rw [e] at hQ
      exact .keep hQ
  have mid : nxt Φ κ c160_5 (fun x _ M => E x M) (endsD M.length Q) [some (ptD a), some (ptD b), some (ptD b.fst), none, none, none, none] M := by
    generalize b.fst = o at *
    have none_ : mrg a o = none → nxt Φ κ c160_8 (fun x _ M => E x M) (endsD M.length Q) [some (ptD a), some (ptD b), some (ptD o), some .non, none, none, none] M := by
      intro h
      refine nxt_of ?_
      walk_at "rd2"
      exact row h _ _
    walk_at "go"
    rw [pt_0]
    walk_at "go"
    have rest : ¬ (a.kd = 0 ∧ o.kd = 0) → nxt Φ κ c160_7 (fun x _ M => E x M) (endsD M.length Q) [some (ptD a), some (ptD b), some (ptD o), some .non, none, none, none] M := by
      intro h0
      walk_at "go"
      rw [pt_0]
      walk_at "go"
      by_cases h1 : a.kd = 3
      · obtain ⟨x, y, rfl⟩ := kd_seq h1
        rw [if_pos (by rw [nm_seq]; exact h1)]
        rw [pt_0]
        try walk_at "go"
        by_cases h2 : o.kd = 3
        · obtain ⟨x', z, rfl⟩ := kd_seq h2
          rw [if_pos (by rw [nm_seq]; exact h2), seq_D, seq_D]
          have i1 : (Pt.seq x y).inn = x.inn + y.inn + 1 := rfl
          have i2 : (Pt.seq x' z).inn = x'.inn + z.inn + 1 := rfl
          have em : mrg (.seq x y) (.seq x' z) = if x = x' ∧ x.leaf = true then some (.seq x (.alt y z)) else none := rfl
          walk_at "go"
          rw [eq_tw (wf_seq.mp hT.wa).1 (wf_seq.mp hfw.1).1 (by omega) (by omega)]
          by_cases h3 : x = x'
          · rw [decide_eq_true h3]
            walk_at "go"
            rw [pt_0]
            try walk_at "go"
            rw [in_saL]
            try walk_at "go"
            refine iteI (fun h4 => ?_) fun h4 => ?_
            · rw [if_pos ⟨h3, h4⟩] at em
              refine nxt_of ?_
              walk_at "rd2"
              exact done _ em
            · rw [if_neg (fun z => h4 z.2)] at em
              exact none_ em
          · rw [decide_eq_false h3]
            rw [if_neg (fun z => h3 z.1)] at em
            try walk_at "rd2"
            exact none_ em
        · rw [if_neg (by rw [nm_seq]; exact h2)]
          refine none_ ?_
          cases o <;> first | rfl | exact absurd rfl h2
      · rw [if_neg (by rw [nm_seq]; exact h1)]
        refine none_ ?_
        cases a <;> first | rfl | exact absurd rfl h1 | (cases o <;> first | rfl | exact absurd ⟨rfl, rfl⟩ h0)
    by_cases h1 : a.kd = 0
    · rw [if_pos (by rw [nm_set]; exact h1), pt_0]
      try walk_at "go"
      by_cases h2 : o.kd = 0
      · obtain ⟨A, rfl⟩ := kd_set h1
        obtain ⟨B, rfl⟩ := kd_set h2
        rw [if_pos (by rw [nm_set]; exact h2)]
        walk_at "go"
        rw [h161]
        refine ⟨A, B, rfl, hT.wa.pl, hfw.1.pl, ?_⟩
        walk_at "go"
        rw [pt_0]
        walk_at "go"
        rw [if_neg (by rw [nm_seq]; intro h; cases h)]
        exact done _ rfl
      · rw [if_neg (by rw [nm_set]; exact h2)]
        exact rest fun z => h2 z.2
    · rw [if_neg (by rw [nm_set]; exact h1)]
      exact rest fun z => h1 z.1
  walk_at "go"
  rw [pt_0]
  walk_at "go"
  by_cases h4 : b.kd = 4
  · obtain ⟨x, y, rfl⟩ := kd_alt h4
    rw [if_pos (by rw [nm_alt]; exact h4)]
    rw [alt_D] at mid ⊢
    walk_at "go"
    exact mid
  · rw [if_neg (by rw [nm_alt]; exact h4)]
    have e : b.fst = b := by cases b <;> first | rfl | exact absurd rfl h4
    rw [e] at mid
    exact mid
abbrev c172_5 : CSs := .cons (.ret (.call 172 (.cons (.idx (.var 0) (.int 1)) (.cons (.call 172 (.cons (.idx (.var 0) (.int 2)) (.cons (.var 1) .nil))) .nil)))) .nil
abbrev c172_6 : CSs := .cons (.ret (.var 1)) .nil
abbrev c172_7 : CSs := .cons (.ret (.var 0)) .nil
abbrev c172_8 : CSs := .cons (.ret (.glob 18)) .nil
abbrev c172_4 : CSs := .cons (.ret (.tup (.cons (.str "sequence") (.cons (.var 0) (.cons (.var 1) .nil))))) .nil
abbrev c172_3 : CSs := .cons (.ifs (.or (.and (.cmp .eq (.var 0) (.glob 18)) (.call 171 (.cons (.var 1) .nil))) (.and (.cmp .eq (.var 1) (.glob 18)) (.call 171 (.cons (.var 0) .nil)))) c172_8 .nil) c172_4
abbrev c172_2 : CSs := .cons (.ifs (.cmp .eq (.var 1) (.glob 19)) c172_7 .nil) c172_3
abbrev c172_1 : CSs := .cons (.ifs (.cmp .eq (.var 0) (.glob 19)) c172_6 .nil) c172_2
abbrev c172 : CSs := .cons (.ifs (.cmp .eq (.idx (.var 0) (.int 0)) (.str "sequence")) c172_5 .nil) c172_1
def sp172 (n : Nat) : SpD := fun ds M Q _ => ∃ a b : Pt, ds = [ptD a, ptD b] ∧ a.ht < n ∧ Two a b ∧ Q (ptD (sj a b)) M
theorem ln172 (n : Nat) : ∀ ds M Q E, sp172 n ds M Q E → ds.length = 2 := by
  rintro _ _ _ _ ⟨_, _, rfl, _⟩; rfl
theorem z172 : ∀ ds M Q E, sp172 0 ds M Q E → False := by
  rintro _ _ _ _ ⟨_, _, _, h, _⟩; omega
theorem rd172 {Φ : Nat → SpD} {κ : Nat → D} {n : Nat} (h172 : Φ 172 = sp172 n) (h171 : Φ 171 = sp171) (hk19 : κ 19 = k19) (hk18 : κ 18 = k18) : RdOk Φ κ c172 2 (sp172 (n + 1)) := by
  rintro ds M Q E hM hd ⟨a, b, rfl, hh, hT, hQ⟩
  have e18 : κ 18 = ptD NV := hk18
  have e19 : κ 19 = ptD .empty := hk19
  by_cases hs : a.kd = 3
  · obtain ⟨x, y, rfl⟩ := kd_seq hs
    have hht : x.ht < n ∧ y.ht < n := by have : (Pt.seq x y).ht = max x.ht y.ht + 1 := rfl; omega
    have hT2 := hT.in_s
    have j := sj_jn hT2.wa hT2.wb
    rw [seq_D]
    walk_at "go"
    rw [h172]
    refine ⟨y, b, rfl, hht.2, hT2, ?_⟩
    walk_at "go"
    exact ⟨x, sj y b, rfl, hht.1, two_out (wf_seq.mp hT.wa).1 j hT.inn hT.gr, .keep hQ⟩
  rw [sj_else (fun x y e => hs (by rw [e]; rfl))] at hQ
  have hi := hT.inn
  have hta := ht_inn a
  have htb := ht_inn b
  walk_at "go"
  rw [pt_0]
  walk_at "go"
  rw [if_neg (by rw [nm_seq]; exact hs)]
  walk_at "go"
  rw [e19, eq_tw hT.wa wf_emp (by omega) (Nat.zero_le _)]
  walk_at "go"
  refine iteI (fun h => ?_) fun h => ?_
  · rw [if_pos h] at hQ; walk_at "go"; exact .keep hQ
  rw [if_neg h] at hQ
  walk_at "go"
  rw [e19, eq_tw hT.wb wf_emp (by omega) (Nat.zero_le _)]
  walk_at "go"
  refine iteI (fun h => ?_) fun h => ?_
  · rw [if_pos h] at hQ; walk_at "go"; exact .keep hQ
  rw [if_neg h] at hQ
  have els : ¬ ((a = NV ∧ b.grps = []) ∨ (b = NV ∧ a.grps = [])) → Fin M.length Q (ptD (.seq a b)) M := fun z => by
    rw [if_neg z] at hQ; exact .keep hQ
  have yes : (a = NV ∧ b.grps = []) ∨ (b = NV ∧ a.grps = []) → Fin M.length Q (κ 18) M := fun z => by
    rw [if_pos z] at hQ; rw [e18]; exact .keep hQ
  walk_at "go"
  rw [e18, eq_tw hT.wa wf_nv (by omega) (Nat.zero_le _)]
  by_cases h1a : a = NV
  · rw [decide_eq_true h1a]
    try walk_at "go"
    rw [h171]
    refine ⟨b, rfl, by omega, hT.gb, ?_⟩
    by_cases h3 : b.grps = []
    · rw [decide_eq_true h3]
      try walk_at "go"
      exact yes (.inl ⟨h1a, h3⟩)
    · rw [decide_eq_false h3]
      have h1 : ¬ (a = NV ∧ b.grps = []) := fun z => h3 z.2
      try walk_at "go"
      try rw [e18]
      rw [eq_tw hT.wb wf_nv (by omega) (Nat.zero_le _)]
      by_cases h2 : b = NV
      · rw [decide_eq_true h2]
        try walk_at "go"
        try rw [h171]
        refine ⟨a, rfl, by omega, hT.ga, ?_⟩
        by_cases h3 : a.grps = []
        · rw [decide_eq_true h3]
          try walk_at "go"
          exact yes (.inr ⟨h2, h3⟩)
        · rw [decide_eq_false h3]
          try walk_at "go"
          exact els fun z => z.elim h1 fun z => h3 z.2
      · rw [decide_eq_false h2]
        try walk_at "go"
        exact els fun z => z.elim h1 fun z => h2 z.1
  · rw [decide_eq_false h1a]
    have h1 : ¬ (a = NV ∧ b.grps = []) := fun z => h1a z.1
    try walk_at "go"
    try rw [e18]
    rw [eq_tw hT.wb wf_nv (by omega) (Nat.zero_le _)]
    by_cases h2 : b = NV
    · rw [decide_eq_true h2]
      try walk_at "go"
      try rw [h171]
      refine ⟨a, rfl, by omega, hT.ga, ?_⟩
      by_cases h3 : a.grps = []
      · rw [decide_eq_true h3]
        try walk_at "go"
        exact yes (.inr ⟨h2, h3⟩)
      · rw [decide_eq_false h3]
        try walk_at "go"
        exact els fun z => z.elim h1 fun z => h3 z.2
    · rw [decide_eq_false h2]
      try walk_at "go"
      exact els fun z => z.elim h1 fun z => h2 z.1
abbrev c176_5 : CSs := .cons (.ret (.glob 19)) .nil
abbrev c176_6 : CSs := .cons (.ret (.glob 18)) .nil
abbrev c176_10 : CSs := .cons (.ret (.glob 19)) .nil
abbrev c176_11 : CSs := .cons (.ret (.var 0)) .nil
abbrev c176_12 : CSs := .cons (.ret (.var 0)) .nil
abbrev c176_9 : CSs := .cons (.ifs (.and (.cmp .eq (.idx (.var 0) (.int 0)) (.str "repeat")) (.and (.cmp .eq (.var 2) (.int 0)) (.and (.cmp .isN (.var 3) .non) (.cmp .eq (.slc false (.var 0) (.some (.int 2)) .none) (.tup (.cons (.int 0) (.cons .non (.cons (.var 4) .nil)))))))) c176_12 .nil) .nil
abbrev c176_8 : CSs := .cons (.ifs (.and (.cmp .eq (.var 2) (.int 1)) (.cmp .eq (.var 3) (.int 1))) c176_11 .nil) c176_9
abbrev c176_7 : CSs := .cons (.ifs (.cmp .eq (.var 3) (.int 0)) c176_10 .nil) c176_8
abbrev c176_4 : CSs := .cons (.ret (.tup (.cons (.str "repeat") (.cons (.var 0) (.cons (.var 2) (.cons (.var 3) (.cons (.var 4) .nil))))))) .nil
abbrev c176_3 : CSs := .cons (.ifs (.call 171 (.cons (.var 0) .nil)) c176_7 .nil) c176_4
abbrev c176_2 : CSs := .cons (.ifs (.cmp .eq (.var 0) (.glob 18)) c176_6 .nil) c176_3
abbrev c176_1 : CSs := .cons (.ifs (.or (.cmp .eq (.var 0) (.glob 19)) (.and (.cmp .eq (.var 0) (.glob 18)) (.cmp .eq (.var 2) (.int 0)))) c176_5 .nil) c176_2
abbrev c176 : CSs := .cons (.setP [2, 3, 4] (.cons (.idx (.var 1) (.int 2)) (.cons (.idx (.var 1) (.int 3)) (.cons (.idx (.var 1) (.int 4)) .nil)))) c176_1
def sp176 : SpD := fun ds M Q _ => ∃ (i t : Pt) (lo : Nat) (hi : Option Nat) (g : Bool), ds = [ptD i, ptD (.rep t lo hi g)] ∧ i.wf ∧ i.inn ≤ 60 ∧ i.grps.Pairwise (· < ·) ∧ Q (ptD (srp i lo hi g)) M
theorem ln176 : ∀ ds M Q E, sp176 ds M Q E → ds.length = 2 := by
  rintro _ _ _ _ ⟨_, _, _, _, _, rfl, _⟩; rfl
theorem rd176 {Φ : Nat → SpD} {κ : Nat → D} (h171 : Φ 171 = sp171) (hk19 : κ 19 = k19) (hk18 : κ 18 = k18) : RdOk Φ κ c176 5 (sp176) := by
  rintro ds M Q E hM hd ⟨i, t, lo, hi, g, rfl, hw, hn, hg, hQ⟩
  have e18 : κ 18 = ptD NV := hk18
  have e19 : κ 19 = ptD .empty := hk19
  rw [show ptD (.rep t lo hi g) = .tup [.str "repeat", ptD t, .int lo, onD hi, .bl g] from rfl]
  have wf1 : i.inn ≤ 60 := hn
  walk_at "go"
  unfold srp at hQ
  by_cases h1 : i = .empty
  · rw [if_pos (.inl h1)] at hQ
    rw [e19, eq_tw hw wf_emp hn (Nat.zero_le _), decide_eq_true h1]
    walk_at "go"
    rw [e19]; exact .keep hQ
  rw [e19, eq_tw hw wf_emp hn (Nat.zero_le _), decide_eq_false h1]
  walk_at "go"
  rw [e18, eq_tw hw wf_nv hn (Nat.zero_le _)]
  by_cases h2 : i = NV
  · rw [decide_eq_true h2]
    walk_at "go"
    refine iteI (fun h3 => ?_) fun h3 => ?_
    · rw [if_pos (.inr ⟨h2, by omega⟩)] at hQ
      walk_at "go"
      rw [e19]; exact .keep hQ
    · rw [if_neg (fun z => z.elim h1 fun z => h3 (by omega)), if_pos h2] at hQ
      walk_at "go"
      rw [e18, eq_tw hw wf_nv hn (Nat.zero_le _), decide_eq_true h2]
      walk_at "go"
      rw [e18]; exact .keep hQ
  rw [decide_eq_false h2]
  rw [if_neg (fun z => z.elim h1 fun z => h2 z.1), if_neg h2] at hQ
  walk_at "go"
  rw [e18, eq_tw hw wf_nv hn (Nat.zero_le _), decide_eq_false h2]
  walk_at "go"
  rw [h171]
  refine ⟨i, rfl, hn, hg, ?_⟩
  by_cases h3 : i.grps = []
  · rw [decide_eq_true h3]
    have els : ¬ (i.grps = [] ∧ hi = some 0) → ¬ (i.grps = [] ∧ lo = 1 ∧ hi = some 1) → ¬ (i.grps = [] ∧ tailR i g = true ∧ lo = 0 ∧ hi = none) → Fin M.length Q (D.tup [.str "repeat", ptD i, .int lo, onD hi, .bl g]) M := fun z1 z2 z3 => by
      rw [if_neg z1, if_neg z2, if_neg z3] at hQ; exact .keep hQ
    cases hi with
    | some k =>
      simp only [onD] at els ⊢
      have l2 : ¬ k = 0 → ¬ (lo = 1 ∧ k = 1) → nxt Φ κ c176_9 (fun x _ M => E x M) ⟨nxt Φ κ c176_4 (fun x _ M => E x M) (endsD M.length Q), (endsD M.length Q).rt, (endsD M.length Q).bk, (endsD M.length Q).ct⟩ [some (ptD i), some (.tup [.str "repeat", ptD t, .int lo, .int k, .bl g]), some (.int lo), some (.int k), some (.bl g)] M := fun z1 z2 => by
        have fin := els (fun z => z1 (by simpa using z.2)) (fun z => z2 ⟨z.2.1, by simpa using z.2.2⟩) (fun z => by cases z.2.2.2)
        walk_at "go"
        rw [pt_0]
        walk_at "go"
        refine iteI (fun _ => ?_) fun _ => ?_
        · refine iteI (fun _ => ?_) fun _ => ?_
          · walk_at "go"; exact fin
          · walk_at "go"; exact fin
        · walk_at "go"; exact fin
      walk_at "go"
      refine iteI (fun h4 => ?_) fun h4 => ?_
      · rw [if_pos ⟨h3, by rw [show k = 0 by omega]⟩] at hQ
        walk_at "go"
        rw [e19]; exact .keep hQ
      have k0 : ¬ k = 0 := by omega
      walk_at "go"
      refine iteI (fun h5 => ?_) fun h5 => ?_
      · refine iteI (fun h6 => ?_) fun h6 => ?_
        · rw [if_neg (fun z => k0 (by simpa using z.2)), if_pos ⟨h3, by omega, by rw [show k = 1 by omega]⟩] at hQ
          walk_at "go"
          exact .keep hQ
        · exact l2 k0 (by omega)
      · exact l2 k0 (by omega)
    | none =>
      simp only [onD] at els ⊢
      have fin := els (fun z => by cases z.2) (fun z => by cases z.2.2)
      walk_at "go"
      have l3 : nxt Φ κ c176_9 (fun x _ M => E x M) ⟨nxt Φ κ c176_4 (fun x _ M => E x M) (endsD M.length Q), (endsD M.length Q).rt, (endsD M.length Q).bk, (endsD M.length Q).ct⟩ [some (ptD i), some (.tup [.str "repeat", ptD t, .int lo, .non, .bl g]), some (.int lo), some .non, some (.bl g)] M := by
        walk_at "go"
        rw [pt_0]
        walk_at "go"
        by_cases h5 : i.kd = 5
        · obtain ⟨u, lo', hi', g', rfl⟩ := kd_rep h5
          rw [if_pos (by rw [nm_rep]; exact h5)]
          refine iteI (fun h6 => ?_) fun h6 => ?_
          · try walk_at "go"
            rw [show ptD (.rep u lo' hi' g') = .tup [.str "repeat", ptD u, .int lo', onD hi', .bl g'] from rfl]
            try walk_at "go"
            rw [cut_rep, show D.tup [.int 0, .non, .bl g] = t3 0 none g from rfl, eq_t3]
            refine iteI (fun h7 => ?_) fun h7 => ?_
            · have h7 := of_decide_eq_true h7
              rw [if_neg (fun z => by cases z.2), if_neg (fun z => by cases z.2.2), if_pos ⟨h3, by obtain ⟨rfl, rfl, rfl⟩ := h7; simp [tailR], by omega, rfl⟩] at hQ
              walk_at "go"
              exact .keep hQ
            · walk_at "go"
              refine fin fun z => h7 (decide_eq_true ?_)
              have z2 := z.2.1
              unfold tailR at z2
              split at z2
              · next e => cases e; exact ⟨rfl, rfl, by simpa using z2⟩
              · cases z2
          · try walk_at "go"
            exact fin fun z => h6 (by omega)
        · rw [if_neg (by rw [nm_rep]; exact h5)]
          try walk_at "go"
          refine fin fun z => ?_
          cases i <;> first | exact h5 rfl | (cases z.2.1)
      refine iteI (fun h5 => ?_) fun h5 => ?_
      · exact l3
      · exact l3
  · rw [decide_eq_false h3]
    rw [if_neg (fun z => h3 z.1), if_neg (fun z => h3 z.1), if_neg (fun z => h3 z.1)] at hQ
    try walk_at "go"
    exact .keep hQ
abbrev c177_3 : CSs := .cons (.ret (.ife (.idx (.var 1) (.int 2)) (.glob 19) (.glob 18))) .nil
abbrev c177_4 : CSs := .cons (.ret (.ife (.idx (.var 1) (.int 2)) (.glob 18) (.glob 19))) .nil
abbrev c177_2 : CSs := .cons (.ret (.tup (.cons (.str "look") (.cons (.idx (.var 1) (.int 1)) (.cons (.idx (.var 1) (.int 2)) (.cons (.var 0) .nil)))))) .nil
abbrev c177_1 : CSs := .cons (.ifs (.cmp .eq (.var 0) (.glob 18)) c177_4 .nil) c177_2
abbrev c177 : CSs := .cons (.ifs (.cmp .eq (.var 0) (.glob 19)) c177_3 .nil) c177_1
def sp177 : SpD := fun ds M Q _ => ∃ (i t : Pt) (a p : Bool), ds = [ptD i, ptD (.look a p t none)] ∧ i.wf ∧ i.inn ≤ 60 ∧ Q (ptD (slk a p i)) M
theorem ln177 : ∀ ds M Q E, sp177 ds M Q E → ds.length = 2 := by
  rintro _ _ _ _ ⟨_, _, _, _, rfl, _⟩; rfl
theorem rd177 {Φ : Nat → SpD} {κ : Nat → D} (hk19 : κ 19 = k19) (hk18 : κ 18 = k18) : RdOk Φ κ c177 2 (sp177) := by
  rintro ds M Q E hM hd ⟨i, t, a, p, rfl, hw, hn, hQ⟩
  have e18 : κ 18 = ptD NV := hk18
  have e19 : κ 19 = ptD .empty := hk19
  unfold slk at hQ
  rw [show ptD (.look a p t none) = .tup [.str "look", .bl a, .bl p, ptD t] from rfl]
  walk_at "go"
  rw [e19, eq_tw hw wf_emp (by omega) (Nat.zero_le _)]
  walk_at "go"
  refine iteI (fun h => ?_) fun h => ?_
  · rw [if_pos h] at hQ
    cases p <;> (simp only [Bool.false_eq_true, if_true, if_false] at hQ; walk_at "go"; (try rw [e18]); (try rw [e19]); exact .keep hQ)
  rw [if_neg h] at hQ
  walk_at "go"
  rw [e18, eq_tw hw wf_nv (by omega) (Nat.zero_le _)]
  walk_at "go"
  refine iteI (fun h => ?_) fun h => ?_
  · rw [if_pos h] at hQ
    cases p <;> (simp only [Bool.false_eq_true, if_true, if_false] at hQ; walk_at "go"; (try rw [e18]); (try rw [e19]); exact .keep hQ)
  rw [if_neg h] at hQ
  walk_at "go"
  exact .keep hQ
abbrev c174_7 : CSs := .cons (.ret (.call 172 (.cons (.call 174 (.cons (.idx (.var 0) (.int 1)) .nil)) (.cons (.call 174 (.cons (.idx (.var 0) (.int 2)) .nil)) .nil)))) .nil
abbrev c174_8 : CSs := .cons (.ret (.call 167 (.cons (.call 174 (.cons (.idx (.var 0) (.int 1)) .nil)) (.cons (.call 174 (.cons (.idx (.var 0) (.int 2)) .nil)) .nil)))) .nil
abbrev c174_9 : CSs := .cons (.ret (.call 176 (.cons (.call 174 (.cons (.idx (.var 0) (.int 1)) .nil)) (.cons (.var 0) .nil)))) .nil
abbrev c174_10 : CSs := .cons (.ret (.tup (.cons (.str "group") (.cons (.idx (.var 0) (.int 1)) (.cons (.call 174 (.cons (.idx (.var 0) (.int 2)) .nil)) .nil))))) .nil
abbrev c174_11 : CSs := .cons (.ret (.call 177 (.cons (.call 174 (.cons (.idx (.var 0) (.int 3)) .nil)) (.cons (.var 0) .nil)))) .nil
abbrev c174_6 : CSs := .cons (.ret (.var 0)) .nil
abbrev c174_5 : CSs := .cons (.ifs (.cmp .eq (.var 1) (.str "look")) c174_11 .nil) c174_6
abbrev c174_4 : CSs := .cons (.ifs (.cmp .eq (.var 1) (.str "group")) c174_10 .nil) c174_5
abbrev c174_3 : CSs := .cons (.ifs (.cmp .eq (.var 1) (.str "repeat")) c174_9 .nil) c174_4
abbrev c174_2 : CSs := .cons (.ifs (.cmp .eq (.var 1) (.str "choice")) c174_8 .nil) c174_3
abbrev c174_1 : CSs := .cons (.ifs (.cmp .eq (.var 1) (.str "sequence")) c174_7 .nil) c174_2
abbrev c174 : CSs := .cons (.set 1 (.idx (.var 0) (.int 0))) c174_1
def sp174 (n : Nat) : SpD := fun ds M Q _ => ∃ t : Pt, ds = [ptD t] ∧ t.ht < n ∧ t.wf ∧ t.inn ≤ 60 ∧ t.grps.Pairwise (· < ·) ∧ Q (ptD (smp t)) M
theorem ln174 (n : Nat) : ∀ ds M Q E, sp174 n ds M Q E → ds.length = 1 := by
  rintro _ _ _ _ ⟨_, rfl, _⟩; rfl
theorem z174 : ∀ ds M Q E, sp174 0 ds M Q E → False := by
  rintro _ _ _ _ ⟨_, _, h, _⟩; omega
theorem sm_two {a b : Pt} (ha : a.wf) (hb : b.wf) (hi : a.inn + b.inn + 1 ≤ 60) (hg : (a.grps ++ b.grps).Pairwise (· < ·)) : Two (smp a) (smp b) := by
  have h1 := smp_ok ha
  have h2 := smp_ok hb
  exact ⟨h1.wf, h2.wf, by have := h1.inn; have := h2.inn; omega, by rw [h1.grps, h2.grps]; exact hg⟩
theorem rd174 {Φ : Nat → SpD} {κ : Nat → D} {n : Nat} (h172 : Φ 172 = sp172 (62)) (h174 : Φ 174 = sp174 n) (h167 : Φ 167 = sp167 (62)) (h176 : Φ 176 = sp176) (h177 : Φ 177 = sp177) : RdOk Φ κ c174 2 (sp174 (n + 1)) := by
  rintro ds M Q E hM hd ⟨t, rfl, hh, hw, hi, hg, hQ⟩
  cases t with
  | seq a b =>
    have hht : a.ht < n ∧ b.ht < n := by have : (Pt.seq a b).ht = max a.ht b.ht + 1 := rfl; omega
    have hin : (Pt.seq a b).inn = a.inn + b.inn + 1 := rfl
    have hT := sm_two (wf_seq.mp hw).1 (wf_seq.mp hw).2 hi hg
    have hgg := List.pairwise_append.mp (show (a.grps ++ b.grps).Pairwise (· < ·) from hg)
    rw [seq_D]
    walk_at "go"
    rw [h174]
    refine ⟨a, rfl, hht.1, (wf_seq.mp hw).1, by omega, hgg.1, ?_⟩
    walk_at "go"
    refine ⟨b, rfl, hht.2, (wf_seq.mp hw).2, by omega, hgg.2.1, ?_⟩
    walk_at "go"
    rw [h172]
    have := ht_inn (smp a)
    have := hT.inn
    exact ⟨smp a, smp b, rfl, by omega, hT, .keep hQ⟩
  | alt a b =>
    have hht : a.ht < n ∧ b.ht < n := by have : (Pt.alt a b).ht = max a.ht b.ht + 1 := rfl; omega
    have hin : (Pt.alt a b).inn = a.inn + b.inn + 1 := rfl
    have hT := sm_two (wf_alt.mp hw).1 (wf_alt.mp hw).2 hi hg
    have hgg := List.pairwise_append.mp (show (a.grps ++ b.grps).Pairwise (· < ·) from hg)
    rw [alt_D]
    walk_at "go"
    rw [h174]
    refine ⟨a, rfl, hht.1, (wf_alt.mp hw).1, by omega, hgg.1, ?_⟩
    walk_at "go"
    refine ⟨b, rfl, hht.2, (wf_alt.mp hw).2, by omega, hgg.2.1, ?_⟩
    walk_at "go"
    rw [h167]
    have := ht_inn (smp a)
    have := hT.inn
    exact ⟨smp a, smp b, rfl, by omega, hT, .keep hQ⟩
  | rep u lo k g =>
    have hht : u.ht < n := by have : (Pt.rep u lo k g).ht = u.ht + 1 := rfl; omega
    have hin : (Pt.rep u lo k g).inn = u.inn + 1 := rfl
    have hu := (wf_rep.mp hw).1
    have so := smp_ok hu
    rw [show ptD (.rep u lo k g) = .tup [.str "repeat", ptD u, .int lo, onD k, .bl g] from rfl]
    walk_at "go"
    rw [h174]
    refine ⟨u, rfl, hht, hu, by omega, hg, ?_⟩
    walk_at "go"
    rw [h176]
    exact ⟨smp u, u, lo, k, g, rfl, so.wf, by have := so.inn; omega, by rw [so.grps]; exact hg, .keep hQ⟩
  | grp m u =>
    have hht : u.ht < n := by have : (Pt.grp m u).ht = u.ht + 1 := rfl; omega
    have hin : (Pt.grp m u).inn = u.inn + 1 := rfl
    rw [show ptD (.grp m u) = .tup [.str "group", .int m, ptD u] from rfl]
    walk_at "go"
    rw [h174]
    refine ⟨u, rfl, hht, wf_grp.mp hw, by omega, (List.pairwise_cons.mp (show (m :: u.grps).Pairwise (· < ·) from hg)).2, ?_⟩
    walk_at "go"
    exact .keep hQ
  | look a p u k =>
    obtain ⟨hu, rfl⟩ := wf_look.mp hw
    have hht : u.ht < n := by have : (Pt.look a p u none).ht = u.ht + 1 := rfl; omega
    have hin : (Pt.look a p u none).inn = u.inn + 1 := rfl
    have so := smp_ok hu
    rw [show ptD (.look a p u none) = .tup [.str "look", .bl a, .bl p, ptD u] from rfl]
    walk_at "go"
    rw [h174]
    refine ⟨u, rfl, hht, hu, by omega, hg, ?_⟩
    walk_at "go"
    rw [h177]
    exact ⟨smp u, u, a, p, rfl, so.wf, by have := so.inn; omega, .keep hQ⟩
  | set ps => simp only [ptD]; walk_at "go"; exact .keep hQ
  | empty => simp only [ptD]; walk_at "go"; exact .keep hQ
  | anchor s => simp only [ptD]; walk_at "go"; exact .keep hQ
abbrev c164_13 : CSs := .cons (.ret (.call 163 (.cons (.call 164 (.cons (.idx (.var 0) (.int 1)) .nil)) (.cons (.call 164 (.cons (.idx (.var 0) (.int 2)) .nil)) .nil)))) .nil
abbrev c164_14 : CSs := .cons (.ret (.call 160 (.cons (.call 164 (.cons (.idx (.var 0) (.int 1)) .nil)) (.cons (.call 164 (.cons (.idx (.var 0) (.int 2)) .nil)) .nil)))) .nil
abbrev c164_15 : CSs := .cons (.ret (.tup (.cons (.str "group") (.cons (.idx (.var 0) (.int 1)) (.cons (.call 164 (.cons (.idx (.var 0) (.int 2)) .nil)) .nil))))) .nil
abbrev c164_19 : CSs := .cons (.ret (.ife (.cmp .eq (.idx (.var 0) (.int 2)) (.cmp .eq (.var 1) (.tup (.cons (.str "empty") .nil)))) (.tup (.cons (.str "empty") .nil)) (.tup (.cons (.str "set") (.cons (.tup .nil) .nil))))) .nil
abbrev c164_18 : CSs := .cons (.ret (.tup (.cons (.str "look") (.cons (.idx (.var 0) (.int 1)) (.cons (.idx (.var 0) (.int 2)) (.cons (.var 1) .nil)))))) .nil
abbrev c164_17 : CSs := .cons (.ifs (.or (.cmp .eq (.var 1) (.tup (.cons (.str "empty") .nil))) (.cmp .eq (.var 1) (.tup (.cons (.str "set") (.cons (.tup .nil) .nil))))) c164_19 .nil) c164_18
abbrev c164_16 : CSs := .cons (.set 1 (.call 164 (.cons (.idx (.var 0) (.int 3)) .nil))) c164_17
abbrev c164_20 : CSs := .cons (.ret (.var 0)) .nil
abbrev c164_21 : CSs := .cons (.ret (.var 1)) .nil
abbrev c164_22 : CSs := .cons (.ret (.ife (.cmp .eq (.idx (.var 0) (.int 2)) (.int 0)) (.tup (.cons (.str "empty") .nil)) (.var 1))) .nil
abbrev c164_23 : CSs := .cons (.ret (.tup (.cons (.str "empty") .nil))) .nil
abbrev c164_24 : CSs := .cons (.ret (.var 1)) .nil
abbrev c164_25 : CSs := .cons (.ret (.var 1)) .nil
abbrev c164_12 : CSs := .cons (.ret (.tup (.cons (.str "repeat") (.cons (.var 1) (.cons (.idx (.var 0) (.int 2)) (.cons (.idx (.var 0) (.int 3)) (.cons (.idx (.var 0) (.int 4)) .nil))))))) .nil
abbrev c164_11 : CSs := .cons (.ifs (.and (.call 158 (.cons (.var 1) .nil)) (.var 2)) c164_25 .nil) c164_12
abbrev c164_10 : CSs := .cons (.set 2 (.and (.cmp .eq (.idx (.var 1) (.int 0)) (.str "repeat")) (.and (.cmp .eq (.slc false (.var 0) (.some (.int 2)) .none) (.tup (.cons (.int 0) (.cons .non (.cons (.idx (.var 0) (.int 4)) .nil))))) (.cmp .eq (.slc false (.var 1) (.some (.int 2)) .none) (.slc false (.var 0) (.some (.int 2)) .none))))) c164_11
abbrev c164_9 : CSs := .cons (.ifs (.and (.call 158 (.cons (.var 1) .nil)) (.and (.cmp .eq (.idx (.var 0) (.int 2)) (.int 1)) (.cmp .eq (.idx (.var 0) (.int 3)) (.int 1)))) c164_24 .nil) c164_10
abbrev c164_8 : CSs := .cons (.ifs (.and (.call 158 (.cons (.var 1) .nil)) (.cmp .eq (.idx (.var 0) (.int 3)) (.int 0))) c164_23 .nil) c164_9
abbrev c164_7 : CSs := .cons (.ifs (.cmp .eq (.var 1) (.tup (.cons (.str "set") (.cons (.tup .nil) .nil)))) c164_22 .nil) c164_8
abbrev c164_6 : CSs := .cons (.ifs (.cmp .eq (.var 1) (.tup (.cons (.str "empty") .nil))) c164_21 .nil) c164_7
abbrev c164_5 : CSs := .cons (.set 1 (.call 164 (.cons (.idx (.var 0) (.int 1)) .nil))) c164_6
abbrev c164_4 : CSs := .cons (.ifs (.cmp .ne (.idx (.var 0) (.int 0)) (.str "repeat")) c164_20 .nil) c164_5
abbrev c164_3 : CSs := .cons (.ifs (.cmp .eq (.idx (.var 0) (.int 0)) (.str "look")) c164_16 .nil) c164_4
abbrev c164_2 : CSs := .cons (.ifs (.cmp .eq (.idx (.var 0) (.int 0)) (.str "group")) c164_15 .nil) c164_3
abbrev c164_1 : CSs := .cons (.ifs (.cmp .eq (.idx (.var 0) (.int 0)) (.str "choice")) c164_14 .nil) c164_2
abbrev c164 : CSs := .cons (.ifs (.cmp .eq (.idx (.var 0) (.int 0)) (.str "sequence")) c164_13 .nil) c164_1
def sp164 (n : Nat) : SpD := fun ds M Q _ => ∃ t : Pt, ds = [ptD t] ∧ t.ht < n ∧ t.wf ∧ t.inn ≤ 60 ∧ t.grps.Pairwise (· < ·) ∧ Q (ptD (smp t)) M
theorem ln164 (n : Nat) : ∀ ds M Q E, sp164 n ds M Q E → ds.length = 1 := by
  rintro _ _ _ _ ⟨_, rfl, _⟩; rfl
theorem z164 : ∀ ds M Q E, sp164 0 ds M Q E → False := by
  rintro _ _ _ _ ⟨_, _, h, _⟩; omega
theorem rd164 {Φ : Nat → SpD} {κ : Nat → D} {n : Nat} (h163 : Φ 163 = sp163 (62)) (h164 : Φ 164 = sp164 n) (h160 : Φ 160 = sp160 (62)) (h158 : Φ 158 = sp158 (62)) : RdOk Φ κ c164 3 (sp164 (n + 1)) := by
  rintro ds M Q E hM hd ⟨t, rfl, hh, hw, hi, hg, hQ⟩
  cases t with
  | seq a b =>
    have hht : a.ht < n ∧ b.ht < n := by have : (Pt.seq a b).ht = max a.ht b.ht + 1 := rfl; omega
    have hin : (Pt.seq a b).inn = a.inn + b.inn + 1 := rfl
    have hT := sm_two (wf_seq.mp hw).1 (wf_seq.mp hw).2 hi hg
    have hgg := List.pairwise_append.mp (show (a.grps ++ b.grps).Pairwise (· < ·) from hg)
    rw [seq_D]
    walk_at "go"
    rw [h164]
    refine ⟨a, rfl, hht.1, (wf_seq.mp hw).1, by omega, hgg.1, ?_⟩
    walk_at "go"
    refine ⟨b, rfl, hht.2, (wf_seq.mp hw).2, by omega, hgg.2.1, ?_⟩
    walk_at "go"
    rw [h163]
    have := ht_inn (smp a)
    have := hT.inn
    exact ⟨smp a, smp b, rfl, by omega, hT, .keep hQ⟩
  | alt a b =>
    have hht : a.ht < n ∧ b.ht < n := by have : (Pt.alt a b).ht = max a.ht b.ht + 1 := rfl; omega
    have hin : (Pt.alt a b).inn = a.inn + b.inn + 1 := rfl
    have hT := sm_two (wf_alt.mp hw).1 (wf_alt.mp hw).2 hi hg
    have hgg := List.pairwise_append.mp (show (a.grps ++ b.grps).Pairwise (· < ·) from hg)
    rw [alt_D]
    walk_at "go"
    rw [h164]
    refine ⟨a, rfl, hht.1, (wf_alt.mp hw).1, by omega, hgg.1, ?_⟩
    walk_at "go"
    refine ⟨b, rfl, hht.2, (wf_alt.mp hw).2, by omega, hgg.2.1, ?_⟩
    walk_at "go"
    rw [h160]
    have := ht_inn (smp a)
    have := hT.inn
    exact ⟨smp a, smp b, rfl, by omega, hT, .keep hQ⟩
  | rep u lo k g =>
    have hht : u.ht < n := by have : (Pt.rep u lo k g).ht = u.ht + 1 := rfl; omega
    have hin : (Pt.rep u lo k g).inn = u.inn + 1 := rfl
    have hu := (wf_rep.mp hw).1
    have so := smp_ok hu
    have hsi := so.inn
    have hsh := ht_inn (smp u)
    rw [show ptD (.rep u lo k g) = .tup [.str "repeat", ptD u, .int lo, onD k, .bl g] from rfl]
    walk_at "go"
    rw [h164]
    refine ⟨u, rfl, hht, hu, by omega, hg, ?_⟩
    have hQ : Q (ptD (srp (smp u) lo k g)) M := hQ
    obtain ⟨i, hi⟩ : ∃ i, i = smp u := ⟨_, rfl⟩
    rw [← hi] at hQ so hsi hsh ⊢
    unfold srp at hQ
    walk_at "go"
    rw [emp_D, eq_tw so.wf wf_emp (by omega) (Nat.zero_le _)]
    by_cases h1 : i = .empty
    · rw [if_pos (.inl h1)] at hQ
      rw [decide_eq_true h1]
      walk_at "go"
      rw [h1]; exact .keep hQ
    rw [decide_eq_false h1]
    walk_at "go"
    rw [nv_D, eq_tw so.wf wf_nv (by omega) (Nat.zero_le _)]
    by_cases h2 : i = NV
    · rw [decide_eq_true h2]
      walk_at "go"
      refine iteI (fun h3 => ?_) fun h3 => ?_
      · rw [if_pos (.inr ⟨h2, by omega⟩)] at hQ
        exact .keep hQ
      · rw [if_neg (fun z => z.elim h1 fun z => h3 (by omega)), if_pos h2] at hQ
        rw [h2]; exact .keep hQ
    rw [decide_eq_false h2]
    rw [if_neg (fun z => z.elim h1 fun z => h2 z.1), if_neg h2] at hQ
    walk_at "go"
    rw [h158]
    refine ⟨i, rfl, by omega, ?_⟩
    have last : ∀ w : Bool, ¬ (i.grps = [] ∧ k = some 0) → ¬ (i.grps = [] ∧ lo = 1 ∧ k = some 1) → (w = true ↔ tailR i g = true ∧ lo = 0 ∧ k = none) → nxt Φ κ c164_11 (fun x _ M => E x M) (endsD M.length Q) [some (.tup [.str "repeat", ptD u, .int lo, onD k, .bl g]), some (ptD i), some (.bl w)] M := by
      intro w z1 z2 hwt
      rw [if_neg z1, if_neg z2] at hQ
      walk_at "go"
      rw [h158]
      refine ⟨i, rfl, by omega, ?_⟩
      by_cases h3 : i.grps = []
      · rw [decide_eq_true h3]
        try walk_at "go"
        cases w with
        | true =>
          rw [if_pos ⟨h3, hwt.mp rfl⟩] at hQ
          try walk_at "go"
          exact .keep hQ
        | false =>
          rw [if_neg (fun z => by cases hwt.mpr z.2)] at hQ
          try walk_at "go"
          exact .keep hQ
      · rw [decide_eq_false h3]
        rw [if_neg (fun z => h3 z.1)] at hQ
        try walk_at "go"
        exact .keep hQ
    have c10 : ¬ (i.grps = [] ∧ k = some 0) → ¬ (i.grps = [] ∧ lo = 1 ∧ k = some 1) → nxt Φ κ c164_10 (fun x _ M => E x M) (endsD M.length Q) [some (.tup [.str "repeat", ptD u, .int lo, onD k, .bl g]), some (ptD i), none] M := by
      intro z1 z2
      refine nxt_of ?_
      walk_at "rd2"
      rw [pt_0]
      try walk_at "rd2"
      by_cases h5 : i.kd = 5
      · obtain ⟨v, lo', hi', g', rfl⟩ := kd_rep h5
        rw [if_pos (by rw [nm_rep]; exact h5)]
        try walk_at "rd2"
        rw [cut_rep, show D.tup [.int 0, .non, .bl g] = t3 0 none g from rfl, eq_t3]
        by_cases h6 : lo = 0 ∧ k = none ∧ g = g
        · rw [decide_eq_true h6]
          try walk_at "rd2"
          rw [show ptD (.rep v lo' hi' g') = .tup [.str "repeat", ptD v, .int lo', onD hi', .bl g'] from rfl]
          try walk_at "rd2"
          rw [cut_rep, eq_t3]
          try walk_at "rd2"
          refine last _ z1 z2 ?_
          rw [decide_eq_true_eq]
          constructor
          · rintro ⟨rfl, rfl, rfl⟩
            exact ⟨by obtain ⟨rfl, rfl, _⟩ := h6; simp [tailR], h6.1, h6.2.1⟩
          · rintro ⟨z3, rfl, rfl⟩
            unfold tailR at z3
            split at z3
            · next e => cases e; exact ⟨rfl, rfl, by simpa using z3⟩
            · cases z3
        · rw [decide_eq_false h6]
          try walk_at "rd2"
          refine last false z1 z2 ⟨(fun z => by cases z), fun z => absurd ⟨z.2.1, z.2.2, rfl⟩ h6⟩
      · rw [if_neg (by rw [nm_rep]; exact h5)]
        try rw [decide_eq_false (by rw [nm_rep]; exact h5)]
        try walk_at "rd2"
        refine last false z1 z2 ⟨(fun z => by cases z), fun z => ?_⟩
        cases i <;> first | exact absurd rfl h5 | (cases z.1)
    by_cases h3 : i.grps = []
    · rw [decide_eq_true h3]
      try walk_at "rd2"
      cases k with
      | some k =>
        simp only [onD] at last c10 ⊢
        try walk_at "go"
        refine iteI (fun h4 => ?_) fun h4 => ?_
        · rw [if_pos ⟨h3, by rw [show k = 0 by omega]⟩] at hQ
          try walk_at "go"
          exact .keep hQ
        have k0 : ¬ (i.grps = [] ∧ some k = some 0) := fun z => h4 (by have := z.2; simp at this; omega)
        walk_at "go"
        rw [h158]
        refine ⟨i, rfl, by omega, ?_⟩
        rw [decide_eq_true h3]
        try walk_at "go"
        refine iteI (fun h5 => ?_) fun h5 => ?_
        · refine iteI (fun h6 => ?_) fun h6 => ?_
          · rw [if_neg k0, if_pos ⟨h3, by omega, by rw [show k = 1 by omega]⟩] at hQ
            try walk_at "go"
            exact .keep hQ
          · exact c10 k0 fun z => h6 (by have := z.2.2; simp at this; omega)
        · exact c10 k0 fun z => h5 (by have := z.2.1; omega)
      | none =>
        simp only [onD] at last c10 ⊢
        try walk_at "go"
        rw [h158]
        refine ⟨i, rfl, by omega, ?_⟩
        rw [decide_eq_true h3]
        try walk_at "rd2"
        have := c10 (fun z => by cases z.2) (fun z => by cases z.2.2)
        refine iteI (fun h5 => ?_) fun h5 => ?_
        · exact this
        · exact this
    · rw [decide_eq_false h3]
      try walk_at "rd2"
      refine nxt_of ?_
      walk_at "rd2"
      rw [h158]
      refine ⟨i, rfl, by omega, ?_⟩
      rw [decide_eq_false h3]
      try walk_at "rd2"
      exact c10 (fun z => h3 z.1) (fun z => h3 z.1)
  | grp m u =>
    have hht : u.ht < n := by have : (Pt.grp m u).ht = u.ht + 1 := rfl; omega
    have hin : (Pt.grp m u).inn = u.inn + 1 := rfl
    rw [show ptD (.grp m u) = .tup [.str "group", .int m, ptD u] from rfl]
    walk_at "go"
    rw [h164]
    refine ⟨u, rfl, hht, wf_grp.mp hw, by omega, (List.pairwise_cons.mp (show (m :: u.grps).Pairwise (· < ·) from hg)).2, ?_⟩
    walk_at "go"
    exact .keep hQ
  | look a p u k =>
    obtain ⟨hu, rfl⟩ := wf_look.mp hw
    have hht : u.ht < n := by have : (Pt.look a p u none).ht = u.ht + 1 := rfl; omega
    have hin : (Pt.look a p u none).inn = u.inn + 1 := rfl
    have so := smp_ok hu
    have hsi := so.inn
    rw [show ptD (.look a p u none) = .tup [.str "look", .bl a, .bl p, ptD u] from rfl]
    walk_at "go"
    rw [h164]
    refine ⟨u, rfl, hht, hu, by omega, hg, ?_⟩
    have hQ : Q (ptD (slk a p (smp u))) M := hQ
    obtain ⟨i, hi⟩ : ∃ i, i = smp u := ⟨_, rfl⟩
    rw [← hi] at hQ so hsi ⊢
    unfold slk at hQ
    walk_at "go"
    rw [emp_D, eq_tw so.wf wf_emp (by omega) (Nat.zero_le _)]
    by_cases h1 : i = .empty
    · rw [if_pos h1] at hQ
      rw [decide_eq_true h1]
      walk_at "go"
      rw [emp_D, eq_tw so.wf wf_emp (by omega) (Nat.zero_le _), decide_eq_true h1]
      cases p <;> (simp only [Bool.false_eq_true, if_true, if_false] at hQ ⊢; exact .keep hQ)
    rw [decide_eq_false h1]
    walk_at "go"
    rw [nv_D, eq_tw so.wf wf_nv (by omega) (Nat.zero_le _)]
    by_cases h2 : i = NV
    · rw [if_neg h1, if_pos h2] at hQ
      rw [decide_eq_true h2]
      walk_at "go"
      rw [emp_D, eq_tw so.wf wf_emp (by omega) (Nat.zero_le _), decide_eq_false h1]
      cases p <;> (simp only [Bool.false_eq_true, Bool.true_eq_false, if_true, if_false] at hQ ⊢; exact .keep hQ)
    rw [if_neg h1, if_neg h2] at hQ
    rw [decide_eq_false h2]
    walk_at "go"
    exact .keep hQ
  | set ps => simp only [ptD]; walk_at "go"; exact .keep hQ
  | empty => simp only [ptD]; walk_at "go"; exact .keep hQ
  | anchor s => simp only [ptD]; walk_at "go"; exact .keep hQ
abbrev c175_5 : CSs := .cons .brk .nil
abbrev c175_4 : CSs := .cons (.set 0 (.var 2)) .nil
abbrev c175_3 : CSs := .cons (.ifs (.cmp .eq (.var 2) (.var 0)) c175_5 .nil) c175_4
abbrev c175_2 : CSs := .cons (.set 2 (.call 174 (.cons (.var 0) .nil))) c175_3
abbrev c175_1 : CSs := .cons (.ret (.var 0)) .nil
abbrev c175 : CSs := .cons (.fors (.nm 1) (.rng1 (.call 173 (.cons (.var 0) .nil))) c175_2) c175_1
def sp175 : SpD := fun ds M Q _ => ∃ t : Pt, ds = [ptD t] ∧ t.wf ∧ t.inn ≤ 60 ∧ t.grps.Pairwise (· < ·) ∧ Q (ptD (itS t.sz t)) M
theorem ln175 : ∀ ds M Q E, sp175 ds M Q E → ds.length = 1 := by
  rintro _ _ _ _ ⟨_, rfl, _⟩; rfl
theorem itS_s {n : Nat} {t : Pt} : itS (n + 1) t = if smp t = t then t else itS n (smp t) := rfl
theorem rd175 {Φ : Nat → SpD} {κ : Nat → D} (h173 : Φ 173 = sp173 (62)) (h174 : Φ 174 = sp174 (62)) : RdOk Φ κ c175 3 (sp175) := by
  rintro ds M Q E hM hd ⟨t, rfl, hw, hi, hg, hQ⟩
  have hht := ht_inn t
  have hsz := sz_inn t
  walk_at "go"
  rw [h173]
  refine ⟨t, rfl, by omega, ?_⟩
  walk_at "go"
  refine for_rng [0, 1, 2] (fun j js M' => ∃ (u : Pt) (x1 x2 : Option D) (k : Nat), js = [some (ptD u), x1, x2] ∧ M = M' ∧ (k : Int) + j = t.sz ∧ itS k u = itS t.sz t ∧ Sm t u) (by omega) ⟨[_, _, _], rfl, t, _, _, t.sz, rfl, rfl, by omega, rfl, ⟨hw, Nat.le_refl _, rfl⟩⟩ ?_ ?_
  · rintro j js M' nx j0 j1 ⟨u, x1, x2, k, rfl, rfl, hk, he, hs⟩ hn
    obtain ⟨k, rfl⟩ : ∃ q, k = q + 1 := ⟨k - 1, by omega⟩
    have hui := hs.inn
    have huh := ht_inn u
    have so := smp_ok hs.wf
    have hsi := so.inn
    walk_at "go"
    rw [h174]
    refine ⟨u, rfl, by omega, hs.wf, by omega, by rw [hs.grps]; exact hg, ?_⟩
    walk_at "go"
    rw [eq_tw so.wf hs.wf (by omega) (by omega)]
    rw [itS_s] at he
    by_cases h : smp u = u
    · rw [decide_eq_true h]
      rw [if_pos h] at he
      walk_at "go"
      rw [he]
      exact .keep hQ
    · rw [decide_eq_false h]
      rw [if_neg h] at he
      walk_at "go"
      exact hn [_, _, _] _ ⟨smp u, _, _, k, rfl, rfl, by omega, he, hs.trans so⟩
  · rintro js M' ⟨u, x1, x2, k, rfl, rfl, hk, he, hs⟩
    have k0 : k = 0 := by omega
    subst k0
    have he : u = itS t.sz t := he
    walk_at "go"
    rw [he]
    exact .keep hQ
abbrev c1178_7 : CSs := .cons (.set 2 (.tup (.cons (.str "choice") (.cons (.tup (.cons (.str "look") (.cons (.bl false) (.cons (.bl true) (.cons (.tup (.cons (.str "set") (.cons (.tup .nil) .nil))) .nil))))) (.cons (.tup (.cons (.str "repeat") (.cons (.tup (.cons (.str "set") (.cons (.tup (.cons (.tup (.cons (.int 97) (.cons (.int 98) .nil))) .nil)) .nil))) (.cons (.int 1) (.cons (.int 1) (.cons (.bl false) .nil)))))) .nil))))) .nil
abbrev c1178_8 : CSs := .cons (.ret (.bl false)) .nil
abbrev c1178_12 : CSs := .cons .brk .nil
abbrev c1178_11 : CSs := .cons (.set 3 (.var 5)) .nil
abbrev c1178_10 : CSs := .cons (.ifs (.cmp .eq (.var 5) (.var 3)) c1178_12 .nil) c1178_11
abbrev c1178_9 : CSs := .cons (.set 5 (.call 164 (.cons (.var 3) .nil))) c1178_10
abbrev c1178_6 : CSs := .cons (.ret (.call 3 (.cons (.call 175 (.cons (.var 2) .nil)) (.cons (.var 3) .nil)))) .nil
abbrev c1178_5 : CSs := .cons (.fors (.nm 4) (.rng1 (.call 165 (.cons (.var 2) .nil))) c1178_9) c1178_6
abbrev c1178_4 : CSs := .cons (.set 3 (.var 2)) c1178_5
abbrev c1178_3 : CSs := .cons (.ifs (.or (.not (.call 3 (.cons (.call 173 (.cons (.var 2) .nil)) (.cons (.call 165 (.cons (.var 2) .nil)) .nil)))) (.not (.call 3 (.cons (.call 174 (.cons (.var 2) .nil)) (.cons (.call 164 (.cons (.var 2) .nil)) .nil))))) c1178_8 .nil) c1178_4
abbrev c1178_2 : CSs := .cons (.ifs (.cmp .gt (.call 162 (.cons (.var 2) .nil)) (.int 4)) c1178_7 .nil) c1178_3
abbrev c1178_1 : CSs := .cons (.set 2 (.call 166 (.cons (.var 0) (.cons (.var 1) (.cons (.bin .add (.int 1) (.call 2 (.cons (.var 0) (.cons (.var 1) (.cons (.int 4) .nil))))) .nil))))) c1178_2
abbrev c1178 : CSs := .cons (.set 1 (.lst true (.cons (.int 0) (.cons (.int 0) (.cons (.int 0) .nil))))) c1178_1
theorem plain_pt : ∀ {t : Pt}, t.wf → Plain (t.ht + 4) (ptD t)
  | .set ps, h => by
    refine ⟨by simp only [List.length_cons, List.length_nil]; decide, fun d hd => ?_⟩
    simp only [List.mem_cons, List.not_mem_nil, or_false] at hd
    rcases hd with rfl | rfl
    · show _ ≤ _; rw [size_eq]; decide
    · refine ⟨by rw [List.length_map]; have := h.pl.1; omega, fun d hd => ?_⟩
      obtain ⟨p, _, rfl⟩ := List.mem_map.mp hd
      refine ⟨by simp only [List.length_cons, List.length_nil]; decide, fun d hd => ?_⟩
      simp only [List.mem_cons, List.not_mem_nil, or_false] at hd
      rcases hd with rfl | rfl <;> trivial
  | .empty, h => by
    refine ⟨by simp only [List.length_cons, List.length_nil]; decide, fun d hd => ?_⟩
    rw [List.mem_singleton.mp hd]
    show _ ≤ _; rw [size_eq]; decide
  | .anchor s, h => by
    refine ⟨by simp only [List.length_cons, List.length_nil]; decide, fun d hd => ?_⟩
    simp only [List.mem_cons, List.not_mem_nil, or_false] at hd
    rcases hd with rfl | rfl
    · show _ ≤ _; rw [size_eq]; decide
    · show _ ≤ _
      have := h.pl
      unfold Pt.pl ancOk at this
      rw [size_eq]
      rcases this with rfl | rfl | rfl | rfl | rfl | rfl <;> decide
  | .seq a b, h => by
    have h1 := plain_mono (plain_pt (wf_seq.mp h).1) (m := max a.ht b.ht + 4) (by omega)
    have h2 := plain_mono (plain_pt (wf_seq.mp h).2) (m := max a.ht b.ht + 4) (by omega)
    refine ⟨by simp only [List.length_cons, List.length_nil]; decide, fun d hd => ?_⟩
    simp only [List.mem_cons, List.not_mem_nil, or_false] at hd
    rcases hd with rfl | rfl | rfl
    · show _ ≤ _; rw [size_eq]; decide
    · exact h1
    · exact h2
  | .alt a b, h => by
    have h1 := plain_mono (plain_pt (wf_alt.mp h).1) (m := max a.ht b.ht + 4) (by omega)
    have h2 := plain_mono (plain_pt (wf_alt.mp h).2) (m := max a.ht b.ht + 4) (by omega)
    refine ⟨by simp only [List.length_cons, List.length_nil]; decide, fun d hd => ?_⟩
    simp only [List.mem_cons, List.not_mem_nil, or_false] at hd
    rcases hd with rfl | rfl | rfl
    · show _ ≤ _; rw [size_eq]; decide
    · exact h1
    · exact h2
  | .rep t lo hi g, h => by
    have h1 := plain_pt (wf_rep.mp h).1
    refine ⟨by simp only [List.length_cons, List.length_nil]; decide, fun d hd => ?_⟩
    simp only [List.mem_cons, List.not_mem_nil, or_false] at hd
    rcases hd with rfl | rfl | rfl | rfl | rfl
    · show _ ≤ _; rw [size_eq]; decide
    · exact h1
    · trivial
    · cases hi <;> trivial
    · trivial
  | .grp n t, h => by
    have h1 := plain_pt (wf_grp.mp h)
    refine ⟨by simp only [List.length_cons, List.length_nil]; decide, fun d hd => ?_⟩
    simp only [List.mem_cons, List.not_mem_nil, or_false] at hd
    rcases hd with rfl | rfl | rfl
    · show _ ≤ _; rw [size_eq]; decide
    · trivial
    · exact h1
  | .look a p t none, h => by
    have h1 := plain_pt (wf_look.mp h).1
    refine ⟨by simp only [List.length_cons, List.length_nil]; decide, fun d hd => ?_⟩
    simp only [List.mem_cons, List.not_mem_nil, or_false] at hd
    rcases hd with rfl | rfl | rfl | rfl
    · show _ ≤ _; rw [size_eq]; decide
    · trivial
    · trivial
    · exact h1
  | .look a p t (some k), h => by cases (wf_look.mp h).2
def altT : Pt := .alt (.look false true (.set []) none) (.rep (.set [(97, 98)]) 1 (some 1) false)
theorem altT_ok : altT.wf ∧ altT.inn ≤ 45 ∧ altT.grps.Pairwise (· < ·) :=
  ⟨wf_alt.mpr ⟨wf_look.mpr ⟨wf_nv, rfl⟩, wf_rep.mpr ⟨setOk_c (by decide) (by simp [Canon]) (by simp), by decide, fun k h => by cases h; decide⟩⟩, by decide, by decide⟩
theorem rd1178 {Φ : Nat → SpD} {κ : Nat → D} (h166 : Φ 166 = sp166 (5)) (h2 : Φ 2 = sp2k) (h162 : Φ 162 = sp162 (62)) (h3 : Φ 3 = sp3 (50)) (h165 : Φ 165 = sp165 (62)) (h173 : Φ 173 = sp173 (62)) (h164 : Φ 164 = sp164 (62)) (h174 : Φ 174 = sp174 (62)) (h175 : Φ 175 = sp175) : RdOk Φ κ c1178 6 (spLaw 63) := by
  rintro ds M Q E hM hd ⟨ns, hns, rfl, rfl, hQ⟩
  have st0 : ([MO.lst [.int 0, .int 0, .int 0]] : Md) = ([MO.dead] : Md).set 0 (stK 0 0 0) := rfl
  walk_at "go"
  rw [st0]
  refine digK h2 (by decide) (by decide) (by decide) (by decide) (by decide) fun k a b k0 k1 ha hb => ?_
  obtain ⟨k, rfl⟩ : ∃ q : Nat, k = q := ⟨k.toNat, by omega⟩
  walk_at "go"
  rw [h166]
  refine ⟨ns, 0, a, b, 0, 1 + k, [.dead], by rw [show (1 : Int) + (k : Int) = ((1 + k : Nat) : Int) by omega], rfl, by decide, ha, hb, by omega, fun t a b g ht ha hb => ?_⟩
  have hti : t.inn ≤ 45 := by
    have := ht.inn
    have : inD2 (1 + k) ≤ 45 := by
      obtain rfl | rfl | rfl | rfl : k = 0 ∨ k = 1 ∨ k = 2 ∨ k = 3 := by omega
      all_goals decide
    omega
  have htp : t.grps.Pairwise (· < ·) := by rw [ht.gs]; exact rgN_lt
  have hth := ht_inn t
  have main : ∀ (t : Pt) (M : Md), t.wf → t.inn ≤ 45 → t.grps.Pairwise (· < ·) → nxt Φ κ c1178_3 (fun x _ M => E x M) (endsD 0 Q) [some (.scr ns), some (.ref 0), some (ptD t), none, none, none] M := by
    intro t M hw hi hp
    have hth := ht_inn t
    have hsz := sz_inn t
    have so := smp_ok hw
    have hsh := ht_inn (smp t)
    have hsi := so.inn
    walk_at "go"
    rw [h173]
    refine ⟨t, rfl, by omega, ?_⟩
    walk_at "go"
    rw [h165]
    refine ⟨t, rfl, by omega, ?_⟩
    walk_at "go"
    rw [h3]
    refine ⟨_, _, rfl, .inr (.inr (.inl ⟨_, rfl, rfl⟩)), ?_⟩
    walk_at "go"
    rw [h174]
    refine ⟨t, rfl, by omega, hw, by omega, hp, ?_⟩
    walk_at "go"
    rw [h164]
    refine ⟨t, rfl, by omega, hw, by omega, hp, ?_⟩
    walk_at "go"
    refine same_eq (n := 50) (plain_mono (plain_pt so.wf) (by omega)) ?_
    walk_at "go"
    rw [h165]
    refine ⟨t, rfl, by omega, ?_⟩
    walk_at "go"
    have io := itS_ok (n := t.sz) hw
    have ioi := io.inn
    have ioh := ht_inn (itS t.sz t)
    have fin : ∀ (x4 x5 : Option D) (M : Md), nxt Φ κ c1178_6 (fun x _ M => E x M) (endsD 0 Q) [some (.scr ns), some (.ref 0), some (ptD t), some (ptD (itS t.sz t)), x4, x5] M := by
      intro x4 x5 M
      walk_at "go"
      rw [h175]
      refine ⟨t, rfl, hw, by omega, hp, ?_⟩
      walk_at "go"
      rw [h3]
      refine same_eq (n := 50) (plain_mono (plain_pt io.wf) (by omega)) ?_
      walk_at "go"
      exact .keep (hQ _)
    refine for_rng [3, 4, 5] (fun j js M' => ∃ (u : Pt) (x1 x2 : Option D) (k : Nat), js = [some (ptD u), x1, x2] ∧ M = M' ∧ (k : Int) + j = t.sz ∧ itS k u = itS t.sz t ∧ Sm t u) (by omega) ⟨[_, _, _], rfl, t, _, _, t.sz, rfl, rfl, by omega, rfl, ⟨hw, Nat.le_refl _, rfl⟩⟩ ?_ ?_
    · rintro j js M' nx j0 j1 ⟨u, x1, x2, k, rfl, rfl, hk, he, hs⟩ hn
      obtain ⟨k, rfl⟩ : ∃ q, k = q + 1 := ⟨k - 1, by omega⟩
      have hui := hs.inn
      have huh := ht_inn u
      have so := smp_ok hs.wf
      have hsi := so.inn
      walk_at "go"
      rw [h164]
      refine ⟨u, rfl, by omega, hs.wf, by omega, by rw [hs.grps]; exact hp, ?_⟩
      walk_at "go"
      rw [eq_tw so.wf hs.wf (by omega) (by omega)]
      rw [itS_s] at he
      by_cases h : smp u = u
      · rw [decide_eq_true h]
        rw [if_pos h] at he
        try walk_at "rd2"
        refine nxt_of ?_
        walk_at "rd2"
        rw [he]
        exact fin _ _ _
      · rw [decide_eq_false h]
        rw [if_neg h] at he
        walk_at "go"
        exact hn [_, _, _] _ ⟨smp u, _, _, k, rfl, rfl, by omega, he, hs.trans so⟩
    · rintro js M' ⟨u, x1, x2, k, rfl, rfl, hk, he, hs⟩
      have k0 : k = 0 := by omega
      subst k0
      have he : u = itS t.sz t := he
      rw [he]
      exact fin _ _ _
  walk_at "go"
  rw [h162]
  refine ⟨t, rfl, by omega, ?_⟩
  walk_at "go"
  refine iteI (fun h => ?_) fun h => ?_
  · refine nxt_of ?_
    walk_at "rd2"
    exact main altT _ altT_ok.1 altT_ok.2.1 altT_ok.2.2
  · exact main t _ ht.wf hti htp
def ΦL (d166 : Nat) (d162 : Nat) (d3 : Nat) (d165 : Nat) (d173 : Nat) (d158 : Nat) (d163 : Nat) (d160 : Nat) (d164 : Nat) (d37 : Nat) (d172 : Nat) (d167 : Nat) (d174 : Nat) : Nat → SpD
  | 1 => sp1
  | 2 => sp2k
  | 166 => sp166 d166
  | 162 => sp162 d162
  | 3 => sp3 d3
  | 159 => sp159
  | 165 => sp165 d165
  | 35 => sp35w
  | 173 => sp173 d173
  | 158 => sp158 d158
  | 163 => sp163 d163
  | 161 => sp161
  | 160 => sp160 d160
  | 164 => sp164 d164
  | 37 => sp37v d37
  | 171 => sp171
  | 172 => sp172 d172
  | 168 => sp168
  | 0 => sp0
  | 8 => sp8
  | 169 => sp169
  | 170 => sp170
  | 167 => sp167 d167
  | 176 => sp176
  | 177 => sp177
  | 174 => sp174 d174
  | 175 => sp175
  | _ => fun _ _ _ _ => False
def κL : Nat → D
  | 19 => k19
  | 18 => k18
  | _ => .non
def N1 : List Str := ["_law_script", "_law_k", "_law_cell", "_law_mixed"]
def G1 : List (Str × GD) := []
def B1 : List Str := ["len", "int"]
theorem sc1 : FnScope N1 ["_law_script", "_law_k"] (defScope s1) := ⟨rfl, rfl, rfl, by decide +kernel, rfl, by decide +kernel, by decide +kernel⟩
theorem ck1 : chkSs ⟨N1, defScope s1, fun _ => true, G1, B1, [], [], [], [], [], [], [], {}⟩ c1 (defBody s1) = true := by decide +kernel
def N2 : List Str := ["_law_script", "_law_state", "_law_many", "_law_digit_here"]
def G2 : List (Str × GD) := [("_law_row", .fn 1)]
def B2 : List Str := ["int"]
theorem sc2 : FnScope N2 ["_law_script", "_law_state", "_law_many"] (defScope s2) := ⟨rfl, rfl, rfl, by decide +kernel, rfl, by decide +kernel, by decide +kernel⟩
theorem ck2 : chkSs ⟨N2, defScope s2, fun _ => true, G2, B2, [], [], [], [], [], [], [], {}⟩ c2 (defBody s2) = true := by decide +kernel
def N166 : List Str := ["_law_script", "_law_state", "_law_depth", "_law_kind", "_law_ahead", "_law_leaves", "_law_both", "_law_first", "_law_pairs", "_law_pair", "_law_greedy"]
def G166 : List (Str × GD) := [("_law_digit", .fn 2), ("_law_tree", .fn 166)]
def B166 : List Str := []
theorem sc166 : FnScope N166 ["_law_script", "_law_state", "_law_depth"] (defScope s166) := ⟨rfl, rfl, rfl, by decide +kernel, rfl, by decide +kernel, by decide +kernel⟩
theorem ck166 : chkSs ⟨N166, defScope s166, fun _ => true, G166, B166, [], [], [], [], [], [], [], {}⟩ c166 (defBody s166) = true := by decide +kernel
def N162 : List Str := ["_law_tree_here"]
def G162 : List (Str × GD) := [("_law_looks", .fn 162)]
def B162 : List Str := []
theorem sc162 : FnScope N162 ["_law_tree_here"] (defScope s162) := ⟨rfl, rfl, rfl, by decide +kernel, rfl, by decide +kernel, by decide +kernel⟩
theorem ck162 : chkSs ⟨N162, defScope s162, fun _ => true, G162, B162, [], [], [], [], [], [], [], {}⟩ c162 (defBody s162) = true := by decide +kernel
def N3 : List Str := ["_law_actual", "_law_expected", "_law_k"]
def G3 : List (Str × GD) := [("_law_same", .fn 3)]
def B3 : List Str := ["isinstance", "bool", "int", "str", "tuple", "list", "len", "range"]
theorem sc3 : FnScope N3 ["_law_actual", "_law_expected"] (defScope s3) := ⟨rfl, rfl, rfl, by decide +kernel, rfl, by decide +kernel, by decide +kernel⟩
theorem ck3 : chkSs ⟨N3, defScope s3, fun _ => true, G3, B3, [], [], [], [], [], [], [], {}⟩ c3 (defBody s3) = true := by decide +kernel
def N159 : List Str := ["_law_tree_here"]
def G159 : List (Str × GD) := []
def B159 : List Str := []
theorem sc159 : FnScope N159 ["_law_tree_here"] (defScope s159) := ⟨rfl, rfl, rfl, by decide +kernel, rfl, by decide +kernel, by decide +kernel⟩
theorem ck159 : chkSs ⟨N159, defScope s159, fun _ => true, G159, B159, [], [], [], [], [], [], [], {}⟩ c159 (defBody s159) = true := by decide +kernel
def N165 : List Str := ["_law_tree_here", "_law_part"]
def G165 : List (Str × GD) := [("_law_size", .fn 165), ("_law_parts", .fn 159)]
def B165 : List Str := ["sum"]
theorem sc165 : FnScope N165 ["_law_tree_here"] (defScope s165) := ⟨rfl, rfl, rfl, by decide +kernel, rfl, by decide +kernel, by decide +kernel⟩
theorem ck165 : chkSs ⟨N165, defScope s165, fun _ => true, G165, B165, [], [], [], [], [], [], [], {}⟩ c165 (defBody s165) = true := by decide +kernel
def N35 : List Str := ["tree"]
def G35 : List (Str × GD) := []
def B35 : List Str := []
theorem sc35 : FnScope N35 ["tree"] (defScope s35) := ⟨rfl, rfl, rfl, by decide +kernel, rfl, by decide +kernel, by decide +kernel⟩
theorem ck35 : chkSs ⟨N35, defScope s35, fun _ => true, G35, B35, [], [], [], [], [], [], [], {}⟩ c35 (defBody s35) = true := by decide +kernel
def N173 : List Str := ["tree", "part"]
def G173 : List (Str × GD) := [("tree_size", .fn 173), ("parts", .fn 35)]
def B173 : List Str := ["sum"]
theorem sc173 : FnScope N173 ["tree"] (defScope s173) := ⟨rfl, rfl, rfl, by decide +kernel, rfl, by decide +kernel, by decide +kernel⟩
theorem ck173 : chkSs ⟨N173, defScope s173, fun _ => true, G173, B173, [], [], [], [], [], [], [], {}⟩ c173 (defBody s173) = true := by decide +kernel
def N158 : List Str := ["_law_tree_here", "_law_part"]
def G158 : List (Str × GD) := [("_law_bare", .fn 158), ("_law_parts", .fn 159)]
def B158 : List Str := ["all"]
theorem sc158 : FnScope N158 ["_law_tree_here"] (defScope s158) := ⟨rfl, rfl, rfl, by decide +kernel, rfl, by decide +kernel, by decide +kernel⟩
theorem ck158 : chkSs ⟨N158, defScope s158, fun _ => true, G158, B158, [], [], [], [], [], [], [], {}⟩ c158 (defBody s158) = true := by decide +kernel
def N163 : List Str := ["_law_a", "_law_b", "_law_never"]
def G163 : List (Str × GD) := [("_law_sequence", .fn 163), ("_law_bare", .fn 158)]
def B163 : List Str := []
theorem sc163 : FnScope N163 ["_law_a", "_law_b"] (defScope s163) := ⟨rfl, rfl, rfl, by decide +kernel, rfl, by decide +kernel, by decide +kernel⟩
theorem ck163 : chkSs ⟨N163, defScope s163, fun _ => true, G163, B163, [], [], [], [], [], [], [], {}⟩ c163 (defBody s163) = true := by decide +kernel
def N161 : List Str := ["_law_a", "_law_b", "_law_found", "_law_code", "_law_inside", "_law_pair"]
def G161 : List (Str × GD) := []
def B161 : List Str := ["range", "any", "len", "tuple"]
theorem sc161 : FnScope N161 ["_law_a", "_law_b"] (defScope s161) := ⟨rfl, rfl, rfl, by decide +kernel, rfl, by decide +kernel, by decide +kernel⟩
theorem ck161 : chkSs ⟨N161, defScope s161, fun _ => true, G161, B161, [], [], [], [], [], [], [], {}⟩ c161 (defBody s161) = true := by decide +kernel
def N160 : List Str := ["_law_a", "_law_b", "_law_first", "_law_both", "_law_row_here", "_law_tree_here", "_law_k"]
def G160 : List (Str × GD) := [("_law_choice", .fn 160), ("_law_union", .fn 161), ("_law_bare", .fn 158)]
def B160 : List Str := ["len", "range"]
theorem sc160 : FnScope N160 ["_law_a", "_law_b"] (defScope s160) := ⟨rfl, rfl, rfl, by decide +kernel, rfl, by decide +kernel, by decide +kernel⟩
theorem ck160 : chkSs ⟨N160, defScope s160, fun _ => true, G160, B160, [], [], [], [], [], [], [], {}⟩ c160 (defBody s160) = true := by decide +kernel
def N164 : List Str := ["_law_tree_here", "_law_inner", "_law_same_here"]
def G164 : List (Str × GD) := [("_law_sequence", .fn 163), ("_law_simple", .fn 164), ("_law_choice", .fn 160), ("_law_bare", .fn 158)]
def B164 : List Str := []
theorem sc164 : FnScope N164 ["_law_tree_here"] (defScope s164) := ⟨rfl, rfl, rfl, by decide +kernel, rfl, by decide +kernel, by decide +kernel⟩
theorem ck164 : chkSs ⟨N164, defScope s164, fun _ => true, G164, B164, [], [], [], [], [], [], [], {}⟩ c164 (defBody s164) = true := by decide +kernel
def N37 : List Str := ["tree", "numbers", "part"]
def G37 : List (Str × GD) := [("parts", .fn 35), ("inner_groups", .fn 37)]
def B37 : List Str := ["sorted"]
theorem sc37 : FnScope N37 ["tree"] (defScope s37) := ⟨rfl, rfl, rfl, by decide +kernel, rfl, by decide +kernel, by decide +kernel⟩
theorem ck37 : chkSs ⟨N37, defScope s37, fun _ => true, G37, B37, [], [], [], [], [], [], [], {}⟩ c37 (defBody s37) = true := by decide +kernel
def N171 : List Str := ["tree"]
def G171 : List (Str × GD) := [("inner_groups", .fn 37)]
def B171 : List Str := []
theorem sc171 : FnScope N171 ["tree"] (defScope s171) := ⟨rfl, rfl, rfl, by decide +kernel, rfl, by decide +kernel, by decide +kernel⟩
theorem ck171 : chkSs ⟨N171, defScope s171, fun _ => true, G171, B171, [], [], [], [], [], [], [], {}⟩ c171 (defBody s171) = true := by decide +kernel
def N172 : List Str := ["a", "b"]
def G172 : List (Str × GD) := [("join_sequence", .fn 172), ("bare", .fn 171), ("EMPTY", .cst 19), ("NEVER", .cst 18)]
def B172 : List Str := []
theorem sc172 : FnScope N172 ["a", "b"] (defScope s172) := ⟨rfl, rfl, rfl, by decide +kernel, rfl, by decide +kernel, by decide +kernel⟩
theorem ck172 : chkSs ⟨N172, defScope s172, fun _ => true, G172, B172, [], [], [], [], [], [], [], {}⟩ c172 (defBody s172) = true := by decide +kernel
def N168 : List Str := ["tree", "found"]
def G168 : List (Str × GD) := []
def B168 : List Str := []
theorem sc168 : FnScope N168 ["tree"] (defScope s168) := ⟨rfl, rfl, rfl, by decide +kernel, rfl, by decide +kernel, by decide +kernel⟩
theorem ck168 : chkSs ⟨N168, defScope s168, fun _ => true, G168, B168, [], [], [], [], [], [], [], {}⟩ c168 (defBody s168) = true := by decide +kernel
def N0 : List Str := ["pairs", "ranges", "low", "high"]
def G0 : List (Str × GD) := []
def B0 : List Str := ["sorted", "max", "tuple"]
theorem sc0 : FnScope N0 ["pairs"] (defScope s0) := ⟨rfl, rfl, rfl, by decide +kernel, rfl, by decide +kernel, by decide +kernel⟩
theorem ck0 : chkSs ⟨N0, defScope s0, fun _ => true, G0, B0, [], [], [], [], [], [], [], {}⟩ c0 (defBody s0) = true := by decide +kernel
def N8 : List Str := ["a", "b"]
def G8 : List (Str × GD) := [("make_set", .fn 0)]
def B8 : List Str := ["list"]
theorem sc8 : FnScope N8 ["a", "b"] (defScope s8) := ⟨rfl, rfl, rfl, by decide +kernel, rfl, by decide +kernel, by decide +kernel⟩
theorem ck8 : chkSs ⟨N8, defScope s8, fun _ => true, G8, B8, [], [], [], [], [], [], [], {}⟩ c8 (defBody s8) = true := by decide +kernel
def N169 : List Str := ["a", "b"]
def G169 : List (Str × GD) := [("union", .fn 8)]
def B169 : List Str := []
theorem sc169 : FnScope N169 ["a", "b"] (defScope s169) := ⟨rfl, rfl, rfl, by decide +kernel, rfl, by decide +kernel, by decide +kernel⟩
theorem ck169 : chkSs ⟨N169, defScope s169, fun _ => true, G169, B169, [], [], [], [], [], [], [], {}⟩ c169 (defBody s169) = true := by decide +kernel
def N170 : List Str := ["trees", "tree", "part"]
def G170 : List (Str × GD) := []
def B170 : List Str := []
theorem sc170 : FnScope N170 ["trees"] (defScope s170) := ⟨rfl, rfl, rfl, by decide +kernel, rfl, by decide +kernel, by decide +kernel⟩
theorem ck170 : chkSs ⟨N170, defScope s170, fun _ => true, G170, B170, [], [], [], [], [], [], [], {}⟩ c170 (defBody s170) = true := by decide +kernel
def N167 : List Str := ["a", "b", "others", "both", "other"]
def G167 : List (Str × GD) := [("join_choice", .fn 167), ("alternatives", .fn 168), ("merged", .fn 169), ("choice_of", .fn 170), ("bare", .fn 171), ("NEVER", .cst 18)]
def B167 : List Str := []
theorem sc167 : FnScope N167 ["a", "b"] (defScope s167) := ⟨rfl, rfl, rfl, by decide +kernel, rfl, by decide +kernel, by decide +kernel⟩
theorem ck167 : chkSs ⟨N167, defScope s167, fun _ => true, G167, B167, [], [], [], [], [], [], [], {}⟩ c167 (defBody s167) = true := by decide +kernel
def N176 : List Str := ["inner", "tree", "least", "most", "greedy"]
def G176 : List (Str × GD) := [("bare", .fn 171), ("EMPTY", .cst 19), ("NEVER", .cst 18)]
def B176 : List Str := []
theorem sc176 : FnScope N176 ["inner", "tree"] (defScope s176) := ⟨rfl, rfl, rfl, by decide +kernel, rfl, by decide +kernel, by decide +kernel⟩
theorem ck176 : chkSs ⟨N176, defScope s176, fun _ => true, G176, B176, [], [], [], [], [], [], [], {}⟩ c176 (defBody s176) = true := by decide +kernel
def N177 : List Str := ["inner", "tree"]
def G177 : List (Str × GD) := [("EMPTY", .cst 19), ("NEVER", .cst 18)]
def B177 : List Str := []
theorem sc177 : FnScope N177 ["inner", "tree"] (defScope s177) := ⟨rfl, rfl, rfl, by decide +kernel, rfl, by decide +kernel, by decide +kernel⟩
theorem ck177 : chkSs ⟨N177, defScope s177, fun _ => true, G177, B177, [], [], [], [], [], [], [], {}⟩ c177 (defBody s177) = true := by decide +kernel
def N174 : List Str := ["tree", "kind"]
def G174 : List (Str × GD) := [("join_sequence", .fn 172), ("simplify", .fn 174), ("join_choice", .fn 167), ("simple_repeat", .fn 176), ("simple_look", .fn 177)]
def B174 : List Str := []
theorem sc174 : FnScope N174 ["tree"] (defScope s174) := ⟨rfl, rfl, rfl, by decide +kernel, rfl, by decide +kernel, by decide +kernel⟩
theorem ck174 : chkSs ⟨N174, defScope s174, fun _ => true, G174, B174, [], [], [], [], [], [], [], {}⟩ c174 (defBody s174) = true := by decide +kernel
def N175 : List Str := ["tree", "_", "simpler"]
def G175 : List (Str × GD) := [("tree_size", .fn 173), ("simplify", .fn 174)]
def B175 : List Str := ["range"]
theorem sc175 : FnScope N175 ["tree"] (defScope s175) := ⟨rfl, rfl, rfl, by decide +kernel, rfl, by decide +kernel, by decide +kernel⟩
theorem ck175 : chkSs ⟨N175, defScope s175, fun _ => true, G175, B175, [], [], [], [], [], [], [], {}⟩ c175 (defBody s175) = true := by decide +kernel
def N1178 : List Str := ["_law_script", "_law_state", "_law_tree_here", "_law_expected", "_law_k", "_law_simpler"]
def G1178 : List (Str × GD) := [("_law_tree", .fn 166), ("_law_digit", .fn 2), ("_law_looks", .fn 162), ("_law_same", .fn 3), ("_law_size", .fn 165), ("tree_size", .fn 173), ("_law_simple", .fn 164), ("simplify", .fn 174), ("simplest", .fn 175)]
def B1178 : List Str := ["range"]
theorem sc1178 : FnScope N1178 ["_law_script"] (defScope s1178) := ⟨rfl, rfl, rfl, by decide +kernel, rfl, by decide +kernel, by decide +kernel⟩
theorem ck1178 : chkSs ⟨N1178, defScope s1178, fun _ => true, G1178, B1178, [], [], [], [], [], [], [], {}⟩ c1178 (defBody s1178) = true := by decide +kernel
abbrev FnL (K : PySem.W.Frag) (d : He.DefD) (f : Addr) (fd : FuncData) : Prop := FunD K d.name d.qual d.params d.body d.scope [] [] f fd
section
variable {P : Pm} {mg : Str → Option Value} {base : Heap}
theorem ok1 {f1 : Addr} {fd1 : FuncData} (F1 : FnL P.K dd1 f1 fd1) (g1 : mg "_law_row" = some (.ref f1)) (b_len : mg "len" = none) (b_int : mg "int" = none) : OkD P.pg P.wl P.K mg base P 1 f1 fd1 ["_law_script", "_law_k"] sp1 := okD (Φ := (ΦL 5 62 50 62 62 62 62 62 62 62 62 62 62)) (κ := κL) rfl rfl rfl (Tab.nil (by simp [B1, b_len, b_int])) F1 sc1 ck1 ln1 (rd1)
theorem ok2 {f1 : Addr} {fd1 : FuncData} (F1 : FnL P.K dd1 f1 fd1) (g1 : mg "_law_row" = some (.ref f1)) {f2 : Addr} {fd2 : FuncData} (F2 : FnL P.K dd2 f2 fd2) (g2 : mg "_law_digit" = some (.ref f2)) (b_len : mg "len" = none) (b_int : mg "int" = none) : OkD P.pg P.wl P.K mg base P 2 f2 fd2 ["_law_script", "_law_state", "_law_many"] sp2k := okD (Φ := (ΦL 5 62 50 62 62 62 62 62 62 62 62 62 62)) (κ := κL) rfl rfl rfl (Tab.consF (Tab.nil (by simp [B2, b_int])) (by omega) g1 F1.kp (ok1 F1 g1 b_len b_int) (FunD.bindsN F1 fun _ _ _ _ _ _ us hl => match us, hl with | [_, _], _ => rfl)) F2 sc2 ck2 ln2k (rd2k rfl)
theorem ok166 {f1 : Addr} {fd1 : FuncData} (F1 : FnL P.K dd1 f1 fd1) (g1 : mg "_law_row" = some (.ref f1)) {f2 : Addr} {fd2 : FuncData} (F2 : FnL P.K dd2 f2 fd2) (g2 : mg "_law_digit" = some (.ref f2)) {f166 : Addr} {fd166 : FuncData} (F166 : FnL P.K dd166 f166 fd166) (g166 : mg "_law_tree" = some (.ref f166)) (b_len : mg "len" = none) (b_int : mg "int" = none) : ∀ d, OkD P.pg P.wl P.K mg base P (2 + d) f166 fd166 ["_law_script", "_law_state", "_law_depth"] (sp166 d)
  | 0 => OkD.imp OkD.no z166
  | d + 1 => by
    have ih := ok166 F1 g1 F2 g2 F166 g166 b_len b_int d
    have hk : 2 ≤ 2 + d := by omega
    exact okD (Φ := (ΦL d 62 50 62 62 62 62 62 62 62 62 62 62)) (κ := κL) (k := 2 + d) rfl rfl rfl (Tab.consF (Tab.consF (Tab.nil (by simp [B166])) (by omega) g166 F166.kp ih (FunD.bindsN F166 fun _ _ _ _ _ _ us hl => match us, hl with | [_, _, _], _ => rfl)) (by omega) g2 F2.kp (ok2 F1 g1 F2 g2 b_len b_int) (FunD.bindsN F2 fun _ _ _ _ _ _ us hl => match us, hl with | [_, _, _], _ => rfl)) F166 sc166 ck166 (ln166 (d + 1)) (rd166 rfl rfl)
theorem ok162 {f162 : Addr} {fd162 : FuncData} (F162 : FnL P.K dd162 f162 fd162) (g162 : mg "_law_looks" = some (.ref f162)) : ∀ d, OkD P.pg P.wl P.K mg base P (0 + d) f162 fd162 ["_law_tree_here"] (sp162 d)
  | 0 => OkD.imp OkD.no z162
  | d + 1 => by
    have ih := ok162 F162 g162 d
    have hk : 0 ≤ 0 + d := by omega
    exact okD (Φ := (ΦL 5 d 50 62 62 62 62 62 62 62 62 62 62)) (κ := κL) (k := 0 + d) rfl rfl rfl (Tab.consF (Tab.nil (by simp [B162])) (by omega) g162 F162.kp ih (FunD.bindsN F162 fun _ _ _ _ _ _ us hl => match us, hl with | [_], _ => rfl)) F162 sc162 ck162 (ln162 (d + 1)) (rd162 rfl)
theorem ok3 {f3 : Addr} {fd3 : FuncData} (F3 : FnL P.K dd3 f3 fd3) (g3 : mg "_law_same" = some (.ref f3)) (b_len : mg "len" = none) (b_int : mg "int" = none) (b_isinstance : mg "isinstance" = none) (b_bool : mg "bool" = none) (b_str : mg "str" = none) (b_tuple : mg "tuple" = none) (b_list : mg "list" = none) (b_range : mg "range" = none) : ∀ d, OkD P.pg P.wl P.K mg base P (0 + d) f3 fd3 ["_law_actual", "_law_expected"] (sp3 d)
  | 0 => OkD.imp OkD.no z3
  | d + 1 => by
    have ih := ok3 F3 g3 b_len b_int b_isinstance b_bool b_str b_tuple b_list b_range d
    have hk : 0 ≤ 0 + d := by omega
    exact okD (Φ := (ΦL 5 62 d 62 62 62 62 62 62 62 62 62 62)) (κ := κL) (k := 0 + d) rfl rfl rfl (Tab.consF (Tab.nil (by simp [B3, b_isinstance, b_bool, b_int, b_str, b_tuple, b_list, b_len, b_range])) (by omega) g3 F3.kp ih (FunD.bindsN F3 fun _ _ _ _ _ _ us hl => match us, hl with | [_, _], _ => rfl)) F3 sc3 ck3 (ln3 (d + 1)) (rd3 rfl)
theorem ok159 {f159 : Addr} {fd159 : FuncData} (F159 : FnL P.K dd159 f159 fd159) (g159 : mg "_law_parts" = some (.ref f159)) : OkD P.pg P.wl P.K mg base P 1 f159 fd159 ["_law_tree_here"] sp159 := okD (Φ := (ΦL 5 62 50 62 62 62 62 62 62 62 62 62 62)) (κ := κL) rfl rfl rfl (Tab.nil (by simp [B159])) F159 sc159 ck159 ln159 (rd159)
theorem ok165 {f159 : Addr} {fd159 : FuncData} (F159 : FnL P.K dd159 f159 fd159) (g159 : mg "_law_parts" = some (.ref f159)) {f165 : Addr} {fd165 : FuncData} (F165 : FnL P.K dd165 f165 fd165) (g165 : mg "_law_size" = some (.ref f165)) (b_sum : mg "sum" = none) : ∀ d, OkD P.pg P.wl P.K mg base P (1 + d) f165 fd165 ["_law_tree_here"] (sp165 d)
  | 0 => OkD.imp OkD.no z165
  | d + 1 => by
    have ih := ok165 F159 g159 F165 g165 b_sum d
    have hk : 1 ≤ 1 + d := by omega
    exact okD (Φ := (ΦL 5 62 50 d 62 62 62 62 62 62 62 62 62)) (κ := κL) (k := 1 + d) rfl rfl rfl (Tab.consF (Tab.consF (Tab.nil (by simp [B165, b_sum])) (by omega) g159 F159.kp (ok159 F159 g159) (FunD.bindsN F159 fun _ _ _ _ _ _ us hl => match us, hl with | [_], _ => rfl)) (by omega) g165 F165.kp ih (FunD.bindsN F165 fun _ _ _ _ _ _ us hl => match us, hl with | [_], _ => rfl)) F165 sc165 ck165 (ln165 (d + 1)) (rd165 rfl rfl)
theorem ok35 {f35 : Addr} {fd35 : FuncData} (F35 : FnL P.K dd35 f35 fd35) (g35 : mg "parts" = some (.ref f35)) : OkD P.pg P.wl P.K mg base P 1 f35 fd35 ["tree"] sp35w := okD (Φ := (ΦL 5 62 50 62 62 62 62 62 62 62 62 62 62)) (κ := κL) rfl rfl rfl (Tab.nil (by simp [B35])) F35 sc35 ck35 ln35w (rd35w)
theorem ok173 {f35 : Addr} {fd35 : FuncData} (F35 : FnL P.K dd35 f35 fd35) (g35 : mg "parts" = some (.ref f35)) {f173 : Addr} {fd173 : FuncData} (F173 : FnL P.K dd173 f173 fd173) (g173 : mg "tree_size" = some (.ref f173)) (b_sum : mg "sum" = none) : ∀ d, OkD P.pg P.wl P.K mg base P (1 + d) f173 fd173 ["tree"] (sp173 d)
  | 0 => OkD.imp OkD.no z173
  | d + 1 => by
    have ih := ok173 F35 g35 F173 g173 b_sum d
    have hk : 1 ≤ 1 + d := by omega
    exact okD (Φ := (ΦL 5 62 50 62 d 62 62 62 62 62 62 62 62)) (κ := κL) (k := 1 + d) rfl rfl rfl (Tab.consF (Tab.consF (Tab.nil (by simp [B173, b_sum])) (by omega) g35 F35.kp (ok35 F35 g35) (FunD.bindsN F35 fun _ _ _ _ _ _ us hl => match us, hl with | [_], _ => rfl)) (by omega) g173 F173.kp ih (FunD.bindsN F173 fun _ _ _ _ _ _ us hl => match us, hl with | [_], _ => rfl)) F173 sc173 ck173 (ln173 (d + 1)) (rd173 rfl rfl)
theorem ok158 {f159 : Addr} {fd159 : FuncData} (F159 : FnL P.K dd159 f159 fd159) (g159 : mg "_law_parts" = some (.ref f159)) {f158 : Addr} {fd158 : FuncData} (F158 : FnL P.K dd158 f158 fd158) (g158 : mg "_law_bare" = some (.ref f158)) (b_all : mg "all" = none) : ∀ d, OkD P.pg P.wl P.K mg base P (1 + d) f158 fd158 ["_law_tree_here"] (sp158 d)
  | 0 => OkD.imp OkD.no z158
  | d + 1 => by
    have ih := ok158 F159 g159 F158 g158 b_all d
    have hk : 1 ≤ 1 + d := by omega
    exact okD (Φ := (ΦL 5 62 50 62 62 d 62 62 62 62 62 62 62)) (κ := κL) (k := 1 + d) rfl rfl rfl (Tab.consF (Tab.consF (Tab.nil (by simp [B158, b_all])) (by omega) g159 F159.kp (ok159 F159 g159) (FunD.bindsN F159 fun _ _ _ _ _ _ us hl => match us, hl with | [_], _ => rfl)) (by omega) g158 F158.kp ih (FunD.bindsN F158 fun _ _ _ _ _ _ us hl => match us, hl with | [_], _ => rfl)) F158 sc158 ck158 (ln158 (d + 1)) (rd158 rfl rfl)
theorem ok163 {f159 : Addr} {fd159 : FuncData} (F159 : FnL P.K dd159 f159 fd159) (g159 : mg "_law_parts" = some (.ref f159)) {f158 : Addr} {fd158 : FuncData} (F158 : FnL P.K dd158 f158 fd158) (g158 : mg "_law_bare" = some (.ref f158)) {f163 : Addr} {fd163 : FuncData} (F163 : FnL P.K dd163 f163 fd163) (g163 : mg "_law_sequence" = some (.ref f163)) (b_all : mg "all" = none) : ∀ d, OkD P.pg P.wl P.K mg base P (63 + d) f163 fd163 ["_law_a", "_law_b"] (sp163 d)
  | 0 => OkD.imp OkD.no z163
  | d + 1 => by
    have ih := ok163 F159 g159 F158 g158 F163 g163 b_all d
    have hk : 63 ≤ 63 + d := by omega
    exact okD (Φ := (ΦL 5 62 50 62 62 62 d 62 62 62 62 62 62)) (κ := κL) (k := 63 + d) rfl rfl rfl (Tab.consF (Tab.consF (Tab.nil (by simp [B163])) (by omega) g158 F158.kp ((ok158 F159 g159 F158 g158 b_all) 62) (FunD.bindsN F158 fun _ _ _ _ _ _ us hl => match us, hl with | [_], _ => rfl)) (by omega) g163 F163.kp ih (FunD.bindsN F163 fun _ _ _ _ _ _ us hl => match us, hl with | [_, _], _ => rfl)) F163 sc163 ck163 (ln163 (d + 1)) (rd163 rfl rfl)
theorem ok161 {f161 : Addr} {fd161 : FuncData} (F161 : FnL P.K dd161 f161 fd161) (g161 : mg "_law_union" = some (.ref f161)) (b_len : mg "len" = none) (b_tuple : mg "tuple" = none) (b_range : mg "range" = none) (b_any : mg "any" = none) : OkD P.pg P.wl P.K mg base P 1 f161 fd161 ["_law_a", "_law_b"] sp161 := okD (Φ := (ΦL 5 62 50 62 62 62 62 62 62 62 62 62 62)) (κ := κL) rfl rfl rfl (Tab.nil (by simp [B161, b_range, b_any, b_len, b_tuple])) F161 sc161 ck161 ln161 (rd161)
theorem ok160 {f161 : Addr} {fd161 : FuncData} (F161 : FnL P.K dd161 f161 fd161) (g161 : mg "_law_union" = some (.ref f161)) {f159 : Addr} {fd159 : FuncData} (F159 : FnL P.K dd159 f159 fd159) (g159 : mg "_law_parts" = some (.ref f159)) {f158 : Addr} {fd158 : FuncData} (F158 : FnL P.K dd158 f158 fd158) (g158 : mg "_law_bare" = some (.ref f158)) {f160 : Addr} {fd160 : FuncData} (F160 : FnL P.K dd160 f160 fd160) (g160 : mg "_law_choice" = some (.ref f160)) (b_len : mg "len" = none) (b_tuple : mg "tuple" = none) (b_range : mg "range" = none) (b_all : mg "all" = none) (b_any : mg "any" = none) : ∀ d, OkD P.pg P.wl P.K mg base P (63 + d) f160 fd160 ["_law_a", "_law_b"] (sp160 d)
  | 0 => OkD.imp OkD.no z160
  | d + 1 => by
    have ih := ok160 F161 g161 F159 g159 F158 g158 F160 g160 b_len b_tuple b_range b_all b_any d
    have hk : 63 ≤ 63 + d := by omega
    exact okD (Φ := (ΦL 5 62 50 62 62 62 62 d 62 62 62 62 62)) (κ := κL) (k := 63 + d) rfl rfl rfl (Tab.consF (Tab.consF (Tab.consF (Tab.nil (by simp [B160, b_len, b_range])) (by omega) g158 F158.kp ((ok158 F159 g159 F158 g158 b_all) 62) (FunD.bindsN F158 fun _ _ _ _ _ _ us hl => match us, hl with | [_], _ => rfl)) (by omega) g161 F161.kp (ok161 F161 g161 b_len b_tuple b_range b_any) (FunD.bindsN F161 fun _ _ _ _ _ _ us hl => match us, hl with | [_, _], _ => rfl)) (by omega) g160 F160.kp ih (FunD.bindsN F160 fun _ _ _ _ _ _ us hl => match us, hl with | [_, _], _ => rfl)) F160 sc160 ck160 (ln160 (d + 1)) (rd160 rfl rfl rfl)
theorem ok164 {f159 : Addr} {fd159 : FuncData} (F159 : FnL P.K dd159 f159 fd159) (g159 : mg "_law_parts" = some (.ref f159)) {f158 : Addr} {fd158 : FuncData} (F158 : FnL P.K dd158 f158 fd158) (g158 : mg "_law_bare" = some (.ref f158)) {f163 : Addr} {fd163 : FuncData} (F163 : FnL P.K dd163 f163 fd163) (g163 : mg "_law_sequence" = some (.ref f163)) {f161 : Addr} {fd161 : FuncData} (F161 : FnL P.K dd161 f161 fd161) (g161 : mg "_law_union" = some (.ref f161)) {f160 : Addr} {fd160 : FuncData} (F160 : FnL P.K dd160 f160 fd160) (g160 : mg "_law_choice" = some (.ref f160)) {f164 : Addr} {fd164 : FuncData} (F164 : FnL P.K dd164 f164 fd164) (g164 : mg "_law_simple" = some (.ref f164)) (b_len : mg "len" = none) (b_tuple : mg "tuple" = none) (b_range : mg "range" = none) (b_all : mg "all" = none) (b_any : mg "any" = none) : ∀ d, OkD P.pg P.wl P.K mg base P (125 + d) f164 fd164 ["_law_tree_here"] (sp164 d)
  | 0 => OkD.imp OkD.no z164
  | d + 1 => by
    have ih := ok164 F159 g159 F158 g158 F163 g163 F161 g161 F160 g160 F164 g164 b_len b_tuple b_range b_all b_any d
    have hk : 125 ≤ 125 + d := by omega
    exact okD (Φ := (ΦL 5 62 50 62 62 62 62 62 d 62 62 62 62)) (κ := κL) (k := 125 + d) rfl rfl rfl (Tab.consF (Tab.consF (Tab.consF (Tab.consF (Tab.nil (by simp [B164])) (by omega) g158 F158.kp ((ok158 F159 g159 F158 g158 b_all) 62) (FunD.bindsN F158 fun _ _ _ _ _ _ us hl => match us, hl with | [_], _ => rfl)) (by omega) g160 F160.kp ((ok160 F161 g161 F159 g159 F158 g158 F160 g160 b_len b_tuple b_range b_all b_any) 62) (FunD.bindsN F160 fun _ _ _ _ _ _ us hl => match us, hl with | [_, _], _ => rfl)) (by omega) g164 F164.kp ih (FunD.bindsN F164 fun _ _ _ _ _ _ us hl => match us, hl with | [_], _ => rfl)) (by omega) g163 F163.kp ((ok163 F159 g159 F158 g158 F163 g163 b_all) 62) (FunD.bindsN F163 fun _ _ _ _ _ _ us hl => match us, hl with | [_, _], _ => rfl)) F164 sc164 ck164 (ln164 (d + 1)) (rd164 rfl rfl rfl rfl)
theorem ok37 {f35 : Addr} {fd35 : FuncData} (F35 : FnL P.K dd35 f35 fd35) (g35 : mg "parts" = some (.ref f35)) {f37 : Addr} {fd37 : FuncData} (F37 : FnL P.K dd37 f37 fd37) (g37 : mg "inner_groups" = some (.ref f37)) (b_sorted : mg "sorted" = none) : ∀ d, OkD P.pg P.wl P.K mg base P (1 + d) f37 fd37 ["tree"] (sp37v d)
  | 0 => OkD.imp OkD.no z37v
  | d + 1 => by
    have ih := ok37 F35 g35 F37 g37 b_sorted d
    have hk : 1 ≤ 1 + d := by omega
    exact okD (Φ := (ΦL 5 62 50 62 62 62 62 62 62 d 62 62 62)) (κ := κL) (k := 1 + d) rfl rfl rfl (Tab.consF (Tab.consF (Tab.nil (by simp [B37, b_sorted])) (by omega) g37 F37.kp ih (FunD.bindsN F37 fun _ _ _ _ _ _ us hl => match us, hl with | [_], _ => rfl)) (by omega) g35 F35.kp (ok35 F35 g35) (FunD.bindsN F35 fun _ _ _ _ _ _ us hl => match us, hl with | [_], _ => rfl)) F37 sc37 ck37 (ln37v (d + 1)) (rd37v rfl rfl)
theorem ok171 {f35 : Addr} {fd35 : FuncData} (F35 : FnL P.K dd35 f35 fd35) (g35 : mg "parts" = some (.ref f35)) {f37 : Addr} {fd37 : FuncData} (F37 : FnL P.K dd37 f37 fd37) (g37 : mg "inner_groups" = some (.ref f37)) {f171 : Addr} {fd171 : FuncData} (F171 : FnL P.K dd171 f171 fd171) (g171 : mg "bare" = some (.ref f171)) (b_sorted : mg "sorted" = none) : OkD P.pg P.wl P.K mg base P 64 f171 fd171 ["tree"] sp171 := okD (Φ := (ΦL 5 62 50 62 62 62 62 62 62 62 62 62 62)) (κ := κL) rfl rfl rfl (Tab.consF (Tab.nil (by simp [B171])) (by omega) g37 F37.kp ((ok37 F35 g35 F37 g37 b_sorted) 62) (FunD.bindsN F37 fun _ _ _ _ _ _ us hl => match us, hl with | [_], _ => rfl)) F171 sc171 ck171 ln171 (rd171 rfl)
theorem ok172 {f35 : Addr} {fd35 : FuncData} (F35 : FnL P.K dd35 f35 fd35) (g35 : mg "parts" = some (.ref f35)) {f37 : Addr} {fd37 : FuncData} (F37 : FnL P.K dd37 f37 fd37) (g37 : mg "inner_groups" = some (.ref f37)) {f171 : Addr} {fd171 : FuncData} (F171 : FnL P.K dd171 f171 fd171) (g171 : mg "bare" = some (.ref f171)) {f172 : Addr} {fd172 : FuncData} (F172 : FnL P.K dd172 f172 fd172) (g172 : mg "join_sequence" = some (.ref f172)) (hc19 : ∃ u v, mg "EMPTY" = some u ∧ RelV v u ∧ ∀ w, RelD P w (k19) v) (hc18 : ∃ u v, mg "NEVER" = some u ∧ RelV v u ∧ ∀ w, RelD P w (k18) v) (b_sorted : mg "sorted" = none) : ∀ d, OkD P.pg P.wl P.K mg base P (64 + d) f172 fd172 ["a", "b"] (sp172 d)
  | 0 => OkD.imp OkD.no z172
  | d + 1 => by
    have ih := ok172 F35 g35 F37 g37 F171 g171 F172 g172 hc19 hc18 b_sorted d
    have hk : 64 ≤ 64 + d := by omega
    exact okD (Φ := (ΦL 5 62 50 62 62 62 62 62 62 62 d 62 62)) (κ := κL) (k := 64 + d) rfl rfl rfl (Tab.consF (Tab.consF (Tab.consC (Tab.consC (Tab.nil (by simp [B172])) hc18) hc19) (by omega) g171 F171.kp (ok171 F35 g35 F37 g37 F171 g171 b_sorted) (FunD.bindsN F171 fun _ _ _ _ _ _ us hl => match us, hl with | [_], _ => rfl)) (by omega) g172 F172.kp ih (FunD.bindsN F172 fun _ _ _ _ _ _ us hl => match us, hl with | [_, _], _ => rfl)) F172 sc172 ck172 (ln172 (d + 1)) (rd172 rfl rfl rfl rfl)
theorem ok168 {f168 : Addr} {fd168 : FuncData} (F168 : FnL P.K dd168 f168 fd168) (g168 : mg "alternatives" = some (.ref f168)) : OkD P.pg P.wl P.K mg base P 1 f168 fd168 ["tree"] sp168 := okD (Φ := (ΦL 5 62 50 62 62 62 62 62 62 62 62 62 62)) (κ := κL) rfl rfl rfl (Tab.nil (by simp [B168])) F168 sc168 ck168 ln168 (rd168)
theorem ok0 {f0 : Addr} {fd0 : FuncData} (F0 : FnL P.K dd0 f0 fd0) (g0 : mg "make_set" = some (.ref f0)) (b_tuple : mg "tuple" = none) (b_sorted : mg "sorted" = none) (b_max : mg "max" = none) : OkD P.pg P.wl P.K mg base P 1 f0 fd0 ["pairs"] sp0 := okD (Φ := (ΦL 5 62 50 62 62 62 62 62 62 62 62 62 62)) (κ := κL) rfl rfl rfl (Tab.nil (by simp [B0, b_sorted, b_max, b_tuple])) F0 sc0 ck0 ln0 (rd0)
theorem ok8 {f0 : Addr} {fd0 : FuncData} (F0 : FnL P.K dd0 f0 fd0) (g0 : mg "make_set" = some (.ref f0)) {f8 : Addr} {fd8 : FuncData} (F8 : FnL P.K dd8 f8 fd8) (g8 : mg "union" = some (.ref f8)) (b_tuple : mg "tuple" = none) (b_list : mg "list" = none) (b_sorted : mg "sorted" = none) (b_max : mg "max" = none) : OkD P.pg P.wl P.K mg base P 2 f8 fd8 ["a", "b"] sp8 := okD (Φ := (ΦL 5 62 50 62 62 62 62 62 62 62 62 62 62)) (κ := κL) rfl rfl rfl (Tab.consF (Tab.nil (by simp [B8, b_list])) (by omega) g0 F0.kp (ok0 F0 g0 b_tuple b_sorted b_max) (FunD.bindsN F0 fun _ _ _ _ _ _ us hl => match us, hl with | [_], _ => rfl)) F8 sc8 ck8 ln8 (rd8 rfl)
theorem ok169 {f0 : Addr} {fd0 : FuncData} (F0 : FnL P.K dd0 f0 fd0) (g0 : mg "make_set" = some (.ref f0)) {f8 : Addr} {fd8 : FuncData} (F8 : FnL P.K dd8 f8 fd8) (g8 : mg "union" = some (.ref f8)) {f169 : Addr} {fd169 : FuncData} (F169 : FnL P.K dd169 f169 fd169) (g169 : mg "merged" = some (.ref f169)) (b_tuple : mg "tuple" = none) (b_list : mg "list" = none) (b_sorted : mg "sorted" = none) (b_max : mg "max" = none) : OkD P.pg P.wl P.K mg base P 3 f169 fd169 ["a", "b"] sp169 := okD (Φ := (ΦL 5 62 50 62 62 62 62 62 62 62 62 62 62)) (κ := κL) rfl rfl rfl (Tab.consF (Tab.nil (by simp [B169])) (by omega) g8 F8.kp (ok8 F0 g0 F8 g8 b_tuple b_list b_sorted b_max) (FunD.bindsN F8 fun _ _ _ _ _ _ us hl => match us, hl with | [_, _], _ => rfl)) F169 sc169 ck169 ln169 (rd169 rfl)
theorem ok170 {f170 : Addr} {fd170 : FuncData} (F170 : FnL P.K dd170 f170 fd170) (g170 : mg "choice_of" = some (.ref f170)) : OkD P.pg P.wl P.K mg base P 1 f170 fd170 ["trees"] sp170 := okD (Φ := (ΦL 5 62 50 62 62 62 62 62 62 62 62 62 62)) (κ := κL) rfl rfl rfl (Tab.nil (by simp [B170])) F170 sc170 ck170 ln170 (rd170)
theorem ok167 {f168 : Addr} {fd168 : FuncData} (F168 : FnL P.K dd168 f168 fd168) (g168 : mg "alternatives" = some (.ref f168)) {f0 : Addr} {fd0 : FuncData} (F0 : FnL P.K dd0 f0 fd0) (g0 : mg "make_set" = some (.ref f0)) {f8 : Addr} {fd8 : FuncData} (F8 : FnL P.K dd8 f8 fd8) (g8 : mg "union" = some (.ref f8)) {f169 : Addr} {fd169 : FuncData} (F169 : FnL P.K dd169 f169 fd169) (g169 : mg "merged" = some (.ref f169)) {f170 : Addr} {fd170 : FuncData} (F170 : FnL P.K dd170 f170 fd170) (g170 : mg "choice_of" = some (.ref f170)) {f35 : Addr} {fd35 : FuncData} (F35 : FnL P.K dd35 f35 fd35) (g35 : mg "parts" = some (.ref f35)) {f37 : Addr} {fd37 : FuncData} (F37 : FnL P.K dd37 f37 fd37) (g37 : mg "inner_groups" = some (.ref f37)) {f171 : Addr} {fd171 : FuncData} (F171 : FnL P.K dd171 f171 fd171) (g171 : mg "bare" = some (.ref f171)) {f167 : Addr} {fd167 : FuncData} (F167 : FnL P.K dd167 f167 fd167) (g167 : mg "join_choice" = some (.ref f167)) (hc18 : ∃ u v, mg "NEVER" = some u ∧ RelV v u ∧ ∀ w, RelD P w (k18) v) (b_tuple : mg "tuple" = none) (b_list : mg "list" = none) (b_sorted : mg "sorted" = none) (b_max : mg "max" = none) : ∀ d, OkD P.pg P.wl P.K mg base P (64 + d) f167 fd167 ["a", "b"] (sp167 d)
  | 0 => OkD.imp OkD.no z167
  | d + 1 => by
    have ih := ok167 F168 g168 F0 g0 F8 g8 F169 g169 F170 g170 F35 g35 F37 g37 F171 g171 F167 g167 hc18 b_tuple b_list b_sorted b_max d
    have hk : 64 ≤ 64 + d := by omega
    exact okD (Φ := (ΦL 5 62 50 62 62 62 62 62 62 62 62 d 62)) (κ := κL) (k := 64 + d) rfl rfl rfl (Tab.consF (Tab.consF (Tab.consF (Tab.consF (Tab.consF (Tab.consC (Tab.nil (by simp [B167])) hc18) (by omega) g171 F171.kp (ok171 F35 g35 F37 g37 F171 g171 b_sorted) (FunD.bindsN F171 fun _ _ _ _ _ _ us hl => match us, hl with | [_], _ => rfl)) (by omega) g170 F170.kp (ok170 F170 g170) (FunD.bindsN F170 fun _ _ _ _ _ _ us hl => match us, hl with | [_], _ => rfl)) (by omega) g169 F169.kp (ok169 F0 g0 F8 g8 F169 g169 b_tuple b_list b_sorted b_max) (FunD.bindsN F169 fun _ _ _ _ _ _ us hl => match us, hl with | [_, _], _ => rfl)) (by omega) g168 F168.kp (ok168 F168 g168) (FunD.bindsN F168 fun _ _ _ _ _ _ us hl => match us, hl with | [_], _ => rfl)) (by omega) g167 F167.kp ih (FunD.bindsN F167 fun _ _ _ _ _ _ us hl => match us, hl with | [_, _], _ => rfl)) F167 sc167 ck167 (ln167 (d + 1)) (rd167 rfl rfl rfl rfl rfl rfl)
theorem ok176 {f35 : Addr} {fd35 : FuncData} (F35 : FnL P.K dd35 f35 fd35) (g35 : mg "parts" = some (.ref f35)) {f37 : Addr} {fd37 : FuncData} (F37 : FnL P.K dd37 f37 fd37) (g37 : mg "inner_groups" = some (.ref f37)) {f171 : Addr} {fd171 : FuncData} (F171 : FnL P.K dd171 f171 fd171) (g171 : mg "bare" = some (.ref f171)) {f176 : Addr} {fd176 : FuncData} (F176 : FnL P.K dd176 f176 fd176) (g176 : mg "simple_repeat" = some (.ref f176)) (hc19 : ∃ u v, mg "EMPTY" = some u ∧ RelV v u ∧ ∀ w, RelD P w (k19) v) (hc18 : ∃ u v, mg "NEVER" = some u ∧ RelV v u ∧ ∀ w, RelD P w (k18) v) (b_sorted : mg "sorted" = none) : OkD P.pg P.wl P.K mg base P 65 f176 fd176 ["inner", "tree"] sp176 := okD (Φ := (ΦL 5 62 50 62 62 62 62 62 62 62 62 62 62)) (κ := κL) rfl rfl rfl (Tab.consF (Tab.consC (Tab.consC (Tab.nil (by simp [B176])) hc18) hc19) (by omega) g171 F171.kp (ok171 F35 g35 F37 g37 F171 g171 b_sorted) (FunD.bindsN F171 fun _ _ _ _ _ _ us hl => match us, hl with | [_], _ => rfl)) F176 sc176 ck176 ln176 (rd176 rfl rfl rfl)
theorem ok177 {f177 : Addr} {fd177 : FuncData} (F177 : FnL P.K dd177 f177 fd177) (g177 : mg "simple_look" = some (.ref f177)) (hc19 : ∃ u v, mg "EMPTY" = some u ∧ RelV v u ∧ ∀ w, RelD P w (k19) v) (hc18 : ∃ u v, mg "NEVER" = some u ∧ RelV v u ∧ ∀ w, RelD P w (k18) v) : OkD P.pg P.wl P.K mg base P 1 f177 fd177 ["inner", "tree"] sp177 := okD (Φ := (ΦL 5 62 50 62 62 62 62 62 62 62 62 62 62)) (κ := κL) rfl rfl rfl (Tab.consC (Tab.consC (Tab.nil (by simp [B177])) hc18) hc19) F177 sc177 ck177 ln177 (rd177 rfl rfl)
theorem ok174 {f35 : Addr} {fd35 : FuncData} (F35 : FnL P.K dd35 f35 fd35) (g35 : mg "parts" = some (.ref f35)) {f37 : Addr} {fd37 : FuncData} (F37 : FnL P.K dd37 f37 fd37) (g37 : mg "inner_groups" = some (.ref f37)) {f171 : Addr} {fd171 : FuncData} (F171 : FnL P.K dd171 f171 fd171) (g171 : mg "bare" = some (.ref f171)) {f172 : Addr} {fd172 : FuncData} (F172 : FnL P.K dd172 f172 fd172) (g172 : mg "join_sequence" = some (.ref f172)) {f168 : Addr} {fd168 : FuncData} (F168 : FnL P.K dd168 f168 fd168) (g168 : mg "alternatives" = some (.ref f168)) {f0 : Addr} {fd0 : FuncData} (F0 : FnL P.K dd0 f0 fd0) (g0 : mg "make_set" = some (.ref f0)) {f8 : Addr} {fd8 : FuncData} (F8 : FnL P.K dd8 f8 fd8) (g8 : mg "union" = some (.ref f8)) {f169 : Addr} {fd169 : FuncData} (F169 : FnL P.K dd169 f169 fd169) (g169 : mg "merged" = some (.ref f169)) {f170 : Addr} {fd170 : FuncData} (F170 : FnL P.K dd170 f170 fd170) (g170 : mg "choice_of" = some (.ref f170)) {f167 : Addr} {fd167 : FuncData} (F167 : FnL P.K dd167 f167 fd167) (g167 : mg "join_choice" = some (.ref f167)) {f176 : Addr} {fd176 : FuncData} (F176 : FnL P.K dd176 f176 fd176) (g176 : mg "simple_repeat" = some (.ref f176)) {f177 : Addr} {fd177 : FuncData} (F177 : FnL P.K dd177 f177 fd177) (g177 : mg "simple_look" = some (.ref f177)) {f174 : Addr} {fd174 : FuncData} (F174 : FnL P.K dd174 f174 fd174) (g174 : mg "simplify" = some (.ref f174)) (hc19 : ∃ u v, mg "EMPTY" = some u ∧ RelV v u ∧ ∀ w, RelD P w (k19) v) (hc18 : ∃ u v, mg "NEVER" = some u ∧ RelV v u ∧ ∀ w, RelD P w (k18) v) (b_tuple : mg "tuple" = none) (b_list : mg "list" = none) (b_sorted : mg "sorted" = none) (b_max : mg "max" = none) : ∀ d, OkD P.pg P.wl P.K mg base P (126 + d) f174 fd174 ["tree"] (sp174 d)
  | 0 => OkD.imp OkD.no z174
  | d + 1 => by
    have ih := ok174 F35 g35 F37 g37 F171 g171 F172 g172 F168 g168 F0 g0 F8 g8 F169 g169 F170 g170 F167 g167 F176 g176 F177 g177 F174 g174 hc19 hc18 b_tuple b_list b_sorted b_max d
    have hk : 126 ≤ 126 + d := by omega
    exact okD (Φ := (ΦL 5 62 50 62 62 62 62 62 62 62 62 62 d)) (κ := κL) (k := 126 + d) rfl rfl rfl (Tab.consF (Tab.consF (Tab.consF (Tab.consF (Tab.consF (Tab.nil (by simp [B174])) (by omega) g177 F177.kp (ok177 F177 g177 hc19 hc18) (FunD.bindsN F177 fun _ _ _ _ _ _ us hl => match us, hl with | [_, _], _ => rfl)) (by omega) g176 F176.kp (ok176 F35 g35 F37 g37 F171 g171 F176 g176 hc19 hc18 b_sorted) (FunD.bindsN F176 fun _ _ _ _ _ _ us hl => match us, hl with | [_, _], _ => rfl)) (by omega) g167 F167.kp ((ok167 F168 g168 F0 g0 F8 g8 F169 g169 F170 g170 F35 g35 F37 g37 F171 g171 F167 g167 hc18 b_tuple b_list b_sorted b_max) 62) (FunD.bindsN F167 fun _ _ _ _ _ _ us hl => match us, hl with | [_, _], _ => rfl)) (by omega) g174 F174.kp ih (FunD.bindsN F174 fun _ _ _ _ _ _ us hl => match us, hl with | [_], _ => rfl)) (by omega) g172 F172.kp ((ok172 F35 g35 F37 g37 F171 g171 F172 g172 hc19 hc18 b_sorted) 62) (FunD.bindsN F172 fun _ _ _ _ _ _ us hl => match us, hl with | [_, _], _ => rfl)) F174 sc174 ck174 (ln174 (d + 1)) (rd174 rfl rfl rfl rfl rfl)
theorem ok175 {f35 : Addr} {fd35 : FuncData} (F35 : FnL P.K dd35 f35 fd35) (g35 : mg "parts" = some (.ref f35)) {f173 : Addr} {fd173 : FuncData} (F173 : FnL P.K dd173 f173 fd173) (g173 : mg "tree_size" = some (.ref f173)) {f37 : Addr} {fd37 : FuncData} (F37 : FnL P.K dd37 f37 fd37) (g37 : mg "inner_groups" = some (.ref f37)) {f171 : Addr} {fd171 : FuncData} (F171 : FnL P.K dd171 f171 fd171) (g171 : mg "bare" = some (.ref f171)) {f172 : Addr} {fd172 : FuncData} (F172 : FnL P.K dd172 f172 fd172) (g172 : mg "join_sequence" = some (.ref f172)) {f168 : Addr} {fd168 : FuncData} (F168 : FnL P.K dd168 f168 fd168) (g168 : mg "alternatives" = some (.ref f168)) {f0 : Addr} {fd0 : FuncData} (F0 : FnL P.K dd0 f0 fd0) (g0 : mg "make_set" = some (.ref f0)) {f8 : Addr} {fd8 : FuncData} (F8 : FnL P.K dd8 f8 fd8) (g8 : mg "union" = some (.ref f8)) {f169 : Addr} {fd169 : FuncData} (F169 : FnL P.K dd169 f169 fd169) (g169 : mg "merged" = some (.ref f169)) {f170 : Addr} {fd170 : FuncData} (F170 : FnL P.K dd170 f170 fd170) (g170 : mg "choice_of" = some (.ref f170)) {f167 : Addr} {fd167 : FuncData} (F167 : FnL P.K dd167 f167 fd167) (g167 : mg "join_choice" = some (.ref f167)) {f176 : Addr} {fd176 : FuncData} (F176 : FnL P.K dd176 f176 fd176) (g176 : mg "simple_repeat" = some (.ref f176)) {f177 : Addr} {fd177 : FuncData} (F177 : FnL P.K dd177 f177 fd177) (g177 : mg "simple_look" = some (.ref f177)) {f174 : Addr} {fd174 : FuncData} (F174 : FnL P.K dd174 f174 fd174) (g174 : mg "simplify" = some (.ref f174)) {f175 : Addr} {fd175 : FuncData} (F175 : FnL P.K dd175 f175 fd175) (g175 : mg "simplest" = some (.ref f175)) (hc19 : ∃ u v, mg "EMPTY" = some u ∧ RelV v u ∧ ∀ w, RelD P w (k19) v) (hc18 : ∃ u v, mg "NEVER" = some u ∧ RelV v u ∧ ∀ w, RelD P w (k18) v) (b_tuple : mg "tuple" = none) (b_list : mg "list" = none) (b_range : mg "range" = none) (b_sum : mg "sum" = none) (b_sorted : mg "sorted" = none) (b_max : mg "max" = none) : OkD P.pg P.wl P.K mg base P 189 f175 fd175 ["tree"] sp175 := okD (Φ := (ΦL 5 62 50 62 62 62 62 62 62 62 62 62 62)) (κ := κL) rfl rfl rfl (Tab.consF (Tab.consF (Tab.nil (by simp [B175, b_range])) (by omega) g174 F174.kp ((ok174 F35 g35 F37 g37 F171 g171 F172 g172 F168 g168 F0 g0 F8 g8 F169 g169 F170 g170 F167 g167 F176 g176 F177 g177 F174 g174 hc19 hc18 b_tuple b_list b_sorted b_max) 62) (FunD.bindsN F174 fun _ _ _ _ _ _ us hl => match us, hl with | [_], _ => rfl)) (by omega) g173 F173.kp ((ok173 F35 g35 F173 g173 b_sum) 62) (FunD.bindsN F173 fun _ _ _ _ _ _ us hl => match us, hl with | [_], _ => rfl)) F175 sc175 ck175 ln175 (rd175 rfl rfl)
theorem ok1178 {f1 : Addr} {fd1 : FuncData} (F1 : FnL P.K dd1 f1 fd1) (g1 : mg "_law_row" = some (.ref f1)) {f2 : Addr} {fd2 : FuncData} (F2 : FnL P.K dd2 f2 fd2) (g2 : mg "_law_digit" = some (.ref f2)) {f166 : Addr} {fd166 : FuncData} (F166 : FnL P.K dd166 f166 fd166) (g166 : mg "_law_tree" = some (.ref f166)) {f162 : Addr} {fd162 : FuncData} (F162 : FnL P.K dd162 f162 fd162) (g162 : mg "_law_looks" = some (.ref f162)) {f3 : Addr} {fd3 : FuncData} (F3 : FnL P.K dd3 f3 fd3) (g3 : mg "_law_same" = some (.ref f3)) {f159 : Addr} {fd159 : FuncData} (F159 : FnL P.K dd159 f159 fd159) (g159 : mg "_law_parts" = some (.ref f159)) {f165 : Addr} {fd165 : FuncData} (F165 : FnL P.K dd165 f165 fd165) (g165 : mg "_law_size" = some (.ref f165)) {f35 : Addr} {fd35 : FuncData} (F35 : FnL P.K dd35 f35 fd35) (g35 : mg "parts" = some (.ref f35)) {f173 : Addr} {fd173 : FuncData} (F173 : FnL P.K dd173 f173 fd173) (g173 : mg "tree_size" = some (.ref f173)) {f158 : Addr} {fd158 : FuncData} (F158 : FnL P.K dd158 f158 fd158) (g158 : mg "_law_bare" = some (.ref f158)) {f163 : Addr} {fd163 : FuncData} (F163 : FnL P.K dd163 f163 fd163) (g163 : mg "_law_sequence" = some (.ref f163)) {f161 : Addr} {fd161 : FuncData} (F161 : FnL P.K dd161 f161 fd161) (g161 : mg "_law_union" = some (.ref f161)) {f160 : Addr} {fd160 : FuncData} (F160 : FnL P.K dd160 f160 fd160) (g160 : mg "_law_choice" = some (.ref f160)) {f164 : Addr} {fd164 : FuncData} (F164 : FnL P.K dd164 f164 fd164) (g164 : mg "_law_simple" = some (.ref f164)) {f37 : Addr} {fd37 : FuncData} (F37 : FnL P.K dd37 f37 fd37) (g37 : mg "inner_groups" = some (.ref f37)) {f171 : Addr} {fd171 : FuncData} (F171 : FnL P.K dd171 f171 fd171) (g171 : mg "bare" = some (.ref f171)) {f172 : Addr} {fd172 : FuncData} (F172 : FnL P.K dd172 f172 fd172) (g172 : mg "join_sequence" = some (.ref f172)) {f168 : Addr} {fd168 : FuncData} (F168 : FnL P.K dd168 f168 fd168) (g168 : mg "alternatives" = some (.ref f168)) {f0 : Addr} {fd0 : FuncData} (F0 : FnL P.K dd0 f0 fd0) (g0 : mg "make_set" = some (.ref f0)) {f8 : Addr} {fd8 : FuncData} (F8 : FnL P.K dd8 f8 fd8) (g8 : mg "union" = some (.ref f8)) {f169 : Addr} {fd169 : FuncData} (F169 : FnL P.K dd169 f169 fd169) (g169 : mg "merged" = some (.ref f169)) {f170 : Addr} {fd170 : FuncData} (F170 : FnL P.K dd170 f170 fd170) (g170 : mg "choice_of" = some (.ref f170)) {f167 : Addr} {fd167 : FuncData} (F167 : FnL P.K dd167 f167 fd167) (g167 : mg "join_choice" = some (.ref f167)) {f176 : Addr} {fd176 : FuncData} (F176 : FnL P.K dd176 f176 fd176) (g176 : mg "simple_repeat" = some (.ref f176)) {f177 : Addr} {fd177 : FuncData} (F177 : FnL P.K dd177 f177 fd177) (g177 : mg "simple_look" = some (.ref f177)) {f174 : Addr} {fd174 : FuncData} (F174 : FnL P.K dd174 f174 fd174) (g174 : mg "simplify" = some (.ref f174)) {f175 : Addr} {fd175 : FuncData} (F175 : FnL P.K dd175 f175 fd175) (g175 : mg "simplest" = some (.ref f175)) {f1178 : Addr} {fd1178 : FuncData} (F1178 : FnL P.K dd1178 f1178 fd1178) (g1178 : mg "law" = some (.ref f1178)) (hc19 : ∃ u v, mg "EMPTY" = some u ∧ RelV v u ∧ ∀ w, RelD P w (k19) v) (hc18 : ∃ u v, mg "NEVER" = some u ∧ RelV v u ∧ ∀ w, RelD P w (k18) v) (b_len : mg "len" = none) (b_int : mg "int" = none) (b_isinstance : mg "isinstance" = none) (b_bool : mg "bool" = none) (b_str : mg "str" = none) (b_tuple : mg "tuple" = none) (b_list : mg "list" = none) (b_range : mg "range" = none) (b_sum : mg "sum" = none) (b_all : mg "all" = none) (b_any : mg "any" = none) (b_sorted : mg "sorted" = none) (b_max : mg "max" = none) : OkD P.pg P.wl P.K mg base P 190 f1178 fd1178 ["_law_script"] (spLaw 63) := okD (Φ := (ΦL 5 62 50 62 62 62 62 62 62 62 62 62 62)) (κ := κL) rfl rfl rfl (Tab.consF (Tab.consF (Tab.consF (Tab.consF (Tab.consF (Tab.consF (Tab.consF (Tab.consF (Tab.consF (Tab.nil (by simp [B1178, b_range])) (by omega) g175 F175.kp (ok175 F35 g35 F173 g173 F37 g37 F171 g171 F172 g172 F168 g168 F0 g0 F8 g8 F169 g169 F170 g170 F167 g167 F176 g176 F177 g177 F174 g174 F175 g175 hc19 hc18 b_tuple b_list b_range b_sum b_sorted b_max) (FunD.bindsN F175 fun _ _ _ _ _ _ us hl => match us, hl with | [_], _ => rfl)) (by omega) g174 F174.kp ((ok174 F35 g35 F37 g37 F171 g171 F172 g172 F168 g168 F0 g0 F8 g8 F169 g169 F170 g170 F167 g167 F176 g176 F177 g177 F174 g174 hc19 hc18 b_tuple b_list b_sorted b_max) 62) (FunD.bindsN F174 fun _ _ _ _ _ _ us hl => match us, hl with | [_], _ => rfl)) (by omega) g164 F164.kp ((ok164 F159 g159 F158 g158 F163 g163 F161 g161 F160 g160 F164 g164 b_len b_tuple b_range b_all b_any) 62) (FunD.bindsN F164 fun _ _ _ _ _ _ us hl => match us, hl with | [_], _ => rfl)) (by omega) g173 F173.kp ((ok173 F35 g35 F173 g173 b_sum) 62) (FunD.bindsN F173 fun _ _ _ _ _ _ us hl => match us, hl with | [_], _ => rfl)) (by omega) g165 F165.kp ((ok165 F159 g159 F165 g165 b_sum) 62) (FunD.bindsN F165 fun _ _ _ _ _ _ us hl => match us, hl with | [_], _ => rfl)) (by omega) g3 F3.kp ((ok3 F3 g3 b_len b_int b_isinstance b_bool b_str b_tuple b_list b_range) 50) (FunD.bindsN F3 fun _ _ _ _ _ _ us hl => match us, hl with | [_, _], _ => rfl)) (by omega) g162 F162.kp ((ok162 F162 g162) 62) (FunD.bindsN F162 fun _ _ _ _ _ _ us hl => match us, hl with | [_], _ => rfl)) (by omega) g2 F2.kp (ok2 F1 g1 F2 g2 b_len b_int) (FunD.bindsN F2 fun _ _ _ _ _ _ us hl => match us, hl with | [_, _, _], _ => rfl)) (by omega) g166 F166.kp ((ok166 F1 g1 F2 g2 F166 g166 b_len b_int) 5) (FunD.bindsN F166 fun _ _ _ _ _ _ us hl => match us, hl with | [_, _, _], _ => rfl)) F1178 sc1178 ck1178 lnLaw (rd1178 rfl rfl rfl rfl rfl rfl rfl rfl rfl)
end
theorem factsL {Pg : Program} {w : World} {K : PySem.W.Frag} {h : Heap} {mg : Str → Option Value} {f : Addr} (X : K.In h) (G : h.Ns mainGlobals mg) (hfa : mg ("law" : Str) = some (.ref f)) (c0 : SaysC faL fnL csL K) :
    ∃ fd : FuncData, (∀ (s : Shared) (v : Value), BindsTo s fd ⟨[v], []⟩ [("_law_script", v)]) ∧ ∀ base : Heap, OkD Pg w K mg base ⟨Pg, w, K, fun _ => 0, []⟩ 190 f fd ["_law_script"] (spLaw 63) := by
  obtain ⟨c, cc⟩ := c0.two
  obtain ⟨fd1, F1⟩ := c.def_ 0 (d := dd1) rfl
  obtain ⟨fd2, F2⟩ := c.def_ 1 (d := dd2) rfl
  obtain ⟨fd166, F166⟩ := c.def_ 2 (d := dd166) rfl
  obtain ⟨fd162, F162⟩ := c.def_ 3 (d := dd162) rfl
  obtain ⟨fd3, F3⟩ := c.def_ 4 (d := dd3) rfl
  obtain ⟨fd159, F159⟩ := c.def_ 5 (d := dd159) rfl
  obtain ⟨fd165, F165⟩ := c.def_ 6 (d := dd165) rfl
  obtain ⟨fd35, F35⟩ := c.def_ 7 (d := dd35) rfl
  obtain ⟨fd173, F173⟩ := c.def_ 8 (d := dd173) rfl
  obtain ⟨fd158, F158⟩ := c.def_ 9 (d := dd158) rfl
  obtain ⟨fd163, F163⟩ := c.def_ 10 (d := dd163) rfl
  obtain ⟨fd161, F161⟩ := c.def_ 11 (d := dd161) rfl
  obtain ⟨fd160, F160⟩ := c.def_ 12 (d := dd160) rfl
  obtain ⟨fd164, F164⟩ := c.def_ 13 (d := dd164) rfl
  obtain ⟨fd37, F37⟩ := c.def_ 14 (d := dd37) rfl
  obtain ⟨fd171, F171⟩ := c.def_ 15 (d := dd171) rfl
  obtain ⟨fd172, F172⟩ := c.def_ 16 (d := dd172) rfl
  obtain ⟨fd168, F168⟩ := c.def_ 17 (d := dd168) rfl
  obtain ⟨fd0, F0⟩ := c.def_ 18 (d := dd0) rfl
  obtain ⟨fd8, F8⟩ := c.def_ 19 (d := dd8) rfl
  obtain ⟨fd169, F169⟩ := c.def_ 20 (d := dd169) rfl
  obtain ⟨fd170, F170⟩ := c.def_ 21 (d := dd170) rfl
  obtain ⟨fd167, F167⟩ := c.def_ 22 (d := dd167) rfl
  obtain ⟨fd176, F176⟩ := c.def_ 23 (d := dd176) rfl
  obtain ⟨fd177, F177⟩ := c.def_ 24 (d := dd177) rfl
  obtain ⟨fd174, F174⟩ := c.def_ 25 (d := dd174) rfl
  obtain ⟨fd175, F175⟩ := c.def_ 26 (d := dd175) rfl
  obtain ⟨fd1178, F1178⟩ := c.def_ 27 (d := dd1178) rfl
  cases hfa.symm.trans (He.glo_ok X G (c.fact 27 (f := .glo "law") rfl))
  have b := FunD.bindsA (ps := ["_law_script"]) F1178 fun _ _ _ _ _ _ us hl => match us, hl with | [_], _ => rfl
  exact ⟨fd1178, fun s v => b s [v] rfl, fun base => ok1178 (P := ⟨Pg, w, K, fun _ => 0, []⟩) F1 (He.glo_ok X G (c.fact 0 (f := .glo "_law_row") rfl)) F2 (He.glo_ok X G (c.fact 1 (f := .glo "_law_digit") rfl)) F166 (He.glo_ok X G (c.fact 2 (f := .glo "_law_tree") rfl)) F162 (He.glo_ok X G (c.fact 3 (f := .glo "_law_looks") rfl)) F3 (He.glo_ok X G (c.fact 4 (f := .glo "_law_same") rfl)) F159 (He.glo_ok X G (c.fact 5 (f := .glo "_law_parts") rfl)) F165 (He.glo_ok X G (c.fact 6 (f := .glo "_law_size") rfl)) F35 (He.glo_ok X G (c.fact 7 (f := .glo "parts") rfl)) F173 (He.glo_ok X G (c.fact 8 (f := .glo "tree_size") rfl)) F158 (He.glo_ok X G (c.fact 9 (f := .glo "_law_bare") rfl)) F163 (He.glo_ok X G (c.fact 10 (f := .glo "_law_sequence") rfl)) F161 (He.glo_ok X G (c.fact 11 (f := .glo "_law_union") rfl)) F160 (He.glo_ok X G (c.fact 12 (f := .glo "_law_choice") rfl)) F164 (He.glo_ok X G (c.fact 13 (f := .glo "_law_simple") rfl)) F37 (He.glo_ok X G (c.fact 14 (f := .glo "inner_groups") rfl)) F171 (He.glo_ok X G (c.fact 15 (f := .glo "bare") rfl)) F172 (He.glo_ok X G (c.fact 16 (f := .glo "join_sequence") rfl)) F168 (He.glo_ok X G (c.fact 17 (f := .glo "alternatives") rfl)) F0 (He.glo_ok X G (c.fact 18 (f := .glo "make_set") rfl)) F8 (He.glo_ok X G (c.fact 19 (f := .glo "union") rfl)) F169 (He.glo_ok X G (c.fact 20 (f := .glo "merged") rfl)) F170 (He.glo_ok X G (c.fact 21 (f := .glo "choice_of") rfl)) F167 (He.glo_ok X G (c.fact 22 (f := .glo "join_choice") rfl)) F176 (He.glo_ok X G (c.fact 23 (f := .glo "simple_repeat") rfl)) F177 (He.glo_ok X G (c.fact 24 (f := .glo "simple_look") rfl)) F174 (He.glo_ok X G (c.fact 25 (f := .glo "simplify") rfl)) F175 (He.glo_ok X G (c.fact 26 (f := .glo "simplest") rfl)) F1178 (He.glo_ok X G (c.fact 27 (f := .glo "law") rfl)) (hcC (P := ⟨Pg, w, K, fun _ => 0, []⟩) X G (cstB_0 (cc ("EMPTY", k19) (by simp [csL])) (fun _ _ _ _ _ z => by cases z))) (hcC (P := ⟨Pg, w, K, fun _ => 0, []⟩) X G (cstB_0 (cc ("NEVER", k18) (by simp [csL])) (fun _ _ _ _ _ z => by cases z))) (He.free_ok X G (c.fact 28 (f := .free "len") rfl)) (He.free_ok X G (c.fact 29 (f := .free "int") rfl)) (He.free_ok X G (c.fact 30 (f := .free "isinstance") rfl)) (He.free_ok X G (c.fact 31 (f := .free "bool") rfl)) (He.free_ok X G (c.fact 32 (f := .free "str") rfl)) (He.free_ok X G (c.fact 33 (f := .free "tuple") rfl)) (He.free_ok X G (c.fact 34 (f := .free "list") rfl)) (He.free_ok X G (c.fact 35 (f := .free "range") rfl)) (He.free_ok X G (c.fact 36 (f := .free "sum") rfl)) (He.free_ok X G (c.fact 37 (f := .free "all") rfl)) (He.free_ok X G (c.fact 38 (f := .free "any") rfl)) (He.free_ok X G (c.fact 39 (f := .free "sorted") rfl)) (He.free_ok X G (c.fact 40 (f := .free "max") rfl))⟩
end DL
open PySem PySem.W PySem.Calls PyProof.Rows
theorem PySem.Challenge.cw_firstway_k28_simplified_by_the_rules_holds : PySem.Challenge.rw_firstway_k28_simplified_by_the_rules.Holds := by
  w_on; o_law
  refine HandSHeadRun.head_any (r := DL.rowL) (q := view DL.rowL.prog [33]) (H := DL.hkL) (ob := DL.obL) (M := 4000) (loose := [("parts" : PySem.Str), ("inner_groups" : PySem.Str), ("make_set" : PySem.Str), ("union" : PySem.Str), ("EMPTY" : PySem.Str), ("NEVER" : PySem.Str), ("tree_size" : PySem.Str), ("bare" : PySem.Str), ("join_sequence" : PySem.Str), ("alternatives" : PySem.Str), ("choice_of" : PySem.Str), ("merged" : PySem.Str), ("join_choice" : PySem.Str), ("simple_repeat" : PySem.Str), ("simple_look" : PySem.Str), ("simplify" : PySem.Str), ("simplest" : PySem.Str), ("_law_row" : PySem.Str), ("_law_digit" : PySem.Str), ("_law_same" : PySem.Str), ("_law_tree" : PySem.Str), ("_law_looks" : PySem.Str), ("_law_parts" : PySem.Str), ("_law_size" : PySem.Str), ("_law_bare" : PySem.Str), ("_law_sequence" : PySem.Str), ("_law_union" : PySem.Str), ("_law_choice" : PySem.Str), ("_law_simple" : PySem.Str)]) (d := HandSHeadRun.topDef DL.rowL.prog 33) (kwd := []) DL.obL_eq
    (by kernel_rfl) (fun s => by kernel_rfl) DL.runL (by kernel_rfl) (by kernel_rfl) (by kernel_rfl) (by rfl) (by first | assumption | decide +kernel) (by decide +kernel) ⟨rfl, rfl, rfl, rfl, rfl, by decide +kernel⟩ ?hw ?hc
  case hw => w_witness2
  case hc =>
    refine DL.walk_ofX (l := PySem.Challenge.rw_firstway_k28_simplified_by_the_rules) (n := 63) (k := 190) (x := "_law_script") rfl (by decide) (by kernel_rfl) ⟨rfl, by decide, by decide⟩ ?F
    intro w mg fa h Y G hmg0
    obtain ⟨K, KX, c⟩ := Y
    have hmg : mg ("law" : PySem.Str) = some (.ref fa) := hmg0
    obtain ⟨fd, hb, hF⟩ := DL.factsL (Pg := (PySem.Challenge.rw_firstway_k28_simplified_by_the_rules).prog) (w := w) KX G hmg c
    exact ⟨⟨(PySem.Challenge.rw_firstway_k28_simplified_by_the_rules).prog, w, K, fun _ => 0, []⟩, fd, rfl, KX, hb, fun base _ _ => hF base⟩

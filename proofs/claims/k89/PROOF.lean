import PyProof.Rows.All
import HandS.Iter
import KE.GoesMore
import PyProof.EnumMake
import PyProof.Draws
import Wide.All
import OpenK.AllK
import Wide.FinOn
import HandS.ForMost
import HandS.Exc
import HandS.ExcOwn
import HandS.WordsExc
import HandS.Flow
import HandS.TupAny
import HandS.IsInst
import HandS.SortRule
import HandS.CallSlots
import HandS.NoneIn
import HandS.TupLen
import KE.KeyNested
import HandS.NestedK
import HandS.Wide
import HandS.Deep
import KE.SortData
import HandS.More
import HandS.Text
import HandS.StrMore
import HandS.Defaults
import HandS.ExcInit
import HandS.ExcIs
import HandS.ExcField
import KE.KExcIs
import HandS.HeadHook2
import HandS.HeadWalk
import HandS.Conv
import HandS.Style
import HandS.MakeKwOnly
import HandS.HeadEnd
import HandS.Head2
import HandS.Codes
import HandS.EndTab
import HandS.HeadHook4
import HandS.TryMany
import HandS.TryOnly
import HandS.Head0
import HandS.Head1
import HandS.HeadHook1
import Lean
import PySem.Challenge.RW_firstway_k89_saved_words
set_option Elab.async false
set_option linter.all false
set_option maxRecDepth 100000
set_option maxHeartbeats 8000000
namespace DL
open PySem L2
open AutoSeq1 (wpAny_loadPart')
theorem meets_enumerate_newT (l : Addr) (items : Array Value) (dct : Option Addr) (sl : Array (Option Value)) (n : Nat) :
    Meets (Builtin.«enumerate.__new__» ⟨[.type "enumerate", .ref l], []⟩) (fun _ R s => s.heap.get? l = some { cls := .type "tuple", dict := dct, data := .seq items n, slots := sl } ∧
      R (.ok (.ret (.ref (s.heap.push { cls := .type "tuple_iterator", data := .fields #[.ref l, .int 0 0] }).objs.size)))
        { s with heap := (s.heap.push { cls := .type "tuple_iterator", data := .fields #[.ref l, .int 0 0] }).push { cls := .type "enumerate", data := .fields #[.none, .bool false, .ref s.heap.objs.size, rawInt 0, .none, .none] } }) :=
  .of_wp fun prog w A R s h => by
    obtain ⟨hp, g, d, tk, os⟩ := s; obtain ⟨hl, h⟩ := h
    have hsub := sub_enumerate
    have hL : Heap.IsTuple (Shared.heap ⟨hp, g, d, tk, os⟩) l items := ⟨_, hl, rfl, n, rfl⟩
    wp_walk using wpAny_loadPart' hl
    refine wpAny_stack_any fun st => wpAny_pure ?_
    split
    · rename_i c _ _ _ _ _
      cases (c == Value.type "enumerate")
      · wp_walk using wpAny_loadPart' hl, wpAny_pyIter_tuple hL
        exact ⟨_, rfl, h⟩
      · wp_walk using wpAny_loadPart' hl, wpAny_pyIter_tuple hL
        exact ⟨_, rfl, h⟩
    · wp_walk using wpAny_loadPart' hl, wpAny_pyIter_tuple hL
      exact ⟨_, rfl, h⟩
section
variable {prog : Program} {w : World} {A : Around} {E : Value → Shared → Prop} {s : Shared}
theorem call_enumerate_tuple {l : Addr} {items : Array Value} {Q : Value → Shared → Prop} (hL : s.heap.IsTuple l items)
    (h : ∀ h', IsEnum h' (s.heap.objs.size + 1) s.heap.objs.size 0 .none → h'.IsTupleIter s.heap.objs.size l 0 → h'.objs.size = s.heap.objs.size + 2 →
      (∀ b o, s.heap.get? b = some o → h'.get? b = some o) → Q (.ref (s.heap.objs.size + 1)) { s with heap := h' }) :
    wpAny (model prog w) A (call (.type "enumerate") [.ref l]) Q E s := by
  obtain ⟨⟨c, dct, dt, sl⟩, hl, hc, n, hd⟩ := hL
  replace hc : c = .type "tuple" := hc
  replace hd : dt = .seq items n := hd
  subst hc hd
  refine callType_new F.called_enumerate (by decide) (F.typeCall_enumerate_1 _) (F.newCall_enumerate_1 _) (fun obj => F.args_object_init_2 obj _) F.entry_enumerate_new
    (meets_enumerate_newT l items dct sl n) ⟨hl, ?_⟩
  have hz : (s.heap.push { cls := .type "tuple_iterator", data := .fields #[.ref l, .int 0 0] }).objs.size = s.heap.objs.size + 1 := Heap.size_push ..
  show _ ∧ _
  rw [hz]
  have he : IsEnum ((s.heap.push { cls := .type "tuple_iterator", data := .fields #[.ref l, .int 0 0] }).push
      { cls := .type "enumerate", data := .fields #[.none, .bool false, .ref s.heap.objs.size, rawInt 0, .none, .none] }) (s.heap.objs.size + 1) s.heap.objs.size 0 .none := by
    have := Heap.get?_push_size (s.heap.push { cls := .type "tuple_iterator", data := .fields #[.ref l, .int 0 0] })
      (o := { cls := .type "enumerate", data := .fields #[.none, .bool false, .ref s.heap.objs.size, rawInt 0, .none, .none] }) rfl
    rw [hz] at this; exact this
  refine ⟨⟨_, he, rfl⟩, h _ he ⟨_, Heap.get?_push_of_some _ (Heap.get?_push_size _ rfl), rfl, rfl⟩ (by rw [Heap.size_push, hz]) fun b o x => Heap.get?_push_of_some _ (Heap.get?_push_of_some _ x)⟩
end
theorem wpAny_pyNext_enum_endT {prog : Program} {w : World} {A : Around} {E : Value → Shared → Prop} {s : Shared} {e it l : Addr} {i : Nat} {items : Array Value} {old : Value} {Q : Option Value → Shared → Prop} (hh : A.handled = none)
    (he : IsEnum s.heap e it i old) (hit : s.heap.IsTupleIter it l i) (hl : s.heap.IsTuple l items) (hx : items[i]? = none)
    (hQ : ∀ h', Heap.ExtBut it s.heap h' → Q none { s with heap := h' }) : wpAny (model prog w) A (pyNext (.ref e)) Q E s := by
  have hT : s.TypeIs (.ref e) "enumerate" := ⟨_, he, rfl⟩
  unfold pyNext
  refine wpAny_bind (wpAny_attempt (wpAny_callSpecial?_slot (name := Str.ofString "__next__") hT F.slot_enumerate_next
    (wpAny_call_entry F.slot_enumerate_next hT F.entry_enumerate_next ?_ (F.args_enumerate_next_1 _))))
  show wpAny _ _ (field (.ref e) 2 >>= _) _ _ _
  refine wpAny_bind (wpAny_field he rfl (x := .ref it) rfl ?_)
  refine wpAny_bind (wpAny_nextOf_tuple_end hh hit hl hx fun h' x he' hx' => ?_)
  obtain ⟨o, ho, hc⟩ := hx'
  refine wpAny_bind (wpAny_isInstance (T := "StopIteration") (b := true) ⟨o, ho, hc⟩ isSubtype_stop ?_)
  exact wpAny_pure (hQ _ he')
/-- the tuple at a, each item in a new pair -/
def IteT (K : PySem.W.Frag) (a : Addr) : It :=
  ⟨fun i H => ∃ (xs : List V) (x : V), SqT K H a xs ∧ xs[i]? = some x, fun i H v H' => ∃ T x, v = .ref T ∧ H T = none ∧ H' = upd H T (.tup [.int (i : Nat), x]) ∧ ∀ xs, SqT K H a xs → xs[i]? = some x, fun i H => ∃ xs : List V, SqT K H a xs ∧ xs.length ≤ i⟩
theorem turn_enumT {P : Program} {w : World} {K : PySem.W.Frag} {elts : List Expr} {kk : Nat} {tpos : Pos} (a e it : Addr) (hat : a ≠ it) (hae : a ≠ e) :
    Turn P w K (.Tuple elts kk tpos) (IteT K a) [e, it] e (fun i h => (∃ old, IsEnum h e it ((i : Nat) : Int) old) ∧ h.IsTupleIter it a i ∧ e ≠ it) where
  mem := by simp
  obj := fun i h st b hb => by
    obtain ⟨⟨old, he⟩, ⟨o, ho, hc, hd⟩, _⟩ := st
    have e' : b = e ∨ b = it := by simpa using hb
    rcases e' with z | z
    · rw [z]; exact ⟨_, he, fun v q => nomatch q⟩
    · rw [z]; exact ⟨o, ho, fun v q => by rw [hd] at q; cases q⟩
  keep := fun i h h' st k => let ⟨⟨old, he⟩, hi, hne⟩ := st; ⟨⟨old, k e (by simp) _ he⟩, hi.at fun o q => k it (by simp) o q, hne⟩
  item := by
    intro X hP hw hK hc i pins s σ H E I hf st hg
    subst hP hw hK
    obtain ⟨⟨old, he⟩, hit, hne⟩ := st
    obtain ⟨xs, x, hq, hx⟩ := hg
    obtain ⟨its, rv, p, hz⟩ := I.tuple hq
    obtain ⟨u, hu, ru⟩ := rv.get hx
    have hel : e < s.heap.objs.size := Heap.lt_size he
    have hil : it < s.heap.objs.size := by obtain ⟨_, q, _⟩ := hit; exact Heap.lt_size q
    have p' : s.heap.IsTuple a its.toArray := p
    have hlt : i < its.toArray.size := by have := (List.getElem?_eq_some_iff.mp hu).1; simpa using this
    have D := Draws.tuple (prog := X.prog) (w := X.w) (A := X.A.in1) (I.ok.hd hc) it a hat its.toArray
    refine wpAny_pyNext_enum_itemD (n := its.toArray.size) D he ⟨hit, p'⟩ hlt hne (fun z => by
      have e' : e = it ∨ e = a := by simpa using z
      rcases e' with z | z
      · exact hne z
      · exact hae z.symm) fun x' h' tk hPx ho hst hT hsz hk => ?_
    have hx' : x' = u := by
      have : its.toArray[i]? = some u := by simpa using hu
      rw [this] at hPx; exact (Option.some.inj hPx).symm
    subst hx'
    refine ⟨_, rfl, wpAny_letOwnedTupleGo_enum (s := { s with heap := h', toks := tk + 1 }) ho fun h'' he' sb => ?_⟩
    have hT2 : h''.get? s.heap.objs.size = some { cls := .type "tuple", data := .seq #[.int i tk, x'] } := (sb.2 _ (Nat.ne_of_gt hel)).trans hT
    have new : ObjOk X.prog X.w (upd H s.heap.objs.size (.tup [.int (i : Nat), x])) h'' s.heap.objs.size (.tup [.int (i : Nat), x]) :=
      ⟨by show 2 ≤ sizeLine; decide, [.int i tk, x'], .cons ⟨_, rfl⟩ (.cons ru .nil), ⟨_, hT2, rfl, _, rfl⟩⟩
    have I1 : Inv X pins σ (upd H s.heap.objs.size (.tup [.int (i : Nat), x])) { s with heap := h'', toks := tk + 1 } :=
      I.turnedNew (ch := [e, it]) (fun b ob hb q => (sb.2 b (fun z => hb (by simp [z]))).trans (hk b ob (fun z => hb (by simp [z])) (fun z => hb (by simp [z])) q)) hf (Nat.le_refl _) new
    refine ⟨.ref s.heap.objs.size, _, I1, rfl, ⟨_, x, rfl, I.hok.fresh (Nat.le_refl _), rfl, fun ys hy => by rw [I.tuple_inj hy hq]; exact hx⟩, ⟨⟨x', ?_⟩, hst.1.at fun o q => (sb.2 it (Ne.symm hne)).trans q, hne⟩, fun b hb => ?_⟩
    · have e1 : ((i + 1 : Nat) : Int) = (i : Int) + 1 := by omega
      rw [e1]; exact he'
    · have hb' : b < s.heap.objs.size := by
        have e' : b = e ∨ b = it := by simpa using hb
        rcases e' with z | z
        · rw [z]; exact hel
        · rw [z]; exact hil
      rw [upd_ne (Nat.ne_of_lt hb')]
      exact (hf b hb).1
  done := by
    intro X hP hw hK hc i pins s σ H E I hf st hg
    subst hP hw hK
    obtain ⟨⟨old, he⟩, hit, hne⟩ := st
    obtain ⟨xs, hq, hx⟩ := hg
    obtain ⟨its, rv, p, hz⟩ := I.tuple hq
    obtain ⟨f0, f1, f2, f3, f4, f5⟩ := hf it (by simp)
    have hl := rv.length
    have p' : s.heap.IsTuple a its.toArray := p
    exact wpAny_pyNext_enum_endT (I.ok.hd hc) he hit p' (by simp; omega) fun h' eb => ⟨rfl, I.turned (t' := s.toks) (fun b o hb q => eb b o hb q) f0 f1 f3 f4 f5⟩
  self := fun A i s Q E st h => let ⟨⟨_, he⟩, _⟩ := st; wpAny_pyIter_enum he h
def iEnumT (K : PySem.W.Frag) (ta : TA) : TI := fun σ H R => ta σ H fun vs H1 => ∃ a xs, vs = [.ref a] ∧ SqT K H1 a xs ∧ R (IteT K a) H1
theorem pi_enumT {X : Cx} {e : Expr} {ta : TA} {p pos tpos : Pos} {elts : List Expr} {kk : Nat} (hg : Gl X "enumerate") (hm : X.mg "enumerate" = none) (ha : PA X [e] ta) (hs : starEach [e] X.env = [(false, eval e X.env)] := by rfl) :
    PI X (.Tuple elts kk tpos) (.Call (.Name "enumerate" p) [e] [] pos) (iEnumT X.K ta) := by
  refine ⟨fun pins s σ H R I h => ?_⟩
  refine PyProof.Rows.Call_ (ld_blt I hg hm PyProof.Rows.boot_enumerate (PyProof.Rows.callWith_type1 (thn (ha.run pos pins s σ H _ I h) fun us s1 ⟨vs, H1, I1, r1, q1⟩ => ?_) hs rfl))
  obtain ⟨a, xs, ex, hq, q⟩ := q1
  subst ex
  cases r1 with
  | cons r rr =>
    cases rr
    cases r
    obtain ⟨its, rv, p', hz⟩ := I1.tuple hq
    have p2 : s1.heap.IsTuple a its.toArray := p'
    have hal : a < s1.heap.objs.size := by obtain ⟨_, z, _⟩ := p2; exact Heap.lt_size z
    refine call_enumerate_tuple p2 fun h' he hit hsz hk => wpAny_pyIter_enum he ?_
    have I2 : Inv X pins σ H1 { s1 with heap := h' } := I1.kept (t' := s1.toks) hk
    refine ⟨s1.heap.objs.size + 1, [s1.heap.objs.size + 1, s1.heap.objs.size], _, _, H1, rfl, I2, turn_enumT a (s1.heap.objs.size + 1) s1.heap.objs.size (Nat.ne_of_lt hal) (Nat.ne_of_lt (Nat.lt_succ_of_lt hal)), ⟨⟨.none, he⟩, hit, Nat.succ_ne_self _⟩, fun b hb => ?_, q⟩
    have e' : b = s1.heap.objs.size + 1 ∨ b = s1.heap.objs.size := by simpa using hb
    have hle : s1.heap.objs.size ≤ b := by
      rcases e' with z | z
      · rw [z]; exact Nat.le_add_right _ _
      · rw [z]; exact Nat.le_refl _
    exact I1.fpOk hle (I1.hok.fresh hle)
end DL
namespace DL
open PySem PySem.Spec PyProof.Rows L2
/-- a dict by None, ints, texts -/
def FD (pg : Program) (w : World) (a : Addr) (us : List (Option Key × V)) : HO := .ext fun h =>
  us.length ≤ sizeLine ∧ (a == sysModules) = false ∧ ∃ vs, KV us vs ∧ h.DictOf (noneKind pg w) a vs
def kVo : Option Key → V
  | none => .non
  | some k => kV k
theorem kVo_is {P : Program} {w : World} {k : Option Key} {u : Value} (r : RelV (kVo k) u) : (noneKind P w).is k u = true := by
  cases k with
  | none => have r : u = Value.none := r; subst r; rfl
  | some k => exact kV_is (P := P) (w := w) r
section
variable {X : Cx} {pins : List (Addr × Obj)} {σ : L2.St} {H : Hp} {s : Shared} {a : Addr} {y v : V} {u r : Value} {A : Around} {E : Value → Shared → Prop} {us : List (Option Key × V)} {k : Option Key}
theorem fd_of (I : Inv X pins σ H s) (e : H a = some (FD X.prog X.w a us)) : us.length ≤ sizeLine ∧ (a == sysModules) = false ∧ ∃ vs, KV us vs ∧ s.heap.DictOf (noneKind X.prog X.w) a vs := by
  obtain ⟨z, _, _⟩ := I.hok a _ e
  exact z
theorem fd_getItem {Q : Value → Shared → Prop} (I : Inv X pins σ H s) (e : H a = some (FD X.prog X.w a us)) (l : valV us k = some v) (ry : RelV (kVo k) u) (h : ∀ w' s', Inv X pins σ H s' → RelV v w' → Q w' s') :
    wpAny (model X.prog X.w) A (getItem (.ref a) u) Q E s := by
  obtain ⟨z, hd, vs, rel, dd⟩ := fd_of I e
  obtain ⟨w', hw, rw'⟩ := RelO.some_of (v := v) (o := valueAt vs k) (by rw [← l]; exact rel.val k)
  exact wpAny_getItem_of (kVo_is ry) dd.mapOf hw (h w' _ (I.tok _) rw')
theorem fd_in {Q : Value → Shared → Prop} (I : Inv X pins σ H s) (e : H a = some (FD X.prog X.w a us)) (ry : RelV (kVo k) u) (h : ∀ s', Inv X pins σ H s' → Q (.bool (valV us k).isSome) s') :
    wpAny (model X.prog X.w) A (compareOp .In u (.ref a)) Q E s := by
  obtain ⟨z, hd, vs, rel, dd⟩ := fd_of I e
  refine wpAny_in_of (kVo_is ry) hd dd.mapOf ?_
  rw [← (rel.val k).isSome_eq]
  exact h _ (I.tok _)
theorem fd_notIn {Q : Value → Shared → Prop} (I : Inv X pins σ H s) (e : H a = some (FD X.prog X.w a us)) (ry : RelV (kVo k) u) (h : ∀ s', Inv X pins σ H s' → Q (.bool (!(valV us k).isSome)) s') :
    wpAny (model X.prog X.w) A (compareOp .NotIn u (.ref a)) Q E s := by
  obtain ⟨z, hd, vs, rel, dd⟩ := fd_of I e
  refine wpAny_notIn_of (kVo_is ry) hd dd.mapOf ?_
  rw [← (rel.val k).isSome_eq]
  exact h _ (I.tok _)
theorem fd_ok {P : Program} {w : World} {H' : Hp} {h' : Heap} {us : List (Option Key × V)} {vs : List (Option Key × Value)} (z : us.length ≤ sizeLine) (hd : (a == sysModules) = false) (rel : KV us vs) (dd : h'.DictOf (noneKind P w) a vs) :
    ObjOk P w H' h' a (FD P w a us) := by
  refine ⟨⟨z, hd, vs, rel, dd⟩, ?_, ?_⟩
  · obtain ⟨o, _, _, ho, _⟩ := dd; exact ⟨o, ho⟩
  · rintro h1 h2 ⟨z, hd, vs, rel, o, es, ep, ho, hx, hdt, hk, hp, hn⟩ st
    exact ⟨z, hd, vs, rel, o, es, ep, st _ ho, hx, hdt, hk, hp, hn⟩
theorem fd_setItem {Q : Unit → Shared → Prop} (I : Inv X pins σ H s) (e : H a = some (FD X.prog X.w a us)) (l : us.length < sizeLine) (ry : RelV (kVo k) u) (rv : RelV v r)
    (h : ∀ s', Inv X pins σ (upd H a (FD X.prog X.w a (putK us k v))) s' → Q () s') : wpAny (model X.prog X.w) A (setItem (.ref a) u r) Q E s := by
  obtain ⟨z, hd, vs, rel, dd⟩ := fd_of I e
  have hz : vs.length ≤ sizeLine := by rw [← rel.length]; exact z
  have hl : (putK us k v).length ≤ sizeLine := by have := length_putK us k v; omega
  refine wpAny_setItem_pairs (hsz := hz) (kVo_is ry) dd fun h' dd' hs => h _ ?_
  have he : ∃ q, h'.get? a = some q := let ⟨q, _, _, hq, _⟩ := dd'; ⟨q, hq⟩
  exact d_write I (by rw [e]; exact True.intro) hs he (fd_ok hl hd (rel.put k rv) dd')
end
/-- the entries: the key, where its tuple lies, the value -/
def TD (pg : Program) (w : World) (a : Addr) (es : List (NestedKey × Addr × V)) : HO := .ext fun h =>
  es.length ≤ sizeLine ∧ (a == sysModules) = false ∧ ∃ xs : List (NestedKey × Addr × Value), Paired (fun (p : NestedKey × Addr × V) (q : NestedKey × Addr × Value) => p.1 = q.1 ∧ p.2.1 = q.2.1 ∧ RelV p.2.2 q.2.2) es xs ∧
    ∃ o e ep, h.get? a = some o ∧ o.ExactDict ∧ o.data = .dict e ep ∧ e.toList = xs.map (entryOfKey (nestedKind pg w)) ∧ (xs.map (·.1)).Nodup
def tVal (es : List (NestedKey × Addr × V)) (k : NestedKey) : Option V := (es.find? fun x => decide (x.1 = k)).map (·.2.2)
def tPut (es : List (NestedKey × Addr × V)) (k : NestedKey) (b : Addr) (v : V) : List (NestedKey × Addr × V) :=
  if (es.any fun x => decide (x.1 = k)) = true then es.map (fun x => if x.1 = k then (x.1, x.2.1, v) else x) else es ++ [(k, b, v)]
abbrev TR : List (NestedKey × Addr × V) → List (NestedKey × Addr × Value) → Prop := Paired fun p q => p.1 = q.1 ∧ p.2.1 = q.2.1 ∧ RelV p.2.2 q.2.2
theorem TR.val {es xs} (r : TR es xs) (k : NestedKey) : RelO (tVal es k) ((atKey xs k).map (·.2)) := by
  induction r with
  | nil => exact True.intro
  | @cons p q ps qs h t ih =>
    obtain ⟨h1, _, h2⟩ := h
    by_cases e : p.1 = k
    · have e' : q.1 = k := h1.symm.trans e
      have b : atKey (q :: qs) k = some q.2 := by simp [atKey, List.find?_cons, e']
      have c : tVal (p :: ps) k = some p.2.2 := by simp [tVal, List.find?_cons, e]
      rw [c, b]; exact h2
    · have e' : ¬ q.1 = k := fun z => e (h1.trans z)
      have b : atKey (q :: qs) k = atKey qs k := by simp [atKey, List.find?_cons, e']
      have c : tVal (p :: ps) k = tVal ps k := by simp [tVal, List.find?_cons, e]
      rw [c, b]; exact ih
theorem TR.any {es xs} (r : TR es xs) (k : NestedKey) : (es.any fun x => decide (x.1 = k)) = (atKey xs k).isSome := by
  induction r with
  | nil => rfl
  | @cons p q ps qs h t ih =>
    obtain ⟨h1, _, h2⟩ := h
    rw [List.any_cons, ih]
    by_cases e : p.1 = k
    · have e' : q.1 = k := h1.symm.trans e
      have b : atKey (q :: qs) k = some q.2 := by simp [atKey, List.find?_cons, e']
      rw [b]; simp [e]
    · have e' : ¬ q.1 = k := fun z => e (h1.trans z)
      have b : atKey (q :: qs) k = atKey qs k := by simp [atKey, List.find?_cons, e']
      rw [b]; simp [e]
theorem TR.put {es xs} (r : TR es xs) (k : NestedKey) {b : Addr} {v : V} {u : Value} (rv : RelV v u) : TR (tPut es k b v) (storedH xs k b u) := by
  unfold tPut storedH
  rw [r.any]
  by_cases q : (atKey xs k).isSome = true
  · rw [if_pos q, if_pos q]
    clear q
    induction r with
    | nil => exact .nil
    | @cons p q ps qs h t ih =>
      rw [List.map_cons, List.map_cons]
      refine .cons ?_ ih
      obtain ⟨h1, h2, h3⟩ := h
      unfold putAt
      by_cases e : p.1 = k
      · rw [if_pos e, if_pos (h1.symm.trans e)]; exact ⟨h1, h2, rv⟩
      · rw [if_neg e, if_neg (fun z => e (h1.trans z))]; exact ⟨h1, h2, h3⟩
  · rw [if_neg q, if_neg q]; exact Paired.snoc r ⟨rfl, rfl, rv⟩
theorem tPut_len (es : List (NestedKey × Addr × V)) (k : NestedKey) (b : Addr) (v : V) : (tPut es k b v).length ≤ es.length + 1 := by
  unfold tPut
  split
  · rw [List.length_map]; omega
  · rw [List.length_append]; simp
theorem nested_room {A : Around} (hu : A.units + 10 < cLine) {pg : Program} {w : World} : (nestedKind pg w).room A.in1 := by
  show A.in1.units + 8 < cLine
  rw [Around.in1_units]; omega
section
variable {X : Cx} {pins : List (Addr × Obj)} {σ : L2.St} {H : Hp} {s : Shared} {a b : Addr} {y v : V} {u r : Value} {A : Around} {E : Value → Shared → Prop} {es : List (NestedKey × Addr × V)} {k : NestedKey}
/-- the keys lie as they should -/
def KeysAt (pg : Program) (w : World) (h : Heap) (es : List (NestedKey × Addr × V)) : Prop := ∀ x ∈ es, (nestedKind pg w).is h x.1 x.2.1
theorem td_of (I : Inv X pins σ H s) (e : H a = some (TD X.prog X.w a es)) (hk : KeysAt X.prog X.w s.heap es) : es.length ≤ sizeLine ∧ (a == sysModules) = false ∧ ∃ xs, TR es xs ∧ s.heap.DictOfH (nestedKind X.prog X.w) a xs := by
  obtain ⟨⟨z, hd, xs, r, o, e1, ep, h1, h2, h3, h4, h5⟩, _, _⟩ := I.hok a _ e
  refine ⟨z, hd, xs, r, o, e1, ep, h1, h2, h3, h4, fun x hx => ?_, h5⟩
  have : ∀ {l m}, TR l m → (∀ x ∈ l, (nestedKind X.prog X.w).is s.heap x.1 x.2.1) → ∀ x ∈ m, (nestedKind X.prog X.w).is s.heap x.1 x.2.1 := by
    intro l m r
    induction r with
    | nil => intro _ x hx; cases hx
    | @cons p q ps qs h t ih =>
      intro hl x hx
      rcases List.mem_cons.mp hx with e | hx
      · subst e
        obtain ⟨h1, h2, _⟩ := h
        rw [← h1, ← h2]
        exact hl p List.mem_cons_self
      · exact ih (fun y hy => hl y (List.mem_cons_of_mem _ hy)) x hx
  exact this r hk x hx
theorem td_getItem {Q : Value → Shared → Prop} (hu : A.units + 10 < cLine) (I : Inv X pins σ H s) (e : H a = some (TD X.prog X.w a es)) (hk : KeysAt X.prog X.w s.heap es) (hb : (nestedKind X.prog X.w).is s.heap k b) (l : tVal es k = some v)
    (h : ∀ w' s', Inv X pins σ H s' → RelV v w' → Q w' s') : wpAny (model X.prog X.w) A (getItem (.ref a) (.ref b)) Q E s := by
  obtain ⟨z, hd, xs, rel, dd⟩ := td_of I e hk
  obtain ⟨w', hw, rw'⟩ := RelO.some_of (v := v) (o := (atKey xs k).map (·.2)) (by rw [← l]; exact rel.val k)
  obtain ⟨p, hp, hp2⟩ := Option.map_eq_some_iff.mp hw
  refine wpAny_getItem_heap (nested_room hu) hb dd hp ?_
  rw [hp2]
  exact h w' _ (I.tok _) rw'
theorem td_in {Q : Value → Shared → Prop} (hu : A.units + 10 < cLine) (I : Inv X pins σ H s) (e : H a = some (TD X.prog X.w a es)) (hk : KeysAt X.prog X.w s.heap es) (hb : (nestedKind X.prog X.w).is s.heap k b)
    (h : ∀ s', Inv X pins σ H s' → Q (.bool (tVal es k).isSome) s') : wpAny (model X.prog X.w) A (compareOp .In (.ref b) (.ref a)) Q E s := by
  obtain ⟨z, hd, xs, rel, dd⟩ := td_of I e hk
  refine wpAny_in_heap (nested_room hu) hb hd dd ?_
  have q := (rel.val k).isSome_eq
  rw [Option.isSome_map] at q
  rw [← q]
  exact h _ (I.tok _)
theorem td_notIn {Q : Value → Shared → Prop} (hu : A.units + 10 < cLine) (I : Inv X pins σ H s) (e : H a = some (TD X.prog X.w a es)) (hk : KeysAt X.prog X.w s.heap es) (hb : (nestedKind X.prog X.w).is s.heap k b)
    (h : ∀ s', Inv X pins σ H s' → Q (.bool (!(tVal es k).isSome)) s') : wpAny (model X.prog X.w) A (compareOp .NotIn (.ref b) (.ref a)) Q E s := by
  obtain ⟨z, hd, xs, rel, dd⟩ := td_of I e hk
  refine wpAny_notIn_heap (nested_room hu) hb hd dd ?_
  have q := (rel.val k).isSome_eq
  rw [Option.isSome_map] at q
  rw [← q]
  exact h _ (I.tok _)
theorem td_ok {P : Program} {w : World} {H' : Hp} {h' : Heap} {xs : List (NestedKey × Addr × Value)} (z : es.length ≤ sizeLine) (hd : (a == sysModules) = false) (rel : TR es xs) (dd : h'.DictOfH (nestedKind P w) a xs) :
    ObjOk P w H' h' a (TD P w a es) := by
  obtain ⟨o, e1, ep, h1, h2, h3, h4, _, h5⟩ := dd
  refine ⟨⟨z, hd, xs, rel, o, e1, ep, h1, h2, h3, h4, h5⟩, ⟨o, h1⟩, ?_⟩
  rintro g1 g2 ⟨z, hd, xs, rel, o, e1, ep, h1, h2, h3, h4, h5⟩ st
  exact ⟨z, hd, xs, rel, o, e1, ep, st _ h1, h2, h3, h4, h5⟩
theorem td_setItem {Q : Unit → Shared → Prop} (hu : A.units + 10 < cLine) (I : Inv X pins σ H s) (e : H a = some (TD X.prog X.w a es)) (hk : KeysAt X.prog X.w s.heap es) (hb : (nestedKind X.prog X.w).is s.heap k b) (l : es.length < sizeLine) (rv : RelV v r)
    (h : ∀ s', Inv X pins σ (upd H a (TD X.prog X.w a (tPut es k b v))) s' → Q () s') : wpAny (model X.prog X.w) A (setItem (.ref a) (.ref b) r) Q E s := by
  obtain ⟨z, hd, xs, rel, dd⟩ := td_of I e hk
  have hz : xs.length ≤ sizeLine := by rw [← Paired.length rel]; exact z
  have hl : (tPut es k b v).length ≤ sizeLine := by have := tPut_len es k b v; omega
  refine wpAny_setItem_heap (hsz := hz) (nested_room hu) hb dd fun h' dd' hs => h _ ?_
  have he : ∃ q, h'.get? a = some q := let ⟨q, _, _, hq, _⟩ := dd'; ⟨q, hq⟩
  exact d_write I (by rw [e]; exact True.intro) hs he (td_ok hl hd (rel.put k rv) dd')
end
theorem pe_dnewF {X : Cx} {pos : Pos} : PE X (.Dict [] [] pos) fun _ H Q => ∀ p, H p = none → Q (.ref p) (upd H p (FD X.prog X.w p [])) := ⟨fun pins s σ H Q I h =>
  wpAny_Dict_empty ⟨.ref s.heap.objs.size, _, I.laid (a := s.heap.objs.size) (o := FD X.prog X.w s.heap.objs.size []) (t' := s.toks) (fun _ _ q => Heap.get?_push_of_some _ q) (Nat.le_refl _)
    (fd_ok (vs := []) (Nat.zero_le _) (beq_eq_false_iff_ne.mpr (Nat.ne_of_gt I.big)) .nil ⟨_, #[], 0, Heap.get?_push_size _ rfl, ⟨rfl, rfl, rfl⟩, rfl, fun _ he => by simp at he, by constructor, by simp⟩), rfl, h _ (I.hok.fresh (Nat.le_refl _))⟩⟩
theorem pe_dnewT {X : Cx} {pos : Pos} : PE X (.Dict [] [] pos) fun _ H Q => ∀ p, H p = none → Q (.ref p) (upd H p (TD X.prog X.w p [])) := ⟨fun pins s σ H Q I h =>
  wpAny_Dict_empty ⟨.ref s.heap.objs.size, _, I.laid (a := s.heap.objs.size) (o := TD X.prog X.w s.heap.objs.size []) (t' := s.toks) (fun _ _ q => Heap.get?_push_of_some _ q) (Nat.le_refl _)
    (td_ok (xs := []) (Nat.zero_le _) (beq_eq_false_iff_ne.mpr (Nat.ne_of_gt I.big)) .nil ⟨_, #[], 0, Heap.get?_push_size _ rfl, ⟨rfl, rfl, rfl⟩, rfl, rfl, fun _ he => (nomatch he), by simp⟩), rfl, h _ (I.hok.fresh (Nat.le_refl _))⟩⟩
structure PD (X : Cx) (KS : List Str) (keys : List (Option Expr)) (values : List Expr) (t : TA) : Prop where
  run : ∀ (pos : Pos) (pins : List (Addr × Obj)) (s : Shared) (σ : L2.St) (H : Hp) (Q : List V → Hp → Prop), Inv X pins σ H s → t σ H Q →
    wpAny (model X.prog X.w) X.A (evalPairs (pairTrees keys values X.env pos)) (fun ws s' => ∃ us H', Inv X pins σ H' s' ∧ us.length = KS.length ∧ VV ((KS.zip us).map fun p => (V.str p.1, p.2)) ws ∧ Q us H') X.xe s
theorem pd_nil {X : Cx} : PD X [] [] [] (fun _ H Q => Q [] H) := ⟨fun pos pins s σ H Q I h => pairTrees_nil_walk ⟨[], H, I, rfl, .nil, h⟩⟩
theorem pd_cons {X : Cx} {KS : List Str} {k : Str} {a : Nat} {b : Pos} {v : Expr} {keys : List (Option Expr)} {values : List Expr} {tv : TE} {tr : TA} (hv : PE X v tv) (hr : PD X KS keys values tr) :
    PD X (k :: KS) (some (.Constant (.str k) a b) :: keys) (v :: values) (fun σ H Q => tv σ H fun y H2 => tr σ H2 fun us H3 => Q (y :: us) H3) := ⟨fun pos pins s σ H Q I h =>
  pairTrees_cons_walk (thn ((pe_str (x := k) (j := a) (pos := b)).run pins s σ H (fun x H1 => x = .str k ∧ H1 = H) I ⟨rfl, rfl⟩) fun u s1 ⟨x, H1, I1, rx, ex, e1⟩ => by
    subst ex; subst e1
    exact thn (hv.run pins s1 σ _ _ I1 h) fun w2 s2 ⟨y, H2, I2, ry, q2⟩ =>
      thn (hr.run pos pins s2 σ H2 _ I2 q2) fun ws s3 ⟨us, H3, I3, hl, rel, q3⟩ => ⟨y :: us, H3, I3, by rw [List.length_cons, List.length_cons, hl], .cons ⟨rx, ry⟩ rel, q3⟩)⟩
def fPut (l : List (Str × V)) (acc : List (Option Key × V)) : List (Option Key × V) := l.foldl (fun acc kv => putK acc (some (.inr kv.1)) kv.2) acc
theorem fPut_len : ∀ (l : List (Str × V)) (acc : List (Option Key × V)), (fPut l acc).length ≤ acc.length + l.length
  | [], acc => Nat.le_refl _
  | p :: l, acc => by
    have h1 := fPut_len l (putK acc (some (.inr p.1)) p.2)
    have h2 := length_putK acc (some (.inr p.1) : Option Key) p.2
    show (fPut l (putK acc (some (.inr p.1)) p.2)).length ≤ _
    rw [List.length_cons]; omega
theorem carriesF {P : Program} {w : World} : ∀ {l : List (Str × V)} {ws : List (Value × Value)}, VV (l.map fun p => (V.str p.1, p.2)) ws → ∃ rs : List (Option Key × Value), Carries (noneKind P w) ws rs ∧ ∀ {acc vs}, KV acc vs → KV (fPut l acc) (merged vs rs)
  | [], _, r => by rw [List.map_nil] at r; cases r; exact ⟨[], True.intro, fun q => q⟩
  | p :: l, _, r => by
    rw [List.map_cons] at r
    cases r with
    | @cons a b as bs h t =>
      obtain ⟨rs, c, q⟩ := carriesF (P := P) (w := w) t
      obtain ⟨b1, b2⟩ := b
      have h1 : (noneKind P w).is (some (.inr p.1)) b1 = true := kVo_is (P := P) (w := w) (k := some (.inr p.1)) h.1
      exact ⟨(some (.inr p.1), b2) :: rs, ⟨h1, rfl, c⟩, fun q0 => q (q0.put _ h.2)⟩
theorem pe_dlitF {X : Cx} {pos : Pos} {KS : List Str} {keys : List (Option Expr)} {values : List Expr} {t : TA} (h : PD X KS keys values t) (hall : keys.all (·.isSome) = true) (hl : keys.length = values.length) (h0 : keys ≠ []) (h15 : keys.length ≤ 15) (hk : KS.length ≤ 15) :
    PE X (.Dict keys values pos) fun σ H Q => ∀ p, H p = none → t σ (upd H p (FD X.prog X.w p [])) fun us H2 => H2 p = some (FD X.prog X.w p []) ∧ Q (.ref p) (upd H2 p (FD X.prog X.w p (fPut (KS.zip us) []))) := by
  refine ⟨fun pins s σ H Q I q => ?_⟩
  have hn := I.hok.fresh (Nat.le_refl s.heap.objs.size)
  have I1 := I.laid (a := s.heap.objs.size) (o := FD X.prog X.w s.heap.objs.size []) (h' := s.heap.push { cls := .type "dict", data := .dict #[] }) (t' := s.toks) (fun _ _ q => Heap.get?_push_of_some _ q) (Nat.le_refl _)
    (fd_ok (vs := []) (Nat.zero_le _) (beq_eq_false_iff_ne.mpr (Nat.ne_of_gt I.big)) .nil ⟨_, #[], 0, Heap.get?_push_size _ rfl, ⟨rfl, rfl, rfl⟩, rfl, fun _ he => by simp at he, by constructor, by simp⟩)
  refine wpAny_Dict_walk (knd := noneKind X.prog X.w) hall hl h0 h15 (thn (h.run pos pins _ σ _ _ I1 (q _ hn)) fun ws s2 ⟨us, H2, I2, hlen, rel, e, q2⟩ => ?_)
  obtain ⟨rs, c, rk⟩ := carriesF (P := X.prog) (w := X.w) rel
  obtain ⟨z, hd, vs0, r0, dd⟩ := fd_of I2 e
  cases r0
  refine ⟨rs, c, dd, fun h' dd' hs => ⟨.ref s.heap.objs.size, _, ?_, rfl, q2⟩⟩
  have hz : (fPut (KS.zip us) []).length ≤ sizeLine := by
    have h1 := fPut_len (KS.zip us) []
    rw [List.length_nil, List.length_zip, hlen] at h1
    rw [sizeLine_eq]; omega
  have he : ∃ q, h'.get? s.heap.objs.size = some q := let ⟨q, _, _, hq, _⟩ := dd'; ⟨q, hq⟩
  exact d_write I2 (by rw [e]; exact True.intro) hs he (fd_ok hz hd (rk .nil) dd')
def tFGet2 (pg : Program) (wl : World) (td ty tx : TE) : TE := fun σ H Q => td σ H fun x H1 => ∃ a us, x = .ref a ∧ H1 a = some (FD pg wl a us) ∧ ty σ H1 fun y H2 => tx σ H2 fun z H3 => ∃ us k, H3 a = some (FD pg wl a us) ∧ y = kVo k ∧ Q ((valV us k).getD z) H3
theorem fd_get2 {X : Cx} {pins : List (Addr × Obj)} {σ : L2.St} {H : Hp} {s : Shared} {a : Addr} {z : V} {u r : Value} {A : Around} {E : Value → Shared → Prop} {us : List (Option Key × V)} {k : Option Key} {Q : Value → Shared → Prop} (hu : A.units + 1 < cLine) (I : Inv X pins σ H s) (e : H a = some (FD X.prog X.w a us)) (ry : RelV (kVo k) u) (rd : RelV z r)
    (h : ∀ w' s', Inv X pins σ H s' → RelV ((valV us k).getD z) w' → Q w' s') : wpAny (model X.prog X.w) A (call (.builtin "dict.get") [.ref a, u, r]) Q E s := by
  obtain ⟨_, hd, vs, rel, dd⟩ := fd_of I e
  refine call_meetsIn PySem.F.slot_dict_get dd.typeIs PySem.F.entry_dict_get (PySem.F.args_dict_get_3 _ _ _) (meets_dict_get_default (noneKind X.prog X.w) a (kVo_is ry) hd r) ⟨_, dd.mapOf, h _ _ (I.tok _) ?_⟩
  exact (rel.val k).getD rd
theorem pe_fget2 {X : Cx} {o e f : Expr} {apos cpos : Pos} {td ty tx : TE} (hu : X.A.units + 1 < cLine) (ho : PE X o td) (he : PE X e ty) (hf : PE X f tx) (m : M2 X o "get" apos e f cpos) : PE X (.Call (.Attribute o "get" apos) [e, f] [] cpos) (tFGet2 X.prog X.w td ty tx) := by
  refine ⟨fun pins s σ H Q I h => ?_⟩
  refine wpAny_Call_method m.base m.few m.line PySem.F.plainAttrs_dict PySem.F.slot_dict_get PySem.F.type_dict_get (thn (ho.run pins s σ H _ I h) fun u s1 ⟨x, H1, I1, rx, a, us, ex, d, q1⟩ => ?_)
  subst ex
  obtain rfl : u = Value.ref a := rx
  obtain ⟨_, hd, vs, _, dd⟩ := fd_of I1 d
  have t2 : ∀ b, Value.ref a = .ref b → ∃ ob, s1.heap.get? b = some ob ∧ ob.dict = none := fun b q => by
    cases q
    obtain ⟨ob, _, _, h1, h2, _⟩ := dd
    exact ⟨ob, h1, h2.2.1⟩
  refine ⟨dd.typeIs, t2, ?_⟩
  rw [m.trees]
  refine Calls.callWith_builtin rfl (Calls.evalArgs_plain (Calls.spliced_cons (thn (he.run pins s1 σ H1 _ I1 q1) fun iv s2 ⟨y, H2, I2, ry, q2⟩ =>
    Calls.spliced_cons (thn (hf.run pins s2 σ H2 _ I2 q2) fun fv s3 ⟨z, H3, I3, rz, us3, k, e3, ey, q3⟩ => Calls.spliced_nil ?_))))
  subst ey
  exact fd_get2 hu I3 e3 ry rz fun w' s4 I4 rw' => ⟨_, H3, I4, rw', q3⟩
end DL
namespace DL
open PySem L2
/-- data: what a name holds, tuples and settled lists by value; ref k: the k-th changing object -/
inductive D where
  | non | bl (b : Bool) | int (i : Int) | str (s : Str) | tup (ds : List D) | lst (ds : List D) | scr (ns : List Int) | ref (k : Nat) | obj (c : Str) (ns : List Str) (ds : List D)
  | exc (a : Addr) (od : Option Addr) (c : Str) (ns : List Str) (ds : List D)
/-- a changing object; dead: one that is settled or let go -/
inductive MO where
  | lst (ds : List D) | dct (kvs : List (Option Key × D)) | dctT (kvs : List (D × D)) | ins (c : Str) (fs : List (Str × D)) | fn (F : NdefX.NF) (n : Nat) (cs : List D) (cvs : List V) | dead
abbrev Md := List MO
abbrev Std := List (Option D)
/-- how data lie: F what is settled, r where the changing objects stand -/
structure Wd where
  F : Hp
  r : List Addr
/-- the classes of the text -/
structure Pm where
  pg : Program
  wl : World
  K : PySem.W.Frag
  cls : Str → Addr
  T : List NdefX.NTab
mutual
def RelD (P : Pm) (w : Wd) : D → V → Prop
  | .non, v => v = .non
  | .bl b, v => v = .bl b
  | .int i, v => v = .int i
  | .str s, v => v = .str s
  | .tup ds, v => ∃ p vs, v = .ref p ∧ SqT P.K w.F p vs ∧ RelDs P w ds vs
  | .lst ds, v => ∃ p vs, v = .ref p ∧ w.F p = some (.lst vs) ∧ RelDs P w ds vs
  | .scr ns, v => ∃ p, v = .ref p ∧ SqL P.K w.F p (ns.map V.int)
  | .ref k, v => ∃ p, v = .ref p ∧ w.r[k]? = some p
  | .obj c ns ds, v => ∃ p dx vs, v = .ref p ∧ w.F p = some (.ins (P.cls c) dx (ns.zip vs)) ∧ ns.length = ds.length ∧ RelDs P w ds vs
  | .exc a od _ ns ds, v => ∃ vs, v = .ref a ∧ (∀ d, od = some d → w.F d = some (.xd (ns.zip vs))) ∧ ns.length = ds.length ∧ RelDs P w ds vs
def RelDs (P : Pm) (w : Wd) : List D → List V → Prop
  | [], vs => vs = []
  | d :: ds, vs => ∃ v r, vs = v :: r ∧ RelD P w d v ∧ RelDs P w ds r
end
structure Le (w w' : Wd) : Prop where
  F : ∀ a o, w.F a = some o → w'.F a = some o
  r : ∀ (k : Nat) p, w.r[k]? = some p → w'.r[k]? = some p
theorem Le.refl (w : Wd) : Le w w := ⟨fun _ _ h => h, fun _ _ h => h⟩
theorem Le.trans {a b c : Wd} (x : Le a b) (y : Le b c) : Le a c := ⟨fun p o h => y.F p o (x.F p o h), fun k p h => y.r k p (x.r k p h)⟩
theorem rd_mono {H H' : Hp} (e : ∀ a o, H a = some o → H' a = some o) {a : Addr} {u : HO} (h : Rd H a u) : Rd H' a u := by
  rcases h with h | ⟨o, h⟩
  · exact .inl (e _ _ h)
  · exact .inr ⟨o, e _ _ h⟩
theorem sqT_mono {K : PySem.W.Frag} {H H' : Hp} (e : ∀ a o, H a = some o → H' a = some o) {a : Addr} {xs : List V} (h : SqT K H a xs) : SqT K H' a xs := by
  rcases h with h | h
  · exact .inl (rd_mono e h)
  · exact .inr h
theorem sqL_mono {K : PySem.W.Frag} {H H' : Hp} (e : ∀ a o, H a = some o → H' a = some o) {a : Addr} {xs : List V} (h : SqL K H a xs) : SqL K H' a xs := by
  rcases h with h | h
  · exact .inl (rd_mono e h)
  · exact .inr h
section
variable {P : Pm} {w w' : Wd}
mutual
theorem RelD.mono (l : Le w w') : ∀ {d : D} {v : V}, RelD P w d v → RelD P w' d v
  | .non, _, h => h
  | .bl _, _, h => h
  | .int _, _, h => h
  | .str _, _, h => h
  | .tup ds, _, ⟨p, vs, e, hp, hs⟩ => ⟨p, vs, e, sqT_mono l.F hp, RelDs.mono l hs⟩
  | .lst ds, _, ⟨p, vs, e, hp, hs⟩ => ⟨p, vs, e, l.F _ _ hp, RelDs.mono l hs⟩
  | .scr _, _, ⟨p, e, hp⟩ => ⟨p, e, sqL_mono l.F hp⟩
  | .ref _, _, ⟨p, e, hp⟩ => ⟨p, e, l.r _ _ hp⟩
  | .obj c ns ds, _, ⟨p, dx, vs, e, hp, hl, hs⟩ => ⟨p, dx, vs, e, l.F _ _ hp, hl, RelDs.mono l hs⟩
  | .exc a od c ns ds, _, ⟨vs, e, hp, hl, hs⟩ => ⟨vs, e, fun d hd => l.F _ _ (hp d hd), hl, RelDs.mono l hs⟩
theorem RelDs.mono (l : Le w w') : ∀ {ds : List D} {vs : List V}, RelDs P w ds vs → RelDs P w' ds vs
  | [], _, h => h
  | d :: ds, _, ⟨v, r, e, h1, h2⟩ => ⟨v, r, e, RelD.mono l h1, RelDs.mono l h2⟩
end
theorem RelDs.length : ∀ {ds : List D} {vs : List V}, RelDs P w ds vs → vs.length = ds.length
  | [], _, h => by
    have h : _ = [] := h
    rw [h]; rfl
  | d :: ds, _, ⟨v, r, e, h1, h2⟩ => by rw [e, List.length_cons, List.length_cons, RelDs.length h2]
theorem RelDs.nil : RelDs P w [] [] := rfl
theorem RelDs.cons {d : D} {ds : List D} {v : V} {vs : List V} (h : RelD P w d v) (t : RelDs P w ds vs) : RelDs P w (d :: ds) (v :: vs) := ⟨v, vs, rfl, h, t⟩
theorem RelDs.append : ∀ {ds es : List D} {vs us : List V}, RelDs P w ds vs → RelDs P w es us → RelDs P w (ds ++ es) (vs ++ us)
  | [], _, _, _, h, t => by
    have h : _ = [] := h
    rw [h]; exact t
  | d :: ds, _, _, _, ⟨v, r, e, h1, h2⟩, t => by rw [e]; exact ⟨v, _, rfl, h1, RelDs.append h2 t⟩
theorem RelDs.get : ∀ {ds : List D} {vs : List V} {i : Nat} {d : D}, RelDs P w ds vs → ds[i]? = some d → ∃ v, vs[i]? = some v ∧ RelD P w d v
  | [], _, _, _, _, h => by simp at h
  | d :: ds, _, 0, _, ⟨v, r, e, h1, h2⟩, h => by
    simp at h; subst h; rw [e]; exact ⟨v, rfl, h1⟩
  | d :: ds, _, i + 1, _, ⟨v, r, e, h1, h2⟩, h => by
    rw [e]
    simpa using RelDs.get (i := i) h2 (by simpa using h)
theorem RelDs.set : ∀ {ds : List D} {vs : List V} {d : D} {v : V} (i : Nat), RelD P w d v → RelDs P w ds vs → RelDs P w (ds.set i d) (vs.set i v)
  | [], _, _, _, _, _, h => by
    have h : _ = [] := h
    rw [h]; rfl
  | d :: ds, _, _, _, 0, q, ⟨v, r, e, h1, h2⟩ => by rw [e]; exact ⟨_, _, rfl, q, h2⟩
  | d :: ds, _, _, _, i + 1, q, ⟨v, r, e, h1, h2⟩ => by rw [e]; exact ⟨_, _, rfl, h1, RelDs.set i q h2⟩
theorem RelDs.take : ∀ {ds : List D} {vs : List V} (n : Nat), RelDs P w ds vs → RelDs P w (ds.take n) (vs.take n)
  | _, _, 0, _ => by simp [RelDs]
  | [], _, n + 1, h => by
    have h : _ = [] := h
    rw [h]; rfl
  | d :: ds, _, n + 1, ⟨v, r, e, h1, h2⟩ => by rw [e]; exact ⟨_, _, rfl, h1, RelDs.take n h2⟩
theorem RelDs.drop : ∀ {ds : List D} {vs : List V} (n : Nat), RelDs P w ds vs → RelDs P w (ds.drop n) (vs.drop n)
  | _, _, 0, h => by simpa using h
  | [], _, n + 1, h => by
    have h : _ = [] := h
    rw [h]; rfl
  | d :: ds, _, n + 1, ⟨v, r, e, h1, h2⟩ => by rw [e]; exact RelDs.drop n h2
theorem RelDs.reverse : ∀ {ds : List D} {vs : List V}, RelDs P w ds vs → RelDs P w ds.reverse vs.reverse
  | [], _, h => by
    have h : _ = [] := h
    rw [h]; rfl
  | d :: ds, _, ⟨v, r, e, h1, h2⟩ => by
    rw [e, List.reverse_cons, List.reverse_cons]
    exact RelDs.append (RelDs.reverse h2) (.cons h1 .nil)
end
/-- entries, field by field -/
def RelKs {κ : Type} (P : Pm) (w : Wd) : List (κ × D) → List (κ × V) → Prop
  | [], us => us = []
  | (k, d) :: r, us => ∃ v us', us = (k, v) :: us' ∧ RelD P w d v ∧ RelKs P w r us'
theorem RelKs.mono {κ : Type} {P : Pm} {w w' : Wd} (l : Le w w') : ∀ {ds : List (κ × D)} {vs : List (κ × V)}, RelKs P w ds vs → RelKs P w' ds vs
  | [], _, h => h
  | (k, d) :: r, _, ⟨v, us', e, h2, h3⟩ => ⟨v, us', e, h2.mono l, RelKs.mono l h3⟩
theorem RelKs.length {κ : Type} {P : Pm} {w : Wd} : ∀ {ds : List (κ × D)} {vs : List (κ × V)}, RelKs P w ds vs → vs.length = ds.length
  | [], _, h => by
    have h : _ = [] := h
    rw [h]; rfl
  | (k, d) :: r, _, ⟨v, us', e, h2, h3⟩ => by rw [e, List.length_cons, List.length_cons, RelKs.length h3]
mutual
def keyN : D → Option NestedKey
  | .non => some .none
  | .bl b => some (.num (if b = true then 1 else 0))
  | .int i => some (.num i)
  | .str s => some (.text s)
  | .tup ds => (keyNs ds).map .tup
  | .lst _ => none
  | .scr _ => none
  | .ref _ => none
  | .obj _ _ _ => none
  | .exc _ _ _ _ _ => none
def keyNs : List D → Option (List NestedKey)
  | [] => some []
  | d :: ds => match keyN d, keyNs ds with
    | some k, some ks => some (k :: ks)
    | _, _ => none
end
/-- entries by tuples -/
def RelTs (P : Pm) (w : Wd) : List (D × D) → List (NestedKey × Addr × V) → Prop
  | [], es => es = []
  | (kd, d) :: r, es => ∃ k b v es', es = (k, b, v) :: es' ∧ keyN kd = some k ∧ k.depth ≤ 8 ∧ RelD P w kd (.ref b) ∧ RelD P w d v ∧ RelTs P w r es'
theorem RelTs.mono {P : Pm} {w w' : Wd} (l : Le w w') : ∀ {ds : List (D × D)} {es : List (NestedKey × Addr × V)}, RelTs P w ds es → RelTs P w' ds es
  | [], _, h => h
  | (kd, d) :: r, _, ⟨k, b, v, es', e, h1, h2, h3, h4, h5⟩ => ⟨k, b, v, es', e, h1, h2, h3.mono l, h4.mono l, RelTs.mono l h5⟩
theorem RelTs.length {P : Pm} {w : Wd} : ∀ {ds : List (D × D)} {es : List (NestedKey × Addr × V)}, RelTs P w ds es → es.length = ds.length
  | [], _, h => by
    have h : _ = [] := h
    rw [h]; rfl
  | (kd, d) :: r, _, ⟨k, b, v, es', e, h1, h2, h3, h4, h5⟩ => by rw [e, List.length_cons, List.length_cons, RelTs.length h5]
/-- a changing object as it stands at p -/
def CellOk (P : Pm) (w : Wd) (H : Hp) (p : Addr) : MO → Prop
  | .dead => True
  | .lst ds => w.F p = none ∧ ∃ vs, H p = some (.lst vs) ∧ RelDs P w ds vs
  | .dct kvs => w.F p = none ∧ ∃ us, H p = some (FD P.pg P.wl p us) ∧ RelKs P w kvs us
  | .dctT kvs => w.F p = none ∧ ∃ es, H p = some (TD P.pg P.wl p es) ∧ RelTs P w kvs es
  | .ins c fs => w.F p = none ∧ ∃ dx us, H p = some (.ins (P.cls c) dx us) ∧ RelKs P w fs us
  | .fn F _ cs cvs => w.F p = none ∧ H p = some (NdefX.FnO p F) ∧ F.c ∉ w.r ∧ H F.c = some (LamX.CodeO F.c F.qual) ∧ RelDs P w cs cvs
/-- no code object, no table -/
structure NoC (b : Addr) (o : HO) : Prop where
  c : ∀ q, o ≠ LamX.CodeO b q
  t : ∀ ps, o ≠ .tbl ps
/-- the tables of code objects stand, apart from all else -/
structure TabOk (P : Pm) (w : Wd) (H : Hp) : Prop where
  t : ∀ t ∈ P.T, (t.1 ∉ w.r ∧ w.F t.1 = none) ∧ ∃ ps : Array Value, H t.1 = some (.tbl ps) ∧ TriplesOk ps.toList ∧ ∀ (pos : Pos) (cv : Value), codeAmong pos ps.toList = some cv → ∃ c, cv = .ref c ∧ c ∉ w.r ∧ H c = some (LamX.CodeO c (t.2 pos.line pos.col))
  nt : ∀ a ps, w.F a ≠ some (.tbl ps)
  nc : ∀ b ∈ w.r, ∀ o, H b = some o → NoC b o
structure RepM (P : Pm) (w : Wd) (M : Md) (H : Hp) : Prop where
  sub : ∀ a o, w.F a = some o → H a = some o
  len : M.length = w.r.length
  nd : w.r.Nodup
  inH : ∀ p ∈ w.r, H p ≠ none
  cell : ∀ (k : Nat) m p, M[k]? = some m → w.r[k]? = some p → CellOk P w H p m
  tab : TabOk P w H
def RelSt (P : Pm) (w : Wd) (sd : Std) (σ : L2.St) : Prop := sd.length = σ.length ∧ ∀ (i : Nat) d, sd[i]? = some (some d) → ∃ v, σ[i]? = some (some v) ∧ RelD P w d v
theorem RelSt.mono {P : Pm} {w w' : Wd} {sd : Std} {σ : L2.St} (l : Le w w') (h : RelSt P w sd σ) : RelSt P w' sd σ :=
  ⟨h.1, fun i d e => let ⟨v, e', r⟩ := h.2 i d e; ⟨v, e', r.mono l⟩⟩
theorem upd_some {H : Hp} {p a : Addr} {o : HO} (e : H a ≠ none) : upd H p o a ≠ none := by
  by_cases h : a = p
  · subst h; rw [upd_same]; simp
  · rw [upd_ne h]; exact e
/-- what a step keeps -/
structure Step (w : Wd) (H : Hp) (w' : Wd) (H' : Hp) : Prop where
  le : Le w w'
  keep : ∀ a o, H a = some o → (∀ ps, o ≠ .tbl ps) → (a ∉ w.r ∨ w.F a ≠ none) → H' a = some o
  new : ∀ a, H a ≠ none → w.F a = none → a ∉ w.r → w'.F a = none ∧ a ∉ w'.r
  stay : ∀ a, H a ≠ none → H' a ≠ none
/-- the code objects stand as they did -/
def KpC (w : Wd) (H : Hp) (w' : Wd) (H' : Hp) : Prop := ∀ b q, b ∉ w.r → H b = some (LamX.CodeO b q) → b ∉ w'.r ∧ H' b = some (LamX.CodeO b q)
theorem TabOk.on {P : Pm} {w w' : Wd} {H H' : Hp} (T : TabOk P w H) (hC : KpC w H w' H') (hT : ∀ b ps, b ∉ w.r → w.F b = none → H b = some (.tbl ps) → b ∉ w'.r ∧ w'.F b = none ∧ H' b = some (.tbl ps)) (hn : ∀ a ps, w'.F a = some (.tbl ps) → w.F a = some (.tbl ps)) (hN : ∀ b ∈ w'.r, ∀ o, H' b = some o → NoC b o) : TabOk P w' H' := ⟨fun t ht => by
  obtain ⟨⟨h1, h2⟩, ps, h3, h4, h5⟩ := T.t t ht
  obtain ⟨g1, g2, g3⟩ := hT _ _ h1 h2 h3
  exact ⟨⟨g1, g2⟩, ps, g3, h4, fun pos cv hc => let ⟨c, e1, e2, e3⟩ := h5 pos cv hc; ⟨c, e1, hC c _ e2 e3⟩⟩, fun a ps z => T.nt a ps (hn a ps z), hN⟩
theorem NoC.lst {b : Addr} {vs : List V} : NoC b (.lst vs) := ⟨(fun q z => by unfold LamX.CodeO at z; cases z), (fun ps z => by cases z)⟩
theorem NoC.ins {b C dx : Addr} {fs : List (Str × V)} : NoC b (.ins C dx fs) := ⟨(fun q z => by unfold LamX.CodeO at z; cases z), (fun ps z => by cases z)⟩
/-- a heap whose object at b is a code object -/
def hpC (b : Addr) (q : Str) : Heap := ⟨Array.replicate (b + 1) ⟨.none, none, .fields #[.none, .str q default], #[]⟩, {}⟩
theorem hpC_at {b : Addr} {q : Str} : (hpC b q).get? b = some ⟨.none, none, .fields #[.none, .str q default], #[]⟩ := by
  unfold hpC Heap.get?
  simp
theorem NoC.ext {b : Addr} {p : Heap → Prop} (h : ∀ hp o vs, hp.get? b = some o → o.data = .fields vs → ¬ p hp) : NoC b (.ext p) := ⟨(fun q z => by
  unfold LamX.CodeO at z
  have e : p = _ := HO.ext.inj z
  refine h (hpC b q) _ _ hpC_at rfl ?_
  rw [e]
  exact ⟨_, _, default, hpC_at, rfl, rfl⟩), (fun ps z => by cases z)⟩
theorem NoC.fd {pg : Program} {w : World} {b : Addr} {us : List (Option Key × V)} : NoC b (FD pg w b us) := .ext fun hp o vs h1 h2 ⟨_, _, vs', _, o', es, ep, h3, _, h4, _⟩ => by
  rw [h1] at h3; cases h3; rw [h2] at h4; cases h4
theorem NoC.td {pg : Program} {w : World} {b : Addr} {us : List (NestedKey × Addr × V)} : NoC b (TD pg w b us) := .ext fun hp o vs h1 h2 ⟨_, _, xs, _, o', es, ep, h3, _, h4, _⟩ => by
  rw [h1] at h3; cases h3; rw [h2] at h4; cases h4
theorem NoC.fn {b : Addr} {F : NdefX.NF} : NoC b (NdefX.FnO b F) := .ext fun hp o vs h1 h2 ⟨od, sl, doc, pm, ctv, h3⟩ => by
  rw [h1] at h3; cases h3; cases h2
theorem codeO_lst {a : Addr} {q : Str} {vs : List V} : LamX.CodeO a q ≠ .lst vs := fun z => by unfold LamX.CodeO at z; cases z
theorem Step.refl (w : Wd) (H : Hp) : Step w H w H := ⟨.refl w, fun _ _ h _ _ => h, fun _ _ h1 h2 => ⟨h1, h2⟩, fun _ h => h⟩
theorem Step.trans {a b c : Wd} {H1 H2 H3 : Hp} (x : Step a H1 b H2) (y : Step b H2 c H3) : Step a H1 c H3 where
  le := x.le.trans y.le
  keep := fun p o h ht hp => by
    by_cases hF : a.F p = none
    · rcases hp with hp | hp
      · obtain ⟨n1, n2⟩ := x.new p (by rw [h]; simp) hF hp
        exact y.keep p o (x.keep p o h ht (.inl hp)) ht (.inl n2)
      · exact absurd hF hp
    · have hF' : b.F p ≠ none := by
        cases q : a.F p with
        | none => exact absurd q hF
        | some u => rw [x.le.F _ _ q]; simp
      exact y.keep p o (x.keep p o h ht hp) ht (.inr hF')
  new := fun p h h1 h2 => by
    obtain ⟨n1, n2⟩ := x.new p h h1 h2
    exact y.new p (x.stay p h) n1 n2
  stay := fun p h => y.stay p (x.stay p h)
section
variable {P : Pm} {w : Wd} {M : Md} {H : Hp} {p : Addr}
theorem RepM.Fnone (R : RepM P w M H) (h : H p = none) : w.F p = none := by
  cases q : w.F p with
  | none => rfl
  | some o => rw [R.sub _ _ q] at h; cases h
theorem RepM.notin (R : RepM P w M H) (h : H p = none) : p ∉ w.r := fun hm => R.inH p hm h
theorem CellOk.mono {w' : Wd} {H' : Hp} (l : Le w w') (hF : w.F p = none → w'.F p = none) (hH : H' p = H p) (hC : KpC w H w' H') : ∀ {m : MO}, CellOk P w H p m → CellOk P w' H' p m
  | .dead, _ => trivial
  | .lst ds, ⟨h, vs, e, r⟩ => ⟨hF h, vs, hH.trans e, r.mono l⟩
  | .dct _, ⟨h, vs, e, r⟩ => ⟨hF h, vs, hH.trans e, r.mono l⟩
  | .dctT _, ⟨h, vs, e, r⟩ => ⟨hF h, vs, hH.trans e, r.mono l⟩
  | .fn _ _ _ _, ⟨h, e, r1, r2, r3⟩ => ⟨hF h, hH.trans e, (hC _ _ r1 r2).1, (hC _ _ r1 r2).2, r3.mono l⟩
  | .ins _ _, ⟨h, dx, vs, e, r⟩ => ⟨hF h, dx, vs, hH.trans e, r.mono l⟩
/-- a new settled object -/
theorem RepM.newF (R : RepM P w M H) (h : H p = none) (o : HO) (hnt : ∀ ps, o ≠ .tbl ps) : RepM P { w with F := upd w.F p o } M (upd H p o) ∧ Step w H { w with F := upd w.F p o } (upd H p o) := by
  have hF := R.Fnone h
  have hr := R.notin h
  have le : Le w { w with F := upd w.F p o } := ⟨fun a u e => by rw [show ({ w with F := upd w.F p o } : Wd).F = upd w.F p o from rfl, upd_ne (fun z => by rw [z, hF] at e; cases e)]; exact e, fun _ _ e => e⟩
  have hC : KpC w H { w with F := upd w.F p o } (upd H p o) := fun b q h1 h2 => ⟨h1, by rw [upd_ne (fun z => by rw [z, h] at h2; cases h2)]; exact h2⟩
  refine ⟨⟨fun a u e => ?_, R.len, R.nd, fun q hq => ?_, fun k m q hm hq => ?_, R.tab.on hC (fun a ps h1 h2 h3 => ?_) (fun a ps z => ?_) fun b hb o' e => R.tab.nc b hb o' (by rw [upd_ne (fun z => hr (by rw [← z]; exact hb))] at e; exact e)⟩, le, fun a u e _ _ => ?_, fun a e h1 h2 => ⟨?_, h2⟩, fun a e => upd_some e⟩
  · by_cases ha : a = p
    · subst ha
      have e' : upd w.F a o a = some u := e
      rw [upd_same] at e' ⊢; exact e'
    · have e' : upd w.F p o a = some u := e
      rw [upd_ne ha] at e' ⊢; exact R.sub _ _ e'
  · have : q ≠ p := fun z => hr (z ▸ hq)
    rw [upd_ne this]; exact R.inH q hq
  · have hqr : q ∈ w.r := List.mem_of_getElem? hq
    have nq : q ≠ p := fun z => hr (z ▸ hqr)
    exact (R.cell k m q hm hq).mono le (fun z => by show upd w.F p o q = none; rw [upd_ne nq]; exact z) (upd_ne nq) hC
  · have np : a ≠ p := fun z => by rw [z, h] at h3; cases h3
    exact ⟨h1, (by show upd w.F p o a = none; rw [upd_ne np]; exact h2), by rw [upd_ne np]; exact h3⟩
  · have z : upd w.F p o a = some (.tbl ps) := z
    by_cases ha : a = p
    · subst ha; rw [upd_same] at z; exact absurd (Option.some.inj z) (hnt ps)
    · rw [upd_ne ha] at z; exact z
  · rw [upd_ne (fun z => by rw [z, h] at e; cases e)]; exact e
  · show upd w.F p o a = none
    rw [upd_ne (fun z => e (by rw [z]; exact h))]; exact h1
/-- a new changing object -/
theorem RepM.newC (R : RepM P w M H) (h : H p = none) (o : HO) (m : MO) (hno : NoC p o) (hc : CellOk P { w with r := w.r ++ [p] } (upd H p o) p m) :
    RepM P { w with r := w.r ++ [p] } (M ++ [m]) (upd H p o) ∧ Step w H { w with r := w.r ++ [p] } (upd H p o) := by
  have hF := R.Fnone h
  have hr := R.notin h
  have le : Le w { w with r := w.r ++ [p] } := ⟨fun _ _ e => e, fun k q e => by
    show (w.r ++ [p])[k]? = some q
    rw [List.getElem?_append_left (List.getElem?_eq_some_iff.mp e).1]; exact e⟩
  have hC : KpC w H { w with r := w.r ++ [p] } (upd H p o) := fun b q h1 h2 => by
    have np : b ≠ p := fun z => by rw [z, h] at h2; cases h2
    refine ⟨fun z => ?_, by rw [upd_ne np]; exact h2⟩
    rcases List.mem_append.mp z with z | z
    · exact h1 z
    · simp at z; exact np z
  refine ⟨⟨fun a u e => ?_, by simp [R.len], ?_, fun q hq => ?_, fun k m' q hm hq => ?_, R.tab.on hC (fun a ps h1 h2 h3 => ?_) (fun a ps z => z) fun b hb o' e => ?_⟩, le, fun a u e _ _ => ?_, fun a e h1 h2 => ⟨h1, ?_⟩, fun a e => upd_some e⟩
  · rw [upd_ne (fun z => by rw [z] at e; rw [show w.F p = some u from e] at hF; cases hF)]; exact R.sub _ _ e
  · exact List.nodup_append.mpr ⟨R.nd, by simp, fun a ha b hb => by simp at hb; subst hb; exact fun z => hr (z ▸ ha)⟩
  · by_cases hq' : q = p
    · subst hq'; rw [upd_same]; simp
    · rw [upd_ne hq']
      refine R.inH q ?_
      rcases List.mem_append.mp hq with z | z
      · exact z
      · simp at z; exact absurd z hq'
  · by_cases hk : k < M.length
    · rw [List.getElem?_append_left hk] at hm
      have hq2 : w.r[k]? = some q := by
        have : (w.r ++ [p])[k]? = some q := hq
        rwa [List.getElem?_append_left (by rw [← R.len]; exact hk)] at this
      have nq : q ≠ p := fun z => hr (z ▸ List.mem_of_getElem? hq2)
      exact (R.cell k m' q hm hq2).mono le (fun z => z) (upd_ne nq) hC
    · have hk2 : k = M.length := by
        have := (List.getElem?_eq_some_iff.mp hm).1
        simp at this; omega
      subst hk2
      have e1 : m' = m := by simpa using hm.symm
      have e2 : q = p := by
        have : (w.r ++ [p])[M.length]? = some q := hq
        rw [R.len] at this
        simpa using this.symm
      subst e1; subst e2
      exact hc
  · have np : a ≠ p := fun z => by rw [z, h] at h3; cases h3
    refine ⟨fun z => ?_, h2, by rw [upd_ne np]; exact h3⟩
    rcases List.mem_append.mp z with z | z
    · exact h1 z
    · simp at z; exact np z
  · by_cases hbp : b = p
    · subst hbp; rw [upd_same] at e; cases e; exact hno
    · rw [upd_ne hbp] at e
      refine R.tab.nc b ?_ o' e
      rcases List.mem_append.mp hb with z | z
      · exact z
      · simp at z; exact absurd z hbp
  · rw [upd_ne (fun z => by rw [z, h] at e; cases e)]; exact e
  · intro z
    rcases List.mem_append.mp z with z | z
    · exact h2 z
    · simp at z; exact e (by rw [z]; exact h)
/-- a changing object changed -/
theorem RepM.write (R : RepM P w M H) {k : Nat} {m m' : MO} {o : HO} (hm : M[k]? = some m) (hl : w.F p = none) (hp : w.r[k]? = some p) (hno : NoC p o) (hc : CellOk P w (upd H p o) p m') :
    RepM P w (M.set k m') (upd H p o) ∧ Step w H w (upd H p o) := by
  have hpr : p ∈ w.r := List.mem_of_getElem? hp
  have hC : KpC w H w (upd H p o) := fun b q h1 h2 => ⟨h1, by rw [upd_ne (fun z => h1 (by rw [z]; exact hpr))]; exact h2⟩
  refine ⟨⟨fun a u e => ?_, by simp [R.len], R.nd, fun q hq => ?_, fun j n q hn hq => ?_, R.tab.on hC (fun a ps h1 h2 h3 => ⟨h1, h2, by rw [upd_ne (fun z => h1 (by rw [z]; exact hpr))]; exact h3⟩) (fun a ps z => z) fun b hb o' e => ?_⟩, .refl w, fun a u e _ ha => ?_, fun a e h1 h2 => ⟨h1, h2⟩, fun a e => upd_some e⟩
  · rw [upd_ne (fun z => by rw [z, hl] at e; cases e)]; exact R.sub _ _ e
  · by_cases hq' : q = p
    · subst hq'; rw [upd_same]; simp
    · rw [upd_ne hq']; exact R.inH q hq
  · by_cases hj : j = k
    · subst hj
      have e2 : q = p := by rw [hp] at hq; exact (Option.some.inj hq).symm
      subst e2
      have hlt : j < M.length := (List.getElem?_eq_some_iff.mp hm).1
      rw [List.getElem?_set_self hlt] at hn
      cases hn
      exact hc
    · rw [List.getElem?_set_ne (Ne.symm hj)] at hn
      have nq : q ≠ p := fun z => by
        subst z
        obtain ⟨l1, e1⟩ := List.getElem?_eq_some_iff.mp hq
        obtain ⟨l2, e2⟩ := List.getElem?_eq_some_iff.mp hp
        exact hj ((List.getElem_inj R.nd).mp (e1.trans e2.symm))
      exact (R.cell j n q hn hq).mono (.refl w) (fun z => z) (upd_ne nq) hC
  · by_cases hbp : b = p
    · subst hbp; rw [upd_same] at e; cases e; exact hno
    · rw [upd_ne hbp] at e; exact R.tab.nc b hb o' e
  · rw [upd_ne (fun z => by
      subst z
      rcases ha with ha | ha
      · exact ha hpr
      · exact ha hl)]
    exact e
theorem RepM.at (R : RepM P w M H) {k : Nat} {m : MO} (hm : M[k]? = some m) : ∃ p, w.r[k]? = some p := by
  have hlt : k < M.length := (List.getElem?_eq_some_iff.mp hm).1
  rw [R.len] at hlt
  exact ⟨w.r[k], List.getElem?_eq_getElem hlt⟩
/-- a changing list is settled -/
theorem RepM.settle (R : RepM P w M H) {k : Nat} {ds : List D} (hm : M[k]? = some (.lst ds)) (hp : w.r[k]? = some p) :
    ∃ vs, H p = some (.lst vs) ∧ RelDs P w ds vs ∧ RepM P { w with F := upd w.F p (.lst vs) } (M.set k .dead) H ∧ Step w H { w with F := upd w.F p (.lst vs) } H := by
  obtain ⟨hF, vs, hv, r⟩ := R.cell k _ p hm hp
  have hpr : p ∈ w.r := List.mem_of_getElem? hp
  have le : Le w { w with F := upd w.F p (.lst vs) } := ⟨fun a u e => by show upd w.F p _ a = _; rw [upd_ne (fun z => by rw [z, hF] at e; cases e)]; exact e, fun _ _ e => e⟩
  refine ⟨vs, hv, r, ⟨fun a u e => ?_, by simp [R.len], R.nd, R.inH, fun j n q hn hq => ?_, R.tab.on (fun _ _ h1 h2 => ⟨h1, h2⟩) (fun a ps h1 h2 h3 => ⟨h1, (by show upd w.F p _ a = none; rw [upd_ne (fun z => h1 (by rw [z]; exact hpr))]; exact h2), h3⟩) (fun a ps z => by
    have z : upd w.F p _ a = some (.tbl ps) := z
    by_cases ha : a = p
    · subst ha; rw [upd_same] at z; cases z
    · rw [upd_ne ha] at z; exact z) R.tab.nc⟩, le, fun a u e _ _ => e, fun a e h1 h2 => ⟨?_, h2⟩, fun a e => e⟩
  · have e' : upd w.F p (.lst vs) a = some u := e
    by_cases ha : a = p
    · subst ha; rw [upd_same] at e'; rw [← e']; exact hv
    · rw [upd_ne ha] at e'; exact R.sub _ _ e'
  · by_cases hj : j = k
    · subst hj
      have hlt : j < M.length := (List.getElem?_eq_some_iff.mp hm).1
      rw [List.getElem?_set_self hlt] at hn
      cases hn
      trivial
    · rw [List.getElem?_set_ne (Ne.symm hj)] at hn
      have nq : q ≠ p := fun z => by
        subst z
        obtain ⟨l1, e1⟩ := List.getElem?_eq_some_iff.mp hq
        obtain ⟨l2, e2⟩ := List.getElem?_eq_some_iff.mp hp
        exact hj ((List.getElem_inj R.nd).mp (e1.trans e2.symm))
      exact (R.cell j n q hn hq).mono le (fun z => by show upd w.F p _ q = none; rw [upd_ne nq]; exact z) rfl fun _ _ h1 h2 => ⟨h1, h2⟩
  · show upd w.F p _ a = none
    rw [upd_ne (fun z => h2 (by rw [z]; exact hpr))]; exact h1
/-- a changing instance is settled -/
theorem relKs_zip {P : Pm} {w : Wd} : ∀ {fs : List (Str × D)} {us : List (Str × V)}, RelKs P w fs us → us = (fs.map (·.1)).zip (us.map (·.2)) ∧ RelDs P w (fs.map (·.2)) (us.map (·.2))
  | [], us, h => by
    have h : us = [] := h
    subst h; exact ⟨rfl, rfl⟩
  | (k, d) :: r, _, ⟨v, us', e, h2, h3⟩ => by
    subst e
    obtain ⟨a, b⟩ := relKs_zip h3
    refine ⟨?_, v, _, rfl, h2, b⟩
    rw [List.map_cons, List.map_cons, List.zip_cons_cons, ← a]
theorem RepM.settleI (R : RepM P w M H) {k : Nat} {c : Str} {fs : List (Str × D)} (hm : M[k]? = some (.ins c fs)) (hp : w.r[k]? = some p) :
    ∃ w', w'.r = w.r ∧ RepM P w' (M.set k .dead) H ∧ Step w H w' H ∧ RelD P w' (.obj c (fs.map (·.1)) (fs.map (·.2))) (.ref p) := by
  obtain ⟨hF, dx, us, hv, r⟩ := R.cell k _ p hm hp
  have hpr : p ∈ w.r := List.mem_of_getElem? hp
  have le : Le w { w with F := upd w.F p (.ins (P.cls c) dx us) } := ⟨fun a u e => by show upd w.F p _ a = _; rw [upd_ne (fun z => by rw [z, hF] at e; cases e)]; exact e, fun _ _ e => e⟩
  obtain ⟨z1, z2⟩ := relKs_zip r
  refine ⟨{ w with F := upd w.F p (.ins (P.cls c) dx us) }, rfl, ⟨fun a u e => ?_, by simp [R.len], R.nd, R.inH, fun j n q hn hq => ?_, R.tab.on (fun _ _ h1 h2 => ⟨h1, h2⟩) (fun a ps h1 h2 h3 => ⟨h1, (by show upd w.F p _ a = none; rw [upd_ne (fun z => h1 (by rw [z]; exact hpr))]; exact h2), h3⟩) (fun a ps z => by
    have z : upd w.F p _ a = some (.tbl ps) := z
    by_cases ha : a = p
    · subst ha; rw [upd_same] at z; cases z
    · rw [upd_ne ha] at z; exact z) R.tab.nc⟩, ⟨le, fun a u e _ _ => e, fun a e h1 h2 => ⟨?_, h2⟩, fun a e => e⟩, ⟨p, dx, us.map (·.2), rfl, ?_, by simp, z2.mono le⟩⟩
  · have e' : upd w.F p (.ins (P.cls c) dx us) a = some u := e
    by_cases ha : a = p
    · subst ha; rw [upd_same] at e'; rw [← e']; exact hv
    · rw [upd_ne ha] at e'; exact R.sub _ _ e'
  · by_cases hj : j = k
    · subst hj
      have hlt : j < M.length := (List.getElem?_eq_some_iff.mp hm).1
      rw [List.getElem?_set_self hlt] at hn
      cases hn
      trivial
    · rw [List.getElem?_set_ne (Ne.symm hj)] at hn
      have nq : q ≠ p := fun z => by
        subst z
        obtain ⟨l1, e1⟩ := List.getElem?_eq_some_iff.mp hq
        obtain ⟨l2, e2⟩ := List.getElem?_eq_some_iff.mp hp
        exact hj ((List.getElem_inj R.nd).mp (e1.trans e2.symm))
      exact (R.cell j n q hn hq).mono le (fun z => by show upd w.F p _ q = none; rw [upd_ne nq]; exact z) rfl fun _ _ h1 h2 => ⟨h1, h2⟩
  · show upd w.F p _ a = none
    rw [upd_ne (fun z => h2 (by rw [z]; exact hpr))]; exact h1
  · show upd w.F p _ p = _
    rw [upd_same, ← z1]
end
mutual
def RLt (n : Nat) : D → Prop
  | .ref k => k < n
  | .tup ds => RLts n ds
  | .lst ds => RLts n ds
  | .obj _ _ ds => RLts n ds
  | .exc _ _ _ _ ds => RLts n ds
  | _ => True
def RLts (n : Nat) : List D → Prop
  | [] => True
  | d :: ds => RLt n d ∧ RLts n ds
end
theorem RLts_iff {n : Nat} : ∀ {ds : List D}, RLts n ds ↔ ∀ d ∈ ds, RLt n d
  | [] => by simp [RLts]
  | d :: ds => by simp [RLts, RLts_iff (ds := ds)]
def RLtM (n : Nat) : MO → Prop
  | .dead => True
  | .fn _ _ cs _ => RLts n cs
  | .lst ds => RLts n ds
  | .dct kvs => ∀ p ∈ kvs, RLt n p.2
  | .dctT kvs => ∀ p ∈ kvs, RLt n p.1 ∧ RLt n p.2
  | .ins _ fs => ∀ p ∈ fs, RLt n p.2
/-- what stands at changing objects points to changing objects that stand -/
def MOk (M : Md) : Prop := ∀ m ∈ M, RLtM M.length m
section
variable {P : Pm} {w : Wd}
mutual
theorem RelD.rlt : ∀ {d : D} {v : V}, RelD P w d v → RLt w.r.length d
  | .non, _, _ => trivial
  | .bl _, _, _ => trivial
  | .int _, _, _ => trivial
  | .str _, _, _ => trivial
  | .scr _, _, _ => trivial
  | .tup ds, _, ⟨p, vs, e, hp, hs⟩ => RelDs.rlt hs
  | .lst ds, _, ⟨p, vs, e, hp, hs⟩ => RelDs.rlt hs
  | .ref _, _, ⟨p, e, hp⟩ => (List.getElem?_eq_some_iff.mp hp).1
  | .obj c ns ds, _, ⟨p, dx, vs, e, hp, hl, hs⟩ => RelDs.rlt hs
  | .exc a od c ns ds, _, ⟨vs, e, hp, hl, hs⟩ => RelDs.rlt hs
theorem RelDs.rlt : ∀ {ds : List D} {vs : List V}, RelDs P w ds vs → RLts w.r.length ds
  | [], _, _ => trivial
  | d :: ds, _, ⟨v, r, e, h1, h2⟩ => ⟨RelD.rlt h1, RelDs.rlt h2⟩
end
mutual
theorem RelD.cut {n : Nat} : ∀ {d : D} {v : V}, RelD P w d v → RLt n d → RelD P { w with r := w.r.take n } d v
  | .non, _, h, _ => h
  | .bl _, _, h, _ => h
  | .int _, _, h, _ => h
  | .str _, _, h, _ => h
  | .scr _, _, h, _ => h
  | .tup ds, _, ⟨p, vs, e, hp, hs⟩, l => ⟨p, vs, e, hp, RelDs.cut hs l⟩
  | .lst ds, _, ⟨p, vs, e, hp, hs⟩, l => ⟨p, vs, e, hp, RelDs.cut hs l⟩
  | .ref k, _, ⟨p, e, hp⟩, l => ⟨p, e, by
    have l : k < n := l
    show (w.r.take n)[k]? = some p
    rw [List.getElem?_take_of_lt l]; exact hp⟩
  | .obj c ns ds, _, ⟨p, dx, vs, e, hp, hl, hs⟩, l => ⟨p, dx, vs, e, hp, hl, RelDs.cut hs l⟩
  | .exc a od c ns ds, _, ⟨vs, e, hp, hl, hs⟩, l => ⟨vs, e, hp, hl, RelDs.cut hs l⟩
theorem RelDs.cut {n : Nat} : ∀ {ds : List D} {vs : List V}, RelDs P w ds vs → RLts n ds → RelDs P { w with r := w.r.take n } ds vs
  | [], _, h, _ => h
  | d :: ds, _, ⟨v, r, e, h1, h2⟩, l => ⟨v, r, e, RelD.cut h1 l.1, RelDs.cut h2 l.2⟩
end
theorem RelKs.rlt {κ : Type} : ∀ {ds : List (κ × D)} {vs : List (κ × V)}, RelKs P w ds vs → ∀ p ∈ ds, RLt w.r.length p.2
  | [], _, _, p, hp => by cases hp
  | (k, d) :: r, _, ⟨v, us', e, h2, h3⟩, p, hp => by
    rcases List.mem_cons.mp hp with z | z
    · rw [z]; exact h2.rlt
    · exact RelKs.rlt h3 p z
theorem RelKs.cut {κ : Type} {n : Nat} : ∀ {ds : List (κ × D)} {vs : List (κ × V)}, RelKs P w ds vs → (∀ p ∈ ds, RLt n p.2) → RelKs P { w with r := w.r.take n } ds vs
  | [], _, h, _ => h
  | (k, d) :: r, _, ⟨v, us', e, h2, h3⟩, l => ⟨v, us', e, h2.cut (l _ List.mem_cons_self), RelKs.cut h3 fun p hp => l p (List.mem_cons_of_mem _ hp)⟩
theorem RelTs.rlt : ∀ {ds : List (D × D)} {es : List (NestedKey × Addr × V)}, RelTs P w ds es → ∀ p ∈ ds, RLt w.r.length p.1 ∧ RLt w.r.length p.2
  | [], _, _, p, hp => by cases hp
  | (kd, d) :: r, _, ⟨k, b, v, es', e, h1, h2, h3, h4, h5⟩, p, hp => by
    rcases List.mem_cons.mp hp with z | z
    · rw [z]; exact ⟨h3.rlt, h4.rlt⟩
    · exact RelTs.rlt h5 p z
theorem RelTs.cut {n : Nat} : ∀ {ds : List (D × D)} {es : List (NestedKey × Addr × V)}, RelTs P w ds es → (∀ p ∈ ds, RLt n p.1 ∧ RLt n p.2) → RelTs P { w with r := w.r.take n } ds es
  | [], _, h, _ => h
  | (kd, d) :: r, _, ⟨k, b, v, es', e, h1, h2, h3, h4, h5⟩, l => ⟨k, b, v, es', e, h1, h2, h3.cut (l _ List.mem_cons_self).1, h4.cut (l _ List.mem_cons_self).2, RelTs.cut h5 fun p hp => l p (List.mem_cons_of_mem _ hp)⟩
variable {M : Md} {H : Hp}
theorem RepM.ok (R : RepM P w M H) : MOk M := fun m hm => by
  obtain ⟨k, hk, e⟩ := List.getElem_of_mem hm
  have hm' : M[k]? = some m := by rw [List.getElem?_eq_getElem hk, e]
  obtain ⟨p, hp⟩ := R.at hm'
  have c := R.cell k m p hm' hp
  rw [R.len]
  cases m with
  | dead => trivial
  | fn _ _ _ _ => exact c.2.2.2.2.rlt
  | lst ds => obtain ⟨_, vs, _, r⟩ := c; exact r.rlt
  | dct kvs => obtain ⟨_, us, _, r⟩ := c; exact r.rlt
  | dctT kvs => obtain ⟨_, us, _, r⟩ := c; exact r.rlt
  | ins _ fs => obtain ⟨_, dx, us, _, r⟩ := c; exact r.rlt
theorem RepM.letgo (R : RepM P w M H) {n : Nat} (hn : n ≤ M.length) (hm : ∀ m ∈ M.take n, RLtM n m) : RepM P { w with r := w.r.take n } (M.take n) H where
  sub := R.sub
  len := by rw [List.length_take, List.length_take, R.len]
  nd := R.nd.sublist (List.take_sublist _ _)
  inH := fun p hp => R.inH p (List.mem_of_mem_take hp)
  cell := fun k m p h1 h2 => by
    have hk : k < n := by
      have := (List.getElem?_eq_some_iff.mp h1).1
      rw [List.length_take] at this; omega
    have h1' : M[k]? = some m := by rwa [List.getElem?_take_of_lt hk] at h1
    have h2' : w.r[k]? = some p := by
      have : (w.r.take n)[k]? = some p := h2
      rwa [List.getElem?_take_of_lt hk] at this
    have c := R.cell k m p h1' h2'
    have l := hm m (List.mem_of_getElem? h1)
    cases m with
    | dead => trivial
    | fn F n _ _ => exact ⟨c.1, c.2.1, fun z => c.2.2.1 (List.mem_of_mem_take z), c.2.2.2.1, c.2.2.2.2.cut l⟩
    | lst ds => obtain ⟨a, vs, e, r⟩ := c; exact ⟨a, vs, e, r.cut l⟩
    | dct kvs => obtain ⟨a, us, e, r⟩ := c; exact ⟨a, us, e, r.cut l⟩
    | dctT kvs => obtain ⟨a, us, e, r⟩ := c; exact ⟨a, us, e, r.cut l⟩
    | ins _ fs => obtain ⟨a, dx, us, e, r⟩ := c; exact ⟨a, dx, us, e, r.cut l⟩
  tab := R.tab.on (fun _ _ h1 h2 => ⟨fun z => h1 (List.mem_of_mem_take z), h2⟩) (fun a ps h1 h2 h3 => ⟨fun z => h1 (List.mem_of_mem_take z), h2, h3⟩) (fun a ps z => z) fun b hb => R.tab.nc b (List.mem_of_mem_take hb)
theorem Step.letgo {w0 : Wd} {H0 : Hp} (s : Step w0 H0 w H) {n : Nat} (h0 : w0.r.length ≤ n) : Step w0 H0 { w with r := w.r.take n } H where
  le := ⟨s.le.F, fun k p e => by
    have hk : k < n := Nat.lt_of_lt_of_le (List.getElem?_eq_some_iff.mp e).1 h0
    show (w.r.take n)[k]? = some p
    rw [List.getElem?_take_of_lt hk]; exact s.le.r _ _ e⟩
  keep := s.keep
  new := fun a e h1 h2 => ⟨(s.new a e h1 h2).1, fun z => (s.new a e h1 h2).2 (List.mem_of_mem_take z)⟩
  stay := s.stay
end
/-- what a def hands back: as it is; a changing list settled; changing objects of its own let go -/
inductive Fin (n0 : Nat) (Q : D → Md → Prop) : D → Md → Prop
  | keep {d : D} {M : Md} : Q d M → Fin n0 Q d M
  | drop {d : D} {M : Md} (n : Nat) : n0 ≤ n → n ≤ M.length → RLt n d → (∀ m ∈ M.take n, RLtM n m) → Fin n0 Q d (M.take n) → Fin n0 Q d M
  | settle {k : Nat} {ds : List D} {M : Md} : M[k]? = some (.lst ds) → Fin n0 Q (.lst ds) (M.set k .dead) → Fin n0 Q (.ref k) M
  | settleI {k : Nat} {c : Str} {fs : List (Str × D)} {M : Md} : M[k]? = some (.ins c fs) → Fin n0 Q (.obj c (fs.map (·.1)) (fs.map (·.2))) (M.set k .dead) → Fin n0 Q (.ref k) M
  | settleT {k : Nat} {ds es us : List D} {M : Md} : M[k]? = some (.lst ds) → Fin n0 Q (.tup (es ++ .lst ds :: us)) (M.set k .dead) → Fin n0 Q (.tup (es ++ .ref k :: us)) M
theorem RelDs.split {P : Pm} {w : Wd} {ds : List D} : ∀ {es : List D} {vs : List V}, RelDs P w (es ++ ds) vs → ∃ a b, vs = a ++ b ∧ RelDs P w es a ∧ RelDs P w ds b
  | [], vs, h => ⟨[], vs, rfl, rfl, h⟩
  | e :: es, vs, ⟨v, r, z, h1, h2⟩ => by
    obtain ⟨a, b, z2, h3, h4⟩ := RelDs.split h2
    exact ⟨v :: a, b, by rw [z, z2]; rfl, ⟨v, a, rfl, h1, h3⟩, h4⟩
theorem Fin.run {P : Pm} {n0 : Nat} {Q : D → Md → Prop} {d : D} {M : Md} (f : Fin n0 Q d M) : ∀ {w0 w : Wd} {H0 H : Hp} {v : V}, w0.r.length ≤ n0 → Step w0 H0 w H → RepM P w M H → RelD P w d v →
    ∃ d' M' w', Step w0 H0 w' H ∧ RepM P w' M' H ∧ RelD P w' d' v ∧ Q d' M' := by
  induction f with
  | keep q => intro w0 w H0 H v _ s R r; exact ⟨_, _, w, s, R, r, q⟩
  | drop n h0 hn hd hm _ ih =>
    intro w0 w H0 H v hw s R r
    exact ih hw (s.letgo (Nat.le_trans hw h0)) (R.letgo hn hm) (r.cut hd)
  | @settle k ds M hk _ ih =>
    intro w0 w H0 H v hw s R r
    obtain ⟨p, e, hp⟩ := r
    obtain ⟨vs, hv, rs, R', s'⟩ := R.settle hk hp
    refine ih hw (s.trans s') R' ⟨p, vs, e, ?_, rs.mono s'.le⟩
    show upd w.F p (.lst vs) p = _
    rw [upd_same]
  | @settleI k c fs M hk _ ih =>
    intro w0 w H0 H v hw s R r
    obtain ⟨p, e, hp⟩ := r
    obtain ⟨w', e1, R', s', r'⟩ := R.settleI hk hp
    subst e
    exact ih hw (s.trans s') R' r'
  | @settleT k ds es us M hk _ ih =>
    intro w0 w H0 H v hw s R r
    obtain ⟨q, vs, e, hq, rs⟩ := r
    obtain ⟨a, b, e2, h1, h2⟩ := rs.split
    obtain ⟨v, b, e3, ⟨p, e4, hp⟩, h3⟩ := h2
    obtain ⟨us', hv, rs', R', s'⟩ := R.settle hk hp
    refine ih hw (s.trans s') R' ⟨q, vs, e, sqT_mono s'.le.F hq, ?_⟩
    subst e2 e3 e4
    refine (h1.mono s'.le).append (.cons ⟨p, us', rfl, ?_, rs'.mono s'.le⟩ (h3.mono s'.le))
    show upd w.F p (.lst us') p = _
    rw [upd_same]
end DL
namespace DL
open PySem L2
abbrev QE := D → Md → Prop
/-- an exception: its class, its fields -/
structure XD where
  cls : Str
  fs : Option (List (Str × D))
abbrev EX := XD → Md → Prop
abbrev O2 := D → D → Md → QE → Prop
abbrev OA := List D → Md → QE → Prop
def Lk (P : Pm) (w : Wd) (H : Hp) (Qd : QE) (Q : VK) : Prop := ∀ w' M' H' d v, Step w H w' H' → RepM P w' M' H' → RelD P w' d v → Qd d M' → Q v H'
section
variable {P : Pm} {w : Wd} {M : Md} {H : Hp} {p : Addr} {Qd : QE} {Q : VK}
theorem Lk.same (l : Lk P w H Qd Q) (R : RepM P w M H) {d : D} {v : V} (r : RelD P w d v) (q : Qd d M) : Q v H := l w M H d v (.refl _ _) R r q
theorem Lk.tup (l : Lk P w H Qd Q) (R : RepM P w M H) {ds : List D} {vs : List V} (r : RelDs P w ds vs) (h : H p = none) (q : Qd (.tup ds) M) : Q (.ref p) (upd H p (.tup vs)) := by
  obtain ⟨R', s⟩ := R.newF h (.tup vs) fun _ z => by cases z
  exact l _ M _ (.tup ds) _ s R' ⟨p, vs, rfl, .inl (.inl upd_same), r.mono s.le⟩ q
theorem Lk.lst (l : Lk P w H Qd Q) (R : RepM P w M H) {ds : List D} {vs : List V} (r : RelDs P w ds vs) (h : H p = none) (q : Qd (.lst ds) M) : Q (.ref p) (upd H p (.lst vs)) := by
  obtain ⟨R', s⟩ := R.newF h (.lst vs) fun _ z => by cases z
  exact l _ M _ (.lst ds) _ s R' ⟨p, vs, rfl, upd_same, r.mono s.le⟩ q
theorem Lk.cell (l : Lk P w H Qd Q) (R : RepM P w M H) {ds : List D} {vs : List V} (r : RelDs P w ds vs) (h : H p = none) (q : Qd (.ref M.length) (M ++ [.lst ds])) : Q (.ref p) (upd H p (.lst vs)) := by
  have le : Le w { w with r := w.r ++ [p] } := ⟨fun _ _ e => e, fun k q e => by
    show (w.r ++ [p])[k]? = some q
    rw [List.getElem?_append_left (List.getElem?_eq_some_iff.mp e).1]; exact e⟩
  obtain ⟨R', s⟩ := R.newC h (.lst vs) (.lst ds) .lst ⟨R.Fnone h, vs, upd_same, r.mono le⟩
  exact l _ _ _ (.ref M.length) _ s R' ⟨p, rfl, by show (w.r ++ [p])[M.length]? = some p; rw [R.len]; simp⟩ q
end
def lstOf : D → Md → Option (List D)
  | .lst ds, _ => some ds
  | .ref k, M => match M[k]? with
    | some (.lst ds) => some ds
    | _ => none
  | _, _ => none
def seqOf : D → Md → Option (List D)
  | .tup ds, _ => some ds
  | .scr ns, _ => some (ns.map D.int)
  | .lst ds, _ => some ds
  | .ref k, M => match M[k]? with
    | some (.lst ds) => some ds
    | _ => none
  | _, _ => none
section
variable {P : Pm} {w : Wd} {M : Md} {H : Hp} {p : Addr} {Qd : QE} {Q : VK}
theorem relDs_ints : ∀ ns : List Int, RelDs P w (ns.map D.int) (ns.map V.int)
  | [] => rfl
  | n :: ns => ⟨.int n, _, rfl, rfl, relDs_ints ns⟩
theorem lstOf_at (R : RepM P w M H) {d : D} {v : V} {ds : List D} (r : RelD P w d v) (h : lstOf d M = some ds) : ∃ p vs, v = .ref p ∧ H p = some (.lst vs) ∧ RelDs P w ds vs := by
  cases d with
  | lst es =>
    cases h
    obtain ⟨p, vs, e, hp, hs⟩ := r
    exact ⟨p, vs, e, R.sub _ _ hp, hs⟩
  | ref k =>
    obtain ⟨p, e, hp⟩ := r
    have h : (match M[k]? with
      | some (.lst ds) => some ds
      | _ => none) = some ds := h
    split at h
    · rename_i ds' hm
      cases h
      obtain ⟨_, vs, e2, hs⟩ := R.cell k _ p hm hp
      exact ⟨p, vs, e, e2, hs⟩
    · cases h
  | _ => cases h
theorem seqOf_at (R : RepM P w M H) {d : D} {v : V} {ds : List D} (r : RelD P w d v) (h : seqOf d M = some ds) : ∃ p vs, v = .ref p ∧ (SqL P.K H p vs ∨ SqT P.K H p vs) ∧ RelDs P w ds vs := by
  cases d with
  | tup es =>
    cases h
    obtain ⟨p, vs, e, hp, hs⟩ := r
    exact ⟨p, vs, e, .inr (sqT_mono R.sub hp), hs⟩
  | lst es =>
    cases h
    obtain ⟨p, vs, e, hp, hs⟩ := r
    exact ⟨p, vs, e, .inl (SqL.of (R.sub _ _ hp)), hs⟩
  | scr ns =>
    cases h
    obtain ⟨p, e, hp⟩ := r
    exact ⟨p, _, e, .inl (sqL_mono R.sub hp), relDs_ints ns⟩
  | ref k =>
    obtain ⟨p, e, hp⟩ := r
    have h : (match M[k]? with
      | some (.lst ds) => some ds
      | _ => none) = some ds := h
    split at h
    · rename_i ds' hm
      cases h
      obtain ⟨_, vs, e2, hs⟩ := R.cell k _ p hm hp
      exact ⟨p, vs, e, .inl (SqL.of e2), hs⟩
    · cases h
  | _ => cases h
end
def truD : D → Md → (Bool → Prop) → Prop
  | .non, _, Q => Q false
  | .bl b, _, Q => Q b
  | .int i, _, Q => Q (i != 0)
  | .str s, _, Q => s.length ≤ sizeLine ∧ Q ((s.length : Int) != 0)
  | .tup ds, _, Q => Q (!ds.isEmpty)
  | .lst ds, _, Q => Q (!ds.isEmpty)
  | .scr ns, _, Q => Q (!ns.isEmpty)
  | .obj _ _ _, _, _ => False
  | .exc _ _ _ _ _, _, _ => False
  | .ref k, M, Q => match M[k]? with
    | some (.lst ds) => Q (!ds.isEmpty)
    | _ => False
theorem relDs_empty {P : Pm} {w : Wd} {ds : List D} {vs : List V} (r : RelDs P w ds vs) : vs.isEmpty = ds.isEmpty := by
  cases ds with
  | nil => have r : vs = [] := r; rw [r]; rfl
  | cons d ds => obtain ⟨v, r, e, _⟩ := r; rw [e]; rfl
theorem truD_at {P : Pm} {w : Wd} {M : Md} {H : Hp} (R : RepM P w M H) {d : D} {v : V} {Q : Bool → Prop} (r : RelD P w d v) (h : truD d M Q) : ∃ k, TruV P.K v H k ∧ Q k := by
  cases d with
  | non => have r : v = .non := r; subst r; exact ⟨_, rfl, h⟩
  | bl b => have r : v = .bl b := r; subst r; exact ⟨_, rfl, h⟩
  | int b => have r : v = .int b := r; subst r; exact ⟨_, rfl, h⟩
  | str b => have r : v = .str b := r; subst r; exact ⟨_, ⟨h.1, rfl⟩, h.2⟩
  | tup ds =>
    obtain ⟨p, vs, e, hp, hs⟩ := r
    subst e
    exact ⟨!vs.isEmpty, .inr (.inl ⟨vs, sqT_mono R.sub hp, rfl⟩), by rw [relDs_empty hs]; exact h⟩
  | lst ds =>
    obtain ⟨p, vs, e, hp, hs⟩ := r
    subst e
    exact ⟨!vs.isEmpty, .inl ⟨vs, SqL.of (R.sub _ _ hp), rfl⟩, by rw [relDs_empty hs]; exact h⟩
  | scr ns =>
    obtain ⟨p, e, hp⟩ := r
    subst e
    exact ⟨!(ns.map V.int).isEmpty, .inl ⟨_, sqL_mono R.sub hp, rfl⟩, by rw [List.isEmpty_map]; exact h⟩
  | obj c ns ds => exact h.elim
  | exc a od c ns ds => exact h.elim
  | ref k =>
    obtain ⟨p, e, hp⟩ := r
    subst e
    have h : (match M[k]? with
      | some (.lst ds) => Q (!ds.isEmpty)
        | _ => False) := h
    split at h
    · rename_i ds hm
      obtain ⟨_, vs, e2, hs⟩ := R.cell k _ p hm hp
      exact ⟨!vs.isEmpty, .inl ⟨vs, SqL.of e2, rfl⟩, by rw [relDs_empty hs]; exact h⟩
    · exact h.elim
def liO2 (P : Pm) (o : O2) : R2 := fun x y H Q => ∃ w M dx dy Qd, RepM P w M H ∧ RelD P w dx x ∧ RelD P w dy y ∧ Lk P w H Qd Q ∧ o dx dy M Qd
def liOA (P : Pm) (o : OA) : List V → Hp → VK → Prop := fun xs H Q => ∃ w M ds Qd, RepM P w M H ∧ RelDs P w ds xs ∧ Lk P w H Qd Q ∧ o ds M Qd
inductive Op where
  | add | cat | sub | mul | fdiv | fdivW | mod | pow | band
def opO : Op → Operator
  | .add => .Add | .cat => .Add | .sub => .Sub | .mul => .Mult | .fdiv => .FloorDiv | .fdivW => .FloorDiv | .mod => .Mod | .pow => .Pow | .band => .BitAnd
def repS (s : Str) (n : Nat) : Str := ⟨(List.replicate n s.cps).foldl (· ++ ·) #[]⟩
theorem op_mul_str {X : Cx} : OpR X (binaryOp .Mult) (fun x y H Q => ∃ i j, x = .str i ∧ y = .int j ∧ 0 ≤ j ∧ 1 ≤ i.length ∧ i.length * j.toNat ≤ sizeLine ∧ Q (.str (repS i j.toNat)) H) := by
  intro pins s σ H x y v u Q I rx ry h
  obtain ⟨i, j, rfl, rfl, hj, hi, hz, q⟩ := h
  obtain ⟨t, rfl⟩ := rx
  obtain ⟨t', rfl⟩ := ry
  have hjn : j.toNat ≤ sizeLine := Nat.le_trans (Nat.le_mul_of_pos_left _ hi) hz
  have hzl : sizeLine = 16777216 := rfl
  have htl : Builtin.Str.tooLong (i.length * j.toNat) = false := by
    unfold Builtin.Str.tooLong
    exact decide_eq_false (by omega)
  refine P.mul_str ?_ (fun hj1 _ => ?_) (fun _ _ => htl) ?_
  · rw [decide_eq_false (by omega), decide_eq_false (by omega)]; rfl
  · have hil : i.length ≤ sizeLine := Nat.le_trans (Nat.le_mul_of_pos_right _ (by omega)) hz
    have h1 : j.toNat * i.length ≤ 16777216 := by rw [Nat.mul_comm]; exact hz
    have h2 : (i.length : Int) * j ≤ 16777216 := by
      have e : j = (j.toNat : Int) := by omega
      rw [e, Int.mul_comm]
      have h4 : ((j.toNat * i.length : Nat) : Int) ≤ ((16777216 : Nat) : Int) := Int.ofNat_le.mpr h1
      rw [Int.natCast_mul] at h4
      exact h4
    have h3 : (i.length : Int) ≤ (2 ^ 63 - 1) / j := by
      refine (Int.le_ediv_iff_mul_le (by omega)).mpr ?_
      omega
    omega
  · by_cases h0 : j = 0
    · subst h0
      rw [if_pos (by omega)]
      exact ⟨by decide, .str (repS i 0), H, I.tok _, ⟨_, rfl⟩, q⟩
    rw [if_neg (by omega)]
    by_cases h1 : j = 1
    · subst h1
      rw [if_pos (by rfl)]
      have e : repS i 1 = i := by
        show (⟨#[] ++ i.cps⟩ : Str) = i
        rw [Array.empty_append]
      have q' : Q (.str (repS i 1)) H := q
      rw [e] at q'
      exact ⟨.str i, H, I, ⟨_, rfl⟩, q'⟩
    rw [if_neg (by
      simp only [Bool.or_eq_true, beq_iff_eq]
      omega)]
    exact ⟨PySem.fits_reps htl, .str (repS i j.toNat), H, I.tok _, ⟨_, rfl⟩, q⟩
/-- add: a list comes out settled; cat: it may be changed later -/
def opD : Op → O2
  | .add, .int i, .int j, M, Q => Q (.int (i + j)) M
  | .add, .str s, .str t, M, Q => s.length + t.length ≤ sizeLine ∧ Q (.str (s ++ t)) M
  | .add, .tup a, .tup b, M, Q => a.length + b.length ≤ sizeLine ∧ Q (.tup (a ++ b)) M
  | .add, x, y, M, Q => match lstOf x M, lstOf y M with
    | some a, some b => a.length + b.length ≤ sizeLine ∧ Q (.lst (a ++ b)) M
    | _, _ => False
  | .cat, x, y, M, Q => match lstOf x M, lstOf y M with
    | some a, some b => a.length + b.length ≤ sizeLine ∧ Q (.ref M.length) (M ++ [.lst (a ++ b)])
    | _, _ => False
  | .sub, .int i, .int j, M, Q => Q (.int (i - j)) M
  | .mul, .int i, .int j, M, Q => CMul i j ∧ Q (.int (i * j)) M
  | .mul, .str s, .int j, M, Q => 0 ≤ j ∧ 1 ≤ s.length ∧ s.length * j.toNat ≤ sizeLine ∧ Q (.str (repS s j.toNat)) M
  | .fdiv, .int i, .int j, M, Q => CDiv i j ∧ Q (.int (i / j)) M
  | .fdivW, .int i, .int j, M, Q => CDivW i j ∧ Q (.int (i / j)) M
  | .mod, .int i, .int j, M, Q => 0 < j ∧ Q (.int (i % j)) M
  | .pow, .int i, .int j, M, Q => CPow i j ∧ Q (.int (i ^ j.toNat)) M
  | .band, .int i, .int j, M, Q => Q (.int (Builtin.bitAnd i j)) M
  | _, _, _, _, _ => False
theorem op_sound {X : Cx} {P : Pm} (hK : P.K = X.K) (o : Op) : OpR X (binaryOp (opO o)) (liO2 P (opD o)) := by
  intro pins st σ H x y v u Q I rx ry q
  obtain ⟨w, M, dx, dy, Qd, R, hx, hy, l, q⟩ := q
  have lists : ∀ {k : List D → Prop}, (match lstOf dx M, lstOf dy M with
      | some a, some b => a.length + b.length ≤ sizeLine ∧ k (a ++ b)
      | _, _ => False) → (∀ {p : Addr} {ds : List D} {vs : List V}, k ds → RelDs P w ds vs → H p = none → Q (.ref p) (upd H p (.lst vs))) →
      wpAny (model X.prog X.w) X.A (binaryOp .Add v u) (EP X pins σ Q) X.xe st := fun {k} h f => by
    split at h
    · rename_i a b ha hb
      obtain ⟨p1, v1, e1, h1, r1⟩ := lstOf_at R hx ha
      obtain ⟨p2, v2, e2, h2, r2⟩ := lstOf_at R hy hb
      subst e1; subst e2
      exact op_cat pins st σ H _ _ v u Q I rx ry ⟨p1, p2, v1, v2, rfl, rfl, h1, h2, by rw [r1.length, r2.length]; exact h.1, fun p hp => f h.2 (r1.append r2) hp⟩
    · exact h.elim
  have i2 : ∀ {i j : Int} {g : Int}, dx = .int i → dy = .int j → Qd (.int g) M → x = .int i ∧ y = .int j ∧ Q (.int g) H := fun {i j g} e1 e2 q2 => by
    subst e1; subst e2
    exact ⟨hx, hy, l.same R (d := .int g) (v := .int g) rfl q2⟩
  cases o with
  | add =>
    cases dx with
    | int i =>
      cases dy with
      | int j => obtain ⟨a, b, c⟩ := i2 rfl rfl q; exact op_add pins st σ H x y v u Q I rx ry ⟨i, j, a, b, c⟩
      | _ => exact lists (k := fun ds => Qd (.lst ds) M) q fun k r h => l.lst R r h k
    | str i =>
      cases dy with
      | str j =>
        have hx : x = .str i := hx
        have hy : y = .str j := hy
        subst hx; subst hy
        exact op_add_str pins st σ H _ _ v u Q I rx ry ⟨i, j, rfl, rfl, q.1, l.same R (d := .str _) rfl q.2⟩
      | _ => exact lists (k := fun ds => Qd (.lst ds) M) q fun k r h => l.lst R r h k
    | tup i =>
      cases dy with
      | tup j =>
        obtain ⟨p1, v1, e1, h1, r1⟩ := hx
        obtain ⟨p2, v2, e2, h2, r2⟩ := hy
        subst e1; subst e2
        rw [hK] at h1 h2
        have hh : ∀ p, RelD P w (.tup (i ++ j)) (.ref p) → Q (.ref p) H := fun p r => l.same R r q.2
        refine op_catA pins st σ H _ _ v u Q I rx ry ⟨p1, p2, v1, v2, rfl, rfl, sqT_mono R.sub h1, sqT_mono R.sub h2, by rw [r1.length, r2.length]; exact q.1, fun e => ?_, fun _ e => ?_, fun _ _ p hp => ?_⟩
        · have e' : i = [] := by have := r1.length; rw [e] at this; exact List.length_eq_zero_iff.mp this.symm
          refine hh p2 ⟨p2, v2, rfl, by rw [hK]; exact h2, by rw [e']; exact r2⟩
        · have e' : j = [] := by have := r2.length; rw [e] at this; exact List.length_eq_zero_iff.mp this.symm
          refine hh p1 ⟨p1, v1, rfl, by rw [hK]; exact h1, by rw [e', List.append_nil]; exact r1⟩
        · exact l.tup R (r1.append r2) hp q.2
      | _ => exact lists (k := fun ds => Qd (.lst ds) M) q fun k r h => l.lst R r h k
    | _ => cases dy <;> exact lists (k := fun ds => Qd (.lst ds) M) q fun k r h => l.lst R r h k
  | cat => exact lists (k := fun ds => Qd (.ref M.length) (M ++ [.lst ds])) (by cases dx <;> exact q) fun k r h => l.cell R r h k
  | sub =>
    cases dx <;> cases dy <;> first | exact False.elim q | skip
    obtain ⟨a, b, c⟩ := i2 rfl rfl q
    exact op_sub pins st σ H x y v u Q I rx ry ⟨_, _, a, b, c⟩
  | mul =>
    cases dx <;> cases dy <;> first | exact False.elim q | skip
    · obtain ⟨a, b, c⟩ := i2 rfl rfl q.2
      exact op_mul pins st σ H x y v u Q I rx ry ⟨_, _, a, b, q.1, c⟩
    · rename_i s j
      have hx : x = .str s := hx
      have hy : y = .int j := hy
      subst hx; subst hy
      exact op_mul_str pins st σ H _ _ v u Q I rx ry ⟨s, j, rfl, rfl, q.1, q.2.1, q.2.2.1, l.same R (d := .str _) rfl q.2.2.2⟩
  | fdiv =>
    cases dx <;> cases dy <;> first | exact False.elim q | skip
    obtain ⟨a, b, c⟩ := i2 rfl rfl q.2
    exact op_fdiv pins st σ H x y v u Q I rx ry ⟨_, _, a, b, q.1, c⟩
  | fdivW =>
    cases dx <;> cases dy <;> first | exact False.elim q | skip
    obtain ⟨a, b, c⟩ := i2 rfl rfl q.2
    exact op_fdivW pins st σ H x y v u Q I rx ry ⟨_, _, a, b, q.1, c⟩
  | mod =>
    cases dx <;> cases dy <;> first | exact False.elim q | skip
    obtain ⟨a, b, c⟩ := i2 rfl rfl q.2
    exact op_mod pins st σ H x y v u Q I rx ry ⟨_, _, a, b, q.1, c⟩
  | pow =>
    cases dx <;> cases dy <;> first | exact False.elim q | skip
    obtain ⟨a, b, c⟩ := i2 rfl rfl q.2
    exact op_pow pins st σ H x y v u Q I rx ry ⟨_, _, a, b, q.1, c⟩
  | band =>
    cases dx <;> cases dy <;> first | exact False.elim q | skip
    obtain ⟨a, b, c⟩ := i2 rfl rfl q
    exact op_and pins st σ H x y v u Q I rx ry ⟨_, _, a, b, c⟩
end DL
namespace DL
open PySem L2
mutual
def pyD : D → Option PyData
  | .non => some .none
  | .bl b => some (.bool b)
  | .int i => some (.int i)
  | .str s => some (.str s)
  | .tup ds => (pyDs ds).map .tuple
  | .lst ds => (pyDs ds).map .list
  | .scr ns => some (.list (ns.map .int))
  | .ref _ => none
  | .obj _ _ _ => none
  | .exc _ _ _ _ _ => none
def pyDs : List D → Option (List PyData)
  | [] => some []
  | d :: ds => match pyD d, pyDs ds with
    | some x, some xs => some (x :: xs)
    | _, _ => none
end
section
variable {P : Pm} {w : Wd} {M : Md} {H : Hp}
mutual
theorem pyD_at (R : RepM P w M H) : ∀ {d : D} {v : V} {y : PyData}, RelD P w d v → pyD d = some y → Dp P.K H v y
  | .non, v, y, r, e => by
    have r : v = .non := r
    cases e; subst r; exact .non
  | .bl b, v, y, r, e => by
    have r : v = .bl b := r
    cases e; subst r; exact .bl b
  | .int b, v, y, r, e => by
    have r : v = .int b := r
    cases e; subst r; exact .int b
  | .str b, v, y, r, e => by
    have r : v = .str b := r
    cases e; subst r; exact .str b
  | .tup ds, v, y, ⟨p, vs, ev, hp, hs⟩, e => by
    have e : (pyDs ds).map PyData.tuple = some y := e
    obtain ⟨ys, h1, h2⟩ := Option.map_eq_some_iff.mp e
    subst h2; subst ev
    exact .tup (sqT_mono R.sub hp) (pyDs_at R hs h1)
  | .lst ds, v, y, ⟨p, vs, ev, hp, hs⟩, e => by
    have e : (pyDs ds).map PyData.list = some y := e
    obtain ⟨ys, h1, h2⟩ := Option.map_eq_some_iff.mp e
    subst h2; subst ev
    exact .lst (SqL.of (R.sub _ _ hp)) (pyDs_at R hs h1)
  | .scr ns, v, y, ⟨p, ev, hp⟩, e => by
    cases e; subst ev
    refine .lst (sqL_mono R.sub hp) ?_
    clear hp
    induction ns with
    | nil => exact .nil
    | cons n ns ih => exact .cons (.int n) ih
  | .ref _, _, _, _, e => by cases e
  | .obj _ _ _, _, _, _, e => by cases e
  | .exc _ _ _ _ _, _, _, _, e => by cases e
theorem pyDs_at (R : RepM P w M H) : ∀ {ds : List D} {vs : List V} {ys : List PyData}, RelDs P w ds vs → pyDs ds = some ys → DpAll P.K H vs ys
  | [], vs, ys, r, e => by
    have r : vs = [] := r
    cases e; subst r; exact .nil
  | d :: ds, vs, ys, ⟨v, us, ev, h1, h2⟩, e => by
    have e : (match pyD d, pyDs ds with
      | some x, some xs => some (x :: xs)
      | _, _ => none) = some ys := e
    split at e
    · rename_i x xs hx hxs
      cases e; subst ev
      exact .cons (pyD_at R h1 hx) (pyDs_at R h2 hxs)
    · cases e
end
end
/-- a changing list as what it holds -/
def rsD (d : D) (M : Md) : D := match d with
  | .ref k => match M[k]? with
    | some (.lst ds) => .lst ds
    | _ => .ref k
  | d => d
theorem rsD_at {P : Pm} {w : Wd} {M : Md} {H : Hp} (R : RepM P w M H) {d : D} {v : V} {y : PyData} (r : RelD P w d v) (e : pyD (rsD d M) = some y) : Dp P.K H v y := by
  cases d with
  | ref k =>
    obtain ⟨p, ev, hp⟩ := r
    have e : pyD (match M[k]? with
      | some (.lst ds) => .lst ds
      | _ => .ref k) = some y := e
    split at e
    · rename_i ds hm
      obtain ⟨_, vs, e2, hs⟩ := R.cell k _ p hm hp
      have e : (pyDs ds).map PyData.list = some y := e
      obtain ⟨ys, h1, h2⟩ := Option.map_eq_some_iff.mp e
      subst h2; subst ev
      exact .lst (SqL.of e2) (pyDs_at R hs h1)
    · cases e
  | non => exact pyD_at R r e
  | bl _ => exact pyD_at R r e
  | int _ => exact pyD_at R r e
  | str _ => exact pyD_at R r e
  | tup _ => exact pyD_at R r e
  | lst _ => exact pyD_at R r e
  | scr _ => exact pyD_at R r e
  | obj _ _ _ => exact pyD_at R r e
  | exc _ _ _ _ _ => exact pyD_at R r e
/-- of scalars -/
def eqS : D → D → Option Bool
  | .non, .non => some true
  | .non, .int _ => some false
  | .int _, .non => some false
  | .non, .bl _ => some false
  | .bl _, .non => some false
  | .non, .str _ => some false
  | .str _, .non => some false
  | .int i, .int j => some (decide (i = j))
  | .bl i, .bl j => some (decide (i = j))
  | .str i, .str j => some (decide (i = j))
  | .int _, .str _ => some false
  | .str _, .int _ => some false
  | .bl _, .str _ => some false
  | .str _, .bl _ => some false
  | _, _ => none
def flatD : D → Bool
  | .non => true | .bl _ => true | .int _ => true | .str _ => true | _ => false
def eqF : D → D → Bool
  | .non, .non => true
  | .bl a, .bl b => a == b
  | .bl a, .int b => (if a then 1 else 0) == b
  | .int a, .bl b => a == (if b then 1 else 0)
  | .int a, .int b => a == b
  | .str a, .str b => a == b
  | _, _ => false
inductive Cp where
  | eq | ne | lt | le | gt | ge | isN | notN | isB | notB | inn | nin
  deriving DecidableEq
def cpO : Cp → CmpOp
  | .eq => .Eq | .ne => .NotEq | .lt => .Lt | .le => .LtE | .gt => .Gt | .ge => .GtE | .isN => .Is | .notN => .IsNot | .isB => .Is | .notB => .IsNot | .inn => .In | .nin => .NotIn
/-- keys -/
def keyD : D → Option (Option Key)
  | .non => some none
  | .int i => some (some (.inl i))
  | .str s => some (some (.inr s))
  | _ => none
def tKey (d : D) : Option NestedKey := match d with
  | .tup ds => match keyN (.tup ds) with
    | some k => if k.depth ≤ 8 then some k else none
    | none => none
  | _ => none
def dctVal {κ : Type} [DecidableEq κ] (kvs : List (κ × D)) (k : κ) : Option D := (kvs.find? fun kv => decide (kv.1 = k)).map (·.2)
def dctPut {κ : Type} [DecidableEq κ] (kvs : List (κ × D)) (k : κ) (v : D) : List (κ × D) :=
  if (kvs.any fun kv => decide (kv.1 = k)) = true then kvs.map (fun kv => if kv.1 = k then (kv.1, v) else kv) else kvs ++ [(k, v)]
def dctValT (kvs : List (D × D)) (k : NestedKey) : Option D := (kvs.find? fun kv => decide (keyN kv.1 = some k)).map (·.2)
def dctPutT (kvs : List (D × D)) (kd : D) (k : NestedKey) (v : D) : List (D × D) :=
  if (kvs.any fun kv => decide (keyN kv.1 = some k)) = true then kvs.map (fun kv => if keyN kv.1 = some k then (kv.1, v) else kv) else kvs ++ [(kd, v)]
/-- what the dict d holds at k (none: no dict, or no key of its kind) -/
def dGet (d k : D) (M : Md) : Option (Option D) := match d with
  | .ref i => match M[i]? with
    | some (.dct kvs) => (keyD k).map (dctVal kvs)
    | some (.dctT kvs) => (tKey k).map (dctValT kvs)
    | _ => none
  | _ => none
def inD (x y : D) (M : Md) (Q : Bool → Prop) : Prop := match x, y with
  | .str s, .str t => Q (!(Builtin.Str.occurrences t s 0 t.length 1).isEmpty)
  | x, y => match dGet y x M with
    | some r => Q r.isSome
    | none => match seqOf y M with
      | some ds => if flatD x && ds.all flatD then Q (ds.any fun d => eqF d x) else
          match pyD x, pyDs ds with
          | some px, some ps => SeqAt.shaped px = true ∧ SeqAt.shaped (.list ps) = true ∧ Q (ps.any fun z => PyData.eqv z px)
          | _, _ => False
      | none => False
def eqQ (x y : D) (M : Md) (Q : Bool → Prop) : Prop := match eqS x y with
  | some b => Q b
  | none => match pyD (rsD x M), pyD (rsD y M) with
    | some a, some b => SeqAt.shaped a = true ∧ SeqAt.shaped b = true ∧ Q (PyData.eqv a b)
    | _, _ => False
def cpI (f : Int → Int → Bool) (x y : D) (Q : Bool → Prop) : Prop := match x, y with
  | .int i, .int j => Q (f i j)
  | _, _ => False
def isNon : D → Bool
  | .non => true
  | _ => false
/-- of two truth values -/
def isB2 (x y : D) (Q : Bool → Prop) : Prop := match x, y with
  | .bl a, .bl b => Q (decide (a = b))
  | _, _ => False
def cpD (c : Cp) (x y : D) (M : Md) (Q : Bool → Prop) : Prop := match c with
  | .eq => eqQ x y M Q
  | .ne => eqQ x y M fun b => Q (!b)
  | .lt => cpI (fun i j => decide (i < j)) x y Q
  | .le => cpI (fun i j => decide (i ≤ j)) x y Q
  | .gt => cpI (fun i j => decide (j < i)) x y Q
  | .ge => cpI (fun i j => decide (j ≤ i)) x y Q
  | .isN => isNon y = true ∧ Q (isNon x)
  | .notN => isNon y = true ∧ Q (!isNon x)
  | .isB => isB2 x y Q
  | .notB => isB2 x y fun b => Q (!b)
  | .inn => inD x y M Q
  | .nin => inD x y M fun b => Q (!b)
abbrev cpR (c : Cp) : O2 := fun x y M Q => cpD c x y M fun b => Q (.bl b) M
section
variable {P : Pm} {w : Wd} {M : Md} {H : Hp}
theorem op_inDT {X : Cx} (hu : X.A.units + 65 < cLine) : OpR X (compareOp .In) (fun x y H Q => ∃ d ds, Dp X.K H x d ∧ (Dp X.K H y (.list ds) ∨ Dp X.K H y (.tuple ds)) ∧ SeqAt.shaped d = true ∧ SeqAt.shaped (.list ds) = true ∧ Q (.bl (ds.any fun z => PyData.eqv z d)) H) := by
  intro pins s σ H x y v u Q I rx ry h
  obtain ⟨d, ds, hd, he, sd, se, q⟩ := h
  rcases he with he | he
  · exact op_inD hu pins s σ H x y v u Q I rx ry ⟨d, ds, hd, he, sd, se, q⟩
  · obtain ⟨as, r1⟩ := Dp.reads I d x v hd rx
    obtain ⟨bs, r2⟩ := Dp.reads I (.tuple ds) y u he ry
    exact SeqAt.in_tuple_reads r2 r1 (SeqAt.canLay_of_shaped se) (SeqAt.canLay_of_shaped sd) (PyProof.Rows.room_in_shaped sd hu) ⟨.bl _, H, I, rfl, q⟩
theorem op_notInDT {X : Cx} (hu : X.A.units + 65 < cLine) : OpR X (compareOp .NotIn) (fun x y H Q => ∃ d ds, Dp X.K H x d ∧ (Dp X.K H y (.list ds) ∨ Dp X.K H y (.tuple ds)) ∧ SeqAt.shaped d = true ∧ SeqAt.shaped (.list ds) = true ∧ Q (.bl (!ds.any fun z => PyData.eqv z d)) H) := by
  intro pins s σ H x y v u Q I rx ry h
  obtain ⟨d, ds, hd, he, sd, se, q⟩ := h
  rcases he with he | he
  · exact op_notInD hu pins s σ H x y v u Q I rx ry ⟨d, ds, hd, he, sd, se, q⟩
  · obtain ⟨as, r1⟩ := Dp.reads I d x v hd rx
    obtain ⟨bs, r2⟩ := Dp.reads I (.tuple ds) y u he ry
    exact SeqAt.notIn_tuple_reads r2 r1 (SeqAt.canLay_of_shaped se) (SeqAt.canLay_of_shaped sd) (PyProof.Rows.room_in_shaped sd hu) ⟨.bl _, H, I, rfl, q⟩
theorem op_isB {X : Cx} : OpR X (compareOp .Is) (fun x y H Q => ∃ a b, x = .bl a ∧ y = .bl b ∧ Q (.bl (decide (a = b))) H) := by
  intro pins s σ H x y v u Q I rx ry h
  obtain ⟨a, b, rfl, rfl, q⟩ := h
  cases rx; cases ry
  show wpAny _ _ ((isSame (Value.bool a) (Value.bool b)) >>= fun z => pure (Value.bool z)) _ _ s
  refine wpAny_bind (wpAny_isSame_plain rfl (wpAny_pure (fin_bl I q ?_)))
  cases a <;> cases b <;> rfl
theorem op_notB {X : Cx} : OpR X (compareOp .IsNot) (fun x y H Q => ∃ a b, x = .bl a ∧ y = .bl b ∧ Q (.bl (!decide (a = b))) H) := by
  intro pins s σ H x y v u Q I rx ry h
  obtain ⟨a, b, rfl, rfl, q⟩ := h
  cases rx; cases ry
  show wpAny _ _ ((isSame (Value.bool a) (Value.bool b)) >>= fun z => pure (Value.bool (!z))) _ _ s
  refine wpAny_bind (wpAny_isSame_plain rfl (wpAny_pure (fin_bl I q ?_)))
  cases a <;> cases b <;> rfl
theorem relD_non {d : D} {v : V} (r : RelD P w d v) : decide (v = .non) = isNon d := by
  cases d with
  | non => have r : v = .non := r; subst r; rfl
  | bl b => have r : v = .bl b := r; subst r; rfl
  | int b => have r : v = .int b := r; subst r; rfl
  | str b => have r : v = .str b := r; subst r; rfl
  | tup ds => obtain ⟨p, vs, e, _⟩ := r; subst e; rfl
  | lst ds => obtain ⟨p, vs, e, _⟩ := r; subst e; rfl
  | scr ds => obtain ⟨p, e, _⟩ := r; subst e; rfl
  | ref ds => obtain ⟨p, e, _⟩ := r; subst e; rfl
  | obj _ _ _ => obtain ⟨p, dx, vs, e, _⟩ := r; subst e; rfl
  | exc _ _ _ _ _ => obtain ⟨vs, e, _⟩ := r; subst e; rfl
theorem eqS_at {x y : D} {u v : V} {b : Bool} (r1 : RelD P w x u) (r2 : RelD P w y v) (e : eqS x y = some b) : scal u v = true ∧ decide (u = v) = b := by
  cases x <;> cases y <;> first
    | (exfalso; simp [eqS] at e; done)
    | (have r1 : u = _ := r1
       have r2 : v = _ := r2
       subst r1; subst r2
       cases e
       exact ⟨rfl, by simp⟩)
theorem flat_at {x : D} {u : V} (r : RelD P w x u) (h : flatD x = true) : flatV u = true := by
  cases x <;> first
    | (exfalso; simp [flatD] at h; done)
    | (have r : u = _ := r
       subst r
       rfl)
theorem eqF_at {x y : D} {u v : V} (r1 : RelD P w x u) (r2 : RelD P w y v) (h1 : flatD x = true) (h2 : flatD y = true) : eqV u v = eqF x y := by
  cases x <;> cases y <;> first
    | (exfalso; simp [flatD] at h1; done)
    | (exfalso; simp [flatD] at h2; done)
    | (have r1 : u = _ := r1
       have r2 : v = _ := r2
       subst r1; subst r2
       rfl)
theorem flats_at : ∀ {ds : List D} {vs : List V}, RelDs P w ds vs → ds.all flatD = true → vs.all flatV = true
  | [], vs, r, _ => by
    have r : vs = [] := r
    subst r; rfl
  | d :: ds, _, ⟨v, us, e, h1, h2⟩, h => by
    subst e
    rw [List.all_cons, Bool.and_eq_true] at h ⊢
    exact ⟨flat_at h1 h.1, flats_at h2 h.2⟩
theorem any_at {x : D} {u : V} (r : RelD P w x u) (hx : flatD x = true) : ∀ {ds : List D} {vs : List V}, RelDs P w ds vs → ds.all flatD = true → inV u vs = ds.any fun d => eqF d x
  | [], vs, r, _ => by
    have r : vs = [] := r
    subst r; rfl
  | d :: ds, _, ⟨v, us, e, h1, h2⟩, h => by
    subst e
    rw [List.all_cons, Bool.and_eq_true] at h
    show (eqV v u || inV u us) = _
    rw [List.any_cons, eqF_at h1 r h.1 hx, any_at r hx h2 h.2]
theorem keyD_at {d : D} {v : V} {k : Option Key} (r : RelD P w d v) (e : keyD d = some k) : v = kVo k := by
  cases d <;> first
    | (exfalso; simp [keyD] at e; done)
    | (have r : v = _ := r
       subst r
       cases e
       rfl)
theorem tKey_at {d : D} {k : NestedKey} (e : tKey d = some k) : (∃ ds, d = .tup ds) ∧ keyN d = some k ∧ k.depth ≤ 8 := by
  unfold tKey at e
  split at e
  · split at e
    · next h =>
      split at e
      · next h2 => cases e; exact ⟨⟨_, rfl⟩, h, h2⟩
      · cases e
    · cases e
  · cases e
theorem relKs_val {κ : Type} [DecidableEq κ] {k : κ} : ∀ {kvs : List (κ × D)} {us : List (κ × V)}, RelKs P w kvs us → (dctVal kvs k = none ∧ valV us k = none) ∨ ∃ d v, dctVal kvs k = some d ∧ valV us k = some v ∧ RelD P w d v
  | [], us, r => by
    have r : us = [] := r
    subst r; exact .inl ⟨rfl, rfl⟩
  | (j, d) :: kvs, us, ⟨v, us', e, h1, h2⟩ => by
    subst e
    by_cases h : j = k
    · exact .inr ⟨d, v, by simp [dctVal, h], by simp [valV, h], h1⟩
    · have := relKs_val (k := k) h2
      simpa [dctVal, valV, h] using this
theorem relTs_val {k : NestedKey} : ∀ {kvs : List (D × D)} {es : List (NestedKey × Addr × V)}, RelTs P w kvs es → (dctValT kvs k = none ∧ tVal es k = none) ∨ ∃ d v, dctValT kvs k = some d ∧ tVal es k = some v ∧ RelD P w d v
  | [], es, r => by
    have r : es = [] := r
    subst r; exact .inl ⟨rfl, rfl⟩
  | (kd, d) :: kvs, es, ⟨j, b, v, es', e, h1, h2, h3, h4, h5⟩ => by
    subst e
    by_cases h : j = k
    · exact .inr ⟨d, v, by simp [dctValT, h1, h], by simp [tVal, h], h4⟩
    · have := relTs_val (k := k) h5
      have h' : ¬ keyN kd = some k := by rw [h1]; intro z; exact h (Option.some.inj z)
      simpa [dctValT, tVal, h, h'] using this
section
variable {X : Cx} {pins : List (Addr × Obj)} {σ : L2.St} {s : Shared}
mutual
theorem nest_of (hK : P.K = X.K) (I : Inv X pins σ H s) (R : RepM P w M H) : ∀ {d : D} {v : V} {u : Value} {k : NestedKey}, RelD P w d v → RelV v u → keyN d = some k → NestedIs s.heap k u
  | .non, v, u, k, r, rv, e => by
    have r : v = .non := r
    subst r
    have rv : u = Value.none := rv
    subst rv
    cases e; exact .none
  | .bl b, v, u, k, r, rv, e => by
    have r : v = .bl b := r
    subst r
    have rv : u = Value.bool b := rv
    subst rv
    cases e; exact .bool rfl
  | .int i, v, u, k, r, rv, e => by
    have r : v = .int i := r
    subst r
    obtain ⟨t, rv⟩ : ∃ t, u = Value.int i t := rv
    subst rv
    cases e; exact .int i t
  | .str x, v, u, k, r, rv, e => by
    have r : v = .str x := r
    subst r
    obtain ⟨t, rv⟩ : ∃ t, u = Value.str x t := rv
    subst rv
    cases e; exact .text x t
  | .tup ds, v, u, k, ⟨p, vs, ev, hp, hs⟩, rv, e => by
    have e : (keyNs ds).map NestedKey.tup = some k := e
    obtain ⟨ks, h1, h2⟩ := Option.map_eq_some_iff.mp e
    subst h2; subst ev
    have rv : u = Value.ref p := rv
    subst rv
    obtain ⟨its, r, ⟨o, g, c, n, dt⟩, _⟩ := I.tuple (hK ▸ sqT_mono R.sub hp)
    exact .tup g c dt (nests_of hK I R hs r h1)
  | .lst _, _, _, _, _, _, e => by cases e
  | .scr _, _, _, _, _, _, e => by cases e
  | .ref _, _, _, _, _, _, e => by cases e
  | .obj _ _ _, _, _, _, _, _, e => by cases e
  | .exc _ _ _ _ _, _, _, _, _, _, e => by cases e
theorem nests_of (hK : P.K = X.K) (I : Inv X pins σ H s) (R : RepM P w M H) : ∀ {ds : List D} {vs : List V} {us : List Value} {ks : List NestedKey}, RelDs P w ds vs → Vals vs us → keyNs ds = some ks → NestedAll s.heap ks us
  | [], vs, us, ks, r, rv, e => by
    have r : vs = [] := r
    subst r
    cases rv; cases e; exact .nil
  | d :: ds, vs, us, ks, ⟨v, r, ev, h1, h2⟩, rv, e => by
    have e : (match keyN d, keyNs ds with
      | some k, some ks => some (k :: ks)
      | _, _ => none) = some ks := e
    subst ev
    cases rv with
    | cons a b =>
      split at e
      · next x xs hx hxs =>
        cases e
        exact .cons (nest_of hK I R h1 a hx) (nests_of hK I R h2 b hxs)
      · cases e
end
theorem keysAt_of (hK : P.K = X.K) (I : Inv X pins σ H s) (R : RepM P w M H) : ∀ {kvs : List (D × D)} {es : List (NestedKey × Addr × V)}, RelTs P w kvs es → KeysAt X.prog X.w s.heap es
  | [], es, r => by
    have r : es = [] := r
    subst r; intro x hx; cases hx
  | (kd, d) :: kvs, es, ⟨j, b, v, es', e, h1, h2, h3, h4, h5⟩ => by
    subst e
    intro x hx
    rcases List.mem_cons.mp hx with z | z
    · subst z
      exact ⟨nest_of hK I R h3 (show RelV (.ref b) (Value.ref b) from rfl) h1, h2⟩
    · exact keysAt_of hK I R h5 x z
/-- what a dict holds, below -/
theorem dGet_at (hK : P.K = X.K) (hp : P.pg = X.prog) (hw : P.wl = X.w) (I : Inv X pins σ H s) (R : RepM P w M H) {d k : D} {u v : V} {r : Option D} {vk : Value} (r1 : RelD P w d u) (r2 : RelD P w k v) (rk : RelV v vk) (e : dGet d k M = some r) :
    ∃ a, u = .ref a ∧ s.TypeIs (.ref a) "dict" ∧
      (∀ {A : Around} {E : Value → Shared → Prop} {Q : Value → Shared → Prop}, A.units + 10 < cLine → (∀ s', Inv X pins σ H s' → Q (.bool r.isSome) s') → wpAny (model X.prog X.w) A (compareOp .In vk (.ref a)) Q E s) ∧
      (∀ {A : Around} {E : Value → Shared → Prop} {Q : Value → Shared → Prop}, A.units + 10 < cLine → (∀ s', Inv X pins σ H s' → Q (.bool (!r.isSome)) s') → wpAny (model X.prog X.w) A (compareOp .NotIn vk (.ref a)) Q E s) ∧
      (∀ {A : Around} {E : Value → Shared → Prop} {Q : Value → Shared → Prop} {x : D}, r = some x → A.units + 10 < cLine → (∀ y w' s', Inv X pins σ H s' → RelD P w x y → RelV y w' → Q w' s') → wpAny (model X.prog X.w) A (getItem (.ref a) vk) Q E s) := by
  cases d with
  | ref i =>
    obtain ⟨p, eu, hpp⟩ := r1
    have e : (match M[i]? with
      | some (.dct kvs) => (keyD k).map (dctVal kvs)
      | some (.dctT kvs) => (tKey k).map (dctValT kvs)
      | _ => none) = some r := e
    split at e
    · rename_i kvs hm
      obtain ⟨_, us, e2, hs⟩ := R.cell i _ p hm hpp
      rw [hp, hw] at e2
      obtain ⟨ky, hk, er⟩ := Option.map_eq_some_iff.mp e
      have hv := keyD_at r2 hk
      subst hv; subst eu
      obtain ⟨_, _, vs, _, dd⟩ := fd_of I e2
      have hsome : (valV us ky).isSome = r.isSome := by
        rcases relKs_val (k := ky) hs with ⟨q1, q2⟩ | ⟨x, y, q1, q2, _⟩ <;> rw [← er, q1, q2] <;> rfl
      refine ⟨p, rfl, dd.typeIs, fun _ h => fd_in I e2 rk fun s' I' => by rw [hsome]; exact h s' I', fun _ h => fd_notIn I e2 rk fun s' I' => by rw [hsome]; exact h s' I', fun {A E Q x} hr _ h => ?_⟩
      rcases relKs_val (k := ky) hs with ⟨q1, q2⟩ | ⟨x', y, q1, q2, q3⟩
      · rw [← er, q1] at hr; cases hr
      · rw [← er, q1] at hr; cases hr
        exact fd_getItem I e2 q2 rk fun w' s' I' rw' => h y w' s' I' q3 rw'
    · rename_i kvs hm
      obtain ⟨_, es, e2, hs⟩ := R.cell i _ p hm hpp
      rw [hp, hw] at e2
      obtain ⟨ky, hk, er⟩ := Option.map_eq_some_iff.mp e
      obtain ⟨⟨ds, hd⟩, k1, k2⟩ := tKey_at hk
      subst hd; subst eu
      have hn := nest_of hK I R r2 rk k1
      obtain ⟨b, vs, ev, _, _⟩ := id r2
      subst ev
      have rk : vk = Value.ref b := rk
      subst rk
      have ka := keysAt_of hK I R hs
      have kb : (nestedKind X.prog X.w).is s.heap ky b := ⟨hn, k2⟩
      obtain ⟨_, _, vs, _, dd⟩ := td_of I e2 ka
      have hsome : (tVal es ky).isSome = r.isSome := by
        rcases relTs_val (k := ky) hs with ⟨q1, q2⟩ | ⟨x, y, q1, q2, _⟩ <;> rw [← er, q1, q2] <;> rfl
      refine ⟨p, rfl, dd.typeIs, fun hu h => td_in hu I e2 ka kb fun s' I' => by rw [hsome]; exact h s' I', fun hu h => td_notIn hu I e2 ka kb fun s' I' => by rw [hsome]; exact h s' I', fun {A E Q x} hr hu h => ?_⟩
      rcases relTs_val (k := ky) hs with ⟨q1, q2⟩ | ⟨x', y, q1, q2, q3⟩
      · rw [← er, q1] at hr; cases hr
      · rw [← er, q1] at hr; cases hr
        exact td_getItem hu I e2 ka kb q2 fun w' s' I' rw' => h y w' s' I' q3 rw'
    · cases e
  | _ => cases e
end
end
theorem cp_sound {X : Cx} {P : Pm} (hK : P.K = X.K) (hp : P.pg = X.prog) (hw : P.wl = X.w) (hu : X.A.units + 65 < cLine) (c : Cp) : OpR X (compareOp (cpO c)) (liO2 P (cpR c)) := by
  intro pins st σ H x y v u Q I rx ry q
  obtain ⟨w, M, dx, dy, Qd, R, hx, hy, l, q⟩ := q
  have bl : ∀ {b : Bool}, Qd (.bl b) M → Q (.bl b) H := fun {b} q => l.same R (d := .bl b) rfl q
  have intsH : ∀ {f : Int → Int → Bool}, cpI f dx dy (fun b => Qd (.bl b) M) → ∃ i j, x = .int i ∧ y = .int j ∧ Q (.bl (f i j)) H := fun {f} q => by
    cases dx <;> cases dy <;> first | exact False.elim q | skip
    exact ⟨_, _, hx, hy, bl q⟩
  have eqsH : ∀ {k : Bool → Bool}, eqQ dx dy M (fun b => Qd (.bl (k b)) M) → (scal x y = true ∧ Q (.bl (k (decide (x = y)))) H) ∨ ∃ a b, Dp X.K H x a ∧ Dp X.K H y b ∧ SeqAt.shaped a = true ∧ SeqAt.shaped b = true ∧ Q (.bl (k (PyData.eqv a b))) H := fun {k} q => by
    unfold eqQ at q
    split at q
    · rename_i b e
      obtain ⟨a1, a2⟩ := eqS_at hx hy e
      exact .inl ⟨a1, by rw [a2]; exact bl q⟩
    · split at q
      · rename_i a b ea eb
        exact .inr ⟨a, b, hK ▸ rsD_at R hx ea, hK ▸ rsD_at R hy eb, q.1, q.2.1, bl q.2.2⟩
      · exact q.elim
  have insH : ∀ {k : Bool → Bool}, inD dx dy M (fun b => Qd (.bl (k b)) M) →
      (∃ i j, x = .str i ∧ y = .str j ∧ Q (.bl (k (!(Builtin.Str.occurrences j i 0 j.length 1).isEmpty))) H) ∨
      (∃ r, dGet dy dx M = some r ∧ Q (.bl (k r.isSome)) H) ∨
      (∃ p xs, y = .ref p ∧ (SqL X.K H p xs ∨ SqT X.K H p xs) ∧ flatV x = true ∧ xs.all flatV = true ∧ Q (.bl (k (inV x xs))) H) ∨
      (∃ d ds, Dp X.K H x d ∧ (Dp X.K H y (.list ds) ∨ Dp X.K H y (.tuple ds)) ∧ SeqAt.shaped d = true ∧ SeqAt.shaped (.list ds) = true ∧ Q (.bl (k (ds.any fun z => PyData.eqv z d))) H) := fun {k} q => by
    unfold inD at q
    split at q
    · rename_i s t
      exact .inl ⟨_, _, hx, hy, bl q⟩
    · split at q
      · rename_i r er
        exact .inr (.inl ⟨r, er, bl q⟩)
      · split at q
        · rename_i ds hs
          split at q
          · rename_i hf
            rw [Bool.and_eq_true] at hf
            obtain ⟨p, vs, e1, e2, e3⟩ := seqOf_at R hy hs
            refine .inr (.inr (.inl ⟨p, vs, e1, hK ▸ e2, flat_at hx hf.1, flats_at e3 hf.2, ?_⟩))
            rw [any_at hx hf.1 e3 hf.2]; exact bl q
          · split at q
            · rename_i px ps ex es
              obtain ⟨q2, q3, q4⟩ := q
              refine .inr (.inr (.inr ⟨px, ps, hK ▸ pyD_at R hx ex, ?_, q2, q3, bl q4⟩))
              by_cases ht : ∃ fs, dy = .tup fs
              · obtain ⟨fs, rfl⟩ := ht
                cases hs
                exact .inr (hK ▸ rsD_at R hy (by show (pyDs ds).map _ = _; rw [es]; rfl))
              refine .inl (hK ▸ rsD_at R hy ?_)
              cases dy with
              | tup fs => exact absurd ⟨fs, rfl⟩ ht
              | lst fs => cases hs; show (pyDs ds).map _ = _; rw [es]; rfl
              | scr ns =>
                cases hs
                show some (PyData.list (ns.map .int)) = _
                have : ∀ ms : List Int, pyDs (ms.map D.int) = some (ms.map .int) := fun ms => by
                  induction ms with
                  | nil => rfl
                  | cons m ms ih => show (match pyD (.int m), pyDs (ms.map D.int) with
                      | some x, some xs => some (x :: xs)
                      | _, _ => none) = _
                                    rw [ih]; rfl
                rw [this] at es
                cases es; rfl
              | ref i =>
                have hs' : (match M[i]? with
                  | some (.lst ds) => some ds
                  | _ => none) = some ds := hs
                show pyD (match M[i]? with
                  | some (.lst ds) => .lst ds
                  | _ => .ref i) = _
                split at hs'
                · cases hs'; show (pyDs ds).map _ = _; rw [es]; rfl
                · cases hs'
              | _ => cases hs
            · exact q.elim
        · exact q.elim
  cases c with
  | eq =>
    rcases eqsH (k := id) q with ⟨a, b⟩ | ⟨d, e, h⟩
    · exact op_eq pins st σ H x y v u Q I rx ry ⟨a, b⟩
    · exact op_eqD (by omega) pins st σ H x y v u Q I rx ry ⟨d, e, h⟩
  | ne =>
    rcases eqsH (k := not) q with ⟨a, b⟩ | ⟨d, e, h⟩
    · exact op_ne pins st σ H x y v u Q I rx ry ⟨a, b⟩
    · exact op_neD (by omega) pins st σ H x y v u Q I rx ry ⟨d, e, h⟩
  | lt => exact op_lt pins st σ H x y v u Q I rx ry (intsH q)
  | le => exact op_le pins st σ H x y v u Q I rx ry (intsH q)
  | gt => exact op_gt pins st σ H x y v u Q I rx ry (intsH q)
  | ge => exact op_ge pins st σ H x y v u Q I rx ry (intsH q)
  | isN =>
    have hy' : y = .non := by
      cases dy <;> first | exact hy | exact absurd q.1 (by simp [isNon])
    exact op_isN pins st σ H x y v u Q I rx ry ⟨hy', by rw [relD_non hx]; exact bl q.2⟩
  | notN =>
    have hy' : y = .non := by
      cases dy <;> first | exact hy | exact absurd q.1 (by simp [isNon])
    exact op_notN pins st σ H x y v u Q I rx ry ⟨hy', by rw [relD_non hx]; exact bl q.2⟩
  | isB =>
    cases dx <;> cases dy <;> first | exact q.elim | exact op_isB pins st σ H x y v u Q I rx ry ⟨_, _, hx, hy, bl q⟩
  | notB =>
    cases dx <;> cases dy <;> first | exact q.elim | exact op_notB pins st σ H x y v u Q I rx ry ⟨_, _, hx, hy, bl q⟩
  | inn =>
    rcases insH (k := id) q with h | ⟨r, er, q⟩ | ⟨p, xs, e, h, f1, f2, q⟩ | h
    · exact op_in_str pins st σ H x y v u Q I rx ry h
    · obtain ⟨a, e, _, f, _, _⟩ := dGet_at hK hp hw I R hy hx rx er
      subst e
      cases ry
      exact f (by omega) fun s' I' => ⟨.bl r.isSome, H, I', rfl, q⟩
    · exact op_in_seq pins st σ H x y v u Q I rx ry ⟨p, xs, e, h, f1, f2, q⟩
    · exact op_inDT (by omega) pins st σ H x y v u Q I rx ry h
  | nin =>
    rcases insH (k := not) q with h | ⟨r, er, q⟩ | ⟨p, xs, e, h, f1, f2, q⟩ | h
    · exact op_notin_str pins st σ H x y v u Q I rx ry h
    · obtain ⟨a, e, _, _, f, _⟩ := dGet_at hK hp hw I R hy hx rx er
      subst e
      cases ry
      exact f (by omega) fun s' I' => ⟨.bl (!r.isSome), H, I', rfl, q⟩
    · exact op_notIn_seq pins st σ H x y v u Q I rx ry ⟨p, xs, e, h, f1, f2, q⟩
    · exact op_notInDT (by omega) pins st σ H x y v u Q I rx ry h
end DL
namespace DL
open PySem L2
def ixD : O2 := fun x y M Q => match x, y with
  | .str s, .int i => s.length ≤ sizeLine ∧ match atI s.cps.toList i with
    | some c => Q (.str ⟨#[c]⟩) M
    | none => False
  | x, y => match dGet x y M with
    | some (some d) => Q d M
    | some none => False
    | none => match seqOf x M, y with
      | some ds, .int i => match atI ds i with
        | some d => Q d M
        | none => False
      | _, _ => False
theorem relDs_atI {P : Pm} {w : Wd} {ds : List D} {vs : List V} {i : Int} {d : D} (r : RelDs P w ds vs) (h : atI ds i = some d) : ∃ v, atI vs i = some v ∧ RelD P w d v := by
  unfold atI at h ⊢
  rw [r.length]
  cases e : ixN ds.length i with
  | none => rw [e] at h; cases h
  | some j =>
    rw [e] at h
    exact r.get h
theorem ix_sound {X : Cx} {P : Pm} (hK : P.K = X.K) (hp : P.pg = X.prog) (hw : P.wl = X.w) (hu : X.A.units + 65 < cLine) : IxR X (liO2 P ixD) := by
  intro value slice pins st σ H x y v u Q I rx ry q hs
  obtain ⟨w, M, dx, dy, Qd, R, hx, hy, l, q⟩ := q
  unfold ixD at q
  split at q
  · rename_i s i
    obtain ⟨hz, q⟩ := q
    split at q
    · rename_i c hc
      exact ix_str value slice pins st σ H x y v u Q I rx ry ⟨_, _, c, hx, hy, hz, hc, l.same R (d := .str _) rfl q⟩ hs
    · exact q.elim
  · split at q
    · rename_i d e
      obtain ⟨a, e1, ty, _, _, f⟩ := dGet_at hK hp hw I R hx hy ry e
      subst e1
      cases rx
      exact PyProof.Rows.tail_any ty PySem.F.slot_dict_getitem.lookup (f rfl (by omega) fun y' w' s' I' z3 rw' => ⟨y', H, I', rw', l.same R z3 q⟩) hs
    · exact q.elim
    · split at q
      · rename_i ds i hds
        split at q
        · rename_i d hd
          obtain ⟨p, vs, e1, e2, e3⟩ := seqOf_at R hx (by assumption)
          obtain ⟨z, hz, rz⟩ := relDs_atI e3 hd
          rcases e2 with e2 | e2
          · exact ix_list value slice pins st σ H x y v u Q I rx ry ⟨p, vs, _, z, e1, hy, hK ▸ e2, hz, l.same R rz q⟩ hs
          · exact ix_tup value slice pins st σ H x y v u Q I rx ry ⟨p, vs, _, z, e1, hy, hK ▸ e2, hz, l.same R rz q⟩ hs
        · exact q.elim
      · exact q.elim
def cutD {α : Type} (xs : List α) (lo hi : Option Int) : List α := (xs.drop (HT.sIx xs.length 0 lo)).take (HT.sIx xs.length xs.length hi - HT.sIx xs.length 0 lo)
/-- m: the new list may be changed -/
def slD (m : Bool) (x : D) (lo hi : Option Int) (M : Md) (Q : QE) : Prop := match x with
  | .str s => s.length ≤ sizeLine ∧ Q (.str ⟨(cutD s.cps.toList lo hi).toArray⟩) M
  | .tup ds => Q (.tup (cutD ds lo hi)) M
  | x => match seqOf x M with
    | some ds => if m then Q (.ref M.length) (M ++ [.lst (cutD ds lo hi)]) else Q (.lst (cutD ds lo hi)) M
    | none => False
def liSl (P : Pm) (m : Bool) : V → Option Int → Option Int → Hp → VK → Prop := fun x lo hi H Q => ∃ w M dx Qd, RepM P w M H ∧ RelD P w dx x ∧ Lk P w H Qd Q ∧ slD m dx lo hi M Qd
theorem relDs_cut {P : Pm} {w : Wd} {ds : List D} {vs : List V} (r : RelDs P w ds vs) (lo hi : Option Int) : RelDs P w (cutD ds lo hi) (cutV vs lo hi) := by
  unfold cutD cutV
  rw [r.length]
  exact (r.drop _).take _
theorem cut_whole {α : Type} (xs : List α) {lo hi : Option Int} (h : HT.sIx xs.length 0 lo = 0 ∧ HT.sIx xs.length xs.length hi = xs.length) : cutD xs lo hi = xs := by
  unfold cutD
  rw [h.1, h.2]
  simp
/-- a list that is read -/
theorem seqL_at {P : Pm} {w : Wd} {M : Md} {H : Hp} (R : RepM P w M H) {d : D} {v : V} {ds : List D} (r : RelD P w d v) (h : seqOf d M = some ds) (hn : ∀ es, d ≠ .tup es) : ∃ p vs, v = .ref p ∧ SqL P.K H p vs ∧ RelDs P w ds vs := by
  cases d with
  | tup es => exact absurd rfl (hn es)
  | lst es =>
    cases h
    obtain ⟨p, vs, e, hp, hs⟩ := r
    exact ⟨p, vs, e, SqL.of (R.sub _ _ hp), hs⟩
  | scr ns =>
    cases h
    obtain ⟨p, e, hp⟩ := r
    exact ⟨p, _, e, sqL_mono R.sub hp, relDs_ints ns⟩
  | ref k =>
    obtain ⟨p, e, hp⟩ := r
    have h : (match M[k]? with
      | some (.lst ds) => some ds
      | _ => none) = some ds := h
    split at h
    · rename_i ds' hm
      cases h
      obtain ⟨_, vs, e2, hs⟩ := R.cell k _ p hm hp
      exact ⟨p, vs, e, SqL.of e2, hs⟩
    · cases h
  | _ => cases h
theorem sl_sound {X : Cx} {P : Pm} (hK : P.K = X.K) (m : Bool) : SlR X (liSl P m) := by
  intro pins st σ H x v vl vu lo hi sl Q I rx hs pl pu q
  obtain ⟨w, M, dx, Qd, R, hx, l, q⟩ := q
  unfold slD at q
  split at q
  · rename_i s
    have e : cutS s lo hi = ⟨(cutD s.cps.toList lo hi).toArray⟩ := rfl
    exact sl_str pins st σ H x v vl vu lo hi sl Q I rx hs pl pu ⟨s, hx, q.1, by rw [e]; exact l.same R (d := .str _) rfl q.2⟩
  · rename_i ds
    obtain ⟨p, vs, e1, h1, r1⟩ := id hx
    refine sl_tupA pins st σ H x v vl vu lo hi sl Q I rx hs pl pu ⟨p, vs, e1, hK ▸ sqT_mono R.sub h1, fun hw => ?_, fun _ p' hp' => l.tup R (relDs_cut r1 lo hi) hp' q⟩
    rw [r1.length] at hw
    rw [cut_whole ds hw] at q
    exact e1 ▸ l.same R hx q
  · rename_i hn1 hn2
    split at q
    · rename_i ds hds
      obtain ⟨p, vs, e1, e2, e3⟩ := seqL_at R hx hds fun es e => hn2 es e
      refine sl_list pins st σ H x v vl vu lo hi sl Q I rx hs pl pu ⟨p, vs, e1, hK ▸ e2, fun p' hp => ?_⟩
      cases m with
      | true => exact l.cell R (relDs_cut e3 lo hi) hp q
      | false => exact l.lst R (relDs_cut e3 lo hi) hp q
    · exact q.elim
inductive Bt where
  | len | list | listM | tuple | max2 | min2 | int | sorted | sortedM | sortedD | sum | ord | str | any | all | isi (T : String)
def tyOf : D → Md → Option String
  | .non, _ => some "NoneType"
  | .bl _, _ => some "bool"
  | .int _, _ => some "int"
  | .str _, _ => some "str"
  | .tup _, _ => some "tuple"
  | .lst _, _ => some "list"
  | .scr _, _ => some "list"
  | .obj _ _ _, _ => none
  | .exc _ _ _ _ _, _ => none
  | .ref k, M => match M[k]? with
    | some (.lst _) => some "list"
    | _ => none
def intsOf : List D → Option (List Int)
  | [] => some []
  | .int i :: ds => (intsOf ds).map (i :: ·)
  | _ :: _ => none
def blsOf : List D → Option (List Bool)
  | [] => some []
  | .bl i :: ds => (blsOf ds).map (i :: ·)
  | _ :: _ => none
def strsOf : List D → Option (List Str)
  | [] => some []
  | .str i :: ds => (strsOf ds).map (i :: ·)
  | _ :: _ => none
def pyG (d : D) : PyData := (pyD d).getD .none
/-- what may be sorted -/
structure SortOk (ds : List D) : Prop where
  py : ∀ d ∈ ds, (pyD d).isSome = true
  al : PySem.W.AllAlike (ds.map pyG)
  so : PySem.W.Sortable (ds.map pyG)
  dp : ∀ d ∈ ds, (pyG d).depth ≤ 50
def sortD (ds : List D) : List D := ds.mergeSort (PySem.W.dataLe false pyG)
def btD : Bt → OA
  | .len, [.str s], M, Q => s.length ≤ sizeLine ∧ Q (.int s.length) M
  | .len, [d], M, Q => match seqOf d M with
    | some ds => Q (.int ds.length) M
    | none => False
  | .list, [d], M, Q => match seqOf d M with
    | some ds => Q (.lst ds) M
    | none => False
  | .listM, [d], M, Q => match seqOf d M with
    | some ds => Q (.ref M.length) (M ++ [.lst ds])
    | none => False
  | .tuple, [d], M, Q => match seqOf d M with
    | some ds => Q (.tup ds) M
    | none => False
  | .max2, [.int i, .int j], M, Q => Q (.int (if j > i then j else i)) M
  | .min2, [.int i, .int j], M, Q => Q (.int (if j < i then j else i)) M
  | .int, [.int i], M, Q => Q (.int i) M
  | .int, [.bl b], M, Q => Q (.int (if b then 1 else 0)) M
  | .int, [.str s], M, Q => ∃ n, PySem.intText? s = some n ∧ s.length ≤ 640 ∧ Q (.int n) M
  | .sorted, [d], M, Q => (∀ es, d ≠ .tup es) ∧ match seqOf d M with
    | some ds => SortOk ds ∧ Q (.lst (sortD ds)) M
    | none => False
  | .sortedM, [d], M, Q => (∀ es, d ≠ .tup es) ∧ match seqOf d M with
    | some ds => SortOk ds ∧ Q (.ref M.length) (M ++ [.lst (sortD ds)])
    | none => False
  | .sortedD, [.ref k], M, Q => match M[k]? with
    | some (.dct kvs) => ∃ ns : List Int, kvs.map (·.1) = ns.map (fun n => some (.inl n)) ∧ Q (.lst (sortD (ns.map D.int))) M
    | _ => False
  | .sum, [d], M, Q => (∀ es, d ≠ .tup es) ∧ match (seqOf d M).bind intsOf with
    | some ns => Q (.int ns.sum) M
    | none => False
  | .ord, [.str s], M, Q => s.length = 1 ∧ Q (.int (s.cps.getD 0 0 : Nat)) M
  | .str, [.int i], M, Q => i.natAbs.log2 < 1920 ∧ Q (.str (toString i)) M
  | .any, [d], M, Q => (∀ es, d ≠ .tup es) ∧ match (seqOf d M).bind blsOf with
    | some bs => Q (.bl (bs.any id)) M
    | none => False
  | .all, [d], M, Q => (∀ es, d ≠ .tup es) ∧ match (seqOf d M).bind blsOf with
    | some bs => Q (.bl (bs.all id)) M
    | none => False
  | .isi T, [d], M, Q => match tyOf d M with
    | some t => match kitB t T with
      | some b => Q (.bl b) M
      | none => False
    | none => False
  | _, _, _, _ => False
end DL
namespace DL
open PySem L2
section
variable {P : Pm} {w : Wd} {M : Md} {H : Hp}
theorem rel1 {d : D} {xs : List V} (r : RelDs P w [d] xs) : ∃ x, xs = [x] ∧ RelD P w d x := by
  obtain ⟨v, us, e, h, t⟩ := r
  have t : us = [] := t
  exact ⟨v, by rw [e, t], h⟩
theorem rel2 {d e : D} {xs : List V} (r : RelDs P w [d, e] xs) : ∃ x y, xs = [x, y] ∧ RelD P w d x ∧ RelD P w e y := by
  obtain ⟨v, us, e, h, t⟩ := r
  obtain ⟨y, e2, h2⟩ := rel1 t
  exact ⟨v, y, by rw [e, e2], h, h2⟩
theorem intsOf_at : ∀ {ds : List D} {vs : List V} {ns : List Int}, RelDs P w ds vs → intsOf ds = some ns → vs = ns.map V.int
  | [], vs, ns, r, e => by
    have r : vs = [] := r
    cases e; subst r; rfl
  | d :: ds, vs, ns, ⟨v, us, ev, h1, h2⟩, e => by
    cases d with
    | int i =>
      have e : (intsOf ds).map (i :: ·) = some ns := e
      obtain ⟨ms, hm, en⟩ := Option.map_eq_some_iff.mp e
      have h1 : v = .int i := h1
      subst ev; subst h1; subst en
      rw [intsOf_at h2 hm]; rfl
    | _ => cases e
theorem blsOf_at : ∀ {ds : List D} {vs : List V} {ns : List Bool}, RelDs P w ds vs → blsOf ds = some ns → vs = ns.map V.bl
  | [], vs, ns, r, e => by
    have r : vs = [] := r
    cases e; subst r; rfl
  | d :: ds, vs, ns, ⟨v, us, ev, h1, h2⟩, e => by
    cases d with
    | bl i =>
      have e : (blsOf ds).map (i :: ·) = some ns := e
      obtain ⟨ms, hm, en⟩ := Option.map_eq_some_iff.mp e
      have h1 : v = .bl i := h1
      subst ev; subst h1; subst en
      rw [blsOf_at h2 hm]; rfl
    | _ => cases e
theorem strsOf_at : ∀ {ds : List D} {vs : List V} {ns : List Str}, RelDs P w ds vs → strsOf ds = some ns → vs = ns.map V.str
  | [], vs, ns, r, e => by
    have r : vs = [] := r
    cases e; subst r; rfl
  | d :: ds, vs, ns, ⟨v, us, ev, h1, h2⟩, e => by
    cases d with
    | str i =>
      have e : (strsOf ds).map (i :: ·) = some ns := e
      obtain ⟨ms, hm, en⟩ := Option.map_eq_some_iff.mp e
      have h1 : v = .str i := h1
      subst ev; subst h1; subst en
      rw [strsOf_at h2 hm]; rfl
    | _ => cases e
theorem tyOf_at (R : RepM P w M H) {d : D} {v : V} {t : String} (r : RelD P w d v) (e : tyOf d M = some t) : TyX P.K H v (.type t) := by
  cases d with
  | non => have r : v = .non := r; subst r; cases e; exact .base .non
  | bl b => have r : v = .bl b := r; subst r; cases e; exact .base (.bl b)
  | int b => have r : v = .int b := r; subst r; cases e; exact .base (.int b)
  | str b => have r : v = .str b := r; subst r; cases e; exact .base (.str b)
  | tup ds =>
    obtain ⟨p, vs, ev, hp, _⟩ := r
    subst ev
    cases e
    rcases sqT_mono R.sub hp with (h | ⟨o, h⟩) | ⟨o, its, n, hk, hc, _⟩
    · exact .base (.tup h)
    · exact .fTuple h
    · exact .kTuple hk hc
  | lst ds =>
    obtain ⟨p, vs, ev, hp, _⟩ := r
    subst ev
    cases e
    exact .base (.lst (R.sub _ _ hp))
  | scr ns =>
    obtain ⟨p, ev, hp⟩ := r
    subst ev
    cases e
    rcases sqL_mono R.sub hp with (h | ⟨o, h⟩) | ⟨o, its, n, hk, hc, _⟩
    · exact .base (.lst h)
    · exact .base (.frz h)
    · exact .kList hk hc
  | obj _ _ _ => cases e
  | exc _ _ _ _ _ => cases e
  | ref k =>
    obtain ⟨p, ev, hp⟩ := r
    subst ev
    have e : (match M[k]? with
      | some (.lst _) => some "list"
      | _ => none) = some t := e
    split at e
    · rename_i ds hm
      cases e
      obtain ⟨_, vs, e2, _⟩ := R.cell k _ p hm hp
      exact .base (.lst e2)
    · cases e
end
section
variable {X : Cx} {P : Pm}
theorem bt_len (hK : P.K = X.K) : CallR X (.builtin "len") (liOA P (btD .len)) := by
  intro pins st σ H xs us Q I rv q
  obtain ⟨w, M, ds, Qd, R, hx, l, q⟩ := q
  match ds, q with
  | [], q => exact q.elim
  | _ :: _ :: _, q => exact absurd q (by simp [btD])
  | [d], q =>
    obtain ⟨x, e, r⟩ := rel1 hx
    subst e
    have h : (∃ s, d = .str s ∧ s.length ≤ sizeLine ∧ Qd (.int s.length) M) ∨ (match seqOf d M with
        | some ds => Qd (.int ds.length) M
        | none => False) := by
      cases d <;> first | exact .inl ⟨_, rfl, q⟩ | exact .inr q
    rcases h with ⟨s, e, q1, q2⟩ | q
    · subst e
      have r : x = .str s := r
      subst r
      exact call_len pins st σ H _ us Q I rv ⟨_, _, rfl, ⟨q1, rfl⟩, l.same R (d := .int _) rfl q2⟩
    · split at q
      · rename_i ds hds
        obtain ⟨p, vs, e1, e2, e3⟩ := seqOf_at R r hds
        exact call_len_seq pins st σ H _ us Q I rv ⟨p, vs, by rw [e1], hK ▸ e2, by rw [e3.length]; exact l.same R (d := .int _) rfl q⟩
      · exact q.elim
theorem bt_list (hK : P.K = X.K) (m : Bool) : CallR X (.type "list") (liOA P (btD (if m then .listM else .list))) := by
  intro pins st σ H xs us Q I rv q
  obtain ⟨w, M, ds, Qd, R, hx, l, q⟩ := q
  match ds, q with
  | [], q => cases m <;> exact q.elim
  | _ :: _ :: _, q => cases m <;> exact absurd q (by simp [btD])
  | [d], q =>
    obtain ⟨x, e, r⟩ := rel1 hx
    subst e
    cases m with
    | true =>
      have q : (match seqOf d M with
        | some ds => Qd (.ref M.length) (M ++ [.lst ds])
        | none => False) := q
      split at q
      · rename_i ds hds
        obtain ⟨p, vs, e1, e2, e3⟩ := seqOf_at R r hds
        exact call_list_of pins st σ H _ us Q I rv ⟨p, vs, by rw [e1], hK ▸ e2, fun p' hp => l.cell R e3 hp q⟩
      · exact q.elim
    | false =>
      have q : (match seqOf d M with
        | some ds => Qd (.lst ds) M
        | none => False) := q
      split at q
      · rename_i ds hds
        obtain ⟨p, vs, e1, e2, e3⟩ := seqOf_at R r hds
        exact call_list_of pins st σ H _ us Q I rv ⟨p, vs, by rw [e1], hK ▸ e2, fun p' hp => l.lst R e3 hp q⟩
      · exact q.elim
theorem bt_tuple (hK : P.K = X.K) : CallR X (.type "tuple") (liOA P (btD .tuple)) := by
  intro pins st σ H xs us Q I rv q
  obtain ⟨w, M, ds, Qd, R, hx, l, q⟩ := q
  match ds, q with
  | [], q => exact q.elim
  | _ :: _ :: _, q => exact absurd q (by simp [btD])
  | [d], q =>
    obtain ⟨x, e, r⟩ := rel1 hx
    subst e
    have q : (match seqOf d M with
      | some ds => Qd (.tup ds) M
      | none => False) := q
    split at q
    · rename_i ds hds
      by_cases ht : ∃ es, d = .tup es
      · obtain ⟨es, et⟩ := ht
        subst et
        cases hds
        obtain ⟨p, vs, e1, h1, r1⟩ := id r
        exact call_tuple_of pins st σ H _ us Q I rv ⟨p, vs, by rw [e1], .inr ⟨hK ▸ sqT_mono R.sub h1, e1 ▸ l.same R r q⟩⟩
      · obtain ⟨p, vs, e1, e2, e3⟩ := seqL_at R r hds fun es e => ht ⟨es, e⟩
        exact call_tuple_of pins st σ H _ us Q I rv ⟨p, vs, by rw [e1], .inl ⟨hK ▸ e2, fun p' hp => l.tup R e3 hp q⟩⟩
    · exact q.elim
theorem bt_int : CallR X (.type "int") (liOA P (btD .int)) := by
  intro pins st σ H xs us Q I rv q
  obtain ⟨w, M, ds, Qd, R, hx, l, q⟩ := q
  match ds, q with
  | [], q => exact q.elim
  | _ :: _ :: _, q => exact absurd q (by simp [btD])
  | [d], q =>
    obtain ⟨x, e, r⟩ := rel1 hx
    subst e
    cases d with
    | int i =>
      have r : x = .int i := r
      subst r
      exact call_int1 pins st σ H _ us Q I rv (.inl ⟨i, rfl, l.same R (d := .int _) rfl q⟩)
    | bl i =>
      have r : x = .bl i := r
      subst r
      exact call_int1 pins st σ H _ us Q I rv (.inr ⟨i, rfl, l.same R (d := .int _) rfl q⟩)
    | str s =>
      have r : x = .str s := r
      subst r
      obtain ⟨n, h1, h2, q⟩ := q
      exact call_int_str pins st σ H _ us Q I rv ⟨s, n, rfl, h1, h2, l.same R (d := .int _) rfl q⟩
    | _ => exact q.elim
theorem bt_ord : CallR X (.builtin "ord") (liOA P (btD .ord)) := by
  intro pins st σ H xs us Q I rv q
  obtain ⟨w, M, ds, Qd, R, hx, l, q⟩ := q
  match ds, q with
  | [], q => exact q.elim
  | _ :: _ :: _, q => exact absurd q (by simp [btD])
  | [d], q =>
    obtain ⟨x, e, r⟩ := rel1 hx
    subst e
    cases d with
    | str i =>
      have r : x = .str i := r
      subst r
      exact call_ord pins st σ H _ us Q I rv ⟨i, rfl, q.1, l.same R (d := .int _) rfl q.2⟩
    | _ => exact q.elim
theorem bt_str : CallR X (.type "str") (liOA P (btD .str)) := by
  intro pins st σ H xs us Q I rv q
  obtain ⟨w, M, ds, Qd, R, hx, l, q⟩ := q
  match ds, q with
  | [], q => exact q.elim
  | _ :: _ :: _, q => exact absurd q (by simp [btD])
  | [d], q =>
    obtain ⟨x, e, r⟩ := rel1 hx
    subst e
    cases d with
    | int i =>
      have r : x = .int i := r
      subst r
      exact call_str_int pins st σ H _ us Q I rv ⟨i, rfl, q.1, l.same R (d := .str _) rfl q.2⟩
    | _ => exact q.elim
theorem bt_mm (hc : X.calm = true) (m : Bool) : CallR X (.builtin (if m then "max" else "min")) (liOA P (btD (if m then .max2 else .min2))) := by
  intro pins st σ H xs us Q I rv q
  obtain ⟨w, M, ds, Qd, R, hx, l, q⟩ := q
  match ds, q with
  | [], q => cases m <;> exact q.elim
  | [_], q => cases m <;> exact absurd q (by simp [btD])
  | _ :: _ :: _ :: _, q => cases m <;> exact absurd q (by simp [btD])
  | [d, e], q =>
    obtain ⟨x, y, e, r1, r2⟩ := rel2 hx
    subst e
    have h : ∃ i j, d = .int i ∧ e = .int j ∧ if m then Qd (.int (if j > i then j else i)) M else Qd (.int (if j < i then j else i)) M := by
      cases m <;> cases d <;> first | exact q.elim | skip
      all_goals (cases e <;> first | exact q.elim | exact ⟨_, _, rfl, rfl, q⟩)
    obtain ⟨i, j, e1, e2, q⟩ := h
    subst e1; subst e2
    have r1 : x = .int i := r1
    have r2 : y = .int j := r2
    subst r1; subst r2
    cases m with
    | true => exact call_max2 hc pins st σ H _ us Q I rv ⟨i, j, rfl, l.same R (d := .int _) rfl q⟩
    | false => exact call_min2 hc pins st σ H _ us Q I rv ⟨i, j, rfl, l.same R (d := .int _) rfl q⟩
theorem bt_sum (hK : P.K = X.K) (hc : X.calm = true) : CallR X (.builtin "sum") (liOA P (btD .sum)) := by
  intro pins st σ H xs us Q I rv q
  obtain ⟨w, M, ds, Qd, R, hx, l, q⟩ := q
  match ds, q with
  | [], q => exact q.elim
  | _ :: _ :: _, q => exact absurd q (by simp [btD])
  | [d], q =>
    obtain ⟨x, e, r⟩ := rel1 hx
    subst e
    obtain ⟨hn, q⟩ := q
    split at q
    · rename_i ns hns
      obtain ⟨ds, hds, hi⟩ := Option.bind_eq_some_iff.mp hns
      obtain ⟨p, vs, e1, e2, e3⟩ := seqL_at R r hds hn
      rw [intsOf_at e3 hi] at e2
      exact cr_sum hc pins st σ H _ us Q I rv ⟨p, ns, by rw [e1], hK ▸ e2, l.same R (d := .int _) rfl q⟩
    · exact q.elim
theorem bt_any (hK : P.K = X.K) (hc : X.calm = true) : CallR X (.builtin "any") (liOA P (btD .any)) := by
  intro pins st σ H xs us Q I rv q
  obtain ⟨w, M, ds, Qd, R, hx, l, q⟩ := q
  match ds, q with
  | [], q => exact q.elim
  | _ :: _ :: _, q => exact absurd q (by simp [btD])
  | [d], q =>
    obtain ⟨x, e, r⟩ := rel1 hx
    subst e
    obtain ⟨hn, q⟩ := q
    split at q
    · rename_i ns hns
      obtain ⟨ds, hds, hi⟩ := Option.bind_eq_some_iff.mp hns
      obtain ⟨p, vs, e1, e2, e3⟩ := seqL_at R r hds hn
      rw [blsOf_at e3 hi] at e2
      exact cr_any hc pins st σ H _ us Q I rv ⟨p, ns, by rw [e1], hK ▸ e2, l.same R (d := .bl _) rfl q⟩
    · exact q.elim
theorem bt_all (hK : P.K = X.K) (hc : X.calm = true) : CallR X (.builtin "all") (liOA P (btD .all)) := by
  intro pins st σ H xs us Q I rv q
  obtain ⟨w, M, ds, Qd, R, hx, l, q⟩ := q
  match ds, q with
  | [], q => exact q.elim
  | _ :: _ :: _, q => exact absurd q (by simp [btD])
  | [d], q =>
    obtain ⟨x, e, r⟩ := rel1 hx
    subst e
    obtain ⟨hn, q⟩ := q
    split at q
    · rename_i ns hns
      obtain ⟨ds, hds, hi⟩ := Option.bind_eq_some_iff.mp hns
      obtain ⟨p, vs, e1, e2, e3⟩ := seqL_at R r hds hn
      rw [blsOf_at e3 hi] at e2
      exact cr_all hc pins st σ H _ us Q I rv ⟨p, ns, by rw [e1], hK ▸ e2, l.same R (d := .bl _) rfl q⟩
    · exact q.elim
/-- isinstance(x, T): the second place the class itself -/
theorem bt_isi (hK : P.K = X.K) {T : String} : CallR X (.builtin "isinstance") (fun xs H Q => ∃ x, xs = [x, .ty T] ∧ liOA P (btD (.isi T)) [x] H Q) := by
  intro pins st σ H xs us Q I rv q
  obtain ⟨x, e, w, M, ds, Qd, R, hx, l, q⟩ := q
  subst e
  match ds, q with
  | [], q => exact q.elim
  | _ :: _ :: _, q => exact absurd q (by simp [btD])
  | [d], q =>
    obtain ⟨x', e, r⟩ := rel1 hx
    cases e
    have q : (match tyOf d M with
      | some t => match kitB t T with
        | some b => Qd (.bl b) M
        | none => False
      | none => False) := q
    split at q
    · rename_i t ht
      split at q
      · rename_i b hb
        exact call_isi pins st σ H _ us Q I rv ⟨_, _, _, _, b, rfl, ClsV.ty T, hK ▸ tyOf_at R r ht, kit_ty hb, l.same R (d := .bl _) rfl q⟩
      · exact q.elim
    · exact q.elim
/-- the items as data -/
theorem each_of {pins : List (Addr × Obj)} {st : Shared} {σ : L2.St} {H : Hp} {w : Wd} {M : Md} (hK : P.K = X.K) (I : Inv X pins σ H st) (R : RepM P w M H) : ∀ {ds : List D} {vs : List V} {us : List Value}, RelDs P w ds vs → Vals vs us → (∀ d ∈ ds, (pyD d).isSome = true) →
    PySem.W.EachIs (fun u d => ∃ x, RelV x u ∧ RelD P w d x) us ds ∧ PySem.W.EachIs (fun u d => ∃ as, Reads st.heap u (pyG d) as) us ds
  | [], vs, us, r, v, _ => by
    have r : vs = [] := r
    subst r; cases v; exact ⟨.nil, .nil⟩
  | d :: ds, _, us, ⟨x, xs, e, h1, h2⟩, v, hp => by
    subst e
    cases v with
    | cons v1 v2 =>
      obtain ⟨a, b⟩ := each_of hK I R h2 v2 fun d hd => hp d (List.mem_cons_of_mem _ hd)
      obtain ⟨y, hy⟩ := Option.isSome_iff_exists.mp (hp d List.mem_cons_self)
      refine ⟨.cons ⟨x, v1, h1⟩ a, .cons ?_ b⟩
      have : pyG d = y := by unfold pyG; rw [hy]; rfl
      rw [this]
      exact Dp.reads I y x _ (hK ▸ pyD_at R h1 hy) v1
theorem each_back {w : Wd} : ∀ {ds : List D} {us : List Value}, PySem.W.EachIs (fun u d => ∃ x, RelV x u ∧ RelD P w d x) us ds → ∃ vs, Vals vs us ∧ RelDs P w ds vs
  | [], _, h => by cases h; exact ⟨[], .nil, rfl⟩
  | d :: ds, _, h => by
    cases h with
    | cons h1 h2 =>
      obtain ⟨x, a, b⟩ := h1
      obtain ⟨vs, c, e⟩ := each_back h2
      exact ⟨x :: vs, .cons a c, .cons b e⟩
theorem bt_sorted (hK : P.K = X.K) (hu : X.A.units + 65 < cLine) (m : Bool) : CallR X (.builtin "sorted") (liOA P (btD (if m then .sortedM else .sorted))) := by
  intro pins st σ H xs us Q I rv q
  obtain ⟨w, M, ds, Qd, R, hx, l, q⟩ := q
  match ds, q with
  | [], q => cases m <;> exact q.elim
  | _ :: _ :: _, q => cases m <;> exact absurd q (by simp [btD])
  | [d], q =>
    obtain ⟨x, e, r⟩ := rel1 hx
    subst e
    have q : (∀ es, d ≠ .tup es) ∧ match seqOf d M with
      | some ds => SortOk ds ∧ (if m then Qd (.ref M.length) (M ++ [.lst (sortD ds)]) else Qd (.lst (sortD ds)) M)
      | none => False := by cases m <;> exact q
    obtain ⟨hn, q⟩ := q
    split at q
    · rename_i ds hds
      obtain ⟨ok, q⟩ := q
      obtain ⟨p, vs, e1, e2, e3⟩ := seqL_at R r hds hn
      subst e1
      obtain ⟨u, rfl, ru⟩ := vals1 rv
      obtain rfl : u = Value.ref p := ru
      obtain ⟨its, r1, pl, hz⟩ := I.list (hK ▸ e2)
      obtain ⟨ea, er⟩ := each_of hK I R e3 r1 ok.py
      refine PySem.W.sorted_data (enc := pyG) pl.isList ea er ok.al ok.so (by rw [← e3.length]; exact hz) (fun b hb => by have := ok.dp b hb; omega) fun out ho eo => ?_
      obtain ⟨ws, r2, r3⟩ := each_back eo
      have hf : H (st.heap.objs.size + 1) = none := I.hok.fresh (Nat.le_succ _)
      obtain ⟨c, hc⟩ := PyProof.Rows.sortedAll_at st.heap its (List.toArray out)
      have J : Inv X pins σ (upd H (st.heap.objs.size + 1) (.lst ws)) { st with heap := PyProof.Rows.sortedAll st.heap its (List.toArray out) } := by
        refine I.laid (t' := st.toks) (fun b o e => PyProof.Rows.sortedAll_old e) (Nat.le_succ _) ⟨?_, out, c, r2, hc⟩
        rw [r3.length, List.length_mergeSort, ← e3.length]; exact hz
      refine ⟨.ref (st.heap.objs.size + 1), _, J, rfl, ?_⟩
      cases m with
      | true => exact l.cell R r3 hf q
      | false => exact l.lst R r3 hf q
    · exact q.elim
/-- numbers, one by one -/
theorem each_int {P : Pm} {w : Wd} {h : Heap} {a : Addr} : ∀ {us : List Value} {ns : List Int}, us.length = ns.length → (∀ (j : Nat) (v : Value), us[j]? = some v → ∃ (n : Int) (t : Tok), ns[j]? = some n ∧ v = .int n t) →
    PySem.W.EachIs (fun u d => ∃ x, RelV x u ∧ RelD P w d x) us (ns.map D.int) ∧ PySem.W.EachIs (fun u d => ∃ as, Reads h u (pyG d) as ∧ a ∉ as) us (ns.map D.int)
  | [], [], _, _ => ⟨.nil, .nil⟩
  | u :: us, n :: ns, hl, hq => by
    obtain ⟨m, t, e1, e2⟩ := hq 0 u rfl
    have e1 : n = m := Option.some.inj e1
    subst e1 e2
    obtain ⟨q1, q2⟩ := each_int (P := P) (w := w) (h := h) (a := a) (us := us) (ns := ns) (by simpa using hl) fun j v e => by
      obtain ⟨m, t, e3, e4⟩ := hq (j + 1) v (by simpa using e)
      exact ⟨m, t, by simpa using e3, e4⟩
    exact ⟨.cons ⟨.int n, ⟨t, rfl⟩, rfl⟩ q1, .cons ⟨[], .int n t, by simp⟩ q2⟩
  | [], _ :: _, hl, _ => by simp at hl
  | _ :: _, [], hl, _ => by simp at hl
theorem relKs_keys {κ : Type} {P : Pm} {w : Wd} : ∀ {kvs : List (κ × D)} {us : List (κ × V)}, RelKs P w kvs us → us.map (·.1) = kvs.map (·.1)
  | [], us, h => by
    have h : us = [] := h
    subst h; rfl
  | (k, d) :: r, us, ⟨v, us', e, _, h⟩ => by
    subst e
    rw [List.map_cons, List.map_cons, relKs_keys h]
theorem bt_sortedD (hK : P.K = X.K) (hpg : P.pg = X.prog) (hwl : P.wl = X.w) (hu : X.A.units + 65 < cLine) (hcalm : X.calm = true) : CallR X (.builtin "sorted") (liOA P (btD .sortedD)) := by
  intro pins st σ H xs us Q I rv q
  obtain ⟨w, M, ds, Qd, R, hx, l, q⟩ := q
  match ds, q with
  | [], q => exact q.elim
  | _ :: _ :: _, q => exact absurd q (by simp [btD])
  | [d], q =>
    obtain ⟨x, e, r⟩ := rel1 hx
    subst e
    cases d with
    | ref k =>
      have q : (match M[k]? with
        | some (.dct kvs) => ∃ ns : List Int, kvs.map (·.1) = ns.map (fun n => some (.inl n)) ∧ Qd (.lst (sortD (ns.map D.int))) M
        | _ => False) := q
      obtain ⟨p, e1, hp⟩ := r
      subst e1
      split at q
      · rename_i kvs hm
        obtain ⟨ns, hns, q⟩ := q
        obtain ⟨hF, vus, eH, hk⟩ := R.cell k _ p hm hp
        rw [hpg, hwl] at eH
        obtain ⟨u, rfl, ru⟩ := vals1 rv
        obtain rfl : u = Value.ref p := ru
        obtain ⟨z, hd, vs, rel, dd⟩ := fd_of I eH
        obtain ⟨ep, hat⟩ := dd.dictAt
        have hkeys : vs.map (·.1) = ns.map fun n => some (.inl n) := by
          rw [← rel.keys, relKs_keys hk, hns]
        have hl : vs.length = ns.length := by
          have e := congrArg List.length hkeys
          rw [List.length_map, List.length_map] at e
          exact e
        have hzl : vs.length ≤ sizeLine := by rw [← rel.length]; exact z
        refine Calls.call_function_entry PyProof.Rows.kind_sorted PyProof.Rows.plain_sorted PyProof.Rows.entry_sorted (PyProof.Rows.args_sorted1 _) ?_
        unfold Builtin.«sorted»
        refine wpAny_bind (m := checkCount "sorted" 1 1 _) (wpAny_pure ?_)
        refine wpAny_bind (PySem.W.kdu_collect (A := X.A.in1) (PySem.W.kdl_dict (knd := noneKind X.prog X.w) (kvs := vs) (ep := ep) hd) (I.ok.hd hcalm) hat hzl fun h' tk acc hkp hacc => ?_)
        have hal : acc.toList.length = ns.length := by rw [Array.length_toList, hacc.1, hl]
        have I1 : Inv X pins σ H { st with heap := h', toks := tk } := I.kept hkp
        refine wpAny_bind (wpAny_newList ?_ (by rw [hal, ← hl]; exact hzl))
        have hoL : (h'.push (PyProof.Rows.seqObj "list" acc.toList.toArray 0)).get? h'.objs.size = some (PyProof.Rows.seqObj "list" acc.toList.toArray 0) := Heap.get?_push_size _ rfl
        show wpAny _ _ _ _ _ { st with heap := h'.push (PyProof.Rows.seqObj "list" acc.toList.toArray 0), toks := tk }
        obtain ⟨E1, E2⟩ := each_int (P := P) (w := w) (h := h'.push (PyProof.Rows.seqObj "list" acc.toList.toArray 0)) (a := h'.objs.size) hal fun j v e => by
          obtain ⟨ky, x, e1, e2⟩ := hacc.2 j v (by rw [← Array.getElem?_toList]; exact e)
          have e3 : (vs.map (·.1))[j]? = some ky := by rw [List.getElem?_map, e1]; rfl
          rw [hkeys, List.getElem?_map] at e3
          cases e4 : ns[j]? with
          | none => rw [e4] at e3; cases e3
          | some y =>
            rw [e4] at e3
            have e5 : some (Sum.inl y) = ky := Option.some.inj e3
            subst e5
            rcases keyIs_shape (show keyIs (Sum.inl y) v = true from e2) with ⟨i, t, ek, ev⟩ | ⟨z, t, ek, ev⟩
            · cases ek
              exact ⟨y, t, rfl, ev⟩
            · cases ek
        have hpy : ∀ b ∈ ns.map D.int, ∃ n, pyG b = .int n := fun b hb => by
          obtain ⟨n, _, rfl⟩ := List.mem_map.mp hb
          exact ⟨n, rfl⟩
        refine wpAny_bind (wpAny_holding (PySem.W.list_sort_data (s := { st with heap := h'.push (PyProof.Rows.seqObj "list" acc.toList.toArray 0), toks := tk }) (enc := pyG) hoL E1 E2 ?_ ?_ (by rw [List.length_map, ← hl]; exact hzl) (fun b hb => ?_) fun out ho eo => ?_))
        · intro a ha b hb
          obtain ⟨a', ha', rfl⟩ := List.mem_map.mp ha
          obtain ⟨b', hb', rfl⟩ := List.mem_map.mp hb
          obtain ⟨n, e1⟩ := hpy _ ha'
          obtain ⟨m, e2⟩ := hpy _ hb'
          rw [e1, e2]
          simp [PySem.W.alike]
        · refine .inr fun a ha => ?_
          obtain ⟨a', ha', rfl⟩ := List.mem_map.mp ha
          obtain ⟨n, e1⟩ := hpy _ ha'
          rw [e1]
          exact ⟨(fun z => by cases z), (fun _ z => by cases z)⟩
        · obtain ⟨n, e1⟩ := hpy _ hb
          rw [e1, PyData.depth, Around.in1_units]
          omega
        · obtain ⟨ws, r2, r3⟩ := each_back eo
          obtain ⟨e', he'⟩ := PyProof.Rows.sortedHeap_at (vs := acc.toList) (out := List.toArray out) hoL
          have hf : H h'.objs.size = none := I1.hok.fresh (Nat.le_refl _)
          have hws : ws.length ≤ sizeLine := by
            rw [r3.length, List.length_mergeSort, List.length_map, ← hl]; exact hzl
          have J : Inv X pins σ (upd H h'.objs.size (.lst ws)) { st with heap := PyProof.Rows.sortedHeap (h'.push (PyProof.Rows.seqObj "list" acc.toList.toArray 0)) h'.objs.size acc.toList (List.toArray out), toks := tk } := by
            refine I1.laid (t' := tk) (fun b o e => ?_) (Nat.le_refl _) ⟨hws, out, e', r2, he'⟩
            have hb : b < h'.objs.size := Heap.lt_size e
            rw [PyProof.Rows.sortedHeap_old (Nat.ne_of_lt hb) (by rw [PyProof.Rows.size_push']; exact Nat.lt_succ_of_lt hb)]
            exact Heap.get?_push_of_some _ e
          exact wpAny_pure ⟨_, rfl, .ref h'.objs.size, _, J, rfl, l.lst R r3 hf q⟩
      · exact q.elim
    | _ => exact q.elim
end
end DL
namespace DL
open PySem L2
inductive Mt where
  | append | extend | pop | popAt | insert | clear | reverse | join | find | lower | upper | split | index | find2
  deriving DecidableEq
def mtT : Mt → String
  | .append | .extend | .pop | .popAt | .insert | .clear | .reverse | .index => "list"
  | _ => "str"
def mtN : Mt → Str
  | .append => "append" | .extend => "extend" | .pop => "pop" | .popAt => "pop" | .insert => "insert" | .clear => "clear" | .reverse => "reverse"
  | .join => "join" | .find => "find" | .lower => "lower" | .upper => "upper" | .split => "split" | .index => "index" | .find2 => "find"
def mtI : Mt → String
  | .append => "list.append" | .extend => "list.extend" | .pop => "list.pop" | .popAt => "list.pop" | .insert => "list.insert" | .clear => "list.clear" | .reverse => "list.reverse"
  | .join => "str.join" | .find => "str.find" | .lower => "str.lower" | .upper => "str.upper" | .split => "str.split" | .index => "list.index" | .find2 => "str.find"
/-- how many arguments -/
def mtA : Mt → Nat
  | .pop | .clear | .reverse | .lower | .upper => 0
  | .insert | .find2 => 2
  | _ => 1
/-- the receiver's kind -/
def mtK (m : Mt) (d : D) (M : Md) : Prop := if mtT m = "list" then (seqOf d M).isSome = true ∧ ∀ es, d ≠ .tup es else ∃ s, d = .str s
/-- a list that may be changed -/
def mutOf (d : D) (M : Md) : Option (Nat × List D) := match d with
  | .ref k => match M[k]? with
    | some (.lst ds) => some (k, ds)
    | _ => none
  | _ => none
/-- the first place of y -/
def idxF (y : D) : List D → Option Nat
  | [] => none
  | d :: ds => if eqF d y = true then some 0 else (idxF y ds).map (· + 1)
theorem idxF_get {y : D} : ∀ {ds : List D} {j : Nat}, idxF y ds = some j → (∃ z, ds[j]? = some z ∧ eqF z y = true) ∧ ∀ m z, m < j → ds[m]? = some z → eqF z y = false
  | [], j, h => by cases h
  | d :: ds, j, h => by
    unfold idxF at h
    split at h
    · next e => cases h; exact ⟨⟨d, rfl, e⟩, fun m z hm => absurd hm (Nat.not_lt_zero m)⟩
    · next e =>
      obtain ⟨i, hi, e2⟩ := Option.map_eq_some_iff.mp h
      subst e2
      obtain ⟨⟨z, hz, e3⟩, h2⟩ := idxF_get hi
      refine ⟨⟨z, by simpa using hz, e3⟩, fun m z hm hz => ?_⟩
      cases m with
      | zero =>
        have hz : d = z := by simpa using hz
        subst hz
        simpa using e
      | succ m => exact h2 m z (by omega) (by simpa using hz)
def mtD (m : Mt) (x : D) (args : List D) (M : Md) (Q : QE) : Prop := match m with
  | .append => match mutOf x M, args with
    | some (k, ds), [d] => ds.length < sizeLine ∧ Q .non (M.set k (.lst (ds ++ [d])))
    | _, _ => False
  | .extend => match mutOf x M, args with
    | some (k, ds), [d] => match lstOf d M with
      | some es => ds.length + es.length ≤ sizeLine ∧ Q .non (M.set k (.lst (ds ++ es)))
      | none => False
    | _, _ => False
  | .pop => match mutOf x M, args with
    | some (k, ds), [] => match ds.getLast? with
      | some d => Q d (M.set k (.lst ds.dropLast))
      | none => False
    | _, _ => False
  | .popAt => match mutOf x M, args with
    | some (k, ds), [.int i] => -(2 ^ 63) ≤ i ∧ i < 2 ^ 63 ∧ match ixN ds.length i with
      | some j => match ds[j]? with
        | some d => Q d (M.set k (.lst (ds.eraseIdx j)))
        | none => False
      | none => False
    | _, _ => False
  | .insert => match mutOf x M, args with
    | some (k, ds), [.int i, d] => ds.length < sizeLine ∧ 0 ≤ i ∧ i < 2 ^ 63 ∧ Q .non (M.set k (.lst (ds.take i.toNat ++ [d] ++ ds.drop i.toNat)))
    | _, _ => False
  | .clear => match mutOf x M, args with
    | some (k, ds), [] => Q .non (M.set k (.lst []))
    | _, _ => False
  | .reverse => match mutOf x M, args with
    | some (k, ds), [] => Q .non (M.set k (.lst ds.reverse))
    | _, _ => False
  | .join => match x, args with
    | .str s, [d] => match (seqOf d M).bind strsOf with
      | some ys => (ys.map (·.length)).sum + ys.length * s.length ≤ 16777216 ∧ Q (.str (Txt.join s ys)) M
      | none => False
    | _, _ => False
  | .find => match x, args with
    | .str s, [.str t] => Q (.int (Txt.find s t)) M
    | _, _ => False
  | .find2 => match x, args with
    | .str s, [.str t, .int i] => Q (.int (Txt.find3 s t i)) M
    | _, _ => False
  | .lower => match x, args with
    | .str s, [] => s.length ≤ 5592405 ∧ Q (.str (Txt.lower s)) M
    | _, _ => False
  | .upper => match x, args with
    | .str s, [] => s.length ≤ 5592405 ∧ Q (.str (Txt.upper s)) M
    | _, _ => False
  | .split => match x, args with
    | .str s, [.str t] => (t.length == 0) = false ∧ s.length + 2 ≤ sizeLine ∧ Q (.lst ((Txt.split s t).map D.str)) M
    | _, _ => False
  | .index => match lstOf x M, args with
    | some ds, [y] => flatD y = true ∧ ds.all flatD = true ∧ match idxF y ds with
      | some j => Q (.int j) M
      | none => False
    | _, _ => False
def liM (P : Pm) (m : Mt) : V → List V → Hp → VK → Prop := fun x xs H Q => ∃ w M dx ds Qd, RepM P w M H ∧ RelD P w dx x ∧ RelDs P w ds xs ∧ Lk P w H Qd Q ∧ mtD m dx ds M Qd
theorem mutOf_at {P : Pm} {w : Wd} {M : Md} {H : Hp} (R : RepM P w M H) {d : D} {v : V} {k : Nat} {ds : List D} (r : RelD P w d v) (h : mutOf d M = some (k, ds)) :
    ∃ p vs, v = .ref p ∧ H p = some (.lst vs) ∧ RelDs P w ds vs ∧ w.r[k]? = some p ∧ M[k]? = some (.lst ds) ∧ w.F p = none := by
  cases d with
  | ref j =>
    obtain ⟨p, e, hp⟩ := r
    have h : (match M[j]? with
      | some (.lst ds) => some (j, ds)
      | _ => none) = some (k, ds) := h
    split at h
    · rename_i ds' hm
      cases h
      obtain ⟨hF, vs, e2, hs⟩ := R.cell _ _ p hm hp
      exact ⟨p, vs, e, e2, hs, hp, hm, hF⟩
    · cases h
  | _ => cases h
theorem Lk.put {P : Pm} {w : Wd} {M : Md} {H : Hp} {Qd : QE} {Q : VK} (l : Lk P w H Qd Q) (R : RepM P w M H) {k : Nat} {p : Addr} {ds ds' : List D} {vs' : List V} (hm : M[k]? = some (.lst ds)) (hp : w.r[k]? = some p) (hF : w.F p = none)
    (r' : RelDs P w ds' vs') {d : D} {v : V} (r : RelD P w d v) (q : Qd d (M.set k (.lst ds'))) : Q v (upd H p (.lst vs')) := by
  obtain ⟨R', s⟩ := R.write (o := .lst vs') (m' := .lst ds') hm hF hp .lst ⟨hF, vs', upd_same, r'⟩
  exact l _ _ _ _ _ s R' r q
theorem relDs_strs {P : Pm} {w : Wd} : ∀ ys : List Str, RelDs P w (ys.map D.str) (ys.map V.str)
  | [] => rfl
  | n :: ns => ⟨.str n, _, rfl, rfl, relDs_strs ns⟩
theorem relDs_eraseIdx {P : Pm} {w : Wd} : ∀ {ds : List D} {vs : List V} (i : Nat), RelDs P w ds vs → RelDs P w (ds.eraseIdx i) (vs.eraseIdx i)
  | [], _, _, h => by
    have h : _ = [] := h
    rw [h]; rfl
  | d :: ds, _, 0, ⟨v, r, e, h1, h2⟩ => by rw [e]; exact h2
  | d :: ds, _, i + 1, ⟨v, r, e, h1, h2⟩ => by rw [e]; exact ⟨v, _, rfl, h1, relDs_eraseIdx i h2⟩
theorem ixN_seqIndex {n : Nat} {i : Int} {j : Nat} (h : ixN n i = some j) : seqIndex? i n = some j := (ixN_seq h).1
section
variable {X : Cx} {P : Pm}
theorem mt_sound (hK : P.K = X.K) (m : Mt) : MtR X (mtI m) (liM P m) := by
  intro pins st σ H x xs v us Q I rx rs q
  obtain ⟨w, M, dx, ds, Qd, R, hx, hs, l, q⟩ := q
  cases m with
  | append =>
    simp only [mtD] at q
    split at q
    · rename_i k es d hm
      obtain ⟨p, vs, e1, e2, e3, e4, e5, e6⟩ := mutOf_at R hx hm
      obtain ⟨y, ey, ry⟩ := rel1 hs
      exact mt_append pins st σ H x xs v us Q I rx rs ⟨p, vs, y, e1, ey, e2, by rw [e3.length]; exact q.1, l.put R e5 e4 e6 (e3.append (.cons ry .nil)) (d := .non) rfl q.2⟩
    · exact q.elim
  | extend =>
    simp only [mtD] at q
    split at q
    · rename_i k es d hm
      split at q
      · rename_i fs hl
        obtain ⟨p, vs, e1, e2, e3, e4, e5, e6⟩ := mutOf_at R hx hm
        obtain ⟨y, ey, ry⟩ := rel1 hs
        obtain ⟨p2, vs2, f1, f2, f3⟩ := lstOf_at R ry hl
        exact mt_extend pins st σ H x xs v us Q I rx rs ⟨p, p2, vs, vs2, e1, by rw [ey, f1], e2, f2, by rw [e3.length, f3.length]; exact q.1, l.put R e5 e4 e6 (e3.append f3) (d := .non) rfl q.2⟩
      · exact q.elim
    · exact q.elim
  | pop =>
    simp only [mtD] at q
    split at q
    · rename_i k es hm
      split at q
      · rename_i d hd
        obtain ⟨p, vs, e1, e2, e3, e4, e5, e6⟩ := mutOf_at R hx hm
        have hs : xs = [] := hs
        rw [List.getLast?_eq_getElem?] at hd
        obtain ⟨y, hy, ry⟩ := e3.get hd
        refine mt_pop pins st σ H x xs v us Q I rx rs ⟨p, vs, y, e1, hs, e2, by rw [e3.length]; exact hy, l.put R e5 e4 e6 ?_ ry q⟩
        rw [List.dropLast_eq_take, List.dropLast_eq_take, e3.length]
        exact e3.take _
      · exact q.elim
    · exact q.elim
  | popAt =>
    simp only [mtD] at q
    split at q
    · rename_i k es i hm
      obtain ⟨q1, q2, q⟩ := q
      split at q
      · rename_i j hj
        split at q
        · rename_i d hd
          obtain ⟨p, vs, e1, e2, e3, e4, e5, e6⟩ := mutOf_at R hx hm
          obtain ⟨z, ez, rz⟩ := rel1 hs
          have rz : z = .int i := rz
          obtain ⟨y, hy, ry⟩ := e3.get hd
          exact mt_popAt pins st σ H x xs v us Q I rx rs ⟨p, vs, i, j, y, e1, by rw [ez, rz], e2, q1, q2, by rw [e3.length]; exact ixN_seqIndex hj, hy, l.put R e5 e4 e6 (relDs_eraseIdx j e3) ry q⟩
        · exact q.elim
      · exact q.elim
    · exact q.elim
  | insert =>
    simp only [mtD] at q
    split at q
    · rename_i k es i d hm
      obtain ⟨q1, q2, q3, q⟩ := q
      obtain ⟨p, vs, e1, e2, e3, e4, e5, e6⟩ := mutOf_at R hx hm
      obtain ⟨z, y, ez, rz, ry⟩ := rel2 hs
      have rz : z = .int i := rz
      exact mt_insert pins st σ H x xs v us Q I rx rs ⟨p, vs, i, y, e1, by rw [ez, rz], e2, by rw [e3.length]; exact q1, q2, q3, l.put R e5 e4 e6 (((e3.take _).append (.cons ry .nil)).append (e3.drop _)) (d := .non) rfl q⟩
    · exact q.elim
  | clear =>
    simp only [mtD] at q
    split at q
    · rename_i k es hm
      obtain ⟨p, vs, e1, e2, e3, e4, e5, e6⟩ := mutOf_at R hx hm
      have hs : xs = [] := hs
      exact mt_clear pins st σ H x xs v us Q I rx rs ⟨p, vs, e1, hs, e2, l.put R e5 e4 e6 .nil (d := .non) rfl q⟩
    · exact q.elim
  | reverse =>
    simp only [mtD] at q
    split at q
    · rename_i k es hm
      obtain ⟨p, vs, e1, e2, e3, e4, e5, e6⟩ := mutOf_at R hx hm
      have hs : xs = [] := hs
      exact mt_reverse pins st σ H x xs v us Q I rx rs ⟨p, vs, e1, hs, e2, l.put R e5 e4 e6 e3.reverse (d := .non) rfl q⟩
    · exact q.elim
  | join =>
    simp only [mtD] at q
    split at q
    · rename_i s d
      split at q
      · rename_i ys hys
        obtain ⟨es, hes, hst⟩ := Option.bind_eq_some_iff.mp hys
        obtain ⟨y, ey, ry⟩ := rel1 hs
        obtain ⟨p, vs, e1, e2, e3⟩ := seqOf_at R ry hes
        rw [strsOf_at e3 hst] at e2
        exact mt_join pins st σ H x xs v us Q I rx rs ⟨s, p, ys, hx, by rw [ey, e1], hK ▸ e2, q.1, l.same R (d := .str _) rfl q.2⟩
      · exact q.elim
    · exact q.elim
  | find =>
    simp only [mtD] at q
    split at q
    · rename_i s t
      obtain ⟨y, ey, ry⟩ := rel1 hs
      have ry : y = .str t := ry
      exact mt_find pins st σ H x xs v us Q I rx rs ⟨s, t, hx, by rw [ey, ry], l.same R (d := .int _) rfl q⟩
    · exact q.elim
  | find2 =>
    simp only [mtD] at q
    split at q
    · rename_i s t i
      obtain ⟨y, y2, ey, ry, ry2⟩ := rel2 hs
      have ry : y = .str t := ry
      have ry2 : y2 = .int i := ry2
      exact mt_find3 pins st σ H x xs v us Q I rx rs ⟨s, t, i, hx, by rw [ey, ry, ry2], l.same R (d := .int _) rfl q⟩
    · exact q.elim
  | lower =>
    simp only [mtD] at q
    split at q
    · rename_i s
      have hs : xs = [] := hs
      exact mt_lower pins st σ H x xs v us Q I rx rs ⟨s, hx, hs, q.1, l.same R (d := .str _) rfl q.2⟩
    · exact q.elim
  | upper =>
    simp only [mtD] at q
    split at q
    · rename_i s
      have hs : xs = [] := hs
      exact mt_upper pins st σ H x xs v us Q I rx rs ⟨s, hx, hs, q.1, l.same R (d := .str _) rfl q.2⟩
    · exact q.elim
  | split =>
    simp only [mtD] at q
    split at q
    · rename_i s t
      obtain ⟨y, ey, ry⟩ := rel1 hs
      have ry : y = .str t := ry
      exact mt_split pins st σ H x xs v us Q I rx rs ⟨s, t, hx, by rw [ey, ry], q.1, q.2.1, fun p hp => l.lst R (relDs_strs _) hp q.2.2⟩
    · exact q.elim
  | index =>
    simp only [mtD] at q
    split at q
    · rename_i ds y hl
      obtain ⟨q1, q2, q⟩ := q
      split at q
      · rename_i j hj
        obtain ⟨p, vs, e1, e2, e3⟩ := lstOf_at R hx hl
        obtain ⟨y', ey, ry⟩ := rel1 hs
        obtain ⟨⟨z, hz, e4⟩, h5⟩ := idxF_get hj
        have fl : ∀ {m : Nat} {d : D}, ds[m]? = some d → flatD d = true := fun h => List.all_eq_true.mp q2 _ (List.mem_of_getElem? h)
        obtain ⟨v', hv, rv⟩ := e3.get hz
        refine mt_index pins st σ H x xs v us Q I rx rs ⟨p, vs, y', j, v', e1, ey, SqL.of e2, flat_at ry q1, flats_at e3 q2, hv, by rw [eqF_at rv ry (fl hz) q1]; exact e4, fun m z' hm hz' => ?_, l.same R (d := .int _) rfl q⟩
        have hm2 : m < ds.length := by
          have := (List.getElem?_eq_some_iff.mp hz').1
          rw [e3.length] at this; exact this
        obtain ⟨v2, hv2, rv2⟩ := e3.get (List.getElem?_eq_getElem hm2)
        rw [hz'] at hv2; cases hv2
        rw [eqF_at rv2 ry (fl (List.getElem?_eq_getElem hm2)) q1]
        exact h5 m _ hm (List.getElem?_eq_getElem hm2)
      · exact q.elim
    · exact q.elim
theorem mt_pa (m : Mt) : PlainAttrs (mtT m) := by cases m <;> first | exact PySem.F.plainAttrs_list | exact PySem.F.plainAttrs_str
theorem mt_slot (m : Mt) : Slot (mtT m) (mtN m) (mtI m) := by
  cases m
  · exact PySem.F.slot_list_append
  · exact PySem.F.slot_list_extend
  · exact PySem.F.slot_list_pop
  · exact PySem.F.slot_list_pop
  · exact PySem.F.slot_list_insert
  · exact PySem.F.slot_list_clear
  · exact PySem.F.slot_list_reverse
  · exact PySem.F.slot_str_join
  · exact PySem.F.slot_str_find
  · exact PySem.F.slot_str_lower
  · exact PySem.F.slot_str_upper
  · exact PySem.F.slot_str_split
  · exact PySem.F.slot_list_index
  · exact PySem.F.slot_str_find
theorem mt_type (m : Mt) : typeOf (.builtin (mtI m)) = pure (.type "method_descriptor") := by
  cases m
  · exact PySem.F.type_list_append
  · exact PySem.F.type_list_extend
  · exact PySem.F.type_list_pop
  · exact PySem.F.type_list_pop
  · exact PySem.F.type_list_insert
  · exact PySem.F.type_list_clear
  · exact PySem.F.type_list_reverse
  · exact PySem.F.type_str_join
  · exact PySem.F.type_str_find
  · exact PySem.F.type_str_lower
  · exact PySem.F.type_str_upper
  · exact PySem.F.type_str_split
  · exact PySem.F.type_list_index
  · exact PySem.F.type_str_find
theorem mtK_at (hK : P.K = X.K) {w : Wd} {M : Md} {H : Hp} (R : RepM P w M H) {m : Mt} {d : D} {v : V} (r : RelD P w d v) (h : mtK m d M) : tyV X.K (mtT m) v H := by
  unfold mtK at h
  split at h
  · rename_i e
    rw [e]
    obtain ⟨h1, h2⟩ := h
    obtain ⟨ds, hds⟩ := Option.isSome_iff_exists.mp h1
    obtain ⟨p, vs, e1, e2, _⟩ := seqL_at R r hds h2
    subst e1
    exact .inl ⟨rfl, vs, hK ▸ e2⟩
  · rename_i e
    obtain ⟨s, e1⟩ := h
    subst e1
    have r : v = .str s := r
    subst r
    show mtT m = "str"
    cases m <;> first | rfl | exact absurd rfl e
end
end DL
namespace DL
open PySem L2
/-- values of defaults -/
inductive Sc where | non | bl (b : Bool) | int (i : Int) | str (s : Str)
  deriving DecidableEq
def Sc.d : Sc → D
  | .non => .non | .bl b => .bl b | .int i => .int i | .str s => .str s
def Sc.v : Sc → V
  | .non => .non | .bl b => .bl b | .int i => .int i | .str s => .str s
inductive Tg where
  | nm (i : Nat) | tp (is : List Nat)
mutual
inductive CE where
  | var (i : Nat) | int (i : Int) | str (s : Str) | bl (b : Bool) | non
  | glob (g : Nat)
  | bin (o : Op) (a b : CE)
  | neg (a : CE) | not (a : CE)
  | and (a b : CE) | or (a b : CE)
  | cmp (c : Cp) (a b : CE)
  | chain (c1 c2 : Cp) (a b d : CE)
  | ife (c a b : CE)
  | tup (es : CEs) | lst (m : Bool) (es : CEs)
  | idx (a b : CE)
  | slc (m : Bool) (a : CE) (lo hi : CO)
  | call (f : Nat) (es : CEs)
  | blt (b : Bt) (es : CEs)
  | mth (m : Mt) (o : CE) (es : CEs)
  | comp (m : Bool) (elt : CE) (t : Tg) (it : CI) (ifs : CO) (own : List Nat)
  | dnew | dnewT
  | dlit (ks : List Str) (es : CEs)
  | dget (o k x : CE)
  | listRg (m : Bool) (a : CE)
  | fld (c : Str) (a : CE) (f : Str)
  | make (m : Bool) (n : Nat) (c : Str) (es : CEs)
  | meth (c m : Str) (n : Nat) (o : CE) (es : CEs)
  | rev (m : Bool) (a : CE)
  | calln (i n : Nat) (js : List Nat) (es : CEs)
  | callK (f j : Nat) (es : CEs) (ks : List Str) (zs : CEs) (df : List Sc)
  | makeK (m : Bool) (n : Nat) (c : Str) (j : Nat) (es : CEs) (ks : List Str) (zs : CEs) (df : List Sc)
  | methK (c m : Str) (n : Nat) (o : CE) (j : Nat) (es : CEs) (ks : List Str) (zs : CEs) (df : List Sc)
  | xis (i : Nat) (T : Str) | xfld (i : Nat) (c f : Str)
  | gin (x : Str) (kv : List (Str × Str)) (a : CE) | gidx (x : Str) (kv : List (Str × Str)) (a : CE)
inductive CEs where
  | nil | cons (e : CE) (es : CEs)
inductive CO where
  | none | some (e : CE)
inductive CI where
  | seq (e : CE) | rng1 (a : CE) | rng2 (a b : CE) | chars (e : CE)
end
mutual
inductive CS where
  | setFld (c : Str) (o : CE) (f : Str) (v : CE)
  | set (i : Nat) (e : CE) | setT (is : List Nat) (e : CE) | setIx (o i v : CE)
  | setP (is : List Nat) (es : CEs) | setTF (cf : List (Str × Str)) (os : CEs) (e : CE) | aug (i : Nat) (e : CE) | augF (c : Str) (o : CE) (f : Str) (e : CE)
  | expr (e : CE) | ret (e : CE) | retN | pass | brk | cont | never
  | raise (c : Str) (e : CE) | raiseI (c : Str) (fs : List Str) (es : CEs)
  | ifs (c : CE) (a b : CSs) | fors (t : Tg) (it : CI) (body : CSs) | enums (t : Tg) (e : CE) (body : CSs) | whil (c : CE) (body : CSs)
inductive CSs where
  | nil | cons (s : CS) (r : CSs)
end
/-- a field of an instance of class c -/
def fldD (c : Str) (f : Str) (d : D) (M : Md) (Q : QE) : Prop := match d with
  | .ref k => match M[k]? with
    | some (.ins c' fs) => c' = c ∧ match fs.lookup f with
      | some x => Q x M
      | none => False
    | _ => False
  | .obj c' ns ds => c' = c ∧ match (ns.zip ds).lookup f with
    | some x => Q x M
    | none => False
  | _ => False
/-- an instance of class c without a field m -/
def objD (c m : Str) (d : D) (M : Md) : Prop := match d with
  | .ref k => match M[k]? with
    | some (.ins c' fs) => c' = c ∧ (fs.map (·.1)).contains m = false
    | _ => False
  | .obj c' ns _ => c' = c ∧ ns.contains m = false
  | _ => False
def putFD (f : Str) (v : D) : List (Str × D) → List (Str × D)
  | [] => [(f, v)]
  | (g, x) :: r => if g = f then (g, v) :: r else (g, x) :: putFD f v r
def setFD (c : Str) (f : Str) (x d : D) (M : Md) (Q : Md → Prop) : Prop := match x with
  | .ref k => match M[k]? with
    | some (.ins c' fs) => c' = c ∧ fs.length < 1000 ∧ Q (M.set k (.ins c (putFD f d fs)))
    | _ => False
  | _ => False
/-- own exceptions: c is one of T -/
def xsub (c T : Str) : Bool := T == ("FirstwayError" : Str) || (T == ("ValueError" : Str) || c == T)
/-- the exception that an except suite holds, by its name -/
def xheld (σ : Std) (i : Nat) (e : D) (Q : Str → List Str → List D → Prop) : Prop := match σ[i]?, e with
  | some (some (.exc a od c ns ds)), .exc a' od' c' _ _ => a = a' ∧ od = od' ∧ c = c' ∧ Q c ns ds
  | _, _ => False
/-- it has fields -/
def xdct : D → Prop
  | .exc _ (some _) _ _ _ => True
  | _ => False
/-- a dict of the module, of texts: a key in it; its value -/
def ginD (kv : List (Str × Str)) (d : D) (Q : Bool → Prop) : Prop := match d with
  | .str s => Q (kv.lookup s).isSome
  | _ => False
def gidxD (kv : List (Str × Str)) (d : D) (Q : D → Prop) : Prop := match d with
  | .str s => match kv.lookup s with
    | some t => Q (.str t)
    | none => False
  | _ => False
abbrev RE := EX → Std → Md → QE → Prop
abbrev RT := EX → Std → Md → (Bool → Md → Prop) → Prop
abbrev RA := EX → Std → Md → (List D → Md → Prop) → Prop
abbrev RO := EX → Std → Md → (Option Int → Md → Prop) → Prop
/-- what is walked: its items; the changing list that must stay as it is -/
abbrev RI := EX → Std → Md → (List D → Option Nat → Md → Prop) → Prop
/-- a function made here stands at k: the nested def n -/
def isFn (M : Md) (k n : Nat) : Prop := match M[k]? with
  | some (.fn _ m _ _) => m = n
  | _ => False
/-- what the captured names hold -/
def capsD (σ : Std) : List Nat → Option (List D)
  | [] => some []
  | j :: js => match σ[j]?, capsD σ js with
    | some (some d), some ds => some (d :: ds)
    | _, _ => none
abbrev SpD := List D → Md → QE → EX → Prop
structure EndsD where
  nx : Std → Md → Prop
  rt : QE
  bk : Std → Md → Prop
  ct : Std → Md → Prop
abbrev EXS := XD → Std → Md → Prop
abbrev RS := EXS → EndsD → Std → Md → Prop
def lkOk (lk : Option Nat) (all : List D) (M : Md) : Prop := match lk with
  | none => True
  | some k => M[k]? = some (.lst all)
/-- the changing list that is walked -/
def lkOf : D → Option Nat
  | .ref k => some k
  | _ => none
def setAll : Std → List Nat → List D → Std
  | σ, i :: is, d :: ds => setAll (σ.set i (some d)) is ds
  | σ, _, _ => σ
def asgT (t : Tg) (d : D) (σ : Std) (M : Md) (Q : Std → Md → Prop) : Prop := match t with
  | .nm i => Q (σ.set i (some d)) M
  | .tp is => match d with
    | .tup ds => ds.length = is.length ∧ Q (setAll σ is ds) M
    | _ => False
def wipeD (σ : Std) : List Nat → Std
  | [] => σ
  | v :: vs => (wipeD σ vs).set v none
/-- a dict's value at a key, or another -/
def dgetD (d y z : D) (M : Md) (Q : QE) : Prop := match d with
  | .ref k => match M[k]? with
    | some (.dct kvs) => match keyD y with
      | some ky => Q ((dctVal kvs ky).getD z) M
      | none => False
    | _ => False
  | _ => False
def isDct (d : D) (M : Md) : Prop := ∃ k kvs, d = .ref k ∧ M[k]? = some (.dct kvs)
/-- texts as keys, one behind another -/
def dlitP : List Str → List D → List (Option Key × D) → List (Option Key × D)
  | k :: ks, d :: ds, acc => dlitP ks ds (dctPut acc (some (.inr k)) d)
  | _, _, acc => acc
def valT (v : RE) : RE × RT := (v, fun E σ M Q => v E σ M fun d M1 => truD d M1 fun k => Q k M1)
def tstT (t : RT) : RE × RT := (fun E σ M Q => t E σ M fun k M1 => Q (.bl k) M1, t)
/-- [elt for t in xs if ..] -/
def compD (lk : Option Nat) (all : List D) (asg : D → (Std → Md → Prop) → Md → Prop) (tst : Std → Md → (Bool → Md → Prop) → Prop) (elt : Std → Md → QE → Prop) (Q : List D → Md → Prop) : List D → List D → Md → Prop
  | [], acc, M => lkOk lk all M ∧ Q acc M
  | d :: ds, acc, M => lkOk lk all M ∧ asg d (fun σ1 M1 => tst σ1 M1 fun k M2 => if k = true then elt σ1 M2 fun y M3 => acc.length < sizeLine ∧ compD lk all asg tst elt Q ds (acc ++ [y]) M3 else compD lk all asg tst elt Q ds acc M2) M
/-- a text's characters, each a text -/
def charsD (s : Str) : List D := s.cps.toList.map fun c => D.str ⟨#[c]⟩
/-- items with their places -/
def enumD (ds : List D) : List D := ds.zipIdx.map fun p => D.tup [.int (p.2 : Nat), p.1]
/-- a tuple, walked with places -/
def enumQ (d : D) (M : Md) (QI : List D → Option Nat → Md → Prop) : Prop := match d with
  | .tup ds => QI (enumD ds) none M
  | _ => False
def rngD (a b : Int) : List D := (List.range (b - a).toNat).map fun i => D.int (a + (i : Nat))
section
variable (Φ : Nat → SpD) (κ : Nat → D)
mutual
def rd : CE → RE × RT
  | .var i => valT fun _ σ M Q => match σ[i]? with
    | some (some d) => Q d M
    | _ => False
  | .int i => valT fun _ _ M Q => Q (.int i) M
  | .str s => valT fun _ _ M Q => Q (.str s) M
  | .bl b => valT fun _ _ M Q => Q (.bl b) M
  | .non => valT fun _ _ M Q => Q .non M
  | .glob g => valT fun _ _ M Q => Q (κ g) M
  | .xis i T => valT fun _ σ M Q => xheld σ i (κ 0) fun c _ _ => Q (.bl (xsub c T)) M
  | .xfld i k f => valT fun _ σ M Q => xdct (κ 0) ∧ xheld σ i (κ 0) fun c ns ds => c = k ∧ match (ns.zip ds).lookup f with
    | some x => Q x M
    | none => False
  | .gin _ kv a => tstT fun E σ M Q => (rd a).1 E σ M fun d M1 => ginD kv d fun b => Q b M1
  | .gidx _ kv a => valT fun E σ M Q => (rd a).1 E σ M fun d M1 => gidxD kv d fun t => Q t M1
  | .bin o a b => valT fun E σ M Q => (rd a).1 E σ M fun x M1 => (rd b).1 E σ M1 fun y M2 => opD o x y M2 Q
  | .neg a => valT fun E σ M Q => (rd a).1 E σ M fun x M1 => match x with
    | .int i => Q (.int (-i)) M1
    | _ => False
  | .not a => (fun E σ M Q => (rd a).1 E σ M fun x M1 => truD x M1 fun k => Q (.bl (!k)) M1, fun E σ M Q => (rd a).2 E σ M fun k M1 => Q (!k) M1)
  | .and a b => (fun E σ M Q => (rd a).1 E σ M fun x M1 => truD x M1 fun k => if k = true then (rd b).1 E σ M1 Q else Q x M1, fun E σ M Q => (rd a).2 E σ M fun k M1 => if k = true then (rd b).2 E σ M1 Q else Q false M1)
  | .or a b => (fun E σ M Q => (rd a).1 E σ M fun x M1 => truD x M1 fun k => if k = true then Q x M1 else (rd b).1 E σ M1 Q, fun E σ M Q => (rd a).2 E σ M fun k M1 => if k = true then Q true M1 else (rd b).2 E σ M1 Q)
  | .cmp c a b => tstT fun E σ M Q => (rd a).1 E σ M fun x M1 => (rd b).1 E σ M1 fun y M2 => cpD c x y M2 fun k => Q k M2
  | .chain c1 c2 a b d => tstT fun E σ M Q => (rd a).1 E σ M fun x M1 => (rd b).1 E σ M1 fun y M2 => cpD c1 x y M2 fun k => if k = true then (rd d).1 E σ M2 fun z M3 => cpD c2 y z M3 fun k => Q k M3 else Q false M2
  | .ife c a b => (fun E σ M Q => (rd c).2 E σ M fun k M1 => if k = true then (rd a).1 E σ M1 Q else (rd b).1 E σ M1 Q, fun _ _ _ _ => False)
  | .tup es => valT fun E σ M Q => rds es E σ M fun ds M1 => ds.length ≤ sizeLine ∧ Q (.tup ds) M1
  | .lst m es => valT fun E σ M Q => rds es E σ M fun ds M1 => ds.length ≤ sizeLine ∧ if m = true then Q (.ref M1.length) (M1 ++ [.lst ds]) else Q (.lst ds) M1
  | .idx a b => valT fun E σ M Q => (rd a).1 E σ M fun x M1 => (rd b).1 E σ M1 fun y M2 => ixD x y M2 Q
  | .slc m a lo hi => valT fun E σ M Q => (rd a).1 E σ M fun x M1 => rdo lo E σ M1 fun l M2 => rdo hi E σ M2 fun h M3 => slD m x l h M3 Q
  | .call f es => valT fun E σ M Q => rds es E σ M fun ds M1 => Φ f ds M1 Q E
  | .blt b es => valT fun E σ M Q => rds es E σ M fun ds M1 => btD b ds M1 Q
  | .mth m o es => valT fun E σ M Q => (rd o).1 E σ M fun x M1 => mtK m x M1 ∧ rds es E σ M1 fun ds M2 => mtD m x ds M2 Q
  | .comp m elt t it ifs own => valT fun E σ M Q => rdi it E σ M fun ds lk M1 =>
      compD lk ds (fun d k M => asgT t d (wipeD σ own) M k) (fun σ M Q => rdt ifs (fun _ _ => False) σ M Q) (fun σ M Q => (rd elt).1 (fun _ _ => False) σ M Q) (fun acc M => if m = true then Q (.ref M.length) (M ++ [.lst acc]) else Q (.lst acc) M) ds [] M1
  | .dnew => valT fun _ _ M Q => Q (.ref M.length) (M ++ [.dct []])
  | .dnewT => valT fun _ _ M Q => Q (.ref M.length) (M ++ [.dctT []])
  | .dget o k x => valT fun E σ M Q => (rd o).1 E σ M fun d M1 => isDct d M1 ∧ (rd k).1 E σ M1 fun y M2 => (rd x).1 E σ M2 fun z M3 => dgetD d y z M3 Q
  | .dlit ks es => valT fun E σ M Q => rds es E σ (M ++ [.dct []]) fun ds M1 => M1[M.length]? = some (.dct []) ∧ Q (.ref M.length) (M1.set M.length (.dct (dlitP ks ds [])))
  | .listRg m a => valT fun E σ M Q => (rd a).1 E σ M fun d M1 => match d with
    | .int j => -(2 ^ 62) ≤ j ∧ j ≤ 16777216 ∧ if m = true then Q (.ref M1.length) (M1 ++ [.lst (rngD 0 j)]) else Q (.lst (rngD 0 j)) M1
    | _ => False
  | .fld c a f => valT fun E σ M Q => (rd a).1 E σ M fun d M1 => fldD c f d M1 Q
  | .make m n c es => valT fun E σ M Q => rds es E σ M fun ds M1 => Φ n (.ref M1.length :: ds) (M1 ++ [.ins c []]) (fun d M2 => d = .non ∧ if m = true then Q (.ref M1.length) M2 else ∃ fs, M2 = M1 ++ [.ins c fs] ∧ RLtM M1.length (.ins c fs) ∧ Q (.obj c (fs.map (·.1)) (fs.map (·.2))) M1) E
  | .rev m a => valT fun E σ M Q => (rd a).1 E σ M fun x M1 => match lstOf x M1 with
    | some ds => if m = true then Q (.ref M1.length) (M1 ++ [.lst ds.reverse]) else Q (.lst ds.reverse) M1
    | none => False
  | .calln i n js es => valT fun E σ M Q => match σ[i]?, capsD σ js with
    | some (some (.ref k)), some cs => isFn M k n ∧ rds es E σ M fun ds M1 => isFn M1 k n ∧ Φ n (.ref k :: (cs ++ ds)) M1 Q E
    | _, _ => False
  | .meth c m n o es => valT fun E σ M Q => (rd o).1 E σ M fun x M1 => objD c m x M1 ∧ rds es E σ M1 fun ds M2 => Φ n (x :: ds) M2 Q E
  | .callK f j es ks zs df => valT fun E σ M Q => rds es E σ M fun ds M1 => ds.length = j ∧ rds zs E σ M1 fun us M2 => us.length = ks.length ∧ Φ f (ds ++ (us ++ df.map Sc.d)) M2 Q E
  | .makeK m n c j es ks zs df => valT fun E σ M Q => rds es E σ M fun ds M0 => ds.length = j ∧ rds zs E σ M0 fun us M1 => us.length = ks.length ∧ Φ n (.ref M1.length :: (ds ++ (us ++ df.map Sc.d))) (M1 ++ [.ins c []]) (fun d M2 => d = .non ∧ if m = true then Q (.ref M1.length) M2 else ∃ fs, M2 = M1 ++ [.ins c fs] ∧ RLtM M1.length (.ins c fs) ∧ Q (.obj c (fs.map (·.1)) (fs.map (·.2))) M1) E
  | .methK c m n o j es ks zs df => valT fun E σ M Q => (rd o).1 E σ M fun x M1 => objD c m x M1 ∧ rds es E σ M1 fun ds M2 => ds.length = j ∧ rds zs E σ M2 fun us M3 => us.length = ks.length ∧ Φ n (x :: (ds ++ (us ++ df.map Sc.d))) M3 Q E
def rds : CEs → RA
  | .nil => fun _ _ M Q => Q [] M
  | .cons e es => fun E σ M Q => (rd e).1 E σ M fun d M1 => rds es E σ M1 fun ds M2 => Q (d :: ds) M2
def rdo : CO → RO
  | .none => fun _ _ M Q => Q none M
  | .some e => fun E σ M Q => (rd e).1 E σ M fun d M1 => match d with
    | .int i => Q (some i) M1
    | _ => False
/-- a comprehension's test -/
def rdt : CO → RT
  | .none => fun _ _ M Q => Q true M
  | .some e => (rd e).2
def rdi : CI → RI
  | .seq e => fun E σ M Q => (rd e).1 E σ M fun d M1 => match seqOf d M1 with
    | some ds => Q ds (lkOf d) M1
    | none => False
  | .chars e => fun E σ M Q => (rd e).1 E σ M fun d M1 => match d with
    | .str s => Q (charsD s) none M1
    | _ => False
  | .rng1 a => fun E σ M Q => (rd a).1 E σ M fun d M1 => match d with
    | .int j => -(2 ^ 62) ≤ j ∧ j < 2 ^ 62 ∧ Q (rngD 0 j) none M1
    | _ => False
  | .rng2 a b => fun E σ M Q => (rd a).1 E σ M fun d M1 => (rd b).1 E σ M1 fun e M2 => match d, e with
    | .int i, .int j => -(2 ^ 62) ≤ i ∧ i < 2 ^ 62 ∧ -(2 ^ 62) ≤ j ∧ j < 2 ^ 62 ∧ Q (rngD i j) none M2
    | _, _ => False
end
abbrev rE (c : CE) : RE := (rd Φ κ c).1
abbrev rT (c : CE) : RT := (rd Φ κ c).2
/-- fields set one behind another -/
def setTFd (E : EX) (σ : Std) : List (Str × Str) → CEs → List D → Md → (Md → Prop) → Prop
  | [], .nil, [], M, Q => Q M
  | (c, f) :: r, .cons o os, d :: ds, M, Q => rE Φ κ o E σ M fun x M1 => setFD c f x d M1 fun M2 => setTFd E σ r os ds M2 Q
  | _, _, _, _, _ => False
def isRef : D → Prop
  | .ref _ => True
  | _ => False
def addI (x y : D) (Q : D → Prop) : Prop := match x, y with
  | .int a, .int b => Q (.int (a + b))
  | _, _ => False
/-- a for's turns -/
def loopD (lk : Option Nat) (all : List D) (asg : D → Std → Md → (Std → Md → Prop) → Prop) (body : EndsD → Std → Md → Prop) (K : EndsD) : List D → Std → Md → Prop
  | [], σ, M => lkOk lk all M ∧ K.nx σ M
  | d :: ds, σ, M => lkOk lk all M ∧ asg d σ M fun σ1 M1 => body { nx := loopD lk all asg body K ds, rt := K.rt, bk := K.nx, ct := loopD lk all asg body K ds } σ1 M1
/-- a while, n turns at most -/
def whilD (tst : Std → Md → (Bool → Md → Prop) → Prop) (body : EndsD → Std → Md → Prop) (K : EndsD) : Nat → Std → Md → Prop
  | 0, _, _ => False
  | n + 1, σ, M => tst σ M fun k M1 => if k = true then body { nx := whilD tst body K n, rt := K.rt, bk := K.nx, ct := whilD tst body K n } σ M1 else K.nx σ M1
mutual
def rS : CS → RS
  | .setFld c o f v => fun E K σ M => rE Φ κ v (fun x => E x σ) σ M fun d M1 => rE Φ κ o (fun x => E x σ) σ M1 fun x M2 => setFD c f x d M2 fun M' => K.nx σ M'
  | .set i e => fun E K σ M => rE Φ κ e (fun x => E x σ) σ M fun d M1 => K.nx (σ.set i (some d)) M1
  | .setT is e => fun E K σ M => rE Φ κ e (fun x => E x σ) σ M fun d M1 => asgT (.tp is) d σ M1 K.nx
  | .setP is es => fun E K σ M => rds Φ κ es (fun x => E x σ) σ M fun ds M1 => ds.length = is.length ∧ K.nx (setAll σ is ds) M1
  | .setTF cf os e => fun E K σ M => rE Φ κ e (fun x => E x σ) σ M fun d M1 => match d with
    | .tup ds => ds.length = cf.length ∧ setTFd Φ κ (fun x => E x σ) σ cf os ds M1 fun M2 => K.nx σ M2
    | _ => False
  | .aug i e => fun E K σ M => match σ[i]? with
    | some (some x) => rE Φ κ e (fun x => E x σ) σ M fun y M1 => addI x y fun z => K.nx (σ.set i (some z)) M1
    | _ => False
  | .augF c o f e => fun E K σ M => rE Φ κ o (fun x => E x σ) σ M fun x M1 => isRef x ∧ fldD c f x M1 fun v M2 => rE Φ κ e (fun x => E x σ) σ M2 fun y M3 => addI v y fun z => setFD c f x z M3 fun M' => K.nx σ M'
  | .setIx o i v => fun E K σ M => rE Φ κ v (fun x => E x σ) σ M fun d M1 => rE Φ κ o (fun x => E x σ) σ M1 fun x M2 => rE Φ κ i (fun x => E x σ) σ M2 fun y M3 => match x with
    | .ref k => match M3[k]?, y with
      | some (.lst ds), .int j => match ixN ds.length j with
        | some j => K.nx σ (M3.set k (.lst (ds.set j d)))
        | none => False
      | some (.dct kvs), y => match keyD y with
        | some ky => kvs.length < sizeLine ∧ K.nx σ (M3.set k (.dct (dctPut kvs ky d)))
        | none => False
      | some (.dctT kvs), y => match tKey y with
        | some ky => kvs.length < sizeLine ∧ K.nx σ (M3.set k (.dctT (dctPutT kvs y ky d)))
        | none => False
      | _, _ => False
    | _ => False
  | .expr e => fun E K σ M => rE Φ κ e (fun x => E x σ) σ M fun _ M1 => K.nx σ M1
  | .ret e => fun E K σ M => rE Φ κ e (fun x => E x σ) σ M K.rt
  | .retN => fun _ K _ M => K.rt .non M
  | .pass => fun _ K σ M => K.nx σ M
  | .never => fun _ _ _ _ => False
  | .raise c e => fun E _ σ M => rE Φ κ e (fun x => E x σ) σ M fun _ M1 => E ⟨c, none⟩ σ M1
  | .raiseI c fs es => fun E _ σ M => rds Φ κ es (fun x => E x σ) σ M fun ds M1 => ds.length = fs.length ∧ E ⟨c, some (fs.zip ds).reverse⟩ σ M1
  | .brk => fun _ K σ M => K.bk σ M
  | .cont => fun _ K σ M => K.ct σ M
  | .ifs c a b => fun E K σ M => rT Φ κ c (fun x => E x σ) σ M fun k M1 => if k = true then rSs a E K σ M1 else rSs b E K σ M1
  | .fors t it body => fun E K σ M => rdi Φ κ it (fun x => E x σ) σ M fun ds lk M1 => loopD lk ds (asgT t) (rSs body E) K ds σ M1
  | .enums t e body => fun E K σ M => rE Φ κ e (fun x => E x σ) σ M fun d M1 => enumQ d M1 fun ds lk M2 => loopD lk ds (asgT t) (rSs body E) K ds σ M2
  | .whil c body => fun E K σ M => ∃ n, whilD (fun σ M Q => rT Φ κ c (fun x => E x σ) σ M Q) (rSs body E) K n σ M
def rSs : CSs → RS
  | .nil => fun _ K σ M => K.nx σ M
  | .cons s r => fun E K σ M => rS s E { K with nx := rSs r E K } σ M
end
end
def tgIdx : Tg → List Nat
  | .nm i => [i]
  | .tp is => is
inductive GD where
  | fn (f : Nat) | cst (g : Nat)
/-- what a law's own exceptions are -/
structure XCtx where
  hot : Bool := false
  xs : List Str := []
  xr : List Str := []
  xi : List (Str × List Str) := []
  xf : List (Str × Str) := []
  kd : List (Str × List (Str × Str)) := []
structure Ctx where
  N : List Str
  sc : Scope
  fn : Str → Bool
  G : List (Str × GD)
  B : List Str
  FL : List (Str × Str) := []
  MK : List (Str × Nat × Str) := []
  MT : List (Str × Str × Nat) := []
  KF : List (Str × Nat × Nat × List Str × List Sc) := []
  KM : List (Str × (Nat × Str) × Nat × List Str × List Sc) := []
  KT : List ((Str × Str) × Nat × Nat × List Str × List Sc) := []
  NS : List (Nat × List Nat) := []
  X : XCtx := {}
def Ctx.blk (C : Ctx) (scope : Scope) : Ctx := { C with NS := [], sc := relS scope C.sc, fn := fun x => scope.names.lookup x == some .cell }
def nodbg (x : Str) : Bool := !(x == ("__debug__" : Str)) && !(x == ("__classdict__" : Str))
def okVar (C : Ctx) (i : Nat) (x : Str) : Bool := (C.N[i]? == some x) && nodbg x && (match C.sc.names.lookup x with
  | some .local => true
  | some .cell => true
  | some .free => true
  | _ => false)
def okTgt (C : Ctx) (i : Nat) (x : Str) : Bool := (C.N[i]? == some x) && (match C.sc.names.lookup x with
  | some .local => true
  | some .cell => C.fn x
  | _ => false)
def okGlob (C : Ctx) (x : Str) : Bool := nodbg x && (C.sc.names.lookup x == some .globalImplicit)
def okBlt (C : Ctx) (n x : Str) : Bool := (x == n) && okGlob C x && C.B.contains x && !(x == ("__name__" : Str))
def okTg (C : Ctx) : Tg → Expr → Bool
  | .nm i, .Name x _ => okTgt C i x
  | .tp is, .Tuple es _ _ => !C.X.hot && go is es
  | _, _ => false
where go : List Nat → List Expr → Bool
  | [], [] => true
  | i :: is, .Name x _ :: es => okTgt C i x && go is es
  | _, _ => false
def btN : Bt → Str
  | .len => "len" | .list => "list" | .listM => "list" | .tuple => "tuple" | .max2 => "max" | .min2 => "min" | .int => "int" | .sorted => "sorted" | .sortedM => "sorted" | .sortedD => "sorted"
  | .sum => "sum" | .ord => "ord" | .str => "str" | .any => "any" | .all => "all" | .isi _ => "isinstance"
/-- what an except suite may call -/
def coolB : Bt → Bool
  | .sortedD => false | .max2 => false | .min2 => false | .sum => false | .any => false | .all => false
  | _ => true
def okBltH (C : Ctx) (b : Bt) (x : Str) : Bool := okBlt C (btN b) x && (coolB b || !C.X.hot)
def plainE : Expr → Bool
  | .Starred .. => false
  | .Slice .. => false
  | .Set .. => false
  | _ => true
def notComp : Expr → Bool
  | .ListComp .. => false
  | .SetComp .. => false
  | .DictComp .. => false
  | _ => true
def notTuple : Expr → Bool
  | .Tuple .. => false
  | _ => true
def notCallName : Expr → Bool
  | .Call (.Name _ _) [] [] _ => false
  | _ => true
mutual
def chkE (C : Ctx) : CE → Expr → Bool
  | .var i, e => match e with
    | .Name x _ => okVar C i x
    | _ => false
  | .int i, e => match e with
    | .Constant (.int j) _ _ => i == j
    | _ => false
  | .str s, e => match e with
    | .Constant (.str t) _ _ => s == t
    | _ => false
  | .bl b, e => match e with
    | .Constant (.bool c) _ _ => b == c
    | _ => false
  | .non, e => match e with
    | .Constant .none _ _ => true
    | _ => false
  | .glob g, e => match e with
    | .Name x _ => okGlob C x && (match C.G.lookup x with
      | some (.cst h) => g == h
      | _ => false)
    | _ => false
  | .bin o a b, e => match e with
    | .BinOp l p r _ => (p == opO o) && chkE C a l && chkE C b r
    | _ => false
  | .neg a, e => match e with
    | .UnaryOp .USub x _ => chkE C a x
    | _ => false
  | .not a, e => match e with
    | .UnaryOp .Not x _ => chkE C a x
    | _ => false
  | .and a b, e => match e with
    | .BoolOp .And (x :: y :: rest) pos => chkE C a x && (match rest with
      | [] => chkE C b y
      | z :: rest => chkE C b (.BoolOp .And (y :: z :: rest) pos))
    | _ => false
  | .or a b, e => match e with
    | .BoolOp .Or (x :: y :: rest) pos => chkE C a x && (match rest with
      | [] => chkE C b y
      | z :: rest => chkE C b (.BoolOp .Or (y :: z :: rest) pos))
    | _ => false
  | .cmp c a b, e => match e with
    | .Compare l [op] [r] _ => (op == cpO c) && plainE r && chkE C a l && chkE C b r
    | _ => false
  | .chain c1 c2 a b d, e => match e with
    | .Compare l [op, op2] [r, r2] _ => (op == cpO c1) && (op2 == cpO c2) && plainE r && plainE r2 && chkE C a l && chkE C b r && chkE C d r2
    | _ => false
  | .ife c a b, e => match e with
    | .IfExp x y z _ => chkE C c x && chkE C a y && chkE C b z
    | _ => false
  | .tup es, e => match e with
    | .Tuple xs _ _ => chkEs C es xs
    | _ => false
  | .lst _ es, e => match e with
    | .List xs _ => chkEs C es xs
    | _ => false
  | .idx a b, e => match e with
    | .Subscript x y _ => plainE y && chkE C a x && chkE C b y
    | _ => false
  | .slc _ a lo hi, e => match e with
    | .Subscript x (.Slice l h none _) _ => chkE C a x && chkO C lo l && chkO C hi h
    | _ => false
  | .call f es, e => match e with
    | .Call (.Name x _) ys [] _ => okGlob C x && (match C.G.lookup x with
      | some (.fn g) => f == g
      | _ => false) && chkEs C es ys
    | _ => false
  | .xis i T, e => match e with
    | .Call (.Name x _) [.Name y _, .Name z _] [] _ => C.X.hot && okBlt C "isinstance" x && okVar C i y && (z == T) && (if T == ("ValueError" : Str) then okBlt C "ValueError" z else okGlob C z && C.X.xs.contains T)
    | _ => false
  | .xfld i c f, e => match e with
    | .Attribute (.Name y _) g _ => C.X.hot && (f == g) && okVar C i y && C.X.xf.contains (c, f)
    | _ => false
  | .gin x kv a, e => match e with
    | .Compare l [.In] [.Name y _] _ => (y == x) && okGlob C y && C.X.kd.contains (x, kv) && chkE C a l
    | _ => false
  | .gidx x kv a, e => match e with
    | .Subscript (.Name y _) z _ => (y == x) && okGlob C y && C.X.kd.contains (x, kv) && plainE z && chkE C a z
    | _ => false
  | .blt (.isi T) es, e => match e with
    | .Call (.Name x _) [y, .Name z _] [] _ => okBlt C "isinstance" x && okBlt C (Str.ofString T) z && (bootBuiltins z == some (.type T)) && (match es with
      | .cons e .nil => plainE y && chkE C e y
      | _ => false)
    | _ => false
  | .blt b es, e => match e with
    | .Call (.Name x _) (y :: ys) [] _ => okBltH C b x && chkEs C es (y :: ys)
    | _ => false
  | .mth m o es, e => match e with
    | .Call (.Attribute x n ap) ys [] p => (n == mtN m) && notCallName x && (ap.endLine == p.line) && (ys.length == mtA m) && chkE C o x && chkEs C es ys
    | _ => false
  | .comp _ elt t it ifs own, e => match e with
    | .ListComp x [⟨tg, iter, fs, 0⟩] scope _ => (!C.X.hot && blkC C.N C.sc scope (own.filterMap fun i => (C.N[i]?).map fun n => (n, i))) && (own.all fun i => decide (i < C.N.length)) && (tgIdx t).all (fun i => own.contains i) && plainE iter && okTg (C.blk scope) t tg && chkI C it iter && chkE (C.blk scope) elt x && chkF (C.blk scope) ifs fs
    | _ => false
  | .dnew, e => match e with
    | .Dict [] [] _ => true
    | _ => false
  | .dnewT, e => match e with
    | .Dict [] [] _ => true
    | _ => false
  | .dget o k x, e => match e with
    | .Call (.Attribute y n ap) [a, b] [] p => (n == "get") && notCallName y && (ap.endLine == p.line) && plainE a && plainE b && chkE C o y && chkE C k a && chkE C x b
    | _ => false
  | .dlit ks es, e => match e with
    | .Dict keys vs _ => !ks.isEmpty && decide (ks.length ≤ 15) && chkDs C ks es keys vs
    | _ => false
  | .fld c a f, e => match e with
    | .Attribute x g _ => (f == g) && C.FL.contains (c, f) && notCallName x && chkE C a x
    | _ => false
  | .make _ n c es, e => match e with
    | .Call (.Name x _) ys [] _ => okGlob C x && C.MK.contains (x, n, c) && chkEs C es ys
    | _ => false
  | .rev _ a, e => match e with
    | .Subscript x (.Slice none none (some (.UnaryOp .USub (.Constant (.int 1) _ _) _)) _) _ => chkE C a x
    | _ => false
  | .meth c m n o es, e => match e with
    | .Call (.Attribute x g ap) ys [] p => (g == m) && notCallName x && (ap.endLine == p.line) && decide (ys.length < 30) && C.MT.contains (c, m, n) && chkE C o x && chkEs C es ys
    | _ => false
  | .callK f j es ks zs df, e => match e with
    | .Call (.Name x _) (y :: ys) kws _ => okGlob C x && (j == ys.length + 1) && C.KF.contains (x, f, j, ks, df) && chkEs C es (y :: ys) && chkKs C ks zs kws
    | _ => false
  | .makeK _ n c j es ks zs df, e => match e with
    | .Call (.Name x _) (y :: ys) kws _ => okGlob C x && (j == ys.length + 1) && C.KM.contains (x, (n, c), j, ks, df) && chkEs C es (y :: ys) && chkKs C ks zs kws
    | _ => false
  | .methK c m n o j es ks zs df, e => match e with
    | .Call (.Attribute x g ap) (y :: ys) kws p => (g == m) && notCallName x && (ap.endLine == p.line) && decide (ys.length + kws.length < 20) && (j == ys.length + 1) && C.KT.contains ((c, m), n, j, ks, df) && chkE C o x && chkEs C es (y :: ys) && chkKs C ks zs kws
    | _ => false
  | .calln i n js es, e => match e with
    | .Call (.Name x _) (y :: ys) [] _ => okVar C i x && C.NS.contains (n, js) && chkEs C es (y :: ys)
    | _ => false
  | .listRg _ a, e => match e with
    | .Call (.Name x _) [.Call (.Name y _) [z] [] _] [] _ => okBlt C "list" x && okBlt C "range" y && (plainE z && !C.X.hot) && chkE C a z
    | _ => false
def chkEs (C : Ctx) : CEs → List Expr → Bool
  | .nil, es => match es with
    | [] => true
    | _ => false
  | .cons c cs, es => match es with
    | e :: es => plainE e && chkE C c e && chkEs C cs es
    | _ => false
/-- keywords by name -/
def chkKs (C : Ctx) (ks : List Str) : CEs → List Keyword → Bool
  | .nil, kws => match ks, kws with
    | [], [] => true
    | _, _ => false
  | .cons z zs, kws => match ks, kws with
    | k :: ks, ⟨some k', e, _⟩ :: r => (k == k') && chkE C z e && chkKs C ks zs r
    | _, _ => false
/-- a display's pairs -/
def chkDs (C : Ctx) (ks : List Str) : CEs → List (Option Expr) → List Expr → Bool
  | .nil, keys, vs => match ks, keys, vs with
    | [], [], [] => true
    | _, _, _ => false
  | .cons z zs, keys, vs => match ks, keys, vs with
    | k :: ks, some (.Constant (.str t) _ _) :: keys, v :: vs => (k == t) && chkE C z v && chkDs C ks zs keys vs
    | _, _, _ => false
def chkO (C : Ctx) : CO → Option Expr → Bool
  | .none, e => match e with
    | none => true
    | _ => false
  | .some c, e => match e with
    | some e => chkE C c e
    | _ => false
def chkF (C : Ctx) : CO → List Expr → Bool
  | .none, e => match e with
    | [] => true
    | _ => false
  | .some c, e => match e with
    | [e] => chkE C c e
    | _ => false
def chkI (C : Ctx) : CI → Expr → Bool
  | .seq c, e => plainE e && chkE C c e
  | .chars c, e => plainE e && chkE C c e
  | .rng1 c, e => match e with
    | .Call (.Name x _) [a] [] _ => okBlt C "range" x && plainE a && chkE C c a
    | _ => false
  | .rng2 c d, e => match e with
    | .Call (.Name x _) [a, b] [] _ => okBlt C "range" x && plainE a && plainE b && chkE C c a && chkE C d b
    | _ => false
end
def okLoc (C : Ctx) (i : Nat) (x : Str) : Bool := (C.N[i]? == some x) && (C.sc.names.lookup x == some .local) && !C.X.hot
def parOk (vs : List Expr) : Bool := vs.all plainE && !(vs.all (foldedForSure 8)) && !(vs.all (constantsAlone 8))
def manyTuple : Expr → Bool
  | .Tuple es _ _ => decide (3 < es.length)
  | _ => true
/-- several fields -/
def chkTF (C : Ctx) : List (Str × Str) → CEs → List Expr → Bool
  | [], .nil, [] => true
  | (c, f) :: r, .cons o os, .Attribute a g _ :: es => (f == g) && C.FL.contains (c, f) && chkE C o a && chkTF C r os es
  | _, _, _ => false
/-- name = [..], stored by the comprehension's own end -/
def lcSwap (C : Ctx) (x : Str) (px : Pos) (e : Expr) : Bool := match e with
  | .ListComp _ _ scope pos => (C.sc.names.lookup x == some .local) && (px.line == pos.line) && !(scope.names.any fun (n, k) => n == x && (k == .local || k == .cell))
  | _ => false
mutual
def chkS (C : Ctx) : CS → Stmt → Bool
  | .setFld c o f v, s => match s with
    | .Assign [.Attribute a g _] e _ => (f == g) && C.FL.contains (c, f) && chkE C o a && chkE C v e
    | _ => false
  | .set i c, s => match s with
    | .Assign [.Name x px] e pos => okTgt C i x && chkE C c e && (notComp e || lcSwap C x px e || (C.sc.names.lookup x == some .cell))
    | _ => false
  | .setT is c, s => match s with
    | .Assign [tg] e _ => okTg C (.tp is) tg && chkE C c e && manyTuple e
    | _ => false
  | .setP is es, s => match s with
    | .Assign [.Tuple [.Name x px, .Name y py] _ _] (.Tuple [a, b] _ _) _ => (match is with
      | [i, j] => okLoc C i x && okLoc C j y && decide (i ≠ j) && !(x == y) && (py.line == px.line) && parOk [a, b] && chkEs C es [a, b]
      | _ => false)
    | .Assign [.Tuple [.Name x px, .Name y py, .Name z pz] _ _] (.Tuple [a, b, c] _ _) _ => (match is with
      | [i, j, k] => okLoc C i x && okLoc C j y && okLoc C k z && decide (i ≠ j) && decide (i ≠ k) && decide (j ≠ k) && !(x == y) && !(x == z) && !(y == z) && (py.line == px.line) && (pz.line == px.line) && parOk [a, b, c] && chkEs C es [a, b, c]
      | _ => false)
    | _ => false
  | .setTF cf os e, s => match s with
    | .Assign [.Tuple ts _ _] v _ => chkTF C cf os ts && chkE C e v && (notTuple v && !C.X.hot)
    | _ => false
  | .aug i e, s => match s with
    | .AugAssign (.Name x _) .Add v _ => okTgt C i x && chkE C e v
    | _ => false
  | .augF c o f e, s => match s with
    | .AugAssign (.Attribute a g _) .Add v _ => (f == g) && C.FL.contains (c, f) && chkE C o a && chkE C e v
    | _ => false
  | .setIx o i v, s => match s with
    | .Assign [.Subscript a b _] e _ => plainE b && chkE C o a && chkE C i b && chkE C v e
    | _ => false
  | .expr c, s => match s with
    | .Expr e _ => notComp e && chkE C c e
    | _ => false
  | .ret c, s => match s with
    | .Return (some e) _ => chkE C c e
    | _ => false
  | .retN, s => match s with
    | .Return none _ => true
    | _ => false
  | .pass, s => match s with
    | .Pass _ => true
    | _ => false
  | .never, _ => true
  | .raise c e, s => match s with
    | .Raise (some (.Call (.Name x _) [y] [] _)) none _ => !C.X.hot && (x == c) && okGlob C x && C.X.xr.contains c && plainE y && chkE C e y
    | _ => false
  | .raiseI c fs es, s => match s with
    | .Raise (some (.Call (.Name x _) (y :: ys) [] _)) none _ => !C.X.hot && (x == c) && okGlob C x && (C.X.xi.contains (c, fs) && decide (fs.length ≤ 100)) && chkEs C es (y :: ys)
    | _ => false
  | .brk, s => match s with
    | .Break _ => true
    | _ => false
  | .cont, s => match s with
    | .Continue _ => true
    | _ => false
  | .ifs c a b, s => match s with
    | .If e x y _ => chkE C c e && chkSs C a x && chkSs C b y
    | _ => false
  | .fors t it body, s => match s with
    | .For tg iter x [] _ => okTg C t tg && (plainE iter && !C.X.hot) && chkI C it iter && chkSs C body x
    | _ => false
  | .enums t c body, s => match s with
    | .For (.Tuple es k p2) (.Call (.Name x p) [a] [] pos) y [] _ => okTg C t (.Tuple es k p2) && plainE (.Call (.Name x p) [a] [] pos) && okBlt C "enumerate" x && (plainE a && !C.X.hot) && chkE C c a && chkSs C body y
    | _ => false
  | .whil c body, s => match s with
    | .While e x [] _ => chkE C c e && chkSs C body x
    | _ => false
def chkSs (C : Ctx) : CSs → List Stmt → Bool
  | .nil, s => match s with
    | [] => true
    | _ => false
  | .cons c cs, s => match s with
    | s :: ss => chkS C c s && chkSs C cs ss
    | _ => false
end
end DL
namespace DL
open PySem L2
abbrev Vals := L2.Vals
section
variable {X : Cx}
theorem peI {e : Expr} {t t' : TE} (h : PE X e t) (i : ∀ σ H Q, t' σ H Q → t σ H Q) : PE X e t' := ⟨fun pins s σ H Q I q => h.run pins s σ H Q I (i σ H Q q)⟩
theorem ptI {e : Expr} {t t' : TT} (h : PT X e t) (i : ∀ σ H Q, t' σ H Q → t σ H Q) : PT X e t' := ⟨fun pins s σ H Q I q => h.run pins s σ H Q I (i σ H Q q)⟩
theorem pwI {e : Expr} {t t' : TT} (h : PW X e t) (i : ∀ σ H Q, t' σ H Q → t σ H Q) : PW X e t' := ⟨fun wh pins s σ H Q I q => h.run wh pins s σ H Q I (i σ H Q q)⟩
theorem paI {e : List Expr} {t t' : TA} (h : PA X e t) (i : ∀ σ H Q, t' σ H Q → t σ H Q) : PA X e t' := ⟨fun pos pins s σ H Q I q => h.run pos pins s σ H Q I (i σ H Q q)⟩
theorem psI {e : Stmt} {t t' : TS} (h : PS X e t) (i : ∀ K σ H, t' K σ H → t K σ H) : PS X e t' := ⟨fun pins s σ H K I q => h.run pins s σ H K I (i K σ H q)⟩
theorem pssI {e : List Stmt} {t t' : TS} (h : PSs X e t) (i : ∀ K σ H, t' K σ H → t K σ H) : PSs X e t' := ⟨fun pins s σ H K I q => h.run pins s σ H K I (i K σ H q)⟩
theorem pgI {e : Expr} {t t' : TG} (h : PG X e t) (i : ∀ v σ H Q, t' v σ H Q → t v σ H Q) : PG X e t' := ⟨fun pins s σ H v u Q I r q => h.run pins s σ H v u Q I r (i v σ H Q q)⟩
theorem piI {tg e : Expr} {t t' : TI} (h : PI X tg e t) (i : ∀ σ H Q, t' σ H Q → t σ H Q) : PI X tg e t' := ⟨fun pins s σ H Q I q => h.run pins s σ H Q I (i σ H Q q)⟩
theorem poI {e : Option Expr} {t t' : TO} (h : PO X e t) (i : ∀ σ H Q, t' σ H Q → t σ H Q) : PO X e t' := ⟨fun pins s σ H Q I q => h.run pins s σ H Q I (i σ H Q q)⟩
end
def RelX (P : Pm) (w : Wd) (x : XD) (cls : Value) (dd : Option Addr) (H : Hp) : Prop :=
  cls = .ref (P.cls x.cls) ∧ ((x.fs = none ∧ dd = none) ∨ ∃ fs a us, x.fs = some fs ∧ dd = some a ∧ w.F a = some (.xd us) ∧ RelKs P w fs us)
def LkX (P : Pm) (w : Wd) (H : Hp) (Ed : EX) (E : XK) : Prop := ∀ w' M' H' x cls dd, Step w H w' H' → RepM P w' M' H' → RelX P w' x cls dd H' → Ed x M' → E cls dd H'
theorem LkX.on {P : Pm} {w w' : Wd} {H H' : Hp} {Ed : EX} {E : XK} (l : LkX P w H Ed E) (s : Step w H w' H') : LkX P w' H' Ed E := fun w2 M2 H2 x cls dd s2 R r q => l w2 M2 H2 x cls dd (s.trans s2) R r q
theorem Lk.on {P : Pm} {w w' : Wd} {H H' : Hp} {Qd : QE} {Q : VK} (l : Lk P w H Qd Q) (s : Step w H w' H') : Lk P w' H' Qd Q := fun w2 M2 H2 d v s2 R r q => l w2 M2 H2 d v (s.trans s2) R r q
def liE (P : Pm) (W : WX) (t : RE) : TE := fun σ H Q => ∃ w M sd Qd Ed, RepM P w M H ∧ RelSt P w sd σ ∧ Lk P w H Qd Q ∧ LkX P w H Ed (WE W σ) ∧ t Ed sd M Qd
def LkT (P : Pm) (w : Wd) (H : Hp) (Qd : Bool → Md → Prop) (Q : Bool → Hp → Prop) : Prop := ∀ w' M' H' b, Step w H w' H' → RepM P w' M' H' → Qd b M' → Q b H'
def liT (P : Pm) (W : WX) (t : RT) : TT := fun σ H Q => ∃ w M sd Qd Ed, RepM P w M H ∧ RelSt P w sd σ ∧ LkT P w H Qd Q ∧ LkX P w H Ed (WE W σ) ∧ t Ed sd M Qd
def LkA (P : Pm) (w : Wd) (H : Hp) (Qd : List D → Md → Prop) (Q : List V → Hp → Prop) : Prop := ∀ w' M' H' ds vs, Step w H w' H' → RepM P w' M' H' → RelDs P w' ds vs → Qd ds M' → Q vs H'
def liA (P : Pm) (W : WX) (t : RA) : TA := fun σ H Q => ∃ w M sd Qd Ed, RepM P w M H ∧ RelSt P w sd σ ∧ LkA P w H Qd Q ∧ LkX P w H Ed (WE W σ) ∧ t Ed sd M Qd
def LkO (P : Pm) (w : Wd) (H : Hp) (Qd : Option Int → Md → Prop) (Q : Option Int → Hp → Prop) : Prop := ∀ w' M' H' o, Step w H w' H' → RepM P w' M' H' → Qd o M' → Q o H'
def liO (P : Pm) (W : WX) (t : RO) : TO := fun σ H Q => ∃ w M sd Qd Ed, RepM P w M H ∧ RelSt P w sd σ ∧ LkO P w H Qd Q ∧ LkX P w H Ed (WE W σ) ∧ t Ed sd M Qd
def LkSt (P : Pm) (w : Wd) (H : Hp) (Qd : Std → Md → Prop) (Q : L2.St → Hp → Prop) : Prop := ∀ w' M' H' sd σ, Step w H w' H' → RepM P w' M' H' → RelSt P w' sd σ → Qd sd M' → Q σ H'
theorem LkSt.on {P : Pm} {w w' : Wd} {H H' : Hp} {Qd : Std → Md → Prop} {Q : L2.St → Hp → Prop} (l : LkSt P w H Qd Q) (s : Step w H w' H') : LkSt P w' H' Qd Q := fun w2 M2 H2 sd σ s2 R r q => l w2 M2 H2 sd σ (s.trans s2) R r q
def LkXS (P : Pm) (w : Wd) (H : Hp) (Ed : EXS) (W : WX) : Prop := ∀ w' M' H' sd σ x cls dd, Step w H w' H' → RepM P w' M' H' → RelSt P w' sd σ → RelX P w' x cls dd H' → Ed x sd M' → W cls dd σ H'
theorem LkXS.on {P : Pm} {w w' : Wd} {H H' : Hp} {Ed : EXS} {W : WX} (l : LkXS P w H Ed W) (s : Step w H w' H') : LkXS P w' H' Ed W := fun w2 M2 H2 sd σ x cls dd s2 R rs r q => l w2 M2 H2 sd σ x cls dd (s.trans s2) R rs r q
theorem LkXS.at {P : Pm} {w : Wd} {H : Hp} {Ed : EXS} {W : WX} (l : LkXS P w H Ed W) {sd : Std} {σ : L2.St} (rs : RelSt P w sd σ) : LkX P w H (fun x => Ed x sd) (WE W σ) := fun w2 M2 H2 x cls dd s2 R r q => l w2 M2 H2 sd σ x cls dd s2 R (rs.mono s2.le) r q
structure LkK (P : Pm) (w : Wd) (H : Hp) (Kd : EndsD) (K : Ends) : Prop where
  nx : LkSt P w H Kd.nx K.nx
  rt : Lk P w H Kd.rt K.rt
  bk : LkSt P w H Kd.bk K.bk
  ct : LkSt P w H Kd.ct K.ct
theorem LkK.on {P : Pm} {w w' : Wd} {H H' : Hp} {Kd : EndsD} {K : Ends} (l : LkK P w H Kd K) (s : Step w H w' H') : LkK P w' H' Kd K := ⟨l.nx.on s, l.rt.on s, l.bk.on s, l.ct.on s⟩
def liS (P : Pm) (W : WX) (t : RS) : TS := fun K σ H => ∃ w M sd Kd Ed, RepM P w M H ∧ RelSt P w sd σ ∧ LkK P w H Kd K ∧ LkXS P w H Ed W ∧ t Ed Kd sd M
def liG (P : Pm) (t : D → Std → Md → (Std → Md → Prop) → Prop) : TG := fun v σ H Q => ∃ w M sd d Qd, RepM P w M H ∧ RelSt P w sd σ ∧ RelD P w d v ∧ LkSt P w H Qd Q ∧ t d sd M Qd
/-- what is walked below: a list or a tuple, or a range -/
inductive ItOk (P : Pm) (K : PySem.W.Frag) (w : Wd) (H : Hp) (ds : List D) (lk : Option Nat) : It → Prop
  | lst {a : Addr} : (∀ w' M' H', Step w H w' H' → RepM P w' M' H' → lkOk lk ds M' → ∃ vs, SqL K H' a vs ∧ RelDs P w' ds vs) → ItOk P K w H ds lk (Itl K a)
  | tup {a : Addr} : (∀ w' M' H', Step w H w' H' → RepM P w' M' H' → lkOk lk ds M' → ∃ vs, SqT K H' a vs ∧ RelDs P w' ds vs) → ItOk P K w H ds lk (Itt K a)
  | chr {s : Str} : ds = charsD s → ItOk P K w H ds lk (Its s)
  | enm {a : Addr} {es : List D} : (∀ w' M' H', Step w H w' H' → RepM P w' M' H' → ∃ vs, SqT K H' a vs ∧ RelDs P w' es vs) → ds = enumD es → ItOk P K w H ds lk (IteT K a)
  | rng {i j : Int} : ds = rngD i j → ItOk P K w H ds lk (Itr i (j - i).toNat)
def LkI (P : Pm) (K : PySem.W.Frag) (w : Wd) (H : Hp) (Qd : List D → Option Nat → Md → Prop) (Q : It → Hp → Prop) : Prop := ∀ w' M' H' ds lk J, Step w H w' H' → RepM P w' M' H' → ItOk P K w' H' ds lk J → Qd ds lk M' → Q J H'
def liI (P : Pm) (K : PySem.W.Frag) (W : WX) (t : RI) : TI := fun σ H Q => ∃ w M sd Qd Ed, RepM P w M H ∧ RelSt P w sd σ ∧ LkI P K w H Qd Q ∧ LkX P w H Ed (WE W σ) ∧ t Ed sd M Qd
/-- a def's promise below -/
def liSp (P : Pm) (s : SpD) : Sp := fun vs H Q E => ∃ w M ds Qd Ed, RepM P w M H ∧ RelDs P w ds vs ∧ Lk P w H Qd Q ∧ LkX P w H Ed E ∧ s ds M Qd Ed
/-- what an own exception class says to isinstance, to its fields' readers -/
structure ExcN (K : PySem.W.Frag) (C : Addr) : Prop where
  cl : (PySem.W.clsIn K C).isSome = true
  ga : PySem.W.findIn K (.ref C) "__getattribute__" = some (some (.builtin "BaseException.__getattribute__"))
  gt : PySem.W.findIn K (.ref C) "__getattr__" = some none
  sb : PySem.W.subIn K (.ref C) (.type "BaseException") = some true
  ca : PySem.W.findIn K (.ref C) "__class__" = some (some (.builtin "object.__class__"))
  gs : PySem.W.specialIn K (.builtin "object.__class__") "__get__" = some (some (.builtin "getset_descriptor.__get__"))
  tk : PySem.W.takesIn K (.builtin "object.__class__") = some true
  mr : PySem.W.mroIn K C (.type "object") = some true
  hd : PySem.W.hasDictIn K C = true
/-- what it says to raise, no __init__ of its own -/
structure RaisN (K : PySem.W.Frag) (C : Addr) : Prop where
  ex : PySem.W.excIn K C He.veBase "ValueError.__new__" = true
  kp : PySem.W.keepIn K (.ref C) = true
  sb : PySem.W.subIn K (.ref C) (.type "BaseException") = some true
  ty : PySem.W.typeIn K (.ref C) = some (.type "type")
/-- an __init__ that stores its arguments as fields, one behind another -/
def initSp (C : Addr) (fs : List Str) : L2.Sp := fun vs H Q _ => ∃ a ws, vs = .ref a :: ws ∧ ws.length = fs.length ∧ H a = some (exo a C none) ∧
  ∀ d H', H d = none → d ≠ a → H' a = some (exo a C (some d)) → H' d = some (exd d (fs.zip ws).reverse) → (∀ b, b ≠ a → b ≠ d → H' b = H b) → Q .non H'
/-- what a dict of the module holds: texts by texts -/
def TabV (K : PySem.W.Frag) (a : Addr) (kv : List (Str × Str)) : Prop := ∀ z, match kv.lookup z with
  | some t => ∃ u, PySem.W.nsIn K a z = some (some u) ∧ RelV (.str t) u
  | none => PySem.W.nsIn K a z = some none
structure EnvOk (X : Cx) (P : Pm) (C : Ctx) (Φ : Nat → SpD) (κ : Nat → D) : Prop where
  K : P.K = X.K
  pg : P.pg = X.prog
  wl : P.wl = X.w
  calm : C.X.hot = false → X.calm = true
  N : X.N = C.N
  nd : C.N.Nodup
  sc : X.env.scope = C.sc
  fn : ∀ x, C.fn x = true → X.fn x = true
  hu : X.A.units + 65 < cLine
  fun_ : ∀ x f, C.G.lookup x = some (.fn f) → ∃ k a fd ps, X.mg x = some (.ref a) ∧ PySem.W.keepIn X.K (.ref a) = true ∧ FnOk X.prog X.w X.K X.mg X.base (L2.CX X.prog X.w) k a fd ps (liSp P (Φ f)) ∧ Room k X.A ∧ Binds X.K fd ps []
  cst : ∀ x g, C.G.lookup x = some (.cst g) → ∃ u v, X.mg x = some u ∧ RelV v u ∧ ∀ w, RelD P w (κ g) v
  blt : ∀ x ∈ C.B, X.mg x = none
  fl : ∀ q ∈ C.FL, Cls X.K (P.cls q.1) ∧ NoAttr X.K (P.cls q.1) q.2
  mkr : ∀ q ∈ C.MK, ∃ k f fd ps, X.mg q.1 = some (.ref (P.cls q.2.2)) ∧ Mk X.K (P.cls q.2.2) f ∧ FnOk X.prog X.w X.K X.mg X.base (L2.CX X.prog X.w) k f fd ps (liSp P (Φ q.2.1)) ∧ Room (k + 1) X.A ∧ Binds X.K fd ps []
  mt : ∀ q ∈ C.MT, ∃ k f fd ps, Cls X.K (P.cls q.1) ∧ Meth X.K (P.cls q.1) q.2.1 f ∧ FnOk X.prog X.w X.K X.mg X.base (L2.CX X.prog X.w) k f fd ps (liSp P (Φ q.2.2)) ∧ Room k X.A ∧ Binds X.K fd ps []
  kf : ∀ q ∈ C.KF, ∃ k a fd ps g, X.mg q.1 = some (.ref a) ∧ PySem.W.keepIn X.K (.ref a) = true ∧ FnOk X.prog X.w X.K X.mg X.base (L2.CX X.prog X.w) k a fd ps (liSp P (Φ q.2.1)) ∧ Room k X.A ∧ KBn X.K fd ps q.2.2.1 q.2.2.2.1 g (fun vs zs => vs ++ (zs ++ q.2.2.2.2.map Sc.v))
  km : ∀ q ∈ C.KM, ∃ k f fd ps g, X.mg q.1 = some (.ref (P.cls q.2.1.2)) ∧ Mk X.K (P.cls q.2.1.2) f ∧ FnOk X.prog X.w X.K X.mg X.base (L2.CX X.prog X.w) k f fd ps (liSp P (Φ q.2.1.1)) ∧ Room (k + 1) X.A ∧ KBn X.K fd ps (q.2.2.1 + 1) q.2.2.2.1 g (fun vs zs => vs ++ (zs ++ q.2.2.2.2.map Sc.v))
  kt : ∀ q ∈ C.KT, ∃ k f fd ps g, Cls X.K (P.cls q.1.1) ∧ Meth X.K (P.cls q.1.1) q.1.2 f ∧ FnOk X.prog X.w X.K X.mg X.base (L2.CX X.prog X.w) k f fd ps (liSp P (Φ q.2.1)) ∧ Room k X.A ∧ KBn X.K fd ps (q.2.2.1 + 1) q.2.2.2.1 g (fun vs zs => vs ++ (zs ++ q.2.2.2.2.map Sc.v))
  xs : ∀ T ∈ C.X.xs, X.mg T = some (.ref (P.cls T)) ∧ ExcN X.K (P.cls T) ∧ PySem.W.kitOne X.K (.ref (P.cls T)) (.type "ValueError") = some true ∧ ∀ c ∈ C.X.xs, PySem.W.kitOne X.K (.ref (P.cls c)) (.ref (P.cls T)) = some (xsub c T) ∧ PySem.W.exmOne X.K (.ref (P.cls c)) (.ref (P.cls T)) = some (xsub c T)
  xr : ∀ c ∈ C.X.xr, X.mg c = some (.ref (P.cls c)) ∧ RaisN X.K (P.cls c)
  xi : ∀ q ∈ C.X.xi, X.mg q.1 = some (.ref (P.cls q.1)) ∧ OexC X.K (P.cls q.1) ∧ ∃ k f fd, PySem.W.findIn X.K (.ref (P.cls q.1)) "__init__" = some (some (.ref f)) ∧ PySem.W.typeIn X.K (.ref f) = some (.type "function") ∧ FnOk X.prog X.w X.K X.mg X.base (L2.CX X.prog X.w) k f fd ("self" :: q.2) (initSp (P.cls q.1) q.2) ∧ Room (k + 1) X.A ∧ Binds X.K fd ("self" :: q.2) []
  xf : ∀ q ∈ C.X.xf, q.1 ∈ C.X.xs ∧ PySem.W.findIn X.K (.ref (P.cls q.1)) q.2 = some none
  kd : ∀ q ∈ C.X.kd, ∃ a es n, X.mg q.1 = some (.ref a) ∧ KDict X.K X.w a es n ∧ TabV X.K a q.2
  hx : C.X.hot = true → ∃ a od c ns ds oe, κ 0 = .exc a od c ns ds ∧ c ∈ C.X.xs ∧ (a, oe) ∈ X.pn ∧ Zc (.ref (P.cls c)) od oe ∧ ∃ vs, oe.data = .fields vs
  nst : ∀ n ∈ C.NS, ∀ (cvs : List V) (E : XK) (pins : List (Addr × Obj)) (σ : L2.St) (H : Hp) (s : Shared) (us : List Value) (vs : List V) (p : Addr) (Q : VK), PassesAt (L2.CX X.prog X.w) X σ E → Inv X pins σ H s → L2.Vals vs us → n.2.map (NdefX.slotAt σ) = cvs.map some → liSp P (Φ n.1) (.ref p :: (cvs ++ vs)) H Q E → wpAny (model X.prog X.w) X.A (call (.ref p) us) (EP X pins σ Q) X.xe s
section
variable {X : Cx} {P : Pm} {C : Ctx} {Φ : Nat → SpD} {κ : Nat → D} {W : WX}
/-- an expression's value as a test -/
theorem pt_of {e : Expr} {t : RE} (O : EnvOk X P C Φ κ) (h : PE X e (liE P W t)) (he : ∀ whole, isTrue e X.env whole = (do let v ← whole; standAt e.pos; holding [v] (truthy v))) : PT X e (liT P W (valT t).2) := by
  refine ptI (pt_truth h he) fun σ H Q q => ?_
  obtain ⟨w, M, sd, Qd, Ed, R, rs, l, lx, q⟩ := q
  refine ⟨w, M, sd, _, Ed, R, rs, fun w' M' H' d v s R' r q => ?_, lx, q⟩
  obtain ⟨k, h1, h2⟩ := truD_at R' r q
  exact ⟨k, O.K ▸ h1, l w' M' H' k s R' h2⟩
theorem liE_bind {a : RE} {f : D → Md → QE → Prop} {r : V → Hp → VK → Prop} (hf : ∀ {w M H d v Qd Q}, RepM P w M H → RelD P w d v → Lk P w H Qd Q → f d M Qd → r v H Q) :
    ∀ σ H Q, liE P W (fun E σ M Q => a E σ M fun d M1 => f d M1 Q) σ H Q → liE P W a σ H fun x H1 => r x H1 Q := fun σ H Q q => by
  obtain ⟨w, M, sd, Qd, Ed, R, rs, l, lx, q⟩ := q
  exact ⟨w, M, sd, _, Ed, R, rs, fun w' M' H' d v s R' r q => hf R' r (l.on s) q, lx, q⟩
/-- two expressions, then an operation -/
theorem liE_op {a b : RE} {o : O2} : ∀ σ H Q, liE P W (fun E σ M Q => a E σ M fun x M1 => b E σ M1 fun y M2 => o x y M2 Q) σ H Q → tOp (liO2 P o) (liE P W a) (liE P W b) σ H Q := fun σ H Q q => by
  obtain ⟨w, M, sd, Qd, Ed, R, rs, l, lx, q⟩ := q
  refine ⟨w, M, sd, _, Ed, R, rs, fun w1 M1 H1 d v s R1 r q => ?_, lx, q⟩
  refine ⟨w1, M1, sd, _, Ed, R1, rs.mono s.le, fun w2 M2 H2 d2 v2 s2 R2 r2 q => ?_, lx.on s, q⟩
  exact ⟨w2, M2, d, d2, Qd, R2, r.mono s2.le, r2, (l.on s).on s2, q⟩
theorem liT_op {a b : RE} {c : Cp} : ∀ σ H Q, liT P W (fun E σ M Q => a E σ M fun x M1 => b E σ M1 fun y M2 => cpD c x y M2 fun k => Q k M2) σ H Q → tTest (tOp (liO2 P (cpR c)) (liE P W a) (liE P W b)) σ H Q := fun σ H Q q => by
  obtain ⟨w, M, sd, Qd, Ed, R, rs, l, lx, q⟩ := q
  refine ⟨w, M, sd, _, Ed, R, rs, fun w1 M1 H1 d v s R1 r q => ?_, lx, q⟩
  refine ⟨w1, M1, sd, _, Ed, R1, rs.mono s.le, fun w2 M2 H2 d2 v2 s2 R2 r2 q => ?_, lx.on s, q⟩
  refine ⟨w2, M2, d, d2, fun x M => ∃ k, x = .bl k ∧ Qd k M, R2, r.mono s2.le, r2, fun w3 M3 H3 d3 v3 s3 R3 r3 q => ?_, ?_⟩
  · obtain ⟨k, e, q⟩ := q
    subst e
    have r3 : v3 = .bl k := r3
    exact ⟨k, r3, l w3 M3 H3 k ((s.trans s2).trans s3) R3 q⟩
  · show cpD c d d2 M2 fun b => ∃ k, D.bl b = .bl k ∧ Qd k M2
    have e : (fun b => ∃ k, D.bl b = .bl k ∧ Qd k M2) = fun k => Qd k M2 := by
      funext b
      refine propext ⟨fun ⟨k, e, q⟩ => ?_, fun q => ⟨b, rfl, q⟩⟩
      cases e
      exact q
    rw [e]; exact q
theorem vis_of {i : Nat} {x : Str} (O : EnvOk X P C Φ κ) (h : okVar C i x = true) : X.N[i]? = some x ∧ Vis X.env.scope x ∧ (x == ("__debug__" : Str)) = false ∧ (x == ("__classdict__" : Str)) = false := by
  unfold okVar nodbg at h
  simp only [Bool.and_eq_true, Bool.not_eq_true', beq_iff_eq] at h
  obtain ⟨⟨h1, h2, h3⟩, h4⟩ := h
  refine ⟨by rw [O.N]; exact h1, ?_, h2, h3⟩
  unfold Vis
  rw [O.sc]
  split at h4
  · rename_i e; exact .inl e
  · rename_i e; exact .inr (.inl e)
  · rename_i e; exact .inr (.inr e)
  · cases h4
theorem glob_of {x : Str} (O : EnvOk X P C Φ κ) (h : okGlob C x = true) : Gl X x ∧ (x == ("__debug__" : Str)) = false := by
  unfold okGlob nodbg at h
  simp only [Bool.and_eq_true, Bool.not_eq_true', beq_iff_eq] at h
  refine ⟨?_, h.1.1⟩
  show X.env.scope.names.lookup x = _
  rw [O.sc]
  exact h.2
theorem blt_of {n x : Str} (O : EnvOk X P C Φ κ) (h : okBlt C n x = true) : x = n ∧ Gl X x ∧ (x == ("__debug__" : Str)) = false ∧ X.mg x = none ∧ x ≠ "__name__" := by
  unfold okBlt at h
  simp only [Bool.and_eq_true, beq_iff_eq, Bool.not_eq_true'] at h
  obtain ⟨⟨⟨h1, h2⟩, h3⟩, h4⟩ := h
  obtain ⟨g1, g2⟩ := glob_of O h2
  exact ⟨h1, g1, g2, O.blt x (List.elem_iff.mp h3), fun z => by rw [beq_eq_false_iff_ne] at h4; exact h4 z⟩
theorem star_of {e : Expr} {es : List Expr} {env : Env} (h : plainE e = true) : starEach (e :: es) env = (false, eval e env) :: starEach es env := by
  cases e <;> first | rfl | (exfalso; simp [plainE] at h; done)
theorem mark_of {e : Expr} {op : CmpOp} (h : plainE e = true) : behindInMarks op e = false := by
  cases e <;> first | rfl | (exfalso; simp [plainE] at h; done)
theorem plain_ix {e : Expr} (h : plainE e = true) : PlainIx e := by
  cases e <;> first | (intro o i; rfl) | (exfalso; simp [plainE] at h; done)
theorem swaps_of {e : Expr} {t : Option Expr} {l : Nat} {env : Env} (h : notComp e = true) : swapsWith e t l env = pure false := by
  cases e <;> first | rfl | (exfalso; simp [notComp] at h; done)
theorem base_of {e : Expr} {n : Str} {env : Env} (h : notCallName e = true) : attributeBase e n env (eval e env) = eval e env := by
  cases e with
  | Call f args kws pos =>
    cases f <;> first
      | rfl
      | (cases args <;> first
          | (cases kws <;> first
              | (exfalso; simp [notCallName] at h; done)
              | rfl)
          | rfl)
  | _ => rfl
theorem folded_of {e : Expr} {env : Env} (h : plainE e = true) : ∀ x, foldedSetIterable e env x = pure x := by
  intro x
  cases e <;> first | rfl | (exfalso; simp [plainE] at h; done)
theorem tgt_of {i : Nat} {x : Str} (O : EnvOk X P C Φ κ) (h : okTgt C i x = true) : X.N[i]? = some x ∧ L2.Loc X.env.scope x ∧ (X.fn x = true ∨ X.env.scope.names.lookup x = some .local) := by
  unfold okTgt at h
  simp only [Bool.and_eq_true, beq_iff_eq] at h
  obtain ⟨h1, h2⟩ := h
  refine ⟨by rw [O.N]; exact h1, ?_⟩
  unfold L2.Loc
  rw [O.sc]
  split at h2
  · rename_i e; exact ⟨.inl e, .inr e⟩
  · rename_i e; exact ⟨.inr e, .inl (O.fn x h2)⟩
  · cases h2
theorem relSt_set {w : Wd} {sd : Std} {σ : L2.St} {d : D} {v : V} (r : RelSt P w sd σ) (i : Nat) (h : RelD P w d v) : RelSt P w (sd.set i (some d)) (σ.set i (some v)) := by
  refine ⟨by simp [r.1], fun j e he => ?_⟩
  by_cases hj : j = i
  · subst hj
    by_cases hl : j < sd.length
    · rw [List.getElem?_set_self hl] at he
      cases he
      exact ⟨v, List.getElem?_set_self (by rw [← r.1]; exact hl), h⟩
    · rw [List.getElem?_eq_none (by simpa using hl)] at he
      cases he
  · rw [List.getElem?_set_ne (Ne.symm hj)] at he ⊢
    exact r.2 j e he
theorem pg_nm {i : Nat} {x : Str} {pos : Pos} (O : EnvOk X P C Φ κ) (h : okTgt C i x = true) : PG X (.Name x pos) (liG P (asgT (.nm i))) := by
  obtain ⟨h1, h2, h3⟩ := tgt_of O h
  refine pgI (pg_name (by rw [O.N]; exact O.nd) h1 h2 h3) fun v σ H Q q => ?_
  obtain ⟨w, M, sd, d, Qd, R, rs, r, l, q⟩ := q
  exact l w M H _ _ (.refl _ _) R (relSt_set rs i r) q
theorem assignEach_cons {x : Str} {p : Pos} {es : List Expr} {env : Env} : assignEach (.Name x p :: es) env = (false, assign (.Name x p) env) :: assignEach es env := rfl
/-- several names, one after another -/
theorem pgs_of (O : EnvOk X P C Φ κ) : ∀ {is : List Nat} {es : List Expr}, okTg.go C is es = true → ∃ t, PGs X es t ∧ (assignEach es X.env).length = is.length ∧ (assignEach es X.env).findIdx? (·.1) = none ∧
    ∀ {w M H sd σ ds vs} {Qd : Std → Md → Prop} {Q : L2.St → Hp → Prop}, RepM P w M H → RelSt P w sd σ → RelDs P w ds vs → ds.length = is.length → LkSt P w H Qd Q → Qd (setAll sd is ds) M → t vs σ H Q
  | [], [], _ => ⟨_, pgs_nil, rfl, rfl, fun {w M H sd σ ds vs Qd Q} R rs r hl l q => by
    have e : ds = [] := List.length_eq_zero_iff.mp hl
    subst e
    have r : vs = [] := r
    exact ⟨r, l w M H sd σ (.refl _ _) R rs (show Qd sd M from q)⟩⟩
  | [], _ :: _, h => by simp [okTg.go] at h
  | _ :: _, [], h => by simp [okTg.go] at h
  | i :: is, e :: es, h => by
    cases e with
    | Name x pos =>
      have h : (okTgt C i x && okTg.go C is es) = true := h
      rw [Bool.and_eq_true] at h
      obtain ⟨t, h1, h2, h3, h4⟩ := pgs_of O h.2
      refine ⟨_, pgs_cons (pg_nm O h.1) h1, by rw [assignEach_cons, List.length_cons, List.length_cons, h2], by rw [assignEach_cons, List.findIdx?_cons, h3]; rfl, fun {w M H sd σ ds vs Qd Q} R rs r hl l q => ?_⟩
      cases ds with
      | nil => cases hl
      | cons d ds =>
        obtain ⟨v, us, e, r1, r2⟩ := r
        refine ⟨v, us, e, w, M, sd, d, fun sd' M' => sd' = sd.set i (some d) ∧ M' = M, R, rs, r1, fun w' M' H' sd' σ' s' R' rs' q' => ?_, rfl, rfl⟩
        obtain ⟨q1, q2⟩ := q'
        subst q1; subst q2
        exact h4 R' rs' (r2.mono s'.le) (by simpa using hl) (l.on s') q
    | _ => exact absurd h (by simp [okTg.go])
theorem pg_of {t : Tg} {e : Expr} (O : EnvOk X P C Φ κ) (h : okTg C t e = true) : PG X e (liG P (asgT t)) := by
  cases t with
  | nm i =>
    cases e with
    | Name x pos => exact pg_nm O h
    | _ => exact absurd h (by simp [okTg])
  | tp is =>
    cases e with
    | Tuple es k pos =>
      have h : (!C.X.hot && okTg.go C is es) = true := h
      rw [Bool.and_eq_true, Bool.not_eq_true'] at h
      obtain ⟨t, h1, h2, h3, h4⟩ := pgs_of O h.2
      refine pgI (pg_tup (O.calm h.1) h1 h2 h3) fun v σ H Q q => ?_
      obtain ⟨w, M, sd, d, Qd, R, rs, r, l, q⟩ := q
      cases d with
      | tup ds =>
        obtain ⟨p, vs, e, hp, hs⟩ := r
        exact ⟨p, vs, e, O.K ▸ sqT_mono R.sub hp, by rw [hs.length]; exact q.1, h4 R rs hs q.1 l q.2⟩
      | _ => exact q.elim
    | _ => exact absurd h (by simp [okTg])
end
end DL
namespace DL
open PySem L2
section
variable {P : Pm} {w : Wd} {M : Md} {H : Hp} {p : Addr}
/-- an object that stands and is not tracked here becomes settled -/
theorem RepM.adoptF (R : RepM P w M H) {o : HO} (h : H p = some o) (hnt : ∀ ps, o ≠ .tbl ps) (hF : w.F p = none) (hr : p ∉ w.r) : RepM P { w with F := upd w.F p o } M H ∧ Le w { w with F := upd w.F p o } := by
  have le : Le w { w with F := upd w.F p o } := ⟨fun a u e => by show upd w.F p o a = _; rw [upd_ne (fun z => by rw [z, hF] at e; cases e)]; exact e, fun _ _ e => e⟩
  refine ⟨⟨fun a u e => ?_, R.len, R.nd, R.inH, fun k m q hm hq => ?_, R.tab.on (fun _ _ h1 h2 => ⟨h1, h2⟩) (fun a ps h1 h2 h3 => ⟨h1, ?_, h3⟩) (fun a ps z => ?_) R.tab.nc⟩, le⟩
  · have e' : upd w.F p o a = some u := e
    by_cases ha : a = p
    · subst ha; rw [upd_same] at e'; rw [← e']; exact h
    · rw [upd_ne ha] at e'; exact R.sub _ _ e'
  · have nq : q ≠ p := fun z => hr (z ▸ List.mem_of_getElem? hq)
    exact (R.cell k m q hm hq).mono le (fun z => by show upd w.F p o q = none; rw [upd_ne nq]; exact z) rfl fun _ _ h1 h2 => ⟨h1, h2⟩
  · show upd w.F p o a = none
    rw [upd_ne (fun z => by rw [z, h] at h3; exact hnt ps (Option.some.inj h3))]; exact h2
  · have z : upd w.F p o a = some (.tbl ps) := z
    by_cases ha : a = p
    · subst ha; rw [upd_same] at z; exact absurd (Option.some.inj z) (hnt ps)
    · rw [upd_ne ha] at z; exact z
theorem RepM.adoptC (R : RepM P w M H) {vs : List V} {ds : List D} (h : H p = some (.lst vs)) (hF : w.F p = none) (hr : p ∉ w.r) (hs : RelDs P w ds vs) : RepM P { w with r := w.r ++ [p] } (M ++ [.lst ds]) H ∧ Le w { w with r := w.r ++ [p] } := by
  have le : Le w { w with r := w.r ++ [p] } := ⟨fun _ _ e => e, fun k q e => by
    show (w.r ++ [p])[k]? = some q
    rw [List.getElem?_append_left (List.getElem?_eq_some_iff.mp e).1]; exact e⟩
  have hC : KpC w H { w with r := w.r ++ [p] } H := fun b q h1 h2 => ⟨fun z => by
    rcases List.mem_append.mp z with z | z
    · exact h1 z
    · simp at z; rw [z, h] at h2; exact codeO_lst (Option.some.inj h2).symm, h2⟩
  refine ⟨⟨R.sub, by simp [R.len], ?_, fun q hq => ?_, fun k m' q hm hq => ?_, R.tab.on hC (fun a ps h1 h2 h3 => ⟨fun z => ?_, h2, h3⟩) (fun a ps z => z) fun b hb o' e => ?_⟩, le⟩
  · exact List.nodup_append.mpr ⟨R.nd, by simp, fun a ha b hb => by simp at hb; subst hb; exact fun z => hr (z ▸ ha)⟩
  · rcases List.mem_append.mp hq with z | z
    · exact R.inH q z
    · simp at z; rw [z, h]; simp
  · by_cases hk : k < M.length
    · rw [List.getElem?_append_left hk] at hm
      have hq2 : w.r[k]? = some q := by
        have : (w.r ++ [p])[k]? = some q := hq
        rwa [List.getElem?_append_left (by rw [← R.len]; exact hk)] at this
      exact (R.cell k m' q hm hq2).mono le (fun z => z) rfl hC
    · have hk2 : k = M.length := by
        have := (List.getElem?_eq_some_iff.mp hm).1
        simp at this; omega
      subst hk2
      have e1 : m' = .lst ds := by simpa using hm.symm
      have e2 : q = p := by
        have : (w.r ++ [p])[M.length]? = some q := hq
        rw [R.len] at this
        simpa using this.symm
      subst e1; subst e2
      exact ⟨hF, vs, h, hs.mono le⟩
  · rcases List.mem_append.mp z with z | z
    · exact h1 z
    · simp at z; rw [z, h] at h3; cases h3
  · rcases List.mem_append.mp hb with z | z
    · exact R.tab.nc b z o' e
    · simp at z; rw [z, h] at e; cases e; exact .lst
end
theorem nlt {vs : List V} (ps : Array Value) : HO.lst vs ≠ .tbl ps := fun z => by cases z
theorem wipe_at {σ : L2.St} {j : Nat} : ∀ vs : List Nat, (wipe σ vs)[j]? = if j ∈ vs then (if j < σ.length then some none else none) else σ[j]?
  | [] => by simp [wipe]
  | v :: vs => by
    have ih := wipe_at (σ := σ) (j := j) vs
    unfold wipe
    by_cases h : j = v
    · subst h
      rw [if_pos List.mem_cons_self]
      by_cases hl : j < σ.length
      · rw [List.getElem?_set_self (by rw [wipe_length]; exact hl), if_pos hl]
      · rw [List.getElem?_eq_none (by rw [List.length_set, wipe_length]; omega), if_neg hl]
    · rw [List.getElem?_set_ne (Ne.symm h), ih]
      simp [h]
theorem wipe_back {σ σ' : L2.St} {vs idx : List Nat} (hs : ∀ j ∈ idx, j ∈ vs) (hl : σ'.length = σ.length) (h : ∀ j, j ∉ idx → σ'[j]? = (wipe σ vs)[j]?) : wipe σ' vs = wipe σ vs := by
  apply List.ext_getElem?
  intro j
  rw [wipe_at, wipe_at]
  by_cases hj : j ∈ vs
  · rw [if_pos hj, if_pos hj, hl]
  · rw [if_neg hj, if_neg hj, h j (fun z => hj (hs j z)), wipe_at, if_neg hj]
theorem wipeD_at {σ : Std} {j : Nat} : ∀ vs : List Nat, (wipeD σ vs)[j]? = if j ∈ vs then (if j < σ.length then some none else none) else σ[j]?
  | [] => by simp [wipeD]
  | v :: vs => by
    have ih := wipeD_at (σ := σ) (j := j) vs
    have hlen : ∀ vs : List Nat, (wipeD σ vs).length = σ.length := fun vs => by
      induction vs with
      | nil => rfl
      | cons v vs ih => unfold wipeD; rw [List.length_set, ih]
    unfold wipeD
    by_cases h : j = v
    · subst h
      rw [if_pos List.mem_cons_self]
      by_cases hl : j < σ.length
      · rw [List.getElem?_set_self (by rw [hlen]; exact hl), if_pos hl]
      · rw [List.getElem?_eq_none (by rw [List.length_set, hlen]; omega), if_neg hl]
    · rw [List.getElem?_set_ne (Ne.symm h), ih]
      simp [h]
theorem wipeD_length {σ : Std} : ∀ vs : List Nat, (wipeD σ vs).length = σ.length
  | [] => rfl
  | v :: vs => by unfold wipeD; rw [List.length_set, wipeD_length vs]
theorem relSt_wipe {P : Pm} {w : Wd} {sd : Std} {σ : L2.St} (r : RelSt P w sd σ) (vs : List Nat) : RelSt P w (wipeD sd vs) (wipe σ vs) := by
  refine ⟨by rw [wipeD_length, wipe_length]; exact r.1, fun j d h => ?_⟩
  rw [wipeD_at] at h
  rw [wipe_at]
  by_cases hj : j ∈ vs
  · rw [if_pos hj] at h
    split at h <;> cases h
  · rw [if_neg hj] at h ⊢
    exact r.2 j d h
def liGC (P : Pm) (t : D → Std → Md → (Std → Md → Prop) → Prop) (idx : List Nat) : TG := fun v σ H Q => ∃ w M sd d Qd, RepM P w M H ∧ RelSt P w sd σ ∧ RelD P w d v ∧
  (∀ w' M' H' sd' σ', Step w H w' H' → RepM P w' M' H' → RelSt P w' sd' σ' → σ'.length = σ.length → (∀ j, j ∉ idx → σ'[j]? = σ[j]?) → Qd sd' M' → Q σ' H') ∧ t d sd M Qd
section
variable {X : Cx} {P : Pm} {C : Ctx} {Φ : Nat → SpD} {κ : Nat → D} {W : WX}
theorem pgc_nm {i : Nat} {x : Str} {pos : Pos} (O : EnvOk X P C Φ κ) (h : okTgt C i x = true) : PG X (.Name x pos) (liGC P (asgT (.nm i)) [i]) := by
  obtain ⟨h1, h2, h3⟩ := tgt_of O h
  refine pgI (pg_name (by rw [O.N]; exact O.nd) h1 h2 h3) fun v σ H Q q => ?_
  obtain ⟨w, M, sd, d, Qd, R, rs, r, l, q⟩ := q
  exact l w M H _ _ (.refl _ _) R (relSt_set rs i r) (by simp) (fun j hj => List.getElem?_set_ne (fun z => hj (by simp [z]))) q
theorem pgcs_of (O : EnvOk X P C Φ κ) : ∀ {is : List Nat} {es : List Expr}, okTg.go C is es = true → ∃ t, PGs X es t ∧ (assignEach es X.env).length = is.length ∧ (assignEach es X.env).findIdx? (·.1) = none ∧
    ∀ {w M H sd σ ds vs} {Qd : Std → Md → Prop} {Q : L2.St → Hp → Prop}, RepM P w M H → RelSt P w sd σ → RelDs P w ds vs → ds.length = is.length →
      (∀ w' M' H' sd' σ', Step w H w' H' → RepM P w' M' H' → RelSt P w' sd' σ' → σ'.length = σ.length → (∀ j, j ∉ is → σ'[j]? = σ[j]?) → Qd sd' M' → Q σ' H') → Qd (setAll sd is ds) M → t vs σ H Q
  | [], [], _ => ⟨_, pgs_nil, rfl, rfl, fun {w M H sd σ ds vs Qd Q} R rs r hl l q => by
    have e : ds = [] := List.length_eq_zero_iff.mp hl
    subst e
    have r : vs = [] := r
    exact ⟨r, l w M H sd σ (.refl _ _) R rs rfl (fun _ _ => rfl) (show Qd sd M from q)⟩⟩
  | [], _ :: _, h => by simp [okTg.go] at h
  | _ :: _, [], h => by simp [okTg.go] at h
  | i :: is, e :: es, h => by
    cases e with
    | Name x pos =>
      have h : (okTgt C i x && okTg.go C is es) = true := h
      rw [Bool.and_eq_true] at h
      obtain ⟨t, h1, h2, h3, h4⟩ := pgcs_of O h.2
      refine ⟨_, pgs_cons (pgc_nm O h.1) h1, by rw [assignEach_cons, List.length_cons, List.length_cons, h2], by rw [assignEach_cons, List.findIdx?_cons, h3]; rfl, fun {w M H sd σ ds vs Qd Q} R rs r hl l q => ?_⟩
      cases ds with
      | nil => cases hl
      | cons d ds =>
        obtain ⟨v, us, e, r1, r2⟩ := r
        refine ⟨v, us, e, w, M, sd, d, fun sd' M' => sd' = sd.set i (some d) ∧ M' = M, R, rs, r1, fun w' M' H' sd' σ' s' R' rs' hl' ho' q' => ?_, rfl, rfl⟩
        obtain ⟨q1, q2⟩ := q'
        subst q1; subst q2
        refine h4 R' rs' (r2.mono s'.le) (by simpa using hl) (fun w2 M2 H2 sd2 σ2 s2 R2 rs2 hl2 ho2 q2 => l w2 M2 H2 sd2 σ2 (s'.trans s2) R2 rs2 (hl2.trans hl') (fun j hj => ?_) q2) q
        simp only [List.mem_cons, not_or] at hj
        rw [ho2 j hj.2, ho' j (by simp [hj.1])]
    | _ => exact absurd h (by simp [okTg.go])
theorem pgc_of {t : Tg} {e : Expr} (O : EnvOk X P C Φ κ) (h : okTg C t e = true) : PG X e (liGC P (asgT t) (tgIdx t)) := by
  cases t with
  | nm i =>
    cases e with
    | Name x pos => exact pgc_nm O h
    | _ => exact absurd h (by simp [okTg])
  | tp is =>
    cases e with
    | Tuple es k pos =>
      have h : (!C.X.hot && okTg.go C is es) = true := h
      rw [Bool.and_eq_true, Bool.not_eq_true'] at h
      obtain ⟨t, h1, h2, h3, h4⟩ := pgcs_of O h.2
      refine pgI (pg_tup (O.calm h.1) h1 h2 h3) fun v σ H Q q => ?_
      obtain ⟨w, M, sd, d, Qd, R, rs, r, l, q⟩ := q
      cases d with
      | tup ds =>
        obtain ⟨p, vs, e, hp, hs⟩ := r
        exact ⟨p, vs, e, O.K ▸ sqT_mono R.sub hp, by rw [hs.length]; exact q.1, h4 R rs hs q.1 l q.2⟩
      | _ => exact q.elim
    | _ => exact absurd h (by simp [okTg])
/-- a list or a tuple, walked -/
def iSeq (K : PySem.W.Frag) (tl : TE) : TI := fun σ H R => tl σ H fun x H1 => ∃ a, x = .ref a ∧ (((∃ xs, SqL K H1 a xs) ∧ R (Itl K a) H1) ∨ ((∃ xs, SqT K H1 a xs) ∧ R (Itt K a) H1))
theorem pi_seq {tg l : Expr} {tl : TE} (hl : PE X l tl) : PI X tg l (iSeq X.K tl) := by
  refine ⟨fun pins s σ H R I h => ?_⟩
  refine thn (hl.run pins s σ H _ I h) fun v s1 ⟨x, H1, I1, r1, q1⟩ => ?_
  obtain ⟨a, e, q⟩ := q1
  subst e
  cases r1
  have fp : ∀ b ∈ [s1.heap.objs.size], FpOk X pins H1 b := fun b hb => by
    have e : b = s1.heap.objs.size := by simpa using hb
    subst e
    exact I1.fpOk (Nat.le_refl _) (I1.hok.fresh (Nat.le_refl _))
  rcases q with ⟨⟨xs, hq⟩, q⟩ | ⟨⟨xs, hq⟩, q⟩
  · obtain ⟨its, rv, p, hz⟩ := I1.list hq
    refine wpAny_pyIter_list p.isList ?_
    exact ⟨s1.heap.objs.size, [s1.heap.objs.size], _, _, H1, rfl, I1.kept (t' := s1.toks) fun b o e => Heap.get?_push_of_some _ e, turn_list a _, ⟨_, Heap.get?_push_size _ rfl, rfl, rfl⟩, fp, q⟩
  · obtain ⟨its, rv, p, hz⟩ := I1.tuple hq
    refine wpAny_pyIter_tuple (show s1.heap.IsTuple a its.toArray from p) ?_
    exact ⟨s1.heap.objs.size, [s1.heap.objs.size], _, _, H1, rfl, I1.kept (t' := s1.toks) fun b o e => Heap.get?_push_of_some _ e, turn_tuple a _, ⟨_, Heap.get?_push_size _ rfl, rfl, rfl⟩, fp, q⟩
/-- the value's list, walked: its items -/
theorem itOk_seq {w : Wd} {M : Md} {H : Hp} {K : PySem.W.Frag} (hK : P.K = K) (R : RepM P w M H) {d : D} {v : V} {ds : List D} (r : RelD P w d v) (h : seqOf d M = some ds) :
    ∃ a, v = .ref a ∧ (((∃ xs, SqL K H a xs) ∧ ItOk P K w H ds (lkOf d) (Itl K a)) ∨ ((∃ xs, SqT K H a xs) ∧ ItOk P K w H ds (lkOf d) (Itt K a))) := by
  subst hK
  cases d with
  | tup es =>
    cases h
    obtain ⟨p, vs, e, hp, hs⟩ := r
    exact ⟨p, e, .inr ⟨⟨vs, sqT_mono R.sub hp⟩, .tup fun w' M' H' s R' _ => ⟨vs, sqT_mono R'.sub (sqT_mono s.le.F hp), hs.mono s.le⟩⟩⟩
  | lst es =>
    cases h
    obtain ⟨p, vs, e, hp, hs⟩ := r
    exact ⟨p, e, .inl ⟨⟨vs, SqL.of (R.sub _ _ hp)⟩, .lst fun w' M' H' s R' _ => ⟨vs, SqL.of (R'.sub _ _ (s.le.F _ _ hp)), hs.mono s.le⟩⟩⟩
  | scr ns =>
    cases h
    obtain ⟨p, e, hp⟩ := r
    exact ⟨p, e, .inl ⟨⟨_, sqL_mono R.sub hp⟩, .lst fun w' M' H' s R' _ => ⟨_, sqL_mono R'.sub (sqL_mono s.le.F hp), relDs_ints ns⟩⟩⟩
  | ref k =>
    obtain ⟨p, e, hp⟩ := r
    have h : (match M[k]? with
      | some (.lst ds) => some ds
      | _ => none) = some ds := h
    split at h
    · rename_i ds' hm
      cases h
      obtain ⟨_, vs, e2, hs⟩ := R.cell k _ p hm hp
      refine ⟨p, e, .inl ⟨⟨vs, SqL.of e2⟩, .lst fun w' M' H' s R' lk => ?_⟩⟩
      obtain ⟨_, vs', e3, hs'⟩ := R'.cell k (.lst ds) p lk (s.le.r _ _ hp)
      exact ⟨vs', SqL.of e3, hs'⟩
    · cases h
  | _ => cases h
theorem rngD_at {i j : Int} {k : Nat} (h : k < (j - i).toNat) : (rngD i j)[k]? = some (.int (i + (k : Nat))) := by
  unfold rngD
  rw [List.getElem?_map, List.getElem?_range h]
  rfl
theorem rngD_length (i j : Int) : (rngD i j).length = (j - i).toNat := by unfold rngD; rw [List.length_map, List.length_range]
/-- a turn's item -/
theorem ItOk.turn {K : PySem.W.Frag} {w w' : Wd} {M' : Md} {H H' : Hp} {ds : List D} {lk : Option Nat} {J : It} (T : ItOk P K w H ds lk J) (s : Step w H w' H') (R : RepM P w' M' H') (l : lkOk lk ds M') (i : Nat) :
    (ds.length ≤ i → J.stop i H') ∧ (∀ d, ds[i]? = some d → J.go i H' ∧ ∀ x H2, J.yld i H' x H2 → ∃ w2, Step w' H' w2 H2 ∧ RepM P w2 M' H2 ∧ RelD P w2 d x) := by
  have same : ∀ {H2 : Hp} {d : D} {x : V}, H2 = H' → RelD P w' d x → ∃ w2, Step w' H' w2 H2 ∧ RepM P w2 M' H2 ∧ RelD P w2 d x := fun e r => by subst e; exact ⟨w', .refl _ _, R, r⟩
  cases T with
  | @lst a f =>
    obtain ⟨vs, h1, h2⟩ := f w' M' H' s R l
    refine ⟨fun hi => ⟨vs, h1, by rw [h2.length]; exact hi⟩, fun d hd => ?_⟩
    obtain ⟨v, hv, r⟩ := h2.get hd
    refine ⟨⟨vs, v, h1, hv⟩, fun x H2 hy => ?_⟩
    obtain ⟨e, y⟩ := hy
    have := y vs h1
    rw [hv] at this
    cases this
    exact same e r
  | @tup a f =>
    obtain ⟨vs, h1, h2⟩ := f w' M' H' s R l
    refine ⟨fun hi => ⟨vs, h1, by rw [h2.length]; exact hi⟩, fun d hd => ?_⟩
    obtain ⟨v, hv, r⟩ := h2.get hd
    refine ⟨⟨vs, v, h1, hv⟩, fun x H2 hy => ?_⟩
    obtain ⟨e, y⟩ := hy
    have := y vs h1
    rw [hv] at this
    cases this
    exact same e r
  | @chr z e =>
    subst e
    have hl : (charsD z).length = z.cps.size := by unfold charsD; simp
    refine ⟨fun hi => by rw [hl] at hi; exact hi, fun d hd => ?_⟩
    have hlt : i < z.cps.size := by
      have := (List.getElem?_eq_some_iff.mp hd).1
      rwa [hl] at this
    refine ⟨hlt, fun x H2 hy => ?_⟩
    obtain ⟨e1, c, hc, e2⟩ := hy
    have hd : (z.cps.toList.map fun c => D.str ⟨#[c]⟩)[i]? = some d := hd
    rw [List.getElem?_map, Array.getElem?_toList, hc] at hd
    cases hd
    exact same e1 e2
  | @rng a b e =>
    subst e
    refine ⟨fun hi => by rw [rngD_length] at hi; exact hi, fun d hd => ?_⟩
    have hlt : i < (b - a).toNat := by
      have := (List.getElem?_eq_some_iff.mp hd).1
      rwa [rngD_length] at this
    rw [rngD_at hlt] at hd
    cases hd
    refine ⟨hlt, fun x H2 hy => ?_⟩
    obtain ⟨e1, e2⟩ := hy
    exact same e1 e2
  | @enm a es f e =>
    subst e
    obtain ⟨vs, h1, h2⟩ := f w' M' H' s R
    have hl : (enumD es).length = es.length := by unfold enumD; simp
    refine ⟨fun hi => ⟨vs, h1, by rw [h2.length]; rw [hl] at hi; exact hi⟩, fun d hd => ?_⟩
    have hd2 : ∃ x, es[i]? = some x ∧ d = .tup [.int (i : Nat), x] := by
      unfold enumD at hd
      rw [List.getElem?_map] at hd
      obtain ⟨q, hq, rfl⟩ := Option.map_eq_some_iff.mp hd
      rw [List.getElem?_zipIdx] at hq
      obtain ⟨x, hx, rfl⟩ := Option.map_eq_some_iff.mp hq
      exact ⟨x, hx, by simp⟩
    obtain ⟨x, hx, rfl⟩ := hd2
    obtain ⟨v, hv, r⟩ := h2.get hx
    refine ⟨⟨vs, v, h1, hv⟩, fun y H2 hy => ?_⟩
    obtain ⟨T, z, rfl, hT, rfl, hz⟩ := hy
    have := hz vs h1
    rw [hv] at this
    cases this
    obtain ⟨R2, s2⟩ := R.newF hT (.tup [.int (i : Nat), v]) fun _ z => by cases z
    have rp : RelDs P w' [.int (i : Nat), x] [.int (i : Nat), v] := .cons rfl (.cons r .nil)
    exact ⟨_, s2, R2, ⟨T, _, rfl, .inl (.inl upd_same), rp.mono s2.le⟩⟩
/-- for -/
theorem for_lift {wi : RI} {t : Tg} {tb : RS} {σ : L2.St} {H : Hp} {K : Ends} :
    liS P W (fun E K σ M => wi (fun x => E x σ) σ M fun ds lk M1 => loopD lk ds (asgT t) (tb E) K ds σ M1) K σ H → tFor (liI P X.K W wi) (liG P (asgT t)) (liS P W tb) K σ H := by
  rintro ⟨w, M, sd, Kd, Ed, R, rs, lk, lx, q⟩
  refine ⟨w, M, sd, _, _, R, rs, fun w1 M1 H1 ds l J s R1 T q => ?_, lx.at rs, q⟩
  have lkK := lk.on s
  have lxK := lx.on s
  refine ⟨fun i m σ' H' => m = ds.length - i ∧ i ≤ ds.length ∧ ∃ w' M' sd', Step w1 H1 w' H' ∧ RepM P w' M' H' ∧ RelSt P w' sd' σ' ∧ loopD l ds (asgT t) (tb Ed) Kd (ds.drop i) sd' M', ⟨ds.length, by simp, Nat.zero_le _, w1, M1, sd, .refl _ _, R1, rs.mono s.le, by simpa using q⟩, ?_⟩
  rintro i m σ' H' ⟨rfl, hi, w', M', sd', s', R', rs', q'⟩
  by_cases hlt : i < ds.length
  · rw [List.drop_eq_getElem_cons hlt] at q'
    obtain ⟨l1, q'⟩ := q'
    obtain ⟨g1, g2⟩ := (T.turn s' R' l1 i).2 ds[i] (List.getElem?_eq_getElem hlt)
    refine .inr ⟨g1, fun σ2 H2 => ∃ w2 M2 sd2, Step w1 H1 w2 H2 ∧ RepM P w2 M2 H2 ∧ RelSt P w2 sd2 σ2 ∧ loopD l ds (asgT t) (tb Ed) Kd (ds.drop (i + 1)) sd2 M2, fun σ2 H2 h => ⟨ds.length - (i + 1), by omega, rfl, hlt, h⟩, fun x H2 y => ?_⟩
    obtain ⟨w2, s2, R2, rx⟩ := g2 x H2 y
    refine ⟨w2, M', sd', ds[i], _, R2, rs'.mono s2.le, rx, fun w3 M3 H3 sd3 σ3 s3 R3 rs3 q3 => ?_, q'⟩
    have s13 := (s'.trans s2).trans s3
    refine ⟨w3, M3, sd3, { nx := loopD l ds (asgT t) (tb Ed) Kd (ds.drop (i + 1)), rt := Kd.rt, bk := Kd.nx, ct := loopD l ds (asgT t) (tb Ed) Kd (ds.drop (i + 1)) }, Ed, R3, rs3, ⟨?_, (lkK.on s13).rt, (lkK.on s13).nx, ?_⟩, lxK.on s13, q3⟩
    · exact fun w4 M4 H4 sd4 σ4 s4 R4 rs4 q4 => ⟨w4, M4, sd4, s13.trans s4, R4, rs4, q4⟩
    · exact fun w4 M4 H4 sd4 σ4 s4 R4 rs4 q4 => ⟨w4, M4, sd4, s13.trans s4, R4, rs4, q4⟩
  · have e : i = ds.length := by omega
    subst e
    rw [List.drop_length] at q'
    obtain ⟨l1, q'⟩ := q'
    exact .inl ⟨(T.turn s' R' l1 ds.length).1 (Nat.le_refl _), lkK.nx w' M' H' sd' σ' s' R' rs' q'⟩
/-- while -/
theorem while_lift {tt : RT} {tb : RS} {σ : L2.St} {H : Hp} {K : Ends} :
    liS P W (fun E K σ M => ∃ n, whilD (fun σ M Q => tt (fun x => E x σ) σ M Q) (tb E) K n σ M) K σ H → tWhile (liT P W tt) (liS P W tb) K σ H := by
  rintro ⟨w, M, sd, Kd, Ed, R, rs, lk, lx, n, q⟩
  refine ⟨fun m σ' H' => ∃ w' M' sd', Step w H w' H' ∧ RepM P w' M' H' ∧ RelSt P w' sd' σ' ∧ whilD (fun σ M Q => tt (fun x => Ed x σ) σ M Q) (tb Ed) Kd m sd' M', ⟨n, w, M, sd, .refl _ _, R, rs, q⟩, ?_⟩
  rintro m σ' H' ⟨w', M', sd', s', R', rs', q'⟩
  cases m with
  | zero => exact q'.elim
  | succ m =>
    refine ⟨w', M', sd', _, _, R', rs', fun w1 M1 H1 b s1 R1 q1 => ?_, (lx.on s').at rs', q'⟩
    have s01 := s'.trans s1
    cases b with
    | true =>
      simp only [if_true] at q1 ⊢
      refine ⟨fun σ2 H2 => ∃ w2 M2 sd2, Step w H w2 H2 ∧ RepM P w2 M2 H2 ∧ RelSt P w2 sd2 σ2 ∧ whilD (fun σ M Q => tt (fun x => Ed x σ) σ M Q) (tb Ed) Kd m sd2 M2, fun σ2 H2 h => ⟨m, Nat.lt_succ_self _, h⟩, ?_⟩
      refine ⟨w1, M1, sd', { nx := whilD (fun σ M Q => tt (fun x => Ed x σ) σ M Q) (tb Ed) Kd m, rt := Kd.rt, bk := Kd.nx, ct := whilD (fun σ M Q => tt (fun x => Ed x σ) σ M Q) (tb Ed) Kd m }, Ed, R1, rs'.mono s1.le, ⟨?_, (lk.on s01).rt, (lk.on s01).nx, ?_⟩, lx.on s01, q1⟩
      · exact fun w4 M4 H4 sd4 σ4 s4 R4 rs4 q4 => ⟨w4, M4, sd4, s01.trans s4, R4, rs4, q4⟩
      · exact fun w4 M4 H4 sd4 σ4 s4 R4 rs4 q4 => ⟨w4, M4, sd4, s01.trans s4, R4, rs4, q4⟩
    | false =>
      simp only [Bool.false_eq_true, if_false] at q1 ⊢
      exact lk.nx w1 M1 H1 sd' σ' s01 R1 (rs'.mono s1.le) q1
abbrev W0 : WX := fun _ _ _ _ => False
theorem lkX0 {w : Wd} {H : Hp} {σ : L2.St} : LkX P w H (fun _ _ => False) (WE W0 σ) := fun _ _ _ _ _ _ _ _ _ q => q.elim
/-- a comprehension -/
theorem comp_lift {m : Bool} {wi : RI} {t : Tg} {tt : RT} {te : RE} {own : List Nat} (hs : ∀ j ∈ tgIdx t, j ∈ own) : ∀ σ H Q,
    liE P W (fun E σ M Q => wi E σ M fun ds lk M1 => compD lk ds (fun d k M => asgT t d (wipeD σ own) M k) (fun σ M Q => tt (fun _ _ => False) σ M Q) (fun σ M Q => te (fun _ _ => False) σ M Q)
      (fun acc M => if m = true then Q (.ref M.length) (M ++ [.lst acc]) else Q (.lst acc) M) ds [] M1) σ H Q →
    tLc (liI P X.K W wi) (liGC P (asgT t) (tgIdx t)) (liT P W0 tt) (liE P W0 te) own σ H Q := by
  rintro σ H Q ⟨w, M, sd, Qd, Ed, R, rs, lq, lx, q⟩
  refine ⟨w, M, sd, _, Ed, R, rs, fun w1 M1 H1 ds l J s R1 T q => ?_, lx, q⟩
  intro Da hD
  have rs1 := rs.mono s.le
  have lq1 := lq.on s
  let INV : Nat → Hp → Prop := fun i H' => ∃ w' M' acc vs, Step w1 H1 w' H' ∧ RepM P w' M' H' ∧ w'.F Da = none ∧ Da ∉ w'.r ∧ H' Da = some (.lst vs) ∧ RelDs P w' acc vs ∧
    compD l ds (fun d k M => asgT t d (wipeD sd own) M k) (fun σ M Q => tt (fun _ _ => False) σ M Q) (fun σ M Q => te (fun _ _ => False) σ M Q) (fun acc M => if m = true then Qd (.ref M.length) (M ++ [.lst acc]) else Qd (.lst acc) M) (ds.drop i) acc M'
  have start : INV 0 (upd H1 Da (.lst [])) := by
    have hC0 : KpC w1 H1 w1 (upd H1 Da (.lst [])) := fun b q h1 h2 => ⟨h1, by rw [upd_ne fun z => by rw [z, hD] at h2; cases h2]; exact h2⟩
    refine ⟨w1, M1, [], [], ⟨.refl _, fun a o e _ _ => ?_, fun a e h1 h2 => ⟨h1, h2⟩, fun a e => upd_some e⟩, ⟨fun a o e => ?_, R1.len, R1.nd, fun p hp => ?_, fun k mo p h1 h2 => ?_, R1.tab.on hC0 (fun a ps h1 h2 h3 => ⟨h1, h2, by rw [upd_ne fun z => by rw [z, hD] at h3; cases h3]; exact h3⟩) (fun a ps z => z) fun b hb o' e => R1.tab.nc b hb o' (by rw [upd_ne (fun z => R1.inH b hb (by rw [z]; exact hD))] at e; exact e)⟩, R1.Fnone hD, R1.notin hD, upd_same, rfl, by simpa using q⟩
    · rw [upd_ne (ne_of_none e hD)]; exact e
    · rw [upd_ne (ne_of_none (R1.sub _ _ e) hD)]; exact R1.sub _ _ e
    · rw [upd_ne (fun z => R1.inH p hp (by rw [z]; exact hD))]; exact R1.inH p hp
    · exact (R1.cell k mo p h1 h2).mono (.refl _) (fun z => z) (upd_ne (fun z => R1.inH p (List.mem_of_getElem? h2) (by rw [z]; exact hD))) hC0
  refine ⟨fun i n H' => n = ds.length - i ∧ i ≤ ds.length ∧ INV i H', ⟨ds.length, by simp, Nat.zero_le _, start⟩, ?_⟩
  rintro i n H' ⟨rfl, hi, w', M', acc, vs, s', R', f1, f2, hH, ha, q'⟩
  by_cases hlt : i < ds.length
  · rw [List.drop_eq_getElem_cons hlt] at q'
    obtain ⟨l1, q'⟩ := q'
    obtain ⟨g1, g2⟩ := (T.turn s' R' l1 i).2 ds[i] (List.getElem?_eq_getElem hlt)
    refine .inr ⟨g1, fun H2 => INV (i + 1) H2, fun H2 h => ⟨ds.length - (i + 1), by omega, rfl, hlt, h⟩, fun x H2 y => ?_⟩
    obtain ⟨w2, s2, R2, rx⟩ := g2 x H2 y
    refine ⟨w2, M', wipeD sd own, ds[i], _, R2, relSt_wipe (rs1.mono (s'.trans s2).le) own, rx, fun w3 M3 H3 sd3 σ3 s3 R3 rs3 hl3 ho3 q3 => ⟨wipe_back hs (by rw [hl3, wipe_length]) ho3, ?_⟩, q'⟩
    refine ⟨w3, M3, sd3, _, _, R3, rs3, fun w4 M4 H4 b s4 R4 q4 => ?_, lkX0, q3⟩
    have s34 := s2.trans (s3.trans s4)
    cases b with
    | false =>
      simp only [Bool.false_eq_true, if_false] at q4 ⊢
      obtain ⟨n1, n2⟩ := s34.new Da (by rw [hH]; simp) f1 f2
      exact ⟨w4, M4, acc, vs, s'.trans s34, R4, n1, n2, s34.keep _ _ hH nlt (.inl f2), ha.mono s34.le, q4⟩
    | true =>
      simp only [if_true] at q4 ⊢
      refine ⟨w4, M4, sd3, _, _, R4, rs3.mono s4.le, fun w5 M5 H5 d5 v5 s5 R5 r5 q5 => ?_, lkX0, q4⟩
      have s35 := s34.trans s5
      obtain ⟨n1, n2⟩ := s35.new Da (by rw [hH]; simp) f1 f2
      have h5 := s35.keep _ _ hH nlt (.inl f2)
      refine ⟨vs, h5, by rw [ha.length]; exact q5.1, w5, M5, acc ++ [d5], vs ++ [v5], ?_, ?_, n1, n2, upd_same, (ha.mono s35.le).append (.cons r5 .nil), q5.2⟩
      · have st := s'.trans s35
        refine ⟨st.le, fun a o e ht h => ?_, st.new, fun a e => upd_some (st.stay a e)⟩
        rw [upd_ne (ne_of_none e hD)]
        exact st.keep a o e ht h
      · have hC : KpC w5 H5 w5 (upd H5 Da (.lst (vs ++ [v5]))) := fun b q h1 h2 => ⟨h1, by rw [upd_ne fun z => by rw [z, h5] at h2; exact codeO_lst (Option.some.inj h2).symm]; exact h2⟩
        refine ⟨fun a o e => ?_, R5.len, R5.nd, fun p hp => ?_, fun k mo p h1 h2 => ?_, R5.tab.on hC (fun a ps h1 h2 h3 => ⟨h1, h2, by rw [upd_ne fun z => by rw [z, h5] at h3; cases h3]; exact h3⟩) (fun a ps z => z) fun b hb o' e => R5.tab.nc b hb o' (by rw [upd_ne (fun z => n2 (by rw [← z]; exact hb))] at e; exact e)⟩
        · rw [upd_ne (fun z => by rw [z, n1] at e; cases e)]; exact R5.sub _ _ e
        · rw [upd_ne (fun z => n2 (by rw [← z]; exact hp))]; exact R5.inH p hp
        · exact (R5.cell k mo p h1 h2).mono (.refl _) (fun z => z) (upd_ne (fun z => n2 (by rw [← z]; exact List.mem_of_getElem? h2))) hC
  · have e : i = ds.length := by omega
    subst e
    rw [List.drop_length] at q'
    obtain ⟨l1, q'⟩ := q'
    refine .inl ⟨(T.turn s' R' l1 ds.length).1 (Nat.le_refl _), ?_⟩
    cases m with
    | false =>
      rw [if_neg Bool.false_ne_true] at q'
      obtain ⟨R2, le⟩ := R'.adoptF hH nlt f1 f2
      refine lq1 _ M' H' (.lst acc) _ ⟨s'.le.trans le, s'.keep, fun a e h1 h2 => ?_, s'.stay⟩ R2 ⟨Da, vs, rfl, upd_same, ha.mono le⟩ q'
      obtain ⟨z1, z2⟩ := s'.new a e h1 h2
      exact ⟨by show upd w'.F Da _ a = none; rw [upd_ne (fun z => e (by rw [z]; exact hD))]; exact z1, z2⟩
    | true =>
      rw [if_pos rfl] at q'
      obtain ⟨R2, le⟩ := R'.adoptC hH f1 f2 ha
      refine lq1 _ _ H' (.ref M'.length) _ ⟨s'.le.trans le, s'.keep, fun a e h1 h2 => ?_, s'.stay⟩ R2 ⟨Da, rfl, by show (w'.r ++ [Da])[M'.length]? = some Da; rw [R'.len]; simp⟩ q'
      obtain ⟨z1, z2⟩ := s'.new a e h1 h2
      refine ⟨z1, fun z => ?_⟩
      rcases List.mem_append.mp z with z | z
      · exact z2 z
      · simp at z; exact e (by rw [z]; exact hD)
end
end DL
namespace DL
open PySem L2 PySem.Spec PyProof.Rows
theorem meth_eq {o : Expr} {m : Str} {apos pos : Pos} {args : List Expr} {env : Env} (hbase : attributeBase o m env (eval o env) = eval o env)
    (hform : methodCallForm (args.length + ([] : List Keyword).length) (backTo pos (starEach args env)) (backToKw pos (keywordEach [] env)) = true) (hline : (apos.endLine == pos.line) = true) :
    eval (.Call (.Attribute o m apos) args [] pos) env = (do
      let ov ← eval o env
      standAt apos.atName
      let (f, first) ← holding [ov] (getMethod ov m (plainOf o env))
      callWith pos f first (backTo pos (starEach args env)) (backToKw pos (keywordEach [] env))) := by
  rw [arm_eval_Call, hbase]
  simp only [mcall_line hform hline]
section
variable {X : Cx} {CX : CXT} {k : Nat} {f C : Addr} {fd : FuncData} {ps : List Str} {sp : Sp} {E : L2.St → XK} {x m : Str} {p pos apos : Pos} {e o : Expr} {es : List Expr} {ta : TE} {t : TA}
def tNil' : TA := fun _ H Q => Q [] H
theorem pe_call0S (F : FnOk X.prog X.w X.K X.mg X.base CX k f fd ps sp) (hr : Room k X.A) (hg : Gl X x) (hm : X.mg x = some (.ref f)) (hk : PySem.W.keepIn X.K (.ref f) = true) (hb : Binds X.K fd ps []) (hx : ∀ σ, PassesAt CX X σ (E σ))
    (hdb : (x == ("__debug__" : Str)) = false) : PE X (.Call (.Name x p) [] [] pos) (tCallS sp E tNil') := by
  refine ⟨fun pins s σ H Q I h => ?_⟩
  refine wpAny_Call_Name_kw (ld_glob I hg hm ?_ hdb)
  exact PySem.W.callWith_K0 I.kIn hk (run_fnS (us := []) F hr hb (hx σ) I .nil h)
def tMethO (C : Addr) (m : Str) (sp : Sp) (E : L2.St → XK) (ta : TE) (t : TA) : TE := fun σ H Q => ta σ H fun x H1 => ∃ a dx fs, x = .ref a ∧ H1 a = some (.ins C dx fs) ∧ fs.lookup m = none ∧ t σ H1 fun vs H2 => sp (x :: vs) H2 Q (E σ)
theorem pe_methO {pl : Sem Bool} (he : PE X o ta) (c : Cls X.K C) (hm : Meth X.K C m f) (F : FnOk X.prog X.w X.K X.mg X.base CX k f fd ps sp) (hr : Room k X.A) (hb : Binds X.K fd ps []) (hx : ∀ σ, PassesAt CX X σ (E σ)) (ha : PA X (e :: es) t)
    (hst : starEach (e :: es) X.env = (false, eval e X.env) :: starEach es X.env) (hpl : (backTo pos (starEach es X.env)).any (·.1) = false)
    (ht : eval (.Call (.Attribute o m apos) (e :: es) [] pos) X.env = (do
      let ov ← eval o X.env
      standAt apos.atName
      let (f, first) ← holding [ov] (getMethod ov m pl)
      callWith pos f first (backTo pos (starEach (e :: es) X.env)) (backToKw pos (keywordEach [] X.env)))) :
    PE X (.Call (.Attribute o m apos) (e :: es) [] pos) (tMethO C m sp E ta t) := by
  refine ⟨fun pins s σ H Q I h => ?_⟩
  refine PySem.W.methodCall_KW (pl := pl) (thn (he.run pins s σ H _ I h) fun u s1 ⟨x, H1, I1, rx, a, dx, fs, ex, ea, l, q⟩ => ?_) ht
  subst ex
  obtain rfl : u = Value.ref a := rx
  refine getmeth_ok I1 ea c hm l ?_
  refine PySem.W.callWith_K (first := [.ref a]) (h₀ := X.base) I.ok.mod.kin hm.kp (thn (ha.run pos pins s1 σ H1 _ I1 q) fun us s2 ⟨vs, H2, I2, r, q2⟩ => ⟨I2.kIn, ?_⟩) hst hpl
  exact run_fnS (us := .ref a :: us) (vs := .ref a :: vs) F hr hb (hx σ) I2 (.cons rfl r) q2
theorem pe_methO0 {pl : Sem Bool} (he : PE X o ta) (c : Cls X.K C) (hm : Meth X.K C m f) (F : FnOk X.prog X.w X.K X.mg X.base CX k f fd ps sp) (hr : Room k X.A) (hb : Binds X.K fd ps []) (hx : ∀ σ, PassesAt CX X σ (E σ))
    (ht : eval (.Call (.Attribute o m apos) [] [] pos) X.env = (do
      let ov ← eval o X.env
      standAt apos.atName
      let (f, first) ← holding [ov] (getMethod ov m pl)
      callWith pos f first (backTo pos (starEach [] X.env)) (backToKw pos (keywordEach [] X.env)))) :
    PE X (.Call (.Attribute o m apos) [] [] pos) (tMethO C m sp E ta tNil') := by
  refine ⟨fun pins s σ H Q I h => ?_⟩
  refine PySem.W.methodCall_KW (pl := pl) (thn (he.run pins s σ H _ I h) fun u s1 ⟨x, H1, I1, rx, a, dx, fs, ex, ea, l, q⟩ => ?_) ht
  subst ex
  obtain rfl : u = Value.ref a := rx
  refine getmeth_ok I1 ea c hm l ?_
  exact PySem.W.callWith_K0 (first := [.ref a]) I1.kIn hm.kp (run_fnS (us := [.ref a]) (vs := [.ref a]) F hr hb (hx σ) I1 (.cons rfl .nil) q)
theorem run_makeS {pins : List (Addr × Obj)} {σ : L2.St} {H : Hp} {s : Shared} {Q : VK} {us : List Value} {vs : List V} (M : Mk X.K C f) (F : FnOk X.prog X.w X.K X.mg X.base CX k f fd ps sp) (hr : Room (k + 1) X.A) (hb : Binds X.K fd ps [])
    (hx : PassesAt CX X σ (E σ)) (I : Inv X pins σ H s) (r : L2.Vals vs us)
    (h : ∀ x dx, H x = none → H dx = none → dx ≠ x → sp (.ref x :: vs) (upd (upd H dx (.own x)) x (.ins C dx [])) (fun v H2 => v = .non ∧ Q (.ref x) H2) (E σ)) :
    wpAny (model X.prog X.w) X.A (call (.ref C) us) (EP X pins σ Q) X.xe s := by
  have hq := h (s.heap.objs.size + 1) s.heap.objs.size (I.hok.fresh (Nat.le_succ _)) (I.hok.fresh (Nat.le_refl _)) (Nat.ne_of_lt (Nat.lt_succ_self _))
  have I2 := Inv.made (C := C) I
  have r2 : L2.Vals (V.ref (s.heap.objs.size + 1) :: vs) (Value.ref (s.heap.objs.size + 1) :: us) := .cons rfl r
  have hl : (Value.ref (s.heap.objs.size + 1) :: us).length = ps.length := by
    have e := r2.length
    rw [F.len _ _ _ _ hq] at e
    exact e.symm
  refine wpAny_call (make_map (f := f) I.kIn M.makes M.init (beq_iff_eq.mp M.fn) (codeAny_mono (F.run _ X.stack _ _ ⟨Value.ref (s.heap.objs.size + 1) :: us, []⟩ (Value.ref (s.heap.objs.size + 1) :: us) _ _ (E σ) (hr.make C us [])
    (I2.env0.make C us []) (by have z := hb _ (Value.ref (s.heap.objs.size + 1) :: us) I2.kIn (by rw [List.append_nil]; exact hl); rw [List.append_nil] at z; exact z) r2 hq) fun r s' hq' => ?_))
  cases r with
  | error e => exact hx pins _ _ e s' I2 hq'
  | ok fl =>
    cases fl with
    | ret u =>
      obtain ⟨v, H', I3, rv, ev, q3⟩ := I2.after hq'
      subst ev
      exact ⟨rv, ⟨V.ref (s.heap.objs.size + 1), H', I3, rfl, q3⟩⟩
    | next => exact False.elim hq'
    | brk => exact False.elim hq'
    | cont => exact False.elim hq'
def tMakeO (C : Addr) (sp : Sp) (E : L2.St → XK) (t : TA) : TE := fun σ H Q => t σ H fun vs H1 => ∀ x dx, H1 x = none → H1 dx = none → dx ≠ x → sp (.ref x :: vs) (upd (upd H1 dx (.own x)) x (.ins C dx [])) (fun v H2 => v = .non ∧ Q (.ref x) H2) (E σ)
theorem pe_makeO (M : Mk X.K C f) (F : FnOk X.prog X.w X.K X.mg X.base CX k f fd ps sp) (hr : Room (k + 1) X.A) (hg : Gl X x) (hm : X.mg x = some (.ref C)) (hb : Binds X.K fd ps []) (hx : ∀ σ, PassesAt CX X σ (E σ))
    (ha : PA X (e :: es) t) (hdb : (x == ("__debug__" : Str)) = false) (he : starEach (e :: es) X.env = (false, eval e X.env) :: starEach es X.env) (hpl : (backTo pos (starEach es X.env)).any (·.1) = false) :
    PE X (.Call (.Name x p) (e :: es) [] pos) (tMakeO C sp E t) := by
  refine ⟨fun pins s σ H Q I h => ?_⟩
  refine wpAny_Call_Name_kw (ld_glob I hg hm ?_ hdb)
  refine PySem.W.callWith_K (h₀ := X.base) I.ok.mod.kin M.kp (thn (ha.run pos pins s σ H _ I h) fun us s1 ⟨vs, H1, I1, r, q⟩ => ⟨I1.kIn, ?_⟩) he hpl
  exact run_makeS M F hr hb (hx σ) I1 r q
theorem pe_makeO0 (M : Mk X.K C f) (F : FnOk X.prog X.w X.K X.mg X.base CX k f fd ps sp) (hr : Room (k + 1) X.A) (hg : Gl X x) (hm : X.mg x = some (.ref C)) (hb : Binds X.K fd ps []) (hx : ∀ σ, PassesAt CX X σ (E σ))
    (hdb : (x == ("__debug__" : Str)) = false) : PE X (.Call (.Name x p) [] [] pos) (tMakeO C sp E tNil') := by
  refine ⟨fun pins s σ H Q I h => ?_⟩
  refine wpAny_Call_Name_kw (ld_glob I hg hm ?_ hdb)
  exact PySem.W.callWith_K0 I.kIn M.kp (run_makeS (us := []) M F hr hb (hx σ) I .nil h)
variable {n : Nat} {ks : List Str} {kws : List Keyword} {tk : TA} {g : List Value → List Value → List Value} {gV : List V → List V → List V}
def tCallKO (n m : Nat) (sp : Sp) (gV : List V → List V → List V) (E : L2.St → XK) (t tk : TA) : TE := fun σ H Q => t σ H fun vs H1 => tk σ H1 fun zs H2 => vs.length = n ∧ zs.length = m ∧ sp (gV vs zs) H2 Q (E σ)
theorem run_fnKO {pins : List (Addr × Obj)} {σ : L2.St} {H : Hp} {s : Shared} {Q : VK} {us ws : List Value} {vs zs : List V} (F : FnOk X.prog X.w X.K X.mg X.base CX k f fd ps sp) (hr : Room k X.A) (hb : KBn X.K fd ps n ks g gV) (hx : PassesAt CX X σ (E σ))
    (I : Inv X pins σ H s) (r : L2.Vals vs us) (rz : L2.Vals zs ws) (l1 : vs.length = n) (l2 : zs.length = ks.length) (h : sp (gV vs zs) H Q (E σ)) : wpAny (model X.prog X.w) X.A (call (.ref f) us (ks.zip ws)) (EP X pins σ Q) X.xe s := by
  have r2 := hb.rel r rz
  refine wpAny_call (codeAny_mono (F.run X.A X.stack s H ⟨us, ks.zip ws⟩ (g us ws) (gV vs zs) Q (E σ) hr I.env0 (hb.to s us ws I.kIn (r.length.symm.trans l1) (rz.length.symm.trans l2)) r2 h) fun r s' hq => ?_)
  cases r with
  | error e => exact hx pins H s e s' I hq
  | ok fl =>
    cases fl with
    | ret u => exact I.after hq
    | next => exact False.elim hq
    | brk => exact False.elim hq
    | cont => exact False.elim hq
theorem pe_callKO (F : FnOk X.prog X.w X.K X.mg X.base CX k f fd ps sp) (hr : Room k X.A) (hg : Gl X x) (hm : X.mg x = some (.ref f)) (hk : PySem.W.keepIn X.K (.ref f) = true) (hb : KBn X.K fd ps n ks g gV) (hx : ∀ σ, PassesAt CX X σ (E σ))
    (ha : PA X (e :: es) t) (hkw : PK X kws tk) (hall : (backToKw pos (keywordEach kws X.env)).all (·.1.isSome) = true) (hks : (backToKw pos (keywordEach kws X.env)).filterMap (·.1) = ks)
    (hdb : (x == ("__debug__" : Str)) = false) (he : starEach (e :: es) X.env = (false, eval e X.env) :: starEach es X.env)
    (hpl : ((backTo pos (starEach (e :: es) X.env)).any (·.1) || (backToKw pos (keywordEach kws X.env)).any (·.1.isNone)) = false) :
    PE X (.Call (.Name x p) (e :: es) kws pos) (tCallKO n ks.length sp gV E t tk) := by
  refine ⟨fun pins s σ H Q I h => ?_⟩
  refine wpAny_Call_Name_kw (ld_glob I hg hm ?_ hdb)
  refine PySem.W.callWith_KW (h₀ := X.base) I.ok.mod.kin hk hall (thn (ha.run pos pins s σ H _ I h) fun us s1 ⟨vs, H1, I1, r, q⟩ => ?_) hpl he
  refine thn (hkw.run pos pins s1 σ H1 _ I1 q) fun ws s2 ⟨zs, H2, I2, rz, l1, l2, q2⟩ => ⟨I2.kIn, ?_⟩
  rw [hks]
  exact run_fnKO F hr hb (hx σ) I2 r rz l1 l2 q2
def tMakeKO (C : Addr) (n m : Nat) (sp : Sp) (gV : List V → List V → List V) (E : L2.St → XK) (t tk : TA) : TE := fun σ H Q => t σ H fun vs H1 => tk σ H1 fun zs H2 => vs.length = n ∧ zs.length = m ∧ ∀ x dx, H2 x = none → H2 dx = none → dx ≠ x →
  sp (gV (.ref x :: vs) zs) (upd (upd H2 dx (.own x)) x (.ins C dx [])) (fun v H3 => v = .non ∧ Q (.ref x) H3) (E σ)
theorem run_makeKO {pins : List (Addr × Obj)} {σ : L2.St} {H : Hp} {s : Shared} {Q : VK} {us ws : List Value} {vs zs : List V} (M : Mk X.K C f) (F : FnOk X.prog X.w X.K X.mg X.base CX k f fd ps sp) (hr : Room (k + 1) X.A) (hb : KBn X.K fd ps (n + 1) ks g gV) (hx : PassesAt CX X σ (E σ))
    (I : Inv X pins σ H s) (r : L2.Vals vs us) (rz : L2.Vals zs ws) (l1 : vs.length = n) (l2 : zs.length = ks.length)
    (h : ∀ x dx, H x = none → H dx = none → dx ≠ x → sp (gV (.ref x :: vs) zs) (upd (upd H dx (.own x)) x (.ins C dx [])) (fun v H2 => v = .non ∧ Q (.ref x) H2) (E σ)) :
    wpAny (model X.prog X.w) X.A (call (.ref C) us (ks.zip ws)) (EP X pins σ Q) X.xe s := by
  have hq := h (s.heap.objs.size + 1) s.heap.objs.size (I.hok.fresh (Nat.le_succ _)) (I.hok.fresh (Nat.le_refl _)) (Nat.ne_of_lt (Nat.lt_succ_self _))
  have I2 := Inv.made (C := C) I
  have r1 : L2.Vals (V.ref (s.heap.objs.size + 1) :: vs) (Value.ref (s.heap.objs.size + 1) :: us) := .cons rfl r
  have r2 := hb.rel r1 rz
  have n1 : (Value.ref (s.heap.objs.size + 1) :: us).length = n + 1 := by
    rw [List.length_cons, ← r.length, l1]
  refine wpAny_call (make_map (f := f) I.kIn M.makes M.init (beq_iff_eq.mp M.fn) (codeAny_mono (F.run _ X.stack _ _ ⟨Value.ref (s.heap.objs.size + 1) :: us, ks.zip ws⟩ (g (Value.ref (s.heap.objs.size + 1) :: us) ws) _ _ (E σ) (hr.make C us (ks.zip ws))
    (I2.env0.make C us (ks.zip ws)) (hb.to _ (Value.ref (s.heap.objs.size + 1) :: us) ws I2.kIn n1 (rz.length.symm.trans l2)) r2 hq) fun r s' hq' => ?_))
  cases r with
  | error e => exact hx pins _ _ e s' I2 hq'
  | ok fl =>
    cases fl with
    | ret u =>
      obtain ⟨v, H', I3, rv, ev, q3⟩ := I2.after hq'
      subst ev
      exact ⟨rv, ⟨V.ref (s.heap.objs.size + 1), H', I3, rfl, q3⟩⟩
    | next => exact False.elim hq'
    | brk => exact False.elim hq'
    | cont => exact False.elim hq'
theorem pe_makeKO (M : Mk X.K C f) (F : FnOk X.prog X.w X.K X.mg X.base CX k f fd ps sp) (hr : Room (k + 1) X.A) (hg : Gl X x) (hm : X.mg x = some (.ref C)) (hb : KBn X.K fd ps (n + 1) ks g gV) (hx : ∀ σ, PassesAt CX X σ (E σ)) (ha : PA X (e :: es) t) (hkw : PK X kws tk)
    (hall : (backToKw pos (keywordEach kws X.env)).all (·.1.isSome) = true) (hks : (backToKw pos (keywordEach kws X.env)).filterMap (·.1) = ks) (hdb : (x == ("__debug__" : Str)) = false)
    (he : starEach (e :: es) X.env = (false, eval e X.env) :: starEach es X.env) (hpl : ((backTo pos (starEach (e :: es) X.env)).any (·.1) || (backToKw pos (keywordEach kws X.env)).any (·.1.isNone)) = false) :
    PE X (.Call (.Name x p) (e :: es) kws pos) (tMakeKO C n ks.length sp gV E t tk) := by
  refine ⟨fun pins s σ H Q I h => ?_⟩
  refine wpAny_Call_Name_kw (ld_glob I hg hm ?_ hdb)
  refine PySem.W.callWith_KW (h₀ := X.base) I.ok.mod.kin M.kp hall (thn (ha.run pos pins s σ H _ I h) fun us s1 ⟨vs, H1, I1, r, q⟩ => ?_) hpl he
  refine thn (hkw.run pos pins s1 σ H1 _ I1 q) fun ws s2 ⟨zs, H2, I2, rz, l1, l2, q2⟩ => ⟨I2.kIn, ?_⟩
  rw [hks]
  exact run_makeKO M F hr hb (hx σ) I2 r rz l1 l2 q2
theorem meth_eqK {o : Expr} {m : Str} {apos pos : Pos} {args : List Expr} {kws : List Keyword} {env : Env} (hbase : attributeBase o m env (eval o env) = eval o env)
    (hform : methodCallForm (args.length + kws.length) (backTo pos (starEach args env)) (backToKw pos (keywordEach kws env)) = true) (hline : (apos.endLine == pos.line) = true) :
    eval (.Call (.Attribute o m apos) args kws pos) env = (do
      let ov ← eval o env
      standAt apos.atName
      let (f, first) ← holding [ov] (getMethod ov m (plainOf o env))
      callWith pos f first (backTo pos (starEach args env)) (backToKw pos (keywordEach kws env))) := by
  rw [arm_eval_Call, hbase]
  simp only [mcall_line hform hline]
def tMethKO (C : Addr) (m : Str) (n j : Nat) (sp : Sp) (gV : List V → List V → List V) (E : L2.St → XK) (ta : TE) (t tk : TA) : TE := fun σ H Q => ta σ H fun x H1 => ∃ a dx fs, x = .ref a ∧ H1 a = some (.ins C dx fs) ∧ fs.lookup m = none ∧ t σ H1 fun vs H2 => tk σ H2 fun zs H3 => vs.length = n ∧ zs.length = j ∧ sp (gV (x :: vs) zs) H3 Q (E σ)
theorem pe_methKO {pl : Sem Bool} (he : PE X o ta) (c : Cls X.K C) (hm : Meth X.K C m f) (F : FnOk X.prog X.w X.K X.mg X.base CX k f fd ps sp) (hr : Room k X.A) (hb : KBn X.K fd ps (n + 1) ks g gV) (hx : ∀ σ, PassesAt CX X σ (E σ)) (ha : PA X (e :: es) t) (hkw : PK X kws tk)
    (hall : (backToKw pos (keywordEach kws X.env)).all (·.1.isSome) = true) (hks : (backToKw pos (keywordEach kws X.env)).filterMap (·.1) = ks)
    (hst : starEach (e :: es) X.env = (false, eval e X.env) :: starEach es X.env) (hpl : ((backTo pos (starEach (e :: es) X.env)).any (·.1) || (backToKw pos (keywordEach kws X.env)).any (·.1.isNone)) = false)
    (ht : eval (.Call (.Attribute o m apos) (e :: es) kws pos) X.env = (do
      let ov ← eval o X.env
      standAt apos.atName
      let (f, first) ← holding [ov] (getMethod ov m pl)
      callWith pos f first (backTo pos (starEach (e :: es) X.env)) (backToKw pos (keywordEach kws X.env)))) :
    PE X (.Call (.Attribute o m apos) (e :: es) kws pos) (tMethKO C m n ks.length sp gV E ta t tk) := by
  refine ⟨fun pins s σ H Q I h => ?_⟩
  refine PySem.W.methodCall_KW (pl := pl) (thn (he.run pins s σ H _ I h) fun u s1 ⟨x, H1, I1, rx, a, dx, fs, ex, ea, l, q⟩ => ?_) ht
  subst ex
  obtain rfl : u = Value.ref a := rx
  refine getmeth_ok I1 ea c hm l ?_
  refine PySem.W.callWith_KW (first := [.ref a]) (h₀ := X.base) I.ok.mod.kin hm.kp hall (thn (ha.run pos pins s1 σ H1 _ I1 q) fun us s2 ⟨vs, H2, I2, r, q2⟩ => ?_) hpl hst
  refine thn (hkw.run pos pins s2 σ H2 _ I2 q2) fun ws s3 ⟨zs, H3, I3, rz, l1, l2, q3⟩ => ⟨I3.kIn, ?_⟩
  rw [hks]
  exact run_fnKO (us := .ref a :: us) (vs := .ref a :: vs) F hr hb (hx σ) I3 (.cons rfl r) rz (by rw [List.length_cons, l1]) l2 q3
end
section
variable {P : Pm}
theorem relKs_any {κ : Type} [DecidableEq κ] {w : Wd} {k : κ} : ∀ {kvs : List (κ × D)} {us : List (κ × V)}, RelKs P w kvs us → (us.any fun kv => decide (kv.1 = k)) = (kvs.any fun kv => decide (kv.1 = k))
  | [], us, r => by
    have r : us = [] := r
    subst r; rfl
  | (j, d) :: kvs, us, ⟨v, us', e, h1, h2⟩ => by
    subst e
    rw [List.any_cons, List.any_cons, relKs_any h2]
theorem relKs_map {κ : Type} [DecidableEq κ] {w : Wd} {k : κ} {d : D} {v : V} (r : RelD P w d v) : ∀ {kvs : List (κ × D)} {us : List (κ × V)}, RelKs P w kvs us →
    RelKs P w (kvs.map fun kv => if kv.1 = k then (kv.1, d) else kv) (us.map fun kv => if kv.1 = k then (kv.1, v) else kv)
  | [], us, h => by
    have h : us = [] := h
    subst h; rfl
  | (j, d') :: kvs, us, ⟨v', us', e, h1, h2⟩ => by
    subst e
    rw [List.map_cons, List.map_cons]
    by_cases hj : j = k
    · simp only [hj, if_true]
      exact ⟨v, _, rfl, r, relKs_map r h2⟩
    · simp only [hj, if_false]
      exact ⟨v', _, rfl, h1, relKs_map r h2⟩
theorem relKs_snoc {κ : Type} {w : Wd} {k : κ} {d : D} {v : V} (r : RelD P w d v) : ∀ {kvs : List (κ × D)} {us : List (κ × V)}, RelKs P w kvs us → RelKs P w (kvs ++ [(k, d)]) (us ++ [(k, v)])
  | [], us, h => by
    have h : us = [] := h
    subst h; exact ⟨v, [], rfl, r, rfl⟩
  | (j, d') :: kvs, us, ⟨v', us', e, h1, h2⟩ => by
    subst e
    exact ⟨v', _, rfl, h1, relKs_snoc r h2⟩
theorem relKs_put {κ : Type} [DecidableEq κ] {w : Wd} {k : κ} {d : D} {v : V} {kvs : List (κ × D)} {us : List (κ × V)} (h : RelKs P w kvs us) (r : RelD P w d v) : RelKs P w (dctPut kvs k d) (putK us k v) := by
  unfold dctPut putK
  rw [relKs_any h]
  split
  · exact relKs_map r h
  · exact relKs_snoc r h
theorem relKs_lit {w : Wd} : ∀ {ks : List Str} {ds : List D} {vs : List V} {kvs : List (Option Key × D)} {us : List (Option Key × V)}, RelKs P w kvs us → RelDs P w ds vs → RelKs P w (dlitP ks ds kvs) (fPut (ks.zip vs) us)
  | [], ds, vs, kvs, us, h, r => by
    cases ds <;> exact h
  | k :: ks, [], vs, kvs, us, h, r => by
    have r : vs = [] := r
    subst r
    exact h
  | k :: ks, d :: ds, vs, kvs, us, h, r => by
    obtain ⟨v, vs', e, r1, r2⟩ := r
    subst e
    show RelKs P w (dlitP ks ds (dctPut kvs (some (.inr k)) d)) (fPut (ks.zip vs') (putK us (some (.inr k)) v))
    exact relKs_lit (relKs_put h r1) r2
end
theorem chkDs_len {C : Ctx} : ∀ (cs : CEs) {ks : List Str} {keys : List (Option Expr)} {vs : List Expr}, chkDs C ks cs keys vs = true → keys.length = ks.length ∧ vs.length = ks.length ∧ keys.all (·.isSome) = true
  | .nil, ks, keys, vs, h => by
    unfold chkDs at h
    split at h
    · exact ⟨rfl, rfl, rfl⟩
    · cases h
  | .cons c cs, ks, keys, vs, h => by
    unfold chkDs at h
    split at h
    · simp only [Bool.and_eq_true] at h
      obtain ⟨g1, g2, g3⟩ := chkDs_len cs h.2
      exact ⟨by rw [List.length_cons, List.length_cons, g1], by rw [List.length_cons, List.length_cons, g2], by rw [List.all_cons, g3]; rfl⟩
    · cases h
theorem relKs_getD {P : Pm} {κ : Type} [DecidableEq κ] {w : Wd} {k : κ} {z : D} {v : V} : ∀ {kvs : List (κ × D)} {us : List (κ × V)}, RelKs P w kvs us → RelD P w z v → RelD P w ((dctVal kvs k).getD z) ((valV us k).getD v)
  | [], us, h, r => by
    have h : us = [] := h
    subst h; exact r
  | (j, d) :: kvs, us, ⟨v', us', e, h1, h2⟩, r => by
    subst e
    by_cases hj : j = k
    · simp only [dctVal, valV, List.find?_cons, hj, decide_true]
      exact h1
    · have := relKs_getD (k := k) h2 r
      simp only [dctVal, valV, List.find?_cons, hj, decide_false] at this ⊢
      exact this
end DL
namespace DL
open PySem L2
structure SE (X : Cx) (P : Pm) (W : WX) (e : Expr) (r : RE × RT) : Prop where
  pe : PE X e (liE P W r.1)
  pt : PT X e (liT P W r.2)
  pw : ∀ op vs pos, e = .BoolOp op vs pos → PW X e (liT P W r.2)
def plainT : Expr → Bool
  | .UnaryOp .Not _ _ => false
  | .BoolOp .. => false
  | .IfExp .. => false
  | .Compare .. => false
  | _ => true
theorem relKs_no {P : Pm} {w : Wd} {f : Str} : ∀ {fs : List (Str × D)} {us : List (Str × V)}, RelKs P w fs us → (fs.map (·.1)).contains f = false → us.lookup f = none
  | [], us, h, _ => by
    have h : us = [] := h
    rw [h]; rfl
  | (k, d) :: r, _, ⟨v, us', e, h2, h3⟩, z => by
    subst e
    rw [List.map_cons, List.contains_cons, Bool.or_eq_false_iff] at z
    rw [List.lookup_cons, z.1]
    exact relKs_no h3 z.2
theorem zip_no {f : Str} : ∀ {ns : List Str} {vs : List V}, ns.contains f = false → (ns.zip vs).lookup f = none
  | [], _, _ => rfl
  | n :: ns, [], _ => rfl
  | n :: ns, v :: vs, z => by
    rw [List.contains_cons, Bool.or_eq_false_iff] at z
    rw [List.zip_cons_cons, List.lookup_cons, z.1]
    exact zip_no z.2
theorem EnvOk.blk {X : Cx} {P : Pm} {C : Ctx} {Φ : Nat → SpD} {κ : Nat → D} (O : EnvOk X P C Φ κ) (hot : C.X.hot = false) (s : Shared) (H : Hp) (scope : Scope) (A : Addr) (cl : List (Str × Addr)) (fp : List Addr) :
    EnvOk (X.blk s H scope (compEnvC scope cl A X.env) fp) P (C.blk scope) Φ κ where
  K := O.K
  pg := O.pg
  wl := O.wl
  calm := O.calm
  N := O.N
  nd := O.nd
  sc := by
    show relS scope X.env.scope = relS scope C.sc
    rw [O.sc]
  fn := fun x h => h
  hu := O.hu
  fun_ := O.fun_
  cst := O.cst
  blt := O.blt
  fl := O.fl
  mkr := O.mkr
  mt := O.mt
  kf := O.kf
  km := O.km
  kt := O.kt
  xs := O.xs
  xr := O.xr
  xi := O.xi
  xf := O.xf
  kd := O.kd
  hx := fun h => by
    have h : C.X.hot = true := h
    rw [hot] at h; cases h
  nst := fun n h => by cases h
theorem capsD_at {P : Pm} {w : Wd} {sd : Std} {σ : L2.St} (rs : RelSt P w sd σ) : ∀ {js : List Nat} {cs : List D}, capsD sd js = some cs → ∃ cvs : List V, js.map (NdefX.slotAt σ) = cvs.map some ∧ RelDs P w cs cvs
  | [], _, h => by cases h; exact ⟨[], rfl, rfl⟩
  | j :: js, cs, h => by
    unfold capsD at h
    split at h
    · rename_i d ds hd hds
      cases h
      obtain ⟨v, hv, r⟩ := rs.2 j d hd
      obtain ⟨cvs, h1, h2⟩ := capsD_at rs hds
      exact ⟨v :: cvs, by rw [List.map_cons, List.map_cons, h1, NdefX.slotAt_of hv], v, cvs, rfl, r, h2⟩
    · cases h
open PySem.Spec PyProof.Rows NdefX in
/-- a call of a function made here -/
theorem pe_callD {X : Cx} {i : Nat} {x : Str} {t : TA} {r : Addr → L2.St → List V → Hp → VK → Prop} {e : Expr} {es : List Expr} {p pos : Pos}
    (hr : ∀ (pins : List (Addr × Obj)) (s : Shared) (σ : L2.St) (H : Hp) (us : List Value) (vs : List V) (Q : VK) (f : Addr), Inv X pins σ H s → L2.Vals vs us → r f σ vs H Q → wpAny (model X.prog X.w) X.A (call (.ref f) us) (EP X pins σ Q) X.xe s)
    (hN : X.N[i]? = some x) (hv : Vis X.env.scope x) (ha : PA X (e :: es) t) (hd : (x == ("__debug__" : Str)) = false) (hcd : (x == ("__classdict__" : Str)) = false)
    (he : starEach (e :: es) X.env = (false, eval e X.env) :: starEach es X.env) (hpl : (backTo pos (starEach es X.env)).any (·.1) = false) :
    PE X (.Call (.Name x p) (e :: es) [] pos) (fun σ H Q => ∃ f F, σ[i]? = some (some (.ref f)) ∧ H f = some (FnO f F) ∧ t σ H fun vs H1 => (∃ F', H1 f = some (FnO f F')) ∧ r f σ vs H1 Q) := by
  refine ⟨fun pins s σ H Q I h => ?_⟩
  obtain ⟨f, F, hs, hf, ht⟩ := h
  refine wpAny_Call_Name_kw (thn ((pe_var (pos := p) hN hv hd hcd).run pins s σ H (fun v H1 => v = .ref f ∧ H1 = H) I ⟨.ref f, hs, rfl, rfl⟩) fun u s1 ⟨v, H1, I1, r1, q1⟩ => ?_)
  obtain ⟨ev, eH⟩ := q1
  subst ev
  rw [eH] at I1
  obtain rfl : u = Value.ref f := r1
  refine PySem.W.callWith_F (first := []) (fnAt_of I1 hf) (thn (ha.run pos pins s1 σ H _ I1 ht) fun us s2 ⟨vs, H2, I2, rv, ⟨F', h1⟩, q⟩ => ⟨fnAt_of I2 h1, ?_⟩) he hpl
  show wpAny _ _ (call (.ref f) us) _ _ _
  exact hr _ _ _ _ _ _ _ _ I2 rv q
section
variable {X : Cx} {P : Pm} {C : Ctx} {Φ : Nat → SpD} {κ : Nat → D} {W : WX}
theorem SE.val {e : Expr} {t : RE} (O : EnvOk X P C Φ κ) (h : PE X e (liE P W t)) (hp : plainT e = true) : SE X P W e (valT t) :=
  ⟨h, pt_of O h (by
    intro whole
    cases e <;> first
      | rfl
      | (exfalso; simp [plainT] at hp; done)
      | (rename_i op _ _; cases op <;> first | rfl | (exfalso; simp [plainT] at hp; done))), fun op vs pos q => by rw [q] at hp; exact absurd hp (by simp [plainT])⟩
theorem SE.tst {e : Expr} {t : RT} (h : PE X e (liE P W fun E σ M Q => t E σ M fun k M1 => Q (.bl k) M1)) (h2 : PT X e (liT P W t)) (hp : ∀ op vs pos, e ≠ .BoolOp op vs pos) : SE X P W e (tstT t) := ⟨h, h2, fun op vs pos q => absurd q (hp op vs pos)⟩
theorem liE_c {d : D} {v : V} (r : ∀ w, RelD P w d v) : ∀ σ H Q, liE P W (fun _ _ M Q => Q d M) σ H Q → tC v σ H Q := fun σ H Q q => by
  obtain ⟨w, M, sd, Qd, Ed, R, rs, l, lx, q⟩ := q
  exact l.same R (r w) q
/-- (fun k => Q (.bl k)) below -/
theorem lkT_of {w : Wd} {H : Hp} {Qd : QE} {Q : VK} (l : Lk P w H Qd Q) : LkT P w H (fun k M => Qd (.bl k) M) fun k H => Q (.bl k) H := fun w' M' H' b s R q => l w' M' H' (.bl b) _ s R rfl q
theorem LkT.on {w w' : Wd} {H H' : Hp} {Qd : Bool → Md → Prop} {Q : Bool → Hp → Prop} (l : LkT P w H Qd Q) (s : Step w H w' H') : LkT P w' H' Qd Q := fun w2 M2 H2 b s2 R q => l w2 M2 H2 b (s.trans s2) R q
theorem LkA.on {w w' : Wd} {H H' : Hp} {Qd : List D → Md → Prop} {Q : List V → Hp → Prop} (l : LkA P w H Qd Q) (s : Step w H w' H') : LkA P w' H' Qd Q := fun w2 M2 H2 b c s2 R r q => l w2 M2 H2 b c (s.trans s2) R r q
theorem LkO.on {w w' : Wd} {H H' : Hp} {Qd : Option Int → Md → Prop} {Q : Option Int → Hp → Prop} (l : LkO P w H Qd Q) (s : Step w H w' H') : LkO P w' H' Qd Q := fun w2 M2 H2 b s2 R q => l w2 M2 H2 b (s.trans s2) R q
theorem LkI.on {K : PySem.W.Frag} {w w' : Wd} {H H' : Hp} {Qd : List D → Option Nat → Md → Prop} {Q : It → Hp → Prop} (l : LkI P K w H Qd Q) (s : Step w H w' H') : LkI P K w' H' Qd Q := fun w2 M2 H2 a b c s2 R r q => l w2 M2 H2 a b c (s.trans s2) R r q
/-- built-ins by name -/
theorem sBt (O : EnvOk X P C Φ κ) {b : Bt} {x : Str} {p pos : Pos} {y : Expr} {ys : List Expr} {t : RA} (hb : ∀ T, b ≠ .isi T) (hx0 : okBltH C b x = true) (hy : plainE y = true) (hpl : (backTo pos (starEach ys X.env)).any (·.1) = false)
    (ha : PA X (y :: ys) (liA P W t)) : PE X (.Call (.Name x p) (y :: ys) [] pos) (liE P W fun E σ M Q => t E σ M fun ds M1 => btD b ds M1 Q) := by
  unfold okBltH at hx0
  rw [Bool.and_eq_true, Bool.or_eq_true, Bool.not_eq_true'] at hx0
  obtain ⟨hx, hot⟩ := hx0
  obtain ⟨hn, hg, hd, hm, _⟩ := blt_of O hx
  have cm : coolB b = false → X.calm = true := fun z => O.calm (by rcases hot with q | q; (rw [z] at q; cases q); exact q)
  have fin : ∀ {r : List V → Hp → VK → Prop}, (∀ xs H Q, liOA P (btD b) xs H Q → r xs H Q) → ∀ σ H Q, liE P W (fun E σ M Q => t E σ M fun ds M1 => btD b ds M1 Q) σ H Q → tCB r (liA P W t) σ H Q := fun {r} hr σ H Q q => by
    obtain ⟨w, M, sd, Qd, Ed, R, rs, l, lx, q⟩ := q
    exact ⟨w, M, sd, _, Ed, R, rs, fun w' M' H' ds vs s R' r' q => hr _ _ _ ⟨w', M', ds, Qd, R', r', l.on s, q⟩, lx, q⟩
  subst hn
  have st := star_of (es := ys) (env := X.env) hy
  cases b with
  | isi T => exact absurd rfl (hb T)
  | len => exact peI (pe_callB (bt_len O.K) hg hm (by show bootBuiltins "len" = _; exact PySem.boot_len) ha (by decide) hd st hpl) (fin fun _ _ _ h => h)
  | list => exact peI (pe_callTy (bt_list O.K false) hg hm (by show bootBuiltins "list" = _; decide +kernel) ha (by decide) hd st hpl) (fin fun _ _ _ h => h)
  | listM => exact peI (pe_callTy (bt_list O.K true) hg hm (by show bootBuiltins "list" = _; decide +kernel) ha (by decide) hd st hpl) (fin fun _ _ _ h => h)
  | tuple => exact peI (pe_callTy (bt_tuple O.K) hg hm (by show bootBuiltins "tuple" = _; decide +kernel) ha (by decide) hd st hpl) (fin fun _ _ _ h => h)
  | max2 => exact peI (pe_callB (bt_mm (cm rfl) true) hg hm (by show bootBuiltins "max" = _; decide +kernel) ha (by decide) hd st hpl) (fin fun _ _ _ h => h)
  | min2 => exact peI (pe_callB (bt_mm (cm rfl) false) hg hm (by show bootBuiltins "min" = _; decide +kernel) ha (by decide) hd st hpl) (fin fun _ _ _ h => h)
  | int => exact peI (pe_callTy bt_int hg hm (by show bootBuiltins "int" = _; decide +kernel) ha (by decide) hd st hpl) (fin fun _ _ _ h => h)
  | sorted => exact peI (pe_callB (bt_sorted O.K O.hu false) hg hm (by show bootBuiltins "sorted" = _; decide +kernel) ha (by decide) hd st hpl) (fin fun _ _ _ h => h)
  | sortedM => exact peI (pe_callB (bt_sorted O.K O.hu true) hg hm (by show bootBuiltins "sorted" = _; decide +kernel) ha (by decide) hd st hpl) (fin fun _ _ _ h => h)
  | sortedD => exact peI (pe_callB (bt_sortedD O.K O.pg O.wl O.hu (cm rfl)) hg hm (by show bootBuiltins "sorted" = _; decide +kernel) ha (by decide) hd st hpl) (fin fun _ _ _ h => h)
  | sum => exact peI (pe_callB (bt_sum O.K (cm rfl)) hg hm (by show bootBuiltins "sum" = _; decide +kernel) ha (by decide) hd st hpl) (fin fun _ _ _ h => h)
  | ord => exact peI (pe_callB bt_ord hg hm (by show bootBuiltins "ord" = _; decide +kernel) ha (by decide) hd st hpl) (fin fun _ _ _ h => h)
  | str => exact peI (pe_callTy bt_str hg hm (by show bootBuiltins "str" = _; decide +kernel) ha (by decide) hd st hpl) (fin fun _ _ _ h => h)
  | any => exact peI (pe_callB (bt_any O.K (cm rfl)) hg hm (by show bootBuiltins "any" = _; decide +kernel) ha (by decide) hd st hpl) (fin fun _ _ _ h => h)
  | all => exact peI (pe_callB (bt_all O.K (cm rfl)) hg hm (by show bootBuiltins "all" = _; decide +kernel) ha (by decide) hd st hpl) (fin fun _ _ _ h => h)
theorem obj_look {c g : Str} {w1 : Wd} {M1 : Md} {H1 : Hp} {d : D} {v : V} (R1 : RepM P w1 M1 H1) (r1 : RelD P w1 d v) (z : objD c g d M1) : ∃ a dx fs, v = .ref a ∧ H1 a = some (.ins (P.cls c) dx fs) ∧ fs.lookup g = none := by
  cases d with
  | ref k =>
    obtain ⟨p, e1, hp⟩ := r1
    subst e1
    unfold objD at z
    dsimp only at z
    cases hM : M1[k]? with
    | none => rw [hM] at z; exact z.elim
    | some mo =>
      rw [hM] at z
      cases mo with
      | ins c' us =>
        obtain ⟨q1, z⟩ := z
        subst q1
        obtain ⟨hF, dx, us, e2, hs⟩ := R1.cell k _ p hM hp
        exact ⟨p, dx, us, rfl, e2, relKs_no hs z⟩
      | _ => exact z.elim
  | obj c' ns ds =>
    obtain ⟨p, dx, vs, e1, hp, hl, hs⟩ := r1
    obtain ⟨q1, z⟩ := z
    subst q1; subst e1
    exact ⟨p, dx, ns.zip vs, rfl, R1.sub _ _ hp, zip_no z⟩
  | _ => exact z.elim
theorem plains {env : Env} {pos : Pos} : ∀ {cs : CEs} {es : List Expr}, chkEs C cs es = true → (backTo pos (starEach es env)).any (·.1) = false
  | .nil, [], _ => rfl
  | .nil, _ :: _, h => by simp [chkEs] at h
  | .cons _ _, [], h => by simp [chkEs] at h
  | .cons c cs, e :: es, h => by
    simp only [chkEs, Bool.and_eq_true] at h
    rw [star_of h.1.1]
    show (false || (backTo pos (starEach es env)).any (·.1)) = false
    rw [plains h.2]; rfl
theorem RelDs.scs {w : Wd} : ∀ {df : List Sc}, RelDs P w (df.map Sc.d) (df.map Sc.v)
  | [] => rfl
  | a :: df => ⟨a.v, _, rfl, by cases a <;> rfl, RelDs.scs⟩
/-- keywords by name, what they show -/
theorem chkKs_at {env : Env} {pos : Pos} {ks : List Str} : ∀ {zs : CEs} {ks : List Str} {kws : List Keyword}, chkKs C ks zs kws = true →
    (backToKw pos (keywordEach kws env)).all (·.1.isSome) = true ∧ (backToKw pos (keywordEach kws env)).filterMap (·.1) = ks ∧ (backToKw pos (keywordEach kws env)).any (·.1.isNone) = false
  | .nil, ks, kws, h => by
    unfold chkKs at h
    split at h
    · exact ⟨rfl, rfl, rfl⟩
    · cases h
  | .cons z zs, ks, kws, h => by
    unfold chkKs at h
    split at h
    · simp only [Bool.and_eq_true, beq_iff_eq] at h
      obtain ⟨⟨h1, h2⟩, h3⟩ := h
      obtain ⟨a, b, c⟩ := chkKs_at (env := env) (pos := pos) (ks := ks) h3
      refine ⟨?_, ?_, ?_⟩
      · show (true && (backToKw pos (keywordEach _ env)).all (·.1.isSome)) = true
        rw [a]; rfl
      · show _ :: (backToKw pos (keywordEach _ env)).filterMap (·.1) = _
        rw [b, h1]
      · show (false || (backToKw pos (keywordEach _ env)).any (·.1.isNone)) = false
        rw [c]; rfl
    · cases h
theorem kwform {ys : List Expr} {y : Expr} {kws : List Keyword} {env : Env} {pos : Pos} (h1 : (backTo pos (starEach (y :: ys) env)).any (·.1) = false) (h2 : (backToKw pos (keywordEach kws env)).all (·.1.isSome) = true) (h3 : ys.length + kws.length < 20) :
    methodCallForm ((y :: ys).length + kws.length) (backTo pos (starEach (y :: ys) env)) (backToKw pos (keywordEach kws env)) = true := by
  have e1 : (backTo pos (starEach (y :: ys) env)).all (fun x => !x.1) = true := by
    rw [List.all_eq_true]
    intro z hz
    have := List.any_eq_false.mp h1 z hz
    simpa using this
  unfold methodCallForm
  rw [e1, h2, Bool.true_and, Bool.true_and, decide_eq_true_eq, List.length_cons]
  split <;> omega
/-- a comprehension, from its parts -/
theorem sComp {m : Bool} {elt : CE} {t : Tg} {it : CI} {ifs : CO} {own : List Nat} {x tg iter : Expr} {fs : List Expr} {scope : Scope} {pos : Pos} (O : EnvOk X P C Φ κ) (tk : Takes X W)
    (h0 : (!C.X.hot && blkC C.N C.sc scope (own.filterMap fun i => (C.N[i]?).map fun n => (n, i))) = true) (h2 : (own.all fun i => decide (i < C.N.length)) = true) (h3 : (tgIdx t).all (fun i => own.contains i) = true) (h4 : plainE iter = true)
    (hg : ∀ (s : Shared) (H : Hp) (A : Addr) (cl : List (Str × Addr)) (fp : List Addr), PG (X.blk s H scope (compEnvC scope cl A X.env) fp) tg (liGC P (asgT t) (tgIdx t)))
    (hi : PI X tg iter (liI P X.K W (rdi Φ κ it)))
    (he : ∀ (s : Shared) (H : Hp) (A : Addr) (cl : List (Str × Addr)) (fp : List Addr), PE (X.blk s H scope (compEnvC scope cl A X.env) fp) x (liE P W0 (rd Φ κ elt).1))
    (ht : ∀ (s : Shared) (H : Hp) (A : Addr) (cl : List (Str × Addr)) (fp : List Addr), PTs (X.blk s H scope (compEnvC scope cl A X.env) fp) fs (liT P W0 (rdt Φ κ ifs))) :
    PE X (.ListComp x [⟨tg, iter, fs, 0⟩] scope pos) (liE P W (rd Φ κ (.comp m elt t it ifs own)).1) := by
  rw [Bool.and_eq_true, Bool.not_eq_true'] at h0
  obtain ⟨cm, h1⟩ := h0
  have e : (own.filterMap fun i => (C.N[i]?).map fun n => (n, i)).map (·.2) = own := by
    clear h1 h3
    induction own with
    | nil => rfl
    | cons i is ih =>
      rw [List.all_cons, Bool.and_eq_true, decide_eq_true_eq] at h2
      rw [List.filterMap_cons, List.getElem?_eq_getElem h2.1]
      simp only [Option.map_some, List.map_cons]
      rw [ih h2.2]
  refine peI (pe_lc (own := own.filterMap fun i => (C.N[i]?).map fun n => (n, i)) (O.calm cm) (by rw [O.N]; exact O.nd) hi (blkOk_by (by rw [O.N, O.sc]; exact h1)) hg ht he (folded_of h4)) fun σ H Q q => ?_
  rw [e]
  exact comp_lift (fun j hj => List.elem_iff.mp (List.all_eq_true.mp h3 j hj)) σ H Q q
theorem chkE_blt {C : Ctx} {b : Bt} {es : CEs} {e : Expr} (hb : ∀ T, b ≠ .isi T) : chkE C (.blt b es) e = (match e with
    | .Call (.Name x _) (y :: ys) [] _ => okBltH C b x && chkEs C es (y :: ys)
    | _ => false) := by
  cases b <;> first
    | rfl
    | (unfold chkE; rfl)
    | (exfalso; exact hb _ rfl)
theorem relDs_rg {P : Pm} {w : Wd} (a b : Int) : RelDs P w (rngD a b) (rgV a b) := by
  unfold rngD rgV
  generalize List.range (b - a).toNat = xs
  induction xs with
  | nil => exact rfl
  | cons x xs ih => exact ⟨_, _, rfl, rfl, ih⟩
/-- an object of the heap that nothing here names -/
theorem RepM.other {P : Pm} {w : Wd} {M : Md} {H : Hp} {p : Addr} (R : RepM P w M H) (h : H p = none) (o : HO) : RepM P w M (upd H p o) ∧ Step w H w (upd H p o) := by
  have hC : KpC w H w (upd H p o) := fun b q h1 h2 => ⟨h1, by rw [upd_ne fun z => by rw [z, h] at h2; cases h2]; exact h2⟩
  refine ⟨⟨fun a u e => ?_, R.len, R.nd, fun q hq => ?_, fun k m q hm hq => ?_, R.tab.on hC (fun a ps h1 h2 h3 => ⟨h1, h2, by rw [upd_ne fun z => by rw [z, h] at h3; cases h3]; exact h3⟩) (fun a ps z => z) fun b hb o' e => R.tab.nc b hb o' (by rw [upd_ne (fun z => R.inH b hb (by rw [z]; exact h))] at e; exact e)⟩, .refl _, fun a u e _ _ => ?_, fun a _ h1 h2 => ⟨h1, h2⟩, fun a e => upd_some e⟩
  · rw [upd_ne (ne_of_none (R.sub _ _ e) h)]; exact R.sub _ _ e
  · rw [upd_ne (fun z => R.inH q hq (by rw [z]; exact h))]; exact R.inH q hq
  · exact (R.cell k m q hm hq).mono (.refl _) (fun z => z) (upd_ne (fun z => R.inH q (List.mem_of_getElem? hq) (by rw [z]; exact h))) hC
  · rw [upd_ne (ne_of_none e h)]; exact e
theorem relKs_look {P : Pm} {w : Wd} {f : Str} : ∀ {fs : List (Str × D)} {us : List (Str × V)} {d : D}, RelKs P w fs us → fs.lookup f = some d → ∃ v, us.lookup f = some v ∧ RelD P w d v
  | [], _, _, _, h => by cases h
  | (g, x) :: fs, us, d, r, h => by
    obtain ⟨v, us', e, h2, h3⟩ := r
    subst e
    rw [List.lookup_cons] at h
    rw [List.lookup_cons]
    cases hb : f == g with
    | true => rw [hb] at h; cases h; exact ⟨v, rfl, h2⟩
    | false => rw [hb] at h; exact relKs_look h3 h
theorem relDs_look {P : Pm} {w : Wd} {f : Str} : ∀ {ns : List Str} {ds : List D} {vs : List V} {d : D}, ns.length = ds.length → RelDs P w ds vs → (ns.zip ds).lookup f = some d → ∃ v, (ns.zip vs).lookup f = some v ∧ RelD P w d v
  | [], _, _, _, _, _, h => by cases h
  | n :: ns, [], _, _, hl, _, _ => by cases hl
  | n :: ns, x :: ds, vs, d, hl, r, h => by
    obtain ⟨v, us', e, h2, h3⟩ := r
    subst e
    rw [List.zip_cons_cons, List.lookup_cons] at h
    rw [List.zip_cons_cons, List.lookup_cons]
    cases hb : f == n with
    | true => rw [hb] at h; cases h; exact ⟨v, rfl, h2⟩
    | false => rw [hb] at h; exact relDs_look (by simpa using hl) h3 h
theorem relKs_putF {P : Pm} {w : Wd} {f : Str} {d : D} {v : V} (rv : RelD P w d v) : ∀ {fs : List (Str × D)} {us : List (Str × V)}, RelKs P w fs us → RelKs P w (putFD f d fs) (putF f v us)
  | [], us, r => by
    have r : us = [] := r
    subst r
    exact ⟨v, [], rfl, rv, rfl⟩
  | (g, x) :: fs, us, r => by
    obtain ⟨y, us', e, h2, h3⟩ := r
    subst e
    unfold putFD putF
    by_cases h : g = f
    · rw [if_pos h, if_pos h]; exact ⟨v, us', rfl, rv, h3⟩
    · rw [if_neg h, if_neg h]; exact ⟨y, _, rfl, h2, relKs_putF rv h3⟩
theorem passNo {X : Cx} : Passes (L2.CX X.prog X.w) X fun _ _ _ => False := fun _ _ _ _ _ _ _ h => by
  obtain ⟨_, _, _, _, _, _, _, _, _, _, _, _, q⟩ := h
  exact q.elim
theorem make_fin {n : Nat} {c : Str} {m : Bool} {w : Wd} {H : Hp} {Q : VK} {Qd : QE} {Ed : EX} {E' : XK} {w1 : Wd} {M1 : Md} {H1 : Hp} {ds : List D} {vs : List V} (l : Lk P w H Qd Q) (lx : LkX P w H Ed E') (s1 : Step w H w1 H1) (R1 : RepM P w1 M1 H1) (r : RelDs P w1 ds vs)
    (q : Φ n (.ref M1.length :: ds) (M1 ++ [.ins c []]) (fun d M2 => d = .non ∧ if m = true then Qd (.ref M1.length) M2 else ∃ fs, M2 = M1 ++ [.ins c fs] ∧ RLtM M1.length (.ins c fs) ∧ Qd (.obj c (fs.map (·.1)) (fs.map (·.2))) M1) Ed) :
    ∀ x dx, H1 x = none → H1 dx = none → dx ≠ x → liSp P (Φ n) (.ref x :: vs) (upd (upd H1 dx (.own x)) x (.ins (P.cls c) dx [])) (fun v H2 => v = .non ∧ Q (.ref x) H2) E' := by
  intro xa dx hx hdx hne
  obtain ⟨R2, s2⟩ := R1.other hdx (.own xa)
  have hx2 : upd H1 dx (HO.own xa) xa = none := by rw [upd_ne (fun z => hne z.symm)]; exact hx
  obtain ⟨R3, s3⟩ := R2.newC hx2 (.ins (P.cls c) dx []) (.ins c []) .ins ⟨R2.Fnone hx2, dx, [], upd_same, rfl⟩
  have hself : RelD P { w1 with r := w1.r ++ [xa] } (.ref M1.length) (.ref xa) := ⟨xa, rfl, by show (w1.r ++ [xa])[M1.length]? = some xa; rw [R1.len]; simp⟩
  have le13 := s2.le.trans s3.le
  refine ⟨_, _, .ref M1.length :: ds, _, Ed, R3, ⟨.ref xa, vs, rfl, hself, r.mono le13⟩, fun w4 M4 H4 d v s4 R4 r4 q4 => ?_, lx.on ((s1.trans s2).trans s3), q⟩
  obtain ⟨q5, q6⟩ := q4
  subst q5
  refine ⟨r4, ?_⟩
  cases m with
  | true =>
    rw [if_pos rfl] at q6
    exact l w4 M4 H4 _ _ (((s1.trans s2).trans s3).trans s4) R4 (hself.mono s4.le) q6
  | false =>
    rw [if_neg Bool.false_ne_true] at q6
    obtain ⟨fs, e4, hlt, q6⟩ := q6
    subst e4
    obtain ⟨p', ep, hp'⟩ := hself.mono s4.le
    cases ep
    obtain ⟨w5, er, R5, s5, r5⟩ := R4.settleI (k := M1.length) (c := c) (fs := fs) (by simp) hp'
    have e5 : (M1 ++ [MO.ins c fs]).set M1.length .dead = M1 ++ [.dead] := by
      rw [List.set_append_right _ _ (Nat.le_refl _), Nat.sub_self]; rfl
    rw [e5] at R5
    have st := ((s2.trans s3).trans s4).trans s5
    have e6 : (M1 ++ [MO.dead]).take M1.length = M1 := by simp
    have R6 := R5.letgo (n := M1.length) (by simp) (by rw [e6]; exact R1.ok)
    rw [e6] at R6
    refine l _ M1 H4 _ _ (s1.trans (st.letgo (n := M1.length) (by rw [R1.len]; exact Nat.le_refl _))) R6 (r5.cut ?_) q6
    show RLts M1.length (fs.map (·.2))
    rw [RLts_iff]
    intro d hd
    obtain ⟨x, hx, rfl⟩ := List.mem_map.mp hd
    exact hlt x hx
/-- what stands of a held exception -/
theorem held_at {a Da : Addr} {oe : Obj} {od : Option Addr} {pins : List (Addr × Obj)} {σ : L2.St} {H : Hp} {st : Shared} (I : Inv X pins σ H st) (hp : (a, oe) ∈ X.pn) (hz : Zc (.ref Da) od oe) (hf : ∃ vs, oe.data = .fields vs)
    (hd : ∀ d, od = some d → ∃ us, H d = some (.xd us)) : ∃ odo : Option Obj, PySem.W.InstAt st.heap a oe Da odo ∧ ∀ d us, od = some d → H d = some (.xd us) → ∃ o2, odo = some o2 ∧ ∃ mA : Str → Option Value, (∀ f, PySem.W.lookIn f o2 = some (mA f)) ∧ ∀ f, RelO (us.lookup f) (mA f) := by
  obtain ⟨hget, _⟩ := I.pin (a, oe) (List.mem_append.mpr (.inl hp))
  obtain ⟨vs, hv⟩ := hf
  have hnc : PySem.W.notCls oe = true := by
    unfold PySem.W.notCls
    rw [hv] <;> rfl
  cases od with
  | none =>
    refine ⟨none, ⟨hget, hz.1, hnc, ?_⟩, fun d us z => by cases z⟩
    rw [hz.2]; trivial
  | some d =>
    obtain ⟨us, hu⟩ := hd d rfl
    have ok : ObjOk X.prog X.w H st.heap d (.xd us) := I.hok d _ hu
    obtain ⟨mA, n1, rel⟩ := ok
    obtain ⟨o2, ho, hl⟩ := lookIn_ns n1
    refine ⟨some o2, ⟨hget, hz.1, hnc, ?_⟩, fun d' us' z hu' => ?_⟩
    · rw [hz.2]; exact ho
    · cases z
      rw [hu] at hu'
      cases hu'
      exact ⟨o2, rfl, mA, hl, rel⟩
def rIsX (K : PySem.W.Frag) (Da a : Addr) (od : Option Addr) : List V → Hp → VK → Prop := fun xs H Q => ∃ (c : V) (cv : Value) (b : Bool), xs = [.ref a, c] ∧ (∀ u, RelV c u → u = cv) ∧ (∀ d, od = some d → ∃ us, H d = some (.xd us)) ∧ PySem.W.kitOne K (.ref Da) cv = some b ∧ Q (.bl b) H
theorem call_isX {a Da : Addr} {oe : Obj} {od : Option Addr} (hp : (a, oe) ∈ X.pn) (N : ExcN X.K Da) (hz : Zc (.ref Da) od oe) (hf : ∃ vs, oe.data = .fields vs) : CallR X (.builtin "isinstance") (rIsX X.K Da a od) := by
  intro pins st σ H xs us Q I rv q
  obtain ⟨c, cv, b, e, hc, hd, hk, q⟩ := q
  subst e
  cases rv with
  | cons r1 rr =>
    cases rr with
    | cons r2 rr =>
      cases rr
      cases r1
      cases hc _ r2
      obtain ⟨odo, J, _⟩ := held_at I hp hz hf hd
      exact PySem.W.kia_one (PySem.W.kitx_exc (x := a) (ox := oe) (od := odo) N.cl N.ga N.gt N.sb N.ca N.gs N.tk N.mr) I.kIn J hk (fun z => nomatch z) fun t => ⟨.bl b, H, I.kept (t' := t) fun _ _ z => z, rfl, q⟩
theorem ix_kd {es : Array DictEntry} {n : Nat} {d : Addr} (D : KDict X.K X.w d es n) : IxR X (fun x y H Q => ∃ (z : Str) (u0 : Value) (v0 : V), x = .ref d ∧ y = .str z ∧ PySem.W.nsIn X.K d z = some (some u0) ∧ RelV v0 u0 ∧ Q v0 H) := by
  intro value slice pins s σ H x y v u Q I rx ry h hs
  obtain ⟨z, u0, v0, rfl, rfl, e, r, q⟩ := h
  cases rx
  obtain ⟨t, rfl⟩ := ry
  refine PyProof.Rows.tail_any (kd_type D I) PySem.slot_dict_getitem.lookup ?_ hs
  exact PySem.wpAny_getItem_of (PySem.strKind_is X.prog X.w z t) (PySem.W.mapOf_K (prog := X.prog) I.kIn D.at_ D.lit) (PySem.W.find_K D.at_ e) ⟨v0, H, I.tok _, r, q⟩
theorem str_of {P : Pm} {w : Wd} {s : Str} {v : V} (r : RelD P w (.str s) v) : v = .str s := r
theorem sGin (O : EnvOk X P C Φ κ) {x : Str} {kv : List (Str × Str)} {l : Expr} {py pos : Pos} {t : RE} (h2 : okGlob C x = true) (h3 : C.X.kd.contains (x, kv) = true) (ia : PE X l (liE P W t)) :
    SE X P W (.Compare l [.In] [.Name x py] pos) (tstT fun E σ M Q => t E σ M fun d M1 => ginD kv d fun b => Q b M1) := by
  obtain ⟨a, es, n, hm, DD, tv⟩ := O.kd _ (List.elem_iff.mp h3)
  obtain ⟨g1, g2⟩ := glob_of O h2
  have ib : PE X (.Name x py) (tC (.ref a)) := pe_glob g1 hm rfl g2
  have key : ∀ {w : Wd} {M : Md} {H : Hp} {d : D} {v : V} {Qd : Bool → Md → Prop} {Q : VK}, RelD P w d v → (∀ b, Qd b M → Q (.bl b) H) → ginD kv d (fun b => Qd b M) → ∃ (z : Str) (r : Option Value), v = .str z ∧ V.ref a = .ref a ∧ PySem.W.nsIn X.K a z = some r ∧ Q (.bl r.isSome) H := by
    intro w M H d v Qd Q r l q
    cases d with
    | str s =>
      have e := str_of r
      subst e
      have q : Qd (kv.lookup s).isSome M := q
      have tz := tv s
      cases hl : kv.lookup s with
      | none =>
        simp only [hl] at tz q
        exact ⟨s, none, rfl, rfl, tz, l _ q⟩
      | some y =>
        simp only [hl] at tz q
        obtain ⟨u, e1, _⟩ := tz
        exact ⟨s, some u, rfl, rfl, e1, l _ q⟩
    | _ => exact q.elim
  refine .tst (peI (pe_cmpR (op_in_kd DD) ia ib (mark_of rfl)) fun σ H Q q => ?_) (ptI (pt_cmpR (op_in_kd DD) ia ib (mark_of rfl)) fun σ H Q q => ?_) (by intro _ _ _ z; cases z)
  · obtain ⟨w, M, sd, Qd, Ed, R, rs, l, lx, q⟩ := q
    refine ⟨w, M, sd, _, Ed, R, rs, fun w1 M1 H1 d v s1 R1 r1 q => ?_, lx, q⟩
    exact key (Qd := fun b M => Qd (.bl b) M) r1 (fun b q => l w1 M1 H1 (.bl b) _ s1 R1 rfl q) q
  · obtain ⟨w, M, sd, Qd, Ed, R, rs, l, lx, q⟩ := q
    refine ⟨w, M, sd, _, Ed, R, rs, fun w1 M1 H1 d v s1 R1 r1 q => ?_, lx, q⟩
    obtain ⟨z, r, e1, e2, e3, e4⟩ := key (Qd := fun b M => Qd b M) (Q := fun x H => ∃ k, x = .bl k ∧ Q k H) r1 (fun b q => ⟨b, rfl, l w1 M1 H1 b s1 R1 q⟩) q
    exact ⟨z, r, e1, e2, e3, e4⟩
theorem sGidx (O : EnvOk X P C Φ κ) {x : Str} {kv : List (Str × Str)} {l : Expr} {py pos : Pos} {t : RE} (h2 : okGlob C x = true) (h3 : C.X.kd.contains (x, kv) = true) (hp : plainE l = true) (ia : PE X l (liE P W t)) :
    SE X P W (.Subscript (.Name x py) l pos) (valT fun E σ M Q => t E σ M fun d M1 => gidxD kv d fun b => Q b M1) := by
  obtain ⟨a, es, n, hm, DD, tv⟩ := O.kd _ (List.elem_iff.mp h3)
  obtain ⟨g1, g2⟩ := glob_of O h2
  have ib : PE X (.Name x py) (tC (.ref a)) := pe_glob g1 hm rfl g2
  refine .val O (peI (pe_ix (ix_kd DD) ib ia (plain_ix hp)) fun σ H Q q => ?_) rfl
  obtain ⟨w, M, sd, Qd, Ed, R, rs, l, lx, q⟩ := q
  refine ⟨w, M, sd, _, Ed, R, rs, fun w1 M1 H1 d v s1 R1 r1 q => ?_, lx, q⟩
  cases d with
  | str s =>
    have e := str_of r1
    subst e
    have tz := tv s
    unfold gidxD at q
    cases hl : kv.lookup s with
    | none => simp only [hl] at q
    | some y =>
      simp only [hl] at tz q
      obtain ⟨u, e1, e2⟩ := tz
      exact ⟨s, u, .str y, rfl, rfl, e1, e2, l w1 M1 H1 (.str y) _ s1 R1 rfl q⟩
  | _ => exact q.elim
theorem sXis (O : EnvOk X P C Φ κ) {i : Nat} {T x y z : Str} {p py pz pos : Pos} (h1 : C.X.hot = true) (h2 : okBlt C "isinstance" x = true) (h3 : okVar C i y = true) (h4 : z = T) (h5 : (if T = ("ValueError" : Str) then okBlt C "ValueError" z else okGlob C z && C.X.xs.contains T) = true) :
    PE X (.Call (.Name x p) [.Name y py, .Name z pz] [] pos) (liE P W fun _ σ M Q => xheld σ i (κ 0) fun c _ _ => Q (.bl (xsub c T)) M) := by
  obtain ⟨a, od, c, ns, ds, oe, e0, hc, hp, hz, hf⟩ := O.hx h1
  obtain ⟨n1, g1, d1, m1, _⟩ := blt_of O h2
  obtain ⟨v1, v2, v3, v4⟩ := vis_of O h3
  subst n1
  obtain ⟨_, N, hv, _⟩ := O.xs c hc
  have hT : ∃ (tv : V) (cv : Value), PE X (.Name z pz) (tC tv) ∧ (∀ u, RelV tv u → u = cv) ∧ PySem.W.kitOne X.K (.ref (P.cls c)) cv = some (xsub c T) := by
    split at h5
    · next e =>
      obtain ⟨n2, g2, d2, m2, k2⟩ := blt_of O h5
      refine ⟨.ty "ValueError", .type "ValueError", pe_bltn g2 m2 (by rw [n2]; show bootBuiltins "ValueError" = _; decide +kernel) rfl k2 d2, fun u r => r, ?_⟩
      rw [hv, e]
      unfold xsub
      rw [show ((("ValueError" : Str) == ("ValueError" : Str)) : Bool) = true from beq_self_eq_true _]
      simp
    · rw [Bool.and_eq_true] at h5
      obtain ⟨g2, d2⟩ := glob_of O h5.1
      have hm : T ∈ C.X.xs := List.elem_iff.mp h5.2
      obtain ⟨k1, _, _, k3⟩ := O.xs T hm
      subst h4
      exact ⟨.ref (P.cls z), .ref (P.cls z), pe_glob g2 k1 rfl d2, fun u r => r, (k3 c hc).1⟩
  obtain ⟨tv, cv, hz2, hcv, hk⟩ := hT
  refine peI (pe_callB (call_isX hp N hz hf) g1 m1 (by show bootBuiltins "isinstance" = _; decide +kernel) (pa_cons (pe_var v1 v2 v3 v4) (pa_cons hz2 pa_nil)) (by decide) d1) fun σ H Q q => ?_
  obtain ⟨w, M, sd, Qd, Ed, R, rs, l, lx, q⟩ := q
  unfold xheld at q
  rw [e0] at q
  split at q
  · rename_i a1 od1 c1 ns1 ds1 a2 od2 c2 ns2 ds2 hs he
    cases he
    obtain ⟨q1, q2, q3, q⟩ := q
    subst q1 q2 q3
    obtain ⟨v, hv2, vs, e1, hw, _, _⟩ := rs.2 i _ hs
    subst e1
    exact ⟨_, hv2, tv, cv, _, rfl, hcv, fun d hd => ⟨_, R.sub _ _ (hw d hd)⟩, hk, l.same R (d := .bl _) rfl q⟩
  · exact q.elim
theorem sXfld (O : EnvOk X P C Φ κ) {i : Nat} {k f y : Str} {py pos : Pos} (h1 : C.X.hot = true) (h3 : okVar C i y = true) (h4 : C.X.xf.contains (k, f) = true) :
    PE X (.Attribute (.Name y py) f pos) (liE P W fun _ σ M Q => xdct (κ 0) ∧ xheld σ i (κ 0) fun c ns ds => c = k ∧ match (ns.zip ds).lookup f with
      | some x => Q x M
      | none => False) := by
  obtain ⟨a, od, c, ns, ds, oe, e0, hc, hp, hz, hf⟩ := O.hx h1
  obtain ⟨v1, v2, v3, v4⟩ := vis_of O h3
  obtain ⟨_, hno⟩ := O.xf _ (List.elem_iff.mp h4)
  obtain ⟨_, N, _, _⟩ := O.xs c hc
  refine ⟨fun pins st σ H Q I q => ?_⟩
  obtain ⟨w, M, sd, Qd, Ed, R, rs, l, lx, q0, q⟩ := q
  unfold xheld at q
  unfold xdct at q0
  rw [e0] at q q0
  split at q
  · rename_i a1 od1 c1 ns1 ds1 a2 od2 c2 ns2 ds2 hs he
    cases he
    obtain ⟨q1, q2, q3, q4, q⟩ := q
    subst q1 q2 q3 q4
    split at q
    · rename_i x hx
      obtain ⟨v, hv2, vs, e1, hw, hlen, hds⟩ := rs.2 i _ hs
      subst e1
      refine attr_of rfl (thn ((pe_var v1 v2 v3 v4).run pins st σ H (fun u H1 => u = .ref a1 ∧ H1 = H) I ⟨_, hv2, rfl, rfl⟩) fun u s1 hh => ?_)
      obtain ⟨u', H1, I1, ru, eu, eH⟩ := hh
      subst eu eH
      cases ru
      obtain ⟨vx, hvx, rx⟩ := relDs_look hlen hds hx
      cases od1 with
      | none => exact q0.elim
      | some d =>
        have hH := R.sub _ _ (hw d rfl)
        obtain ⟨odo, J, fin⟩ := held_at I1 hp hz hf fun d' e => by cases e; exact ⟨_, hH⟩
        obtain ⟨o2, e2, mA, hl, rel⟩ := fin d _ rfl hH
        subst e2
        obtain ⟨u, hu, ru⟩ := RelO.some_of (v := vx) (o := mA f) (by rw [← hvx]; exact rel f)
        exact HandSPX.exc_get I1.kIn J N.ga N.gt N.sb (PySem.W.findObj_own N.hd hno rfl (by rw [hl, hu])) (handed_of ru) ⟨vx, H1, I1.tok _, ru, l.same R rx q⟩
    · exact q.elim
  · exact q.elim
mutual
theorem sE : ∀ (c : CE) {X : Cx} {C : Ctx} {W : WX} {e : Expr}, EnvOk X P C Φ κ → Takes X W → chkE C c e = true → SE X P W e (rd Φ κ c)
  | .var i, X, C, W, e, O, tk, h => by
    unfold chkE at h
    split at h
    · rename_i x pos
      obtain ⟨h1, h2, h3, h4⟩ := vis_of O h
      refine .val O (peI (pe_var h1 h2 h3 h4) fun σ H Q q => ?_) rfl
      obtain ⟨w, M, sd, Qd, Ed, R, rs, l, lx, q⟩ := q
      split at q
      · rename_i d hd
        obtain ⟨v, hv, r⟩ := rs.2 i d hd
        exact ⟨v, hv, l.same R r q⟩
      · exact q.elim
    · cases h
  | .int i, X, C, W, e, O, tk, h => by
    unfold chkE at h
    split at h
    · rw [beq_iff_eq] at h
      subst h
      exact .val O (peI pe_int (liE_c (d := .int i) fun _ => rfl)) rfl
    · cases h
  | .str s, X, C, W, e, O, tk, h => by
    unfold chkE at h
    split at h
    · rw [beq_iff_eq] at h
      subst h
      exact .val O (peI pe_str (liE_c (d := .str s) fun _ => rfl)) rfl
    · cases h
  | .bl s, X, C, W, e, O, tk, h => by
    unfold chkE at h
    split at h
    · rw [beq_iff_eq] at h
      subst h
      exact .val O (peI pe_bl (liE_c (d := .bl s) fun _ => rfl)) rfl
    · cases h
  | .non, X, C, W, e, O, tk, h => by
    unfold chkE at h
    split at h
    · exact .val O (peI pe_non (liE_c (d := .non) fun _ => rfl)) rfl
    · cases h
  | .glob g, X, C, W, e, O, tk, h => by
    unfold chkE at h
    split at h
    · rename_i x pos
      rw [Bool.and_eq_true] at h
      obtain ⟨h1, h2⟩ := h
      split at h2
      · rename_i g' hg
        rw [beq_iff_eq] at h2
        subst h2
        obtain ⟨u, v, hm, r, rr⟩ := O.cst x g hg
        obtain ⟨g1, g2⟩ := glob_of O h1
        exact .val O (peI (pe_glob g1 hm r g2) (liE_c rr)) rfl
      · cases h2
    · cases h
  | .bin o a b, X, C, W, e, O, tk, h => by
    unfold chkE at h
    split at h
    · simp only [Bool.and_eq_true, beq_iff_eq] at h
      obtain ⟨⟨h1, h2⟩, h3⟩ := h
      subst h1
      exact .val O (peI (pe_op (op_sound O.K o) (sE a O tk h2).pe (sE b O tk h3).pe) (liE_op (o := opD o))) rfl
    · cases h
  | .neg a, X, C, W, e, O, tk, h => by
    unfold chkE at h
    split at h
    · refine .val O (peI (pe_un un_neg (sE a O tk h).pe) (liE_bind fun {w M H d v Qd Q} R r l q => ?_)) rfl
      cases d with
      | int i =>
        have r : v = .int i := r
        exact ⟨i, r, l.same R (d := .int _) rfl q⟩
      | _ => exact q.elim
    · cases h
  | .not a, X, C, W, e, O, tk, h => by
    unfold chkE at h
    split at h
    · have ih := sE a O tk h
      refine ⟨peI (pe_notT ih.pe) fun σ H Q q => ?_, ptI (pt_not ih.pt) fun σ H Q q => ?_, by intro _ _ _ z; cases z⟩
      · obtain ⟨w, M, sd, Qd, Ed, R, rs, l, lx, q⟩ := q
        refine ⟨w, M, sd, _, Ed, R, rs, fun w' M' H' d v s R' r q => ?_, lx, q⟩
        obtain ⟨k, h1, h2⟩ := truD_at R' r q
        exact ⟨k, O.K ▸ h1, (l.on s).same R' (d := .bl _) rfl h2⟩
      · obtain ⟨w, M, sd, Qd, Ed, R, rs, l, lx, q⟩ := q
        exact ⟨w, M, sd, _, Ed, R, rs, fun w' M' H' b s R' q => l w' M' H' (!b) s R' q, lx, q⟩
    · cases h
  | .and a b, X, C, W, e, O, tk, h => by
    unfold chkE at h
    split at h
    · rename_i x y rest pos
      rw [Bool.and_eq_true] at h
      have ia := sE a O tk h.1
      have both : PE X (.BoolOp .And (y :: rest) pos) (liE P W (rd Φ κ b).1) ∧ PW X (.BoolOp .And (y :: rest) pos) (liT P W (rd Φ κ b).2) := by
        have h2 := h.2
        split at h2
        · have ib := sE b O tk h2
          exact ⟨pe_one ib.pe, pw_and1 ib.pt⟩
        · have ib := sE b O tk h2
          exact ⟨ib.pe, ib.pw _ _ _ rfl⟩
      have pw : PW X (.BoolOp .And (x :: y :: rest) pos) (liT P W (rd Φ κ (.and a b)).2) := pwI (pw_and ia.pt both.2) fun σ H Q q => by
        obtain ⟨w, M, sd, Qd, Ed, R, rs, l, lx, q⟩ := q
        refine ⟨w, M, sd, _, Ed, R, rs, fun w' M' H' k s R' q => ?_, lx, q⟩
        cases k with
        | true => simp only [if_true] at q ⊢; exact ⟨w', M', sd, Qd, Ed, R', rs.mono s.le, l.on s, lx.on s, q⟩
        | false => simp only [Bool.false_eq_true, if_false] at q ⊢; exact l w' M' H' false s R' q
      refine ⟨peI (pe_andT ia.pe both.1) fun σ H Q q => ?_, pw.pt, fun op vs pos' z => by cases z; exact pw⟩
      obtain ⟨w, M, sd, Qd, Ed, R, rs, l, lx, q⟩ := q
      refine ⟨w, M, sd, _, Ed, R, rs, fun w' M' H' d v s R' r q => ?_, lx, q⟩
      obtain ⟨k, h1, h2⟩ := truD_at R' r q
      refine ⟨k, O.K ▸ h1, ?_⟩
      cases k with
      | true => simp only [if_true] at h2 ⊢; exact ⟨w', M', sd, Qd, Ed, R', rs.mono s.le, l.on s, lx.on s, h2⟩
      | false => simp only [Bool.false_eq_true, if_false] at h2 ⊢; exact l w' M' H' d v s R' r h2
    · cases h
  | .or a b, X, C, W, e, O, tk, h => by
    unfold chkE at h
    split at h
    · rename_i x y rest pos
      rw [Bool.and_eq_true] at h
      have ia := sE a O tk h.1
      have both : PE X (.BoolOp .Or (y :: rest) pos) (liE P W (rd Φ κ b).1) ∧ PW X (.BoolOp .Or (y :: rest) pos) (liT P W (rd Φ κ b).2) := by
        have h2 := h.2
        split at h2
        · have ib := sE b O tk h2
          exact ⟨pe_one ib.pe, pw_or1 ib.pt⟩
        · have ib := sE b O tk h2
          exact ⟨ib.pe, ib.pw _ _ _ rfl⟩
      have pw : PW X (.BoolOp .Or (x :: y :: rest) pos) (liT P W (rd Φ κ (.or a b)).2) := pwI (pw_or ia.pt both.2) fun σ H Q q => by
        obtain ⟨w, M, sd, Qd, Ed, R, rs, l, lx, q⟩ := q
        refine ⟨w, M, sd, _, Ed, R, rs, fun w' M' H' k s R' q => ?_, lx, q⟩
        cases k with
        | true => simp only [if_true] at q ⊢; exact l w' M' H' true s R' q
        | false => simp only [Bool.false_eq_true, if_false] at q ⊢; exact ⟨w', M', sd, Qd, Ed, R', rs.mono s.le, l.on s, lx.on s, q⟩
      refine ⟨peI (pe_orT ia.pe both.1) fun σ H Q q => ?_, pw.pt, fun op vs pos' z => by cases z; exact pw⟩
      obtain ⟨w, M, sd, Qd, Ed, R, rs, l, lx, q⟩ := q
      refine ⟨w, M, sd, _, Ed, R, rs, fun w' M' H' d v s R' r q => ?_, lx, q⟩
      obtain ⟨k, h1, h2⟩ := truD_at R' r q
      refine ⟨k, O.K ▸ h1, ?_⟩
      cases k with
      | true => simp only [if_true] at h2 ⊢; exact l w' M' H' d v s R' r h2
      | false => simp only [Bool.false_eq_true, if_false] at h2 ⊢; exact ⟨w', M', sd, Qd, Ed, R', rs.mono s.le, l.on s, lx.on s, h2⟩
    · cases h
  | .cmp c a b, X, C, W, e, O, tk, h => by
    unfold chkE at h
    split at h
    · simp only [Bool.and_eq_true, beq_iff_eq] at h
      obtain ⟨⟨⟨h1, h2⟩, h3⟩, h4⟩ := h
      subst h1
      have ia := sE a O tk h3
      have ib := sE b O tk h4
      refine .tst (peI (pe_cmpR (cp_sound O.K O.pg O.wl O.hu c) ia.pe ib.pe (mark_of h2)) (liE_op (o := cpR c))) (ptI (pt_cmpR (cp_sound O.K O.pg O.wl O.hu c) ia.pe ib.pe (mark_of h2)) liT_op) (by intro _ _ _ z; cases z)
    · cases h
  | .chain c1 c2 a b d, X, C, W, e, O, tk, h => by
    unfold chkE at h
    split at h
    · rename_i l op op2 r r2 pos
      simp only [Bool.and_eq_true, beq_iff_eq] at h
      obtain ⟨⟨⟨⟨⟨⟨h1, h2⟩, h3⟩, h4⟩, h5⟩, h6⟩, h7⟩ := h
      subst h1; subst h2
      have ia := sE a O tk h5
      have ib := sE b O tk h6
      have ic := sE d O tk h7
      have lm : lastMarks [cpO c1, cpO c2] [r, r2] = false := by
        show behindInMarks (cpO c2) r2 = false
        exact mark_of h4
      have key : ∀ {σ : L2.St} {H : Hp} {Q : VK} {K : Bool → Md → Prop}, (∃ w M sd Ed, RepM P w M H ∧ RelSt P w sd σ ∧ LkT P w H K (fun k H => Q (.bl k) H) ∧ LkX P w H Ed (WE W σ) ∧ (rd Φ κ (.chain c1 c2 a b d)).2 Ed sd M K) →
          tChain (liO2 P (cpR c1)) (liO2 P (cpR c2)) (liE P W (rd Φ κ a).1) (liE P W (rd Φ κ b).1) (liE P W (rd Φ κ d).1) σ H Q := fun {σ H Q K} q => by
        obtain ⟨w, M, sd, Ed, R, rs, l, lx, q⟩ := q
        refine ⟨w, M, sd, _, Ed, R, rs, fun w1 M1 H1 x v s1 R1 r1 q => ?_, lx, q⟩
        refine ⟨w1, M1, sd, _, Ed, R1, rs.mono s1.le, fun w2 M2 H2 y u s2 R2 r2 q => ?_, lx.on s1, q⟩
        have s12 := s1.trans s2
        refine ⟨w2, M2, x, y, fun z M => ∃ k, z = .bl k ∧ M = M2 ∧ if k = true then (rd Φ κ d).1 Ed sd M2 fun z M3 => cpD c2 y z M3 fun k => K k M3 else K false M2, R2, r1.mono s2.le, r2, fun w3 M3 H3 z t s3 R3 r3 q => ?_, ?_⟩
        · obtain ⟨k, e1, e2, q⟩ := q
          subst e1; subst e2
          have r3 : t = .bl k := r3
          have s13 := s12.trans s3
          refine ⟨k, r3, ?_⟩
          cases k with
          | true =>
            simp only [if_true] at q ⊢
            refine ⟨w3, M3, sd, _, Ed, R3, rs.mono s13.le, fun w4 M4 H4 z4 t4 s4 R4 r4 q => ?_, lx.on s13, q⟩
            refine ⟨w4, M4, y, z4, fun z M => ∃ k, z = .bl k ∧ K k M, R4, (r2.mono s3.le).mono s4.le, r4, fun w5 M5 H5 z5 t5 s5 R5 r5 q => ?_, ?_⟩
            · obtain ⟨k, e1, q⟩ := q
              subst e1
              have r5 : t5 = .bl k := r5
              subst r5
              exact l w5 M5 H5 k ((s13.trans s4).trans s5) R5 q
            · have e : (fun b => ∃ k, D.bl b = .bl k ∧ K k M4) = fun k => K k M4 := by
                funext b
                refine propext ⟨fun ⟨k, e, q⟩ => ?_, fun q => ⟨b, rfl, q⟩⟩
                cases e
                exact q
              show cpD c2 y z4 M4 fun b => ∃ k, D.bl b = .bl k ∧ K k M4
              rw [e]; exact q
          | false =>
            simp only [Bool.false_eq_true, if_false] at q ⊢
            exact l w3 M3 H3 false s13 R3 q
        · have e : (fun b => ∃ k, D.bl b = .bl k ∧ M2 = M2 ∧ if k = true then (rd Φ κ d).1 Ed sd M2 fun z M3 => cpD c2 y z M3 fun k => K k M3 else K false M2) = fun k => if k = true then (rd Φ κ d).1 Ed sd M2 fun z M3 => cpD c2 y z M3 fun k => K k M3 else K false M2 := by
            funext b
            refine propext ⟨fun ⟨k, e, _, q⟩ => ?_, fun q => ⟨b, rfl, rfl, q⟩⟩
            cases e
            exact q
          show cpD c1 x y M2 fun b => ∃ k, D.bl b = .bl k ∧ M2 = M2 ∧ if k = true then (rd Φ κ d).1 Ed sd M2 fun z M3 => cpD c2 y z M3 fun k => K k M3 else K false M2
          rw [e]; exact q
      refine .tst (peI (pe_chain (cp_sound O.K O.pg O.wl O.hu c1) (cp_sound O.K O.pg O.wl O.hu c2) ia.pe ib.pe ic.pe lm) fun σ H Q q => ?_) (ptI (pt_chain (cp_sound O.K O.pg O.wl O.hu c1) (cp_sound O.K O.pg O.wl O.hu c2) ia.pe ib.pe ic.pe lm) fun σ H Q q => ?_) (by intro _ _ _ z; cases z)
      · obtain ⟨w, M, sd, Qd, Ed, R, rs, l, lx, q⟩ := q
        exact key ⟨w, M, sd, Ed, R, rs, lkT_of l, lx, q⟩
      · obtain ⟨w, M, sd, Qd, Ed, R, rs, l, lx, q⟩ := q
        exact key (Q := fun x H => ∃ k, x = .bl k ∧ Q k H) ⟨w, M, sd, Ed, R, rs, fun w' M' H' b s R' q => ⟨b, rfl, l w' M' H' b s R' q⟩, lx, q⟩
    · cases h
  | .ife c a b, X, C, W, e, O, tk, h => by
    unfold chkE at h
    split at h
    · simp only [Bool.and_eq_true] at h
      have ic := sE c O tk h.1.1
      have ia := sE a O tk h.1.2
      have ib := sE b O tk h.2
      refine ⟨peI (pe_ifExp ic.pt ia.pe ib.pe) fun σ H Q q => ?_, ⟨fun pins s σ H Q I q => ?_⟩, by intro _ _ _ z; cases z⟩
      · obtain ⟨w, M, sd, Qd, Ed, R, rs, l, lx, q⟩ := q
        refine ⟨w, M, sd, _, Ed, R, rs, fun w' M' H' k s R' q => ?_, lx, q⟩
        cases k with
        | true => simp only [if_true] at q ⊢; exact ⟨w', M', sd, Qd, Ed, R', rs.mono s.le, l.on s, lx.on s, q⟩
        | false => simp only [Bool.false_eq_true, if_false] at q ⊢; exact ⟨w', M', sd, Qd, Ed, R', rs.mono s.le, l.on s, lx.on s, q⟩
      · obtain ⟨w, M, sd, Qd, Ed, R, rs, l, lx, q⟩ := q
        exact False.elim q
    · cases h
  | .tup es, X, C, W, e, O, tk, h => by
    unfold chkE at h
    split at h
    · refine .val O (peI (pe_tup (sEs es O tk h)) fun σ H Q q => ?_) rfl
      obtain ⟨w, M, sd, Qd, Ed, R, rs, l, lx, q⟩ := q
      exact ⟨w, M, sd, _, Ed, R, rs, fun w' M' H' ds vs s R' r q => ⟨by rw [r.length]; exact q.1, fun p hp => (l.on s).tup R' r hp q.2⟩, lx, q⟩
    · cases h
  | .lst m es, X, C, W, e, O, tk, h => by
    unfold chkE at h
    split at h
    · refine .val O (peI (pe_lst (sEs es O tk h)) fun σ H Q q => ?_) rfl
      obtain ⟨w, M, sd, Qd, Ed, R, rs, l, lx, q⟩ := q
      refine ⟨w, M, sd, _, Ed, R, rs, fun w' M' H' ds vs s R' r q => ⟨by rw [r.length]; exact q.1, fun p hp => ?_⟩, lx, q⟩
      cases m with
      | true => exact (l.on s).cell R' r hp q.2
      | false => exact (l.on s).lst R' r hp q.2
    · cases h
  | .idx a b, X, C, W, e, O, tk, h => by
    unfold chkE at h
    split at h
    · simp only [Bool.and_eq_true] at h
      exact .val O (peI (pe_ix (ix_sound O.K O.pg O.wl O.hu) (sE a O tk h.1.2).pe (sE b O tk h.2).pe (plain_ix h.1.1)) (liE_op (o := ixD))) rfl
    · cases h
  | .slc m a lo hi, X, C, W, e, O, tk, h => by
    unfold chkE at h
    split at h
    · simp only [Bool.and_eq_true] at h
      refine .val O (peI (pe_slice (sl_sound O.K m) (sE a O tk h.1.1).pe (sO lo O tk h.1.2) (sO hi O tk h.2)) fun σ H Q q => ?_) rfl
      obtain ⟨w, M, sd, Qd, Ed, R, rs, l, lx, q⟩ := q
      refine ⟨w, M, sd, _, Ed, R, rs, fun w1 M1 H1 d v s1 R1 r1 q => ?_, lx, q⟩
      refine ⟨w1, M1, sd, _, Ed, R1, rs.mono s1.le, fun w2 M2 H2 o s2 R2 q => ?_, lx.on s1, q⟩
      refine ⟨w2, M2, sd, _, Ed, R2, (rs.mono s1.le).mono s2.le, fun w3 M3 H3 o3 s3 R3 q => ?_, (lx.on s1).on s2, q⟩
      exact ⟨w3, M3, d, Qd, R3, (r1.mono s2.le).mono s3.le, ((l.on s1).on s2).on s3, q⟩
    · cases h
  | .call f es, X, C, W, e, O, tk, h => by
    unfold chkE at h
    split at h
    · rename_i x p ys pos
      simp only [Bool.and_eq_true] at h
      obtain ⟨⟨h1, h2⟩, h3⟩ := h
      split at h2
      · rename_i g hg
        rw [beq_iff_eq] at h2
        subst h2
        obtain ⟨k, a, fd, ps, hm, hk, F, hr, hb⟩ := O.fun_ x f hg
        obtain ⟨g1, g2⟩ := glob_of O h1
        cases ys with
        | nil =>
          have he : es = .nil := by
            cases es with
            | nil => rfl
            | cons c cs => simp [chkEs] at h3
          subst he
          refine .val O (peI (pe_call0S F hr g1 hm hk hb (fun σ => passAt tk σ) g2) fun σ H Q q => ?_) rfl
          obtain ⟨w, M, sd, Qd, Ed, R, rs, l, lx, q⟩ := q
          exact ⟨w, M, [], Qd, Ed, R, rfl, l, lx, q⟩
        | cons y ys =>
        have hy : plainE y = true := by
          cases es with
          | nil => simp [chkEs] at h3
          | cons c cs => simp only [chkEs, Bool.and_eq_true] at h3; exact h3.1.1
        have hpl : (backTo pos (starEach ys X.env)).any (·.1) = false := by
          cases es with
          | nil => simp [chkEs] at h3
          | cons c cs => simp only [chkEs, Bool.and_eq_true] at h3; exact plains h3.2
        refine .val O (peI (pe_callS F hr g1 hm hk hb (fun σ => passAt tk σ) (sEs es O tk h3) g2 (star_of hy) hpl) fun σ H Q q => ?_) rfl
        obtain ⟨w, M, sd, Qd, Ed, R, rs, l, lx, q⟩ := q
        exact ⟨w, M, sd, _, Ed, R, rs, fun w1 M1 H1 ds vs s R1 r q => ⟨w1, M1, ds, Qd, Ed, R1, r, l.on s, lx.on s, q⟩, lx, q⟩
      · cases h2
    · cases h
  | .calln i n js es, X, C, W, e, O, tk, h => by
    unfold chkE at h
    split at h
    · rename_i x p y ys pos
      simp only [Bool.and_eq_true] at h
      obtain ⟨⟨h1, h2⟩, h3⟩ := h
      obtain ⟨v1, v2, v3, v4⟩ := vis_of O h1
      have hy : plainE y = true := by
        cases es with
        | nil => simp [chkEs] at h3
        | cons c cs => simp only [chkEs, Bool.and_eq_true] at h3; exact h3.1.1
      have hpl : (backTo pos (starEach ys X.env)).any (·.1) = false := by
        cases es with
        | nil => simp [chkEs] at h3
        | cons c cs => simp only [chkEs, Bool.and_eq_true] at h3; exact plains h3.2
      refine .val O (peI (pe_callD (r := fun f σ vs H Q => ∃ cvs, js.map (NdefX.slotAt σ) = cvs.map some ∧ liSp P (Φ n) (.ref f :: (cvs ++ vs)) H Q (WE W σ)) (fun pins s σ H us vs Q f I rv ⟨cvs, q1, q⟩ => O.nst (n, js) (List.elem_iff.mp h2) cvs _ pins σ H s us vs f Q (passAt tk σ) I rv q1 q) v1 v2 (sEs es O tk h3) v3 v4 (star_of hy) hpl) fun σ H Q q => ?_) rfl
      obtain ⟨w, M, sd, Qd, Ed, R, rs, l, lx, q⟩ := q
      split at q
      · rename_i k cs hk hcs
        obtain ⟨v, hv, f, ev, hf⟩ := rs.2 i _ hk
        subst ev
        obtain ⟨q1, q⟩ := q
        have key : ∀ {w' M' H'}, RepM P w' M' H' → w'.r[k]? = some f → isFn M' k n → ∃ F, H' f = some (NdefX.FnO f F) := fun {w' M' H'} R' hf' z => by
          unfold isFn at z
          split at z
          · rename_i F m _ _ hm
            exact ⟨F, (R'.cell k _ f hm hf').2.1⟩
          · exact z.elim
        obtain ⟨F, hF⟩ := key R hf q1
        obtain ⟨cvs, hc1, hc2⟩ := capsD_at rs hcs
        refine ⟨f, F, hv, hF, w, M, sd, _, Ed, R, rs, fun w1 M1 H1 ds vs s1 R1 r1 q => ?_, lx, q⟩
        have hf1 := s1.le.r _ _ hf
        exact ⟨key R1 hf1 q.1, cvs, hc1, w1, M1, .ref k :: (cs ++ ds), Qd, Ed, R1, ⟨.ref f, cvs ++ vs, rfl, ⟨f, rfl, hf1⟩, (hc2.mono s1.le).append r1⟩, l.on s1, lx.on s1, q.2⟩
      · exact q.elim
    · cases h
  | .rev m a, X, C, W, e, O, tk, h => by
    unfold chkE at h
    split at h
    · rename_i x k p1 p2 p3 pos
      refine .val O (peI (pe_revL (sE a O tk h).pe) fun σ H Q q => ?_) rfl
      obtain ⟨w, M, sd, Qd, Ed, R, rs, l, lx, q⟩ := q
      refine ⟨w, M, sd, _, Ed, R, rs, fun w1 M1 H1 d v s1 R1 r1 q => ?_, lx, q⟩
      split at q
      · rename_i ds hl
        obtain ⟨p, vs, e1, e2, e3⟩ := lstOf_at R1 r1 hl
        refine ⟨p, vs, e1, SqL.of e2, fun q' hq => ?_⟩
        cases m with
        | true =>
          rw [if_pos rfl] at q
          exact (l.on s1).cell R1 e3.reverse hq q
        | false =>
          rw [if_neg Bool.false_ne_true] at q
          exact (l.on s1).lst R1 e3.reverse hq q
      · exact q.elim
    · cases h
  | .meth c m n o es, X, C, W, e, O, tk, h => by
    unfold chkE at h
    split at h
    · rename_i x g ap ys pos
      simp only [Bool.and_eq_true, beq_iff_eq, decide_eq_true_eq] at h
      obtain ⟨⟨⟨⟨⟨⟨h1, h2⟩, h3⟩, h4⟩, h5⟩, h6⟩, h7⟩ := h
      subst h1
      obtain ⟨k, f, fd, ps, hc, hm, F, hr, hb⟩ := O.mt _ (List.elem_iff.mp h5)
      have hpl0 : (backTo pos (starEach ys X.env)).any (·.1) = false := plains h7
      have hform : methodCallForm (ys.length + ([] : List Keyword).length) (backTo pos (starEach ys X.env)) (backToKw pos (keywordEach [] X.env)) = true := by
        have e1 : (backTo pos (starEach ys X.env)).all (fun x => !x.1) = true := by
          rw [List.all_eq_true]
          intro z hz
          have := List.any_eq_false.mp hpl0 z hz
          simpa using this
        show (((backTo pos (starEach ys X.env)).all (fun x => !x.1) && true) && decide (ys.length + 0 + 0 < 30)) = true
        rw [e1]
        simpa using h4
      have ht := meth_eq (o := x) (m := g) (apos := ap) (pos := pos) (args := ys) (env := X.env) (base_of h2) hform (beq_iff_eq.mpr h3)
      have look := @obj_look P c g
      cases ys with
      | nil =>
        have he : es = .nil := by
          cases es with
          | nil => rfl
          | cons c cs => simp [chkEs] at h7
        subst he
        refine .val O (peI (pe_methO0 (sE o O tk h6).pe hc hm F hr hb (fun σ => passAt tk σ) ht) fun σ H Q q => ?_) rfl
        obtain ⟨w, M, sd, Qd, Ed, R, rs, l, lx, q⟩ := q
        refine ⟨w, M, sd, _, Ed, R, rs, fun w1 M1 H1 d v s1 R1 r1 q => ?_, lx, q⟩
        obtain ⟨z, q⟩ := q
        obtain ⟨a, dx, fs, e1, e2, e3⟩ := look R1 r1 z
        exact ⟨a, dx, fs, e1, e2, e3, w1, M1, [d], Qd, Ed, R1, ⟨v, [], rfl, r1, rfl⟩, l.on s1, lx.on s1, q⟩
      | cons y ys =>
        have hy : plainE y = true := by
          cases es with
          | nil => simp [chkEs] at h7
          | cons c cs => simp only [chkEs, Bool.and_eq_true] at h7; exact h7.1.1
        have hpl : (backTo pos (starEach ys X.env)).any (·.1) = false := by
          cases es with
          | nil => simp [chkEs] at h7
          | cons c cs => simp only [chkEs, Bool.and_eq_true] at h7; exact plains h7.2
        refine .val O (peI (pe_methO (sE o O tk h6).pe hc hm F hr hb (fun σ => passAt tk σ) (sEs es O tk h7) (star_of hy) hpl ht) fun σ H Q q => ?_) rfl
        obtain ⟨w, M, sd, Qd, Ed, R, rs, l, lx, q⟩ := q
        refine ⟨w, M, sd, _, Ed, R, rs, fun w1 M1 H1 d v s1 R1 r1 q => ?_, lx, q⟩
        obtain ⟨z, q⟩ := q
        obtain ⟨a, dx, fs, e1, e2, e3⟩ := look R1 r1 z
        refine ⟨a, dx, fs, e1, e2, e3, w1, M1, sd, _, Ed, R1, rs.mono s1.le, fun w2 M2 H2 ds vs s2 R2 r2 q => ?_, lx.on s1, q⟩
        exact ⟨w2, M2, d :: ds, Qd, Ed, R2, ⟨v, vs, rfl, r1.mono s2.le, r2⟩, (l.on s1).on s2, (lx.on s1).on s2, q⟩
    · cases h
  | .xis i T, X, C, W, e, O, tk, h => by
    unfold chkE at h
    split at h
    · rename_i x p y py z pz pos
      simp only [Bool.and_eq_true, beq_iff_eq] at h
      obtain ⟨⟨⟨⟨h1, h2⟩, h3⟩, h4⟩, h5⟩ := h
      exact .val O (sXis O h1 h2 h3 h4 h5) rfl
    · cases h
  | .xfld i c f, X, C, W, e, O, tk, h => by
    unfold chkE at h
    split at h
    · rename_i y py g pos
      simp only [Bool.and_eq_true, beq_iff_eq] at h
      obtain ⟨⟨⟨h1, h2⟩, h3⟩, h4⟩ := h
      subst h2
      exact .val O (sXfld O h1 h3 h4) rfl
    · cases h
  | .gin x kv a, X, C, W, e, O, tk, h => by
    unfold chkE at h
    split at h
    · rename_i l y py pos
      simp only [Bool.and_eq_true, beq_iff_eq] at h
      obtain ⟨⟨⟨h1, h2⟩, h3⟩, h4⟩ := h
      subst h1
      exact sGin O h2 h3 (sE a O tk h4).pe
    · cases h
  | .gidx x kv a, X, C, W, e, O, tk, h => by
    unfold chkE at h
    split at h
    · rename_i y py z pos
      simp only [Bool.and_eq_true, beq_iff_eq] at h
      obtain ⟨⟨⟨⟨h1, h2⟩, h3⟩, h4⟩, h5⟩ := h
      subst h1
      exact sGidx O h2 h3 h4 (sE a O tk h5).pe
    · cases h
  | .blt b es, X, C, W, e, O, tk, h => by
    by_cases hT : ∃ T, b = .isi T
    · obtain ⟨T, hT⟩ := hT
      subst hT
      unfold chkE at h
      split at h
      · rename_i x p y z pz pos
        simp only [Bool.and_eq_true] at h
        obtain ⟨⟨⟨h1, h2⟩, h3⟩, h4⟩ := h
        split at h4
        · rename_i c
          rw [Bool.and_eq_true] at h4
          obtain ⟨n1, g1, d1, m1, _⟩ := blt_of O h1
          obtain ⟨n2, g2, d2, m2, k2⟩ := blt_of O h2
          rw [beq_iff_eq] at h3
          have hz : PE X (.Name z pz) (tC (.ty T)) := by
            exact pe_bltn g2 m2 h3 rfl k2 d2
          subst n1
          refine .val O (peI (pe_callB (bt_isi (T := T) O.K) g1 m1 (by show bootBuiltins "isinstance" = _; decide +kernel) (pa_cons (sE c O tk h4.2).pe (pa_cons hz pa_nil) (star_of h4.1)) (by decide) d1 (star_of h4.1)) fun σ H Q q => ?_) rfl
          obtain ⟨w, M, sd, Qd, Ed, R, rs, l, lx, q⟩ := q
          refine ⟨w, M, sd, _, Ed, R, rs, fun w1 M1 H1 d v s R1 r q => ?_, lx, q⟩
          exact ⟨v, rfl, w1, M1, [d], Qd, R1, .cons r .nil, l.on s, q⟩
        · cases h4
      · cases h
    · have hb : ∀ T, b ≠ .isi T := fun T z => hT ⟨T, z⟩
      have h' := (chkE_blt hb).symm.trans h
      split at h'
      · rename_i x p y ys pos
        rw [Bool.and_eq_true] at h'
        have hy : plainE y = true := by
          cases es with
          | nil => have := h'.2; simp [chkEs] at this
          | cons c cs => have := h'.2; simp only [chkEs, Bool.and_eq_true] at this; exact this.1.1
        have hpl : (backTo pos (starEach ys X.env)).any (·.1) = false := by
          cases es with
          | nil => have := h'.2; simp [chkEs] at this
          | cons c cs => have := h'.2; simp only [chkEs, Bool.and_eq_true] at this; exact plains this.2
        exact .val O (sBt O hb h'.1 hy hpl (sEs es O tk h'.2)) rfl
      · cases h'
  | .mth m o es, X, C, W, e, O, tk, h => by
    unfold chkE at h
    split at h
    · rename_i x n ap ys pos
      simp only [Bool.and_eq_true, beq_iff_eq] at h
      obtain ⟨⟨⟨⟨⟨h1, h2⟩, h3⟩, h4⟩, h5⟩, h6⟩ := h
      subst h1
      have io := sE o O tk h5
      have ies := sEs es O tk h6
      have fin : ∀ σ H Q, liE P W (rd Φ κ (.mth m o es)).1 σ H Q → liE P W (rd Φ κ o).1 σ H fun x H1 => tyV X.K (mtT m) x H1 ∧ liA P W (rds Φ κ es) σ H1 fun xs H2 => liM P m x xs H2 Q := fun σ H Q q => by
        obtain ⟨w, M, sd, Qd, Ed, R, rs, l, lx, q⟩ := q
        refine ⟨w, M, sd, _, Ed, R, rs, fun w1 M1 H1 d v s1 R1 r1 q => ⟨mtK_at O.K R1 r1 q.1, ?_⟩, lx, q⟩
        refine ⟨w1, M1, sd, _, Ed, R1, rs.mono s1.le, fun w2 M2 H2 ds vs s2 R2 r2 q => ?_, lx.on s1, q.2⟩
        exact ⟨w2, M2, d, ds, Qd, R2, r1.mono s2.le, r2, (l.on s1).on s2, q⟩
      cases ys with
      | nil =>
        have he : es = .nil := by
          cases es with
          | nil => rfl
          | cons c cs => simp [chkEs] at h6
        subst he
        refine .val O (peI (pe_bm0 (mt_pa m) (mt_slot m) (mt_type m) (mt_sound O.K m) io.pe (base_of h2) (beq_iff_eq.mpr h3)) fun σ H Q q => ?_) rfl
        obtain ⟨w, M, sd, Qd, Ed, R, rs, l, lx, q⟩ := q
        refine ⟨w, M, sd, _, Ed, R, rs, fun w1 M1 H1 d v s1 R1 r1 q => ⟨mtK_at O.K R1 r1 q.1, ?_⟩, lx, q⟩
        exact ⟨w1, M1, d, [], Qd, R1, r1, rfl, l.on s1, q.2⟩
      | cons y ys =>
        have hy : plainE y = true := by
          cases es with
          | nil => simp [chkEs] at h6
          | cons c cs => simp only [chkEs, Bool.and_eq_true] at h6; exact h6.1.1
        have hpl : (backTo pos (starEach ys X.env)).any (·.1) = false := by
          cases es with
          | nil => simp [chkEs] at h6
          | cons c cs => simp only [chkEs, Bool.and_eq_true] at h6; exact plains h6.2
        refine .val O (peI (pe_bm (mt_pa m) (mt_slot m) (mt_type m) (mt_sound O.K m) io.pe ies (base_of h2) ?_ (beq_iff_eq.mpr h3) (star_of hy) hpl) fin) rfl
        rw [star_of hy]
        have e1 : (backTo pos (starEach ys X.env)).all (fun x => !x.1) = true := by
          rw [List.all_eq_true]
          intro z hz
          have := List.any_eq_false.mp hpl z hz
          simpa using this
        have e2 : (y :: ys).length < 30 := by rw [h4]; cases m <;> decide
        show (((true && (backTo pos (starEach ys X.env)).all (fun x => !x.1)) && true) && decide ((y :: ys).length + 0 + 0 < 30)) = true
        rw [e1]
        simpa using e2
    · cases h
  | .comp m elt t it ifs own, X, C, W, e, O, tk, h => by
    unfold chkE at h
    split at h
    · rename_i x tg iter fs scope pos
      simp only [Bool.and_eq_true] at h
      obtain ⟨⟨⟨⟨⟨⟨⟨h1, h2⟩, h3⟩, h4⟩, h5⟩, h6⟩, h7⟩, h8⟩ := h
      have hot : C.X.hot = false := by have := h1.1; rwa [Bool.not_eq_true'] at this
      exact .val O (sComp O tk (by rw [Bool.and_eq_true]; exact h1) h2 h3 h4 (fun s H A cl fp => pgc_of (O.blk hot s H scope A cl fp) h5) (sI it O tk h6) (fun s H A cl fp => (sE elt (O.blk hot s H scope A cl fp) takes0 h7).pe) (fun s H A cl fp => sF ifs (O.blk hot s H scope A cl fp) takes0 h8)) rfl
    · cases h
  | .fld c a f, X, C, W, e, O, tk, h => by
    unfold chkE at h
    split at h
    · simp only [Bool.and_eq_true, beq_iff_eq] at h
      obtain ⟨⟨⟨h1, h2⟩, h3⟩, h4⟩ := h
      subst h1
      obtain ⟨hc, hn⟩ := O.fl _ (List.elem_iff.mp h2)
      refine .val O (peI (pe_fld (sE a O tk h4).pe (base_of h3)) fun σ H Q q => ?_) rfl
      obtain ⟨w, M, sd, Qd, Ed, R, rs, l, lx, q⟩ := q
      refine ⟨w, M, sd, _, Ed, R, rs, fun w1 M1 H1 d v s1 R1 r1 z => ?_, lx, q⟩
      clear q
      unfold fldD at z
      split at z
      · rename_i k
        obtain ⟨p, e1, hp⟩ := r1
        subst e1
        split at z
        · rename_i c' fs hm
          obtain ⟨q1, z⟩ := z
          subst q1
          split at z
          · rename_i x hx
            obtain ⟨hF, dx, us, e2, hs⟩ := R1.cell k _ p hm hp
            obtain ⟨v, hv, rv⟩ := relKs_look hs hx
            exact ⟨p, _, dx, us, v, rfl, e2, hc, hn, hv, (l.on s1) w1 M1 H1 _ _ (.refl _ _) R1 rv z⟩
          · exact z.elim
        · exact z.elim
      · rename_i c' ns ds
        obtain ⟨p, dx, vs, e1, hp, hl, hs⟩ := r1
        obtain ⟨q1, z⟩ := z
        subst q1; subst e1
        split at z
        · rename_i x hx
          obtain ⟨v, hv, rv⟩ := relDs_look hl hs hx
          exact ⟨p, _, dx, ns.zip vs, v, rfl, R1.sub _ _ hp, hc, hn, hv, (l.on s1) w1 M1 H1 _ _ (.refl _ _) R1 rv z⟩
        · exact z.elim
      · exact z.elim
    · cases h
  | .make m n c es, X, C, W, e, O, tk, h => by
    unfold chkE at h
    split at h
    · rename_i x p ys pos
      simp only [Bool.and_eq_true] at h
      obtain ⟨⟨h1, h2⟩, h3⟩ := h
      obtain ⟨k, f, fd, ps, hm, mk, F, hr, hb⟩ := O.mkr _ (List.elem_iff.mp h2)
      obtain ⟨g1, g2⟩ := glob_of O h1
      have fin : ∀ {w : Wd} {H : Hp} {Q : VK} {Qd : QE} {Ed : EX} {E' : XK} {w1 : Wd} {M1 : Md} {H1 : Hp} {ds : List D} {vs : List V}, Lk P w H Qd Q → LkX P w H Ed E' → Step w H w1 H1 → RepM P w1 M1 H1 → RelDs P w1 ds vs → _ → _ := fun l lx s1 R1 r q => make_fin (n := n) (c := c) (m := m) (Φ := Φ) l lx s1 R1 r q
      cases ys with
      | nil =>
        have he : es = .nil := by
          cases es with
          | nil => rfl
          | cons c cs => simp [chkEs] at h3
        subst he
        refine .val O (peI (pe_makeO0 mk F hr g1 hm hb (fun σ => passAt tk σ) g2) fun σ H Q q => ?_) rfl
        obtain ⟨w, M, sd, Qd, Ed, R, rs, l, lx, q⟩ := q
        exact fin (ds := []) (vs := []) l lx (.refl _ _) R RelDs.nil q
      | cons y ys =>
        have hy : plainE y = true := by
          cases es with
          | nil => simp [chkEs] at h3
          | cons c cs => simp only [chkEs, Bool.and_eq_true] at h3; exact h3.1.1
        have hpl : (backTo pos (starEach ys X.env)).any (·.1) = false := by
          cases es with
          | nil => simp [chkEs] at h3
          | cons c cs => simp only [chkEs, Bool.and_eq_true] at h3; exact plains h3.2
        refine .val O (peI (pe_makeO mk F hr g1 hm hb (fun σ => passAt tk σ) (sEs es O tk h3) g2 (star_of hy) hpl) fun σ H Q q => ?_) rfl
        obtain ⟨w, M, sd, Qd, Ed, R, rs, l, lx, q⟩ := q
        exact ⟨w, M, sd, _, Ed, R, rs, fun w1 M1 H1 ds vs s1 R1 r q => fin l lx s1 R1 r q, lx, q⟩
    · cases h
  | .callK f j es ks zs df, X, C, W, e, O, tk, h => by
    unfold chkE at h
    split at h
    · rename_i x p y ys kws pos
      simp only [Bool.and_eq_true, beq_iff_eq] at h
      obtain ⟨⟨⟨⟨h1, h5⟩, h2⟩, h3⟩, h4⟩ := h
      obtain ⟨k, a, fd, ps, g, hm, hk, F, hr, hb⟩ := O.kf _ (List.elem_iff.mp h2)
      obtain ⟨g1, g2⟩ := glob_of O h1
      have hy : plainE y = true := by
        cases es with
        | nil => simp [chkEs] at h3
        | cons c cs => simp only [chkEs, Bool.and_eq_true] at h3; exact h3.1.1
      have hpl := plains (env := X.env) (pos := pos) h3
      obtain ⟨k1, k2, k3⟩ := chkKs_at (env := X.env) (pos := pos) (ks := ks) h4
      refine .val O (peI (pe_callKO F hr g1 hm hk hb (fun σ => passAt tk σ) (sEs es O tk h3) (sKs zs O tk h4) k1 k2 g2 (star_of hy) (by rw [hpl, k3]; rfl)) fun σ H Q q => ?_) rfl
      obtain ⟨w, M, sd, Qd, Ed, R, rs, l, lx, q⟩ := q
      refine ⟨w, M, sd, _, Ed, R, rs, fun w1 M1 H1 ds vs s1 R1 r q => ?_, lx, q⟩
      obtain ⟨l1, q⟩ := q
      refine ⟨w1, M1, sd, _, Ed, R1, rs.mono s1.le, fun w2 M2 H2 us zs s2 R2 r2 q => ?_, lx.on s1, q⟩
      obtain ⟨l2, q⟩ := q
      exact ⟨by rw [r.length]; exact l1, by rw [r2.length]; exact l2, w2, M2, _, Qd, Ed, R2, (r.mono s2.le).append (r2.append RelDs.scs), (l.on s1).on s2, (lx.on s1).on s2, q⟩
    · cases h
  | .makeK m n c j es ks zs df, X, C, W, e, O, tk, h => by
    unfold chkE at h
    split at h
    · rename_i x p y ys kws pos
      simp only [Bool.and_eq_true, beq_iff_eq] at h
      obtain ⟨⟨⟨⟨h1, h5⟩, h2⟩, h3⟩, h4⟩ := h
      obtain ⟨k, f, fd, ps, g, hm, mk, F, hr, hb⟩ := O.km _ (List.elem_iff.mp h2)
      obtain ⟨g1, g2⟩ := glob_of O h1
      have hy : plainE y = true := by
        cases es with
        | nil => simp [chkEs] at h3
        | cons c cs => simp only [chkEs, Bool.and_eq_true] at h3; exact h3.1.1
      have hpl := plains (env := X.env) (pos := pos) h3
      obtain ⟨k1, k2, k3⟩ := chkKs_at (env := X.env) (pos := pos) (ks := ks) h4
      refine .val O (peI (pe_makeKO mk F hr g1 hm hb (fun σ => passAt tk σ) (sEs es O tk h3) (sKs zs O tk h4) k1 k2 g2 (star_of hy) (by rw [hpl, k3]; rfl)) fun σ H Q q => ?_) rfl
      obtain ⟨w, M, sd, Qd, Ed, R, rs, l, lx, q⟩ := q
      refine ⟨w, M, sd, _, Ed, R, rs, fun w1 M1 H1 ds vs s1 R1 r q => ?_, lx, q⟩
      obtain ⟨l1, q⟩ := q
      refine ⟨w1, M1, sd, _, Ed, R1, rs.mono s1.le, fun w2 M2 H2 us zs s2 R2 r2 q => ?_, lx.on s1, q⟩
      obtain ⟨l2, q⟩ := q
      refine ⟨by rw [r.length]; exact l1, by rw [r2.length]; exact l2, ?_⟩
      exact make_fin (n := n) (c := c) (m := m) (Φ := Φ) l lx (s1.trans s2) R2 ((r.mono s2.le).append (r2.append RelDs.scs)) q
    · cases h
  | .methK c m n o j es ks zs df, X, C, W, e, O, tk, h => by
    unfold chkE at h
    split at h
    · rename_i x g ap y ys kws pos
      simp only [Bool.and_eq_true, beq_iff_eq, decide_eq_true_eq] at h
      obtain ⟨⟨⟨⟨⟨⟨⟨⟨h1, h2⟩, h3⟩, h4⟩, h9⟩, h5⟩, h6⟩, h7⟩, h8⟩ := h
      subst h1
      obtain ⟨k, f, fd, ps, gg, hc, hm, F, hr, hb⟩ := O.kt _ (List.elem_iff.mp h5)
      have hy : plainE y = true := by
        cases es with
        | nil => simp [chkEs] at h7
        | cons c cs => simp only [chkEs, Bool.and_eq_true] at h7; exact h7.1.1
      have hpl := plains (env := X.env) (pos := pos) h7
      obtain ⟨k1, k2, k3⟩ := chkKs_at (env := X.env) (pos := pos) (ks := ks) h8
      have ht := meth_eqK (o := x) (m := g) (apos := ap) (pos := pos) (args := y :: ys) (kws := kws) (env := X.env) (base_of h2) (kwform hpl k1 h4) (beq_iff_eq.mpr h3)
      refine .val O (peI (pe_methKO (sE o O tk h6).pe hc hm F hr hb (fun σ => passAt tk σ) (sEs es O tk h7) (sKs zs O tk h8) k1 k2 (star_of hy) (by rw [hpl, k3]; rfl) ht) fun σ H Q q => ?_) rfl
      obtain ⟨w, M, sd, Qd, Ed, R, rs, l, lx, q⟩ := q
      refine ⟨w, M, sd, _, Ed, R, rs, fun w1 M1 H1 d v s1 R1 r1 q => ?_, lx, q⟩
      obtain ⟨z, q⟩ := q
      obtain ⟨a, dx, fs, e1, e2, e3⟩ := obj_look R1 r1 z
      refine ⟨a, dx, fs, e1, e2, e3, w1, M1, sd, _, Ed, R1, rs.mono s1.le, fun w2 M2 H2 ds vs s2 R2 r2 q => ?_, lx.on s1, q⟩
      obtain ⟨l1, q⟩ := q
      refine ⟨w2, M2, sd, _, Ed, R2, (rs.mono s1.le).mono s2.le, fun w3 M3 H3 us zs s3 R3 r3 q => ?_, (lx.on s1).on s2, q⟩
      obtain ⟨l2, q⟩ := q
      refine ⟨by rw [r2.length]; exact l1, by rw [r3.length]; exact l2, w3, M3, d :: (ds ++ (us ++ df.map Sc.d)), Qd, Ed, R3, ⟨v, _, rfl, (r1.mono s2.le).mono s3.le, ?_⟩, ((l.on s1).on s2).on s3, ((lx.on s1).on s2).on s3, q⟩
      exact (r2.mono s3.le).append (r3.append RelDs.scs)
    · cases h
  | .listRg m a, X, C, W, e, O, tk, h => by
    unfold chkE at h
    split at h
    · simp only [Bool.and_eq_true] at h
      obtain ⟨⟨⟨h1, h2⟩, h3, h5⟩, h4⟩ := h
      rw [Bool.not_eq_true'] at h5
      obtain ⟨hn, hg, hd, hm, _⟩ := blt_of O h1
      obtain ⟨hn2, hg2, hd2, hm2, _⟩ := blt_of O h2
      subst hn; subst hn2
      refine .val O (peI (pe_listRg (O.calm h5) hg hm (prg_1 hg2 hm2 (sE a O tk h4).pe (star_of h3)) rfl) fun σ H Q q => ?_) rfl
      obtain ⟨w, M, sd, Qd, Ed, R, rs, l, lx, q⟩ := q
      refine ⟨w, M, sd, _, Ed, R, rs, fun w1 M1 H1 d v s1 R1 r1 q => ?_, lx, q⟩
      cases d with
      | int j =>
        have r1 : v = .int j := r1
        subst r1
        obtain ⟨q1, q2, q⟩ := q
        refine ⟨j, rfl, ⟨by omega, by omega, by omega, by omega, by omega⟩, fun p hp => ?_⟩
        cases m with
        | true => exact (l.on s1).cell R1 (relDs_rg 0 j) hp q
        | false => exact (l.on s1).lst R1 (relDs_rg 0 j) hp q
      | _ => exact q.elim
    · cases h
  | .dnew, X, C, W, e, O, tk, h => by
    unfold chkE at h
    split at h
    · refine .val O (peI pe_dnewF fun σ H Q q => ?_) rfl
      obtain ⟨w, M, sd, Qd, Ed, R, rs, l, lx, q⟩ := q
      intro p hp
      rw [← O.pg, ← O.wl]
      have le : Le w { w with r := w.r ++ [p] } := ⟨fun _ _ e => e, fun k q e => by
        show (w.r ++ [p])[k]? = some q
        rw [List.getElem?_append_left (List.getElem?_eq_some_iff.mp e).1]; exact e⟩
      obtain ⟨R', s⟩ := R.newC hp (FD P.pg P.wl p []) (.dct []) .fd ⟨R.Fnone hp, [], upd_same, rfl⟩
      exact l _ _ _ (.ref M.length) _ s R' ⟨p, rfl, by show (w.r ++ [p])[M.length]? = some p; rw [R.len]; simp⟩ q
    · cases h
  | .dget o k x, X, C, W, e, O, tk, h => by
    unfold chkE at h
    split at h
    · rename_i y n ap a b pos
      simp only [Bool.and_eq_true, beq_iff_eq] at h
      obtain ⟨⟨⟨⟨⟨⟨⟨h1, h2⟩, h3⟩, h4⟩, h5⟩, h6⟩, h7⟩, h8⟩ := h
      subst h1
      have sb : starEach [a, b] X.env = [(false, eval a X.env), (false, eval b X.env)] := by rw [star_of h4, star_of h5]; rfl
      refine .val O (peI (pe_fget2 (by have := O.hu; omega) (sE o O tk h6).pe (sE k O tk h7).pe (sE x O tk h8).pe ⟨base_of h2, by rw [sb]; rfl, beq_iff_eq.mpr h3, by rw [sb]; rfl⟩) fun σ H Q q => ?_) rfl
      obtain ⟨w, M, sd, Qd, Ed, R, rs, l, lx, q⟩ := q
      refine ⟨w, M, sd, _, Ed, R, rs, fun w1 M1 H1 d v s1 R1 r1 q => ?_, lx, q⟩
      obtain ⟨⟨i, kvs, ed, hm⟩, q⟩ := q
      subst ed
      obtain ⟨p, ev, hp⟩ := r1
      obtain ⟨hF, us, e2, _⟩ := R1.cell i _ p hm hp
      rw [O.pg, O.wl] at e2
      refine ⟨p, us, ev, e2, ?_⟩
      refine ⟨w1, M1, sd, _, Ed, R1, rs.mono s1.le, fun w2 M2 H2 y v2 s2 R2 r2 q => ?_, lx.on s1, q⟩
      refine ⟨w2, M2, sd, _, Ed, R2, (rs.mono s1.le).mono s2.le, fun w3 M3 H3 z v3 s3 R3 r3 q => ?_, (lx.on s1).on s2, q⟩
      have hp3 : w3.r[i]? = some p := s3.le.2 _ _ (s2.le.2 _ _ hp)
      unfold dgetD at q
      dsimp only at q
      split at q
      · rename_i kvs3 hm3
        split at q
        · rename_i ky hk
          obtain ⟨hF3, us3, e3, hs3⟩ := R3.cell i _ p hm3 hp3
          have hv := keyD_at (r2.mono s3.le) hk
          rw [O.pg, O.wl] at e3
          refine ⟨us3, ky, e3, hv, ?_⟩
          exact (((l.on s1).on s2).on s3).same R3 (relKs_getD hs3 r3) q
        · exact q.elim
      · exact q.elim
    · cases h
  | .dlit ks es, X, C, W, e, O, tk, h => by
    unfold chkE at h
    split at h
    · rename_i keys vs pos
      simp only [Bool.and_eq_true, decide_eq_true_eq] at h
      obtain ⟨⟨h1, h2⟩, h3⟩ := h
      obtain ⟨g1, g2, g3⟩ := chkDs_len es h3
      refine .val O (peI (pe_dlitF (sDs es O tk h3) g3 (by rw [g1, g2]) (fun z => by rw [z] at g1; cases ks with
        | nil => cases h1
        | cons _ _ => cases g1) (by rw [g1]; exact h2) h2) fun σ H Q q => ?_) rfl
      obtain ⟨w, M, sd, Qd, Ed, R, rs, l, lx, q⟩ := q
      intro p hp
      rw [← O.pg, ← O.wl]
      have le : Le w { w with r := w.r ++ [p] } := ⟨fun _ _ e => e, fun k q e => by
        show (w.r ++ [p])[k]? = some q
        rw [List.getElem?_append_left (List.getElem?_eq_some_iff.mp e).1]; exact e⟩
      obtain ⟨R', s⟩ := R.newC hp (FD P.pg P.wl p []) (.dct []) .fd ⟨R.Fnone hp, [], upd_same, rfl⟩
      have hpw : ({ w with r := w.r ++ [p] } : Wd).r[M.length]? = some p := by show (w.r ++ [p])[M.length]? = some p; rw [R.len]; simp
      refine ⟨_, _, sd, _, Ed, R', rs.mono s.le, fun w2 M2 H2 ds us s2 R2 r2 q => ?_, lx.on s, q⟩
      obtain ⟨hm, q⟩ := q
      have hp2 : w2.r[M.length]? = some p := s2.le.2 _ _ hpw
      obtain ⟨hF, us0, e2, hs⟩ := R2.cell M.length _ p hm hp2
      have hs : us0 = [] := hs
      subst hs
      obtain ⟨R3, s3⟩ := R2.write (o := FD P.pg P.wl p (fPut (ks.zip us) [])) (m' := .dct (dlitP ks ds [])) hm hF hp2 .fd ⟨hF, _, upd_same, relKs_lit rfl r2⟩
      exact ⟨e2, l _ _ _ (.ref M.length) _ (s.trans (s2.trans s3)) R3 ⟨p, rfl, hp2⟩ q⟩
    · cases h
  | .dnewT, X, C, W, e, O, tk, h => by
    unfold chkE at h
    split at h
    · refine .val O (peI pe_dnewT fun σ H Q q => ?_) rfl
      obtain ⟨w, M, sd, Qd, Ed, R, rs, l, lx, q⟩ := q
      intro p hp
      rw [← O.pg, ← O.wl]
      have le : Le w { w with r := w.r ++ [p] } := ⟨fun _ _ e => e, fun k q e => by
        show (w.r ++ [p])[k]? = some q
        rw [List.getElem?_append_left (List.getElem?_eq_some_iff.mp e).1]; exact e⟩
      obtain ⟨R', s⟩ := R.newC hp (TD P.pg P.wl p []) (.dctT []) .td ⟨R.Fnone hp, [], upd_same, rfl⟩
      exact l _ _ _ (.ref M.length) _ s R' ⟨p, rfl, by show (w.r ++ [p])[M.length]? = some p; rw [R.len]; simp⟩ q
    · cases h
theorem sEs : ∀ (cs : CEs) {X : Cx} {C : Ctx} {W : WX} {es : List Expr}, EnvOk X P C Φ κ → Takes X W → chkEs C cs es = true → PA X es (liA P W (rds Φ κ cs))
  | .nil, X, C, W, es, O, tk, h => by
    unfold chkEs at h
    split at h
    · refine paI pa_nil fun σ H Q q => ?_
      obtain ⟨w, M, sd, Qd, Ed, R, rs, l, lx, q⟩ := q
      exact l w M H [] [] (.refl _ _) R rfl q
    · cases h
  | .cons c cs, X, C, W, es, O, tk, h => by
    unfold chkEs at h
    split at h
    · simp only [Bool.and_eq_true] at h
      refine paI (pa_cons (sE c O tk h.1.2).pe (sEs cs O tk h.2) (star_of h.1.1)) fun σ H Q q => ?_
      obtain ⟨w, M, sd, Qd, Ed, R, rs, l, lx, q⟩ := q
      refine ⟨w, M, sd, _, Ed, R, rs, fun w1 M1 H1 d v s1 R1 r1 q => ?_, lx, q⟩
      refine ⟨w1, M1, sd, _, Ed, R1, rs.mono s1.le, fun w2 M2 H2 ds vs s2 R2 r2 q => ?_, lx.on s1, q⟩
      exact l w2 M2 H2 (d :: ds) (v :: vs) (s1.trans s2) R2 (.cons (r1.mono s2.le) r2) q
    · cases h
theorem sKs : ∀ (cs : CEs) {X : Cx} {C : Ctx} {W : WX} {ks : List Str} {kws : List Keyword}, EnvOk X P C Φ κ → Takes X W → chkKs C ks cs kws = true → PK X kws (liA P W (rds Φ κ cs))
  | .nil, X, C, W, ks, kws, O, tk, h => by
    unfold chkKs at h
    split at h
    · refine ⟨fun pos pins s σ H Q I q => pk_nil.run pos pins s σ H Q I ?_⟩
      obtain ⟨w, M, sd, Qd, Ed, R, rs, l, lx, q⟩ := q
      exact l w M H [] [] (.refl _ _) R rfl q
    · cases h
  | .cons c cs, X, C, W, ks, kws, O, tk, h => by
    unfold chkKs at h
    split at h
    · simp only [Bool.and_eq_true] at h
      refine ⟨fun pos pins s σ H Q I q => (pk_cons (sE c O tk h.1.2).pe (sKs cs O tk h.2)).run pos pins s σ H Q I ?_⟩
      obtain ⟨w, M, sd, Qd, Ed, R, rs, l, lx, q⟩ := q
      refine ⟨w, M, sd, _, Ed, R, rs, fun w1 M1 H1 d v s1 R1 r1 q => ?_, lx, q⟩
      refine ⟨w1, M1, sd, _, Ed, R1, rs.mono s1.le, fun w2 M2 H2 ds vs s2 R2 r2 q => ?_, lx.on s1, q⟩
      exact l w2 M2 H2 (d :: ds) (v :: vs) (s1.trans s2) R2 (.cons (r1.mono s2.le) r2) q
    · cases h
theorem sDs : ∀ (cs : CEs) {X : Cx} {C : Ctx} {W : WX} {ks : List Str} {keys : List (Option Expr)} {vs : List Expr}, EnvOk X P C Φ κ → Takes X W → chkDs C ks cs keys vs = true → PD X ks keys vs (liA P W (rds Φ κ cs))
  | .nil, X, C, W, ks, keys, vs, O, tk, h => by
    unfold chkDs at h
    split at h
    · refine ⟨fun pos pins s σ H Q I q => pd_nil.run pos pins s σ H Q I ?_⟩
      obtain ⟨w, M, sd, Qd, Ed, R, rs, l, lx, q⟩ := q
      exact l w M H [] [] (.refl _ _) R rfl q
    · cases h
  | .cons c cs, X, C, W, ks, keys, vs, O, tk, h => by
    unfold chkDs at h
    split at h
    · simp only [Bool.and_eq_true, beq_iff_eq] at h
      obtain ⟨⟨h1, h2⟩, h3⟩ := h
      subst h1
      refine ⟨fun pos pins s σ H Q I q => (pd_cons (sE c O tk h2).pe (sDs cs O tk h3)).run pos pins s σ H Q I ?_⟩
      obtain ⟨w, M, sd, Qd, Ed, R, rs, l, lx, q⟩ := q
      refine ⟨w, M, sd, _, Ed, R, rs, fun w1 M1 H1 d v s1 R1 r1 q => ?_, lx, q⟩
      refine ⟨w1, M1, sd, _, Ed, R1, rs.mono s1.le, fun w2 M2 H2 ds vs s2 R2 r2 q => ?_, lx.on s1, q⟩
      exact l w2 M2 H2 (d :: ds) (v :: vs) (s1.trans s2) R2 (.cons (r1.mono s2.le) r2) q
    · cases h
theorem sO : ∀ (c : CO) {X : Cx} {C : Ctx} {W : WX} {e : Option Expr}, EnvOk X P C Φ κ → Takes X W → chkO C c e = true → PO X e (liO P W (rdo Φ κ c))
  | .none, X, C, W, e, O, tk, h => by
    unfold chkO at h
    split at h
    · refine poI po_none fun σ H Q q => ?_
      obtain ⟨w, M, sd, Qd, Ed, R, rs, l, lx, q⟩ := q
      exact l w M H none (.refl _ _) R q
    · cases h
  | .some c, X, C, W, e, O, tk, h => by
    unfold chkO at h
    split at h
    · refine poI (po_some (sE c O tk h).pe) fun σ H Q q => ?_
      obtain ⟨w, M, sd, Qd, Ed, R, rs, l, lx, q⟩ := q
      refine ⟨w, M, sd, _, Ed, R, rs, fun w1 M1 H1 d v s1 R1 r1 q => ?_, lx, q⟩
      cases d with
      | int i =>
        have r1 : v = .int i := r1
        exact ⟨i, r1, l w1 M1 H1 (some i) s1 R1 q⟩
      | _ => exact q.elim
    · cases h
theorem sF : ∀ (c : CO) {X : Cx} {C : Ctx} {W : WX} {e : List Expr}, EnvOk X P C Φ κ → Takes X W → chkF C c e = true → PTs X e (liT P W (rdt Φ κ c))
  | .none, X, C, W, e, O, tk, h => by
    unfold chkF at h
    split at h
    · refine ⟨fun pins s σ H Q I q => pts_nil.run pins s σ H Q I ?_⟩
      obtain ⟨w, M, sd, Qd, Ed, R, rs, l, lx, q⟩ := q
      exact l w M H true (.refl _ _) R q
    · cases h
  | .some c, X, C, W, e, O, tk, h => by
    unfold chkF at h
    split at h
    · exact pts_one (sE c O tk h).pt
    · cases h
theorem sI : ∀ (c : CI) {X : Cx} {C : Ctx} {W : WX} {tg e : Expr}, EnvOk X P C Φ κ → Takes X W → chkI C c e = true → PI X tg e (liI P X.K W (rdi Φ κ c))
  | .seq c, X, C, W, tg, e, O, tk, h => by
    unfold chkI at h
    rw [Bool.and_eq_true] at h
    refine piI (pi_seq (sE c O tk h.2).pe) fun σ H Q q => ?_
    obtain ⟨w, M, sd, Qd, Ed, R, rs, l, lx, q⟩ := q
    refine ⟨w, M, sd, _, Ed, R, rs, fun w1 M1 H1 d v s1 R1 r1 q => ?_, lx, q⟩
    split at q
    · rename_i ds hds
      obtain ⟨a, e1, z⟩ := itOk_seq O.K R1 r1 hds
      refine ⟨a, e1, ?_⟩
      rcases z with ⟨z1, z2⟩ | ⟨z1, z2⟩
      · exact .inl ⟨z1, l w1 M1 H1 _ _ _ s1 R1 z2 q⟩
      · exact .inr ⟨z1, l w1 M1 H1 _ _ _ s1 R1 z2 q⟩
    · exact q.elim
  | .chars c, X, C, W, tg, e, O, tk, h => by
    unfold chkI at h
    rw [Bool.and_eq_true] at h
    refine piI (pi_str (sE c O tk h.2).pe) fun σ H Q q => ?_
    obtain ⟨w, M, sd, Qd, Ed, R, rs, l, lx, q⟩ := q
    refine ⟨w, M, sd, _, Ed, R, rs, fun w1 M1 H1 d v s1 R1 r1 q => ?_, lx, q⟩
    cases d with
    | str z =>
      have r1 : v = .str z := r1
      exact ⟨z, r1, l w1 M1 H1 _ _ _ s1 R1 (.chr rfl) q⟩
    | _ => exact q.elim
  | .rng1 c, X, C, W, tg, e, O, tk, h => by
    unfold chkI at h
    split at h
    · simp only [Bool.and_eq_true] at h
      obtain ⟨hn, hg, hd, hm, _⟩ := blt_of O h.1.1
      subst hn
      refine piI (pi_range1 hg hm (pa_cons (sE c O tk h.2).pe pa_nil (star_of h.1.2)) (star_of h.1.2)) fun σ H Q q => ?_
      obtain ⟨w, M, sd, Qd, Ed, R, rs, l, lx, q⟩ := q
      refine ⟨w, M, sd, _, Ed, R, rs, fun w1 M1 H1 d v s1 R1 r1 q => ?_, lx, q⟩
      cases d with
      | int j =>
        have r1 : v = .int j := r1
        subst r1
        refine ⟨j, rfl, q.1, q.2.1, ?_⟩
        have z := l w1 M1 H1 _ _ _ s1 R1 (.rng (i := 0) (j := j) rfl) q.2.2
        simpa using z
      | _ => exact q.elim
    · cases h
  | .rng2 c c2, X, C, W, tg, e, O, tk, h => by
    unfold chkI at h
    split at h
    · simp only [Bool.and_eq_true] at h
      obtain ⟨hn, hg, hd, hm, _⟩ := blt_of O h.1.1.1.1
      subst hn
      refine piI (pi_range2 hg hm (pa_cons (sE c O tk h.1.2).pe (pa_cons (sE c2 O tk h.2).pe pa_nil (star_of h.1.1.2)) (star_of h.1.1.1.2)) (by rw [star_of h.1.1.1.2, star_of h.1.1.2]; rfl) (by rw [star_of h.1.1.2]; rfl)) fun σ H Q q => ?_
      obtain ⟨w, M, sd, Qd, Ed, R, rs, l, lx, q⟩ := q
      refine ⟨w, M, sd, _, Ed, R, rs, fun w1 M1 H1 d v s1 R1 r1 q => ?_, lx, q⟩
      refine ⟨w1, M1, sd, _, Ed, R1, rs.mono s1.le, fun w2 M2 H2 d2 v2 s2 R2 r2 q => ?_, lx.on s1, q⟩
      cases d <;> cases d2 <;> first | exact False.elim q | skip
      have r1 : v = .int _ := r1
      have r2 : v2 = .int _ := r2
      subst r1; subst r2
      obtain ⟨q1, q2, q3, q4, q⟩ := q
      exact ⟨_, _, rfl, ⟨q1, q2, q3, q4⟩, l w2 M2 H2 _ _ _ (s1.trans s2) R2 (.rng rfl) q⟩
    · cases h
end
end
end DL
namespace DL
open PySem L2
theorem swaps_cell {e : Expr} {x : Str} {p : Pos} {l : Nat} {env : Env} (h : env.scope.names.lookup x = some .cell) : swapsWith e (some (.Name x p)) l env = pure false := by
  have k : env.kindOf x = some .cell := h
  cases e <;> first
    | rfl
    | (unfold swapsWith; simp only [k]; cases hb : (env.blockKind == ScopeKind.function) <;> rfl)
    | (unfold swapsWith; simp only [k]; cases hb : (env.blockKind == ScopeKind.function) <;> simp; done)
theorem sole_tuple {t e : Expr} {l : Nat} {env : Env} (ht : ∀ x p, t ≠ .Name x p) : swapsWithSole [t] e l env = pure false := by
  cases t <;> first
    | exact absurd rfl (ht _ _)
    | (cases e <;> rfl)
theorem swst_none {t e : Expr} {env : Env} (h : notTuple e = true) : swappedStores [t] e env = pure none := by
  cases e <;> first
    | (exfalso; simp [notTuple] at h; done)
    | (unfold swappedStores; cases t <;> rfl)
theorem swst_many {t e : Expr} {env : Env} (h : manyTuple e = true) : swappedStores [t] e env = pure none := by
  cases e with
  | Tuple vs k p =>
    have h : 3 < vs.length := of_decide_eq_true h
    unfold swappedStores
    cases t with
    | Tuple ts k2 p2 =>
      dsimp only
      have e1 : (!(ts.length == 2 || ts.length == 3) || vs.length != ts.length || env.blockKind != ScopeKind.function) = true := by
        by_cases h2 : ts.length = 2
        · have : (vs.length != ts.length) = true := by simp; omega
          rw [this]; simp
        · by_cases h3 : ts.length = 3
          · have : (vs.length != ts.length) = true := by simp; omega
            rw [this]; simp
          · have : (ts.length == 2 || ts.length == 3) = false := by simp [h2, h3]
            rw [this]; simp
      rw [if_pos e1]
    | List ts p2 =>
      dsimp only
      have e1 : (!(ts.length == 2 || ts.length == 3) || vs.length != ts.length || env.blockKind != ScopeKind.function) = true := by
        by_cases h2 : ts.length = 2
        · have : (vs.length != ts.length) = true := by simp; omega
          rw [this]; simp
        · by_cases h3 : ts.length = 3
          · have : (vs.length != ts.length) = true := by simp; omega
            rw [this]; simp
          · have : (ts.length == 2 || ts.length == 3) = false := by simp [h2, h3]
            rw [this]; simp
      rw [if_pos e1]
    | _ => rfl
  | _ => exact swst_none rfl
theorem starF {vs : List Expr} (h : vs.all plainE = true) : (vs.any fun | .Starred .. => true | _ => false) = false := by
  rw [List.any_eq_false]
  intro e he
  have := List.all_eq_true.mp h e he
  cases e <;> simp [plainE] at this ⊢
theorem swst_two {x y : Str} {px py kt pt : _} {a b : Expr} {k2 pt2 : _} {env : Env} (hk : env.blockKind = .function) (hx : env.kindOf x = some .local) (hy : env.kindOf y = some .local) (hl : (py.line == px.line) = true) (hn : (x == y) = false) (hp : parOk [a, b] = true) :
    swappedStores [.Tuple [.Name x px, .Name y py] kt pt] (.Tuple [a, b] k2 pt2) env = pure (some [x, y]) := by
  unfold parOk at hp
  simp only [Bool.and_eq_true, Bool.not_eq_true'] at hp
  obtain ⟨⟨h1, h2⟩, h3⟩ := hp
  have h4 := starF h1
  have e2 : ([x, y] : List Str).eraseDups.length = 2 := by
    have : (y == x) = false := by rw [beq_eq_false_iff_ne] at hn ⊢; exact fun z => hn z.symm
    simp [List.eraseDups, List.eraseDupsBy, List.eraseDupsBy.loop, this]
  have hl' : py.line = px.line := beq_iff_eq.mp hl
  unfold swappedStores
  simp [hk, h4, hx, hy, hl', e2, h2, h3, Expr.pos]
  intro z
  exfalso
  rcases z with z | z
  · cases a <;> first | (simp [plainE] at h1; done) | cases z
  · cases b <;> first | (simp [plainE] at h1; done) | cases z
theorem swst_three {x y z : Str} {px py pz kt pt : _} {a b c : Expr} {k2 pt2 : _} {env : Env} (hk : env.blockKind = .function) (hx : env.kindOf x = some .local) (hy : env.kindOf y = some .local) (hz : env.kindOf z = some .local) (hl : (py.line == px.line) = true) (hl2 : (pz.line == px.line) = true)
    (hn : (x == y) = false) (hn2 : (x == z) = false) (hn3 : (y == z) = false) (hp : parOk [a, b, c] = true) :
    swappedStores [.Tuple [.Name x px, .Name y py, .Name z pz] kt pt] (.Tuple [a, b, c] k2 pt2) env = pure (some [x, y, z]) := by
  unfold parOk at hp
  simp only [Bool.and_eq_true, Bool.not_eq_true'] at hp
  obtain ⟨⟨h1, h2⟩, h3⟩ := hp
  have h4 := starF h1
  have e2 : ([x, y, z] : List Str).eraseDups.length = 3 := by
    have t1 : (y == x) = false := by rw [beq_eq_false_iff_ne] at hn ⊢; exact fun w => hn w.symm
    have t2 : (z == x) = false := by rw [beq_eq_false_iff_ne] at hn2 ⊢; exact fun w => hn2 w.symm
    have t3 : (z == y) = false := by rw [beq_eq_false_iff_ne] at hn3 ⊢; exact fun w => hn3 w.symm
    simp [List.eraseDups, List.eraseDupsBy, List.eraseDupsBy.loop, t1, t2, t3]
  have hl' : py.line = px.line := beq_iff_eq.mp hl
  have hl2' : pz.line = px.line := beq_iff_eq.mp hl2
  unfold swappedStores
  simp [hk, h4, hx, hy, hz, hl', hl2', e2, h2, h3, Expr.pos]
  intro z
  exfalso
  rcases z with z | z | z
  · cases a <;> first | (simp [plainE] at h1; done) | cases z
  · cases b <;> first | (simp [plainE] at h1; done) | cases z
  · cases c <;> first | (simp [plainE] at h1; done) | cases z
section
variable {X : Cx} {P : Pm} {C : Ctx} {Φ : Nat → SpD} {κ : Nat → D} {W : WX}
theorem relTs_any {w : Wd} {k : NestedKey} : ∀ {kvs : List (D × D)} {es : List (NestedKey × Addr × V)}, RelTs P w kvs es → (es.any fun x => decide (x.1 = k)) = (kvs.any fun kv => decide (keyN kv.1 = some k))
  | [], es, r => by
    have r : es = [] := r
    subst r; rfl
  | (kd, d) :: kvs, es, ⟨j, b, v, es', e, h1, h2, h3, h4, h5⟩ => by
    subst e
    rw [List.any_cons, List.any_cons, relTs_any h5, h1]
    congr 1
    simp
theorem relTs_put {w : Wd} {k : NestedKey} {kd d : D} {b : Addr} {v : V} (r1 : RelD P w kd (.ref b)) (hk : keyN kd = some k) (hd : k.depth ≤ 8) (r : RelD P w d v) {kvs : List (D × D)} {es : List (NestedKey × Addr × V)} (h : RelTs P w kvs es) : RelTs P w (dctPutT kvs kd k d) (tPut es k b v) := by
  unfold dctPutT tPut
  rw [relTs_any h]
  split
  · next hc =>
    clear hc
    induction kvs generalizing es with
    | nil => have h : es = [] := h; subst h; rfl
    | cons p kvs ih =>
      obtain ⟨kd', d'⟩ := p
      obtain ⟨j, b', v', es', e, h1, h2, h3, h4, h5⟩ := h
      subst e
      rw [List.map_cons, List.map_cons]
      by_cases hj : j = k
      · simp only [h1, hj, if_true]
        exact ⟨k, b', v, _, rfl, hj ▸ h1, hj ▸ h2, h3, r, ih h5⟩
      · have : ¬ keyN kd' = some k := by rw [h1]; intro z; exact hj (Option.some.inj z)
        simp only [this, hj, if_false]
        exact ⟨j, b', v', _, rfl, h1, h2, h3, h4, ih h5⟩
  · next hc =>
    clear hc
    induction kvs generalizing es with
    | nil => have h : es = [] := h; subst h; exact ⟨k, b, v, [], rfl, hk, hd, r1, r, rfl⟩
    | cons p kvs ih =>
      obtain ⟨kd', d'⟩ := p
      obtain ⟨j, b', v', es', e, h1, h2, h3, h4, h5⟩ := h
      subst e
      exact ⟨j, b', v', _, rfl, h1, h2, h3, h4, ih h5⟩
/-- o[i] = v below -/
def setIxD (x y d : D) (M : Md) (Q : Md → Prop) : Prop := match x with
    | .ref k => match M[k]?, y with
      | some (.lst ds), .int j => match ixN ds.length j with
        | some j => Q (M.set k (.lst (ds.set j d)))
        | none => False
      | some (.dct kvs), y => match keyD y with
        | some ky => kvs.length < sizeLine ∧ Q (M.set k (.dct (dctPut kvs ky d)))
        | none => False
      | some (.dctT kvs), y => match tKey y with
        | some ky => kvs.length < sizeLine ∧ Q (M.set k (.dctT (dctPutT kvs y ky d)))
        | none => False
      | _, _ => False
    | _ => False
def rSetIx (P : Pm) : V → V → V → Hp → (Hp → Prop) → Prop := fun o i v H Q => ∃ w M x y d, RepM P w M H ∧ RelD P w x o ∧ RelD P w y i ∧ RelD P w d v ∧
  setIxD x y d M fun M' => ∀ H', Step w H w H' → RepM P w M' H' → Q H'
theorem setIx_sound (O : EnvOk X P C Φ κ) : PSet X (rSetIx P) := by
  intro pins s σ H o i v ov iv u Q I ro ri rv q
  obtain ⟨w, M, x, y, d, R, rx, ry, rd, q⟩ := q
  unfold setIxD at q
  split at q
  · rename_i k
    obtain ⟨p, e, hp⟩ := rx
    subst e
    split at q
    · rename_i ds j hm
      split at q
      · rename_i j' hj
        obtain ⟨hF, vs, e2, hs⟩ := R.cell k _ p hm hp
        have ry : i = .int j := ry
        obtain ⟨R', s'⟩ := R.write (o := .lst (vs.set j' v)) (m' := .lst (ds.set j' d)) hm hF hp .lst ⟨hF, _, upd_same, hs.set j' rd⟩
        exact set_list pins s σ H _ i v ov iv u Q I ro ri rv ⟨p, vs, j, j', rfl, ry, e2, by rw [hs.length]; exact hj, q _ s' R'⟩
      · exact q.elim
    · rename_i kvs hm
      split at q
      · rename_i ky hk
        obtain ⟨hF, us, e2, hs⟩ := R.cell k _ p hm hp
        have hv := keyD_at ry hk
        subst hv
        obtain rfl : ov = Value.ref p := ro
        obtain ⟨R', s'⟩ := R.write (o := FD P.pg P.wl p (putK us ky v)) (m' := .dct (dctPut kvs ky d)) hm hF hp .fd ⟨hF, _, upd_same, relKs_put hs rd⟩
        rw [O.pg, O.wl] at e2
        refine fd_setItem I e2 (by rw [hs.length]; exact q.1) ri rv fun s2 I2 => ⟨_, I2, ?_⟩
        rw [← O.pg, ← O.wl]
        exact q.2 _ s' R'
      · exact q.elim
    · rename_i kvs hm
      split at q
      · rename_i ky hk
        obtain ⟨hF, es, e2, hs⟩ := R.cell k _ p hm hp
        obtain ⟨⟨ds, hd⟩, k1, k2⟩ := tKey_at hk
        have hn := nest_of O.K I R ry ri k1
        subst hd
        obtain ⟨b, vs, ev, _, _⟩ := id ry
        subst ev
        obtain rfl : iv = Value.ref b := ri
        obtain rfl : ov = Value.ref p := ro
        obtain ⟨R', s'⟩ := R.write (o := TD P.pg P.wl p (tPut es ky b v)) (m' := .dctT (dctPutT kvs (.tup ds) ky d)) hm hF hp .td ⟨hF, _, upd_same, relTs_put ry k1 k2 rd hs⟩
        rw [O.pg, O.wl] at e2
        refine td_setItem (by have := O.hu; omega) I e2 (keysAt_of O.K I R hs) ⟨hn, k2⟩ (by rw [hs.length]; exact q.1) rv fun s2 I2 => ⟨_, I2, ?_⟩
        rw [← O.pg, ← O.wl]
        exact q.2 _ s' R'
      · exact q.elim
    · exact q.elim
  · exact q.elim
/-- o.f = .., as one of several targets -/
def gFld (K : PySem.W.Frag) (ta : TE) (f : Str) : TG := fun v σ H Q => ta σ H fun x H1 => ∃ a C dx fs, x = .ref a ∧ H1 a = some (.ins C dx fs) ∧ Cls K C ∧ NoAttr K C f ∧ fs.length < 1000 ∧ Q σ (upd H1 a (.ins C dx (putF f v fs)))
theorem pg_fld {o : Expr} {f : Str} {pos : Pos} {ta : TE} (ha : PE X o ta) : PG X (.Attribute o f pos) (gFld X.K ta f) := by
  refine ⟨fun pins s σ H v u Q I r h => ?_⟩
  show wpAny _ _ (do
    let ov ← holding [u] (eval o X.env)
    standAt pos.atName
    holding [u, ov] (setAttr ov f u)
    release [u, ov] []) _ _ s
  refine wpAny_bind (wpAny_holding (thn (ha.run pins s σ H _ I h) fun ov s1 ⟨x, H1, I1, rx, a, C, dx, fs, ex, ea, c, n, l, q⟩ => ?_))
  subst ex
  obtain rfl : ov = Value.ref a := rx
  refine wpAny_bind (wpAny_standAt (wpAny_bind (wpAny_holding (setattr_ok I1 ea c n l r fun s3 I3 => ?_))))
  exact wpAny_release ⟨σ, _, I3, q⟩
theorem sTF : ∀ (os : CEs) {X : Cx} {C : Ctx} {W : WX} {cf : List (Str × Str)} {es : List Expr}, EnvOk X P C Φ κ → Takes X W → chkTF C cf os es = true → ∃ t, PGs X es t ∧ (assignEach es X.env).length = cf.length ∧ (assignEach es X.env).findIdx? (·.1) = none ∧
    ∀ {w M H sd σ ds vs} {Qd : Md → Prop} {Ed : EX} {Q : L2.St → Hp → Prop}, RepM P w M H → RelSt P w sd σ → RelDs P w ds vs → (∀ w' M' H', Step w H w' H' → RepM P w' M' H' → RelSt P w' sd σ → Qd M' → Q σ H') → LkX P w H Ed (WE W σ) → setTFd Φ κ Ed sd cf os ds M Qd → t vs σ H Q
  | .nil, X, C, W, cf, es, O, tk, h => by
    unfold chkTF at h
    split at h
    · refine ⟨_, pgs_nil, rfl, rfl, fun {w M H sd σ ds vs Qd Ed Q} R rs r l lx q => ?_⟩
      cases ds with
      | nil => exact ⟨r, l w M H (.refl _ _) R rs q⟩
      | cons d ds => exact q.elim
    · rename_i z; cases z
    · cases h
  | .cons o os, X, C, W, cf, es, O, tk, h => by
    unfold chkTF at h
    split at h
    · rename_i z; cases z
    · rename_i c f r o' os' a g pa es' z
      cases z
      simp only [Bool.and_eq_true, beq_iff_eq] at h
      obtain ⟨⟨⟨h1, h2⟩, h3⟩, h4⟩ := h
      subst h1
      obtain ⟨hc, hn⟩ := O.fl _ (List.elem_iff.mp h2)
      obtain ⟨t, g1, g2, g3, g4⟩ := sTF os O tk h4
      refine ⟨_, pgs_cons (pg_fld (sE o O tk h3).pe) g1 rfl, ?_, ?_, fun {w M H sd σ ds vs Qd Ed Q} R rs rr l lx q => ?_⟩
      · show (assignEach es' X.env).length + 1 = _
        rw [g2]; rfl
      · show List.findIdx? (·.1) ((false, _) :: assignEach es' X.env) = none
        rw [List.findIdx?_cons, g3]; rfl
      · cases ds with
        | nil => exact q.elim
        | cons d ds =>
          obtain ⟨v, us, e, r1, r2⟩ := rr
          refine ⟨v, us, e, w, M, sd, _, Ed, R, rs, fun w1 M1 H1 x vx s1 R1 rx z => ?_, lx, q⟩
          clear q
          cases x with
          | ref k =>
            obtain ⟨p, e1, hp2⟩ := rx
            subst e1
            unfold setFD at z
            dsimp only at z
            cases hM : M1[k]? with
            | none => rw [hM] at z; exact z.elim
            | some mo =>
              rw [hM] at z
              cases mo with
              | ins c' fs =>
                obtain ⟨q1, q2, z⟩ := z
                subst q1
                obtain ⟨hF, dx, vs', e2, hs⟩ := R1.cell k _ p hM hp2
                have hl : vs'.length < 1000 := by rw [hs.length]; exact q2
                have ry := r1.mono s1.le
                obtain ⟨R', s'⟩ := R1.write (o := .ins (P.cls _) dx (putF f v vs')) (m' := .ins _ (putFD f d fs)) hM hF hp2 .ins ⟨hF, dx, _, upd_same, relKs_putF ry hs⟩
                refine ⟨p, _, dx, vs', rfl, e2, hc, hn, hl, ?_⟩
                have s12 := s1.trans s'
                exact g4 R' (rs.mono s12.le) (r2.mono s12.le) (fun w2 M2 H2 s2 R2 rs2 q2 => l w2 M2 H2 (s12.trans s2) R2 rs2 q2) (lx.on s12) z
              | _ => exact z.elim
          | _ => exact z.elim
    · cases h
theorem relKs_zip2 {w : Wd} : ∀ {fs : List Str} {ds : List D} {vs : List V}, fs.length = ds.length → RelDs P w ds vs → RelKs P w (fs.zip ds) (fs.zip vs)
  | [], ds, vs, _, _ => by rw [List.zip_nil_left, List.zip_nil_left]; rfl
  | f :: fs, [], vs, hl, _ => by cases hl
  | f :: fs, d :: ds, vs, hl, ⟨v, us, e, h1, h2⟩ => by
    subst e
    rw [List.zip_cons_cons, List.zip_cons_cons]
    exact ⟨v, _, rfl, h1, relKs_zip2 (by simpa using hl) h2⟩
theorem relKs_rev {κ : Type} {w : Wd} : ∀ {ds : List (κ × D)} {us : List (κ × V)}, RelKs P w ds us → RelKs P w ds.reverse us.reverse
  | [], us, h => by
    have h : us = [] := h
    subst h; rfl
  | (k, d) :: ds, us, ⟨v, us', e, h1, h2⟩ => by
    subst e
    rw [List.reverse_cons, List.reverse_cons]
    exact relKs_snoc h1 (relKs_rev h2)
theorem chkEs_cons {C : Ctx} {cs : CEs} {y : Expr} {ys : List Expr} (h : chkEs C cs (y :: ys) = true) : plainE y = true ∧ ∃ c2, chkEs C c2 ys = true := by
  cases cs with
  | nil => cases h
  | cons c cs =>
    have h : (plainE y && chkE C c y && chkEs C cs ys) = true := h
    simp only [Bool.and_eq_true] at h
    exact ⟨h.1.1, cs, h.2⟩
/-- an own exception, no __init__ of its own, one argument -/
theorem pmk_one {x : Str} {Ca : Addr} {e : Expr} {te : TE} {p pos : Pos} (R : RaisN X.K Ca) (hm : X.mg x = some (.ref Ca)) (hg : Gl X x) (hdb : (x == ("__debug__" : Str)) = false) (he : PE X e te) (st : starEach [e] X.env = (false, eval e X.env) :: starEach [] X.env) :
    PMk X (.Call (.Name x p) [e] [] pos) (fun σ H Q => tCons te tNil σ H fun vs H1 => vs.length = 1 ∧ Q (.ref Ca) none H1) := by
  intro pins st0 σ H Q I h
  refine wpAny_Call_Name_kw (ld_glob I hg hm ?_ hdb)
  have ha : PA X [e] (tCons te tNil) := pa_cons he pa_nil st
  refine PySem.W.callWith_K (h₀ := X.base) I.ok.mod.kin R.kp (thn (ha.run pos pins st0 σ H (fun vs H1 => vs.length = 1 ∧ Q (.ref Ca) none H1) I h) fun us s1 hh => ?_) st rfl
  obtain ⟨vs, H1, I1, r1, hl, q⟩ := hh
  refine ⟨I1.kIn, ?_⟩
  have hus : us.length = 1 := by rw [← r1.length]; exact hl
  match us, hus with
  | [u], _ =>
    show wpAny _ _ (call (.ref Ca) [u]) _ _ _
    obtain ⟨bm, N, nm, qn, bs, hdct, sn, sub, ab, col, dd, k0, k1, k2, k3, k5, mN, hC, hN, hni, T⟩ := exc_obj I1.kIn R.ex
    refine wpAny_call_exc_subT PySem.F.excBase_ValueError T hC hN hni (fun h' a ha' => ?_) (by show 1 ≤ sizeLine; rw [sizeLine_eq]; omega)
    exact mk_of I1 ha' (raises_own R.sb R.ty) q (I1.hok.gone ha'.new)
mutual
theorem sS : ∀ (c : CS) {X : Cx} {C : Ctx} {W : WX} {s : Stmt}, EnvOk X P C Φ κ → C.sc.kind = .function → Takes X W → PassesOwn (model X.prog X.w) X.A X.env X.xe → chkS C c s = true → PS X s (liS P W (rS Φ κ c))
  | .setFld c o f v, X, C, W, s, O, hk, tk, hp, h => by
    unfold chkS at h
    split at h
    · rename_i a g ps e pos
      simp only [Bool.and_eq_true, beq_iff_eq] at h
      obtain ⟨⟨⟨h1, h2⟩, h4⟩, h5⟩ := h
      subst h1
      obtain ⟨hc, hn⟩ := O.fl _ (List.elem_iff.mp h2)
      refine psI (ps_fld (sE o O tk h4).pe (sE v O tk h5).pe ?_) fun K σ H q => ?_
      · cases e <;> rfl
      · obtain ⟨w, M, sd, Kd, Ed, R, rs, l, lx, q⟩ := q
        refine ⟨w, M, sd, _, _, R, rs, fun w1 M1 H1 d y s1 R1 r1 q => ?_, lx.at rs, q⟩
        refine ⟨w1, M1, sd, _, _, R1, rs.mono s1.le, fun w2 M2 H2 x vx s2 R2 r2 z => ?_, (lx.on s1).at (rs.mono s1.le), q⟩
        clear q
        unfold setFD at z
        split at z
        · rename_i k
          obtain ⟨p, e1, hp2⟩ := r2
          subst e1
          split at z
          · rename_i c' fs hm
            obtain ⟨q1, q2, z⟩ := z
            subst q1
            obtain ⟨hF, dx, us, e2, hs⟩ := R2.cell k _ p hm hp2
            have hl : us.length < 1000 := by rw [hs.length]; exact q2
            have ry := r1.mono s2.le
            obtain ⟨R', s'⟩ := R2.write (o := .ins (P.cls _) dx (putF f y us)) (m' := .ins _ (putFD f d fs)) hm hF hp2 .ins ⟨hF, dx, _, upd_same, relKs_putF ry hs⟩
            exact ⟨p, _, dx, us, rfl, e2, hc, hn, hl, l.nx _ _ _ _ _ ((s1.trans s2).trans s') R' (((rs.mono s1.le).mono s2.le).mono s'.le) z⟩
          · exact z.elim
        · exact z.elim
    · cases h
  | .set i c, X, C, W, s, O, hk, tk, hp, h => by
    unfold chkS at h
    split at h
    · rename_i x px e pos
      simp only [Bool.and_eq_true, Bool.or_eq_true] at h
      obtain ⟨⟨h1, h2⟩, h3⟩ := h
      obtain ⟨t1, t2, t3⟩ := tgt_of O h1
      have he := (sE c O tk h2).pe
      have fin : ∀ K σ H, liS P W (rS Φ κ (.set i c)) K σ H → tAsg (liE P W (rd Φ κ c).1) (gName i) K σ H := fun K σ H q => by
        obtain ⟨w, M, sd, Kd, Ed, R, rs, l, lx, q⟩ := q
        exact ⟨w, M, sd, _, _, R, rs, fun w1 M1 H1 d v s1 R1 r1 q => l.nx w1 M1 H1 _ _ s1 R1 (relSt_set (rs.mono s1.le) i r1) q, lx.at rs, q⟩
      have nd : X.N.Nodup := by rw [O.N]; exact O.nd
      rcases h3 with (h3 | h3) | h3
      · exact psI (ps_set nd t1 t2 he (swaps_of h3) t3) fin
      · unfold lcSwap at h3
        split at h3
        · rename_i elt gs scope lpos
          simp only [Bool.and_eq_true, beq_iff_eq, Bool.not_eq_true'] at h3
          obtain ⟨⟨k1, k2⟩, k3⟩ := h3
          have hl : X.env.scope.names.lookup x = some .local := by rw [O.sc]; exact k1
          cases c with
          | comp m elt' t it ifs own =>
            unfold chkE at h2
            split at h2
            · rename_i x' tg iter fs scope' pos' heq
              cases heq
              simp only [Bool.and_eq_true] at h2
              obtain ⟨⟨⟨⟨⟨⟨⟨⟨g0, g1⟩, g2⟩, g3⟩, g4⟩, g5⟩, g6⟩, g7⟩, g8⟩ := h2
              have hot : C.X.hot = false := by rwa [Bool.not_eq_true'] at g0
              have e : (own.filterMap fun i => (C.N[i]?).map fun n => (n, i)).map (·.2) = own := by
                clear g1 g3 he fin
                induction own with
                | nil => rfl
                | cons i is ih =>
                  rw [List.all_cons, Bool.and_eq_true, decide_eq_true_eq] at g2
                  rw [List.filterMap_cons, List.getElem?_eq_getElem g2.1]
                  simp only [Option.map_some, List.map_cons]
                  rw [ih g2.2]
              refine psI (ps_setLc (own := own.filterMap fun i => (C.N[i]?).map fun n => (n, i)) (O.calm hot) nd t1 hl (sw_true (by rw [O.sc]; exact hk) hl (beq_iff_eq.mpr k2) k3) (sI it O tk g6) (blkOk_by (by rw [O.N, O.sc]; exact g1))
                (fun s H A cl fp => pgc_of (O.blk hot s H scope A cl fp) g5) (fun s H A cl fp => sF ifs (O.blk hot s H scope A cl fp) takes0 g8) (fun s H A cl fp => (sE elt' (O.blk hot s H scope A cl fp) takes0 g7).pe) (folded_of g4)) fun K σ H q => ?_
              rw [e]
              exact comp_lift (fun j hj => List.elem_iff.mp (List.all_eq_true.mp g3 j hj)) σ H _ (by
                obtain ⟨w, M, sd, Kd, Ed, R, rs, l, lx, q⟩ := q
                exact ⟨w, M, sd, _, _, R, rs, fun w1 M1 H1 d v s1 R1 r1 q => l.nx w1 M1 H1 _ _ s1 R1 (relSt_set (rs.mono s1.le) i r1) q, lx.at rs, q⟩)
            · cases h2
          | blt b es =>
            by_cases hT : ∃ T, b = .isi T
            · obtain ⟨T, hT⟩ := hT
              subst hT
              unfold chkE at h2
              cases h2
            · have := (chkE_blt (fun T z => hT ⟨T, z⟩)).symm.trans h2
              cases this
          | _ => unfold chkE at h2; cases h2
        · cases h3
      · rw [beq_iff_eq] at h3
        exact psI (ps_set nd t1 t2 he (swaps_cell (by rw [O.sc]; exact h3)) t3) fin
    · cases h
  | .setT is c, X, C, W, s, O, hk, tk, hp, h => by
    unfold chkS at h
    split at h
    · rename_i tg e pos
      simp only [Bool.and_eq_true] at h
      obtain ⟨⟨h1, h2⟩, h3⟩ := h
      have hn : ∀ x p, tg ≠ .Name x p := fun x p z => by subst z; simp [okTg] at h1
      have ha : (assignEach [tg] X.env).map (·.2) = [assign tg X.env] := by
        cases tg with
        | Tuple _ _ _ => rfl
        | _ => simp [okTg] at h1
      refine psI (ps_asg (sE c O tk h2).pe (pg_of O h1) (sole_tuple hn) (swst_many h3) ha) fun K σ H q => ?_
      obtain ⟨w, M, sd, Kd, Ed, R, rs, l, lx, q⟩ := q
      exact ⟨w, M, sd, _, _, R, rs, fun w1 M1 H1 d v s1 R1 r1 q => ⟨w1, M1, sd, d, Kd.nx, R1, rs.mono s1.le, r1, l.nx.on s1, q⟩, lx.at rs, q⟩
    · cases h
  | .setP is es, X, C, W, s, O, hk, tk, hp, h => by
    unfold chkS at h
    have hbk : X.env.blockKind = .function := by
      have e : X.env.scope.kind = .function := by rw [O.sc]; exact hk
      unfold Env.blockKind
      rw [e]; rfl
    have loc : ∀ {i : Nat} {x : Str}, okLoc C i x = true → X.N[i]? = some x ∧ X.env.scope.names.lookup x = some .local := fun {i x} h => by
      unfold okLoc at h
      simp only [Bool.and_eq_true, beq_iff_eq] at h
      exact ⟨by rw [O.N]; exact h.1.1, by rw [O.sc]; exact h.1.2⟩
    have cool : ∀ {i : Nat} {x : Str}, okLoc C i x = true → X.calm = true := fun {i x} h => by
      unfold okLoc at h
      simp only [Bool.and_eq_true, Bool.not_eq_true'] at h
      exact O.calm h.2
    have nd : X.N.Nodup := by rw [O.N]; exact O.nd
    split at h
    · rename_i x px y py kt pt a b k2 pt2 pos
      split at h
      · rename_i i j
        simp only [Bool.and_eq_true, decide_eq_true_eq, Bool.not_eq_true'] at h
        obtain ⟨⟨⟨⟨⟨⟨h1, h2⟩, h3⟩, h4⟩, h5⟩, h6⟩, h7⟩ := h
        obtain ⟨a1, a2⟩ := loc h1
        obtain ⟨b1, b2⟩ := loc h2
        refine psI (ps_par (cool h1) nd a1 b1 h3 a2 b2 (sEs es O tk h7) (swst_two hbk a2 b2 h5 h4 h6)) fun K σ H q => ?_
        obtain ⟨w, M, sd, Kd, Ed, R, rs, l, lx, q⟩ := q
        refine ⟨w, M, sd, _, _, R, rs, fun w1 M1 H1 ds vs s1 R1 r1 q => ?_, lx.at rs, q⟩
        obtain ⟨hl, q⟩ := q
        match ds, hl, r1, q with
        | [d1, d2], _, r1, q =>
          obtain ⟨v1, t1, e1, ra, v2, t2, e2, rb, e3⟩ := r1
          subst e3 e2 e1
          exact ⟨v1, v2, rfl, l.nx w1 M1 H1 _ _ s1 R1 (relSt_set (relSt_set (rs.mono s1.le) i ra) j rb) q⟩
      · cases h
    · rename_i x px y py z pz kt pt a b c k2 pt2 pos
      split at h
      · rename_i i j k
        simp only [Bool.and_eq_true, decide_eq_true_eq, Bool.not_eq_true'] at h
        obtain ⟨⟨⟨⟨⟨⟨⟨⟨⟨⟨⟨⟨h1, h2⟩, h3⟩, h4⟩, h5⟩, h6⟩, h7⟩, h8⟩, h9⟩, g1⟩, g2⟩, g3⟩, g4⟩ := h
        obtain ⟨a1, a2⟩ := loc h1
        obtain ⟨b1, b2⟩ := loc h2
        obtain ⟨c1, c2⟩ := loc h3
        refine psI (ps_par3 (cool h1) nd a1 b1 c1 h4 h5 h6 a2 b2 c2 (sEs es O tk g4) (swst_three hbk a2 b2 c2 g1 g2 h7 h8 h9 g3)) fun K σ H q => ?_
        obtain ⟨w, M, sd, Kd, Ed, R, rs, l, lx, q⟩ := q
        refine ⟨w, M, sd, _, _, R, rs, fun w1 M1 H1 ds vs s1 R1 r1 q => ?_, lx.at rs, q⟩
        obtain ⟨hl, q⟩ := q
        match ds, hl, r1, q with
        | [d1, d2, d3], _, r1, q =>
          obtain ⟨v1, t1, e1, ra, v2, t2, e2, rb, v3, t3, e3, rc, e4⟩ := r1
          subst e4 e3 e2 e1
          exact ⟨v1, v2, v3, rfl, l.nx w1 M1 H1 _ _ s1 R1 (relSt_set (relSt_set (relSt_set (rs.mono s1.le) i ra) j rb) k rc) q⟩
      · cases h
    · cases h
  | .setTF cf os e, X, C, W, s, O, hk, tk, hp, h => by
    unfold chkS at h
    split at h
    · rename_i ts kt pt v pos
      simp only [Bool.and_eq_true] at h
      obtain ⟨⟨h1, h2⟩, h3, h4⟩ := h
      rw [Bool.not_eq_true'] at h4
      obtain ⟨t, g1, g2, g3, g4⟩ := sTF os O tk h1
      refine psI (ps_asg (sE e O tk h2).pe (pg_tup (O.calm h4) g1 g2 g3) (sole_tuple (fun x p z => by cases z)) (swst_none h3) rfl) fun K σ H q => ?_
      obtain ⟨w, M, sd, Kd, Ed, R, rs, l, lx, q⟩ := q
      refine ⟨w, M, sd, _, _, R, rs, fun w1 M1 H1 d y s1 R1 r1 q => ?_, lx.at rs, q⟩
      cases d with
      | tup ds =>
        obtain ⟨q1, q⟩ := q
        obtain ⟨p, vs, e1, hp1, hs⟩ := r1
        refine ⟨p, vs, e1, O.K ▸ sqT_mono R1.sub hp1, by rw [hs.length]; exact q1, ?_⟩
        exact g4 R1 (rs.mono s1.le) hs (fun w2 M2 H2 s2 R2 rs2 q2 => l.nx w2 M2 H2 _ _ (s1.trans s2) R2 rs2 q2) ((lx.on s1).at (rs.mono s1.le)) q
      | _ => exact q.elim
    · cases h
  | .aug i e, X, C, W, s, O, hk, tk, hp, h => by
    unfold chkS at h
    split at h
    · rename_i x px v pos
      rw [Bool.and_eq_true] at h
      obtain ⟨t1, t2, t3⟩ := tgt_of O h.1
      have nd : X.N.Nodup := by rw [O.N]; exact O.nd
      refine psI (ps_aug nd t1 t2 (sE e O tk h.2).pe iop_add t3) fun K σ H q => ?_
      obtain ⟨w, M, sd, Kd, Ed, R, rs, l, lx, q⟩ := q
      have q : (match sd[i]? with
        | some (some x) => rE Φ κ e (fun x => Ed x sd) sd M fun y M1 => addI x y fun z => Kd.nx (sd.set i (some z)) M1
        | _ => False) := q
      split at q
      · rename_i d hd
        obtain ⟨x, hx, rx⟩ := rs.2 i d hd
        refine ⟨x, hx, w, M, sd, _, _, R, rs, fun w1 M1 H1 y vy s1 R1 r1 z => ?_, lx.at rs, q⟩
        clear q
        cases d with
        | int i1 =>
          cases y with
          | int i2 =>
            have rx : x = .int i1 := rx
            have r1 : vy = .int i2 := r1
            exact ⟨i1, i2, rx, r1, l.nx w1 M1 H1 _ _ s1 R1 (relSt_set (rs.mono s1.le) i (d := .int (i1 + i2)) rfl) z⟩
          | _ => exact z.elim
        | _ => exact z.elim
      · exact q.elim
    · cases h
  | .augF c o f e, X, C, W, s, O, hk, tk, hp, h => by
    unfold chkS at h
    split at h
    · rename_i a g pa v pos
      simp only [Bool.and_eq_true, beq_iff_eq] at h
      obtain ⟨⟨⟨h1, h2⟩, h4⟩, h5⟩ := h
      subst h1
      obtain ⟨hc, hn⟩ := O.fl _ (List.elem_iff.mp h2)
      refine psI (ps_fldaug (sE o O tk h4).pe (sE e O tk h5).pe in_add) fun K σ H q => ?_
      obtain ⟨w, M, sd, Kd, Ed, R, rs, l, lx, q⟩ := q
      refine ⟨w, M, sd, _, _, R, rs, fun w1 M1 H1 x vx s1 R1 r1 z => ?_, lx.at rs, q⟩
      clear q
      cases x with
      | ref k =>
        have z := z.2
        obtain ⟨p, e1, hp2⟩ := r1
        subst e1
        unfold fldD at z
        dsimp only at z
        cases hM : M1[k]? with
        | none => rw [hM] at z; exact z.elim
        | some mo =>
          rw [hM] at z
          cases mo with
          | ins c' fs =>
            obtain ⟨q1, z⟩ := z
            subst q1
            obtain ⟨hF, dx, us, e2, hs⟩ := R1.cell k _ p hM hp2
            cases hlk : fs.lookup f with
            | none => simp only [hlk] at z
            | some d =>
              simp only [hlk] at z
              obtain ⟨v0, hv0, r0⟩ := relKs_look hs hlk
              refine ⟨p, _, dx, us, v0, rfl, e2, hc, hn, hv0, w1, M1, sd, _, _, R1, rs.mono s1.le, fun w2 M2 H2 y vy s2 R2 r2 z' => ?_, (lx.on s1).at (rs.mono s1.le), z⟩
              clear z
              cases d with
              | int i1 =>
                cases y with
                | int i2 =>
                  have r0 : v0 = .int i1 := r0
                  have r2 : vy = .int i2 := r2
                  refine ⟨i1, i2, r0, r2, ?_⟩
                  have hp3 := s2.le.r _ _ hp2
                  have z' : setFD c' f (.ref k) (.int (i1 + i2)) M2 (fun M' => Kd.nx sd M') := z'
                  unfold setFD at z'
                  dsimp only at z'
                  cases hM2 : M2[k]? with
                  | none => rw [hM2] at z'; exact z'.elim
                  | some mo =>
                    rw [hM2] at z'
                    cases mo with
                    | ins c2 fs2 =>
                      obtain ⟨q1, q2, z'⟩ := z'
                      subst q1
                      obtain ⟨hF2, dx2, us2, e3, hs2⟩ := R2.cell k _ p hM2 hp3
                      have hl : us2.length < 1000 := by rw [hs2.length]; exact q2
                      have ry : RelD P w2 (.int (i1 + i2)) (.int (i1 + i2)) := rfl
                      obtain ⟨R', s'⟩ := R2.write (o := .ins (P.cls _) dx2 (putF f (.int (i1 + i2)) us2)) (m' := .ins _ (putFD f (.int (i1 + i2)) fs2)) hM2 hF2 hp3 .ins ⟨hF2, dx2, _, upd_same, relKs_putF ry hs2⟩
                      exact ⟨dx2, us2, e3, hl, l.nx _ _ _ _ _ ((s1.trans s2).trans s') R' (((rs.mono s1.le).mono s2.le).mono s'.le) z'⟩
                    | _ => exact z'.elim
                | _ => exact z'.elim
              | _ => exact z'.elim
          | _ => exact z.elim
      | _ => exact z.1.elim
    · cases h
  | .setIx o i c, X, C, W, s, O, hk, tk, hp, h => by
    unfold chkS at h
    split at h
    · rename_i a b pb e pos
      simp only [Bool.and_eq_true] at h
      obtain ⟨⟨⟨h1, h2⟩, h3⟩, h4⟩ := h
      refine psI (ps_asg (sE c O tk h4).pe (pg_sub (sE o O tk h2).pe (sE i O tk h3).pe (setIx_sound O) ?_) (sole_tuple (by intro _ _ z; cases z)) ?_ rfl) fun K σ H q => ?_
      · intro v
        cases b <;> first | rfl | (exfalso; simp [plainE] at h1; done)
      · unfold swappedStores
        cases e <;> rfl
      · obtain ⟨w, M, sd, Kd, Ed, R, rs, l, lx, q⟩ := q
        refine ⟨w, M, sd, _, _, R, rs, fun w1 M1 H1 d v s1 R1 r1 q => ?_, lx.at rs, q⟩
        refine ⟨w1, M1, sd, _, _, R1, rs.mono s1.le, fun w2 M2 H2 x vx s2 R2 r2 q => ?_, (lx.on s1).at (rs.mono s1.le), q⟩
        refine ⟨w2, M2, sd, _, _, R2, (rs.mono s1.le).mono s2.le, fun w3 M3 H3 y vy s3 R3 r3 q => ?_, ((lx.on s1).on s2).at ((rs.mono s1.le).mono s2.le), q⟩
        refine ⟨w3, M3, x, y, d, R3, r2.mono s3.le, r3, (r1.mono s2.le).mono s3.le, ?_⟩
        have s13 := (s1.trans s2).trans s3
        have key : ∀ {Q Q' : Md → Prop}, (∀ M, Q M → Q' M) → setIxD x y d M3 Q → setIxD x y d M3 Q' := fun {Q Q'} f q => by
          unfold setIxD at q ⊢
          cases x <;> first | exact q.elim | skip
          rename_i k
          simp only at q ⊢
          split at q
          · split at q
            · exact f _ q
            · exact q.elim
          · split at q
            · exact ⟨q.1, f _ q.2⟩
            · exact q.elim
          · split at q
            · exact ⟨q.1, f _ q.2⟩
            · exact q.elim
          · exact q.elim
        exact key (fun M' qm H' s4 R4 => l.nx w3 M' H' sd σ (s13.trans s4) R4 (rs.mono s13.le) qm) q
    · cases h
  | .expr c, X, C, W, s, O, hk, tk, hp, h => by
    unfold chkS at h
    split at h
    · rw [Bool.and_eq_true] at h
      refine psI (ps_expr (sE c O tk h.2).pe (swaps_of h.1)) fun K σ H q => ?_
      obtain ⟨w, M, sd, Kd, Ed, R, rs, l, lx, q⟩ := q
      exact ⟨w, M, sd, _, _, R, rs, fun w1 M1 H1 d v s1 R1 r1 q => l.nx w1 M1 H1 _ _ s1 R1 (rs.mono s1.le) q, lx.at rs, q⟩
    · cases h
  | .ret c, X, C, W, s, O, hk, tk, hp, h => by
    unfold chkS at h
    split at h
    · refine psI (ps_ret (sE c O tk h).pe) fun K σ H q => ?_
      obtain ⟨w, M, sd, Kd, Ed, R, rs, l, lx, q⟩ := q
      exact ⟨w, M, sd, _, _, R, rs, l.rt, lx.at rs, q⟩
    · cases h
  | .retN, X, C, W, s, O, hk, tk, hp, h => by
    unfold chkS at h
    split at h
    · refine psI ps_retN fun K σ H q => ?_
      obtain ⟨w, M, sd, Kd, Ed, R, rs, l, lx, q⟩ := q
      exact l.rt.same R (d := .non) rfl q
    · cases h
  | .pass, X, C, W, s, O, hk, tk, hp, h => by
    unfold chkS at h
    split at h
    · refine psI ps_pass fun K σ H q => ?_
      obtain ⟨w, M, sd, Kd, Ed, R, rs, l, lx, q⟩ := q
      exact l.nx w M H _ _ (.refl _ _) R rs q
    · cases h
  | .never, X, C, W, s, O, hk, tk, hp, h => by
    refine psI ps_never fun K σ H q => ?_
    obtain ⟨w, M, sd, Kd, Ed, R, rs, l, lx, q⟩ := q
    exact q
  | .brk, X, C, W, s, O, hk, tk, hp, h => by
    unfold chkS at h
    split at h
    · refine psI ps_break fun K σ H q => ?_
      obtain ⟨w, M, sd, Kd, Ed, R, rs, l, lx, q⟩ := q
      exact l.bk w M H _ _ (.refl _ _) R rs q
    · cases h
  | .cont, X, C, W, s, O, hk, tk, hp, h => by
    unfold chkS at h
    split at h
    · refine psI ps_continue fun K σ H q => ?_
      obtain ⟨w, M, sd, Kd, Ed, R, rs, l, lx, q⟩ := q
      exact l.ct w M H _ _ (.refl _ _) R rs q
    · cases h
  | .ifs c a b, X, C, W, s, O, hk, tk, hp, h => by
    unfold chkS at h
    split at h
    · simp only [Bool.and_eq_true] at h
      refine psI (ps_if (sE c O tk h.1.1).pt (sSs a O hk tk hp h.1.2) (sSs b O hk tk hp h.2)) fun K σ H q => ?_
      obtain ⟨w, M, sd, Kd, Ed, R, rs, l, lx, q⟩ := q
      refine ⟨w, M, sd, _, _, R, rs, fun w1 M1 H1 k s1 R1 q => ?_, lx.at rs, q⟩
      cases k with
      | true => simp only [if_true] at q ⊢; exact ⟨w1, M1, sd, Kd, Ed, R1, rs.mono s1.le, l.on s1, lx.on s1, q⟩
      | false => simp only [Bool.false_eq_true, if_false] at q ⊢; exact ⟨w1, M1, sd, Kd, Ed, R1, rs.mono s1.le, l.on s1, lx.on s1, q⟩
    · cases h
  | .fors t it body, X, C, W, s, O, hk, tk, hp, h => by
    unfold chkS at h
    split at h
    · simp only [Bool.and_eq_true] at h
      obtain ⟨⟨⟨h1, h2, h5⟩, h3⟩, h4⟩ := h
      rw [Bool.not_eq_true'] at h5
      exact psI (ps_for hp (O.calm h5) (sI it O tk h3) (pg_of O h1) (sSs body O hk tk hp h4) (folded_of h2)) fun K σ H q => for_lift q
    · cases h
  | .enums t c body, X, C, W, s, O, hk, tk, hp, h => by
    unfold chkS at h
    split at h
    · rename_i es k p2 x p a pos y p3
      simp only [Bool.and_eq_true] at h
      obtain ⟨⟨⟨⟨⟨h1, h2⟩, h3⟩, h4, h7⟩, h5⟩, h6⟩ := h
      rw [Bool.not_eq_true'] at h7
      obtain ⟨hn, hg, hd, hm, _⟩ := blt_of O h3
      subst hn
      have hi := piI (tg := .Tuple es k p2) (e := .Call (.Name (Str.ofString "enumerate") p) [a] [] pos) (t' := liI P X.K W (fun E σ M Q => rE Φ κ c E σ M fun d M1 => enumQ d M1 Q)) (pi_enumT (kk := k) (tpos := p2) (elts := es) (p := p) (pos := pos) hg hm (pa_cons (sE c O tk h5).pe pa_nil (star_of h4)) (star_of h4)) fun σ H Q q => by
        obtain ⟨w, M, sd, Qd, Ed, R, rs, l, lx, q⟩ := q
        refine ⟨w, M, sd, _, Ed, R, rs, fun w1 M1 H1 d v s1 R1 r1 q => ?_, lx, q⟩
        cases d with
        | tup es =>
          obtain ⟨p, vs, e, hp, hs⟩ := r1
          have hK := O.K
          subst e
          exact ⟨p, vs, rfl, hK ▸ sqT_mono R1.sub hp, l w1 M1 H1 _ _ _ s1 R1 (.enm (fun w' M' H' s R' => ⟨vs, hK ▸ sqT_mono R'.sub (sqT_mono s.le.F hp), hs.mono s.le⟩) rfl) q⟩
        | _ => exact q.elim
      exact psI (ps_for hp (O.calm h7) hi (pg_of O h1) (sSs body O hk tk hp h6) (folded_of h2)) fun K σ H q => for_lift q
    · cases h
  | .raise c e, X, C, W, s, O, hk, tk, hp, h => by
    unfold chkS at h
    split at h
    · rename_i x p y p2 p3
      simp only [Bool.and_eq_true, Bool.not_eq_true', beq_iff_eq] at h
      obtain ⟨⟨⟨⟨⟨h1, h2⟩, h3⟩, h4⟩, h5⟩, h6⟩ := h
      subst h2
      obtain ⟨g1, g2⟩ := glob_of O h3
      obtain ⟨k1, k2⟩ := O.xr _ (List.elem_iff.mp h4)
      refine psI (ps_raise (O.calm h1) tk (pmk_one k2 k1 g1 g2 (sE e O tk h6).pe (star_of h5))) fun K σ H q => ?_
      obtain ⟨w, M, sd, Kd, Ed, R, rs, l, lx, q⟩ := q
      refine ⟨w, M, sd, _, _, R, rs, fun w1 M1 H1 d v s1 R1 r1 q => ?_, lx.at rs, q⟩
      exact ⟨rfl, lx w1 M1 H1 _ _ _ _ _ s1 R1 (rs.mono s1.le) ⟨rfl, .inl ⟨rfl, rfl⟩⟩ q⟩
    · cases h
  | .raiseI c fs es, X, C, W, s, O, hk, tk, hp, h => by
    unfold chkS at h
    split at h
    · rename_i x p y ys p2 p3
      simp only [Bool.and_eq_true, Bool.not_eq_true', beq_iff_eq, decide_eq_true_eq] at h
      obtain ⟨⟨⟨⟨h1, h2⟩, h3⟩, h4, h6⟩, h5⟩ := h
      subst h2
      obtain ⟨g1, g2⟩ := glob_of O h3
      obtain ⟨k1, k2, k, f, fd, k3, k4, k5, k6, k7⟩ := O.xi _ (List.elem_iff.mp h4)
      obtain ⟨hy, cs2, hy2⟩ := chkEs_cons h5
      refine psI (ps_raise (O.calm h1) tk (pmk_oex k2 k3 k4 k5 k6 k7 .nil passNo g1 k1 (sEs es O tk h5) g2 (star_of hy) (plains hy2))) fun K σ H q => ?_
      obtain ⟨w, M, sd, Kd, Ed, R, rs, l, lx, q⟩ := q
      refine ⟨w, M, sd, _, _, R, rs, fun w1 M1 H1 ds vs s1 R1 r1 q => ?_, lx.at rs, q⟩
      obtain ⟨hl, q⟩ := q
      have hvl : vs.length = fs.length := by rw [r1.length]; exact hl
      refine ⟨by rw [hvl]; omega, fun a ha => ⟨a, vs, by rw [List.append_nil], hvl, upd_same, fun d H' hd hda e1 e2 e3 => ⟨rfl, d, _, e1, e2, ?_, ?_⟩⟩⟩
      · rw [upd_ne hda] at hd; exact hd
      · have hd : H1 d = none := by rw [upd_ne hda] at hd; exact hd
        have eH : upd (del H' a) d (.xd (fs.zip vs).reverse) = upd H1 d (.xd (fs.zip vs).reverse) := by
          funext b
          by_cases hb : b = d
          · rw [hb, upd_same, upd_same]
          · rw [upd_ne hb, upd_ne hb]
            by_cases hba : b = a
            · rw [hba, del_same, ha]
            · rw [del_ne hba, e3 b hba hb, upd_ne hba]
        rw [eH]
        obtain ⟨R2, s2⟩ := R1.newF hd (.xd (fs.zip vs).reverse) fun ps z => by cases z
        refine lx _ M1 _ _ _ _ _ _ (s1.trans s2) R2 (rs.mono (s1.trans s2).le) ⟨rfl, .inr ⟨_, d, _, rfl, rfl, upd_same, relKs_rev (relKs_zip2 hl.symm (r1.mono s2.le))⟩⟩ q
    · cases h
  | .whil c body, X, C, W, s, O, hk, tk, hp, h => by
    unfold chkS at h
    split at h
    · simp only [Bool.and_eq_true] at h
      exact psI (ps_while hp (sE c O tk h.1).pt (sSs body O hk tk hp h.2)) fun K σ H q => while_lift q
    · cases h
theorem sSs : ∀ (c : CSs) {X : Cx} {C : Ctx} {W : WX} {s : List Stmt}, EnvOk X P C Φ κ → C.sc.kind = .function → Takes X W → PassesOwn (model X.prog X.w) X.A X.env X.xe → chkSs C c s = true → PSs X s (liS P W (rSs Φ κ c))
  | .nil, X, C, W, s, O, hk, tk, hp, h => by
    unfold chkSs at h
    split at h
    · refine pssI pss_nil fun K σ H q => ?_
      obtain ⟨w, M, sd, Kd, Ed, R, rs, l, lx, q⟩ := q
      exact l.nx w M H _ _ (.refl _ _) R rs q
    · cases h
  | .cons c cs, X, C, W, s, O, hk, tk, hp, h => by
    unfold chkSs at h
    split at h
    · simp only [Bool.and_eq_true] at h
      refine pssI (pss_cons (sS c O hk tk hp h.1) (sSs cs O hk tk hp h.2)) fun K σ H q => ?_
      obtain ⟨w, M, sd, Kd, Ed, R, rs, l, lx, q⟩ := q
      exact ⟨w, M, sd, { Kd with nx := rSs Φ κ cs Ed Kd }, Ed, R, rs, ⟨fun w1 M1 H1 sd1 σ1 s1 R1 rs1 q => ⟨w1, M1, sd1, Kd, Ed, R1, rs1, l.on s1, lx.on s1, q⟩, l.rt, l.bk, l.ct⟩, lx, q⟩
    · cases h
end
end
/-- what the text's defs and constants are, for calls k deep -/
structure Tab (Pg : Program) (w : World) (K : PySem.W.Frag) (mg : Str → Option Value) (base : Heap) (P : Pm) (G : List (Str × GD)) (B : List Str) (Φ : Nat → SpD) (κ : Nat → D) (k : Nat) : Prop where
  fun_ : ∀ x f, G.lookup x = some (.fn f) → ∃ j a fd ps, j ≤ k ∧ mg x = some (.ref a) ∧ PySem.W.keepIn K (.ref a) = true ∧ FnOk Pg w K mg base (L2.CX Pg w) j a fd ps (liSp P (Φ f)) ∧ Binds K fd ps []
  cst : ∀ x g, G.lookup x = some (.cst g) → ∃ u v, mg x = some u ∧ RelV v u ∧ ∀ w, RelD P w (κ g) v
  blt : ∀ x ∈ B, mg x = none
def startD (n : Nat) (ds : List D) : Std := ds.map some ++ List.replicate (n - ds.length) none
def endsD (n0 : Nat) (Q : QE) : EndsD := ⟨fun _ M => Fin n0 Q .non M, fun d M => Fin n0 Q d M, fun _ _ => False, fun _ _ => False⟩
theorem relSt_start {P : Pm} {w : Wd} {ds : List D} {vs : List V} (N : List Str) (r : RelDs P w ds vs) : RelSt P w (startD N.length ds) (L2.start N vs) := by
  have hl := r.length
  refine ⟨by unfold startD L2.start; rw [List.length_append, List.length_append, List.length_map, List.length_map, List.length_replicate, List.length_replicate, hl], fun i d h => ?_⟩
  unfold startD at h
  unfold L2.start
  by_cases hi : i < ds.length
  · rw [List.getElem?_append_left (by simpa using hi), List.getElem?_map] at h
    rw [List.getElem?_append_left (by rw [List.length_map, hl]; exact hi), List.getElem?_map]
    cases e : ds[i]? with
    | none => rw [e] at h; cases h
    | some d' =>
      rw [e] at h
      cases h
      obtain ⟨v, hv, rv⟩ := r.get e
      exact ⟨v, by rw [hv]; rfl, rv⟩
  · rw [List.getElem?_append_right (by simpa using hi), List.getElem?_replicate] at h
    split at h <;> cases h
end DL
namespace DL
open PySem L2
section
variable {Φ : Nat → SpD} {κ : Nat → D} {E : EX} {EE : EXS} {K : EndsD} {σ : Std} {M : Md} {Q : QE} {QT : Bool → Md → Prop} {QA : List D → Md → Prop} {QO : Option Int → Md → Prop} {QI : List D → Option Nat → Md → Prop}
def nxt (Φ : Nat → SpD) (κ : Nat → D) (r : CSs) (E : EXS) (K : EndsD) : Std → Md → Prop := rSs Φ κ r E K
theorem nxt_eq {r : CSs} : nxt Φ κ r EE K σ M = rSs Φ κ r EE K σ M := rfl
theorem nxt_nil : nxt Φ κ .nil EE K σ M = K.nx σ M := rfl
theorem rSs_nil : rSs Φ κ .nil EE K σ M = K.nx σ M := rfl
theorem rSs_cons {s r} : rSs Φ κ (.cons s r) EE K σ M = rS Φ κ s EE ⟨nxt Φ κ r EE K, K.rt, K.bk, K.ct⟩ σ M := rfl
theorem rSs_one {s} : rSs Φ κ (.cons s .nil) EE K σ M = rS Φ κ s EE ⟨K.nx, K.rt, K.bk, K.ct⟩ σ M := rfl
theorem rS_set {i e} : rS Φ κ (.set i e) EE K σ M = rE Φ κ e (fun x => EE x σ) σ M fun d M1 => K.nx (σ.set i (some d)) M1 := rfl
theorem rS_setP {is es} : rS Φ κ (.setP is es) EE K σ M = rds Φ κ es (fun x => EE x σ) σ M fun ds M1 => ds.length = is.length ∧ K.nx (setAll σ is ds) M1 := rfl
def tupQ (d : D) (n : Nat) (f : List D → Prop) : Prop := match d with
  | .tup ds => ds.length = n ∧ f ds
  | _ => False
theorem tupQ_tup {ds : List D} {n : Nat} {f : List D → Prop} : tupQ (.tup ds) n f = (ds.length = n ∧ f ds) := rfl
theorem rS_setTF {cf os e} : rS Φ κ (.setTF cf os e) EE K σ M = rE Φ κ e (fun x => EE x σ) σ M fun d M1 => tupQ d cf.length fun ds => setTFd Φ κ (fun x => EE x σ) σ cf os ds M1 fun M2 => K.nx σ M2 := rfl
theorem setTFd_nil {E : EX} {QM : Md → Prop} : setTFd Φ κ E σ [] .nil [] M QM = QM M := rfl
theorem setTFd_cons {E : EX} {QM : Md → Prop} {c f : Str} {r : List (Str × Str)} {o os} {d : D} {ds : List D} : setTFd Φ κ E σ ((c, f) :: r) (.cons o os) (d :: ds) M QM = rE Φ κ o E σ M fun x M1 => setFD c f x d M1 fun M2 => setTFd Φ κ E σ r os ds M2 QM := rfl
theorem rS_aug {i e} : rS Φ κ (.aug i e) EE K σ M = match σ[i]? with
    | some (some x) => rE Φ κ e (fun x => EE x σ) σ M fun y M1 => addI x y fun z => K.nx (σ.set i (some z)) M1
    | _ => False := rfl
theorem rS_augF {c o f e} : rS Φ κ (.augF c o f e) EE K σ M = rE Φ κ o (fun x => EE x σ) σ M fun x M1 => isRef x ∧ fldD c f x M1 fun v M2 => rE Φ κ e (fun x => EE x σ) σ M2 fun y M3 => addI v y fun z => setFD c f x z M3 fun M' => K.nx σ M' := rfl
theorem isRef_ref {k : Nat} : isRef (.ref k) = True := rfl
theorem addI_int {a b : Int} {f : D → Prop} : addI (.int a) (.int b) f = f (.int (a + b)) := rfl
theorem rS_setT {is e} : rS Φ κ (.setT is e) EE K σ M = rE Φ κ e (fun x => EE x σ) σ M fun d M1 => asgT (.tp is) d σ M1 K.nx := rfl
theorem rS_setIx {o i v} : rS Φ κ (.setIx o i v) EE K σ M = rE Φ κ v (fun x => EE x σ) σ M fun d M1 => rE Φ κ o (fun x => EE x σ) σ M1 fun x M2 => rE Φ κ i (fun x => EE x σ) σ M2 fun y M3 => setIxD x y d M3 fun M' => K.nx σ M' := by
  have e : ∀ x y d (M3 : Md), (match x with
    | .ref k => match M3[k]?, y with
      | some (.lst ds), .int j => match ixN ds.length j with
        | some j => K.nx σ (M3.set k (.lst (ds.set j d)))
        | none => False
      | some (.dct kvs), y => match keyD y with
        | some ky => kvs.length < sizeLine ∧ K.nx σ (M3.set k (.dct (dctPut kvs ky d)))
        | none => False
      | some (.dctT kvs), y => match tKey y with
        | some ky => kvs.length < sizeLine ∧ K.nx σ (M3.set k (.dctT (dctPutT kvs y ky d)))
        | none => False
      | _, _ => False
    | _ => False) = setIxD x y d M3 fun M' => K.nx σ M' := fun x y d M3 => rfl
  rfl
theorem rS_raise {c e} : rS Φ κ (.raise c e) EE K σ M = rE Φ κ e (fun x => EE x σ) σ M fun _ M1 => EE ⟨c, none⟩ σ M1 := rfl
theorem rS_raiseI {c fs es} : rS Φ κ (.raiseI c fs es) EE K σ M = rds Φ κ es (fun x => EE x σ) σ M fun ds M1 => ds.length = fs.length ∧ EE ⟨c, some (fs.zip ds).reverse⟩ σ M1 := rfl
def xhQ (o : Option (Option D)) (e : D) (Q : Str → List Str → List D → Prop) : Prop := match o, e with
  | some (some (.exc a od c ns ds)), .exc a' od' c' _ _ => a = a' ∧ od = od' ∧ c = c' ∧ Q c ns ds
  | _, _ => False
theorem xheld_eq {i : Nat} {e : D} {QX : Str → List Str → List D → Prop} : xheld σ i e QX = xhQ σ[i]? e QX := rfl
theorem xhQ_at {a : Addr} {od : Option Addr} {c : Str} {ns ns2 : List Str} {ds ds2 : List D} {QX : Str → List Str → List D → Prop} : xhQ (some (some (.exc a od c ns ds))) (.exc a od c ns2 ds2) QX = QX c ns ds := by
  unfold xhQ
  simp
theorem xdct_some {a d : Addr} {c : Str} {ns : List Str} {ds : List D} : xdct (.exc a (some d) c ns ds) = True := rfl
theorem rE_xis {i T} : rE Φ κ (.xis i T) E σ M Q = xheld σ i (κ 0) fun c _ _ => Q (.bl (xsub c T)) M := rfl
theorem rT_xis {i T} : rT Φ κ (.xis i T) E σ M QT = rE Φ κ (.xis i T) E σ M fun d M1 => truD d M1 fun k => QT k M1 := rfl
def lkQ (f : Str) (fs : List (Str × D)) (M : Md) (Q : QE) : Prop := match fs.lookup f with
  | some x => Q x M
  | none => False
theorem rE_gin {x kv a} : rE Φ κ (.gin x kv a) E σ M Q = rE Φ κ a E σ M fun d M1 => ginD kv d fun b => Q (.bl b) M1 := rfl
theorem rT_gin {x kv a} : rT Φ κ (.gin x kv a) E σ M QT = rE Φ κ a E σ M fun d M1 => ginD kv d fun b => QT b M1 := rfl
theorem rE_gidx {x kv a} : rE Φ κ (.gidx x kv a) E σ M Q = rE Φ κ a E σ M fun d M1 => gidxD kv d fun t => Q t M1 := rfl
theorem ginD_str {kv : List (Str × Str)} {s : Str} {QB : Bool → Prop} : ginD kv (.str s) QB = QB (kv.lookup s).isSome := rfl
def gidxO (o : Option Str) (Q : D → Prop) : Prop := match o with
  | some t => Q (.str t)
  | none => False
theorem gidxD_str {kv : List (Str × Str)} {s : Str} {QD : D → Prop} : gidxD kv (.str s) QD = gidxO (kv.lookup s) QD := rfl
theorem gidxO_some {t : Str} {QD : D → Prop} : gidxO (some t) QD = QD (.str t) := rfl
theorem rE_xfld {i k f} : rE Φ κ (.xfld i k f) E σ M Q = (xdct (κ 0) ∧ xheld σ i (κ 0) fun c ns ds => c = k ∧ lkQ f (ns.zip ds) M Q) := rfl
theorem lkQ_hd {f : Str} {x : D} {fs : List (Str × D)} : lkQ f ((f, x) :: fs) M Q = Q x M := by
  unfold lkQ
  rw [List.lookup_cons]
  simp
theorem lkQ_tl {f g : Str} {x : D} {fs : List (Str × D)} (h : (f == g) = false) : lkQ f ((g, x) :: fs) M Q = lkQ f fs M Q := by
  unfold lkQ
  rw [List.lookup_cons, h]
theorem xsub_V {c : Str} : xsub c "ValueError" = true := by
  unfold xsub
  rw [show ((("ValueError" : Str) == ("ValueError" : Str)) : Bool) = true from beq_self_eq_true _]
  simp
theorem xsub_F {c : Str} : xsub c "FirstwayError" = true := by
  unfold xsub
  rw [show ((("FirstwayError" : Str) == ("FirstwayError" : Str)) : Bool) = true from beq_self_eq_true _]
  simp
theorem xsub_self {c : Str} : xsub c c = true := by
  unfold xsub
  simp
theorem xsub_ne {c T : Str} (h1 : (c == T) = false) (h2 : (T == ("FirstwayError" : Str)) = false) (h3 : (T == ("ValueError" : Str)) = false) : xsub c T = false := by
  unfold xsub
  rw [h1, h2, h3]; rfl
theorem rS_expr {e} : rS Φ κ (.expr e) EE K σ M = rE Φ κ e (fun x => EE x σ) σ M fun _ M1 => K.nx σ M1 := rfl
theorem rS_ret {e} : rS Φ κ (.ret e) EE K σ M = rE Φ κ e (fun x => EE x σ) σ M K.rt := rfl
theorem rS_retN : rS Φ κ .retN EE K σ M = K.rt .non M := rfl
theorem rS_pass : rS Φ κ .pass EE K σ M = K.nx σ M := rfl
theorem rS_brk : rS Φ κ .brk EE K σ M = K.bk σ M := rfl
theorem rS_cont : rS Φ κ .cont EE K σ M = K.ct σ M := rfl
theorem rS_ifs {c a b} : rS Φ κ (.ifs c a b) EE K σ M = rT Φ κ c (fun x => EE x σ) σ M fun k M1 => if k = true then rSs Φ κ a EE K σ M1 else rSs Φ κ b EE K σ M1 := rfl
theorem rS_fors {t it body} : rS Φ κ (.fors t it body) EE K σ M = rdi Φ κ it (fun x => EE x σ) σ M fun ds lk M1 => loopD lk ds (asgT t) (rSs Φ κ body EE) K ds σ M1 := rfl
theorem rS_enums {t e body} : rS Φ κ (.enums t e body) EE K σ M = rE Φ κ e (fun x => EE x σ) σ M fun d M1 => enumQ d M1 fun ds lk M2 => loopD lk ds (asgT t) (rSs Φ κ body EE) K ds σ M2 := rfl
theorem enumQ_tup {ds : List D} {QI : List D → Option Nat → Md → Prop} : enumQ (.tup ds) M QI = QI (enumD ds) none M := rfl
theorem rS_whil {c body} : rS Φ κ (.whil c body) EE K σ M = ∃ n, whilD (fun σ M Q => rT Φ κ c (fun x => EE x σ) σ M Q) (rSs Φ κ body EE) K n σ M := rfl
theorem rE_var {i} : rE Φ κ (.var i) E σ M Q = match σ[i]? with
    | some (some d) => Q d M
    | _ => False := rfl
theorem rE_int {i} : rE Φ κ (.int i) E σ M Q = Q (.int i) M := rfl
theorem rE_str {i} : rE Φ κ (.str i) E σ M Q = Q (.str i) M := rfl
theorem rE_bl {i} : rE Φ κ (.bl i) E σ M Q = Q (.bl i) M := rfl
theorem rE_non : rE Φ κ .non E σ M Q = Q .non M := rfl
theorem rE_glob {g} : rE Φ κ (.glob g) E σ M Q = Q (κ g) M := rfl
theorem rE_bin {o a b} : rE Φ κ (.bin o a b) E σ M Q = rE Φ κ a E σ M fun x M1 => rE Φ κ b E σ M1 fun y M2 => opD o x y M2 Q := rfl
def negD (x : D) (M : Md) (Q : QE) : Prop := match x with
    | .int i => Q (.int (-i)) M
    | _ => False
theorem rE_neg {a} : rE Φ κ (.neg a) E σ M Q = rE Φ κ a E σ M fun x M1 => negD x M1 Q := rfl
theorem negD_int {i : Int} : negD (.int i) M Q = Q (.int (-i)) M := rfl
theorem rE_not {a} : rE Φ κ (.not a) E σ M Q = rE Φ κ a E σ M fun x M1 => truD x M1 fun k => Q (.bl (!k)) M1 := rfl
theorem rE_and {a b} : rE Φ κ (.and a b) E σ M Q = rE Φ κ a E σ M fun x M1 => truD x M1 fun k => if k = true then rE Φ κ b E σ M1 Q else Q x M1 := rfl
theorem rE_or {a b} : rE Φ κ (.or a b) E σ M Q = rE Φ κ a E σ M fun x M1 => truD x M1 fun k => if k = true then Q x M1 else rE Φ κ b E σ M1 Q := rfl
theorem rE_cmp {c a b} : rE Φ κ (.cmp c a b) E σ M Q = rE Φ κ a E σ M fun x M1 => rE Φ κ b E σ M1 fun y M2 => cpD c x y M2 fun k => Q (.bl k) M2 := rfl
theorem rE_chain {c1 c2 a b d} : rE Φ κ (.chain c1 c2 a b d) E σ M Q = rE Φ κ a E σ M fun x M1 => rE Φ κ b E σ M1 fun y M2 => cpD c1 x y M2 fun k => if k = true then rE Φ κ d E σ M2 fun z M3 => cpD c2 y z M3 fun k => Q (.bl k) M3 else Q (.bl false) M2 := rfl
theorem rE_ife {c a b} : rE Φ κ (.ife c a b) E σ M Q = rT Φ κ c E σ M fun k M1 => if k = true then rE Φ κ a E σ M1 Q else rE Φ κ b E σ M1 Q := rfl
theorem rE_tup {es} : rE Φ κ (.tup es) E σ M Q = rds Φ κ es E σ M fun ds M1 => ds.length ≤ sizeLine ∧ Q (.tup ds) M1 := rfl
theorem rE_lst {es} : rE Φ κ (.lst false es) E σ M Q = rds Φ κ es E σ M fun ds M1 => ds.length ≤ sizeLine ∧ Q (.lst ds) M1 := rfl
theorem rE_lstM {es} : rE Φ κ (.lst true es) E σ M Q = rds Φ κ es E σ M fun ds M1 => ds.length ≤ sizeLine ∧ Q (.ref M1.length) (M1 ++ [.lst ds]) := rfl
theorem rE_idx {a b} : rE Φ κ (.idx a b) E σ M Q = rE Φ κ a E σ M fun x M1 => rE Φ κ b E σ M1 fun y M2 => ixD x y M2 Q := rfl
theorem rE_slc {m a lo hi} : rE Φ κ (.slc m a lo hi) E σ M Q = rE Φ κ a E σ M fun x M1 => rdo Φ κ lo E σ M1 fun l M2 => rdo Φ κ hi E σ M2 fun h M3 => slD m x l h M3 Q := rfl
theorem rE_call {f es} : rE Φ κ (.call f es) E σ M Q = rds Φ κ es E σ M fun ds M1 => Φ f ds M1 Q E := rfl
theorem rE_blt {b es} : rE Φ κ (.blt b es) E σ M Q = rds Φ κ es E σ M fun ds M1 => btD b ds M1 Q := rfl
def fnQ (o : Option (Option D)) (c : Option (List D)) (M : Md) (n : Nat) (K : Nat → List D → Prop) : Prop := match o, c with
  | some (some (.ref k)), some cs => isFn M k n ∧ K k cs
  | _, _ => False
theorem fnQ_ref {k n : Nat} {cs : List D} {K : Nat → List D → Prop} : fnQ (some (some (.ref k))) (some cs) M n K = (isFn M k n ∧ K k cs) := rfl
theorem rE_calln {i n js es} : rE Φ κ (.calln i n js es) E σ M Q = fnQ σ[i]? (capsD σ js) M n fun k cs => rds Φ κ es E σ M fun ds M1 => isFn M1 k n ∧ Φ n (.ref k :: (cs ++ ds)) M1 Q E := by
  show (match σ[i]?, capsD σ js with
    | some (some (.ref k)), some cs => isFn M k n ∧ rds Φ κ es E σ M fun ds M1 => isFn M1 k n ∧ Φ n (.ref k :: (cs ++ ds)) M1 Q E
    | _, _ => False) = _
  unfold fnQ
  rfl
def capQ (o : Option (Option D)) (c : Option (List D)) : Option (List D) := match o, c with
  | some (some d), some ds => some (d :: ds)
  | _, _ => none
theorem capQ_some {d : D} {ds : List D} : capQ (some (some d)) (some ds) = some (d :: ds) := rfl
theorem capsD_nil {σ : Std} : capsD σ [] = some [] := rfl
theorem capsD_cons {σ : Std} {j : Nat} {js : List Nat} : capsD σ (j :: js) = capQ σ[j]? (capsD σ js) := rfl
theorem rE_mth {m o es} : rE Φ κ (.mth m o es) E σ M Q = rE Φ κ o E σ M fun x M1 => mtK m x M1 ∧ rds Φ κ es E σ M1 fun ds M2 => mtD m x ds M2 Q := rfl
theorem rE_comp {elt t it ifs own} : rE Φ κ (.comp false elt t it ifs own) E σ M Q = rdi Φ κ it E σ M fun ds lk M1 =>
      compD lk ds (fun d k M => asgT t d (wipeD σ own) M k) (fun σ M Q => rdt Φ κ ifs (fun _ _ => False) σ M Q) (fun σ M Q => rE Φ κ elt (fun _ _ => False) σ M Q) (fun acc M => Q (.lst acc) M) ds [] M1 := rfl
theorem rE_compM {elt t it ifs own} : rE Φ κ (.comp true elt t it ifs own) E σ M Q = rdi Φ κ it E σ M fun ds lk M1 =>
      compD lk ds (fun d k M => asgT t d (wipeD σ own) M k) (fun σ M Q => rdt Φ κ ifs (fun _ _ => False) σ M Q) (fun σ M Q => rE Φ κ elt (fun _ _ => False) σ M Q) (fun acc M => Q (.ref M.length) (M ++ [.lst acc])) ds [] M1 := rfl
theorem rE_dnewT : rE Φ κ .dnewT E σ M Q = Q (.ref M.length) (M ++ [.dctT []]) := rfl
theorem rE_dlit {ks : List Str} {es : CEs} : rE Φ κ (.dlit ks es) E σ M Q = rds Φ κ es E σ (M ++ [.dct []]) fun ds M1 => M1[M.length]? = some (.dct []) ∧ Q (.ref M.length) (M1.set M.length (.dct (dlitP ks ds []))) := rfl
theorem rE_dget {o k x : CE} : rE Φ κ (.dget o k x) E σ M Q = rE Φ κ o E σ M fun d M1 => isDct d M1 ∧ rE Φ κ k E σ M1 fun y M2 => rE Φ κ x E σ M2 fun z M3 => dgetD d y z M3 Q := rfl
theorem rE_dnew : rE Φ κ .dnew E σ M Q = Q (.ref M.length) (M ++ [.dct []]) := rfl
def lrQ (d : D) (M : Md) (Q : QE) : Prop := match d with
    | .int j => -(2 ^ 62) ≤ j ∧ j ≤ 16777216 ∧ Q (.lst (rngD 0 j)) M
    | _ => False
theorem rE_fld {c a f} : rE Φ κ (.fld c a f) E σ M Q = rE Φ κ a E σ M fun d M1 => fldD c f d M1 Q := rfl
theorem rE_meth {c m n o es} : rE Φ κ (.meth c m n o es) E σ M Q = rE Φ κ o E σ M fun x M1 => objD c m x M1 ∧ rds Φ κ es E σ M1 fun ds M2 => Φ n (x :: ds) M2 Q E := rfl
theorem objD_obj {c m c' : Str} {ns : List Str} {ds : List D} : objD c m (.obj c' ns ds) M = (c' = c ∧ ns.contains m = false) := rfl
theorem rT_meth {c m n o es} : rT Φ κ (.meth c m n o es) E σ M QT = rE Φ κ (.meth c m n o es) E σ M fun d M1 => truD d M1 fun k => QT k M1 := rfl
theorem rE_callK {f j es ks zs df} : rE Φ κ (.callK f j es ks zs df) E σ M Q = rds Φ κ es E σ M fun ds M1 => ds.length = j ∧ rds Φ κ zs E σ M1 fun us M2 => us.length = ks.length ∧ Φ f (ds ++ (us ++ df.map Sc.d)) M2 Q E := rfl
theorem rE_methK {c m n o j es ks zs df} : rE Φ κ (.methK c m n o j es ks zs df) E σ M Q = rE Φ κ o E σ M fun x M1 => objD c m x M1 ∧ rds Φ κ es E σ M1 fun ds M2 => ds.length = j ∧ rds Φ κ zs E σ M2 fun us M3 => us.length = ks.length ∧ Φ n (x :: (ds ++ (us ++ df.map Sc.d))) M3 Q E := rfl
theorem rE_makeK {n c j es ks zs df} : rE Φ κ (.makeK true n c j es ks zs df) E σ M Q = rds Φ κ es E σ M fun ds M0 => ds.length = j ∧ rds Φ κ zs E σ M0 fun us M1 => us.length = ks.length ∧ Φ n (.ref M1.length :: (ds ++ (us ++ df.map Sc.d))) (M1 ++ [.ins c []]) (fun d M2 => d = .non ∧ Q (.ref M1.length) M2) E := rfl
theorem Sc_non : Sc.d .non = .non := rfl
theorem Sc_bl {b : Bool} : Sc.d (.bl b) = .bl b := rfl
theorem Sc_int {i : Int} : Sc.d (.int i) = .int i := rfl
theorem Sc_str {i : Str} : Sc.d (.str i) = .str i := rfl
theorem rE_make {n c es} : rE Φ κ (.make true n c es) E σ M Q = rds Φ κ es E σ M fun ds M1 => Φ n (.ref M1.length :: ds) (M1 ++ [.ins c []]) (fun d M2 => d = .non ∧ Q (.ref M1.length) M2) E := rfl
def mkQ (c : Str) (M1 : Md) (Q : QE) (d : D) (M2 : Md) : Prop := d = .non ∧ ∃ fs, M2 = M1 ++ [.ins c fs] ∧ RLtM M1.length (.ins c fs) ∧ Q (.obj c (fs.map (·.1)) (fs.map (·.2))) M1
theorem rE_makeKS {n c j es ks zs df} : rE Φ κ (.makeK false n c j es ks zs df) E σ M Q = rds Φ κ es E σ M fun ds M0 => ds.length = j ∧ rds Φ κ zs E σ M0 fun us M1 => us.length = ks.length ∧ Φ n (.ref M1.length :: (ds ++ (us ++ df.map Sc.d))) (M1 ++ [.ins c []]) (mkQ c M1 Q) E := rfl
theorem rE_makeS {n c es} : rE Φ κ (.make false n c es) E σ M Q = rds Φ κ es E σ M fun ds M1 => Φ n (.ref M1.length :: ds) (M1 ++ [.ins c []]) (mkQ c M1 Q) E := rfl
def objQ (c c' f : Str) (ns : List Str) (ds : List D) (M : Md) (Q : QE) : Prop := c' = c ∧ match (ns.zip ds).lookup f with
    | some x => Q x M
    | none => False
theorem fld_obj {c c' f : Str} {ns : List Str} {ds : List D} : fldD c f (.obj c' ns ds) M Q = objQ c c' f ns ds M Q := rfl
theorem objQ_hd {c c' f : Str} {ns : List Str} {ds : List D} {d : D} : objQ c c' f (f :: ns) (d :: ds) M Q = (c' = c ∧ Q d M) := by
  unfold objQ
  rw [List.zip_cons_cons, List.lookup_cons, beq_self_eq_true]
theorem objQ_tl {c c' f g : Str} {ns : List Str} {ds : List D} {d : D} (h : (f == g) = false) : objQ c c' f (g :: ns) (d :: ds) M Q = objQ c c' f ns ds M Q := by
  unfold objQ
  rw [List.zip_cons_cons, List.lookup_cons, h]
theorem rS_setFld {c o f v} : rS Φ κ (.setFld c o f v) EE K σ M = rE Φ κ v (fun x => EE x σ) σ M fun d M1 => rE Φ κ o (fun x => EE x σ) σ M1 fun x M2 => setFD c f x d M2 fun M' => K.nx σ M' := rfl
theorem rE_listRg {a} : rE Φ κ (.listRg false a) E σ M Q = rE Φ κ a E σ M fun d M1 => lrQ d M1 Q := rfl
def lrQM (d : D) (M : Md) (Q : QE) : Prop := match d with
    | .int j => -(2 ^ 62) ≤ j ∧ j ≤ 16777216 ∧ Q (.ref M.length) (M ++ [.lst (rngD 0 j)])
    | _ => False
theorem rE_listRgM {a} : rE Φ κ (.listRg true a) E σ M Q = rE Φ κ a E σ M fun d M1 => lrQM d M1 Q := rfl
theorem lrQM_int {j : Int} : lrQM (.int j) M Q = (-(2 ^ 62) ≤ j ∧ j ≤ 16777216 ∧ Q (.ref M.length) (M ++ [.lst (rngD 0 j)])) := rfl
theorem lrQ_int {j : Int} : lrQ (.int j) M Q = (-(2 ^ 62) ≤ j ∧ j ≤ 16777216 ∧ Q (.lst (rngD 0 j)) M) := rfl
theorem rds_nil : rds Φ κ .nil E σ M QA = QA [] M := rfl
theorem rds_cons {e es} : rds Φ κ (.cons e es) E σ M QA = rE Φ κ e E σ M fun d M1 => rds Φ κ es E σ M1 fun ds M2 => QA (d :: ds) M2 := rfl
theorem rdo_none : rdo Φ κ .none E σ M QO = QO none M := rfl
def intO (d : D) (M : Md) (Q : Option Int → Md → Prop) : Prop := match d with
    | .int i => Q (some i) M
    | _ => False
theorem intO_int {i : Int} : intO (.int i) M QO = QO (some i) M := rfl
theorem rdo_some {e} : rdo Φ κ (.some e) E σ M QO = rE Φ κ e E σ M fun d M1 => intO d M1 QO := rfl
theorem rdt_none : rdt Φ κ .none E σ M QT = QT true M := rfl
theorem rdt_some {e} : rdt Φ κ (.some e) E σ M QT = rT Φ κ e E σ M QT := rfl
def walkD (d : D) (M : Md) (Q : List D → Option Nat → Md → Prop) : Prop := match seqOf d M with
    | some ds => Q ds (lkOf d) M
    | none => False
def chrQ (d : D) (M : Md) (Q : List D → Option Nat → Md → Prop) : Prop := match d with
  | .str s => Q (charsD s) none M
  | _ => False
theorem chrQ_str {s : Str} : chrQ (.str s) M QI = QI (charsD s) none M := rfl
theorem rdi_chars {e} : rdi Φ κ (.chars e) E σ M QI = rE Φ κ e E σ M fun d M1 => chrQ d M1 QI := rfl
theorem rdi_seq {e} : rdi Φ κ (.seq e) E σ M QI = rE Φ κ e E σ M fun d M1 => walkD d M1 QI := rfl
theorem walkD_tup {ds} : walkD (.tup ds) M QI = QI ds none M := rfl
theorem walkD_lst {ds} : walkD (.lst ds) M QI = QI ds none M := rfl
def rngQ (d : D) (M : Md) (Q : List D → Option Nat → Md → Prop) : Prop := match d with
    | .int j => -(2 ^ 62) ≤ j ∧ j < 2 ^ 62 ∧ Q (rngD 0 j) none M
    | _ => False
theorem rdi_rng1 {e} : rdi Φ κ (.rng1 e) E σ M QI = rE Φ κ e E σ M fun d M1 => rngQ d M1 QI := rfl
theorem rngQ_int {j} : rngQ (.int j) M QI = (-(2 ^ 62) ≤ j ∧ j < 2 ^ 62 ∧ QI (rngD 0 j) none M) := rfl
def rngQ2 (d e : D) (M : Md) (Q : List D → Option Nat → Md → Prop) : Prop := match d, e with
    | .int i, .int j => -(2 ^ 62) ≤ i ∧ i < 2 ^ 62 ∧ -(2 ^ 62) ≤ j ∧ j < 2 ^ 62 ∧ Q (rngD i j) none M
    | _, _ => False
theorem rdi_rng2 {a b} : rdi Φ κ (.rng2 a b) E σ M QI = rE Φ κ a E σ M fun d M1 => rE Φ κ b E σ M1 fun e M2 => rngQ2 d e M2 QI := rfl
theorem rngQ2_int {i j} : rngQ2 (.int i) (.int j) M QI = (-(2 ^ 62) ≤ i ∧ i < 2 ^ 62 ∧ -(2 ^ 62) ≤ j ∧ j < 2 ^ 62 ∧ QI (rngD i j) none M) := rfl
theorem rT_not {a} : rT Φ κ (.not a) E σ M QT = rT Φ κ a E σ M fun k M1 => QT (!k) M1 := rfl
theorem rT_and {a b} : rT Φ κ (.and a b) E σ M QT = rT Φ κ a E σ M fun k M1 => if k = true then rT Φ κ b E σ M1 QT else QT false M1 := rfl
theorem rT_or {a b} : rT Φ κ (.or a b) E σ M QT = rT Φ κ a E σ M fun k M1 => if k = true then QT true M1 else rT Φ κ b E σ M1 QT := rfl
theorem rT_cmp {c a b} : rT Φ κ (.cmp c a b) E σ M QT = rE Φ κ a E σ M fun x M1 => rE Φ κ b E σ M1 fun y M2 => cpD c x y M2 fun k => QT k M2 := rfl
theorem rT_chain {c1 c2 a b d} : rT Φ κ (.chain c1 c2 a b d) E σ M QT = rE Φ κ a E σ M fun x M1 => rE Φ κ b E σ M1 fun y M2 => cpD c1 x y M2 fun k => if k = true then rE Φ κ d E σ M2 fun z M3 => cpD c2 y z M3 fun k => QT k M3 else QT false M2 := rfl
theorem rT_var {i} : rT Φ κ (.var i) E σ M QT = rE Φ κ (.var i) E σ M fun d M1 => truD d M1 fun k => QT k M1 := rfl
theorem rT_glob {i} : rT Φ κ (.glob i) E σ M QT = rE Φ κ (.glob i) E σ M fun d M1 => truD d M1 fun k => QT k M1 := rfl
theorem rT_bl {i} : rT Φ κ (.bl i) E σ M QT = QT i M := rfl
theorem rT_bin {o a b} : rT Φ κ (.bin o a b) E σ M QT = rE Φ κ (.bin o a b) E σ M fun d M1 => truD d M1 fun k => QT k M1 := rfl
theorem rT_idx {a b} : rT Φ κ (.idx a b) E σ M QT = rE Φ κ (.idx a b) E σ M fun d M1 => truD d M1 fun k => QT k M1 := rfl
theorem rT_fld {c f a} : rT Φ κ (.fld c a f) E σ M QT = rE Φ κ (.fld c a f) E σ M fun d M1 => truD d M1 fun k => QT k M1 := rfl
theorem rT_slc {m a b c} : rT Φ κ (.slc m a b c) E σ M QT = rE Φ κ (.slc m a b c) E σ M fun d M1 => truD d M1 fun k => QT k M1 := rfl
theorem rT_call {a b} : rT Φ κ (.call a b) E σ M QT = rE Φ κ (.call a b) E σ M fun d M1 => truD d M1 fun k => QT k M1 := rfl
theorem rT_blt {a b} : rT Φ κ (.blt a b) E σ M QT = rE Φ κ (.blt a b) E σ M fun d M1 => truD d M1 fun k => QT k M1 := rfl
theorem rT_mth {a b c} : rT Φ κ (.mth a b c) E σ M QT = rE Φ κ (.mth a b c) E σ M fun d M1 => truD d M1 fun k => QT k M1 := rfl
theorem rT_comp {m a b c d e} : rT Φ κ (.comp m a b c d e) E σ M QT = rE Φ κ (.comp m a b c d e) E σ M fun d M1 => truD d M1 fun k => QT k M1 := rfl
theorem opD_add {i j : Int} : opD .add (.int i) (.int j) M Q = Q (.int (i + j)) M := rfl
theorem opD_adds {s t : Str} : opD .add (.str s) (.str t) M Q = (s.length + t.length ≤ sizeLine ∧ Q (.str (s ++ t)) M) := rfl
theorem opD_addt {a b : List D} : opD .add (.tup a) (.tup b) M Q = (a.length + b.length ≤ sizeLine ∧ Q (.tup (a ++ b)) M) := rfl
theorem opD_addl {a b : List D} : opD .add (.lst a) (.lst b) M Q = (a.length + b.length ≤ sizeLine ∧ Q (.lst (a ++ b)) M) := rfl
theorem opD_catl {a b : List D} : opD .cat (.lst a) (.lst b) M Q = (a.length + b.length ≤ sizeLine ∧ Q (.ref M.length) (M ++ [.lst (a ++ b)])) := rfl
theorem opD_sub {i j : Int} : opD .sub (.int i) (.int j) M Q = Q (.int (i - j)) M := rfl
theorem opD_muls {s : Str} {j : Int} : opD .mul (.str s) (.int j) M Q = (0 ≤ j ∧ 1 ≤ s.length ∧ s.length * j.toNat ≤ sizeLine ∧ Q (.str (repS s j.toNat)) M) := rfl
theorem opD_mul {i j : Int} : opD .mul (.int i) (.int j) M Q = (CMul i j ∧ Q (.int (i * j)) M) := rfl
theorem opD_fdivW {i j : Int} : opD .fdivW (.int i) (.int j) M Q = (CDivW i j ∧ Q (.int (i / j)) M) := rfl
theorem opD_fdiv {i j : Int} : opD .fdiv (.int i) (.int j) M Q = (CDiv i j ∧ Q (.int (i / j)) M) := rfl
theorem opD_mod {i j : Int} : opD .mod (.int i) (.int j) M Q = (0 < j ∧ Q (.int (i % j)) M) := rfl
theorem opD_pow {i j : Int} : opD .pow (.int i) (.int j) M Q = (CPow i j ∧ Q (.int (i ^ j.toNat)) M) := rfl
theorem opD_band {i j : Int} : opD .band (.int i) (.int j) M Q = Q (.int (Builtin.bitAnd i j)) M := rfl
section
variable {QB : Bool → Prop}
theorem cp_lt {i j : Int} : cpD .lt (.int i) (.int j) M QB = QB (decide (i < j)) := rfl
theorem cp_le {i j : Int} : cpD .le (.int i) (.int j) M QB = QB (decide (i ≤ j)) := rfl
theorem cp_gt {i j : Int} : cpD .gt (.int i) (.int j) M QB = QB (decide (j < i)) := rfl
theorem cp_ge {i j : Int} : cpD .ge (.int i) (.int j) M QB = QB (decide (j ≤ i)) := rfl
theorem cp_eq {i j : Int} : cpD .eq (.int i) (.int j) M QB = QB (decide (i = j)) := rfl
theorem cp_eqs {i j : Str} : cpD .eq (.str i) (.str j) M QB = QB (decide (i = j)) := rfl
theorem cp_eqb {i j : Bool} : cpD .eq (.bl i) (.bl j) M QB = QB (decide (i = j)) := rfl
theorem cp_eqn : cpD .eq .non .non M QB = QB true := rfl
theorem cp_eqni {i} : cpD .eq .non (.int i) M QB = QB false := rfl
theorem cp_eqin {i} : cpD .eq (.int i) .non M QB = QB false := rfl
theorem cp_ne {i j : Int} : cpD .ne (.int i) (.int j) M QB = QB (!decide (i = j)) := rfl
theorem cp_nes {i j : Str} : cpD .ne (.str i) (.str j) M QB = QB (!decide (i = j)) := rfl
theorem cp_neb {i j : Bool} : cpD .ne (.bl i) (.bl j) M QB = QB (!decide (i = j)) := rfl
theorem cp_nen : cpD .ne .non .non M QB = QB false := rfl
theorem cp_neni {i} : cpD .ne .non (.int i) M QB = QB true := rfl
theorem cp_nein {i} : cpD .ne (.int i) .non M QB = QB true := rfl
theorem cp_isN {d : D} : cpD .isN d .non M QB = QB (isNon d) := by
  show (isNon .non = true ∧ QB (isNon d)) = _
  exact propext ⟨fun h => h.2, fun h => ⟨rfl, h⟩⟩
theorem cp_notN {d : D} : cpD .notN d .non M QB = QB (!isNon d) := by
  show (isNon .non = true ∧ QB (!isNon d)) = _
  exact propext ⟨fun h => h.2, fun h => ⟨rfl, h⟩⟩
theorem cp_isB {a b : Bool} : cpD .isB (.bl a) (.bl b) M QB = QB (decide (a = b)) := rfl
theorem cp_notB {a b : Bool} : cpD .notB (.bl a) (.bl b) M QB = QB (!decide (a = b)) := rfl
theorem isNon_non : isNon .non = true := rfl
theorem isNon_int {i} : isNon (.int i) = false := rfl
theorem isNon_bl {i} : isNon (.bl i) = false := rfl
theorem isNon_str {i} : isNon (.str i) = false := rfl
theorem isNon_tup {i} : isNon (.tup i) = false := rfl
theorem isNon_lst {i} : isNon (.lst i) = false := rfl
theorem isNon_ref {i} : isNon (.ref i) = false := rfl
theorem tru_non : truD .non M QB = QB false := rfl
theorem tru_bl {b} : truD (.bl b) M QB = QB b := rfl
theorem tru_int {i} : truD (.int i) M QB = QB (i != 0) := rfl
theorem tru_str {s} : truD (.str s) M QB = (s.length ≤ sizeLine ∧ QB ((s.length : Int) != 0)) := rfl
theorem tru_tup {ds} : truD (.tup ds) M QB = QB (!ds.isEmpty) := rfl
theorem tru_lst {ds} : truD (.lst ds) M QB = QB (!ds.isEmpty) := rfl
theorem cp_inn_flat {x y : D} {ds : List D} (h1 : seqOf y M = some ds) (h2 : dGet y x M = none) (hx : flatD x = true) (hf : ds.all flatD = true) (hs : ∀ s t, ¬ (x = .str s ∧ y = .str t)) : cpD .inn x y M QB = QB (ds.any fun d => eqF d x) := by
  show inD x y M QB = _
  unfold inD
  split
  · exact absurd ⟨rfl, rfl⟩ (hs _ _)
  · rw [h2]
    simp only [h1, hx, hf, Bool.and_self, if_true]
theorem cp_inn_tup {x : D} {ds : List D} (hx : flatD x = true) (hf : ds.all flatD = true) : cpD .inn x (.tup ds) M QB = QB (ds.any fun d => eqF d x) := cp_inn_flat rfl rfl hx hf (by rintro s t ⟨_, h⟩; cases h)
end
def atQ (ds : List D) (i : Int) (M : Md) (Q : QE) : Prop := match atI ds i with
  | some d => Q d M
  | none => False
theorem ix_tup' {ds i} : ixD (.tup ds) (.int i) M Q = atQ ds i M Q := rfl
theorem ix_lst' {ds i} : ixD (.lst ds) (.int i) M Q = atQ ds i M Q := rfl
theorem ix_scr {ns i} : ixD (.scr ns) (.int i) M Q = atQ (ns.map .int) i M Q := rfl
theorem ix_ref {k ds i} (h : M[k]? = some (.lst ds)) : ixD (.ref k) (.int i) M Q = atQ ds i M Q := by
  simp only [ixD, dGet, seqOf, h, atQ]
  try rfl
theorem atQ_some {ds : List D} {i : Int} {d : D} (h : atI ds i = some d) : atQ ds i M Q = Q d M := by simp only [atQ, h]
theorem atI_0 {α : Type} {x : α} {xs : List α} : atI (x :: xs) 0 = some x := by
  have : atI (x :: xs) ((0 : Nat) : Int) = some x := atI_nat rfl
  exact this
theorem atI_1 {α : Type} {x y : α} {xs : List α} : atI (x :: y :: xs) 1 = some y := by
  have : atI (x :: y :: xs) ((1 : Nat) : Int) = some y := atI_nat rfl
  exact this
theorem atI_2 {α : Type} {x y z : α} {xs : List α} : atI (x :: y :: z :: xs) 2 = some z := by
  have : atI (x :: y :: z :: xs) ((2 : Nat) : Int) = some z := atI_nat rfl
  exact this
theorem atI_3 {α : Type} {x y z u : α} {xs : List α} : atI (x :: y :: z :: u :: xs) 3 = some u := by
  have : atI (x :: y :: z :: u :: xs) ((3 : Nat) : Int) = some u := atI_nat rfl
  exact this
theorem atI_4 {α : Type} {x y z u v : α} {xs : List α} : atI (x :: y :: z :: u :: v :: xs) 4 = some v := by
  have : atI (x :: y :: z :: u :: v :: xs) ((4 : Nat) : Int) = some v := atI_nat rfl
  exact this
theorem atI_m1 {α : Type} {xs : List α} {x : α} : atI (xs ++ [x]) (-1) = some x := atI_last xs x
theorem atQ_0 {x : D} {xs} : atQ (x :: xs) 0 M Q = Q x M := atQ_some atI_0
theorem atQ_1 {x y : D} {xs} : atQ (x :: y :: xs) 1 M Q = Q y M := atQ_some atI_1
theorem atQ_2 {x y z : D} {xs} : atQ (x :: y :: z :: xs) 2 M Q = Q z M := atQ_some atI_2
theorem atQ_3 {x y z u : D} {xs} : atQ (x :: y :: z :: u :: xs) 3 M Q = Q u M := atQ_some atI_3
theorem atQ_4 {x y z u v : D} {xs} : atQ (x :: y :: z :: u :: v :: xs) 4 M Q = Q v M := atQ_some atI_4
theorem atQ_m1 {x : D} {xs} : atQ (xs ++ [x]) (-1) M Q = Q x M := atQ_some atI_m1
theorem bt_len_str {s : Str} : btD .len [.str s] M Q = (s.length ≤ sizeLine ∧ Q (.int s.length) M) := rfl
theorem bt_len_tup {ds} : btD .len [.tup ds] M Q = Q (.int ds.length) M := rfl
theorem bt_len_lst {ds} : btD .len [.lst ds] M Q = Q (.int ds.length) M := rfl
theorem bt_len_scr {ns} : btD .len [.scr ns] M Q = Q (.int ns.length) M := by
  show Q (.int (ns.map D.int).length) M = _
  rw [List.length_map]
theorem bt_list_tup {ds} : btD .list [.tup ds] M Q = Q (.lst ds) M := rfl
theorem bt_list_lst {ds} : btD .list [.lst ds] M Q = Q (.lst ds) M := rfl
theorem bt_listM_tup {ds} : btD .listM [.tup ds] M Q = Q (.ref M.length) (M ++ [.lst ds]) := rfl
theorem bt_listM_lst {ds} : btD .listM [.lst ds] M Q = Q (.ref M.length) (M ++ [.lst ds]) := rfl
theorem bt_tuple_tup {ds} : btD .tuple [.tup ds] M Q = Q (.tup ds) M := rfl
theorem bt_tuple_lst {ds} : btD .tuple [.lst ds] M Q = Q (.tup ds) M := rfl
theorem bt_max2 {i j : Int} : btD .max2 [.int i, .int j] M Q = Q (.int (if j > i then j else i)) M := rfl
theorem bt_min2 {i j : Int} : btD .min2 [.int i, .int j] M Q = Q (.int (if j < i then j else i)) M := rfl
theorem bt_int_int {i : Int} : btD .int [.int i] M Q = Q (.int i) M := rfl
theorem bt_int_str {s n} (h : PySem.intText? s = some n) (hl : s.length ≤ 640) (q : Q (.int n) M) : btD .int [.str s] M Q := ⟨n, h, hl, q⟩
theorem bt_int_bl {b} : btD .int [.bl b] M Q = Q (.int (if b then 1 else 0)) M := rfl
def srtQ (o : Option MO) (Q : List D → Prop) : Prop := match o with
  | some (.dct kvs) => ∃ ns : List Int, kvs.map (·.1) = ns.map (fun n => some (.inl n)) ∧ Q (sortD (ns.map D.int))
  | _ => False
theorem srt_dct {k : Nat} : btD .sortedD [.ref k] M Q = srtQ M[k]? fun ds => Q (.lst ds) M := rfl
theorem bt_sorted_lst {ds} : btD .sorted [.lst ds] M Q = (SortOk ds ∧ Q (.lst (sortD ds)) M) := by
  show ((∀ es, D.lst ds ≠ .tup es) ∧ SortOk ds ∧ Q (.lst (sortD ds)) M) = _
  exact propext ⟨fun h => h.2, fun h => ⟨(by intro _ h; cases h), h⟩⟩
theorem bt_ord' {s : Str} : btD .ord [.str s] M Q = (s.length = 1 ∧ Q (.int (s.cps.getD 0 0 : Nat)) M) := rfl
theorem bt_str' {i : Int} : btD .str [.int i] M Q = (i.natAbs.log2 < 1920 ∧ Q (.str (toString i)) M) := rfl
def isiQ (t T : String) (M : Md) (Q : QE) : Prop := match kitB t T with
  | some b => Q (.bl b) M
  | none => False
theorem isi_non {T} : btD (.isi T) [.non] M Q = isiQ "NoneType" T M Q := rfl
theorem isi_bl {T b} : btD (.isi T) [.bl b] M Q = isiQ "bool" T M Q := rfl
theorem isi_int {T b} : btD (.isi T) [.int b] M Q = isiQ "int" T M Q := rfl
theorem isi_str {T b} : btD (.isi T) [.str b] M Q = isiQ "str" T M Q := rfl
theorem isi_tup {T b} : btD (.isi T) [.tup b] M Q = isiQ "tuple" T M Q := rfl
theorem isi_lst {T b} : btD (.isi T) [.lst b] M Q = isiQ "list" T M Q := rfl
theorem isiQ_eq {t T : String} {b : Bool} (h : kitB t T = some b) : isiQ t T M Q = Q (.bl b) M := by simp only [isiQ, h]
theorem kit_bb : kitB "bool" "bool" = some true := by decide +kernel
theorem kit_bi : kitB "bool" "int" = some true := by decide +kernel
theorem kit_bs : kitB "bool" "str" = some false := by decide +kernel
theorem kit_bt : kitB "bool" "tuple" = some false := by decide +kernel
theorem kit_bl : kitB "bool" "list" = some false := by decide +kernel
theorem kit_ib : kitB "int" "bool" = some false := by decide +kernel
theorem kit_ii : kitB "int" "int" = some true := by decide +kernel
theorem kit_is : kitB "int" "str" = some false := by decide +kernel
theorem kit_it : kitB "int" "tuple" = some false := by decide +kernel
theorem kit_il : kitB "int" "list" = some false := by decide +kernel
theorem kit_sb : kitB "str" "bool" = some false := by decide +kernel
theorem kit_si : kitB "str" "int" = some false := by decide +kernel
theorem kit_ss : kitB "str" "str" = some true := by decide +kernel
theorem kit_st : kitB "str" "tuple" = some false := by decide +kernel
theorem kit_sl : kitB "str" "list" = some false := by decide +kernel
theorem kit_tb : kitB "tuple" "bool" = some false := by decide +kernel
theorem kit_ti : kitB "tuple" "int" = some false := by decide +kernel
theorem kit_ts : kitB "tuple" "str" = some false := by decide +kernel
theorem kit_tt : kitB "tuple" "tuple" = some true := by decide +kernel
theorem kit_tl : kitB "tuple" "list" = some false := by decide +kernel
theorem kit_lb : kitB "list" "bool" = some false := by decide +kernel
theorem kit_li : kitB "list" "int" = some false := by decide +kernel
theorem kit_ls : kitB "list" "str" = some false := by decide +kernel
theorem kit_lt : kitB "list" "tuple" = some false := by decide +kernel
theorem kit_ll : kitB "list" "list" = some true := by decide +kernel
theorem kit_nb : kitB "NoneType" "bool" = some false := by decide +kernel
theorem kit_ni : kitB "NoneType" "int" = some false := by decide +kernel
theorem kit_ns : kitB "NoneType" "str" = some false := by decide +kernel
theorem kit_nt : kitB "NoneType" "tuple" = some false := by decide +kernel
theorem kit_nl : kitB "NoneType" "list" = some false := by decide +kernel
theorem mt_app {k ds d} (h : M[k]? = some (.lst ds)) : mtD .append (.ref k) [d] M Q = (ds.length < sizeLine ∧ Q .non (M.set k (.lst (ds ++ [d])))) := by simp only [mtD, mutOf, h]
theorem mtK_str {m : Mt} {s : Str} (hm : ¬ mtT m = "list") : mtK m (.str s) M = True := by
  unfold mtK
  rw [if_neg hm]
  exact propext ⟨fun _ => trivial, fun _ => ⟨s, rfl⟩⟩
theorem mtK_join {s} : mtK .join (.str s) M = True := mtK_str (by decide)
theorem mt_joinl {s ds ys} (h : strsOf ds = some ys) : mtD .join (.str s) [.lst ds] M Q = ((ys.map (·.length)).sum + ys.length * s.length ≤ 16777216 ∧ Q (.str (Txt.join s ys)) M) := by simp only [mtD, seqOf, Option.bind_some, h]
theorem sl_tup' {m ds lo hi} : slD m (.tup ds) lo hi M Q = Q (.tup (cutD ds lo hi)) M := rfl
theorem sl_lst' {ds lo hi} : slD false (.lst ds) lo hi M Q = Q (.lst (cutD ds lo hi)) M := rfl
theorem sl_str' {m s lo hi} : slD m (.str s) lo hi M Q = (s.length ≤ sizeLine ∧ Q (.str ⟨(cutD s.cps.toList lo hi).toArray⟩) M) := rfl
section
variable {QS : Std → Md → Prop}
theorem asg_nm {i d} : asgT (.nm i) d σ M QS = QS (σ.set i (some d)) M := rfl
theorem asg_tp {is ds} : asgT (.tp is) (.tup ds) σ M QS = (ds.length = is.length ∧ QS (setAll σ is ds) M) := rfl
theorem setAll_cons {i is d ds} : setAll σ (i :: is) (d :: ds) = setAll (σ.set i (some d)) is ds := rfl
theorem setAll_nil {ds} : setAll σ [] ds = σ := by cases ds <;> rfl
end
theorem at_new0 {l : Md} : (M ++ l)[M.length]? = l[0]? := by
  rw [List.getElem?_append_right (Nat.le_refl _), Nat.sub_self]
theorem at_new {l : Md} {i : Nat} : (M ++ l)[M.length + i]? = l[i]? := by
  rw [List.getElem?_append_right (Nat.le_add_right _ _), Nat.add_sub_cancel_left]
theorem set_new0 {l : Md} {m : MO} : (M ++ l).set M.length m = M ++ l.set 0 m := by
  rw [List.set_append_right _ _ (Nat.le_refl _), Nat.sub_self]
theorem set_new {l : Md} {i : Nat} {m : MO} : (M ++ l).set (M.length + i) m = M ++ l.set i m := by
  rw [List.set_append_right _ _ (Nat.le_add_right _ _), Nat.add_sub_cancel_left]
theorem len_set {k : Nat} {m : MO} : (M.set k m).length = M.length := List.length_set ..
end
/-- own changing objects are let go -/
theorem Fin.tail {n0 : Nat} {Q : QE} {d : D} {M l : Md} (hn : M.length = n0) (hd : RLt M.length d) (hM : MOk M) (q : Q d M) : Fin n0 Q d (M ++ l) := by
  have e : (M ++ l).take M.length = M := by simp
  refine .drop M.length (by omega) (by simp) hd (by rw [e]; exact hM) ?_
  rw [e]
  exact .keep q
theorem MOk.set {M : Md} (h : MOk M) {k : Nat} {m : MO} (hm : RLtM M.length m) : MOk (M.set k m) := fun x hx => by
  rw [List.length_set]
  rcases List.mem_or_eq_of_mem_set hx with z | z
  · exact h x z
  · rw [z]; exact hm
mutual
def noRef : D → Bool
  | .ref _ => false
  | .tup ds => noRefs ds
  | .lst ds => noRefs ds
  | .obj _ _ ds => noRefs ds
  | .exc _ _ _ _ ds => noRefs ds
  | _ => true
def noRefs : List D → Bool
  | [] => true
  | d :: ds => noRef d && noRefs ds
end
mutual
theorem noRef_lt {n : Nat} : ∀ {d : D}, noRef d = true → RLt n d
  | .ref _, h => by cases h
  | .tup ds, h => noRefs_lt (ds := ds) h
  | .lst ds, h => noRefs_lt (ds := ds) h
  | .non, _ => trivial
  | .bl _, _ => trivial
  | .int _, _ => trivial
  | .str _, _ => trivial
  | .scr _, _ => trivial
  | .obj _ _ ds, h => noRefs_lt (ds := ds) h
  | .exc _ _ _ _ ds, h => noRefs_lt (ds := ds) h
theorem noRefs_lt {n : Nat} : ∀ {ds : List D}, noRefs ds = true → RLts n ds
  | [], _ => trivial
  | d :: ds, h => by
    have h : (noRef d && noRefs ds) = true := h
    rw [Bool.and_eq_true] at h
    exact ⟨noRef_lt h.1, noRefs_lt h.2⟩
end
end DL
namespace DL
open PySem PySem.Spec PyProof.Rows L2
section
variable {Pg : Program} {w : World} {K : PySem.W.Frag} {mg : Str → Option Value} {base : Heap} {P : Pm} {Φ : Nat → SpD} {κ : Nat → D} {k : Nat}
abbrev OkD (Pg : Program) (w : World) (K : PySem.W.Frag) (mg : Str → Option Value) (base : Heap) (P : Pm) (k : Nat) (f : Addr) (fd : FuncData) (ps : List Str) (sp : SpD) : Prop := FnOk Pg w K mg base (L2.CX Pg w) k f fd ps (liSp P sp)
theorem OkD.no {f : Addr} {fd : FuncData} {ps : List Str} : OkD Pg w K mg base P k f fd ps fun _ _ _ _ => False :=
  ⟨fun _ _ _ _ ⟨_, _, _, _, _, _, _, _, _, q⟩ => q.elim, fun _ _ _ _ _ _ _ _ _ _ _ _ _ ⟨_, _, _, _, _, _, _, _, _, q⟩ => q.elim⟩
theorem OkD.imp {f : Addr} {fd : FuncData} {ps : List Str} {sp sp' : SpD} (F : OkD Pg w K mg base P k f fd ps sp) (h : ∀ ds M Q E, sp' ds M Q E → sp ds M Q E) : OkD Pg w K mg base P k f fd ps sp' :=
  FnOk.imp F fun _ _ _ _ ⟨w, M, ds, Qd, Ed, R, r, l, lx, q⟩ => ⟨w, M, ds, Qd, Ed, R, r, l, lx, h _ _ _ _ q⟩
theorem Tab.nil {B : List Str} (hB : ∀ x ∈ B, mg x = none) : Tab Pg w K mg base P [] B Φ κ k :=
  .mk (fun x f h => absurd h (by simp [List.lookup])) (fun x g h => absurd h (by simp [List.lookup])) hB
theorem Tab.consF {G : List (Str × GD)} {B : List Str} {x : Str} {n j : Nat} {a : Addr} {fd : FuncData} {ps : List Str} (T : Tab Pg w K mg base P G B Φ κ k) (hj : j ≤ k) (hg : mg x = some (.ref a)) (hk : PySem.W.keepIn K (.ref a) = true)
    (F : OkD Pg w K mg base P j a fd ps (Φ n)) (b : Binds K fd ps []) : Tab Pg w K mg base P ((x, .fn n) :: G) B Φ κ k := by
  refine ⟨fun y f h => ?_, fun y g h => ?_, T.blt⟩
  · rw [List.lookup_cons] at h
    split at h
    · next e =>
      cases h
      rw [eq_of_beq e]
      exact ⟨j, a, fd, ps, hj, hg, hk, F, b⟩
    · exact T.fun_ y f h
  · rw [List.lookup_cons] at h
    split at h
    · cases h
    · exact T.cst y g h
theorem Tab.consC {G : List (Str × GD)} {B : List Str} {x : Str} {n : Nat} (T : Tab Pg w K mg base P G B Φ κ k) (c : ∃ u v, mg x = some u ∧ RelV v u ∧ ∀ w, RelD P w (κ n) v) : Tab Pg w K mg base P ((x, .cst n) :: G) B Φ κ k := by
  refine ⟨fun y f h => ?_, fun y g h => ?_, T.blt⟩
  · rw [List.lookup_cons] at h
    split at h
    · cases h
    · exact T.fun_ y f h
  · rw [List.lookup_cons] at h
    split at h
    · next e =>
      cases h
      rw [eq_of_beq e]
      exact c
    · exact T.cst y g h
/-- what stands of a law's own exceptions -/
structure XOk (Pg : Program) (w : World) (K : PySem.W.Frag) (mg : Str → Option Value) (base : Heap) (P : Pm) (XC : XCtx) (k : Nat) : Prop where
  hot : XC.hot = false
  xs : ∀ T ∈ XC.xs, mg T = some (.ref (P.cls T)) ∧ ExcN K (P.cls T) ∧ PySem.W.kitOne K (.ref (P.cls T)) (.type "ValueError") = some true ∧ ∀ c ∈ XC.xs, PySem.W.kitOne K (.ref (P.cls c)) (.ref (P.cls T)) = some (xsub c T) ∧ PySem.W.exmOne K (.ref (P.cls c)) (.ref (P.cls T)) = some (xsub c T)
  xr : ∀ c ∈ XC.xr, mg c = some (.ref (P.cls c)) ∧ RaisN K (P.cls c)
  xi : ∀ q ∈ XC.xi, mg q.1 = some (.ref (P.cls q.1)) ∧ OexC K (P.cls q.1) ∧ ∃ j f fd, j + 1 ≤ k ∧ PySem.W.findIn K (.ref (P.cls q.1)) "__init__" = some (some (.ref f)) ∧ PySem.W.typeIn K (.ref f) = some (.type "function") ∧ FnOk Pg w K mg base (L2.CX Pg w) j f fd ("self" :: q.2) (initSp (P.cls q.1) q.2) ∧ Binds K fd ("self" :: q.2) []
  xf : ∀ q ∈ XC.xf, q.1 ∈ XC.xs ∧ PySem.W.findIn K (.ref (P.cls q.1)) q.2 = some none
  kd : ∀ q ∈ XC.kd, ∃ a es n, mg q.1 = some (.ref a) ∧ KDict K w a es n ∧ TabV K a q.2
theorem XOk.none {base : Heap} : XOk Pg w K mg base P {} k := ⟨rfl, fun _ h => (by cases h), fun _ h => (by cases h), fun _ h => (by cases h), fun _ h => (by cases h), fun _ h => (by cases h)⟩
/-- a body's reading, sound -/
def BodyOk (P : Pm) (C : Ctx) (Φ : Nat → SpD) (κ : Nat → D) (bodyS : List Stmt) (rr : RS) : Prop := ∀ (X : Cx) (W : WX), EnvOk X P C Φ κ → C.sc.kind = .function → Takes X W → PassesOwn (model X.prog X.w) X.A X.env X.xe → X.stack = X.env :: X.outer → X.env.frame = some X.env.locals → PSs X bodyS (liS P W rr)
theorem BodyOk.of {C : Ctx} {bodyS : List Stmt} {cde : CSs} (h : chkSs C cde bodyS = true) : BodyOk P C Φ κ bodyS (rSs Φ κ cde) := fun X W O hk tk hp _ _ => sSs cde O hk tk hp h
/-- THE RULE of a def, of a head's facts, with calls by keywords, with exceptions -/
theorem okDX {G : List (Str × GD)} {B : List Str} {x qual : Str} {params : Arguments} {bodyS : List Stmt} {scope : Scope} {f : Addr} {fd : FuncData} {dvs : List V} {kws : List (Str × V)} {N ps : List Str} {rr : RS} {XC : XCtx} {sp : SpD} {FL : List (Str × Str)} {MK : List (Str × Nat × Str)} {MT : List (Str × Str × Nat)} {KF : List (Str × Nat × Nat × List Str × List Sc)} {KM : List (Str × (Nat × Str) × Nat × List Str × List Sc)} {KT : List ((Str × Str) × Nat × Nat × List Str × List Sc)}
    (hK : P.K = K) (hpg : P.pg = Pg) (hwl : P.wl = w) (T : Tab Pg w K mg base P G B Φ κ k) (F : FunD K x qual params bodyS scope dvs kws f fd) (S : FnScope N ps scope) (hX : XOk Pg w K mg base P XC k) (hc : BodyOk P ⟨N, scope, fun _ => true, G, B, FL, MK, MT, KF, KM, KT, [], XC⟩ Φ κ bodyS rr)
    (hF : ∀ q ∈ FL, Cls K (P.cls q.1) ∧ NoAttr K (P.cls q.1) q.2) (hM : ∀ q ∈ MK, ∃ j f fd ps, j + 1 ≤ k ∧ mg q.1 = some (.ref (P.cls q.2.2)) ∧ Mk K (P.cls q.2.2) f ∧ OkD Pg w K mg base P j f fd ps (Φ q.2.1) ∧ Binds K fd ps [])
    (hT : ∀ q ∈ MT, ∃ j f fd ps, j ≤ k ∧ Cls K (P.cls q.1) ∧ Meth K (P.cls q.1) q.2.1 f ∧ OkD Pg w K mg base P j f fd ps (Φ q.2.2) ∧ Binds K fd ps [])
    (hKF : ∀ q ∈ KF, ∃ j a fd ps g, j ≤ k ∧ mg q.1 = some (.ref a) ∧ PySem.W.keepIn K (.ref a) = true ∧ OkD Pg w K mg base P j a fd ps (Φ q.2.1) ∧ KBn K fd ps q.2.2.1 q.2.2.2.1 g (fun vs zs => vs ++ (zs ++ q.2.2.2.2.map Sc.v)))
    (hKM : ∀ q ∈ KM, ∃ j f fd ps g, j + 1 ≤ k ∧ mg q.1 = some (.ref (P.cls q.2.1.2)) ∧ Mk K (P.cls q.2.1.2) f ∧ OkD Pg w K mg base P j f fd ps (Φ q.2.1.1) ∧ KBn K fd ps (q.2.2.1 + 1) q.2.2.2.1 g (fun vs zs => vs ++ (zs ++ q.2.2.2.2.map Sc.v)))
    (hKT : ∀ q ∈ KT, ∃ j f fd ps g, j ≤ k ∧ Cls K (P.cls q.1.1) ∧ Meth K (P.cls q.1.1) q.1.2 f ∧ OkD Pg w K mg base P j f fd ps (Φ q.2.1) ∧ KBn K fd ps (q.2.2.1 + 1) q.2.2.2.1 g (fun vs zs => vs ++ (zs ++ q.2.2.2.2.map Sc.v)))
    (len : ∀ ds M Q E, sp ds M Q E → ds.length = ps.length)
    (body : ∀ ds M Q E, MOk M → RLts M.length ds → sp ds M Q E → rr (fun x _ M => E x M) (endsD M.length Q) (startD N.length ds) M) :
    OkD Pg w K mg base P (k + 1) f fd ps sp := by
  refine F.ok (CX := L2.CX Pg w) S (fun vs H Q E h => ?_) (fun cdv A outer s H vs Q E hr h => ?_)
  · obtain ⟨w, M, ds, Qd, Ed, R, r, l, lx, q⟩ := h
    rw [r.length]; exact len _ _ _ _ q
  · obtain ⟨wd, M, ds, Qd, Ed, R, r, l, lx, q⟩ := h
    have O : EnvOk (cxOf (L2.CX Pg w) Pg w K mg base N qual scope f cdv A outer s H E) P ⟨N, scope, fun _ => true, G, B, FL, MK, MT, KF, KM, KT, [], XC⟩ Φ κ := by
      refine ⟨hK, hpg, hwl, fun _ => rfl, rfl, S.nd, rfl, fun _ _ => rfl, ?_, fun x f hx => ?_, T.cst, T.blt, hF, fun q hq => ?_, fun q hq => ?_, fun q hq => ?_, fun q hq => ?_, fun q hq => ?_, hX.xs, hX.xr, fun q hq => ?_, hX.xf, hX.kd, fun h => (by rw [show (Ctx.X _).hot = false from hX.hot] at h; cases h), fun _ h => by cases h⟩
      · have := hr.un
        show (A.deeper (envOfC qual scope s.heap.objs.size f cdv)).units + 65 < cLine
        omega
      · obtain ⟨j, a, fd, ps, hj, h1, h2, h3, h4⟩ := T.fun_ x f hx
        exact ⟨j, a, fd, ps, h1, h2, h3, hr.mono hj, h4⟩
      · obtain ⟨j, f, fd, ps, hj, h1, h2, h3, h4⟩ := hM q hq
        exact ⟨j, f, fd, ps, h1, h2, h3, hr.mono hj, h4⟩
      · obtain ⟨j, f, fd, ps, hj, h1, h2, h3, h4⟩ := hT q hq
        exact ⟨j, f, fd, ps, h1, h2, h3, hr.mono hj, h4⟩
      · obtain ⟨j, f, fd, ps, g, hj, h1, h2, h3, h4⟩ := hKF q hq
        exact ⟨j, f, fd, ps, g, h1, h2, h3, hr.mono hj, h4⟩
      · obtain ⟨j, f, fd, ps, g, hj, h1, h2, h3, h4⟩ := hKM q hq
        exact ⟨j, f, fd, ps, g, h1, h2, h3, hr.mono hj, h4⟩
      · obtain ⟨j, f, fd, ps, g, hj, h1, h2, h3, h4⟩ := hKT q hq
        exact ⟨j, f, fd, ps, g, h1, h2, h3, hr.mono hj, h4⟩
      · obtain ⟨h1, h2, j, f, fd, hj, h3, h4, h5, h6⟩ := hX.xi q hq
        exact ⟨h1, h2, j, f, fd, h3, h4, h5, hr.mono hj, h6⟩
    refine ⟨_, hc _ (fun cls d _ H => E cls d H) O S.kind (takes_of rfl rfl rfl rfl) (passes_of rfl) rfl rfl, ?_⟩
    have ok := R.ok
    have rl := r.rlt
    rw [← R.len] at rl
    refine ⟨wd, M, _, endsD M.length Qd, fun x _ M => Ed x M, R, relSt_start N r, ⟨?_, ?_, ?_, ?_⟩, fun w' M' H' sd σ x cls dd s' R' rs' rx q => lx w' M' H' x cls dd s' R' rx q, body ds M Qd Ed ok rl q⟩
    · intro w' M' H' sd σ s' R' rs' q
      obtain ⟨d', M2, w2, s2, R2, r2, q2⟩ := Fin.run (d := .non) (v := .non) q (Nat.le_of_eq R.len.symm) s' R' rfl
      exact l w2 M2 H' d' .non s2 R2 r2 q2
    · intro w' M' H' d v s' R' r' q
      obtain ⟨d', M2, w2, s2, R2, r2, q2⟩ := Fin.run q (Nat.le_of_eq R.len.symm) s' R' r'
      exact l w2 M2 H' d' v s2 R2 r2 q2
    · intro w' M' H' sd σ s' R' rs' q
      exact q.elim
    · intro w' M' H' sd σ s' R' rs' q
      exact q.elim
/-- THE RULE of a def, of a head's facts, with calls by keywords -/
theorem okDK {G : List (Str × GD)} {B : List Str} {x qual : Str} {params : Arguments} {bodyS : List Stmt} {scope : Scope} {f : Addr} {fd : FuncData} {dvs : List V} {kws : List (Str × V)} {N ps : List Str} {code : CSs} {sp : SpD} {FL : List (Str × Str)} {MK : List (Str × Nat × Str)} {MT : List (Str × Str × Nat)} {KF : List (Str × Nat × Nat × List Str × List Sc)} {KM : List (Str × (Nat × Str) × Nat × List Str × List Sc)} {KT : List ((Str × Str) × Nat × Nat × List Str × List Sc)}
    (hK : P.K = K) (hpg : P.pg = Pg) (hwl : P.wl = w) (T : Tab Pg w K mg base P G B Φ κ k) (F : FunD K x qual params bodyS scope dvs kws f fd) (S : FnScope N ps scope) (hc : chkSs ⟨N, scope, fun _ => true, G, B, FL, MK, MT, KF, KM, KT, [], {}⟩ code bodyS = true)
    (hF : ∀ q ∈ FL, Cls K (P.cls q.1) ∧ NoAttr K (P.cls q.1) q.2) (hM : ∀ q ∈ MK, ∃ j f fd ps, j + 1 ≤ k ∧ mg q.1 = some (.ref (P.cls q.2.2)) ∧ Mk K (P.cls q.2.2) f ∧ OkD Pg w K mg base P j f fd ps (Φ q.2.1) ∧ Binds K fd ps [])
    (hT : ∀ q ∈ MT, ∃ j f fd ps, j ≤ k ∧ Cls K (P.cls q.1) ∧ Meth K (P.cls q.1) q.2.1 f ∧ OkD Pg w K mg base P j f fd ps (Φ q.2.2) ∧ Binds K fd ps [])
    (hKF : ∀ q ∈ KF, ∃ j a fd ps g, j ≤ k ∧ mg q.1 = some (.ref a) ∧ PySem.W.keepIn K (.ref a) = true ∧ OkD Pg w K mg base P j a fd ps (Φ q.2.1) ∧ KBn K fd ps q.2.2.1 q.2.2.2.1 g (fun vs zs => vs ++ (zs ++ q.2.2.2.2.map Sc.v)))
    (hKM : ∀ q ∈ KM, ∃ j f fd ps g, j + 1 ≤ k ∧ mg q.1 = some (.ref (P.cls q.2.1.2)) ∧ Mk K (P.cls q.2.1.2) f ∧ OkD Pg w K mg base P j f fd ps (Φ q.2.1.1) ∧ KBn K fd ps (q.2.2.1 + 1) q.2.2.2.1 g (fun vs zs => vs ++ (zs ++ q.2.2.2.2.map Sc.v)))
    (hKT : ∀ q ∈ KT, ∃ j f fd ps g, j ≤ k ∧ Cls K (P.cls q.1.1) ∧ Meth K (P.cls q.1.1) q.1.2 f ∧ OkD Pg w K mg base P j f fd ps (Φ q.2.1) ∧ KBn K fd ps (q.2.2.1 + 1) q.2.2.2.1 g (fun vs zs => vs ++ (zs ++ q.2.2.2.2.map Sc.v)))
    (len : ∀ ds M Q E, sp ds M Q E → ds.length = ps.length)
    (body : ∀ ds M Q E, MOk M → RLts M.length ds → sp ds M Q E → rSs Φ κ code (fun x _ M => E x M) (endsD M.length Q) (startD N.length ds) M) :
    OkD Pg w K mg base P (k + 1) f fd ps sp := okDX hK hpg hwl T F S .none (.of hc) hF hM hT hKF hKM hKT len body
/-- THE RULE of a def, of a head's facts -/
theorem okDM {G : List (Str × GD)} {B : List Str} {x qual : Str} {params : Arguments} {bodyS : List Stmt} {scope : Scope} {f : Addr} {fd : FuncData} {dvs : List V} {kws : List (Str × V)} {N ps : List Str} {code : CSs} {sp : SpD} {FL : List (Str × Str)} {MK : List (Str × Nat × Str)} {MT : List (Str × Str × Nat)}
    (hK : P.K = K) (hpg : P.pg = Pg) (hwl : P.wl = w) (T : Tab Pg w K mg base P G B Φ κ k) (F : FunD K x qual params bodyS scope dvs kws f fd) (S : FnScope N ps scope) (hc : chkSs ⟨N, scope, fun _ => true, G, B, FL, MK, MT, [], [], [], [], {}⟩ code bodyS = true)
    (hF : ∀ q ∈ FL, Cls K (P.cls q.1) ∧ NoAttr K (P.cls q.1) q.2) (hM : ∀ q ∈ MK, ∃ j f fd ps, j + 1 ≤ k ∧ mg q.1 = some (.ref (P.cls q.2.2)) ∧ Mk K (P.cls q.2.2) f ∧ OkD Pg w K mg base P j f fd ps (Φ q.2.1) ∧ Binds K fd ps [])
    (hT : ∀ q ∈ MT, ∃ j f fd ps, j ≤ k ∧ Cls K (P.cls q.1) ∧ Meth K (P.cls q.1) q.2.1 f ∧ OkD Pg w K mg base P j f fd ps (Φ q.2.2) ∧ Binds K fd ps [])
    (len : ∀ ds M Q E, sp ds M Q E → ds.length = ps.length)
    (body : ∀ ds M Q E, MOk M → RLts M.length ds → sp ds M Q E → rSs Φ κ code (fun x _ M => E x M) (endsD M.length Q) (startD N.length ds) M) :
    OkD Pg w K mg base P (k + 1) f fd ps sp := okDK hK hpg hwl T F S hc hF hM hT (fun _ h => by cases h) (fun _ h => by cases h) (fun _ h => by cases h) len body
/-- the same, without methods -/
theorem okDC {G : List (Str × GD)} {B : List Str} {x qual : Str} {params : Arguments} {bodyS : List Stmt} {scope : Scope} {f : Addr} {fd : FuncData} {dvs : List V} {kws : List (Str × V)} {N ps : List Str} {code : CSs} {sp : SpD} {FL : List (Str × Str)} {MK : List (Str × Nat × Str)}
    (hK : P.K = K) (hpg : P.pg = Pg) (hwl : P.wl = w) (T : Tab Pg w K mg base P G B Φ κ k) (F : FunD K x qual params bodyS scope dvs kws f fd) (S : FnScope N ps scope) (hc : chkSs ⟨N, scope, fun _ => true, G, B, FL, MK, [], [], [], [], [], {}⟩ code bodyS = true)
    (hF : ∀ q ∈ FL, Cls K (P.cls q.1) ∧ NoAttr K (P.cls q.1) q.2) (hM : ∀ q ∈ MK, ∃ j f fd ps, j + 1 ≤ k ∧ mg q.1 = some (.ref (P.cls q.2.2)) ∧ Mk K (P.cls q.2.2) f ∧ OkD Pg w K mg base P j f fd ps (Φ q.2.1) ∧ Binds K fd ps [])
    (len : ∀ ds M Q E, sp ds M Q E → ds.length = ps.length)
    (body : ∀ ds M Q E, MOk M → RLts M.length ds → sp ds M Q E → rSs Φ κ code (fun x _ M => E x M) (endsD M.length Q) (startD N.length ds) M) :
    OkD Pg w K mg base P (k + 1) f fd ps sp := okDM hK hpg hwl T F S hc hF hM (fun _ h => by cases h) len body
/-- the same, without classes -/
theorem okD {G : List (Str × GD)} {B : List Str} {x qual : Str} {params : Arguments} {bodyS : List Stmt} {scope : Scope} {f : Addr} {fd : FuncData} {dvs : List V} {kws : List (Str × V)} {N ps : List Str} {code : CSs} {sp : SpD}
    (hK : P.K = K) (hpg : P.pg = Pg) (hwl : P.wl = w) (T : Tab Pg w K mg base P G B Φ κ k) (F : FunD K x qual params bodyS scope dvs kws f fd) (S : FnScope N ps scope) (hc : chkSs ⟨N, scope, fun _ => true, G, B, [], [], [], [], [], [], [], {}⟩ code bodyS = true)
    (len : ∀ ds M Q E, sp ds M Q E → ds.length = ps.length)
    (body : ∀ ds M Q E, MOk M → RLts M.length ds → sp ds M Q E → rSs Φ κ code (fun x _ M => E x M) (endsD M.length Q) (startD N.length ds) M) :
    OkD Pg w K mg base P (k + 1) f fd ps sp := okDC hK hpg hwl T F S hc (fun _ h => by cases h) (fun _ h => by cases h) len body
end
theorem hcInt {P : Pm} {mg : Str → Option Value} {x : Str} {i : Int} (h : ∃ t, mg x = some (.int i t)) : ∃ u v, mg x = some u ∧ RelV v u ∧ ∀ w, RelD P w (.int i) v :=
  let ⟨t, e⟩ := h; ⟨_, .int i, e, ⟨t, rfl⟩, fun _ => rfl⟩
theorem hcStr {P : Pm} {mg : Str → Option Value} {x z : Str} (h : ∃ t, mg x = some (.str z t)) : ∃ u v, mg x = some u ∧ RelV v u ∧ ∀ w, RelD P w (.str z) v :=
  let ⟨t, e⟩ := h; ⟨_, .str z, e, ⟨t, rfl⟩, fun _ => rfl⟩
/-- what a law's own def promises -/
def spLaw (n : Nat) : SpD := fun ds M Q _ => ∃ ns : List Int, ns.length ≤ n ∧ ds = [.scr ns] ∧ M = [] ∧ ∀ M', Q (.bl true) M'
theorem relScr {P : Pm} {H : Hp} {a : Addr} {ns : List Int} (hS : SqL P.K H a (ns.map V.int)) : ∃ F : Hp, (∀ b o, F b = some o → H b = some o) ∧ (∀ b ps, F b ≠ some (.tbl ps)) ∧ SqL P.K F a (ns.map V.int) := by
  rcases hS with (h | ⟨o, h⟩) | h
  · refine ⟨fun b => if b = a then H a else none, fun b o e => ?_, fun b ps e => ?_, .inl (.inl ((if_pos rfl).trans h))⟩
    · have e : (if b = a then H a else none) = some o := e
      by_cases hb : b = a
      · rw [if_pos hb] at e; rw [hb]; exact e
      · rw [if_neg hb] at e; cases e
    · have e : (if b = a then H a else none) = some (.tbl ps) := e
      by_cases hb : b = a
      · rw [if_pos hb, h] at e; cases e
      · rw [if_neg hb] at e; cases e
  · refine ⟨fun b => if b = a then H a else none, fun b o e => ?_, fun b ps e => ?_, .inl (.inr ⟨o, (if_pos rfl).trans h⟩)⟩
    · have e : (if b = a then H a else none) = some _ := e
      by_cases hb : b = a
      · rw [if_pos hb] at e; rw [hb]; exact e
      · rw [if_neg hb] at e; cases e
    · have e : (if b = a then H a else none) = some (.tbl ps) := e
      by_cases hb : b = a
      · rw [if_pos hb, h] at e; cases e
      · rw [if_neg hb] at e; cases e
  · exact ⟨fun _ => none, (fun _ _ e => by cases e), (fun _ _ e => by cases e), .inr h⟩
theorem liLaw {P : Pm} {n : Nat} {H : Hp} {a : Addr} {ns : List Int} (hl : ns.length ≤ n) (hT : P.T = []) (hS : SqL P.K H a (ns.map V.int)) : liSp P (spLaw n) [.ref a] H (fun v _ => v = .bl true) fun _ _ _ => False := by
  obtain ⟨F, hF, hn, hS⟩ := relScr hS
  refine ⟨⟨F, []⟩, [], [.scr ns], fun d _ => d = .bl true, fun _ _ => False, ⟨hF, rfl, .nil, (by intro p hp; cases hp), (fun k m p h => by cases h), ⟨fun t ht => (by rw [hT] at ht; cases ht), hn, (fun b hb => by cases hb)⟩⟩, ⟨.ref a, [], rfl, ⟨a, rfl, hS⟩, rfl⟩, fun w' M' H' d v _ _ r q => ?_, fun _ _ _ _ _ _ _ _ _ q => q.elim, ns, hl, rfl, rfl, fun _ => rfl⟩
  cases q
  exact r
/-- a law's end: of the facts its def's promise over every base -/
theorem walk_ofX {l : PySem.W.OpenLaw} {n k : Nat} {q : Program} {loose : List Str} {XP : (Str → Option Value) → Heap → Prop} {YP : World → Heap → Prop} {d : DefRec} {x : Str}
    (hn : l.most = some n) (hn2 : n ≤ sizeLine) (hdf : d.params.defaults = []) (hr : Room k callerA)
    (F : ∀ (w : World) (mg : Str → Option Value) (fa : Addr) (h : Heap), YP w h → h.Ns mainGlobals mg → mg d.name = some (.ref fa) →
      ∃ (P : Pm) (fd : FuncData), P.T = [] ∧ P.K.In h ∧ (∀ (s : Shared) (u : Value), BindsTo s fd ⟨[u], []⟩ [(x, u)]) ∧ ∀ base : Heap, P.K.In base → base.Ns mainGlobals mg → OkD l.prog w P.K mg base P k fa fd [x] (spLaw n)) :
    PySem.W.WalkO q loose XP YP l.row.toRowW d [] (fun f vs => PySem.call f vs) :=
  Att.attach_call hn hdf fun w s₀ s₁ mg mb fa o pm cd doc a vs ns G Y ho hd hcd hmg hobj hints hlen hg => by
    obtain ⟨P, fd, hT, KX, hb, hF⟩ := F w mg fa _ Y G.T.g hmg
    exact law_call (sp := liSp P (spLaw n)) KX G.T.g G.T.b G.T.builtins G.T.nolimit hg hobj hints (Nat.le_trans hlen hn2) hr hF hb (fun H _ hS => liLaw hlen hT hS) fun H e s' h => by
      obtain ⟨_, _, _, _, _, _, _, _, _, _, _, _, q⟩ := h
      exact q
end DL
namespace DL
open PySem L2
section
variable {lk : Option Nat} {all : List D} {asg : D → Std → Md → (Std → Md → Prop) → Prop} {body : EndsD → Std → Md → Prop} {K : EndsD}
theorem rngD_nil {a b : Int} (h : b ≤ a) : rngD a b = [] := by
  unfold rngD
  rw [Int.toNat_of_nonpos (by omega)]; rfl
theorem rngD_cons {a b : Int} (h : a < b) : rngD a b = .int a :: rngD (a + 1) b := by
  unfold rngD
  have e : (b - a).toNat = (b - (a + 1)).toNat + 1 := by omega
  rw [e, List.range_succ_eq_map, List.map_cons, List.map_map]
  congr 1
  · show D.int (a + ((0 : Nat) : Int)) = _
    simp
  · apply List.map_congr_left
    intro i _
    show D.int (a + ((i + 1 : Nat) : Int)) = D.int (a + 1 + (i : Int))
    congr 1
    push_cast
    omega
theorem loop_rng {b : Int} (Inv : Int → Std → Md → Prop) (hlk : lk = none)
    (step : ∀ j σ M (nx : Std → Md → Prop), j < b → Inv j σ M → (∀ σ' M', Inv (j + 1) σ' M' → nx σ' M') → asg (.int j) σ M fun σ1 M1 => body ⟨nx, K.rt, K.nx, nx⟩ σ1 M1)
    (fin : ∀ σ M, Inv b σ M → K.nx σ M) : ∀ (n : Nat) (a : Int) σ M, (b - a).toNat = n → a ≤ b → Inv a σ M → loopD lk all asg body K (rngD a b) σ M
  | 0, a, σ, M, hn, hab, h => by
    have e : a = b := by omega
    rw [e] at h
    rw [rngD_nil (by omega)]
    exact ⟨by rw [hlk]; trivial, fin _ _ h⟩
  | n + 1, a, σ, M, hn, hab, h => by
    have e : a < b := by omega
    rw [rngD_cons e]
    exact ⟨by rw [hlk]; trivial, step a σ M _ e h fun σ' M' h' => loop_rng Inv hlk step fin n (a + 1) σ' M' (by omega) (by omega) h'⟩
/-- a range from 0: the items are n -/
theorem loop_to {b : Int} (Inv : Int → Std → Md → Prop) {σ : Std} {M : Md} (hb : 0 ≤ b) (h0 : Inv 0 σ M)
    (step : ∀ j σ M (nx : Std → Md → Prop), 0 ≤ j → j < b → Inv j σ M → (∀ σ' M', Inv (j + 1) σ' M' → nx σ' M') → asg (.int j) σ M fun σ1 M1 => body ⟨nx, K.rt, K.nx, nx⟩ σ1 M1)
    (fin : ∀ σ M, Inv b σ M → K.nx σ M) : loopD none all asg body K (rngD 0 b) σ M :=
  loop_rng (fun j σ M => 0 ≤ j ∧ Inv j σ M) rfl (fun j σ M nx hj h hn => step j σ M nx h.1 hj h.2 fun σ' M' h' => hn σ' M' ⟨by omega, h'⟩) (fun σ M h => fin σ M h.2) _ 0 σ M rfl hb ⟨Int.le_refl 0, h0⟩
theorem loop_from {a b : Int} (Inv : Int → Std → Md → Prop) {σ : Std} {M : Md} (hb : a ≤ b) (h0 : Inv a σ M)
    (step : ∀ j σ M (nx : Std → Md → Prop), a ≤ j → j < b → Inv j σ M → (∀ σ' M', Inv (j + 1) σ' M' → nx σ' M') → asg (.int j) σ M fun σ1 M1 => body ⟨nx, K.rt, K.nx, nx⟩ σ1 M1)
    (fin : ∀ σ M, Inv b σ M → K.nx σ M) : loopD none all asg body K (rngD a b) σ M :=
  loop_rng (fun j σ M => a ≤ j ∧ Inv j σ M) rfl (fun j σ M nx hj h hn => step j σ M nx h.1 hj h.2 fun σ' M' h' => hn σ' M' ⟨by omega, h'⟩) (fun σ M h => fin σ M h.2) _ a σ M rfl hb ⟨Int.le_refl a, h0⟩
end
section
variable {lk : Option Nat} {all : List D} {asg : D → (Std → Md → Prop) → Md → Prop} {tst : Std → Md → (Bool → Md → Prop) → Prop} {elt : Std → Md → QE → Prop} {Q : List D → Md → Prop}
theorem comp_inv (Inv : List D → List D → Md → Prop) (hl : ∀ ds acc M, Inv ds acc M → lkOk lk all M)
    (step : ∀ d ds acc M (C : List D → Md → Prop), Inv (d :: ds) acc M → (∀ acc' M', Inv ds acc' M' → C acc' M') →
      asg d (fun σ1 M1 => tst σ1 M1 fun k M2 => if k = true then elt σ1 M2 fun y M3 => acc.length < sizeLine ∧ C (acc ++ [y]) M3 else C acc M2) M)
    (fin : ∀ acc M, Inv [] acc M → Q acc M) : ∀ ds acc M, Inv ds acc M → compD lk all asg tst elt Q ds acc M
  | [], acc, M, h => ⟨hl _ _ _ h, fin _ _ h⟩
  | d :: ds, acc, M, h => ⟨hl _ _ _ h, step d ds acc M (fun a m => compD lk all asg tst elt Q ds a m) h fun acc' M' h' => comp_inv Inv hl step fin ds acc' M' h'⟩
end
theorem endsD_nx {n : Nat} {Q : QE} {σ : Std} {M : Md} : (endsD n Q).nx σ M = Fin n Q .non M := rfl
theorem endsD_rt {n : Nat} {Q : QE} {d : D} {M : Md} : (endsD n Q).rt d M = Fin n Q d M := rfl
/-- a def's code reads as promised -/
def RdOk (Φ : Nat → SpD) (κ : Nat → D) (c : CSs) (n : Nat) (sp : SpD) : Prop := ∀ ds M Q E, MOk M → RLts M.length ds → sp ds M Q E → rSs Φ κ c (fun x _ M => E x M) (endsD M.length Q) (startD n ds) M
theorem rngD_eq (n : Nat) : rngD 0 (n : Int) = (List.range n).map fun i => D.int (i : Nat) := by
  unfold rngD
  simp
/-- what stands still to be run of a def -/
abbrev At (Φ : Nat → SpD) (κ : Nat → D) (E : EX) (n : Nat) (Q : QE) (c : CSs) (σ : Std) (M : Md) : Prop := nxt Φ κ c (fun x _ M => E x M) (endsD n Q) σ M
end DL
namespace DL
open PySem L2
section
variable {M R l : Md} {Q : QE} {QB : Bool → Prop} {QM : Md → Prop} {k : Nat} {ds es : List D} {kvs : List (Option Key × D)} {QI : List D → Option Nat → Md → Prop}
def optQ {α : Type} (o : Option α) (f : α → Prop) : Prop := match o with
  | some a => f a
  | none => False
theorem optQ_some {α : Type} {a : α} {f : α → Prop} : optQ (some a) f = f a := rfl
def seqQ (o : Option (List D)) (f : List D → Prop) : Prop := match o with
  | some ds => f ds
  | none => False
theorem seqQ_some {f : List D → Prop} : seqQ (some ds) f = f ds := rfl
def intsQ (o : Option (List Int)) (f : List Int → Prop) : Prop := match o with
  | some ds => f ds
  | none => False
theorem intsQ_some {f : List Int → Prop} {ns} : intsQ (some ns) f = f ns := rfl
def blsQ (o : Option (List Bool)) (f : List Bool → Prop) : Prop := match o with
  | some ds => f ds
  | none => False
theorem blsQ_some {f : List Bool → Prop} {ns} : blsQ (some ns) f = f ns := rfl
def strQ (o : Option String) (f : String → Prop) : Prop := match o with
  | some ds => f ds
  | none => False
theorem strQ_some {f : String → Prop} {t} : strQ (some t) f = f t := rfl
def seqR (o : Option MO) : Option (List D) := match o with
  | some (.lst ds) => some ds
  | _ => none
theorem seqR_lst : seqR (some (.lst ds)) = some ds := rfl
theorem seqOf_R : seqOf (.ref k) M = seqR M[k]? := rfl
theorem lstOf_R : lstOf (.ref k) M = seqR M[k]? := rfl
def ixR (o : Option MO) (k : Nat) (y : D) (M : Md) (Q : QE) : Prop := match o, y with
  | some (.lst ds), .int i => atQ ds i M Q
  | some (.dct kvs), y => optQ (keyD y) fun ky => optQ (dctVal kvs ky) fun d => Q d M
  | some (.dctT kvs), y => optQ (tKey y) fun ky => optQ (dctValT kvs ky) fun d => Q d M
  | _, _ => ixD (.ref k) y M Q
theorem ix_R {y : D} : ixD (.ref k) y M Q = ixR M[k]? k y M Q := by
  unfold ixR
  cases h : M[k]? with
  | none => rfl
  | some m =>
    cases m with
    | lst ds =>
      cases y with
      | int i => exact ix_ref h
      | _ => rfl
    | dct kvs =>
      cases e : keyD y with
      | none => cases y <;> simp only [ixD, dGet, h, e, optQ, Option.map_none, seqOf]
      | some ky => cases e2 : dctVal kvs ky <;> cases y <;> simp only [ixD, dGet, h, e, optQ, Option.map_some, e2]
    | dctT kvs =>
      cases e : tKey y with
      | none => cases y <;> simp only [ixD, dGet, h, e, optQ, Option.map_none, seqOf]
      | some ky => cases e2 : dctValT kvs ky <;> cases y <;> simp only [ixD, dGet, h, e, optQ, Option.map_some, e2]
    | _ => rfl
theorem ixR_lst {i : Int} : ixR (some (.lst ds)) k (.int i) M Q = atQ ds i M Q := rfl
theorem ixR_dct {y : D} : ixR (some (.dct kvs)) k y M Q = optQ (keyD y) fun ky => optQ (dctVal kvs ky) fun d => Q d M := by
  cases y <;> rfl
theorem ixR_dctT {kvs : List (D × D)} {y : D} : ixR (some (.dctT kvs)) k y M Q = optQ (tKey y) fun ky => optQ (dctValT kvs ky) fun d => Q d M := by
  cases y <;> rfl
/-- x in a changing object -/
def inR (o : Option MO) (k : Nat) (x : D) (M : Md) (Q : Bool → Prop) : Prop := match o with
  | some (.dct kvs) => optQ (keyD x) fun ky => Q (dctVal kvs ky).isSome
  | some (.dctT kvs) => optQ (tKey x) fun ky => Q (dctValT kvs ky).isSome
  | _ => inD x (.ref k) M Q
theorem inD_R {x : D} : inD x (.ref k) M QB = inR M[k]? k x M QB := by
  unfold inR
  cases h : M[k]? with
  | none => rfl
  | some m =>
    cases m with
    | dct kvs =>
      cases e : keyD x with
      | none => cases x <;> simp only [inD, dGet, h, e, optQ, Option.map_none, seqOf]
      | some ky => cases x <;> simp only [inD, dGet, h, e, optQ, Option.map_some]
    | dctT kvs =>
      cases e : tKey x with
      | none => cases x <;> simp only [inD, dGet, h, e, optQ, Option.map_none, seqOf]
      | some ky => cases x <;> simp only [inD, dGet, h, e, optQ, Option.map_some]
    | _ => rfl
theorem cp_inn_R {x : D} : cpD .inn x (.ref k) M QB = inR M[k]? k x M QB := inD_R
theorem cp_nin_R {x : D} : cpD .nin x (.ref k) M QB = inR M[k]? k x M fun b => QB (!b) := inD_R (QB := fun b => QB (!b))
theorem inR_dct {x : D} : inR (some (.dct kvs)) k x M QB = optQ (keyD x) fun ky => QB (dctVal kvs ky).isSome := rfl
theorem inR_dctT {kvs : List (D × D)} {x : D} : inR (some (.dctT kvs)) k x M QB = optQ (tKey x) fun ky => QB (dctValT kvs ky).isSome := rfl
theorem keyD_non : keyD .non = some none := rfl
theorem keyD_int {i : Int} : keyD (.int i) = some (some (.inl i)) := rfl
theorem keyD_str {i : Str} : keyD (.str i) = some (some (.inr i)) := rfl
def truR (o : Option MO) (QB : Bool → Prop) : Prop := match o with
  | some (.lst ds) => QB (!ds.isEmpty)
  | _ => False
theorem tru_R : truD (.ref k) M QB = truR M[k]? QB := rfl
theorem truR_lst : truR (some (.lst ds)) QB = QB (!ds.isEmpty) := rfl
theorem walk_R : walkD (.ref k) M QI = seqQ (seqR M[k]?) fun ds => QI ds (some k) M := rfl
theorem walk_scr {ns} : walkD (.scr ns) M QI = QI (ns.map .int) none M := rfl
theorem len_R : btD .len [.ref k] M Q = seqQ (seqR M[k]?) fun ds => Q (.int ds.length) M := rfl
theorem list_R : btD .list [.ref k] M Q = seqQ (seqR M[k]?) fun ds => Q (.lst ds) M := rfl
theorem listM_R : btD .listM [.ref k] M Q = seqQ (seqR M[k]?) fun ds => Q (.ref M.length) (M ++ [.lst ds]) := rfl
theorem tuple_R : btD .tuple [.ref k] M Q = seqQ (seqR M[k]?) fun ds => Q (.tup ds) M := rfl
theorem list_scr {ns} : btD .list [.scr ns] M Q = Q (.lst (ns.map .int)) M := rfl
theorem tuple_scr {ns} : btD .tuple [.scr ns] M Q = Q (.tup (ns.map .int)) M := rfl
theorem sorted_R : btD .sorted [.ref k] M Q = seqQ (seqR M[k]?) fun ds => SortOk ds ∧ Q (.lst (sortD ds)) M := by
  show ((∀ es, D.ref k ≠ .tup es) ∧ seqQ (seqR M[k]?) fun ds => SortOk ds ∧ Q (.lst (sortD ds)) M) = _
  exact propext ⟨fun h => h.2, fun h => ⟨(by intro _ h; cases h), h⟩⟩
theorem sortedM_lst : btD .sortedM [.lst ds] M Q = (SortOk ds ∧ Q (.ref M.length) (M ++ [.lst (sortD ds)])) := by
  show ((∀ es, D.lst ds ≠ .tup es) ∧ SortOk ds ∧ Q (.ref M.length) (M ++ [.lst (sortD ds)])) = _
  exact propext ⟨fun h => h.2, fun h => ⟨(by intro _ h; cases h), h⟩⟩
theorem sortedM_R : btD .sortedM [.ref k] M Q = seqQ (seqR M[k]?) fun ds => SortOk ds ∧ Q (.ref M.length) (M ++ [.lst (sortD ds)]) := by
  show ((∀ es, D.ref k ≠ .tup es) ∧ seqQ (seqR M[k]?) fun ds => SortOk ds ∧ Q (.ref M.length) (M ++ [.lst (sortD ds)])) = _
  exact propext ⟨fun h => h.2, fun h => ⟨(by intro _ h; cases h), h⟩⟩
theorem sum_lst : btD .sum [.lst ds] M Q = intsQ (intsOf ds) fun ns => Q (.int ns.sum) M := by
  show ((∀ es, D.lst ds ≠ .tup es) ∧ intsQ (intsOf ds) fun ns => Q (.int ns.sum) M) = _
  exact propext ⟨fun h => h.2, fun h => ⟨(by intro _ h; cases h), h⟩⟩
theorem any_lst : btD .any [.lst ds] M Q = blsQ (blsOf ds) fun bs => Q (.bl (bs.any id)) M := by
  show ((∀ es, D.lst ds ≠ .tup es) ∧ blsQ (blsOf ds) fun bs => Q (.bl (bs.any id)) M) = _
  exact propext ⟨fun h => h.2, fun h => ⟨(by intro _ h; cases h), h⟩⟩
theorem all_lst : btD .all [.lst ds] M Q = blsQ (blsOf ds) fun bs => Q (.bl (bs.all id)) M := by
  show ((∀ es, D.lst ds ≠ .tup es) ∧ blsQ (blsOf ds) fun bs => Q (.bl (bs.all id)) M) = _
  exact propext ⟨fun h => h.2, fun h => ⟨(by intro _ h; cases h), h⟩⟩
def tyR (o : Option MO) : Option String := match o with
  | some (.lst _) => some "list"
  | _ => none
theorem tyR_lst : tyR (some (.lst ds)) = some "list" := rfl
theorem isi_R {T : String} : btD (.isi T) [.ref k] M Q = strQ (tyR M[k]?) fun t => isiQ t T M Q := rfl
theorem isi_scr {T : String} {ns} : btD (.isi T) [.scr ns] M Q = isiQ "list" T M Q := rfl
def sxR (o : Option MO) (k : Nat) (y d : D) (M : Md) (Q : Md → Prop) : Prop := match o, y with
  | some (.lst ds), .int i => optQ (ixN ds.length i) fun j => Q (M.set k (.lst (ds.set j d)))
  | some (.dct kvs), y => optQ (keyD y) fun ky => kvs.length < sizeLine ∧ Q (M.set k (.dct (dctPut kvs ky d)))
  | some (.dctT kvs), y => optQ (tKey y) fun ky => kvs.length < sizeLine ∧ Q (M.set k (.dctT (dctPutT kvs y ky d)))
  | _, _ => False
theorem sx_R {y d : D} : setIxD (.ref k) y d M QM = sxR M[k]? k y d M QM := by
  unfold sxR
  cases h : M[k]? with
  | none => simp only [setIxD, h]
  | some m =>
    cases m with
    | lst ds =>
      cases y with
      | int i => cases e : ixN ds.length i <;> simp only [setIxD, h, e, optQ]
      | _ => simp only [setIxD, h]
    | dct kvs => cases e : keyD y <;> simp only [setIxD, h, e, optQ]
    | dctT kvs => cases e : tKey y <;> simp only [setIxD, h, e, optQ]
    | _ => simp only [setIxD, h]
theorem sxR_lst {i : Int} {d : D} : sxR (some (.lst ds)) k (.int i) d M QM = optQ (ixN ds.length i) fun j => QM (M.set k (.lst (ds.set j d))) := rfl
theorem sxR_dct {y d : D} : sxR (some (.dct kvs)) k y d M QM = optQ (keyD y) fun ky => kvs.length < sizeLine ∧ QM (M.set k (.dct (dctPut kvs ky d))) := by
  cases y <;> rfl
theorem sxR_dctT {kvs : List (D × D)} {y d : D} : sxR (some (.dctT kvs)) k y d M QM = optQ (tKey y) fun ky => kvs.length < sizeLine ∧ QM (M.set k (.dctT (dctPutT kvs y ky d))) := by
  cases y <;> rfl
theorem ixN_pos {n : Nat} {i : Int} (h : 0 ≤ i) (h2 : i < n) : ixN n i = some i.toNat := by
  unfold ixN
  rw [if_pos h, if_pos h2]
theorem ixN_0 {n : Nat} : ixN (n + 1) 0 = some 0 := ixN_pos (Int.le_refl 0) (by omega)
theorem ixN_1 {n : Nat} : ixN (n + 1 + 1) 1 = some 1 := ixN_pos (by omega) (by omega)
theorem ixN_m1 {n : Nat} : ixN (n + 1) (-1) = some n := by
  unfold ixN
  rw [if_neg (by omega), if_pos (by omega)]
  congr 1
  omega
theorem mtK_R {m : Mt} (h : mtT m = "list") : mtK m (.ref k) M = ((seqR M[k]?).isSome = true) := by
  unfold mtK
  rw [if_pos h]
  exact propext ⟨fun h => h.1, fun h => ⟨h, by intro _ h; cases h⟩⟩
theorem mtKa : mtK .append (.ref k) M = ((seqR M[k]?).isSome = true) := mtK_R rfl
theorem mtKe : mtK .extend (.ref k) M = ((seqR M[k]?).isSome = true) := mtK_R rfl
theorem mtKp : mtK .pop (.ref k) M = ((seqR M[k]?).isSome = true) := mtK_R rfl
theorem mtKpa : mtK .popAt (.ref k) M = ((seqR M[k]?).isSome = true) := mtK_R rfl
theorem mtKx : mtK .index (.ref k) M = ((seqR M[k]?).isSome = true) := mtK_R rfl
theorem mtKxl {ds : List D} : mtK .index (.lst ds) M = True := by
  show (if "list" = "list" then (seqOf (D.lst ds) M).isSome = true ∧ ∀ es, D.lst ds ≠ D.tup es else ∃ s, D.lst ds = D.str s) = True
  rw [if_pos rfl]
  exact propext ⟨fun _ => trivial, fun _ => ⟨rfl, fun _ h => by cases h⟩⟩
def idxQ (o : Option (List D)) (y : D) (M : Md) (Q : QE) : Prop := seqQ o fun ds => flatD y = true ∧ ds.all flatD = true ∧ match idxF y ds with
  | some j => Q (.int j) M
  | none => False
theorem idx_eq {x y : D} : mtD .index x [y] M Q = idxQ (lstOf x M) y M Q := by
  unfold idxQ
  show (match lstOf x M, [y] with
    | some ds, [y] => _
    | _, _ => False) = _
  cases lstOf x M <;> rfl
theorem rev_R {m : Bool} {a : CE} {Φ κ E σ} : rE Φ κ (.rev m a) E σ M Q = rE Φ κ a E σ M fun x M1 => seqQ (lstOf x M1) fun ds => if m = true then Q (.ref M1.length) (M1 ++ [.lst ds.reverse]) else Q (.lst ds.reverse) M1 := by
  show (rE Φ κ a E σ M fun x M1 => match lstOf x M1 with
    | some ds => if m = true then Q (.ref M1.length) (M1 ++ [.lst ds.reverse]) else Q (.lst ds.reverse) M1
    | none => False) = _
  congr 1
  try (funext x M1; cases lstOf x M1 <;> rfl)
theorem mtKi : mtK .insert (.ref k) M = ((seqR M[k]?).isSome = true) := mtK_R rfl
theorem mtKr : mtK .reverse (.ref k) M = ((seqR M[k]?).isSome = true) := mtK_R rfl
theorem app_R {d : D} : mtD .append (.ref k) [d] M Q = seqQ (seqR M[k]?) fun ds => ds.length < sizeLine ∧ Q .non (M.set k (.lst (ds ++ [d]))) := by
  cases e : seqR M[k]? with
  | none =>
    show (match mutOf (.ref k) M, [d] with
      | some (k, ds), [d] => ds.length < sizeLine ∧ Q .non (M.set k (.lst (ds ++ [d])))
      | _, _ => False) = False
    unfold seqR at e
    unfold mutOf
    cases h : M[k]? with
    | none => simp only [h, seqQ]
    | some m =>
      cases m with
      | lst ds => rw [h] at e; cases e
      | _ => simp only [h, seqQ]
  | some ds =>
    have h : M[k]? = some (.lst ds) := by
      unfold seqR at e
      split at e
      · next h => cases e; exact h
      · cases e
    exact mt_app h
theorem ext_R {d : D} (h : M[k]? = some (.lst ds)) : mtD .extend (.ref k) [d] M Q = seqQ (lstOf d M) fun es => ds.length + es.length ≤ sizeLine ∧ Q .non (M.set k (.lst (ds ++ es))) := by
  simp only [mtD, mutOf, h]
  cases lstOf d M <;> rfl
theorem pop_R (h : M[k]? = some (.lst ds)) : mtD .pop (.ref k) [] M Q = optQ ds.getLast? fun d => Q d (M.set k (.lst ds.dropLast)) := by
  simp only [mtD, mutOf, h]
  cases ds.getLast? <;> rfl
theorem addR : opD .add (.ref k) (.lst es) M Q = seqQ (seqR M[k]?) fun ds => ds.length + es.length ≤ sizeLine ∧ Q (.lst (ds ++ es)) M := by
  show (match seqR M[k]?, some es with
    | some a, some b => a.length + b.length ≤ sizeLine ∧ Q (.lst (a ++ b)) M
    | _, _ => False) = _
  cases seqR M[k]? <;> rfl
theorem catR : opD .cat (.ref k) (.lst es) M Q = seqQ (seqR M[k]?) fun ds => ds.length + es.length ≤ sizeLine ∧ Q (.ref M.length) (M ++ [.lst (ds ++ es)]) := by
  show (match seqR M[k]?, some es with
    | some a, some b => a.length + b.length ≤ sizeLine ∧ Q (.ref M.length) (M ++ [MO.lst (a ++ b)])
    | _, _ => False) = _
  cases seqR M[k]? <;> rfl
theorem isi_l {a : D} {T : String} (h : lstOf a M = some ds) : btD (.isi T) [a] M Q = isiQ "list" T M Q := by
  cases a with
  | lst _ => rfl
  | ref k =>
    rw [lstOf_R] at h
    unfold seqR at h
    split at h
    · next e => rw [isi_R, e]; rfl
    · cases h
  | _ => cases h
theorem len_l {a : D} (h : lstOf a M = some ds) : btD .len [a] M Q = Q (.int ds.length) M := by
  cases a with
  | lst _ => cases h; rfl
  | ref k =>
    rw [lstOf_R] at h
    rw [len_R, h]; rfl
  | _ => cases h
theorem ix_l {a : D} {i : Int} (h : lstOf a M = some ds) : ixD a (.int i) M Q = atQ ds i M Q := by
  cases a with
  | lst _ => cases h; rfl
  | ref k =>
    rw [lstOf_R] at h
    unfold seqR at h
    split at h
    · next e => cases h; rw [ix_R, e]; rfl
    · cases h
  | _ => cases h
theorem isNon_l {a : D} (h : lstOf a M = some ds) : isNon a = false := by
  cases a <;> first | rfl | cases h
theorem set_snoc {α : Type} {xs : List α} {x d : α} : (xs ++ [x]).set xs.length d = xs ++ [d] := by
  rw [List.set_append_right _ _ (Nat.le_refl _), Nat.sub_self]; rfl
theorem emp_snoc {α : Type} {xs : List α} {x : α} : (xs ++ [x]).isEmpty = false := by cases xs <;> rfl
theorem emp_cons {α : Type} {xs : List α} {x : α} : (x :: xs).isEmpty = false := rfl
theorem emp_nil {α : Type} : ([] : List α).isEmpty = true := rfl
theorem MOk.head {m m' : MO} (h : MOk (m :: R)) (hm : RLtM (R.length + 1) m') : MOk (m' :: R) := fun x hx => by
  rcases List.mem_cons.mp hx with z | z
  · rw [z]; exact hm
  · exact h x (List.mem_cons_of_mem _ z)
theorem Fin.head {n0 : Nat} {Q : QE} {m : MO} {d : D} {l : Md} (hn : R.length + 1 = n0) (hd : RLt (R.length + 1) d) (hM : MOk (m :: R)) (q : Q d (m :: R)) : Fin n0 Q d (m :: (R ++ l)) :=
  Fin.tail (M := m :: R) hn hd hM q
theorem sz0 : (0 ≤ sizeLine) = True := by decide
theorem sz1 : (1 ≤ sizeLine) = True := by decide
theorem sz2 : (2 ≤ sizeLine) = True := by decide
theorem sz3 : (3 ≤ sizeLine) = True := by decide
theorem sz4 : (4 ≤ sizeLine) = True := by decide
theorem sz5 : (5 ≤ sizeLine) = True := by decide
theorem sz6 : (6 ≤ sizeLine) = True := by decide
theorem size_eq : sizeLine = 16777216 := by decide
theorem wipe_nil {σ : Std} : wipeD σ [] = σ := rfl
theorem wipe_cons {σ : Std} {v vs} : wipeD σ (v :: vs) = (wipeD σ vs).set v none := rfl
end
theorem lnLaw {n : Nat} : ∀ ds M Q E, spLaw n ds M Q E → ds.length = 1 := by
  rintro _ _ _ _ ⟨_, _, rfl, _⟩; rfl
end DL
namespace DL
open PySem PySem.Spec PyProof.Rows L2
mutual
def relC (K : PySem.W.Frag) : D → Value → Bool
  | .non, .none => true
  | .bl b, .bool c => b == c
  | .int i, .int j _ => decide (i = j)
  | .str s, .str t _ => decide (s = t)
  | .tup ds, .ref p => match K.lookup p with
    | some ⟨.type c, _, .seq its _, _⟩ => decide (c = "tuple") && (decide (its.size ≤ sizeLine) && relCs K ds its.toList)
    | _ => false
  | _, _ => false
def relCs (K : PySem.W.Frag) : List D → List Value → Bool
  | [], [] => true
  | d :: ds, u :: us => relC K d u && relCs K ds us
  | _, _ => false
end
/-- the module's name is this constant -/
def cstB0 (K : PySem.W.Frag) (c : Str × D) : Bool := match PySem.W.nsIn K mainGlobals c.1 with
  | some (some u) => relC K c.2 u
  | _ => false
/-- own exception classes: what isinstance and except ask of them -/
def xnB (K : PySem.W.Frag) (C : Addr) : Bool := (PySem.W.clsIn K C).isSome && (He.eqO (PySem.W.findIn K (.ref C) "__getattribute__") (some (some (.builtin "BaseException.__getattribute__"))) && (He.eqO (PySem.W.findIn K (.ref C) "__getattr__") (some none) &&
  (decide (PySem.W.subIn K (.ref C) (.type "BaseException") = some true) && (He.eqO (PySem.W.findIn K (.ref C) "__class__") (some (some (.builtin "object.__class__"))) && (He.eqO (PySem.W.specialIn K (.builtin "object.__class__") "__get__") (some (some (.builtin "getset_descriptor.__get__"))) &&
  (decide (PySem.W.takesIn K (.builtin "object.__class__") = some true) && (decide (PySem.W.mroIn K C (.type "object") = some true) && PySem.W.hasDictIn K C)))))))
def xpB (K : PySem.W.Frag) (x T : Str) : Bool := decide (PySem.W.kitOne K (.ref (He.ga K x)) (.ref (He.ga K T)) = some (xsub x T)) && decide (PySem.W.exmOne K (.ref (He.ga K x)) (.ref (He.ga K T)) = some (xsub x T))
def oexB (K : PySem.W.Frag) (C : Addr) : Bool := match K.lookup C with
  | some ⟨.type tn, _, .cls cd, sl⟩ => (match cd.mro, sl.toList with
    | .ref C' :: bm, [_, _, _, _, some (.builtin n), _] => decide (tn = "type") && (C' == C && (n == "ValueError.__new__" && (!cd.hasDel && (cd.hasDict && PySem.HandSPX.refsVE bm))))
    | _, _ => false)
  | _ => false
def xcB (K : PySem.W.Frag) (x k : Str) (ns : List Str) : Bool :=
  if k = ("s" : Str) then xnB K (He.ga K x) && (decide (PySem.W.kitOne K (.ref (He.ga K x)) (.type "ValueError") = some true) && ns.all (xpB K x))
  else if k = ("r" : Str) then PySem.W.excIn K (He.ga K x) He.veBase "ValueError.__new__" && (PySem.W.keepIn K (.ref (He.ga K x)) && (decide (PySem.W.subIn K (.ref (He.ga K x)) (.type "BaseException") = some true) && decide (PySem.W.typeIn K (.ref (He.ga K x)) = some (.type "type"))))
  else if k = ("f" : Str) then ns.all fun f => He.eqO (PySem.W.findIn K (.ref (He.ga K x)) f) (some none)
  else if k = ("i" : Str) then oexB K (He.ga K x) && (He.eqO (PySem.W.findIn K (.ref (He.ga K x)) "__setattr__") (some (some (.builtin "object.__setattr__"))) && (decide (PySem.W.subIn K (.ref (He.ga K x)) (.type "BaseException") = some true) && (decide (PySem.W.typeIn K (.ref (He.ga K x)) = some (.type "type")) && (PySem.W.keepIn K (.ref (He.ga K x)) &&
    (He.eqO (PySem.W.findIn K (.ref (He.ga K x)) "__init__") (some (some (.ref (He.ma K (He.ga K x) "__init__")))) && decide (PySem.W.typeIn K (.ref (He.ma K (He.ga K x) "__init__")) = some (.type "function")))))))
  else false
def cstB (K : PySem.W.Frag) (c : Str × D) : Bool := match c.2 with
  | .exc _ _ k ns _ => xcB K c.1 k ns
  | _ => cstB0 K c
section
variable {K : PySem.W.Frag} {x : Str} {ns : List Str}
theorem xs_ok (c : cstB K (x, .exc 0 none "s" ns []) = true) : ExcN K (He.ga K x) ∧ PySem.W.kitOne K (.ref (He.ga K x)) (.type "ValueError") = some true ∧ ∀ T ∈ ns, PySem.W.kitOne K (.ref (He.ga K x)) (.ref (He.ga K T)) = some (xsub x T) ∧ PySem.W.exmOne K (.ref (He.ga K x)) (.ref (He.ga K T)) = some (xsub x T) := by
  have c : xcB K x "s" ns = true := c
  unfold xcB at c
  rw [if_pos rfl] at c
  unfold xnB at c
  simp only [Bool.and_eq_true, decide_eq_true_eq] at c
  obtain ⟨⟨c1, c2, c3, c4, c5, c6, c7, c8, c9⟩, c10, c11⟩ := c
  refine ⟨⟨c1, He.eqO_ok c2, He.eqO_ok c3, c4, He.eqO_ok c5, He.eqO_ok c6, c7, c8, c9⟩, c10, fun T hT => ?_⟩
  have := List.all_eq_true.mp c11 T hT
  unfold xpB at this
  simp only [Bool.and_eq_true, decide_eq_true_eq] at this
  exact this
theorem xr_ok (c : cstB K (x, .exc 0 none "r" ns []) = true) : RaisN K (He.ga K x) := by
  have c : xcB K x "r" ns = true := c
  unfold xcB at c
  rw [if_neg (by decide), if_pos rfl] at c
  simp only [Bool.and_eq_true, decide_eq_true_eq] at c
  exact ⟨c.1, c.2.1, c.2.2.1, c.2.2.2⟩
theorem xf_ok (c : cstB K (x, .exc 0 none "f" ns []) = true) : ∀ f ∈ ns, PySem.W.findIn K (.ref (He.ga K x)) f = some none := fun f hf => by
  have c : xcB K x "f" ns = true := c
  unfold xcB at c
  rw [if_neg (by decide), if_neg (by decide), if_pos rfl] at c
  exact He.eqO_ok (List.all_eq_true.mp c f hf)
theorem xi_ok (c : cstB K (x, .exc 0 none "i" ns []) = true) : OexC K (He.ga K x) ∧ PySem.W.findIn K (.ref (He.ga K x)) "__init__" = some (some (.ref (He.fAd K (x, some "__init__")))) ∧ PySem.W.typeIn K (.ref (He.fAd K (x, some "__init__"))) = some (.type "function") := by
  have c : xcB K x "i" ns = true := c
  unfold xcB at c
  rw [if_neg (by decide), if_neg (by decide), if_neg (by decide), if_pos rfl] at c
  simp only [Bool.and_eq_true, decide_eq_true_eq] at c
  obtain ⟨c1, c2, c3, c4, c5, c6, c7⟩ := c
  refine ⟨⟨?_, He.eqO_ok c2, c3, c4, c5⟩, He.eqO_ok c6, c7⟩
  unfold oexB at c1
  split at c1
  · rename_i tn dd cd sl ho
    split at c1
    · rename_i C' bm k0 k1 k2 k3 n k5 hm hs
      simp only [Bool.and_eq_true, decide_eq_true_eq, beq_iff_eq, Bool.not_eq_true'] at c1
      obtain ⟨e1, e2, e3, e4, e5, e6⟩ := c1
      obtain ⟨nm, bs, mro, n1, qn, hd, sn, sub, ab, col, del⟩ := cd
      dsimp only at hm e4 e5
      subst hm e4 e5 e1 e2 e3
      have hsl : sl = #[k0, k1, k2, k3, some (.builtin "ValueError.__new__"), k5] := by
        obtain ⟨l⟩ := sl
        simp only at hs
        rw [hs]
      subst hsl
      exact ⟨nm, qn, n1, bs, bm, sn, sub, ab, col, dd, k0, k1, k2, k3, k5, ho, e6⟩
    · cases c1
  · cases c1
end
def obsC (fa : List He.Fa) (fn : List He.DefD) (cs : List (Str × D)) (K : PySem.W.Frag) : He.AlD := ((He.obsD fa fn K).1 && cs.all (cstB K), (He.obsD fa fn K).2)
def SaysC (fa : List He.Fa) (fn : List He.DefD) (cs : List (Str × D)) (K : PySem.W.Frag) : Prop := obsC fa fn cs K = He.valD fn
theorem SaysC.two {fa : List He.Fa} {fn : List He.DefD} {cs : List (Str × D)} {K : PySem.W.Frag} (h : SaysC fa fn cs K) : He.SaysD fa fn K ∧ ∀ c ∈ cs, cstB K c = true := by
  have h0 : (obsC fa fn cs K).1 = true := congrArg (fun z : He.AlD => z.1) h
  have h1 : ((He.obsD fa fn K).1 && cs.all (cstB K)) = true := h0
  have h2 : (obsC fa fn cs K).2 = (He.valD fn).2 := congrArg (fun z : He.AlD => z.2) h
  rw [Bool.and_eq_true] at h1
  refine ⟨?_, fun c hc => List.all_eq_true.mp h1.2 c hc⟩
  show He.obsD fa fn K = He.valD fn
  exact Prod.ext h1.1 h2
def obsCG (n : Nat) (fa : List He.Fa) (fn : List He.DefD) (cs : List (Str × D)) (g : Addr → Option Obj) : He.AlD := obsC fa fn cs (He.frG g (He.asD g n))
def hookC (n : Nat) (fa : List He.Fa) (fn : List He.DefD) (cs : List (Str × D)) : PySem.W.Hook where
  α := He.AlD
  obs s := obsCG n fa fn cs s.heap.get?
  val _ := He.valD fn
  says _ h := ∃ K : PySem.W.Frag, K.In h ∧ SaysC fa fn cs K
  of _ _ e := ⟨_, He.frG_in, e⟩
  keeps := fun _ _ _ z k => let ⟨K, a, b⟩ := z; ⟨K, PySem.W.Frag.In.keeps a k, b⟩
theorem obsCG_eq {n : Nat} {fa : List He.Fa} {fn : List He.DefD} {cs : List (Str × D)} {g : Addr → Option Obj} {s : Shared} (h : ∀ a, g a = s.heap.get? a) : obsCG n fa fn cs g = (hookC n fa fn cs).obs s := by
  have e : g = s.heap.get? := funext fun a => h a
  rw [e]
  rfl
end DL
namespace DL
open PySem L2
def truB : D → Option Bool
  | .non => some false
  | .bl b => some b
  | .int i => some (i != 0)
  | .tup ds => some (!ds.isEmpty)
  | .lst ds => some (!ds.isEmpty)
  | _ => none
def cmpB (c : Cp) (x y : D) : Option Bool := match c, x, y with
  | .lt, .int i, .int j => some (decide (i < j))
  | .le, .int i, .int j => some (decide (i ≤ j))
  | .gt, .int i, .int j => some (decide (j < i))
  | .ge, .int i, .int j => some (decide (j ≤ i))
  | .eq, x, y => eqS x y
  | .ne, x, y => (eqS x y).map (!·)
  | .isN, x, .non => some (isNon x)
  | .notN, x, .non => some (!isNon x)
  | _, _, _ => none
def binB (o : Op) (x y : D) : Option D := match o, x, y with
  | .add, .int i, .int j => some (.int (i + j))
  | .sub, .int i, .int j => some (.int (i - j))
  | _, _, _ => none
def negB : D → Option D
  | .int i => some (.int (-i))
  | _ => none
def ev (σ : Std) : CE → Option D
  | .var i => (σ[i]?).bind id
  | .int i => some (.int i)
  | .str i => some (.str i)
  | .bl i => some (.bl i)
  | .non => some .non
  | .neg a => (ev σ a).bind negB
  | .not a => ((ev σ a).bind truB).map fun k => .bl (!k)
  | .and a b => (ev σ a).bind fun x => (truB x).bind fun k => if k then ev σ b else some x
  | .or a b => (ev σ a).bind fun x => (truB x).bind fun k => if k then some x else ev σ b
  | .cmp c a b => (ev σ a).bind fun x => (ev σ b).bind fun y => (cmpB c x y).map .bl
  | .bin o a b => (ev σ a).bind fun x => (ev σ b).bind fun y => binB o x y
  | _ => none
end DL
namespace DL
open PySem L2
/-- a text of codes -/
abbrev tx (l : List Nat) : Str := SX.S l
theorem tx_len {l : List Nat} : (tx l).length = l.length := SX.S_len l
theorem repS_tx {c n : Nat} : repS (tx [c]) n = tx (List.replicate n c) := by
  have h : ∀ (n : Nat) (a : Array Nat), ((List.replicate n (tx [c]).cps).foldl (· ++ ·) a).toList = a.toList ++ List.replicate n c := by
    intro n
    induction n with
    | zero => intro a; simp
    | succ n ih =>
      intro a
      rw [List.replicate_succ, List.foldl_cons, ih, List.replicate_succ]
      show (a ++ (#[c] : Array Nat)).toList ++ _ = _
      simp
  have e2 : (repS (tx [c]) n).cps.toList = List.replicate n c := h n #[]
  rw [← SX.S_tl (repS (tx [c]) n), e2]
theorem atQ_mem {ds : List D} {i : Int} {M : Md} {Q : QE} (h0 : 0 ≤ i) (h1 : i < ds.length) (h : ∀ d ∈ ds, Q d M) : atQ ds i M Q := by
  obtain ⟨j, rfl⟩ : ∃ j : Nat, i = j := ⟨i.toNat, by omega⟩
  have hj : j < ds.length := by omega
  rw [atQ_some (d := ds[j]) (atI_nat (List.getElem?_eq_getElem hj))]
  exact h _ (List.getElem_mem hj)
theorem joinL_ones (cs : List Nat) : TL.joinL [] (cs.map fun c => [c]) = cs := by
  induction cs with
  | nil => rfl
  | cons c cs ih =>
    cases cs with
    | nil => rfl
    | cons d cs =>
      show [c] ++ ([] ++ TL.joinL [] ((d :: cs).map fun c => [c])) = _
      rw [ih]; rfl
theorem strsOf_map {α : Type} {f : α → Str} {xs : List α} : strsOf (xs.map fun x => D.str (f x)) = some (xs.map f) := by
  induction xs with
  | nil => rfl
  | cons x xs ih => simp only [List.map_cons, strsOf, ih, Option.map_some]
theorem join_ones {cs : List Nat} {M : Md} {Q : QE} (h : cs.length ≤ 16777216) (q : Q (.str (tx cs)) M) : mtD .join (.str "") [.lst (cs.map fun c => D.str (tx [c]))] M Q := by
  rw [mt_joinl strsOf_map]
  refine ⟨?_, ?_⟩
  · have e : ((cs.map fun c => tx [c]).map (·.length)).sum = cs.length := by
      rw [List.map_map]
      clear h q
      induction cs with
      | nil => rfl
      | cons c cs ih =>
        rw [List.map_cons, List.sum_cons, ih, List.length_cons]
        show 1 + cs.length = _
        omega
    rw [e]
    show cs.length + _ * 0 ≤ _
    omega
  · have e : Txt.join "" (cs.map fun c => tx [c]) = tx cs := by
      have := SX.join_S [] (cs.map fun c => [c])
      rw [List.map_map, joinL_ones] at this
      exact this
    rw [e]
    exact q
theorem ix_s {s : Str} {i : Int} {c : Nat} {M : Md} {Q : QE} (h : s.length ≤ sizeLine) (hc : atI s.cps.toList i = some c) (q : Q (.str ⟨#[c]⟩) M) : ixD (.str s) (.int i) M Q := by
  show s.length ≤ sizeLine ∧ _
  refine ⟨h, ?_⟩
  rw [hc]
  exact q
theorem ix_smem {s : Str} {i : Int} {M : Md} {Q : QE} (h : s.length ≤ sizeLine) (h0 : 0 ≤ i) (h1 : i < s.length) (q : ∀ c ∈ s.cps.toList, Q (.str ⟨#[c]⟩) M) : ixD (.str s) (.int i) M Q := by
  obtain ⟨j, rfl⟩ : ∃ j : Nat, i = j := ⟨i.toNat, by omega⟩
  have hl : s.cps.toList.length = s.length := by simp [Str.length]
  have hj : j < s.cps.toList.length := by omega
  exact ix_s h (atI_nat (List.getElem?_eq_getElem hj)) (q _ (List.getElem_mem hj))
end DL
namespace DL
open PySem L2
section
variable {Φ : Nat → SpD} {κ : Nat → D} {E : EX} {EE : EXS} {K : EndsD} {σ : Std} {M : Md} {Q : QE}
theorem nxt_of {c : CSs} (h : rSs Φ κ c EE K σ M) : nxt Φ κ c EE K σ M := h
theorem rS_ifsN {c a b} : rS Φ κ (.ifs c a b) EE K σ M = rT Φ κ c (fun x => EE x σ) σ M fun k M1 => if k = true then nxt Φ κ a EE K σ M1 else nxt Φ κ b EE K σ M1 := rfl
theorem rS_forsN {t it body} : rS Φ κ (.fors t it body) EE K σ M = rdi Φ κ it (fun x => EE x σ) σ M fun ds lk M1 => loopD lk ds (asgT t) (nxt Φ κ body EE) K ds σ M1 := rfl
theorem rS_enumsN {t e body} : rS Φ κ (.enums t e body) EE K σ M = rE Φ κ e (fun x => EE x σ) σ M fun d M1 => enumQ d M1 fun ds lk M2 => loopD lk ds (asgT t) (nxt Φ κ body EE) K ds σ M2 := rfl
theorem rS_whilN {c body} : rS Φ κ (.whil c body) EE K σ M = ∃ n, whilD (fun σ M Q => rT Φ κ c (fun x => EE x σ) σ M Q) (nxt Φ κ body EE) K n σ M := rfl
theorem iteI {c : Prop} [Decidable c] {A B : Prop} (h1 : c → A) (h2 : ¬ c → B) : if c then A else B := by
  split
  · next h => exact h1 h
  · next h => exact h2 h
end
section
variable {M : Md} {Q : QE} {QB : Bool → Prop} {k : Nat} {ds : List D}
theorem seqR_some {o : Option MO} {ds : List D} (e : seqR o = some ds) : o = some (.lst ds) := by
  unfold seqR at e
  split at e
  · cases e; rfl
  · cases e
theorem ext_RR {d : D} : mtD .extend (.ref k) [d] M Q = seqQ (seqR M[k]?) fun ds => seqQ (lstOf d M) fun es => ds.length + es.length ≤ sizeLine ∧ Q .non (M.set k (.lst (ds ++ es))) := by
  cases e : seqR M[k]? with
  | none =>
    unfold seqR at e
    simp only [mtD, mutOf]
    cases h : M[k]? with
    | none => simp only [seqQ]
    | some m =>
      cases m with
      | lst ds => rw [h] at e; cases e
      | _ => simp only [seqQ]
  | some ds => exact ext_R (seqR_some e)
theorem pop_RR : mtD .pop (.ref k) [] M Q = seqQ (seqR M[k]?) fun ds => optQ ds.getLast? fun d => Q d (M.set k (.lst ds.dropLast)) := by
  cases e : seqR M[k]? with
  | none =>
    unfold seqR at e
    simp only [mtD, mutOf]
    cases h : M[k]? with
    | none => simp only [seqQ]
    | some m =>
      cases m with
      | lst ds => rw [h] at e; cases e
      | _ => simp only [seqQ]
  | some ds => exact pop_R (seqR_some e)
theorem lstOf_lst : lstOf (.lst ds) M = some ds := rfl
theorem seqOf_lst : seqOf (.lst ds) M = some ds := rfl
theorem seqOf_tup : seqOf (.tup ds) M = some ds := rfl
end
/-- a text in a tuple of two -/
theorem cp_inn2 {s a b : Str} {M : Md} {QB : Bool → Prop} : cpD .inn (.str s) (.tup [.str a, .str b]) M QB = QB (decide (a = s) || decide (b = s)) := by
  rw [cp_inn_tup rfl rfl]
  simp only [List.any_cons, List.any_nil, Bool.or_false]
  apply congrArg
  show (a == s || b == s) = _
  rw [Bool.eq_iff_iff]
  simp
/-- slots set anew -/
def setM (σ : Std) (J : List Nat) (vs : List (Option D)) : Std := (J.zip vs).foldl (fun σ p => σ.set p.1 p.2) σ
theorem setM_cons {σ i is v vs} : setM σ (i :: is) (v :: vs) = setM (σ.set i v) is vs := rfl
theorem setM_nil {σ vs} : setM σ [] vs = σ := rfl
section
variable {lk : Option Nat} {all : List D} {asg : D → Std → Md → (Std → Md → Prop) → Prop} {body : EndsD → Std → Md → Prop} {K : EndsD} {σ0 : Std} {M : Md}
/-- for x in xs, a settled list; J the slots that are set in the loop -/
theorem for_list {X : Type} {enc : X → D} {xs : List X} (J : List Nat) (Inv : List X → List (Option D) → Md → Prop)
    (h0 : ∃ js, setM σ0 J js = σ0 ∧ Inv xs js M)
    (step : ∀ x r js M' (nx : Std → Md → Prop), Inv (x :: r) js M' → (∀ js' M'', Inv r js' M'' → nx (setM σ0 J js') M'') → asg (enc x) (setM σ0 J js) M' fun σ1 M1 => body ⟨nx, K.rt, K.nx, nx⟩ σ1 M1)
    (fin : ∀ js M', Inv [] js M' → K.nx (setM σ0 J js) M') : loopD none all asg body K (xs.map enc) σ0 M := by
  obtain ⟨js, h1, h2⟩ := h0
  have key : ∀ ys js M, Inv ys js M → loopD none all asg body K (ys.map enc) (setM σ0 J js) M := by
    intro ys
    induction ys with
    | nil => intro js M h; exact ⟨trivial, fin _ _ h⟩
    | cons y ys ih => intro js M h; exact ⟨trivial, step y ys js M _ h fun js' M'' h' => ih js' M'' h'⟩
  have := key xs js M h2
  rwa [h1] at this
/-- for j in range(a, b) -/
theorem for_rng {a b : Int} (J : List Nat) (Inv : Int → List (Option D) → Md → Prop) (hab : a ≤ b)
    (h0 : ∃ js, setM σ0 J js = σ0 ∧ Inv a js M)
    (step : ∀ j js M' (nx : Std → Md → Prop), a ≤ j → j < b → Inv j js M' → (∀ js' M'', Inv (j + 1) js' M'' → nx (setM σ0 J js') M'') → asg (.int j) (setM σ0 J js) M' fun σ1 M1 => body ⟨nx, K.rt, K.nx, nx⟩ σ1 M1)
    (fin : ∀ js M', Inv b js M' → K.nx (setM σ0 J js) M') : loopD none all asg body K (rngD a b) σ0 M := by
  obtain ⟨js, h1, h2⟩ := h0
  have := loop_from (all := all) (asg := asg) (body := body) (K := K) (a := a) (b := b) (fun j σ M => ∃ js, σ = setM σ0 J js ∧ Inv j js M) (σ := setM σ0 J js) (M := M) hab ⟨js, rfl, h2⟩
    (fun j σ M nx h3 h4 ⟨js, e, h5⟩ hn => by subst e; exact step j js M nx h3 h4 h5 fun js' M'' h6 => hn _ _ ⟨js', rfl, h6⟩) (fun σ M ⟨js, e, h5⟩ => by subst e; exact fin js M h5)
  rwa [h1] at this
/-- while: Inv m holds where m turns at most are left -/
theorem while_at {tst : Std → Md → (Bool → Md → Prop) → Prop} (J : List Nat) (Inv : Nat → List (Option D) → Md → Prop)
    (h0 : ∃ m js, setM σ0 J js = σ0 ∧ Inv m js M)
    (step : ∀ m js M' (nx : Std → Md → Prop), Inv m js M' → (∀ m' js' M'', m = m' + 1 → Inv m' js' M'' → nx (setM σ0 J js') M'') → tst (setM σ0 J js) M' fun k M1 => if k = true then body ⟨nx, K.rt, K.nx, nx⟩ (setM σ0 J js) M1 else K.nx (setM σ0 J js) M1) : ∃ n, whilD tst body K n σ0 M := by
  obtain ⟨m, js, h1, h2⟩ := h0
  have key : ∀ m js M, Inv m js M → whilD tst body K (m + 1) (setM σ0 J js) M := by
    intro m
    induction m with
    | zero =>
      intro js M h
      exact step 0 js M (whilD tst body K 0) h fun m' js' M'' hlt h' => by omega
    | succ m ih =>
      intro js M h
      exact step (m + 1) js M (whilD tst body K (m + 1)) h fun m' js' M'' hlt h' => by
        have e : m' = m := by omega
        subst e
        exact ih js' M'' h'
  have := key m js M h2
  rw [h1] at this
  exact ⟨_, this⟩
end
/-- a list of its own is handed back -/
theorem Fin.lst {n0 : Nat} {Q : QE} {M L : Md} {k : Nat} {ds : List D} (hn : M.length = n0) (hM : MOk M) (hk : (M ++ L)[k]? = some (.lst ds)) (h : M.length ≤ k) (hd : noRefs ds = true) (q : Q (.lst ds) M) : Fin n0 Q (.ref k) (M ++ L) := by
  refine .settle hk ?_
  rw [List.set_append_right _ _ h]
  exact Fin.tail hn (noRefs_lt hd) hM q
/-- a value is handed back -/
theorem Fin.val {n0 : Nat} {Q : QE} {M L : Md} {d : D} (hn : M.length = n0) (hM : MOk M) (hd : noRef d = true) (q : Q d M) : Fin n0 Q d (M ++ L) := Fin.tail hn (noRef_lt hd) hM q
section
variable {M : Md} {Q : QE} {QM : Md → Prop} {k : Nat} {c c' f g : Str} {d x : D} {r fs : List (Str × D)}
def lookQ (fs : List (Str × D)) (f : Str) (M : Md) (Q : QE) : Prop := match fs.lookup f with
  | some x => Q x M
  | none => False
theorem lookQ_hd : lookQ ((f, d) :: r) f M Q = Q d M := by
  unfold lookQ
  rw [List.lookup_cons, beq_self_eq_true]
theorem lookQ_tl (h : (f == g) = false) : lookQ ((g, d) :: r) f M Q = lookQ r f M Q := by
  unfold lookQ
  rw [List.lookup_cons, h]
def fldR (o : Option MO) (c f : Str) (M : Md) (Q : QE) : Prop := match o with
  | some (.ins c' fs) => c' = c ∧ lookQ fs f M Q
  | _ => False
theorem fldD_R : fldD c f (.ref k) M Q = fldR M[k]? c f M Q := rfl
theorem fldR_ins : fldR (some (.ins c' fs)) c f M Q = (c' = c ∧ lookQ fs f M Q) := rfl
def setFR (o : Option MO) (c f : Str) (k : Nat) (d : D) (M : Md) (Q : Md → Prop) : Prop := match o with
  | some (.ins c' fs) => c' = c ∧ fs.length < 1000 ∧ Q (M.set k (.ins c (putFD f d fs)))
  | _ => False
theorem setFD_R : setFD c f (.ref k) d M QM = setFR M[k]? c f k d M QM := rfl
theorem setFR_ins : setFR (some (.ins c' fs)) c f k d M QM = (c' = c ∧ fs.length < 1000 ∧ QM (M.set k (.ins c (putFD f d fs)))) := rfl
theorem putFD_nil : putFD f d [] = [(f, d)] := rfl
theorem putFD_hd : putFD f d ((f, x) :: r) = (f, d) :: r := by unfold putFD; rw [if_pos rfl]
theorem putFD_tl (h : ¬ g = f) : putFD f d ((g, x) :: r) = (g, x) :: putFD f d r := by rw [putFD, if_neg h]
end
end DL
namespace DL
open PySem PySem.Spec PyProof.Rows L2 NdefX LamX
theorem pssL_cons {X : Cx} {P : Pm} {W : WX} {s : Stmt} {ss : List Stmt} {r r2 : RS} (h : PS X s (liS P W r)) (h2 : PSs X ss (liS P W r2)) : PSs X (s :: ss) (liS P W fun E K σ M => r E { K with nx := r2 E K } σ M) := by
  refine pssI (pss_cons h h2) fun K σ H q => ?_
  obtain ⟨w, M, sd, Kd, Ed, R, rs, l, lx, q⟩ := q
  exact ⟨w, M, sd, { Kd with nx := r2 Ed Kd }, Ed, R, rs, ⟨fun w1 M1 H1 sd1 σ1 s1 R1 rs1 q => ⟨w1, M1, sd1, Kd, Ed, R1, rs1, l.on s1, lx.on s1, q⟩, l.rt, l.bk, l.ct⟩, lx, q⟩
end DL
namespace DL
open PySem PySem.Spec PyProof.Rows L2
/-- an exception, held at a; its dict at od -/
def XD.held (x : XD) (a : Addr) (od : Option Addr) : D := match x.fs with
  | none => .exc a none x.cls [] []
  | some fs => .exc a od x.cls (fs.map (·.1)) (fs.map (·.2))
/-- one clause: its class, the name's slot, its suite -/
structure Hd where
  T : Str
  i : Option Nat
  su : CSs
inductive TBk where
  | one (s : CS)
  | tr (body : CSs) (hs : List Hd)
def clrE (i : Nat) (K : EndsD) : EndsD := ⟨fun σ M => K.nx (σ.set i none) M, K.rt, fun σ M => K.bk (σ.set i none) M, fun σ M => K.ct (σ.set i none) M⟩
section
variable (Φ : Nat → SpD) (κ : Nat → D) (xs : List Str)
/-- a clause's suite, the exception d in hand -/
def suR (h : Hd) (d : D) (K : EndsD) (σ : Std) (M : Md) : Prop := match h.i with
  | some i => rSs Φ (fun _ => d) h.su (fun _ _ _ => False) (clrE i K) (σ.set i (some d)) M
  | none => rSs Φ (fun _ => d) h.su (fun _ _ _ => False) K σ M
def hdsR (E : EXS) (K : EndsD) : List Hd → EXS
  | [] => E
  | h :: r => fun x σ M => x.cls ∈ xs ∧ if xsub x.cls h.T = true then (∀ a o, suR Φ h (x.held a (some o)) K σ M) else hdsR E K r x σ M
def rB : TBk → RS
  | .one s => rSs Φ κ (.cons s .nil)
  | .tr body hs => fun E K σ M => rSs Φ κ body (hdsR Φ xs E K hs) K σ M
def rBs : List TBk → RS
  | [] => fun _ K σ M => K.nx σ M
  | b :: r => fun E K σ M => rB Φ κ xs b E { K with nx := rBs r E K } σ M
end
def hotC (C : Ctx) : Ctx := { N := C.N, sc := C.sc, fn := C.fn, G := [], B := C.B, X := { hot := true, xs := C.X.xs, xf := C.X.xf } }
def chkH (C : Ctx) (h : Hd) : ExceptHandler → Bool
  | .ExceptHandler (some (.Name x _)) n (b :: su) _ => (x == h.T) && okGlob C x && C.X.xs.contains h.T && chkSs (hotC C) h.su (b :: su) && (match h.i, n with
    | none, none => true
    | some i, some y => (C.N[i]? == some y) && (C.sc.names.lookup y == some .local)
    | _, _ => false)
  | _ => false
def chkHs (C : Ctx) : List Hd → List ExceptHandler → Bool
  | [], [] => true
  | h :: hs, e :: es => chkH C h e && chkHs C hs es
  | _, _ => false
def oneNm : List Hd → Bool
  | [] => false
  | [_] => true
  | hs => hs.all fun h => h.i.isNone
def chkTr (C : Ctx) (xs : List Str) (body : CSs) (hs : List Hd) : Stmt → Bool
  | .Try b es [] [] _ => (!C.X.hot && C.NS.isEmpty && decide (xs = C.X.xs)) && chkSs C body b && chkHs C hs es && oneNm hs
  | _ => false
def chkB (C : Ctx) (xs : List Str) : TBk → Stmt → Bool
  | .one s, st => chkSs C (.cons s .nil) [st]
  | .tr body hs, st => chkTr C xs body hs st
def chkBs (C : Ctx) (xs : List Str) : List TBk → List Stmt → Bool
  | [], [] => true
  | b :: bs, s :: ss => chkB C xs b s && chkBs C xs bs ss
  | _, _ => false
section
variable {P : Pm} {Φ : Nat → SpD} {κ : Nat → D} {C : Ctx} {X : Cx} {W : WX}
theorem EnvOk.tr (O : EnvOk X P C Φ κ) (hot : C.X.hot = false) (hn : C.NS = []) (pn : List (Addr × Obj)) (xe : Value → Shared → Prop) : EnvOk (X.tr pn xe) P C Φ κ :=
  ⟨O.K, O.pg, O.wl, O.calm, O.N, O.nd, O.sc, O.fn, O.hu, O.fun_, O.cst, O.blt, O.fl, O.mkr, O.mt, O.kf, O.km, O.kt, O.xs, O.xr, O.xi, O.xf, O.kd, fun h => (by rw [hot] at h; cases h), fun n h => (by rw [hn] at h; cases h)⟩
theorem EnvOk.suite (O : EnvOk X P C Φ κ) {a : Addr} {oe : Obj} {od : Option Addr} {c : Str} {ns : List Str} {ds : List D} (pn : List (Addr × Obj)) (hc : c ∈ C.X.xs) (hz : Zc (.ref (P.cls c)) od oe) (hf : ∃ vs, oe.data = .fields vs) :
    EnvOk (X.suite a ((a, oe) :: pn)) P (hotC C) Φ (fun _ => .exc a od c ns ds) :=
  ⟨O.K, O.pg, O.wl, fun h => (by cases h), O.N, O.nd, O.sc, O.fn, O.hu, fun _ _ h => (by cases h), fun _ _ h => (by cases h), O.blt, fun _ h => (by cases h), fun _ h => (by cases h), fun _ h => (by cases h), fun _ h => (by cases h), fun _ h => (by cases h), fun _ h => (by cases h), O.xs, fun _ h => (by cases h), fun _ h => (by cases h), O.xf, fun _ h => (by cases h), fun _ => ⟨a, od, c, ns, ds, oe, rfl, hc, List.mem_cons_self, hz, hf⟩, fun _ h => (by cases h)⟩
/-- the suite of a clause: what it wants of an exception in hand -/
def suT (P : Pm) (Φ : Nat → SpD) (C : Ctx) (su : CSs) (a : Addr) (cls : Value) (od : Option Addr) : TS := fun K σ H => ∃ c ns ds, cls = .ref (P.cls c) ∧ c ∈ C.X.xs ∧ liS P W0 (rSs Φ (fun _ => .exc a od c ns ds) su) K σ H
theorem su_ok (O : EnvOk X P C Φ κ) (hk : C.sc.kind = .function) {su : CSs} {b : Stmt} {ss : List Stmt} (h : chkSs (hotC C) su (b :: ss) = true) (a : Addr) (oe : Obj) (cls : Value) (d : Option Addr) (pn : List (Addr × Obj)) (hz : Zc cls d oe) (hf : ∃ vs, oe.data = .fields vs) :
    PSs (X.suite a ((a, oe) :: pn)) (b :: ss) (suT P Φ C su a cls d) := by
  refine ⟨fun pins s σ H K I q => ?_⟩
  obtain ⟨c, ns, ds, e, hc, q⟩ := q
  subst e
  exact (sSs su (O.suite (ns := ns) (ds := ds) pn hc hz hf) hk takes0 PassesOwn.never h).run pins s σ H K I q
theorem glob_nm (O : EnvOk X P C Φ κ) {x : Str} (h1 : okGlob C x = true) (h2 : C.X.xs.contains x = true) : Names X x (.ref (P.cls x)) := by
  obtain ⟨g1, g2⟩ := glob_of O h1
  exact ⟨g1, g2, .inl (O.xs x (List.elem_iff.mp h2)).1⟩
theorem relSt_none {w : Wd} {sd : Std} {σ : L2.St} (r : RelSt P w sd σ) (i : Nat) : RelSt P w (sd.set i none) (σ.set i none) := by
  refine ⟨by simp [r.1], fun j d h => ?_⟩
  by_cases hj : j = i
  · subst hj
    rw [List.getElem?_set] at h
    simp at h
  · rw [List.getElem?_set_ne (fun z => hj z.symm)] at h ⊢
    exact r.2 j d h
/-- the exception in hand, as data -/
theorem held_rel {w : Wd} {x : XD} {dd : Option Addr} {H : Hp} {a : Addr} (r : RelX P w x (.ref (P.cls x.cls)) dd H) : ∃ o ns ds, x.held a (some o) = .exc a dd x.cls ns ds ∧ RelD P w (.exc a dd x.cls ns ds) (.ref a) := by
  obtain ⟨_, r⟩ := r
  rcases r with ⟨e1, e2⟩ | ⟨fs, o, us, e1, e2, hF, hr⟩
  · subst e2
    exact ⟨0, [], [], by unfold XD.held; rw [e1], [], rfl, fun d h => (by cases h), rfl, rfl⟩
  · subst e2
    obtain ⟨h1, h2⟩ := relKs_zip hr
    exact ⟨o, _, _, by unfold XD.held; rw [e1], us.map (·.2), rfl, fun d h => by cases h; rw [← h1]; exact hF, by rw [List.length_map, List.length_map], h2⟩
theorem LkK.clr {w : Wd} {H : Hp} {Kd : EndsD} {K : Ends} (l : LkK P w H Kd K) (i : Nat) : LkK P w H (clrE i Kd) { nx := fun σ' H' => K.nx (σ'.set i none) H', rt := K.rt, bk := fun σ' H' => K.bk (σ'.set i none) H', ct := fun σ' H' => K.ct (σ'.set i none) H' } :=
  ⟨fun w' M' H' sd σ s R r q => l.nx w' M' H' _ _ s R (relSt_none r i) q, l.rt, fun w' M' H' sd σ s R r q => l.bk w' M' H' _ _ s R (relSt_none r i) q, fun w' M' H' sd σ s R r q => l.ct w' M' H' _ _ s R (relSt_none r i) q⟩
theorem lkXS0 {w : Wd} {H : Hp} : LkXS P w H (fun _ _ _ => False) W0 := fun _ _ _ _ _ _ _ _ _ _ _ _ q => q.elim
theorem chkH_inv {h : Hd} {e : ExceptHandler} (hc : chkH C h e = true) : ∃ x np n b su p, e = .ExceptHandler (some (.Name x np)) n (b :: su) p ∧ x = h.T ∧ okGlob C x = true ∧ C.X.xs.contains h.T = true ∧ chkSs (hotC C) h.su (b :: su) = true ∧ ((h.i = none ∧ n = none) ∨ ∃ i y, h.i = some i ∧ n = some y ∧ C.N[i]? = some y ∧ C.sc.names.lookup y = some .local) := by
  unfold chkH at hc
  split at hc
  · rename_i x np n b su p
    simp only [Bool.and_eq_true, beq_iff_eq] at hc
    obtain ⟨⟨⟨⟨g1, g2⟩, g3⟩, g4⟩, g5⟩ := hc
    refine ⟨x, np, n, b, su, p, rfl, g1, g2, g3, g4, ?_⟩
    split at g5
    · next e => exact .inl ⟨e, rfl⟩
    · next i y e =>
      rw [Bool.and_eq_true, beq_iff_eq, beq_iff_eq] at g5
      exact .inr ⟨i, y, e, rfl, g5.1, g5.2⟩
    · cases g5
  · cases hc
/-- clauses without names -/
theorem hds_ok (O : EnvOk X P C Φ κ) (hk : C.sc.kind = .function) : ∀ {hs : List Hd} {es : List ExceptHandler}, chkHs C hs es = true → (hs.all fun h => h.i.isNone) = true → HdsOk X es (hs.map fun h => (.ref (P.cls h.T), suT P Φ C h.su))
  | [], [], _, _ => .nil
  | h :: hs, e :: es, hc, hn => by
    rw [chkHs, Bool.and_eq_true] at hc
    rw [List.all_cons, Bool.and_eq_true] at hn
    obtain ⟨x, np, n, b, su, p, e1, e2, g2, g3, g4, g5⟩ := chkH_inv hc.1
    rcases g5 with ⟨_, e3⟩ | ⟨i, y, e4, _⟩
    · subst e1 e2 e3
      exact .cons (glob_nm O g2 g3) (fun a oe cls d pn hz hf => su_ok O hk g4 a oe cls d pn hz hf) (hds_ok O hk hc.2 hn.2)
    · rw [e4] at hn; cases hn.1
  | [], _ :: _, hc, _ => by cases hc
  | _ :: _, [], hc, _ => by cases hc
/-- what a clause's suite gets -/
theorem su_lift (O : EnvOk X P C Φ κ) {w : Wd} {M : Md} {H : Hp} {sd : Std} {σ : L2.St} {Kd : EndsD} {K : Ends} {x : XD} {dd : Option Addr} {h : Hd} (R : RepM P w M H) (rs : RelSt P w sd σ) (l : LkK P w H Kd K) (r : RelX P w x (.ref (P.cls x.cls)) dd H) (hx : x.cls ∈ C.X.xs) (hi : h.i = none) (a : Addr)
    (q : ∀ a o, suR Φ h (x.held a (some o)) Kd sd M) : suT P Φ C h.su a (.ref (P.cls x.cls)) dd K σ H := by
  obtain ⟨o, ns, ds, e, rd⟩ := held_rel (a := a) r
  have q := q a o
  unfold suR at q
  rw [hi, e] at q
  exact ⟨x.cls, ns, ds, rfl, hx, w, M, sd, Kd, _, R, rs, l, lkXS0, q⟩
theorem su_liftA (O : EnvOk X P C Φ κ) {w : Wd} {M : Md} {H : Hp} {sd : Std} {σ : L2.St} {Kd : EndsD} {K : Ends} {x : XD} {dd : Option Addr} {h : Hd} {i : Nat} (R : RepM P w M H) (rs : RelSt P w sd σ) (l : LkK P w H Kd K) (r : RelX P w x (.ref (P.cls x.cls)) dd H) (hx : x.cls ∈ C.X.xs) (hi : h.i = some i) (a : Addr)
    (q : ∀ a o, suR Φ h (x.held a (some o)) Kd sd M) : suT P Φ C h.su a (.ref (P.cls x.cls)) dd { nx := fun σ' H' => K.nx (σ'.set i none) H', rt := K.rt, bk := fun σ' H' => K.bk (σ'.set i none) H', ct := fun σ' H' => K.ct (σ'.set i none) H' } (σ.set i (some (.ref a))) H := by
  obtain ⟨o, ns, ds, e, rd⟩ := held_rel (a := a) r
  have q := q a o
  unfold suR at q
  rw [hi, e] at q
  exact ⟨x.cls, ns, ds, rfl, hx, w, M, _, _, _, R, relSt_set rs i rd, l.clr i, lkXS0, q⟩
theorem many_lift (O : EnvOk X P C Φ κ) {w : Wd} {H : Hp} {Kd : EndsD} {K : Ends} {E : EXS} (l : LkK P w H Kd K) (lx : LkXS P w H E W) : ∀ {hs : List Hd}, (∀ h ∈ hs, h.T ∈ C.X.xs) → (hs.all fun h => h.i.isNone) = true → LkXS P w H (hdsR Φ C.X.xs E Kd hs) (wMany X.K W K (hs.map fun h => (.ref (P.cls h.T), suT P Φ C h.su)))
  | [], _, _ => lx
  | h :: hs, hT, hn => by
    rw [List.all_cons, Bool.and_eq_true] at hn
    intro w' M' H' sd σ x cls dd s R rs r q
    obtain ⟨q1, q⟩ := q
    have ec : cls = .ref (P.cls x.cls) := r.1
    subst ec
    refine ⟨xsub x.cls h.T, ((O.xs _ (hT h List.mem_cons_self)).2.2.2 _ q1).2, fun hb a _ => ?_, fun hb => ?_⟩
    · rw [if_pos hb] at q
      exact su_lift O R rs (l.on s) r q1 (Option.isNone_iff_eq_none.mp hn.1) a q
    · rw [if_neg (by rw [hb]; decide)] at q
      exact many_lift O l lx (fun h' hh => hT h' (List.mem_cons_of_mem _ hh)) hn.2 w' M' H' sd σ x _ dd s R rs r q
theorem chkHs_T : ∀ {hs : List Hd} {es : List ExceptHandler}, chkHs C hs es = true → ∀ h ∈ hs, h.T ∈ C.X.xs
  | [], _, _, _, hh => by cases hh
  | h :: hs, [], hc, _, _ => by cases hc
  | h :: hs, e :: es, hc, h', hh => by
    rw [chkHs, Bool.and_eq_true] at hc
    rcases List.mem_cons.mp hh with z | z
    · obtain ⟨_, _, _, _, _, _, _, _, _, g3, _⟩ := chkH_inv hc.1
      rw [z]; exact List.elem_iff.mp g3
    · exact chkHs_T hc.2 h' z
theorem sB {xs : List Str} {b : TBk} {st : Stmt} (O : EnvOk X P C Φ κ) (hk : C.sc.kind = .function) (tk : Takes X W) (hp : PassesOwn (model X.prog X.w) X.A X.env X.xe) (hs : X.stack = X.env :: X.outer) (hf : X.env.frame = some X.env.locals) (h : chkB C xs b st = true) : PS X st (liS P W (rB Φ κ xs b)) := by
  cases b with
  | one s =>
    have h : (chkS C s st && true) = true := h
    rw [Bool.and_true] at h
    exact psI (sS s O hk tk hp h) fun K σ H q => q
  | tr body hs' =>
    have h : chkTr C xs body hs' st = true := h
    unfold chkTr at h
    split at h
    · rename_i bb es p _
      simp only [Bool.and_eq_true, Bool.not_eq_true', decide_eq_true_eq, List.isEmpty_iff] at h
      obtain ⟨⟨⟨⟨⟨h1, h2⟩, h3⟩, h4⟩, h5⟩, h6⟩ := h
      subst h3
      have one : PS X (.Try bb es [] [] p) (liS P W (rB Φ κ C.X.xs (.tr body hs'))) := by
        have hbody : ∀ (W : WX) (pn : List (Addr × Obj)) (xe : Value → Shared → Prop), Takes (X.tr pn xe) W → PassesOwn (model X.prog X.w) X.A X.env xe → PSs (X.tr pn xe) bb (liS P W (rSs Φ κ body)) := fun W pn xe tk hp => sSs body (O.tr h1 h2 pn xe) hk tk hp h4
        by_cases hn : (hs'.all fun h => h.i.isNone) = true
        · cases es with
          | nil => cases hs' with
            | nil => cases h6
            | cons _ _ => cases h5
          | cons e es =>
            refine psI (ps_try_many hs hf tk hbody (hds_ok O hk h5 hn)) fun K σ H q => ?_
            obtain ⟨w, M, sd, Kd, Ed, R, rs, l, lx, q⟩ := q
            exact ⟨w, M, sd, Kd, _, R, rs, l, many_lift O l lx (chkHs_T h5) hn, q⟩
        · match hs', h5, h6, hn with
          | [], _, h6, _ => cases h6
          | [hd], h5, _, hn =>
            match es, h5 with
            | [e], h5 =>
              rw [chkHs, Bool.and_eq_true] at h5
              obtain ⟨x, np, n, b, su, p', e1, e2, g2, g3, g4, g5⟩ := chkH_inv h5.1
              rcases g5 with ⟨z, _⟩ | ⟨i, y, e4, e5, g6, g7⟩
              · exact absurd (show ([hd].all fun h => h.i.isNone) = true by rw [List.all_cons, z]; rfl) hn
              · subst e1 e2 e5
                refine psI (ps_try_as (i := i) hs hf (by rw [O.N]; exact O.nd) (by rw [O.N]; exact g6) (by show X.env.scope.names.lookup y = _; rw [O.sc]; exact g7) (glob_nm O g2 g3) tk hbody (fun a oe cls d pn hz hf => su_ok O hk g4 a oe cls d pn hz hf)) fun K σ H q => ?_
                obtain ⟨w, M, sd, Kd, Ed, R, rs, l, lx, q⟩ := q
                refine ⟨w, M, sd, Kd, _, R, rs, l, fun w' M' H' sd' σ' x cls dd s' R' rs' r q => ?_, q⟩
                obtain ⟨q1, q⟩ := q
                have ec : cls = .ref (P.cls x.cls) := r.1
                subst ec
                refine ⟨xsub x.cls hd.T, ((O.xs _ (List.elem_iff.mp g3)).2.2.2 _ q1).2, fun hb a _ => ?_, fun hb => ?_⟩
                · rw [if_pos hb] at q
                  exact su_liftA O R' rs' (l.on s') r q1 e4 a q
                · rw [if_neg (by rw [hb]; decide)] at q
                  exact lx w' M' H' sd' σ' x _ dd s' R' rs' r q
            | [], h5 => cases h5
            | _ :: _ :: _, h5 =>
              rw [chkHs, Bool.and_eq_true] at h5
              cases h5.2
          | a :: b :: r, _, h6, hn => exact absurd h6 hn
      exact one
    · cases h
theorem sBs {xs : List Str} (O : EnvOk X P C Φ κ) (hk : C.sc.kind = .function) (tk : Takes X W) (hp : PassesOwn (model X.prog X.w) X.A X.env X.xe) (hs : X.stack = X.env :: X.outer) (hf : X.env.frame = some X.env.locals) : ∀ {bs : List TBk} {ss : List Stmt}, chkBs C xs bs ss = true → PSs X ss (liS P W (rBs Φ κ xs bs))
  | [], [], _ => by
    refine pssI pss_nil fun K σ H q => ?_
    obtain ⟨w, M, sd, Kd, Ed, R, rs, l, lx, q⟩ := q
    exact l.nx w M H sd σ (.refl _ _) R rs q
  | b :: bs, s :: ss, h => by
    rw [chkBs, Bool.and_eq_true] at h
    exact pssL_cons (r := rB Φ κ xs b) (r2 := rBs Φ κ xs bs) (sB O hk tk hp hs hf h.1) (sBs O hk tk hp hs hf h.2)
  | [], _ :: _, h => by cases h
  | _ :: _, [], h => by cases h
theorem BodyOk.blocks {xs : List Str} {bs : List TBk} {ss : List Stmt} (h : chkBs C xs bs ss = true) : BodyOk P C Φ κ ss (rBs Φ κ xs bs) := fun _ _ O hk tk hp hs hf => sBs O hk tk hp hs hf h
end
def RdOkB (Φ : Nat → SpD) (κ : Nat → D) (xs : List Str) (c : List TBk) (n : Nat) (sp : SpD) : Prop := ∀ ds M Q E, MOk M → RLts M.length ds → sp ds M Q E → rBs Φ κ xs c (fun x _ M => E x M) (endsD M.length Q) (startD n ds) M
section
variable {Φ : Nat → SpD} {κ : Nat → D} {xs : List Str} {EE : EXS} {K : EndsD} {σ : Std} {M : Md}
/-- what is left of a def's blocks -/
def nxb (Φ : Nat → SpD) (κ : Nat → D) (xs : List Str) (r : List TBk) (E : EXS) (K : EndsD) : Std → Md → Prop := rBs Φ κ xs r E K
theorem nxb_nil : nxb Φ κ xs [] EE K σ M = K.nx σ M := rfl
theorem nxb_one {s : CS} {r : List TBk} : nxb Φ κ xs (.one s :: r) EE K σ M = nxt Φ κ (.cons s .nil) EE ⟨nxb Φ κ xs r EE K, K.rt, K.bk, K.ct⟩ σ M := rfl
theorem nxb_tr {body : CSs} {hs : List Hd} {r : List TBk} : nxb Φ κ xs (.tr body hs :: r) EE K σ M = nxt Φ κ body (hdsR Φ xs EE ⟨nxb Φ κ xs r EE K, K.rt, K.bk, K.ct⟩ hs) ⟨nxb Φ κ xs r EE K, K.rt, K.bk, K.ct⟩ σ M := rfl
theorem hdsR_nil {x : XD} : hdsR Φ xs EE K [] x σ M = EE x σ M := rfl
theorem hdsR_cons {T : Str} {i : Option Nat} {su : CSs} {r : List Hd} {x : XD} : hdsR Φ xs EE K (⟨T, i, su⟩ :: r) x σ M = (x.cls ∈ xs ∧ if xsub x.cls T = true then (∀ a o, suR Φ ⟨T, i, su⟩ (x.held a (some o)) K σ M) else hdsR Φ xs EE K r x σ M) := rfl
theorem suR_as {T : Str} {i : Nat} {su : CSs} {d : D} : suR Φ ⟨T, some i, su⟩ d K σ M = nxt Φ (fun _ => d) su (fun _ _ _ => False) ⟨fun σ M => K.nx (σ.set i none) M, K.rt, fun σ M => K.bk (σ.set i none) M, fun σ M => K.ct (σ.set i none) M⟩ (σ.set i (some d)) M := rfl
theorem suR_no {T : Str} {su : CSs} {d : D} : suR Φ ⟨T, none, su⟩ d K σ M = nxt Φ (fun _ => d) su (fun _ _ _ => False) K σ M := rfl
theorem held_0 {c : Str} {a : Addr} {o : Option Addr} : XD.held ⟨c, none⟩ a o = .exc a none c [] [] := rfl
theorem held_1 {c : Str} {fs : List (Str × D)} {a : Addr} {o : Option Addr} : XD.held ⟨c, some fs⟩ a o = .exc a o c (fs.map (·.1)) (fs.map (·.2)) := rfl
end
theorem xok_of {Pg : Program} {w : World} {K : PySem.W.Frag} {mg : Str → Option Value} {base : Heap} {P : Pm} {XC : XCtx} {k : Nat} (hk : 2 ≤ k) (hP : ∀ c, P.cls c = He.ga K c) (h0 : XC.hot = false)
    (hs : ∀ c ∈ XC.xs, mg c = some (.ref (He.ga K c)) ∧ cstB K (c, .exc 0 none "s" XC.xs []) = true)
    (hr : ∀ c ∈ XC.xr, mg c = some (.ref (He.ga K c)) ∧ cstB K (c, .exc 0 none "r" [] []) = true)
    (hi : ∀ q ∈ XC.xi, mg q.1 = some (.ref (He.ga K q.1)) ∧ cstB K (q.1, .exc 0 none "i" [] []) = true ∧ ∃ fd, FnOk Pg w K mg base (L2.CX Pg w) 1 (He.fAd K (q.1, some "__init__")) fd ("self" :: q.2) (initSp (He.ga K q.1) q.2) ∧ Binds K fd ("self" :: q.2) [])
    (hf : ∀ q ∈ XC.xf, q.1 ∈ XC.xs ∧ cstB K (q.1, .exc 0 none "f" [q.2] []) = true)
    (hd : ∀ q ∈ XC.kd, ∃ a es n, mg q.1 = some (.ref a) ∧ KDict K w a es n ∧ TabV K a q.2) : XOk Pg w K mg base P XC k := by
  refine ⟨h0, fun T hT => ?_, fun c hc => ?_, fun q hq => ?_, fun q hq => ?_, hd⟩
  · obtain ⟨h1, h2⟩ := hs T hT
    obtain ⟨a1, a2, _⟩ := xs_ok h2
    rw [hP]
    refine ⟨h1, a1, a2, fun c hc => ?_⟩
    rw [hP]
    obtain ⟨_, _, b3⟩ := xs_ok (hs c hc).2
    exact b3 T hT
  · obtain ⟨h1, h2⟩ := hr c hc
    rw [hP]
    exact ⟨h1, xr_ok h2⟩
  · obtain ⟨h1, h2, fd, h3, h4⟩ := hi q hq
    obtain ⟨a1, a2, a3⟩ := xi_ok h2
    rw [hP]
    exact ⟨h1, a1, 1, _, fd, by omega, a2, a3, h3, h4⟩
  · obtain ⟨h1, h2⟩ := hf q hq
    rw [hP]
    exact ⟨h1, xf_ok h2 _ (List.mem_singleton.mpr rfl)⟩
end DL
namespace DL
open PySem L2
local macro_rules | `(tactic| walk_at "rd") => `(tactic| simp only [nxt_nil, rSs_nil, rSs_cons, rSs_one, rS_set, rS_setT, rS_setIx, rS_expr, rS_ret, rS_retN, rS_pass, rS_brk, rS_cont, rS_ifs, rS_fors, rS_enums, enumQ_tup, rS_whil,
  rE_var, rE_int, rE_str, rE_bl, rE_non, rE_glob, rE_bin, rE_neg, negD_int, rE_not, rE_and, rE_or, rE_cmp, rE_chain, rE_ife, rE_tup, rE_lst, rE_lstM, rE_idx, rE_slc, rE_call, rE_blt, rE_mth, rE_calln, fnQ_ref, capsD_nil, capsD_cons, capQ_some, rE_comp, rE_compM, rE_dnew, rE_dnewT, rE_dlit, rE_dget, rE_listRg, rE_listRgM, lrQM_int, rS_setP, rS_setTF, tupQ_tup, setTFd_nil, setTFd_cons, rS_aug, rS_augF, isRef_ref, addI_int, rS_raise, rS_raiseI, rE_xis, rT_xis, rE_gin, rT_gin, rE_gidx, ginD_str, gidxD_str, gidxO_some, rE_xfld, xheld_eq, xhQ_at, xdct_some, lkQ_hd, lkQ_tl, xsub_V, xsub_F, xsub_self, xsub_ne, nxb_nil, nxb_one, nxb_tr, hdsR_nil, hdsR_cons, suR_as, suR_no, held_0, held_1, List.zip_cons_cons, List.zip_nil_left, List.reverse_cons, List.reverse_nil, rE_callK, rE_makeK, rE_makeKS, rE_methK, Sc_non, Sc_bl, Sc_int, Sc_str, lrQ_int, rE_fld, rE_make, rE_makeS, rE_meth, objD_obj, rT_meth, rS_setFld,
  rds_nil, rds_cons, rdo_none, rdo_some, intO_int, rdt_none, rdt_some, rdi_seq, rdi_chars, chrQ_str, walkD_tup, walkD_lst, rdi_rng1, rngQ_int, rdi_rng2, rngQ2_int,
  rT_not, rT_and, rT_or, rT_cmp, rT_chain, rT_var, rT_glob, rT_bl, rT_bin, rT_idx, rT_fld, rT_slc, rT_call, rT_blt, rT_mth, rT_comp,
  opD_add, opD_adds, opD_addt, opD_addl, opD_catl, opD_sub, opD_mul, opD_muls, opD_fdiv, opD_fdivW, opD_mod, opD_pow, opD_band,
  cp_lt, cp_le, cp_gt, cp_ge, cp_eq, cp_eqs, cp_eqb, cp_eqn, cp_eqni, cp_eqin, cp_ne, cp_nes, cp_neb, cp_nen, cp_neni, cp_nein, cp_isN, cp_notN, cp_isB, cp_notB, isNon_non, isNon_int, isNon_bl, isNon_str, isNon_tup, isNon_lst, isNon_ref,
  tru_non, tru_bl, tru_int, tru_str, tru_tup, tru_lst, ix_tup', ix_lst', ix_scr, atQ_0, atQ_1, atQ_2, atQ_3, atQ_4, atQ_m1,
  bt_len_str, bt_len_tup, bt_len_lst, bt_len_scr, bt_list_tup, bt_list_lst, bt_listM_tup, bt_listM_lst, bt_tuple_tup, bt_tuple_lst, bt_max2, bt_min2, bt_int_int, bt_int_bl, bt_sorted_lst, srt_dct, bt_ord', bt_str',
  isi_non, isi_bl, isi_int, isi_str, isi_tup, isi_lst, isiQ_eq kit_bb, isiQ_eq kit_bi, isiQ_eq kit_bs, isiQ_eq kit_bt, isiQ_eq kit_bl, isiQ_eq kit_ib, isiQ_eq kit_ii, isiQ_eq kit_is, isiQ_eq kit_it, isiQ_eq kit_il, isiQ_eq kit_sb, isiQ_eq kit_si, isiQ_eq kit_ss, isiQ_eq kit_st, isiQ_eq kit_sl,
  isiQ_eq kit_tb, isiQ_eq kit_ti, isiQ_eq kit_ts, isiQ_eq kit_tt, isiQ_eq kit_tl, isiQ_eq kit_lb, isiQ_eq kit_li, isiQ_eq kit_ls, isiQ_eq kit_lt, isiQ_eq kit_ll, isiQ_eq kit_nb, isiQ_eq kit_ni, isiQ_eq kit_ns, isiQ_eq kit_nt, isiQ_eq kit_nl,
  sl_tup', sl_lst', sl_str', asg_nm, asg_tp, setAll_cons, setAll_nil, startD, endsD_nx, endsD_rt,
  List.map_cons, List.map_nil, List.length_cons, List.length_nil, List.replicate_succ, List.replicate_zero, List.cons_append, List.nil_append, List.set_cons_zero, List.set_cons_succ, List.getElem?_cons_zero, List.getElem?_cons_succ,
  Nat.reduceAdd, Nat.reduceSub, Nat.zero_add, Int.reduceNeg, Int.reduceToNat, Int.reducePow, if_true, if_false, Bool.false_eq_true, Bool.true_eq_false, Bool.not_true, Bool.not_false, Bool.not_eq_eq_eq_not, ix_R, ixR_lst, ixR_dct, tru_R, truR_lst, walk_R, walk_scr, seqQ_some, optQ_some, intsQ_some, blsQ_some, strQ_some, seqR_lst, len_R, list_R, listM_R, tuple_R, list_scr, tuple_scr, sorted_R, sortedM_lst, sortedM_R, sum_lst, any_lst, all_lst, tyR_lst, isi_R, isi_scr, sx_R, sxR_lst, sxR_dct, ixN_0, ixN_1, ixN_m1,
  mtKa, mtKe, mtKp, mtKpa, mtKi, mtKr, Option.isSome_some, app_R, addR, catR, seqOf_R, lstOf_R, at_new0, at_new, set_new0, set_new, len_set, List.length_append, List.append_assoc, set_snoc, emp_snoc, emp_cons, emp_nil, wipe_nil, wipe_cons, sz0, sz1, sz2, sz3, sz4, sz5, sz6, decide_eq_true_eq, decide_true, decide_false, true_and, and_true])
local macro_rules | `(tactic| walk_at "rd2") => `(tactic| simp (decide := true) only [setM_cons, setM_nil, rS_ifsN, rS_forsN, rS_enumsN, enumQ_tup, rS_whilN, nxt_nil, rSs_nil, rSs_cons, rSs_one, rS_set, rS_setT, rS_setIx, rS_expr, rS_ret, rS_retN, rS_pass, rS_brk, rS_cont, 
  rE_var, rE_int, rE_str, rE_bl, rE_non, rE_glob, rE_bin, rE_neg, negD_int, rE_not, rE_and, rE_or, rE_cmp, rE_chain, rE_ife, rE_tup, rE_lst, rE_lstM, rE_idx, rE_slc, rE_call, rE_blt, rE_mth, rE_calln, fnQ_ref, capsD_nil, capsD_cons, capQ_some, rE_comp, rE_compM, rE_dnew, rE_dnewT, rE_dlit, rE_dget, rE_listRg, rE_listRgM, lrQM_int, rS_setP, rS_setTF, tupQ_tup, setTFd_nil, setTFd_cons, rS_aug, rS_augF, isRef_ref, addI_int, rS_raise, rS_raiseI, rE_xis, rT_xis, rE_gin, rT_gin, rE_gidx, ginD_str, gidxD_str, gidxO_some, rE_xfld, xheld_eq, xhQ_at, xdct_some, lkQ_hd, lkQ_tl, xsub_V, xsub_F, xsub_self, xsub_ne, nxb_nil, nxb_one, nxb_tr, hdsR_nil, hdsR_cons, suR_as, suR_no, held_0, held_1, List.zip_cons_cons, List.zip_nil_left, List.reverse_cons, List.reverse_nil, rE_callK, rE_makeK, rE_makeKS, rE_methK, Sc_non, Sc_bl, Sc_int, Sc_str, lrQ_int, rE_fld, rE_make, rE_makeS, rE_meth, objD_obj, rT_meth, fldD_R, fldR_ins, lookQ_hd, lookQ_tl, setFD_R, setFR_ins, putFD_nil, putFD_hd, putFD_tl, fld_obj, objQ_hd, objQ_tl, rS_setFld,
  rds_nil, rds_cons, rdo_none, rdo_some, intO_int, rdt_none, rdt_some, rdi_seq, rdi_chars, chrQ_str, walkD_tup, walkD_lst, rdi_rng1, rngQ_int, rdi_rng2, rngQ2_int,
  rT_not, rT_and, rT_or, rT_cmp, rT_chain, rT_var, rT_glob, rT_bl, rT_bin, rT_idx, rT_fld, rT_slc, rT_call, rT_blt, rT_mth, rT_comp,
  opD_add, opD_adds, opD_addt, opD_addl, opD_catl, opD_sub, opD_mul, opD_muls, opD_fdiv, opD_fdivW, opD_mod, opD_pow, opD_band,
  cp_lt, cp_le, cp_gt, cp_ge, cp_eq, cp_eqs, cp_eqb, cp_eqn, cp_eqni, cp_eqin, cp_ne, cp_nes, cp_neb, cp_nen, cp_neni, cp_nein, cp_isN, cp_notN, cp_isB, cp_notB, isNon_non, isNon_int, isNon_bl, isNon_str, isNon_tup, isNon_lst, isNon_ref,
  tru_non, tru_bl, tru_int, tru_str, tru_tup, tru_lst, ix_tup', ix_lst', ix_scr, atQ_0, atQ_1, atQ_2, atQ_3, atQ_4, atQ_m1,
  bt_len_str, bt_len_tup, bt_len_lst, bt_len_scr, bt_list_tup, bt_list_lst, bt_listM_tup, bt_listM_lst, bt_tuple_tup, bt_tuple_lst, bt_max2, bt_min2, bt_int_int, bt_int_bl, bt_sorted_lst, srt_dct, bt_ord', bt_str',
  isi_non, isi_bl, isi_int, isi_str, isi_tup, isi_lst, isiQ_eq kit_bb, isiQ_eq kit_bi, isiQ_eq kit_bs, isiQ_eq kit_bt, isiQ_eq kit_bl, isiQ_eq kit_ib, isiQ_eq kit_ii, isiQ_eq kit_is, isiQ_eq kit_it, isiQ_eq kit_il, isiQ_eq kit_sb, isiQ_eq kit_si, isiQ_eq kit_ss, isiQ_eq kit_st, isiQ_eq kit_sl,
  isiQ_eq kit_tb, isiQ_eq kit_ti, isiQ_eq kit_ts, isiQ_eq kit_tt, isiQ_eq kit_tl, isiQ_eq kit_lb, isiQ_eq kit_li, isiQ_eq kit_ls, isiQ_eq kit_lt, isiQ_eq kit_ll, isiQ_eq kit_nb, isiQ_eq kit_ni, isiQ_eq kit_ns, isiQ_eq kit_nt, isiQ_eq kit_nl,
  sl_tup', sl_lst', sl_str', asg_nm, asg_tp, setAll_cons, setAll_nil, startD, endsD_nx, endsD_rt,
  List.map_cons, List.map_nil, List.length_cons, List.length_nil, List.replicate_succ, List.replicate_zero, List.cons_append, List.nil_append, List.set_cons_zero, List.set_cons_succ, List.getElem?_cons_zero, List.getElem?_cons_succ,
  Nat.reduceAdd, Nat.reduceSub, Nat.zero_add, Int.reduceNeg, Int.reduceToNat, Int.reducePow, if_true, if_false, Bool.false_eq_true, Bool.true_eq_false, Bool.not_true, Bool.not_false, Bool.not_eq_eq_eq_not, ix_R, ixR_lst, ixR_dct, ixR_dctT, cp_inn_R, cp_nin_R, inR_dct, inR_dctT, keyD_non, keyD_int, keyD_str, tru_R, truR_lst, walk_R, walk_scr, seqQ_some, optQ_some, intsQ_some, blsQ_some, strQ_some, seqR_lst, len_R, list_R, listM_R, tuple_R, list_scr, tuple_scr, sorted_R, sortedM_lst, sortedM_R, sum_lst, any_lst, all_lst, tyR_lst, isi_R, isi_scr, sx_R, sxR_lst, sxR_dct, sxR_dctT, ixN_0, ixN_1, ixN_m1,
  mtKa, mtKe, mtKp, mtKpa, mtKi, mtKr, mtKx, mtKxl, idx_eq, rev_R, cp_inn2, Bool.or_false, Bool.false_or, Bool.or_true, Bool.true_or, ext_RR, pop_RR, lstOf_lst, seqOf_lst, seqOf_tup, Option.isSome_some, app_R, addR, catR, seqOf_R, lstOf_R, at_new0, at_new, set_new0, set_new, len_set, List.length_append, List.append_assoc, set_snoc, emp_snoc, emp_cons, emp_nil, wipe_nil, wipe_cons, sz0, sz1, sz2, sz3, sz4, sz5, sz6, decide_eq_true_eq, decide_true, decide_false, true_and, and_true])
local macro_rules | `(tactic| walk_at "sz") => `(tactic| first | exact trivial | omega | (simp only [size_eq, tx_len, List.length_map, List.length_cons, List.length_nil, List.length_append, List.length_replicate, List.length_range, List.length_reverse, List.length_set, List.length_take, List.length_drop] <;> omega))
local macro_rules | `(tactic| walk_at "go") => `(tactic| ((try walk_at "rd2"); (first | (with_reducible refine nxt_of ?_; walk_at "go") | ((with_reducible refine And.intro ?hs ?_); (case hs => walk_at "sz"); walk_at "go") | skip)))
def k2 : D := .tup [.tup [.int 10, .int 11], .tup [.int 13, .int 14]]
def k4 : D := .tup [.tup [.int 48, .int 58], .tup [.int 65, .int 91], .tup [.int 95, .int 96], .tup [.int 97, .int 123]]
abbrev k42 : D := .str "0123456789"
abbrev k45 : D := .int 9
def top (i : Nat) : Stmt := PySem.Challenge.pw_firstway_k89_saved_words.main.body.getD i (.Pass ⟨0, 0, 0, 0⟩)
def inCls (s : Stmt) (j : Nat) : Stmt := match s with
  | .ClassDef (body := b) .. => b.getD j (.Pass ⟨0, 0, 0, 0⟩)
  | _ => .Pass ⟨0, 0, 0, 0⟩
abbrev s1 : Stmt := top 11
def dd1 : He.DefD := ⟨("_law_row", none), "_law_row", "_law_row", defArgs s1, defBody s1, defScope s1, [], []⟩
abbrev s2 : Stmt := top 12
def dd2 : He.DefD := ⟨("_law_digit", none), "_law_digit", "_law_digit", defArgs s2, defBody s2, defScope s2, [], []⟩
abbrev s47 : Stmt := top 13
def dd47 : He.DefD := ⟨("_law_text", none), "_law_text", "_law_text", defArgs s47, defBody s47, defScope s47, [], []⟩
abbrev s446 : Stmt := top 15
def dd446 : He.DefD := ⟨("_law_word", none), "_law_word", "_law_word", defArgs s446, defBody s446, defScope s446, [], []⟩
abbrev s447 : Stmt := top 7
def dd447 : He.DefD := ⟨("write_number", none), "write_number", "write_number", defArgs s447, defBody s447, defScope s447, [], []⟩
abbrev s448 : Stmt := top 8
def dd448 : He.DefD := ⟨("write_text", none), "write_text", "write_text", defArgs s448, defBody s448, defScope s448, [], []⟩
abbrev s3 : Stmt := top 14
def dd3 : He.DefD := ⟨("_law_same", none), "_law_same", "_law_same", defArgs s3, defBody s3, defScope s3, [], []⟩
abbrev s449 : Stmt := top 16
def dd449 : He.DefD := ⟨("_law_written", none), "_law_written", "_law_written", defArgs s449, defBody s449, defScope s449, [], []⟩
abbrev s941 : Stmt := inCls (top 9) 0
def dd941 : He.DefD := ⟨("SavedReader", some "__init__"), "__init__", "SavedReader.__init__", defArgs s941, defBody s941, defScope s941, [], []⟩
abbrev s1491 : Stmt := inCls (top 9) 2
def dd1491 : He.DefD := ⟨("SavedReader", some "number_end"), "number_end", "SavedReader.number_end", defArgs s1491, defBody s1491, defScope s1491, [], []⟩
abbrev s1282 : Stmt := inCls (top 9) 3
def dd1282 : He.DefD := ⟨("SavedReader", some "take_number"), "take_number", "SavedReader.take_number", defArgs s1282, defBody s1282, defScope s1282, [], []⟩
abbrev s1283 : Stmt := inCls (top 9) 4
def dd1283 : He.DefD := ⟨("SavedReader", some "take_text"), "take_text", "SavedReader.take_text", defArgs s1283, defBody s1283, defScope s1283, [], []⟩
abbrev s1280 : Stmt := inCls (top 9) 1
def dd1280 : He.DefD := ⟨("SavedReader", some "take_head"), "take_head", "SavedReader.take_head", defArgs s1280, defBody s1280, defScope s1280, [], []⟩
abbrev s1553 : Stmt := top 17
def dd1553 : He.DefD := ⟨("_law_refused", none), "_law_refused", "_law_refused", defArgs s1553, defBody s1553, defScope s1553, [], []⟩
abbrev s1281 : Stmt := inCls (top 9) 5
def dd1281 : He.DefD := ⟨("SavedReader", some "at_end"), "at_end", "SavedReader.at_end", defArgs s1281, defBody s1281, defScope s1281, [], []⟩
abbrev s1284 : Stmt := top 18
def dd1284 : He.DefD := ⟨("_law_wrong", none), "_law_wrong", "_law_wrong", defArgs s1284, defBody s1284, defScope s1284, [], []⟩
abbrev s1492 : Stmt := top 19
def dd1492 : He.DefD := ⟨("law", none), "law", "law", defArgs s1492, defBody s1492, defScope s1492, [], []⟩
def fnL : List He.DefD := [dd1, dd2, dd47, dd446, dd447, dd448, dd3, dd449, dd941, dd1491, dd1282, dd1283, dd1280, dd1553, dd1281, dd1284, dd1492]
def faL : List He.Fa := [(He.Fa.glo "_law_row"), (He.Fa.glo "_law_digit"), (He.Fa.glo "_law_text"), (He.Fa.glo "_law_word"), (He.Fa.glo "write_number"), (He.Fa.glo "write_text"), (He.Fa.glo "_law_same"), (He.Fa.glo "_law_written"), (He.Fa.glo "_law_refused"), (He.Fa.glo "_law_wrong"), (He.Fa.glo "law"), (He.Fa.meth "SavedReader" "number_end"), (He.Fa.meth "SavedReader" "take_number"), (He.Fa.meth "SavedReader" "take_text"), (He.Fa.meth "SavedReader" "take_head"), (He.Fa.meth "SavedReader" "at_end"), (He.Fa.glo "SavedReader"), (He.Fa.cls "SavedReader"), (He.Fa.noat "SavedReader" "text"), (He.Fa.noat "SavedReader" "position"), (He.Fa.mkr "SavedReader"), (He.Fa.glo "FirstwayError"), (He.Fa.glo "CountError"), (He.Fa.glo "SavedTextError"), (He.Fa.free "len"), (He.Fa.free "int"), (He.Fa.free "max"), (He.Fa.free "range"), (He.Fa.free "str"), (He.Fa.free "isinstance"), (He.Fa.free "bool"), (He.Fa.free "tuple"), (He.Fa.free "list"), (He.Fa.free "ValueError"), (He.Fa.str "DIGITS" "0123456789"), (He.Fa.int "MOST_DIGITS" 9)]
abbrev rowL : PySem.W.OpenRow := PySem.W.OpenLaw.row PySem.Challenge.rw_firstway_k89_saved_words
def csL : List (Str × D) := [(("FirstwayError", D.exc 0 none "s" ["FirstwayError", "CountError", "SavedTextError"] []) : Str × D), (("CountError", D.exc 0 none "s" ["FirstwayError", "CountError", "SavedTextError"] []) : Str × D), (("SavedTextError", D.exc 0 none "s" ["FirstwayError", "CountError", "SavedTextError"] []) : Str × D), (("SavedTextError", D.exc 0 none "r" [] []) : Str × D)]
abbrev hkL : PySem.W.Hook := hookC 6 faL fnL csL
def obL (s : PySem.W.SharedT) : He.AlD := obsCG 6 faL fnL csL (HandSHeadRun.getT s)
theorem obL_eq (s : PySem.W.SharedT) : obL s = hkL.obs s.abs := obsCG_eq (HandSHeadRun.getT_eq s)
theorem runL (w : World) : HandSHeadRun.RunEq rowL (PySem.W.view rowL.prog [19]) hkL obL 4000 ["FirstwayError", "CountError", "SavedTextError", "DIGITS", "MOST_DIGITS", "write_number", "write_text", "SavedReader", "_law_row", "_law_digit", "_law_text", "_law_same", "_law_word", "_law_written", "_law_refused", "_law_wrong"] w := by
  intro os
  kernel_rfl
def inP (ps : List (Int × Int)) (x : Int) : Bool := ps.any fun p => decide (p.1 ≤ x ∧ x < p.2)
theorem inP_nil {x : Int} : inP [] x = false := rfl
theorem inP_iff {ps : List (Int × Int)} {x : Int} : inP ps x = true ↔ ∃ p ∈ ps, p.1 ≤ x ∧ x < p.2 := by
  unfold inP
  rw [List.any_eq_true]
  constructor
  · rintro ⟨p, h1, h2⟩; exact ⟨p, h1, of_decide_eq_true h2⟩
  · rintro ⟨p, h1, h2⟩; exact ⟨p, h1, decide_eq_true h2⟩
theorem inP_cons {p : Int × Int} {ps : List (Int × Int)} {x : Int} : inP (p :: ps) x = true ↔ (p.1 ≤ x ∧ x < p.2) ∨ inP ps x = true := by
  rw [inP_iff, inP_iff]
  constructor
  · rintro ⟨q, h1, h2⟩
    rcases List.mem_cons.mp h1 with rfl | h
    · exact .inl h2
    · exact .inr ⟨q, h, h2⟩
  · rintro (h | ⟨q, h1, h2⟩)
    · exact ⟨p, List.mem_cons_self, h⟩
    · exact ⟨q, List.mem_cons_of_mem _ h1, h2⟩
theorem inP_append {ps qs : List (Int × Int)} {x : Int} : inP (ps ++ qs) x = true ↔ inP ps x = true ∨ inP qs x = true := by
  unfold inP
  rw [List.any_append, Bool.or_eq_true]
theorem inP_one {p : Int × Int} {x : Int} : inP [p] x = true ↔ p.1 ≤ x ∧ x < p.2 := by
  rw [inP_cons, inP_nil]; simp
/-- the one form -/
def Canon : List (Int × Int) → Prop
  | [] => True
  | p :: L => p.1 < p.2 ∧ (∀ q ∈ L, p.2 < q.1) ∧ Canon L
theorem Canon.lt : ∀ {L : List (Int × Int)}, Canon L → ∀ p ∈ L, p.1 < p.2
  | p :: L, h, q, hq => by
    rcases List.mem_cons.mp hq with rfl | hq
    · exact h.1
    · exact h.2.2.lt q hq
theorem Canon.snoc : ∀ {L : List (Int × Int)} {p : Int × Int}, Canon L → p.1 < p.2 → (∀ q ∈ L, q.2 < p.1) → Canon (L ++ [p])
  | [], p, _, h, _ => ⟨h, fun _ hq => by simp at hq, trivial⟩
  | r :: L, p, hc, h, hl => ⟨hc.1, fun q hq => by
      rcases List.mem_append.mp hq with hq | hq
      · exact hc.2.1 q hq
      · rw [List.mem_singleton.mp hq]; exact hl r List.mem_cons_self, Canon.snoc hc.2.2 h fun q hq => hl q (List.mem_cons_of_mem _ hq)⟩
theorem Canon.init : ∀ {L : List (Int × Int)} {p : Int × Int}, Canon (L ++ [p]) → Canon L ∧ p.1 < p.2 ∧ ∀ q ∈ L, q.2 < p.1
  | [], p, h => ⟨trivial, h.1, fun _ hq => by cases hq⟩
  | r :: L, p, h => by
    obtain ⟨h1, h2, h3⟩ := Canon.init (L := L) h.2.2
    refine ⟨⟨h.1, fun q hq => h.2.1 q (List.mem_append_left _ hq), h1⟩, h2, fun q hq => ?_⟩
    rcases List.mem_cons.mp hq with rfl | hq
    · exact h.2.1 p (List.mem_append_right _ List.mem_cons_self)
    · exact h3 q hq
def c3_9 : CSs := .cons (.ret (.cmp .isN (.var 0) .non)) .nil
def c3_10 : CSs := .cons (.ret (.and (.blt (.isi "bool") (.cons (.var 0) .nil)) (.cmp .eq (.var 0) (.var 1)))) .nil
def c3_11 : CSs := .cons (.ret (.and (.blt (.isi "int") (.cons (.var 0) .nil)) (.and (.not (.blt (.isi "bool") (.cons (.var 0) .nil))) (.cmp .eq (.var 0) (.var 1))))) .nil
def c3_12 : CSs := .cons (.ret (.and (.blt (.isi "str") (.cons (.var 0) .nil)) (.cmp .eq (.var 0) (.var 1)))) .nil
def c3_13 : CSs := .cons (.ret (.bl false)) .nil
def c3_14 : CSs := .cons (.ret (.bl false)) .nil
def c3_15 : CSs := .cons (.ret (.bl false)) .nil
def c3_17 : CSs := .cons (.ret (.bl false)) .nil
def c3_16 : CSs := .cons (.ifs (.not (.call 3 (.cons (.idx (.var 0) (.var 2)) (.cons (.idx (.var 1) (.var 2)) .nil)))) c3_17 .nil) .nil
def c3_8 : CSs := .cons (.ret (.bl true)) .nil
def c3_7 : CSs := .cons (.fors (.nm 2) (.rng1 (.blt .len (.cons (.var 1) .nil))) c3_16) c3_8
def c3_6 : CSs := .cons (.ifs (.cmp .ne (.blt .len (.cons (.var 0) .nil)) (.blt .len (.cons (.var 1) .nil))) c3_15 .nil) c3_7
def c3_5 : CSs := .cons (.ifs (.and (.blt (.isi "list") (.cons (.var 1) .nil)) (.not (.blt (.isi "list") (.cons (.var 0) .nil)))) c3_14 .nil) c3_6
def c3_4 : CSs := .cons (.ifs (.and (.blt (.isi "tuple") (.cons (.var 1) .nil)) (.not (.blt (.isi "tuple") (.cons (.var 0) .nil)))) c3_13 .nil) c3_5
def c3_3 : CSs := .cons (.ifs (.blt (.isi "str") (.cons (.var 1) .nil)) c3_12 .nil) c3_4
def c3_2 : CSs := .cons (.ifs (.blt (.isi "int") (.cons (.var 1) .nil)) c3_11 .nil) c3_3
def c3_1 : CSs := .cons (.ifs (.blt (.isi "bool") (.cons (.var 1) .nil)) c3_10 .nil) c3_2
def c3 : CSs := .cons (.ifs (.cmp .isN (.var 1) .non) c3_9 .nil) c3_1
/-- the same, n deep at most -/
def Eqv (M : Md) : Nat → D → D → Prop
  | 0, _, _ => False
  | n + 1, a, e => (a = .non ∧ e = .non) ∨ (∃ b, a = .bl b ∧ e = .bl b) ∨ (∃ i, a = .int i ∧ e = .int i) ∨ (∃ s : Str, s.length ≤ sizeLine ∧ a = .str s ∧ e = .str s) ∨
    (∃ xs ys, a = .tup xs ∧ e = .tup ys ∧ xs.length = ys.length ∧ ys.length < 2 ^ 62 ∧ ∀ (i : Nat) x y, xs[i]? = some x → ys[i]? = some y → Eqv M n x y) ∨
    (∃ xs ys, lstOf a M = some xs ∧ lstOf e M = some ys ∧ xs.length = ys.length ∧ ys.length < 2 ^ 62 ∧ ∀ (i : Nat) x y, xs[i]? = some x → ys[i]? = some y → Eqv M n x y)
def sp3 (n : Nat) : SpD := fun ds M Q _ => ∃ a e, ds = [a, e] ∧ Eqv M n a e ∧ Q (.bl true) M
theorem ln3 (n : Nat) : ∀ ds M Q E, sp3 n ds M Q E → ds.length = 2 := by
  rintro _ _ _ _ ⟨_, _, rfl, _⟩; rfl
theorem z3 : ∀ ds M Q E, sp3 0 ds M Q E → False := by
  rintro _ _ _ _ ⟨_, _, _, h, _⟩; exact h
theorem rd3 {Φ : Nat → SpD} {κ : Nat → D} {n : Nat} (h3 : Φ 3 = sp3 n) : RdOk Φ κ c3 3 (sp3 (n + 1)) := by
  rintro ds M Q E hM hd ⟨a, e, rfl, hv, hQ⟩
  have lp : ∀ (xs ys : List D) (get : ∀ (i : Nat), i < xs.length → i < ys.length → ∀ Q : QE, (∀ x y, xs[i]? = some x → ys[i]? = some y → Q x M) → ixD a (.int i) M Q) (get2 : ∀ (i : Nat), i < ys.length → ∀ Q : QE, (∀ y, ys[i]? = some y → Q y M) → ixD e (.int i) M Q)
      (ll : btD .len [e] M = fun Q => Q (.int ys.length) M), xs.length = ys.length → ys.length < 2 ^ 62 → (∀ (i : Nat) x y, xs[i]? = some x → ys[i]? = some y → Eqv M n x y) →
      At Φ κ E M.length Q c3_7 [some a, some e, none] M := by
    intro xs ys get get2 ll hlen hsz hxy
    rw [At, nxt_eq, c3_7]; walk_at "rd"
    rw [ll]; walk_at "rd"
    refine ⟨by omega, by omega, ?_⟩
    refine loop_to (fun _ σ M' => M' = M ∧ ∃ x, σ = [some a, some e, x]) (by omega) ⟨rfl, _, rfl⟩ ?_ ?_
    · rintro j σ M' nx hj hj2 ⟨rfl, x, rfl⟩ hn
      obtain ⟨i, rfl⟩ : ∃ i : Nat, j = i := ⟨j.toNat, by omega⟩
      walk_at "rd"
      rw [c3_16]; walk_at "rd"
      refine get i (by omega) (by omega) _ fun x y hx hy => ?_
      refine get2 i (by omega) _ fun y' hy' => ?_
      rw [hy] at hy'; cases hy'
      rw [h3]
      refine ⟨x, y, rfl, hxy i x y hx hy, ?_⟩
      walk_at "rd"
      exact hn _ _ ⟨rfl, _, rfl⟩
    · rintro σ M' ⟨rfl, x, rfl⟩
      dsimp only; rw [nxt_eq, c3_8]; walk_at "rd"
      exact .keep hQ
  rcases hv with ⟨rfl, rfl⟩ | ⟨b, rfl, rfl⟩ | ⟨i, rfl, rfl⟩ | ⟨s, hs, rfl, rfl⟩ | ⟨xs, ys, rfl, rfl, hlen, hsz, hxy⟩ | ⟨xs, ys, ha, he, hlen, hsz, hxy⟩
  · rw [c3]; walk_at "rd"
    rw [c3_9]; walk_at "rd"
    exact .keep hQ
  · rw [c3]; walk_at "rd"
    rw [nxt_eq, c3_1]; walk_at "rd"
    rw [c3_10]; walk_at "rd"
    exact .keep hQ
  · rw [c3]; walk_at "rd"
    rw [nxt_eq, c3_1]; walk_at "rd"
    rw [nxt_eq, c3_2]; walk_at "rd"
    rw [c3_11]; walk_at "rd"
    exact .keep hQ
  · rw [c3]; walk_at "rd"
    rw [nxt_eq, c3_1]; walk_at "rd"
    rw [nxt_eq, c3_2]; walk_at "rd"
    rw [nxt_eq, c3_3]; walk_at "rd"
    rw [c3_12]; walk_at "rd"
    exact .keep hQ
  · rw [c3]; walk_at "rd"
    rw [nxt_eq, c3_1]; walk_at "rd"
    rw [nxt_eq, c3_2]; walk_at "rd"
    rw [nxt_eq, c3_3]; walk_at "rd"
    rw [nxt_eq, c3_4]; walk_at "rd"
    rw [nxt_eq, c3_5]; walk_at "rd"
    rw [nxt_eq, c3_6]; walk_at "rd"
    rw [hlen]; walk_at "rd"
    refine lp xs ys ?_ ?_ rfl hlen hsz hxy
    · intro i h1 h2 Q hq
      rw [ix_tup', atQ_some (atI_nat (List.getElem?_eq_getElem h1))]
      exact hq _ _ (List.getElem?_eq_getElem h1) (List.getElem?_eq_getElem h2)
    · intro i h2 Q hq
      rw [ix_tup', atQ_some (atI_nat (List.getElem?_eq_getElem h2))]
      exact hq _ (List.getElem?_eq_getElem h2)
  · rw [c3]; walk_at "rd"; rw [isNon_l he]; walk_at "rd"
    rw [nxt_eq, c3_1]; walk_at "rd"; rw [isi_l he]; walk_at "rd"
    rw [nxt_eq, c3_2]; walk_at "rd"; rw [isi_l he]; walk_at "rd"
    rw [nxt_eq, c3_3]; walk_at "rd"; rw [isi_l he]; walk_at "rd"
    rw [nxt_eq, c3_4]; walk_at "rd"; rw [isi_l he]; walk_at "rd"
    rw [nxt_eq, c3_5]; walk_at "rd"; rw [isi_l he]; walk_at "rd"; rw [isi_l ha]; walk_at "rd"
    rw [nxt_eq, c3_6]; walk_at "rd"
    rw [len_l ha, len_l he, hlen]; walk_at "rd"
    refine lp xs ys ?_ ?_ (by funext Q; rw [len_l he]) hlen hsz hxy
    · intro i h1 h2 Q hq
      rw [ix_l ha, atQ_some (atI_nat (List.getElem?_eq_getElem h1))]
      exact hq _ _ (List.getElem?_eq_getElem h1) (List.getElem?_eq_getElem h2)
    · intro i h2 Q hq
      rw [ix_l he, atQ_some (atI_nat (List.getElem?_eq_getElem h2))]
      exact hq _ (List.getElem?_eq_getElem h2)
/-- plain data, n deep at most -/
def Plain : Nat → D → Prop
  | 0, _ => False
  | _ + 1, .non => True
  | _ + 1, .bl _ => True
  | _ + 1, .int _ => True
  | _ + 1, .str s => s.length ≤ sizeLine
  | n + 1, .tup ds => ds.length < 2 ^ 62 ∧ ∀ d ∈ ds, Plain n d
  | n + 1, .lst ds => ds.length < 2 ^ 62 ∧ ∀ d ∈ ds, Plain n d
  | _ + 1, _ => False
theorem eqv_refl {M : Md} : ∀ {n : Nat} {d : D}, Plain n d → Eqv M n d d
  | 0, _, h => h.elim
  | n + 1, .non, h => .inl ⟨rfl, rfl⟩
  | n + 1, .bl b, h => .inr (.inl ⟨b, rfl, rfl⟩)
  | n + 1, .int b, h => .inr (.inr (.inl ⟨b, rfl, rfl⟩))
  | n + 1, .str b, h => .inr (.inr (.inr (.inl ⟨b, h, rfl, rfl⟩)))
  | n + 1, .tup ds, h => .inr (.inr (.inr (.inr (.inl ⟨ds, ds, rfl, rfl, rfl, h.1, fun i x y hx hy => by
      rw [hx] at hy; cases hy
      exact eqv_refl (h.2 x (List.mem_of_getElem? hx))⟩))))
  | n + 1, .lst ds, h => .inr (.inr (.inr (.inr (.inr ⟨ds, ds, rfl, rfl, rfl, h.1, fun i x y hx hy => by
      rw [hx] at hy; cases hy
      exact eqv_refl (h.2 x (List.mem_of_getElem? hx))⟩))))
  | n + 1, .scr _, h => h.elim
  | n + 1, .ref _, h => h.elim
def c1_6 : CSs := .cons (.set 2 (.idx (.var 0) (.var 1))) .nil
def c1_7 : CSs := .cons (.set 2 (.bin .sub (.int 1) (.bin .mul (.int 2) (.var 2)))) .nil
def c1_8 : CSs := .cons (.ret (.var 2)) .nil
def c1_5 : CSs := .cons (.ret (.bin .mod (.blt .int (.cons (.bin .add (.bin .add (.bin .mul (.var 3) (.var 3)) (.bin .mul (.int 104729) (.var 1))) (.int 977)) .nil)) (.int 2305843009213693951))) .nil
def c1_4 : CSs := .cons (.set 3 (.bin .mod (.blt .int (.cons (.bin .add (.bin .mul (.bin .add (.bin .add (.var 2) (.bin .mul (.int 7919) (.var 1))) (.int 1)) (.int 6364136223846793005)) (.int 1442695040888963407)) .nil)) (.int 2305843009213693951))) c1_5
def c1_3 : CSs := .cons (.ifs (.cmp .ge (.var 2) (.bin .pow (.int 10) (.int 9))) c1_8 .nil) c1_4
def c1_2 : CSs := .cons (.ifs (.cmp .lt (.var 2) (.int 0)) c1_7 .nil) c1_3
def c1_1 : CSs := .cons (.ifs (.cmp .lt (.var 1) (.blt .len (.cons (.var 0) .nil))) c1_6 .nil) c1_2
def c1 : CSs := .cons (.set 2 (.int 0)) c1_1
def sp1 : SpD := fun ds M Q _ => ∃ (ns : List Int) (k : Int), ds = [.scr ns, .int k] ∧ 0 ≤ k ∧ ∀ r : Int, 0 ≤ r → Q (.int r) M
theorem ln1 : ∀ ds M Q E, sp1 ds M Q E → ds.length = 2 := by
  rintro _ _ _ _ ⟨_, _, rfl, _⟩; rfl
theorem rd1 {Φ : Nat → SpD} {κ : Nat → D} : RdOk Φ κ c1 4 sp1 := by
  rintro ds M Q E hM hd ⟨ns, k, rfl, hk, hQ⟩
  have e3 : ∀ c x, At Φ κ E M.length Q c1_3 [some (.scr ns), some (.int k), some (.int c), x] M := by
    intro c x
    rw [At, nxt_eq, c1_3]; walk_at "rd"
    refine ⟨⟨by omega, by omega, by decide⟩, ?_⟩
    split
    · rw [c1_8]; walk_at "rd"
      exact .keep (hQ _ (by omega))
    · rw [nxt_eq, c1_4]; walk_at "rd"
      refine ⟨.inl ⟨by omega, by omega⟩, .inr ⟨by omega, by omega⟩, by omega, ?_⟩
      rw [nxt_eq, c1_5]; walk_at "rd"
      refine ⟨.inl ⟨by omega, by omega⟩, .inl ⟨by omega, by omega⟩, by omega, .keep (hQ _ (by omega))⟩
  have e2 : ∀ c x, At Φ κ E M.length Q c1_2 [some (.scr ns), some (.int k), some (.int c), x] M := by
    intro c x
    rw [At, nxt_eq, c1_2]; walk_at "rd"
    split
    · rw [c1_7]; walk_at "rd"
      exact ⟨.inl ⟨by omega, by omega⟩, e3 _ _⟩
    · exact e3 _ _
  rw [c1]; walk_at "rd"
  rw [nxt_eq, c1_1]; walk_at "rd"
  split
  · next h =>
    rw [c1_6]; walk_at "rd"
    obtain ⟨j, rfl⟩ : ∃ j : Nat, k = j := ⟨k.toNat, by omega⟩
    have hj : j < ns.length := by omega
    rw [atQ_some (d := .int ns[j]) (atI_nat (by simp [hj]))]
    exact e2 _ _
  · exact e2 _ _
def c2_5 : CSs := .cons (.setIx (.var 1) (.int 1) (.bin .add (.idx (.var 1) (.int 1)) (.int 1))) .nil
def c2_4 : CSs := .cons (.setIx (.var 1) (.int 0) (.call 1 (.cons (.var 0) (.cons (.idx (.var 1) (.int 1)) .nil)))) c2_5
def c2_3 : CSs := .cons (.ret (.var 3)) .nil
def c2_2 : CSs := .cons (.setIx (.var 1) (.int 0) (.bin .fdivW (.idx (.var 1) (.int 0)) (.var 2))) c2_3
def c2_1 : CSs := .cons (.set 3 (.bin .mod (.blt .int (.cons (.idx (.var 1) (.int 0)) .nil)) (.var 2))) c2_2
def c2 : CSs := .cons (.ifs (.cmp .eq (.idx (.var 1) (.int 0)) (.int 0)) c2_4 .nil) c2_1
def c6_6 : CSs := .cons (.set 3 (.call 2 (.cons (.var 0) (.cons (.var 1) (.cons (.int 90) .nil))))) .nil
def c6_11 : CSs := .cons (.set 7 (.blt .min2 (.cons (.int 128) (.cons (.bin .add (.var 6) (.int 1)) .nil)))) .nil
def c6_13 : CSs := .cons (.set 7 (.blt .min2 (.cons (.int 128) (.cons (.bin .add (.var 6) (.bin .fdiv (.var 7) (.int 12))) .nil)))) .nil
def c6_12 : CSs := .cons (.ifs (.cmp .gt (.call 2 (.cons (.var 0) (.cons (.var 1) (.cons (.int 3) .nil)))) (.int 0)) c6_13 .nil) .nil
def c6_10 : CSs := .cons (.expr (.mth .append (.var 2) (.cons (.tup (.cons (.var 6) (.cons (.var 7) .nil))) .nil))) .nil
def c6_9 : CSs := .cons (.ifs (.var 4) c6_11 c6_12) c6_10
def c6_8 : CSs := .cons (.set 7 (.call 2 (.cons (.var 0) (.cons (.var 1) (.cons (.int 129) .nil))))) c6_9
def c6_7 : CSs := .cons (.set 6 (.call 2 (.cons (.var 0) (.cons (.var 1) (.cons (.int 129) .nil))))) c6_8
def c6_5 : CSs := .cons (.ret (.var 2)) .nil
def c6_4 : CSs := .cons (.fors (.nm 5) (.rng1 (.var 3)) c6_7) c6_5
def c6_3 : CSs := .cons (.ifs (.var 4) c6_6 .nil) c6_4
def c6_2 : CSs := .cons (.set 4 (.cmp .eq (.call 2 (.cons (.var 0) (.cons (.var 1) (.cons (.int 6) .nil)))) (.int 0))) c6_3
def c6_1 : CSs := .cons (.set 3 (.call 2 (.cons (.var 0) (.cons (.var 1) (.cons (.int 9) .nil))))) c6_2
def c6 : CSs := .cons (.set 2 (.lst true .nil)) c6_1
def c5_7 : CSs := .cons (.set 2 (.var 3)) .nil
def c5_9 : CSs := .cons (.set 2 (.neg (.int 1))) .nil
def c5_8 : CSs := .cons (.expr (.mth .append (.var 1) (.cons (.tup (.cons (.var 2) (.cons (.var 3) .nil))) .nil))) c5_9
def c5_6 : CSs := .cons (.ifs (.and (.not (.var 4)) (.cmp .ge (.var 2) (.int 0))) c5_8 .nil) .nil
def c5_5 : CSs := .cons (.ifs (.and (.var 4) (.cmp .lt (.var 2) (.int 0))) c5_7 .nil) c5_6
def c5_4 : CSs := .cons (.set 4 (.and (.cmp .lt (.var 3) (.int 128)) (.idx (.var 0) (.var 3)))) c5_5
def c5_3 : CSs := .cons (.ret (.blt .tuple (.cons (.var 1) .nil))) .nil
def c5_2 : CSs := .cons (.fors (.nm 3) (.rng1 (.int 129)) c5_4) c5_3
def c5_1 : CSs := .cons (.set 2 (.neg (.int 1))) c5_2
def c5 : CSs := .cons (.set 1 (.lst true .nil)) c5_1
/-- where the walk over the bits stands -/
structure Rg (bt : Int → Prop) (j : Int) (L : List (Int × Int)) (s : Int) : Prop where
  c : Canon L
  n : (L.length : Int) ≤ j
  l : -1 ≤ s
  u : s < j
  e : ∀ p ∈ L, p.2 < if s < 0 then j else s
  i : ∀ x, inP L x = true ↔ 0 ≤ x ∧ (x < if s < 0 then j else s) ∧ bt x
  t : ∀ x, 0 ≤ s → s ≤ x → x < j → bt x
theorem Rg.start {bt : Int → Prop} : Rg bt 0 [] (-1) := ⟨trivial, by simp, by omega, by omega, fun _ h => (by cases h), fun x => by rw [inP_nil]; simp; omega, fun x h => by omega⟩
theorem Rg.go {bt : Int → Prop} {j s : Int} {L : List (Int × Int)} (h : Rg bt j L s) (hs : ¬ s < 0) (hb : bt j) : Rg bt (j + 1) L s := by
  refine ⟨h.c, by have := h.n; omega, h.l, by have := h.u; omega, fun p hp => ?_, fun x => ?_, fun x h0 h1 h2 => ?_⟩
  · have := h.e p hp
    rw [if_neg hs] at this ⊢; exact this
  · have := h.i x
    rw [if_neg hs] at this ⊢; exact this
  · rcases Decidable.em (x < j) with z | z
    · exact h.t x h0 h1 z
    · have : x = j := by omega
      rw [this]; exact hb
def c4_3 : CSs := .cons (.ret (.bl true)) .nil
def c4_2 : CSs := .cons (.ifs (.and (.cmp .le (.idx (.var 2) (.int 0)) (.var 1)) (.cmp .lt (.var 1) (.idx (.var 2) (.int 1)))) c4_3 .nil) .nil
def c4_1 : CSs := .cons (.ret (.bl false)) .nil
def c4 : CSs := .cons (.fors (.nm 2) (.seq (.var 0)) c4_2) c4_1
def c0_5 : CSs := .cons .cont .nil
def c0_6 : CSs := .cons (.setIx (.var 1) (.neg (.int 1)) (.tup (.cons (.idx (.idx (.var 1) (.neg (.int 1))) (.int 0)) (.cons (.blt .max2 (.cons (.idx (.idx (.var 1) (.neg (.int 1))) (.int 1)) (.cons (.var 3) .nil))) .nil)))) .nil
def c0_7 : CSs := .cons (.expr (.mth .append (.var 1) (.cons (.tup (.cons (.var 2) (.cons (.var 3) .nil))) .nil))) .nil
def c0_4 : CSs := .cons (.ifs (.and (.var 1) (.cmp .le (.var 2) (.idx (.idx (.var 1) (.neg (.int 1))) (.int 1)))) c0_6 c0_7) .nil
def c0_3 : CSs := .cons (.ifs (.cmp .ge (.var 2) (.var 3)) c0_5 .nil) c0_4
def c0_2 : CSs := .cons (.ret (.blt .tuple (.cons (.var 1) .nil))) .nil
def c0_1 : CSs := .cons (.fors (.tp [2, 3]) (.seq (.blt .sorted (.cons (.var 0) .nil))) c0_3) c0_2
def c0 : CSs := .cons (.set 1 (.lst true .nil)) c0_1
/-- where make_set's walk stands -/
structure Mk (ps acc qs : List (Int × Int)) : Prop where
  c : Canon acc
  n : acc.length + qs.length ≤ ps.length
  s : qs.Pairwise fun p q => p.1 < q.1 ∨ p.1 = q.1 ∧ p.2 ≤ q.2
  l : ∀ p ∈ acc, ∀ q ∈ qs, p.1 ≤ q.1
  i : ∀ x, (inP acc x = true ∨ inP qs x = true) ↔ inP ps x = true
theorem Mk.join {ps acc qs : List (Int × Int)} {p q : Int × Int} (h : Mk ps (acc ++ [p]) (q :: qs)) (hq : q.1 < q.2) (hl : q.1 ≤ p.2) : Mk ps (acc ++ [(p.1, if q.2 > p.2 then q.2 else p.2)]) qs := by
  obtain ⟨h1, h2, h3⟩ := h.c.init
  have h4 := h.l p (List.mem_append_right _ List.mem_cons_self) q List.mem_cons_self
  have e : ∀ y : Int, (y < if q.2 > p.2 then q.2 else p.2) ↔ y < p.2 ∨ y < q.2 := fun y => by split <;> omega
  refine ⟨h1.snoc ((e _).mpr (.inl h2)) h3, by have := h.n; simp at this ⊢; omega, (List.pairwise_cons.mp h.s).2, fun r hr z hz => ?_, fun x => ?_⟩
  · rcases List.mem_append.mp hr with hr | hr
    · exact h.l r (List.mem_append_left _ hr) z (List.mem_cons_of_mem _ hz)
    · rw [List.mem_singleton.mp hr]
      exact h.l p (List.mem_append_right _ List.mem_cons_self) z (List.mem_cons_of_mem _ hz)
  · rw [← h.i x, inP_cons, inP_append, inP_append, inP_one, inP_one]
    show (inP acc x = true ∨ p.1 ≤ x ∧ x < if q.2 > p.2 then q.2 else p.2) ∨ inP qs x = true ↔ _
    rw [e]
    constructor
    · rintro ((z | ⟨z1, z2 | z2⟩) | z)
      · exact .inl (.inl z)
      · exact .inl (.inr ⟨z1, z2⟩)
      · rcases Decidable.em (x < p.2) with y | y
        · exact .inl (.inr ⟨z1, y⟩)
        · exact .inr (.inl ⟨by omega, z2⟩)
      · exact .inr (.inr z)
    · rintro ((z | z) | z | z)
      · exact .inl (.inl z)
      · exact .inl (.inr ⟨z.1, .inl z.2⟩)
      · exact .inl (.inr ⟨by omega, .inr z.2⟩)
      · exact .inr z
def c7_4 : CSs := .cons (.ret (.and (.call 3 (.cons (.call 0 (.cons (.var 3) .nil)) (.cons (.var 4) .nil))) (.call 3 (.cons (.var 3) (.cons (.var 2) .nil))))) .nil
def c7_3 : CSs := .cons (.set 4 (.call 5 (.cons (.comp false (.call 4 (.cons (.var 2) (.cons (.var 5) .nil))) (.nm 5) (.rng1 (.int 128)) .none [5]) .nil))) c7_4
def c7_2 : CSs := .cons (.set 3 (.blt .list (.cons (.var 2) .nil))) c7_3
def c7_1 : CSs := .cons (.set 2 (.call 6 (.cons (.var 0) (.cons (.var 1) .nil)))) c7_2
def c7 : CSs := .cons (.set 1 (.lst true (.cons (.int 0) (.cons (.int 0) .nil)))) c7_1
inductive Cr where
  | set (n : Int) (ps : List (Int × Int)) | seq (a b : Cr) | alt (a b : Cr) | ne (t : Cr) | star (t : Cr) (x : Bool) | leaf (s : Str) (r : List D)
def Cr.hd : Cr → Str
  | .set _ _ => "set" | .seq _ _ => "sequence" | .alt _ _ => "choice" | .ne _ => "nonempty" | .star _ _ => "star" | .leaf s _ => s
/-- a leaf of another kind -/
def leafOk (s : Str) (r : List D) : Prop := s ≠ "set" ∧ s ≠ "sequence" ∧ s ≠ "choice" ∧ s ≠ "nonempty" ∧ s ≠ "star" ∧ s.length ≤ sizeLine ∧ r.length ≤ 10 ∧ noRefs r = true ∧ ∀ d ∈ r, Plain 3 d
def Cr.ok : Cr → Prop
  | .set _ ps => ps.length ≤ 100
  | .seq a b => a.ok ∧ b.ok
  | .alt a b => a.ok ∧ b.ok
  | .ne t => t.ok
  | .star t _ => t.ok
  | .leaf s r => leafOk s r
structure Sp where
  pos : Int
  bf : Option Int
  af : Option Int
  bits : List Bool
theorem tx_cat {a b : List Nat} : tx a ++ tx b = tx (a ++ b) := SX.S_cat a b
theorem mk_tx {l : List Nat} : (⟨l.toArray⟩ : Str) = tx l := rfl
/-- the digits of a number -/
def dg (n : Nat) : List Nat := (Nat.toDigits 10 n).map Char.toNat
theorem str_dg (n : Nat) : ((toString (n : Int) : String) : Str) = tx (dg n) := by
  have h := PySem.W.KIN.signs_num n
  have e : ((toString (n : Int) : String) : Str) = tx (((toString (n : Int) : String) : Str).cps.toList) := (SX.S_tl _).symm
  rw [e]
  exact congrArg tx h
theorem dg_mem {n c : Nat} (h : c ∈ dg n) : 48 ≤ c ∧ c ≤ 57 := by
  obtain ⟨ch, hch, e⟩ := List.mem_map.mp h
  have r := PyProof.Rows.digit_range (Nat.isDigit_of_mem_toDigits (by decide) (by decide) hch)
  rw [← e]
  exact r
abbrev Nm := Option (List Nat)
/-- the group that a word names -/
def gof (w : List Nat) : List Nm → Nat → Option Nat
  | [], _ => none
  | n :: r, k => if w = dg k ∨ n = some w then some k else gof w r (k + 1)
/-- parts of a template -/
inductive Pr where
  | text (l : List Nat) | grp (n : Nat) | nam (s : Str)
def Pr.d : Pr → D
  | .text l => .tup [.str "text", .str (tx l)]
  | .grp n => .tup [.str "group", .int n]
  | .nam s => .tup [.str s]
def Pr.ok : Pr → Prop
  | .text l => l.length ≤ 1000
  | .grp _ => True
  | .nam s => s = "match" ∨ s = "before" ∨ s = "behind"
/-- pieces of a template -/
inductive Pc where
  | grp (w : List Nat) (n : Nat) | sg (c : Nat) (p : Pr) | ch (c : Nat)
def Pc.txt : Pc → List Nat
  | .grp w _ => 36 :: 123 :: (w ++ [125])
  | .sg c _ => [36, c]
  | .ch c => [c]
def Pc.ok (ns : List Nm) : Pc → Prop
  | .grp w n => 125 ∉ w ∧ gof w ns 0 = some n ∧ w.length ≤ 12
  | .sg c p => (c = 36 ∧ p = .text [36]) ∨ (c = 38 ∧ p = .nam "match") ∨ (c = 91 ∧ p = .nam "before") ∨ (c = 93 ∧ p = .nam "behind")
  | .ch c => c ≠ 36
def isDg (c : Nat) : Bool := decide (48 ≤ c) && decide (c ≤ 57)
theorem isDg_iff {c : Nat} : isDg c = true ↔ 48 ≤ c ∧ c ≤ 57 := by simp [isDg]
theorem dg_snoc {n : Nat} (h : 10 ≤ n) : dg n = dg (n / 10) ++ dg (n % 10) := by
  have hm : n % 10 < 10 := Nat.mod_lt _ (by decide)
  have t : Nat.toDigits 10 (n / 10) ++ Nat.toDigits 10 (n % 10) = Nat.toDigits 10 (10 * (n / 10) + n % 10) := Nat.toDigits_append_toDigits (by decide) (by omega) hm
  rw [Nat.div_add_mod] at t
  unfold dg
  rw [← t, List.map_append]
theorem dg_one {n : Nat} (h : n < 10) : (dg n).length = 1 := by
  have : ∀ n, n < 10 → (dg n).length = 1 := by decide +kernel
  exact this n h
theorem dg_lenP : ∀ {k n : Nat}, n < 10 ^ (k + 1) → (dg n).length ≤ k + 1
  | 0, n, h => by rw [dg_one (by simpa using h)]; exact Nat.le_refl _
  | k + 1, n, h => by
    by_cases hn : n < 10
    · rw [dg_one hn]; omega
    · rw [dg_snoc (by omega), List.length_append, dg_one (Nat.mod_lt _ (by decide))]
      have := dg_lenP (k := k) (n := n / 10) (by rw [Nat.pow_succ] at h; omega)
      omega
theorem dg_first : ∀ (n : Nat) {c : Nat} {r : List Nat}, 1 ≤ n → dg n = c :: r → c ≠ 48 := by
  intro n
  induction n using Nat.strongRecOn with
  | _ n ih =>
    intro c r h e
    by_cases hn : n < 10
    · have : ∀ n, n < 10 → 1 ≤ n → (dg n).head? ≠ some 48 := by decide +kernel
      have := this n hn h
      rw [e] at this
      intro hc
      rw [hc] at this
      exact this rfl
    · rw [dg_snoc (by omega)] at e
      cases hd : dg (n / 10) with
      | nil => have := congrArg List.length (congrArg (fun l => l) hd); have h1 : dg (n / 10) ≠ [] := by
                 intro z
                 have := Nat.length_toDigits_pos (b := 10) (n := n / 10)
                 unfold dg at z
                 rw [List.map_eq_nil_iff.mp z] at this
                 simp at this
               exact absurd hd h1
      | cons c' r' =>
        rw [hd] at e
        have := (List.cons.inj e).1
        rw [← this]
        exact ih (n / 10) (by omega) (by omega) hd
theorem dg_ne (n : Nat) : dg n ≠ [] := fun z => by
  have := congrArg PySem.NumText.digitsVal z
  by_cases hn : n < 10
  · have h := dg_one hn; rw [z] at h; cases h
  · rw [dg_snoc (by omega)] at z
    have h := List.append_eq_nil_iff.mp z
    have h2 := dg_one (n := n % 10) (Nat.mod_lt _ (by decide))
    rw [h.2] at h2; cases h2
/-- where a number ends -/
def nEnd (rest : List Nat) : Option Nat :=
  if (rest.takeWhile isDg).length = 0 ∨ 9 < (rest.takeWhile isDg).length ∨ (1 < (rest.takeWhile isDg).length ∧ rest[0]? = some 48) then none
  else if rest[(rest.takeWhile isDg).length]? = some 59 then some (rest.takeWhile isDg).length else none
theorem tw_dg {n : Nat} {t : List Nat} : (dg n ++ 59 :: t).takeWhile isDg = dg n := by
  have : ∀ (l : List Nat), (∀ c ∈ l, isDg c = true) → (l ++ 59 :: t).takeWhile isDg = l := by
    intro l
    induction l with
    | nil => intro _; rfl
    | cons c r ih =>
      intro h
      rw [List.cons_append, List.takeWhile_cons, h c List.mem_cons_self, if_pos rfl, ih fun d hd => h d (List.mem_cons_of_mem _ hd)]
  exact this _ fun c hc => isDg_iff.mpr (dg_mem hc)
theorem nEnd_dg {n : Nat} {t : List Nat} (h : n < 10 ^ 9) : nEnd (dg n ++ 59 :: t) = some (dg n).length := by
  unfold nEnd
  rw [tw_dg]
  have h1 := dg_ne n
  have h2 := dg_lenP (k := 8) h
  have h3 : (dg n).length ≠ 0 := fun e => h1 (List.eq_nil_of_length_eq_zero e)
  rw [if_neg, if_pos]
  · rw [List.getElem?_append_right (Nat.le_refl _), Nat.sub_self]; rfl
  · rintro (e | e | ⟨e1, e2⟩)
    · exact h3 e
    · omega
    · cases hd : dg n with
      | nil => exact h1 hd
      | cons c r =>
        rw [hd] at e1 e2
        have hn : 1 ≤ n := by
          rcases Nat.eq_zero_or_pos n with rfl | h
          · have : dg 0 = [48] := by decide +kernel
            rw [this] at hd; cases hd; simp at e1
          · exact h
        exact dg_first n hn hd (by simpa using e2)
/-- a word that is saved -/
inductive Wo where
  | num (n : Nat) | txt (l : List Nat)
def Wo.d : Wo → D
  | .num n => .int n
  | .txt l => .str (tx l)
def Wo.ok : Wo → Prop
  | .num n => n < 10 ^ 9
  | .txt l => l.length ≤ 12
def Wo.w : Wo → List Nat
  | .num n => dg n ++ [59]
  | .txt l => dg l.length ++ 59 :: l
/-- a reader -/
def rdO (cs : List Nat) (p : Nat) : MO := .ins "SavedReader" [("text", .str (tx cs)), ("position", .int p)]
theorem int_dg {n : Nat} (h : n < 10 ^ 9) : PySem.intText? (tx (dg n)) = some (n : Int) := by
  rw [← str_dg]
  exact PySem.W.KIN.num_reads (by omega) (by omega)
theorem rd_obj {k : Nat} {cs : List Nat} {p : Nat} {M : Md} {m : Str} (h : M[k]? = some (rdO cs p)) (hm : (["text", "position"] : List Str).contains m = false) : objD "SavedReader" m (.ref k) M := by
  show (match M[k]? with
    | some (.ins c' fs) => c' = ("SavedReader" : Str) ∧ (fs.map (·.1)).contains m = false
    | _ => False)
  rw [h]
  exact ⟨rfl, hm⟩
theorem txl {cs : List Nat} : (tx cs).cps.toList = cs := SX.S_inj (SX.S_tl (tx cs))
theorem cut_midT {α : Type} {xs : List α} {a b : Nat} : cutD xs (some (a : Int)) (some (b : Int)) = (xs.drop a).take (b - a) := by
  unfold cutD
  rw [HT.sIx_nat, HT.sIx_nat]
  by_cases h : a ≤ xs.length
  · rw [Nat.min_eq_left h]
    by_cases k : b ≤ xs.length
    · rw [Nat.min_eq_left k]
    · rw [Nat.min_eq_right (by omega), List.take_of_length_le (by rw [List.length_drop]; exact Nat.le_refl _), List.take_of_length_le (by rw [List.length_drop]; omega)]
  · have h1 : min a xs.length = xs.length := by omega
    rw [h1, List.drop_of_length_le (Nat.le_refl _), List.drop_of_length_le (by omega), List.take_nil, List.take_nil]
theorem ix_txn {cs : List Nat} {p c : Nat} {M : Md} {Q : QE} (h : cs.length ≤ sizeLine) (hc : cs[p]? = some c) (q : Q (.str (tx [c])) M) : ixD (.str (tx cs)) (.int p) M Q :=
  ix_s (by rw [tx_len]; exact h) (by rw [txl]; exact atI_nat hc) q
/-- the digit's promise over a longer state -/
def sp2w : SpD := fun ds M Q _ => ∃ (ns : List Int) (a b m : Int) (T : List D) (R : Md), ds = [.scr ns, .ref 0, .int m] ∧ M = .lst (.int a :: .int b :: T) :: R ∧ 0 ≤ a ∧ 0 ≤ b ∧ 0 < m ∧ m < 4611686018427387904 ∧
  ∀ d a' b' : Int, 0 ≤ d → d < m → 0 ≤ a' → 0 ≤ b' → Q (.int d) (.lst (.int a' :: .int b' :: T) :: R)
theorem ln2w : ∀ ds M Q E, sp2w ds M Q E → ds.length = 3 := by
  rintro _ _ _ _ ⟨_, _, _, _, _, _, rfl, _⟩; rfl
theorem rd2w {Φ : Nat → SpD} {κ : Nat → D} (h1 : Φ 1 = sp1) : RdOk Φ κ c2 4 sp2w := by
  rintro ds M Q E hM hd ⟨ns, a, b, m, T, R, rfl, rfl, ha, hb, hm, hm2, hQ⟩
  have e1 : ∀ a b x, 0 ≤ a → 0 ≤ b → At Φ κ E (R.length + 1) Q c2_1 [some (.scr ns), some (.ref 0), some (.int m), x] (.lst (.int a :: .int b :: T) :: R) := by
    intro a b x ha hb
    rw [At, nxt_eq, c2_1]; walk_at "rd"
    refine ⟨hm, ?_⟩
    rw [nxt_eq, c2_2]; walk_at "rd"
    refine ⟨wide_div hm (b := 62) (by omega) (by decide) (by decide), ?_⟩
    rw [nxt_eq, c2_3]; walk_at "rd"
    exact .keep (hQ _ _ _ (Int.emod_nonneg _ (by omega)) (Int.emod_lt_of_pos _ hm) (Int.ediv_nonneg ha (by omega)) hb)
  rw [c2]; walk_at "rd"
  split
  · rw [c2_4]; walk_at "rd"
    rw [h1]
    refine ⟨ns, b, rfl, hb, fun r hr => ?_⟩
    walk_at "rd"
    rw [nxt_eq, c2_5]; walk_at "rd"
    exact e1 _ _ _ hr (by omega)
  · exact e1 _ _ _ ha hb
theorem dig {Φ : Nat → SpD} (h2 : Φ 2 = sp2w) {ns : List Int} {a b m : Int} {T : List D} {R : Md} {Q : QE} {E : EX} (ha : 0 ≤ a) (hb : 0 ≤ b) (hm : 0 < m) (hm2 : m < 4611686018427387904)
    (q : ∀ d a' b' : Int, 0 ≤ d → d < m → 0 ≤ a' → 0 ≤ b' → Q (.int d) (.lst (.int a' :: .int b' :: T) :: R)) : Φ 2 [.scr ns, .ref 0, .int m] (.lst (.int a :: .int b :: T) :: R) Q E := by
  rw [h2]
  exact ⟨ns, a, b, m, T, R, rfl, rfl, ha, hb, hm, hm2, q⟩
/-- the end of an __init__ that had lists of its own -/
theorem Fin.init {n0 : Nat} {Q : QE} {M0 L : Md} {c : Str} {fs : List (Str × D)} (hn : M0.length + 1 = n0) (hM : MOk (M0 ++ [.ins c []])) (hf : noRefs (fs.map (·.2)) = true) (q : Q .non (M0 ++ [.ins c fs])) : Fin n0 Q .non (M0 ++ .ins c fs :: L) := by
  have e : M0 ++ .ins c fs :: L = (M0 ++ [.ins c fs]) ++ L := by simp
  rw [e]
  refine Fin.tail (by simpa using hn) trivial ?_ q
  intro m hm
  have hl : (M0 ++ [MO.ins c fs]).length = (M0 ++ [MO.ins c []]).length := by simp
  rw [hl]
  rcases List.mem_append.mp hm with h | h
  · exact hM m (List.mem_append_left _ h)
  · rw [List.mem_singleton.mp h]
    intro p hp
    exact RLts_iff.mp (noRefs_lt hf) _ (List.mem_map_of_mem hp)
def c47_4 : CSs := .cons (.ret (.mth .join (.str "") (.cons (.comp false (.idx (.var 3) (.call 2 (.cons (.var 0) (.cons (.var 1) (.cons (.blt .len (.cons (.var 3) .nil)) .nil))))) (.nm 5) (.rng1 (.var 4)) .none [5]) .nil))) .nil
def c47_3 : CSs := .cons (.set 4 (.blt .max2 (.cons (.call 2 (.cons (.var 0) (.cons (.var 1) (.cons (.bin .add (.var 2) (.int 1)) .nil)))) (.cons (.call 2 (.cons (.var 0) (.cons (.var 1) (.cons (.bin .add (.var 2) (.int 1)) .nil)))) .nil)))) c47_4
def c47_2 : CSs := .cons (.set 3 (.idx (.lst false (.cons (.str "ab") (.cons (.str "abc") (.cons (.str "aab") (.cons (.str "abA_ 1\n-") (.cons (.str "ab\n") (.cons (.var 3) .nil))))))) (.call 2 (.cons (.var 0) (.cons (.var 1) (.cons (.int 6) .nil)))))) c47_3
def c47_1 : CSs := .cons (.set 3 (.bin .add (.var 3) (.str "abcdefghijklmnopqrstuvwxyz{|}~\n\t"))) c47_2
def c47 : CSs := .cons (.set 3 (.str " !\"#$&'()*+,-./0123456789:;<=>?@ABCDEFGHIJKLMNOPQRSTUVWXYZ[\\]^_`")) c47_1
/-- what a text is drawn from -/
def okSigns (s : Str) : Prop := 2 ≤ s.length ∧ s.length ≤ 97 ∧ ∀ c ∈ s.cps.toList, c < 128
theorem signs_ok : ∀ d ∈ [D.str "ab", D.str "abc", D.str "aab", D.str "abA_ 1\n-", D.str "ab\n", D.str ((" !\"#$&'()*+,-./0123456789:;<=>?@ABCDEFGHIJKLMNOPQRSTUVWXYZ[\\]^_`" : Str) ++ ("abcdefghijklmnopqrstuvwxyz{|}~\n\t" : Str))], ∃ s, d = .str s ∧ okSigns s := by
  intro d hd
  simp only [List.mem_cons, List.not_mem_nil, or_false] at hd
  unfold okSigns
  rcases hd with rfl | rfl | rfl | rfl | rfl | rfl <;> exact ⟨_, rfl, by decide +kernel⟩
def sp47w : SpD := fun ds M Q _ => ∃ (ns : List Int) (a b : Int) (m : Nat) (T : List D) (R : Md), ds = [.scr ns, .ref 0, .int m] ∧ M = .lst (.int a :: .int b :: T) :: R ∧ 0 ≤ a ∧ 0 ≤ b ∧ m < 1000000 ∧
  ∀ (cs : List Nat) (a' b' : Int), cs.length ≤ m → (∀ c ∈ cs, c < 128) → 0 ≤ a' → 0 ≤ b' → Q (.str (tx cs)) (.lst (.int a' :: .int b' :: T) :: R)
theorem ln47w : ∀ ds M Q E, sp47w ds M Q E → ds.length = 3 := by
  rintro _ _ _ _ ⟨_, _, _, _, _, _, rfl, _⟩; rfl
theorem rd47w {Φ : Nat → SpD} {κ : Nat → D} (h2 : Φ 2 = sp2w) : RdOk Φ κ c47 6 sp47w := by
  rintro ds M Q E hM hd ⟨ns, a, b, m, T, R, rfl, rfl, ha, hb, hm, hQ⟩
  rw [c47]; walk_at "rd"
  rw [nxt_eq, c47_1]; walk_at "rd"
  refine ⟨by decide +kernel, ?_⟩
  rw [nxt_eq, c47_2]; walk_at "rd"
  rw [h2]
  refine ⟨ns, a, b, _, T, R, rfl, rfl, ha, hb, by omega, by omega, fun d a b h0 h1 ha hb => ?_⟩
  walk_at "rd"
  refine atQ_mem h0 (by simpa using h1) fun d hd => ?_
  obtain ⟨s, rfl, hs1, hs2, hs3⟩ := signs_ok d hd
  try dsimp only
  rw [nxt_eq, c47_3]; walk_at "rd"
  rw [h2]
  refine ⟨ns, a, b, _, T, R, rfl, rfl, ha, hb, by omega, by omega, fun x a b hx0 hx1 ha hb => ?_⟩
  refine ⟨ns, a, b, _, T, R, rfl, rfl, ha, hb, by omega, by omega, fun y a b hy0 hy1 ha hb => ?_⟩
  walk_at "rd"
  generalize hz : (if y > x then y else x) = z
  have hz0 : 0 ≤ z ∧ z ≤ m := by rw [← hz]; split <;> omega
  rw [nxt_eq, c47_4]; walk_at "rd"
  rw [mtK_join, true_and]
  refine ⟨by omega, by omega, ?_⟩
  refine comp_inv (fun rem acc M' => ∃ (cs : List Nat) (a b : Int), M' = .lst (.int a :: .int b :: T) :: R ∧ 0 ≤ a ∧ 0 ≤ b ∧ acc = cs.map (fun c => D.str (tx [c])) ∧ (∀ c ∈ cs, c < 128) ∧ cs.length + rem.length ≤ m) ?_ ?_ ?_ _ _ _ ⟨[], a, b, rfl, ha, hb, rfl, (by intro c hc; cases hc), ?_⟩
  · intro _ _ _ _; trivial
  · rintro e rem acc M' C ⟨cs, a, b, rfl, ha, hb, rfl, hcs, hl⟩ hC
    rw [List.length_cons] at hl
    walk_at "rd"
    refine ⟨by rw [size_eq]; omega, ?_⟩
    rw [h2]
    refine ⟨ns, a, b, _, T, R, rfl, rfl, ha, hb, by omega, by omega, fun d a b h0 h1 ha hb => ?_⟩
    try dsimp only
    refine ix_smem (by rw [size_eq]; omega) h0 h1 fun c hc => ⟨by rw [List.length_map, size_eq]; omega, hC _ _ ⟨cs ++ [c], a, b, rfl, ha, hb, by rw [List.map_append]; rfl, ?_, by simp; omega⟩⟩
    intro x hx
    rcases List.mem_append.mp hx with hx | hx
    · exact hcs x hx
    · rw [List.mem_singleton.mp hx]; exact hs3 c hc
  · rintro acc M' ⟨cs, a, b, rfl, ha, hb, rfl, hcs, hl⟩
    refine join_ones (by simp at hl; omega) (.keep (hQ cs a b (by simpa using hl) hcs ha hb))
  · unfold rngD
    simp
    omega
abbrev c446_5 : CSs := .cons (.ret (.idx (.lst false (.cons (.call 2 (.cons (.var 0) (.cons (.var 1) (.cons (.int 10) .nil)))) (.cons (.call 2 (.cons (.var 0) (.cons (.var 1) (.cons (.bin .pow (.int 10) (.int 9)) .nil)))) .nil))) (.var 2))) .nil
abbrev c446_6 : CSs := .cons (.ret (.idx (.lst false (.cons (.int 0) (.cons (.int 9) (.cons (.int 10) (.cons (.int 99999999) (.cons (.int 100000000) (.cons (.int 999999999) .nil))))))) (.call 2 (.cons (.var 0) (.cons (.var 1) (.cons (.int 6) .nil)))))) .nil
abbrev c446_7 : CSs := .cons (.ret (.idx (.lst false (.cons (.str "") (.cons (.str "3;") (.cons (.str "3;abc") (.cons (.str "0;0;") (.cons (.str ";") (.cons (.str "\n") (.cons (.str "12") .nil)))))))) (.call 2 (.cons (.var 0) (.cons (.var 1) (.cons (.int 7) .nil)))))) .nil
abbrev c446_4 : CSs := .cons (.ret (.call 47 (.cons (.var 0) (.cons (.var 1) (.cons (.int 12) .nil))))) .nil
abbrev c446_3 : CSs := .cons (.ifs (.cmp .eq (.var 2) (.int 3)) c446_7 .nil) c446_4
abbrev c446_2 : CSs := .cons (.ifs (.cmp .eq (.var 2) (.int 2)) c446_6 .nil) c446_3
abbrev c446_1 : CSs := .cons (.ifs (.cmp .lt (.var 2) (.int 2)) c446_5 .nil) c446_2
abbrev c446 : CSs := .cons (.set 2 (.call 2 (.cons (.var 0) (.cons (.var 1) (.cons (.int 6) .nil))))) c446_1
def sp446 : SpD := fun ds M Q _ => ∃ (ns : List Int) (a b : Int) (R : Md), ds = [.scr ns, .ref 0] ∧ M = .lst [.int a, .int b] :: R ∧ 0 ≤ a ∧ 0 ≤ b ∧
  ∀ (w : Wo) (a' b' : Int), w.ok → 0 ≤ a' → 0 ≤ b' → Q w.d (.lst [.int a', .int b'] :: R)
theorem ln446 : ∀ ds M Q E, sp446 ds M Q E → ds.length = 2 := by
  rintro _ _ _ _ ⟨_, _, _, _, rfl, _⟩; rfl
theorem rd446 {Φ : Nat → SpD} {κ : Nat → D} (h2 : Φ 2 = sp2w) (h47 : Φ 47 = sp47w) : RdOk Φ κ c446 3 (sp446) := by
  rintro ds M Q E hM hd ⟨ns, a, b, R, rfl, rfl, ha, hb, hQ⟩
  have nm : ∀ (n : Nat) (a b : Int), n < 10 ^ 9 → 0 ≤ a → 0 ≤ b → Q (.int n) (.lst [.int a, .int b] :: R) := fun n a b h ha hb => hQ (.num n) a b h ha hb
  have tt : ∀ (s : Str) (l : List Nat) (a b : Int), s = tx l → l.length ≤ 12 → 0 ≤ a → 0 ≤ b → Q (.str s) (.lst [.int a, .int b] :: R) := fun s l a b e h ha hb => by rw [e]; exact hQ (.txt l) a b h ha hb
  walk_at "go"
  refine dig h2 ha hb (by omega) (by omega) fun k a b k0 k1 ha hb => ?_; walk_at "go"
  refine iteI (fun h => ?_) fun h => ?_
  · walk_at "go"
    refine dig h2 ha hb (by omega) (by omega) fun x a b x0 x1 ha hb => ?_; walk_at "go"
    obtain ⟨x, rfl⟩ : ∃ i : Nat, x = i := ⟨x.toNat, by omega⟩
    refine ⟨⟨by decide, by decide⟩, ?_⟩
    refine dig h2 (m := 1000000000) ha hb (by omega) (by omega) fun y a b y0 y1 ha hb => ?_
    walk_at "go"
    obtain ⟨y, rfl⟩ : ∃ i : Nat, y = i := ⟨y.toNat, by omega⟩
    obtain rfl | rfl : k = 0 ∨ k = 1 := by omega
    · walk_at "go"
      exact .keep (nm x a b (by omega) ha hb)
    · walk_at "go"
      exact .keep (nm y a b (by omega) ha hb)
  walk_at "go"
  refine iteI (fun h => ?_) fun h => ?_
  · walk_at "go"
    refine dig h2 ha hb (by omega) (by omega) fun x a b x0 x1 ha hb => ?_; walk_at "go"
    obtain rfl | rfl | rfl | rfl | rfl | rfl : x = 0 ∨ x = 1 ∨ x = 2 ∨ x = 3 ∨ x = 4 ∨ x = 5 := by omega
    · walk_at "go"; exact .keep (nm 0 a b (by decide) ha hb)
    · walk_at "go"; exact .keep (nm 9 a b (by decide) ha hb)
    · walk_at "go"; exact .keep (nm 10 a b (by decide) ha hb)
    · walk_at "go"; exact .keep (nm 99999999 a b (by decide) ha hb)
    · walk_at "go"; exact .keep (nm 100000000 a b (by decide) ha hb)
    · walk_at "go"; exact .keep (nm 999999999 a b (by decide) ha hb)
  walk_at "go"
  refine iteI (fun h => ?_) fun h => ?_
  · walk_at "go"
    refine dig h2 ha hb (by omega) (by omega) fun x a b x0 x1 ha hb => ?_; walk_at "go"
    obtain rfl | rfl | rfl | rfl | rfl | rfl | rfl : x = 0 ∨ x = 1 ∨ x = 2 ∨ x = 3 ∨ x = 4 ∨ x = 5 ∨ x = 6 := by omega
    · walk_at "go"; exact .keep (tt _ [] a b (by decide +kernel) (by decide) ha hb)
    · walk_at "go"; exact .keep (tt _ [51, 59] a b (by decide +kernel) (by decide) ha hb)
    · walk_at "go"; exact .keep (tt _ [51, 59, 97, 98, 99] a b (by decide +kernel) (by decide) ha hb)
    · walk_at "go"; exact .keep (tt _ [48, 59, 48, 59] a b (by decide +kernel) (by decide) ha hb)
    · walk_at "go"; exact .keep (tt _ [59] a b (by decide +kernel) (by decide) ha hb)
    · walk_at "go"; exact .keep (tt _ [10] a b (by decide +kernel) (by decide) ha hb)
    · walk_at "go"; exact .keep (tt _ [49, 50] a b (by decide +kernel) (by decide) ha hb)
  walk_at "go"
  rw [h47]
  refine ⟨ns, a, b, 12, [], R, rfl, rfl, ha, hb, by omega, fun l a b hl _ ha hb => ?_⟩
  walk_at "go"
  exact .keep (tt _ l a b rfl (by omega) ha hb)
abbrev c447 : CSs := .cons (.ret (.bin .add (.blt .str (.cons (.var 0) .nil)) (.str ";"))) .nil
def sp447 : SpD := fun ds M Q _ => ∃ (n : Nat), ds = [.int n] ∧ n < 10 ^ 9 ∧ Q (.str (tx (dg n ++ [59]))) M
theorem ln447 : ∀ ds M Q E, sp447 ds M Q E → ds.length = 1 := by
  rintro _ _ _ _ ⟨_, rfl, _⟩; rfl
theorem log_9 {n : Nat} (h : n < 10 ^ 9) : ((n : Nat) : Int).natAbs.log2 < 1920 := by
  show n.log2 < 1920
  by_cases h0 : n = 0
  · subst h0; decide
  · have := (Nat.log2_lt h0).mpr (Nat.lt_of_lt_of_le h (by decide : 10 ^ 9 ≤ 2 ^ 30))
    omega
theorem t_59 : Str.ofString ";" = tx [59] := by decide +kernel
theorem rd447 {Φ : Nat → SpD} {κ : Nat → D} : RdOk Φ κ c447 1 (sp447) := by
  rintro ds M Q E hM hd ⟨n, rfl, h, hQ⟩
  have hl := dg_lenP (k := 8) h
  walk_at "go"
  refine ⟨log_9 h, ?_⟩
  rw [str_dg, t_59]
  walk_at "go"
  try rw [tx_cat]
  exact .keep hQ
abbrev c448 : CSs := .cons (.ret (.bin .add (.call 447 (.cons (.blt .len (.cons (.var 0) .nil)) .nil)) (.var 0))) .nil
def sp448 : SpD := fun ds M Q _ => ∃ (l : List Nat), ds = [.str (tx l)] ∧ l.length ≤ 1000 ∧ Q (.str (tx (dg l.length ++ 59 :: l))) M
theorem ln448 : ∀ ds M Q E, sp448 ds M Q E → ds.length = 1 := by
  rintro _ _ _ _ ⟨_, rfl, _⟩; rfl
theorem rd448 {Φ : Nat → SpD} {κ : Nat → D} (h447 : Φ 447 = sp447) : RdOk Φ κ c448 1 (sp448) := by
  rintro ds M Q E hM hd ⟨l, rfl, h, hQ⟩
  have hl := dg_lenP (k := 8) (n := l.length) (by omega)
  walk_at "go"
  rw [tx_len, h447]
  refine ⟨l.length, rfl, by omega, ?_⟩
  walk_at "go"
  rw [tx_cat, List.append_assoc]
  exact .keep hQ
abbrev c449_2 : CSs := .cons (.ret (.bin .add (.bin .add (.blt .str (.cons (.blt .len (.cons (.var 0) .nil)) .nil)) (.str ";")) (.var 0))) .nil
abbrev c449_1 : CSs := .cons (.ret (.bin .add (.blt .str (.cons (.var 0) .nil)) (.str ";"))) .nil
abbrev c449 : CSs := .cons (.ifs (.blt (.isi "str") (.cons (.var 0) .nil)) c449_2 .nil) c449_1
def sp449 : SpD := fun ds M Q E => ∃ w : Wo, ds = [w.d] ∧ w.ok ∧ Q (.str (tx w.w)) M
theorem ln449 : ∀ ds M Q E, sp449 ds M Q E → ds.length = 1 := by
  rintro _ _ _ _ ⟨_, rfl, _⟩; rfl
theorem rd449 {Φ : Nat → SpD} {κ : Nat → D} : RdOk Φ κ c449 1 (sp449) := by
  rintro ds M Q E hM hd ⟨w, rfl, hw, hQ⟩
  cases w with
  | num n =>
    have hn : n < 10 ^ 9 := hw
    have hl := dg_lenP (k := 8) hn
    rw [show Wo.d (.num n) = D.int n from rfl]
    walk_at "go"
    refine ⟨log_9 hn, ?_⟩
    rw [str_dg, t_59]
    walk_at "go"
    try rw [tx_cat]
    exact .keep hQ
  | txt l =>
    have hl : l.length ≤ 12 := hw
    have hd := dg_lenP (k := 8) (n := l.length) (by omega)
    rw [show Wo.d (.txt l) = D.str (tx l) from rfl]
    walk_at "go"
    rw [tx_len]
    refine ⟨log_9 (by omega), ?_⟩
    rw [str_dg, t_59]
    walk_at "go"
    rw [tx_cat, tx_cat, tx_len, List.append_assoc]
    refine ⟨by rw [size_eq, List.length_append]; show _ + 1 + _ ≤ _; omega, .keep hQ⟩
abbrev c941_1 : CSs := .cons (.setFld "SavedReader" (.var 0) "position" (.int 0)) .nil
abbrev c941 : CSs := .cons (.setFld "SavedReader" (.var 0) "text" (.var 1)) c941_1
def sp941 : SpD := fun ds M Q _ => ∃ (M0 : Md) (cs : List Nat), ds = [.ref M0.length, .str (tx cs)] ∧ M = M0 ++ [.ins "SavedReader" []] ∧ Q .non (M0 ++ [rdO cs 0])
theorem ln941 : ∀ ds M Q E, sp941 ds M Q E → ds.length = 2 := by
  rintro _ _ _ _ ⟨_, _, rfl, _⟩; rfl
theorem rd941 {Φ : Nat → SpD} {κ : Nat → D} : RdOk Φ κ c941 2 (sp941) := by
  rintro ds M Q E hM hd ⟨M0, cs, rfl, rfl, hQ⟩
  walk_at "go"
  exact .init (by simp) hM rfl hQ
abbrev c1280_2 : CSs := .cons (.raise "SavedTextError" (.str "another beginning is expected")) .nil
abbrev c1280_1 : CSs := .cons (.augF "SavedReader" (.var 0) "position" (.blt .len (.cons (.var 1) .nil))) .nil
abbrev c1280 : CSs := .cons (.ifs (.cmp .ne (.slc false (.fld "SavedReader" (.var 0) "text") (.some (.fld "SavedReader" (.var 0) "position")) (.some (.bin .add (.fld "SavedReader" (.var 0) "position") (.blt .len (.cons (.var 1) .nil))))) (.var 1)) c1280_2 .nil) c1280_1
def sp1280 : SpD := fun ds M Q E => ∃ (k : Nat) (cs h : List Nat) (p : Nat), ds = [.ref k, .str (tx h)] ∧ M[k]? = some (rdO cs p) ∧ cs.length ≤ 100000 ∧ h.length ≤ 100000 ∧
  (if (cs.drop p).take h.length = h then Q .non (M.set k (rdO cs (p + h.length))) else E ⟨"SavedTextError", none⟩ M)
theorem ln1280 : ∀ ds M Q E, sp1280 ds M Q E → ds.length = 2 := by
  rintro _ _ _ _ ⟨_, _, _, _, rfl, _⟩; rfl
theorem rd1280 {Φ : Nat → SpD} {κ : Nat → D} : RdOk Φ κ c1280 2 (sp1280) := by
  rintro ds M Q E hM hd ⟨k, cs, h, p, rfl, hk, hl, hl2, hQ⟩
  unfold rdO at hk
  walk_at "go"
  rw [hk]
  walk_at "go"
  rw [hk]
  walk_at "go"
  rw [hk]
  walk_at "go"
  rw [tx_len]
  rw [show (p : Int) + (h.length : Int) = ((p + h.length : Nat) : Int) by omega, cut_midT, mk_tx, Nat.add_sub_cancel_left]
  by_cases e : (cs.drop p).take h.length = h
  · rw [if_pos e] at hQ
    rw [e, decide_eq_true rfl]
    walk_at "go"
    rw [hk]
    walk_at "go"
    rw [tx_len, hk]
    walk_at "go"
    exact .keep hQ
  · rw [if_neg e] at hQ
    rw [decide_eq_false fun z => e (SX.S_inj z)]
    walk_at "go"
    exact hQ
theorem tx1 {a b : Nat} : (tx [a] = tx [b]) = (a = b) := propext ⟨fun h => (List.cons.inj (SX.S_inj h)).1, fun h => by rw [h]⟩
abbrev c1491_6 : CSs := .cons (.aug 1 (.int 1)) .nil
abbrev c1491_7 : CSs := .cons (.raise "SavedTextError" (.str "a number is expected")) .nil
abbrev c1491_8 : CSs := .cons (.raise "SavedTextError" (.str "a semicolon is expected")) .nil
abbrev c1491_5 : CSs := .cons (.ret (.var 1)) .nil
abbrev c1491_4 : CSs := .cons (.ifs (.cmp .ne (.slc false (.fld "SavedReader" (.var 0) "text") (.some (.var 1)) (.some (.bin .add (.var 1) (.int 1)))) (.str ";")) c1491_8 .nil) c1491_5
abbrev c1491_3 : CSs := .cons (.ifs (.or (.cmp .eq (.var 2) (.int 0)) (.or (.cmp .gt (.var 2) (.glob 45)) (.and (.cmp .gt (.var 2) (.int 1)) (.cmp .eq (.idx (.fld "SavedReader" (.var 0) "text") (.fld "SavedReader" (.var 0) "position")) (.str "0"))))) c1491_7 .nil) c1491_4
abbrev c1491_2 : CSs := .cons (.set 2 (.bin .sub (.var 1) (.fld "SavedReader" (.var 0) "position"))) c1491_3
abbrev c1491_1 : CSs := .cons (.whil (.and (.cmp .lt (.var 1) (.blt .len (.cons (.fld "SavedReader" (.var 0) "text") .nil))) (.cmp .inn (.idx (.fld "SavedReader" (.var 0) "text") (.var 1)) (.glob 42))) c1491_6) c1491_2
abbrev c1491 : CSs := .cons (.set 1 (.fld "SavedReader" (.var 0) "position")) c1491_1
theorem in_dig {c : Nat} {M : Md} {QB : Bool → Prop} (q : QB (isDg c)) : cpD .inn (.str (tx [c])) k42 M QB := by
  show QB (!(Builtin.Str.occurrences ("0123456789" : Str) (tx [c]) 0 ("0123456789" : Str).length 1).isEmpty)
  rw [show ("0123456789" : Str) = tx [48, 49, 50, 51, 52, 53, 54, 55, 56, 57] by decide +kernel]
  rw [show (!(Builtin.Str.occurrences (tx [48, 49, 50, 51, 52, 53, 54, 55, 56, 57]) (tx [c]) 0 (tx [48, 49, 50, 51, 52, 53, 54, 55, 56, 57]).length 1).isEmpty) = decide (c ∈ [48, 49, 50, 51, 52, 53, 54, 55, 56, 57]) from SX.in_one _ c]
  have e : decide (c ∈ [48, 49, 50, 51, 52, 53, 54, 55, 56, 57]) = isDg c := by
    by_cases h : 48 ≤ c ∧ c ≤ 57
    · rw [isDg_iff.mpr h, decide_eq_true]
      simp only [List.mem_cons, List.not_mem_nil, or_false]
      omega
    · rw [decide_eq_false, show isDg c = false by cases hb : isDg c; rfl; exact absurd (isDg_iff.mp hb) h]
      simp only [List.mem_cons, List.not_mem_nil, or_false]
      omega
  rw [e]
  exact q
theorem tw_in : ∀ {l : List Nat} {i c : Nat}, i < (l.takeWhile isDg).length → l[i]? = some c → isDg c = true
  | [], _, _, h, _ => by cases h
  | x :: r, i, c, h, e => by
    rw [List.takeWhile_cons] at h
    split at h
    · next hx =>
      cases i with
      | zero => have : x = c := by simpa using e
                rw [← this]; exact hx
      | succ i => exact tw_in (by simpa using h) (by simpa using e)
    · cases h
theorem tw_out : ∀ {l : List Nat} {c : Nat}, l[(l.takeWhile isDg).length]? = some c → isDg c = false
  | [], _, e => by cases e
  | x :: r, c, e => by
    rw [List.takeWhile_cons] at e
    split at e
    · exact tw_out (by simpa using e)
    · next hx =>
      have : x = c := by simpa using e
      rw [← this]; simpa using hx
theorem tw_le {l : List Nat} : (l.takeWhile isDg).length ≤ l.length := (List.takeWhile_sublist _).length_le
def sp1491 : SpD := fun ds M Q E => ∃ (k : Nat) (cs : List Nat) (p : Nat), ds = [.ref k] ∧ M[k]? = some (rdO cs p) ∧ cs.length ≤ 100000 ∧ p ≤ cs.length ∧
  (match nEnd (cs.drop p) with
  | some m => Q (.int ((p + m : Nat) : Int)) M
  | none => E ⟨"SavedTextError", none⟩ M)
theorem ln1491 : ∀ ds M Q E, sp1491 ds M Q E → ds.length = 1 := by
  rintro _ _ _ _ ⟨_, _, _, rfl, _⟩; rfl
theorem rd1491 {Φ : Nat → SpD} {κ : Nat → D} (hk42 : κ 42 = k42) (hk45 : κ 45 = k45) : RdOk Φ κ c1491 3 (sp1491) := by
  rintro ds M Q E hM hd ⟨k, cs, p, rfl, hk, hl, hp, hQ⟩
  unfold rdO at hk
  walk_at "go"
  rw [hk]
  walk_at "go"
  have hd := tw_le (l := cs.drop p)
  rw [List.length_drop] at hd
  have hget : ∀ i, (cs.drop p)[i]? = cs[p + i]? := fun i => List.getElem?_drop
  refine while_at [1] (fun m js M' => ∃ i : Nat, js = [some (.int ((p + i : Nat) : Int))] ∧ M' = M ∧ i ≤ ((cs.drop p).takeWhile isDg).length ∧ ((cs.drop p).takeWhile isDg).length - i ≤ m) ⟨((cs.drop p).takeWhile isDg).length, [_], rfl, 0, rfl, rfl, Nat.zero_le _, Nat.le_refl _⟩ ?_
  have fin : nxt Φ κ c1491_2 (fun x _ M => E x M) (endsD M.length Q) [some (.ref k), some (.int ((p + ((cs.drop p).takeWhile isDg).length : Nat) : Int)), none] M := by
    unfold nEnd at hQ
    generalize hD : ((cs.drop p).takeWhile isDg).length = d at hQ hd ⊢
    walk_at "go"
    rw [hk]
    walk_at "go"
    rw [show ((p + d : Nat) : Int) - (p : Int) = (d : Int) by omega]
    have t48 : Str.ofString "0" = tx [48] := by decide +kernel
    have t59 : Str.ofString ";" = tx [59] := by decide +kernel
    have bad : (d = 0 ∨ 9 < d ∨ (1 < d ∧ (cs.drop p)[0]? = some 48)) → ∀ K : EndsD, nxt Φ κ c1491_7 (fun x _ M => E x M) K [some (.ref k), some (.int ((p + d : Nat) : Int)), some (.int (d : Int))] M := by
      intro hb K
      rw [if_pos hb] at hQ
      walk_at "go"
      exact hQ
    have good : ¬ (d = 0 ∨ 9 < d ∨ (1 < d ∧ (cs.drop p)[0]? = some 48)) → nxt Φ κ c1491_4 (fun x _ M => E x M) (endsD M.length Q) [some (.ref k), some (.int ((p + d : Nat) : Int)), some (.int (d : Int))] M := by
      intro hb
      rw [if_neg hb] at hQ
      walk_at "go"
      rw [hk]
      walk_at "go"
      rw [show ((p + d : Nat) : Int) + 1 = ((p + d + 1 : Nat) : Int) by omega, cut_midT, mk_tx, t59]
      have hc : ((cs.drop (p + d)).take (p + d + 1 - (p + d)) = [59]) ↔ (cs.drop p)[d]? = some 59 := by
        rw [show p + d + 1 - (p + d) = 1 by omega, hget]
        cases hx : cs[p + d]? with
        | none =>
          rw [List.drop_of_length_le (by simpa using hx)]
          simp
        | some x =>
          have hlt := (List.getElem?_eq_some_iff.mp hx).1
          rw [List.drop_eq_getElem_cons hlt]
          have : cs[p + d] = x := (List.getElem?_eq_some_iff.mp hx).2
          simp [this]
      by_cases h : (cs.drop p)[d]? = some 59
      · rw [if_pos h] at hQ
        rw [hc.mpr h]
        walk_at "go"
        exact .keep hQ
      · rw [if_neg h] at hQ
        rw [decide_eq_false fun z => h (hc.mp (SX.S_inj z))]
        walk_at "go"
        exact hQ
    refine iteI (fun h => bad (.inl (by omega)) _) fun h0 => ?_
    rw [hk45]
    walk_at "go"
    refine iteI (fun h => bad (.inr (.inl (by omega))) _) fun h9 => ?_
    refine iteI (fun h => ?_) fun h1 => good (by omega)
    rw [hk]
    walk_at "go"
    rw [hk]
    walk_at "go"
    have hlt : p < cs.length := by omega
    refine ix_txn (by rw [size_eq]; omega) (List.getElem?_eq_getElem hlt) ?_
    rw [t48]
    walk_at "go"
    have h0' : (cs.drop p)[0]? = some cs[p] := by rw [hget, Nat.add_zero, List.getElem?_eq_getElem hlt]
    refine iteI (fun h2 => bad (.inr (.inr ⟨by omega, ?_⟩)) _) fun h2 => good ?_
    · rw [tx1] at h2; rw [h0', h2]
    · rw [tx1] at h2
      rintro (e | e | ⟨_, e⟩)
      · omega
      · omega
      · rw [h0'] at e; exact h2 (Option.some.inj e)
  rintro m js M' nx ⟨i, rfl, rfl, hi, hm⟩ hn
  walk_at "go"
  rw [hk]
  walk_at "go"
  rw [tx_len]
  refine iteI (fun h => ?_) fun h => ?_
  · rw [hk]
    walk_at "go"
    have hlt : p + i < cs.length := by omega
    refine ix_txn (by rw [size_eq]; omega) (List.getElem?_eq_getElem hlt) ?_
    rw [hk42]
    refine in_dig ?_
    by_cases hid : i < ((cs.drop p).takeWhile isDg).length
    · rw [tw_in hid (by rw [hget, List.getElem?_eq_getElem hlt])]
      walk_at "go"
      rw [show ((p + i : Nat) : Int) + 1 = ((p + (i + 1) : Nat) : Int) by omega]
      exact hn (m - 1) [_] _ (by omega) ⟨i + 1, rfl, rfl, by omega, by omega⟩
    · have e : i = ((cs.drop p).takeWhile isDg).length := by omega
      rw [tw_out (l := cs.drop p) (c := cs[p + i]) (by rw [← e, hget, List.getElem?_eq_getElem hlt])]
      rw [e]
      exact fin
  · have e : i = ((cs.drop p).takeWhile isDg).length := by omega
    rw [e]
    exact fin
abbrev c1282_3 : CSs := .cons (.ret (.var 2)) .nil
abbrev c1282_2 : CSs := .cons (.setFld "SavedReader" (.var 0) "position" (.bin .add (.var 1) (.int 1))) c1282_3
abbrev c1282_1 : CSs := .cons (.set 2 (.blt .int (.cons (.slc false (.fld "SavedReader" (.var 0) "text") (.some (.fld "SavedReader" (.var 0) "position")) (.some (.var 1))) .nil))) c1282_2
abbrev c1282 : CSs := .cons (.set 1 (.meth "SavedReader" "number_end" 1491 (.var 0) .nil)) c1282_1
/-- what a reader's numbers are -/
def sp1282 : SpD := fun ds M Q E => ∃ (k : Nat) (cs : List Nat) (p : Nat), ds = [.ref k] ∧ M[k]? = some (rdO cs p) ∧ cs.length ≤ 100000 ∧ p ≤ cs.length ∧
  ((nEnd (cs.drop p) = none ∧ E ⟨"SavedTextError", none⟩ M) ∨ ∃ (n : Nat) (t : List Nat), n < 10 ^ 9 ∧ cs.drop p = dg n ++ 59 :: t ∧ Q (.int n) (M.set k (rdO cs (p + (dg n).length + 1))))
theorem ln1282 : ∀ ds M Q E, sp1282 ds M Q E → ds.length = 1 := by
  rintro _ _ _ _ ⟨_, _, _, rfl, _⟩; rfl
theorem rd1282 {Φ : Nat → SpD} {κ : Nat → D} (h1491 : Φ 1491 = sp1491) : RdOk Φ κ c1282 3 (sp1282) := by
  rintro ds M Q E hM hd ⟨k, cs, p, rfl, hk, hl, hp, hQ⟩
  have hk0 := hk
  unfold rdO at hk
  walk_at "go"
  refine ⟨rd_obj hk0 (by decide), ?_⟩
  rw [h1491]
  refine ⟨k, cs, p, rfl, hk0, hl, hp, ?_⟩
  rcases hQ with ⟨h, hE⟩ | ⟨n, t, hn, hcs, hQ⟩
  · rw [h]; exact hE
  rw [hcs, nEnd_dg hn]
  have hlen := congrArg List.length hcs
  rw [List.length_drop, List.length_append, List.length_cons] at hlen
  have hd9 := dg_lenP (k := 8) hn
  have hcut : cutD cs (some (p : Int)) (some ((p + (dg n).length : Nat) : Int)) = dg n := by
    rw [cut_midT, hcs, Nat.add_sub_cancel_left, List.take_left]
  walk_at "go"
  rw [hk]
  walk_at "go"
  rw [hk]
  walk_at "go"
  rw [hcut, mk_tx]
  refine bt_int_str (int_dg hn) (by rw [tx_len]; omega) ?_
  walk_at "go"
  rw [hk]
  walk_at "go"
  rw [show ((p + (dg n).length : Nat) : Int) + 1 = ((p + (dg n).length + 1 : Nat) : Int) by omega]
  exact .keep hQ
abbrev c1283_5 : CSs := .cons (.raise "SavedTextError" (.str "the text is too short")) .nil
abbrev c1283_4 : CSs := .cons (.ret (.slc false (.fld "SavedReader" (.var 0) "text") (.some (.bin .add (.var 1) (.int 1))) (.some (.bin .add (.bin .add (.var 1) (.int 1)) (.var 2))))) .nil
abbrev c1283_3 : CSs := .cons (.setFld "SavedReader" (.var 0) "position" (.bin .add (.bin .add (.var 1) (.int 1)) (.var 2))) c1283_4
abbrev c1283_2 : CSs := .cons (.ifs (.cmp .gt (.var 2) (.bin .sub (.bin .sub (.blt .len (.cons (.fld "SavedReader" (.var 0) "text") .nil)) (.var 1)) (.int 1))) c1283_5 .nil) c1283_3
abbrev c1283_1 : CSs := .cons (.set 2 (.blt .int (.cons (.slc false (.fld "SavedReader" (.var 0) "text") (.some (.fld "SavedReader" (.var 0) "position")) (.some (.var 1))) .nil))) c1283_2
abbrev c1283 : CSs := .cons (.set 1 (.meth "SavedReader" "number_end" 1491 (.var 0) .nil)) c1283_1
def sp1283 : SpD := fun ds M Q E => ∃ (k : Nat) (cs : List Nat) (p : Nat), ds = [.ref k] ∧ M[k]? = some (rdO cs p) ∧ cs.length ≤ 100000 ∧ p ≤ cs.length ∧
  ((nEnd (cs.drop p) = none ∧ E ⟨"SavedTextError", none⟩ M) ∨ ∃ (n : Nat) (t : List Nat), n < 10 ^ 9 ∧ cs.drop p = dg n ++ 59 :: t ∧
    (if n ≤ t.length then Q (.str (tx (t.take n))) (M.set k (rdO cs (p + (dg n).length + 1 + n))) else E ⟨"SavedTextError", none⟩ M))
theorem ln1283 : ∀ ds M Q E, sp1283 ds M Q E → ds.length = 1 := by
  rintro _ _ _ _ ⟨_, _, _, rfl, _⟩; rfl
theorem rd1283 {Φ : Nat → SpD} {κ : Nat → D} (h1491 : Φ 1491 = sp1491) : RdOk Φ κ c1283 3 (sp1283) := by
  rintro ds M Q E hM hd ⟨k, cs, p, rfl, hk, hl, hp, hQ⟩
  have hk0 := hk
  unfold rdO at hk
  walk_at "go"
  refine ⟨rd_obj hk0 (by decide), ?_⟩
  rw [h1491]
  refine ⟨k, cs, p, rfl, hk0, hl, hp, ?_⟩
  rcases hQ with ⟨h, hE⟩ | ⟨n, t, hn, hcs, hQ⟩
  · rw [h]; exact hE
  rw [hcs, nEnd_dg hn]
  have hlen := congrArg List.length hcs
  rw [List.length_drop, List.length_append, List.length_cons] at hlen
  have hd9 := dg_lenP (k := 8) hn
  have hcut : cutD cs (some (p : Int)) (some ((p + (dg n).length : Nat) : Int)) = dg n := by
    rw [cut_midT, hcs, Nat.add_sub_cancel_left, List.take_left]
  have htx : cs.drop (p + (dg n).length + 1) = t := by
    rw [Nat.add_assoc, ← List.drop_drop, hcs, ← List.drop_drop, List.drop_left]; rfl
  walk_at "go"
  rw [hk]
  walk_at "go"
  rw [hk]
  walk_at "go"
  rw [hcut, mk_tx]
  refine bt_int_str (int_dg hn) (by rw [tx_len]; omega) ?_
  walk_at "go"
  rw [hk]
  walk_at "go"
  rw [tx_len]
  refine iteI (fun h => ?_) fun h => ?_
  · rw [if_neg (by omega)] at hQ
    walk_at "go"
    exact hQ
  · rw [if_pos (by omega)] at hQ
    walk_at "go"
    rw [hk]
    walk_at "go"
    have hkl : k < M.length := (List.getElem?_eq_some_iff.mp hk).1
    rw [List.getElem?_set_self hkl]
    walk_at "go"
    rw [show ((p + (dg n).length : Nat) : Int) + 1 + (n : Int) = ((p + (dg n).length + 1 + n : Nat) : Int) by omega, show ((p + (dg n).length : Nat) : Int) + 1 = ((p + (dg n).length + 1 : Nat) : Int) by omega]
    rw [cut_midT, htx, Nat.add_sub_cancel_left]
    exact .keep hQ
abbrev c1553_2 : CSs := .cons (.expr (.meth "SavedReader" "take_number" 1282 (.var 0) .nil)) .nil
abbrev c1553_4 : CSs := .cons (.expr (.meth "SavedReader" "take_text" 1283 (.var 0) .nil)) .nil
abbrev c1553_5 : CSs := .cons (.expr (.meth "SavedReader" "take_head" 1280 (.var 0) (.cons (.var 2) .nil))) .nil
abbrev c1553_3 : CSs := .cons (.ifs (.cmp .eq (.var 1) (.int 1)) c1553_4 c1553_5) .nil
abbrev c1553_1 : CSs := .cons (.ifs (.cmp .eq (.var 1) (.int 0)) c1553_2 c1553_3) .nil
abbrev c1553_6 : CSs := .cons (.ret (.and (.xis 3 "SavedTextError") (.and (.xis 3 "ValueError") (.not (.xis 3 "CountError"))))) .nil
abbrev x1553 : List Str := ["FirstwayError", "CountError", "SavedTextError"]
abbrev c1553 : List TBk := [.tr c1553_1 [⟨"FirstwayError", some 3, c1553_6⟩], .one (.ret (.bl false))]
def sp1553 : SpD := fun ds M Q E => ∃ (k : Nat) (cs h : List Nat) (p kd : Nat), ds = [.ref k, .int kd, .str (tx h)] ∧ M[k]? = some (rdO cs p) ∧ cs.length ≤ 100000 ∧ p ≤ cs.length ∧ h.length ≤ 100000 ∧
  ((kd = 0 ∧ nEnd (cs.drop p) = none) ∨ (kd = 1 ∧ (nEnd (cs.drop p) = none ∨ ∃ (n : Nat) (t : List Nat), n < 10 ^ 9 ∧ cs.drop p = dg n ++ 59 :: t ∧ t.length < n)) ∨ (kd = 2 ∧ (cs.drop p).take h.length ≠ h)) ∧ Q (.bl true) M
theorem ln1553 : ∀ ds M Q E, sp1553 ds M Q E → ds.length = 3 := by
  rintro _ _ _ _ ⟨_, _, _, _, _, rfl, _⟩; rfl
theorem rd1553 {Φ : Nat → SpD} {κ : Nat → D} (h1282 : Φ 1282 = sp1282) (h1283 : Φ 1283 = sp1283) (h1280 : Φ 1280 = sp1280) : RdOkB Φ κ x1553 c1553 4 (sp1553) := by
  rintro ds M Q E hM hd ⟨k, cs, h, p, kd, rfl, hk, hl, hp, hh, hc, hQ⟩
  show nxb _ _ _ _ _ _ _ _
  have err : ∀ K : EndsD, K.rt = (endsD M.length Q).rt → hdsR Φ x1553 (fun x _ M => E x M) K [⟨"FirstwayError", some 3, c1553_6⟩] ⟨"SavedTextError", none⟩ [some (.ref k), some (.int kd), some (.str (tx h)), none] M := by
    intro K hK
    walk_at "go"
    intro a o
    walk_at "go"
    rw [hK]
    exact .keep hQ
  walk_at "go"
  rcases hc with ⟨rfl, h0⟩ | ⟨rfl, h0⟩ | ⟨rfl, h0⟩
  · walk_at "go"
    refine ⟨rd_obj hk (by decide), ?_⟩
    rw [h1282]
    exact ⟨k, cs, p, rfl, hk, hl, hp, .inl ⟨h0, err _ rfl⟩⟩
  · walk_at "go"
    refine ⟨rd_obj hk (by decide), ?_⟩
    rw [h1283]
    refine ⟨k, cs, p, rfl, hk, hl, hp, ?_⟩
    rcases h0 with h0 | ⟨n, t, hn, hcs, ht⟩
    · exact .inl ⟨h0, err _ rfl⟩
    · refine .inr ⟨n, t, hn, hcs, ?_⟩
      rw [if_neg (by omega)]
      exact err _ rfl
  · walk_at "go"
    refine ⟨rd_obj hk (by decide), ?_⟩
    rw [h1280]
    refine ⟨k, cs, h, p, rfl, hk, hl, hh, ?_⟩
    rw [if_neg h0]
    exact err _ rfl
abbrev c1281 : CSs := .cons (.ret (.cmp .eq (.fld "SavedReader" (.var 0) "position") (.blt .len (.cons (.fld "SavedReader" (.var 0) "text") .nil)))) .nil
def sp1281 : SpD := fun ds M Q _ => ∃ (k : Nat) (cs : List Nat) (p : Nat), ds = [.ref k] ∧ M[k]? = some (rdO cs p) ∧ cs.length ≤ 100000 ∧ Q (.bl (decide (p = cs.length))) M
theorem ln1281 : ∀ ds M Q E, sp1281 ds M Q E → ds.length = 1 := by
  rintro _ _ _ _ ⟨_, _, _, rfl, _⟩; rfl
theorem rd1281 {Φ : Nat → SpD} {κ : Nat → D} : RdOk Φ κ c1281 1 (sp1281) := by
  rintro ds M Q E hM hd ⟨k, cs, p, rfl, hk, hl, hQ⟩
  unfold rdO at hk
  walk_at "go"
  rw [hk]
  walk_at "go"
  rw [hk]
  walk_at "go"
  rw [tx_len]
  have e : decide ((p : Int) = (cs.length : Int)) = decide (p = cs.length) := by
    by_cases h : p = cs.length
    · rw [decide_eq_true h, decide_eq_true (by omega)]
    · rw [decide_eq_false h, decide_eq_false (by omega)]
  rw [e]
  exact .keep hQ
abbrev c1284_10 : CSs := .cons (.ret (.bl false)) .nil
abbrev c1284_11 : CSs := .cons (.ret (.bl false)) .nil
abbrev c1284_9 : CSs := .cons (.ifs (.or (.cmp .notN (.meth "SavedReader" "take_head" 1280 (.var 5) (.cons (.var 3) .nil)) .non) (.cmp .notB (.meth "SavedReader" "at_end" 1281 (.var 5) .nil) (.bl true))) c1284_11 .nil) .nil
abbrev c1284_8 : CSs := .cons (.ifs (.not (.call 1553 (.cons (.var 5) (.cons (.var 6) (.cons (.str "") .nil))))) c1284_10 .nil) c1284_9
abbrev c1284_7 : CSs := .cons (.expr (.meth "SavedReader" "take_head" 1280 (.var 5) (.cons (.str "x") .nil))) c1284_8
abbrev c1284_6 : CSs := .cons (.set 5 (.make true 941 "SavedReader" (.cons (.bin .add (.str "x") (.var 3)) .nil))) c1284_7
abbrev c1284_5 : CSs := .cons (.fors (.nm 6) (.rng1 (.int 2)) c1284_6) .nil
abbrev c1284_4 : CSs := .cons (.ret (.and (.call 1553 (.cons (.var 5) (.cons (.int 1) (.cons (.str "") .nil)))) (.call 3 (.cons (.meth "SavedReader" "take_number" 1282 (.var 5) .nil) (.cons (.bin .add (.var 4) (.int 1)) .nil))))) .nil
abbrev c1284_3 : CSs := .cons (.set 5 (.make true 941 "SavedReader" (.cons (.bin .add (.bin .add (.blt .str (.cons (.bin .add (.var 4) (.int 1)) .nil)) (.str ";")) (.bin .mul (.str "1") (.var 4))) .nil))) c1284_4
abbrev c1284_2 : CSs := .cons (.set 4 (.call 2 (.cons (.var 0) (.cons (.var 1) (.cons (.int 9) .nil))))) c1284_3
abbrev c1284_1 : CSs := .cons (.fors (.nm 3) (.seq (.var 2)) c1284_5) c1284_2
abbrev c1284 : CSs := .cons (.set 2 (.lst false (.cons (.str "") (.cons (.str ";") (.cons (.str "-1;") (.cons (.str "+1;") (.cons (.str "01;") (.cons (.str "00;") (.cons (.str "1000000000;") (.cons (.str "12") (.cons (.str "1 ;") (.cons (.str " 1;") (.cons (.str "a;") (.cons (.str "1:") (.cons (.bin .add (.bin .mul (.str "9") (.int 40)) (.str ";")) .nil))))))))))))))) c1284_1
def wrs : List (List Nat) := [[], [59], [45, 49, 59], [43, 49, 59], [48, 49, 59], [48, 48, 59], [49, 48, 48, 48, 48, 48, 48, 48, 48, 48, 59], [49, 50], [49, 32, 59], [32, 49, 59], [97, 59], [49, 58], List.replicate 40 57 ++ [59]]
theorem wrs_ok : ∀ w ∈ wrs, nEnd w = none ∧ w.length ≤ 41 := by decide +kernel
def sp1284 : SpD := fun ds M Q E => ∃ (ns : List Int) (a b : Int) (R : Md), ds = [.scr ns, .ref 0] ∧ M = .lst [.int a, .int b] :: R ∧ 0 ≤ a ∧ 0 ≤ b ∧
  ∀ (a' b' : Int), 0 ≤ a' → 0 ≤ b' → Q (.bl true) (.lst [.int a', .int b'] :: R)
theorem ln1284 : ∀ ds M Q E, sp1284 ds M Q E → ds.length = 2 := by
  rintro _ _ _ _ ⟨_, _, _, _, rfl, _⟩; rfl
theorem rd1284 {Φ : Nat → SpD} {κ : Nat → D} (h941 : Φ 941 = sp941) (h1280 : Φ 1280 = sp1280) (h1553 : Φ 1553 = sp1553) (h1281 : Φ 1281 = sp1281) (h2 : Φ 2 = sp2w) (h3 : Φ 3 = sp3 (1)) (h1282 : Φ 1282 = sp1282) : RdOk Φ κ c1284 7 (sp1284) := by
  rintro ds M Q E hM hd ⟨ns, a, b, R, rfl, rfl, ha, hb, hQ⟩
  have ex : Str.ofString "x" = tx [120] := by decide +kernel
  have e1 : Str.ofString "1" = tx [49] := by decide +kernel
  have e59 : Str.ofString ";" = tx [59] := by decide +kernel
  have e0 : Str.ofString "" = tx [] := by decide +kernel
  have ew : [D.str (Str.ofString ""), D.str (Str.ofString ";"), D.str (Str.ofString "-1;"), D.str (Str.ofString "+1;"),
      D.str (Str.ofString "01;"), D.str (Str.ofString "00;"), D.str (Str.ofString "1000000000;"),
      D.str (Str.ofString "12"), D.str (Str.ofString "1 ;"), D.str (Str.ofString " 1;"), D.str (Str.ofString "a;"),
      D.str (Str.ofString "1:"), D.str (repS (Str.ofString "9") 40 ++ Str.ofString ";")] = wrs.map fun l => D.str (tx l) := by
    have h9 : repS (Str.ofString "9") 40 = tx (List.replicate 40 57) := by rw [show Str.ofString "9" = tx [57] by decide +kernel, repS_tx]
    rw [h9]
    have := congrArg (List.map D.str) (show [Str.ofString "", Str.ofString ";", Str.ofString "-1;", Str.ofString "+1;", Str.ofString "01;", Str.ofString "00;", Str.ofString "1000000000;", Str.ofString "12", Str.ofString "1 ;", Str.ofString " 1;", Str.ofString "a;", Str.ofString "1:", tx (List.replicate 40 57) ++ Str.ofString ";"] = wrs.map tx by decide +kernel)
    rw [List.map_map] at this
    exact this
  walk_at "go"
  rw [ew]
  refine for_list (xs := wrs) (enc := fun l => D.str (tx l)) [3, 5, 6] (fun r js M' => ∃ (x3 x5 x6 : Option D) (L : Md), js = [x3, x5, x6] ∧ M' = (MO.lst [D.int a, D.int b] :: R) ++ L ∧ ∀ w ∈ r, w ∈ wrs) ⟨[_, _, _], rfl, _, _, _, [], rfl, by rw [List.append_nil], fun _ h => h⟩ ?_ ?_
  · rintro w r js M' nx ⟨x3, x5, x6, L, rfl, rfl, hr⟩ hn
    obtain ⟨hw, hwl⟩ := wrs_ok w (hr w List.mem_cons_self)
    walk_at "go"
    refine for_rng [5, 6] (fun j js M' => ∃ (x5 x6 : Option D) (L : Md), js = [x5, x6] ∧ M' = (MO.lst [D.int a, D.int b] :: R) ++ L) (by omega) ⟨[_, _], rfl, _, _, _, rfl, rfl⟩ ?_ ?_
    · rintro j js M' nx2 j0 j1 ⟨x5, x6, L, rfl, rfl⟩ hn2
      obtain ⟨kd, rfl⟩ : ∃ q : Nat, j = q := ⟨j.toNat, by omega⟩
      obtain ⟨N, hN⟩ : ∃ N, N = (MO.lst [D.int a, D.int b] :: R) ++ L := ⟨_, rfl⟩
      rw [← hN]
      walk_at "go"
      refine ⟨by rw [ex, tx_len, tx_len, size_eq]; simp; omega, ?_⟩
      rw [ex, tx_cat, h941]
      refine ⟨N, _, rfl, rfl, ?_⟩
      walk_at "go"
      have hk : (N ++ [rdO ([120] ++ w) 0])[N.length]? = some (rdO ([120] ++ w) 0) := by simp
      have hs : ∀ x y : MO, (N ++ [x]).set N.length y = N ++ [y] := fun x y => by simp
      refine ⟨rd_obj hk (by decide), ?_⟩
      rw [ex, h1280]
      refine ⟨_, _, [120], _, rfl, hk, by simp; omega, by decide, ?_⟩
      rw [if_pos (by simp)]
      walk_at "go"
      have hk1 : (N ++ [rdO ([120] ++ w) 1])[N.length]? = some (rdO ([120] ++ w) 1) := by simp
      try rw [hs]
      try rw [show 0 + ([120] : List Nat).length = 1 from rfl]
      walk_at "go"
      rw [e0, h1553]
      refine ⟨_, _, [], _, kd, rfl, hk1, by simp; omega, by simp, by simp, ?_, ?_⟩
      · have hd1 : ([120] ++ w).drop 1 = w := rfl
        rw [hd1]
        obtain rfl | rfl : kd = 0 ∨ kd = 1 := by omega
        · exact .inl ⟨rfl, hw⟩
        · exact .inr (.inl ⟨rfl, .inl hw⟩)
      walk_at "go"
      refine ⟨rd_obj hk1 (by decide), ?_⟩
      rw [h1280]
      refine ⟨_, _, _, _, rfl, hk1, by simp; omega, by omega, ?_⟩
      rw [if_pos (by simp)]
      walk_at "go"
      try rw [hs]
      have hk2 : (N ++ [rdO ([120] ++ w) (1 + w.length)])[N.length]? = some (rdO ([120] ++ w) (1 + w.length)) := by simp
      try walk_at "go"
      refine ⟨rd_obj hk2 (by decide), ?_⟩
      rw [h1281]
      refine ⟨_, _, _, rfl, hk2, by simp; omega, ?_⟩
      rw [decide_eq_true (by simp; omega)]
      walk_at "go"
      refine hn2 [_, _] _ ⟨_, _, L ++ [rdO ([120] ++ w) (1 + w.length)], rfl, ?_⟩
      rw [hN, List.append_assoc]; rfl
    · rintro js M' ⟨x5, x6, L, rfl, rfl⟩
      walk_at "go"
      exact hn [_, _, _] _ ⟨_, _, _, L, rfl, rfl, fun v hv => hr v (List.mem_cons_of_mem _ hv)⟩
  · rintro js M' ⟨x3, x5, x6, L, rfl, rfl, -⟩
    walk_at "go"
    refine dig h2 ha hb (by omega) (by omega) fun s a b s0 s1 ha hb => ?_; walk_at "go"
    obtain ⟨n, rfl⟩ : ∃ q : Nat, s = q := ⟨s.toNat, by omega⟩
    have hn9 : n + 1 < 10 ^ 9 := by omega
    have hdl := dg_lenP (k := 8) hn9
    rw [show ((n : Int) + 1) = ((n + 1 : Nat) : Int) by omega, str_dg, e59, e1, tx_cat, repS_tx, tx_cat, show ((n : Int)).toNat = n by omega, tx_len, tx_len, tx_len, tx_len]
    obtain ⟨N, hN⟩ : ∃ N, N = MO.lst [D.int a, D.int b] :: (R ++ L) := ⟨_, rfl⟩
    obtain ⟨cs, hcs⟩ : ∃ cs, cs = dg (n + 1) ++ 59 :: List.replicate n 49 := ⟨_, rfl⟩
    have hcl : cs.length = (dg (n + 1)).length + n + 1 := by rw [hcs]; simp; omega
    refine ⟨log_9 hn9, by rw [size_eq]; simp; omega, by omega, by rw [size_eq]; simp; omega, by rw [size_eq, tx_len, List.length_append, List.length_replicate]; simp; omega, ?_⟩
    have hk : (N ++ [rdO cs 0])[N.length]? = some (rdO cs 0) := by simp
    have hs : ∀ x y : MO, (N ++ [x]).set N.length y = N ++ [y] := fun x y => by simp
    rw [h941]
    refine ⟨N, cs, by rw [hN, hcs]; simp, by rw [hN]; simp, ?_⟩
    try walk_at "go"
    rw [show List.length R + List.length L + 1 = N.length by rw [hN]; simp]
    rw [e0, h1553]
    refine ⟨_, _, [], _, 1, rfl, hk, by omega, by omega, by simp, .inr (.inl ⟨rfl, .inr ⟨n + 1, List.replicate n 49, hn9, by rw [hcs]; rfl, by simp⟩⟩), ?_⟩
    walk_at "go"
    refine ⟨rd_obj hk (by decide), ?_⟩
    rw [h1282]
    refine ⟨_, _, _, rfl, hk, by omega, by omega, .inr ⟨n + 1, List.replicate n 49, hn9, by rw [hcs]; rfl, ?_⟩⟩
    walk_at "go"
    rw [h3]
    refine ⟨_, _, rfl, .inr (.inr (.inl ⟨_, rfl, rfl⟩)), ?_⟩
    walk_at "go"
    have hM2 : MOk (.lst [.int a, .int b] :: R) := hM.head ⟨trivial, trivial, trivial⟩
    rw [hN]
    have e : ∀ x : MO, MO.lst [D.int a, D.int b] :: (R ++ L) ++ [x] = (MO.lst [D.int a, D.int b] :: R) ++ (L ++ [x]) := fun x => by simp
    rw [e]
    exact .val rfl hM2 rfl (hQ _ _ ha hb)
abbrev c1492_14 : CSs := .cons (.ret (.bl false)) .nil
abbrev c1492_13 : CSs := .cons (.set 4 (.bin .add (.var 4) (.var 7))) .nil
abbrev c1492_12 : CSs := .cons (.ifs (.not (.call 3 (.cons (.var 7) (.cons (.call 449 (.cons (.var 5) .nil)) .nil)))) c1492_14 .nil) c1492_13
abbrev c1492_11 : CSs := .cons (.set 7 (.ife (.not (.blt (.isi "str") (.cons (.var 5) .nil))) (.call 447 (.cons (.var 5) .nil)) (.call 448 (.cons (.var 5) .nil)))) c1492_12
abbrev c1492_15 : CSs := .cons (.ret (.bl false)) .nil
abbrev c1492_16 : CSs := .cons (.ret (.bl false)) .nil
abbrev c1492_19 : CSs := .cons (.ret (.bl false)) .nil
abbrev c1492_21 : CSs := .cons (.ret (.bl false)) .nil
abbrev c1492_20 : CSs := .cons (.ifs (.not (.call 3 (.cons (.meth "SavedReader" "take_text" 1283 (.var 6) .nil) (.cons (.var 5) .nil)))) c1492_21 .nil) .nil
abbrev c1492_23 : CSs := .cons (.ret (.bl false)) .nil
abbrev c1492_22 : CSs := .cons (.ifs (.not (.call 3 (.cons (.meth "SavedReader" "take_number" 1282 (.var 6) .nil) (.cons (.var 5) .nil)))) c1492_23 .nil) .nil
abbrev c1492_18 : CSs := .cons (.ifs (.blt (.isi "str") (.cons (.var 5) .nil)) c1492_20 c1492_22) .nil
abbrev c1492_17 : CSs := .cons (.ifs (.or (.cmp .notB (.meth "SavedReader" "at_end" 1281 (.var 6) .nil) (.bl false)) (.not (.call 1553 (.cons (.var 6) (.cons (.int 2) (.cons (.bin .add (.bin .add (.call 449 (.cons (.var 5) .nil)) (.str "!")) (.var 4)) .nil)))))) c1492_19 .nil) c1492_18
abbrev c1492_24 : CSs := .cons (.ret (.bl false)) .nil
abbrev c1492_10 : CSs := .cons (.ret (.call 1284 (.cons (.var 0) (.cons (.var 1) .nil)))) .nil
abbrev c1492_9 : CSs := .cons (.ifs (.or (.cmp .notB (.meth "SavedReader" "at_end" 1281 (.var 6) .nil) (.bl true)) (.or (.not (.call 1553 (.cons (.var 6) (.cons (.int 0) (.cons (.str "") .nil))))) (.not (.call 1553 (.cons (.var 6) (.cons (.int 1) (.cons (.str "") .nil))))))) c1492_24 .nil) c1492_10
abbrev c1492_8 : CSs := .cons (.fors (.nm 5) (.seq (.var 3)) c1492_17) c1492_9
abbrev c1492_7 : CSs := .cons (.ifs (.cmp .notN (.meth "SavedReader" "take_head" 1280 (.var 6) (.cons (.var 2) .nil)) .non) c1492_16 .nil) c1492_8
abbrev c1492_6 : CSs := .cons (.ifs (.or (.not (.call 1553 (.cons (.var 6) (.cons (.int 2) (.cons (.bin .add (.var 4) (.str "a")) .nil))))) (.not (.call 1553 (.cons (.var 6) (.cons (.int 2) (.cons (.bin .add (.str "\t\n~") (.var 4)) .nil)))))) c1492_15 .nil) c1492_7
abbrev c1492_5 : CSs := .cons (.set 6 (.make true 941 "SavedReader" (.cons (.var 4) .nil))) c1492_6
abbrev c1492_4 : CSs := .cons (.fors (.nm 5) (.seq (.var 3)) c1492_11) c1492_5
abbrev c1492_3 : CSs := .cons (.set 4 (.var 2)) c1492_4
abbrev c1492_2 : CSs := .cons (.set 3 (.comp false (.call 446 (.cons (.var 0) (.cons (.var 1) .nil))) (.nm 8) (.rng1 (.call 2 (.cons (.var 0) (.cons (.var 1) (.cons (.int 10) .nil))))) .none [8])) c1492_3
abbrev c1492_1 : CSs := .cons (.set 2 (.call 47 (.cons (.var 0) (.cons (.var 1) (.cons (.int 6) .nil))))) c1492_2
abbrev c1492 : CSs := .cons (.set 1 (.lst true (.cons (.int 0) (.cons (.int 0) .nil)))) c1492_1
theorem wo_len {w : Wo} (h : w.ok) : w.w.length ≤ 22 ∧ 1 ≤ w.w.length := by
  cases w with
  | num n =>
    have := dg_lenP (k := 8) (show n < 10 ^ 9 from h)
    show (dg n ++ [59]).length ≤ 22 ∧ 1 ≤ (dg n ++ [59]).length
    simp; omega
  | txt l =>
    have hl : l.length ≤ 12 := h
    have := dg_lenP (k := 8) (n := l.length) (by omega)
    show (dg l.length ++ 59 :: l).length ≤ 22 ∧ 1 ≤ (dg l.length ++ 59 :: l).length
    simp; omega
def wsT (ws : List Wo) : List Nat := (ws.map Wo.w).flatten
theorem wsT_nil : wsT [] = [] := rfl
theorem wsT_cons {w : Wo} {ws : List Wo} : wsT (w :: ws) = w.w ++ wsT ws := rfl
theorem wsT_app {a b : List Wo} : wsT (a ++ b) = wsT a ++ wsT b := by simp [wsT]
theorem wsT_len : ∀ {ws : List Wo}, (∀ w ∈ ws, w.ok) → (wsT ws).length ≤ 22 * ws.length
  | [], _ => Nat.le_refl _
  | w :: ws, h => by
    have h1 := (wo_len (h w List.mem_cons_self)).1
    have h2 := wsT_len (ws := ws) fun x hx => h x (List.mem_cons_of_mem _ hx)
    rw [wsT_cons, List.length_append, List.length_cons]; omega
theorem rd1492 {Φ : Nat → SpD} {κ : Nat → D} (h47 : Φ 47 = sp47w) (h446 : Φ 446 = sp446) (h2 : Φ 2 = sp2w) (h447 : Φ 447 = sp447) (h448 : Φ 448 = sp448) (h3 : Φ 3 = sp3 (1)) (h449 : Φ 449 = sp449) (h941 : Φ 941 = sp941) (h1553 : Φ 1553 = sp1553) (h1280 : Φ 1280 = sp1280) (h1281 : Φ 1281 = sp1281) (h1283 : Φ 1283 = sp1283) (h1282 : Φ 1282 = sp1282) (h1284 : Φ 1284 = sp1284) : RdOk Φ κ c1492 9 (spLaw 63) := by
  rintro ds M Q E hM hd ⟨ns, hns, rfl, rfl, hQ⟩
  walk_at "go"
  rw [h47]
  refine ⟨ns, 0, 0, 6, [], [], rfl, rfl, by decide, by decide, by decide, fun hd a b hhd _ ha hb => ?_⟩
  walk_at "go"
  refine dig h2 ha hb (by omega) (by omega) fun k a b k0 k1 ha hb => ?_; walk_at "go"
  obtain ⟨k, rfl⟩ : ∃ q : Nat, k = q := ⟨k.toNat, by omega⟩
  rw [rngD_eq]
  refine comp_inv (lk := none) (fun rem acc M' => ∃ (ws : List Wo) (a b : Int), M' = [.lst [.int a, .int b]] ∧ 0 ≤ a ∧ 0 ≤ b ∧ acc = ws.map Wo.d ∧ (∀ w ∈ ws, w.ok) ∧ ws.length + rem.length = k) (fun _ _ _ _ => trivial) ?_ ?_ _ _ _ ⟨[], a, b, rfl, ha, hb, rfl, (fun _ h => by cases h), by simp⟩
  · rintro d rem acc M' C ⟨ws, a, b, rfl, ha, hb, rfl, hw, hl⟩ hC
    rw [List.length_cons] at hl
    walk_at "go"
    rw [h446]
    refine ⟨ns, a, b, [], rfl, rfl, ha, hb, fun w a b ok ha hb => ?_⟩
    walk_at "go"
    refine hC _ _ ⟨ws ++ [w], a, b, rfl, ha, hb, by rw [List.map_append]; rfl, fun x hx => ?_, by rw [List.length_append]; show _ + 1 + _ = _; omega⟩
    rcases List.mem_append.mp hx with h | h
    · exact hw x h
    · rw [List.mem_singleton.mp h]; exact ok
  rintro acc M' ⟨ws, a, b, rfl, ha, hb, rfl, hw, hl⟩
  have hl : ws.length = k := by simpa using hl
  have hwt := wsT_len hw
  walk_at "go"
  refine for_list (xs := ws) (enc := Wo.d) [4, 5, 7] (fun r js M' => ∃ (done : List Wo) (x5 x7 : Option D), js = [some (.str (tx (hd ++ wsT done))), x5, x7] ∧ M' = [.lst [.int a, .int b]] ∧ done ++ r = ws) ⟨[_, _, _], rfl, [], _, _, by rw [wsT_nil, List.append_nil], rfl, rfl⟩ ?_ ?_
  · rintro w r js M' nx ⟨done, x5, x7, rfl, rfl, hr⟩ hn
    have hok : w.ok := hw w (by rw [← hr]; simp)
    have hdl : (wsT done).length ≤ 22 * done.length := wsT_len fun x hx => hw x (by rw [← hr]; simp [hx])
    have hdk : done.length + r.length + 1 = k := by rw [← hl, ← hr]; simp; omega
    have hwl := wo_len hok
    have fin : nxt Φ κ c1492_12 (fun x _ M => E x M) ⟨nx, (endsD 0 Q).rt, nxt Φ κ c1492_5 (fun x _ M => E x M) (endsD 0 Q), nx⟩ [some (.scr ns), some (.ref 0), some (.str (tx hd)), some (.lst (ws.map Wo.d)), some (.str (tx (hd ++ wsT done))), some w.d, none, some (.str (tx w.w)), none] [.lst [.int a, .int b]] := by
      walk_at "go"
      rw [h449]
      refine ⟨w, rfl, hok, ?_⟩
      walk_at "go"
      rw [h3]
      refine ⟨_, _, rfl, eqv_refl (n := 1) (show Plain 1 (.str _) from by show _ ≤ _; rw [tx_len, size_eq]; omega), ?_⟩
      walk_at "go"
      rw [tx_cat]
      refine hn [_, _, _] _ ⟨done ++ [w], some w.d, some (.str (tx w.w)), ?_, rfl, by rw [List.append_assoc]; exact hr⟩
      rw [wsT_app, wsT_cons, wsT_nil, List.append_nil, List.append_assoc]
    cases w with
    | num n =>
      rw [show Wo.d (.num n) = D.int n from rfl] at fin ⊢
      walk_at "go"
      rw [h447]
      refine ⟨n, rfl, hok, ?_⟩
      exact fin
    | txt l =>
      have hl12 : l.length ≤ 12 := hok
      rw [show Wo.d (.txt l) = D.str (tx l) from rfl] at fin ⊢
      walk_at "go"
      rw [h448]
      refine ⟨l, rfl, by omega, ?_⟩
      exact fin
  rintro js M' ⟨done, x5, x7, rfl, rfl, hr⟩
  rw [List.append_nil] at hr
  subst hr
  obtain ⟨cs, hcs⟩ : ∃ cs, cs = hd ++ wsT done := ⟨_, rfl⟩
  have hcl : cs.length ≤ 300 := by rw [hcs, List.length_append]; omega
  rw [← hcs]
  walk_at "go"
  rw [h941]
  refine ⟨[.lst [.int a, .int b]], cs, rfl, rfl, ?_⟩
  have ra : Str.ofString "a" = tx [97] := by decide +kernel
  have rb : Str.ofString "\t\n~" = tx [9, 10, 126] := by decide +kernel
  have rc : Str.ofString "!" = tx [33] := by decide +kernel
  have e0 : Str.ofString "" = tx [] := by decide +kernel
  have bad2 : ∀ (p : Nat) (h : List Nat), (cs.drop p).length < h.length → (cs.drop p).take h.length ≠ h := fun p h hl e => by
    have := congrArg List.length e
    rw [List.length_take] at this
    omega
  have M1 : ∀ x : MO, ([.lst [.int a, .int b]] ++ [x] : Md)[1]? = some x := fun _ => rfl
  walk_at "go"
  rw [ra, rb, tx_cat, tx_cat]
  try walk_at "go"
  rw [h1553]
  refine ⟨_, cs, _, 0, 2, rfl, rfl, by omega, by omega, by simp; omega, .inr (.inr ⟨rfl, bad2 0 _ (by simp)⟩), ?_⟩
  walk_at "go"
  refine ⟨_, cs, _, 0, 2, rfl, rfl, by omega, by omega, by simp; omega, .inr (.inr ⟨rfl, bad2 0 _ (by simp; omega)⟩), ?_⟩
  walk_at "go"
  refine ⟨rd_obj (M := [.lst [.int a, .int b], rdO cs 0]) rfl (by decide), ?_⟩
  rw [h1280]
  refine ⟨_, cs, hd, 0, rfl, rfl, by omega, by omega, ?_⟩
  rw [if_pos (by rw [hcs]; simp)]
  walk_at "go"
  refine for_list (xs := done) (enc := Wo.d) [5] (fun r js M' => ∃ (dn : List Wo) (x5 : Option D), js = [x5] ∧ M' = [.lst [.int a, .int b], rdO cs (hd.length + (wsT dn).length)] ∧ dn ++ r = done) ⟨[_], rfl, [], _, rfl, rfl, rfl⟩ ?_ ?_
  · rintro w r js M' nx ⟨dn, x5, rfl, rfl, hr⟩ hn
    have hok : w.ok := hw w (by rw [← hr]; simp)
    have hwl := wo_len hok
    have hdr : cs.drop (hd.length + (wsT dn).length) = w.w ++ wsT r := by
      rw [hcs, ← hr, wsT_app, wsT_cons, ← List.drop_drop, List.drop_left, List.drop_left]
    have hcl2 : cs.length = hd.length + (wsT dn).length + w.w.length + (wsT r).length := by
      rw [hcs, ← hr, wsT_app, wsT_cons]; simp; omega
    obtain ⟨p, hp⟩ : ∃ p, p = hd.length + (wsT dn).length := ⟨_, rfl⟩
    rw [← hp] at hdr hcl2 ⊢
    have fin : ∀ x5, nx [some (.scr ns), some (.ref 0), some (.str (tx hd)), some (.lst (done.map Wo.d)), some (.str (tx cs)), x5, some (.ref 1), x7, none] [.lst [.int a, .int b], rdO cs (p + w.w.length)] := fun x5 =>
      hn [x5] _ ⟨dn ++ [w], x5, rfl, by rw [wsT_app, wsT_cons, wsT_nil, List.append_nil, List.length_append, hp, Nat.add_assoc], by rw [List.append_assoc]; exact hr⟩
    walk_at "go"
    refine ⟨rd_obj (M := [.lst [.int a, .int b], rdO cs p]) rfl (by decide), ?_⟩
    rw [h1281]
    refine ⟨_, cs, p, rfl, rfl, by omega, ?_⟩
    rw [decide_eq_false (by omega)]
    walk_at "go"
    rw [h449]
    refine ⟨w, rfl, hok, ?_⟩
    walk_at "go"
    rw [rc, tx_cat, tx_cat]
    refine ⟨by rw [tx_len, tx_len, size_eq]; show _ + 1 ≤ _; omega, by rw [tx_len, tx_len, size_eq, List.length_append]; show _ + 1 + _ ≤ _; omega, ?_⟩
    rw [h1553]
    refine ⟨_, cs, _, p, 2, rfl, rfl, by omega, by omega, by simp; omega, .inr (.inr ⟨rfl, bad2 p _ (by simp; omega)⟩), ?_⟩
    walk_at "go"
    cases w with
    | num n =>
      have hn9 : n < 10 ^ 9 := hok
      rw [show Wo.d (.num n) = D.int n from rfl]
      walk_at "go"
      refine ⟨rd_obj (M := [.lst [.int a, .int b], rdO cs p]) rfl (by decide), ?_⟩
      rw [h1282]
      refine ⟨_, cs, p, rfl, rfl, by omega, by omega, .inr ⟨n, wsT r, hn9, by rw [hdr]; simp [Wo.w], ?_⟩⟩
      walk_at "go"
      rw [h3]
      refine ⟨_, _, rfl, .inr (.inr (.inl ⟨_, rfl, rfl⟩)), ?_⟩
      walk_at "go"
      have e : p + (dg n).length + 1 = p + (Wo.num n).w.length := by simp [Wo.w]; omega
      rw [e]
      exact fin _
    | txt l =>
      have hl12 : l.length ≤ 12 := hok
      rw [show Wo.d (.txt l) = D.str (tx l) from rfl]
      walk_at "go"
      refine ⟨rd_obj (M := [.lst [.int a, .int b], rdO cs p]) rfl (by decide), ?_⟩
      rw [h1283]
      refine ⟨_, cs, p, rfl, rfl, by omega, by omega, .inr ⟨l.length, l ++ wsT r, by omega, by rw [hdr]; simp [Wo.w], ?_⟩⟩
      rw [if_pos (by simp), List.take_left]
      walk_at "go"
      rw [h3]
      refine ⟨_, _, rfl, eqv_refl (n := 1) (show Plain 1 (.str _) from by show _ ≤ _; rw [tx_len, size_eq]; omega), ?_⟩
      walk_at "go"
      have e : p + (dg l.length).length + 1 + l.length = p + (Wo.txt l).w.length := by simp [Wo.w]; omega
      rw [e]
      exact fin _
  rintro js M' ⟨dn, x5, rfl, rfl, hr⟩
  rw [List.append_nil] at hr
  subst hr
  have hp : hd.length + (wsT dn).length = cs.length := by rw [hcs]; simp
  rw [hp]
  walk_at "go"
  refine ⟨rd_obj (M := [.lst [.int a, .int b], rdO cs cs.length]) rfl (by decide), ?_⟩
  rw [h1281]
  refine ⟨_, cs, _, rfl, rfl, by omega, ?_⟩
  rw [decide_eq_true rfl]
  walk_at "go"
  have hne : nEnd (cs.drop cs.length) = none := by rw [List.drop_of_length_le (Nat.le_refl _)]; rfl
  rw [e0, h1553]
  refine ⟨_, cs, [], _, 0, rfl, rfl, by omega, by omega, by simp, .inl ⟨rfl, hne⟩, ?_⟩
  walk_at "go"
  refine ⟨_, cs, [], _, 1, rfl, rfl, by omega, by omega, by simp, .inr (.inl ⟨rfl, .inl hne⟩), ?_⟩
  walk_at "go"
  rw [h1284]
  refine ⟨ns, a, b, [rdO cs cs.length], rfl, rfl, ha, hb, fun a b ha hb => ?_⟩
  walk_at "go"
  exact .keep (hQ _)
def ΦL (d3 : Nat) : Nat → SpD
  | 1 => sp1
  | 2 => sp2w
  | 47 => sp47w
  | 446 => sp446
  | 447 => sp447
  | 448 => sp448
  | 3 => sp3 d3
  | 449 => sp449
  | 941 => sp941
  | 1491 => sp1491
  | 1282 => sp1282
  | 1283 => sp1283
  | 1280 => sp1280
  | 1553 => sp1553
  | 1281 => sp1281
  | 1284 => sp1284
  | _ => fun _ _ _ _ => False
def κL : Nat → D
  | 42 => k42
  | 45 => k45
  | _ => .non
def FLL : List (Str × Str) := [(("SavedReader", "text") : Str × Str), (("SavedReader", "position") : Str × Str)]
abbrev clsL (K : PySem.W.Frag) : Str → Addr := fun c => He.ga K c
def xcL : XCtx := { xs := ["FirstwayError", "CountError", "SavedTextError"], xr := ["SavedTextError"], xi := [], xf := [], kd := [] }
def N1 : List Str := ["_law_script", "_law_k", "_law_cell", "_law_mixed"]
def G1 : List (Str × GD) := []
def B1 : List Str := ["len", "int"]
theorem sc1 : FnScope N1 ["_law_script", "_law_k"] (defScope s1) := ⟨rfl, rfl, rfl, by decide +kernel, rfl, by decide +kernel, by decide +kernel⟩
theorem ck1 : chkSs ⟨N1, defScope s1, fun _ => true, G1, B1, [], [], [], [], [], [], [], {}⟩ c1 (defBody s1) = true := by decide +kernel
def N2 : List Str := ["_law_script", "_law_state", "_law_many", "_law_digit_here"]
def G2 : List (Str × GD) := [("_law_row", .fn 1)]
def B2 : List Str := ["int"]
theorem sc2 : FnScope N2 ["_law_script", "_law_state", "_law_many"] (defScope s2) := ⟨rfl, rfl, rfl, by decide +kernel, rfl, by decide +kernel, by decide +kernel⟩
theorem ck2 : chkSs ⟨N2, defScope s2, fun _ => true, G2, B2, [], [], [], [], [], [], [], {}⟩ c2 (defBody s2) = true := by decide +kernel
def N47 : List Str := ["_law_script", "_law_state", "_law_most", "_law_signs", "_law_size", "_law_k"]
def G47 : List (Str × GD) := [("_law_digit", .fn 2)]
def B47 : List Str := ["max", "len", "range"]
theorem sc47 : FnScope N47 ["_law_script", "_law_state", "_law_most"] (defScope s47) := ⟨rfl, rfl, rfl, by decide +kernel, rfl, by decide +kernel, by decide +kernel⟩
theorem ck47 : chkSs ⟨N47, defScope s47, fun _ => true, G47, B47, [], [], [], [], [], [], [], {}⟩ c47 (defBody s47) = true := by decide +kernel
def N446 : List Str := ["_law_script", "_law_state", "_law_kind"]
def G446 : List (Str × GD) := [("_law_digit", .fn 2), ("_law_text", .fn 47)]
def B446 : List Str := []
theorem sc446 : FnScope N446 ["_law_script", "_law_state"] (defScope s446) := ⟨rfl, rfl, rfl, by decide +kernel, rfl, by decide +kernel, by decide +kernel⟩
theorem ck446 : chkSs ⟨N446, defScope s446, fun _ => true, G446, B446, [], [], [], [], [], [], [], {}⟩ c446 (defBody s446) = true := by decide +kernel
def N447 : List Str := ["number"]
def G447 : List (Str × GD) := []
def B447 : List Str := ["str"]
theorem sc447 : FnScope N447 ["number"] (defScope s447) := ⟨rfl, rfl, rfl, by decide +kernel, rfl, by decide +kernel, by decide +kernel⟩
theorem ck447 : chkSs ⟨N447, defScope s447, fun _ => true, G447, B447, [], [], [], [], [], [], [], {}⟩ c447 (defBody s447) = true := by decide +kernel
def N448 : List Str := ["text"]
def G448 : List (Str × GD) := [("write_number", .fn 447)]
def B448 : List Str := ["len"]
theorem sc448 : FnScope N448 ["text"] (defScope s448) := ⟨rfl, rfl, rfl, by decide +kernel, rfl, by decide +kernel, by decide +kernel⟩
theorem ck448 : chkSs ⟨N448, defScope s448, fun _ => true, G448, B448, [], [], [], [], [], [], [], {}⟩ c448 (defBody s448) = true := by decide +kernel
def N3 : List Str := ["_law_actual", "_law_expected", "_law_k"]
def G3 : List (Str × GD) := [("_law_same", .fn 3)]
def B3 : List Str := ["isinstance", "bool", "int", "str", "tuple", "list", "len", "range"]
theorem sc3 : FnScope N3 ["_law_actual", "_law_expected"] (defScope s3) := ⟨rfl, rfl, rfl, by decide +kernel, rfl, by decide +kernel, by decide +kernel⟩
theorem ck3 : chkSs ⟨N3, defScope s3, fun _ => true, G3, B3, [], [], [], [], [], [], [], {}⟩ c3 (defBody s3) = true := by decide +kernel
def N449 : List Str := ["_law_word_here"]
def G449 : List (Str × GD) := []
def B449 : List Str := ["isinstance", "str", "len"]
theorem sc449 : FnScope N449 ["_law_word_here"] (defScope s449) := ⟨rfl, rfl, rfl, by decide +kernel, rfl, by decide +kernel, by decide +kernel⟩
theorem ck449 : chkSs ⟨N449, defScope s449, fun _ => true, G449, B449, [], [], [], [], [], [], [], {}⟩ c449 (defBody s449) = true := by decide +kernel
def N941 : List Str := ["self", "text"]
def G941 : List (Str × GD) := []
def B941 : List Str := []
theorem sc941 : FnScope N941 ["self", "text"] (defScope s941) := ⟨rfl, rfl, rfl, by decide +kernel, rfl, by decide +kernel, by decide +kernel⟩
theorem ck941 : chkSs ⟨N941, defScope s941, fun _ => true, G941, B941, FLL, [], [], [], [], [], [], {}⟩ c941 (defBody s941) = true := by decide +kernel
def N1491 : List Str := ["self", "end", "digits"]
def G1491 : List (Str × GD) := [("DIGITS", .cst 42), ("MOST_DIGITS", .cst 45)]
def B1491 : List Str := ["len"]
theorem sc1491 : FnScope N1491 ["self"] (defScope s1491) := ⟨rfl, rfl, rfl, by decide +kernel, rfl, by decide +kernel, by decide +kernel⟩
theorem ck1491 : chkSs ⟨N1491, defScope s1491, fun _ => true, G1491, B1491, FLL, [], [], [], [], [], [], xcL⟩ c1491 (defBody s1491) = true := by decide +kernel
def N1282 : List Str := ["self", "end", "number"]
def G1282 : List (Str × GD) := []
def B1282 : List Str := ["int"]
theorem sc1282 : FnScope N1282 ["self"] (defScope s1282) := ⟨rfl, rfl, rfl, by decide +kernel, rfl, by decide +kernel, by decide +kernel⟩
theorem ck1282 : chkSs ⟨N1282, defScope s1282, fun _ => true, G1282, B1282, FLL, [], [("SavedReader", "number_end", 1491)], [], [], [], [], {}⟩ c1282 (defBody s1282) = true := by decide +kernel
def N1283 : List Str := ["self", "end", "size"]
def G1283 : List (Str × GD) := []
def B1283 : List Str := ["int", "len"]
theorem sc1283 : FnScope N1283 ["self"] (defScope s1283) := ⟨rfl, rfl, rfl, by decide +kernel, rfl, by decide +kernel, by decide +kernel⟩
theorem ck1283 : chkSs ⟨N1283, defScope s1283, fun _ => true, G1283, B1283, FLL, [], [("SavedReader", "number_end", 1491)], [], [], [], [], xcL⟩ c1283 (defBody s1283) = true := by decide +kernel
def N1280 : List Str := ["self", "head"]
def G1280 : List (Str × GD) := []
def B1280 : List Str := ["len"]
theorem sc1280 : FnScope N1280 ["self", "head"] (defScope s1280) := ⟨rfl, rfl, rfl, by decide +kernel, rfl, by decide +kernel, by decide +kernel⟩
theorem ck1280 : chkSs ⟨N1280, defScope s1280, fun _ => true, G1280, B1280, FLL, [], [], [], [], [], [], xcL⟩ c1280 (defBody s1280) = true := by decide +kernel
def N1553 : List Str := ["_law_reader", "_law_kind", "_law_head", "e"]
def G1553 : List (Str × GD) := []
def B1553 : List Str := ["isinstance", "ValueError"]
theorem sc1553 : FnScope N1553 ["_law_reader", "_law_kind", "_law_head"] (defScope s1553) := ⟨rfl, rfl, rfl, by decide +kernel, rfl, by decide +kernel, by decide +kernel⟩
theorem ck1553 : chkBs ⟨N1553, defScope s1553, fun _ => true, G1553, B1553, [], [], [("SavedReader", "take_number", 1282), ("SavedReader", "take_text", 1283), ("SavedReader", "take_head", 1280)], [], [], [], [], xcL⟩ x1553 c1553 (defBody s1553) = true := by decide +kernel
def N1281 : List Str := ["self"]
def G1281 : List (Str × GD) := []
def B1281 : List Str := ["len"]
theorem sc1281 : FnScope N1281 ["self"] (defScope s1281) := ⟨rfl, rfl, rfl, by decide +kernel, rfl, by decide +kernel, by decide +kernel⟩
theorem ck1281 : chkSs ⟨N1281, defScope s1281, fun _ => true, G1281, B1281, FLL, [], [], [], [], [], [], {}⟩ c1281 (defBody s1281) = true := by decide +kernel
def N1284 : List Str := ["_law_script", "_law_state", "_law_numbers", "_law_text_here", "_law_size", "_law_reader", "_law_kind"]
def G1284 : List (Str × GD) := [("_law_refused", .fn 1553), ("_law_digit", .fn 2), ("_law_same", .fn 3)]
def B1284 : List Str := ["range", "str"]
theorem sc1284 : FnScope N1284 ["_law_script", "_law_state"] (defScope s1284) := ⟨rfl, rfl, rfl, by decide +kernel, rfl, by decide +kernel, by decide +kernel⟩
theorem ck1284 : chkSs ⟨N1284, defScope s1284, fun _ => true, G1284, B1284, [], [("SavedReader", 941, "SavedReader")], [("SavedReader", "take_head", 1280), ("SavedReader", "at_end", 1281), ("SavedReader", "take_number", 1282)], [], [], [], [], {}⟩ c1284 (defBody s1284) = true := by decide +kernel
def N1492 : List Str := ["_law_script", "_law_state", "_law_head", "_law_words", "_law_text_here", "_law_word_here", "_law_reader", "_law_told", "_law_k"]
def G1492 : List (Str × GD) := [("_law_text", .fn 47), ("_law_word", .fn 446), ("_law_digit", .fn 2), ("write_number", .fn 447), ("write_text", .fn 448), ("_law_same", .fn 3), ("_law_written", .fn 449), ("_law_refused", .fn 1553), ("_law_wrong", .fn 1284)]
def B1492 : List Str := ["range", "isinstance", "str"]
theorem sc1492 : FnScope N1492 ["_law_script"] (defScope s1492) := ⟨rfl, rfl, rfl, by decide +kernel, rfl, by decide +kernel, by decide +kernel⟩
theorem ck1492 : chkSs ⟨N1492, defScope s1492, fun _ => true, G1492, B1492, [], [("SavedReader", 941, "SavedReader")], [("SavedReader", "take_head", 1280), ("SavedReader", "at_end", 1281), ("SavedReader", "take_text", 1283), ("SavedReader", "take_number", 1282)], [], [], [], [], {}⟩ c1492 (defBody s1492) = true := by decide +kernel
abbrev FnL (K : PySem.W.Frag) (d : He.DefD) (f : Addr) (fd : FuncData) : Prop := FunD K d.name d.qual d.params d.body d.scope [] [] f fd
section
variable {P : Pm} {mg : Str → Option Value} {base : Heap}
theorem ok1 {f1 : Addr} {fd1 : FuncData} (F1 : FnL P.K dd1 f1 fd1) (g1 : mg "_law_row" = some (.ref f1)) (b_len : mg "len" = none) (b_int : mg "int" = none) : OkD P.pg P.wl P.K mg base P 1 f1 fd1 ["_law_script", "_law_k"] sp1 := okD (Φ := (ΦL 1)) (κ := κL) rfl rfl rfl (Tab.nil (by simp [B1, b_len, b_int])) F1 sc1 ck1 ln1 (rd1)
theorem ok2 {f1 : Addr} {fd1 : FuncData} (F1 : FnL P.K dd1 f1 fd1) (g1 : mg "_law_row" = some (.ref f1)) {f2 : Addr} {fd2 : FuncData} (F2 : FnL P.K dd2 f2 fd2) (g2 : mg "_law_digit" = some (.ref f2)) (b_len : mg "len" = none) (b_int : mg "int" = none) : OkD P.pg P.wl P.K mg base P 2 f2 fd2 ["_law_script", "_law_state", "_law_many"] sp2w := okD (Φ := (ΦL 1)) (κ := κL) rfl rfl rfl (Tab.consF (Tab.nil (by simp [B2, b_int])) (by omega) g1 F1.kp (ok1 F1 g1 b_len b_int) (FunD.bindsN F1 fun _ _ _ _ _ _ us hl => match us, hl with | [_, _], _ => rfl)) F2 sc2 ck2 ln2w (rd2w rfl)
theorem ok47 {f1 : Addr} {fd1 : FuncData} (F1 : FnL P.K dd1 f1 fd1) (g1 : mg "_law_row" = some (.ref f1)) {f2 : Addr} {fd2 : FuncData} (F2 : FnL P.K dd2 f2 fd2) (g2 : mg "_law_digit" = some (.ref f2)) {f47 : Addr} {fd47 : FuncData} (F47 : FnL P.K dd47 f47 fd47) (g47 : mg "_law_text" = some (.ref f47)) (b_len : mg "len" = none) (b_int : mg "int" = none) (b_max : mg "max" = none) (b_range : mg "range" = none) : OkD P.pg P.wl P.K mg base P 3 f47 fd47 ["_law_script", "_law_state", "_law_most"] sp47w := okD (Φ := (ΦL 1)) (κ := κL) rfl rfl rfl (Tab.consF (Tab.nil (by simp [B47, b_max, b_len, b_range])) (by omega) g2 F2.kp (ok2 F1 g1 F2 g2 b_len b_int) (FunD.bindsN F2 fun _ _ _ _ _ _ us hl => match us, hl with | [_, _, _], _ => rfl)) F47 sc47 ck47 ln47w (rd47w rfl)
theorem ok446 {f1 : Addr} {fd1 : FuncData} (F1 : FnL P.K dd1 f1 fd1) (g1 : mg "_law_row" = some (.ref f1)) {f2 : Addr} {fd2 : FuncData} (F2 : FnL P.K dd2 f2 fd2) (g2 : mg "_law_digit" = some (.ref f2)) {f47 : Addr} {fd47 : FuncData} (F47 : FnL P.K dd47 f47 fd47) (g47 : mg "_law_text" = some (.ref f47)) {f446 : Addr} {fd446 : FuncData} (F446 : FnL P.K dd446 f446 fd446) (g446 : mg "_law_word" = some (.ref f446)) (b_len : mg "len" = none) (b_int : mg "int" = none) (b_max : mg "max" = none) (b_range : mg "range" = none) : OkD P.pg P.wl P.K mg base P 4 f446 fd446 ["_law_script", "_law_state"] sp446 := okD (Φ := (ΦL 1)) (κ := κL) rfl rfl rfl (Tab.consF (Tab.consF (Tab.nil (by simp [B446])) (by omega) g47 F47.kp (ok47 F1 g1 F2 g2 F47 g47 b_len b_int b_max b_range) (FunD.bindsN F47 fun _ _ _ _ _ _ us hl => match us, hl with | [_, _, _], _ => rfl)) (by omega) g2 F2.kp (ok2 F1 g1 F2 g2 b_len b_int) (FunD.bindsN F2 fun _ _ _ _ _ _ us hl => match us, hl with | [_, _, _], _ => rfl)) F446 sc446 ck446 ln446 (rd446 rfl rfl)
theorem ok447 {f447 : Addr} {fd447 : FuncData} (F447 : FnL P.K dd447 f447 fd447) (g447 : mg "write_number" = some (.ref f447)) (b_str : mg "str" = none) : OkD P.pg P.wl P.K mg base P 1 f447 fd447 ["number"] sp447 := okD (Φ := (ΦL 1)) (κ := κL) rfl rfl rfl (Tab.nil (by simp [B447, b_str])) F447 sc447 ck447 ln447 (rd447)
theorem ok448 {f447 : Addr} {fd447 : FuncData} (F447 : FnL P.K dd447 f447 fd447) (g447 : mg "write_number" = some (.ref f447)) {f448 : Addr} {fd448 : FuncData} (F448 : FnL P.K dd448 f448 fd448) (g448 : mg "write_text" = some (.ref f448)) (b_len : mg "len" = none) (b_str : mg "str" = none) : OkD P.pg P.wl P.K mg base P 2 f448 fd448 ["text"] sp448 := okD (Φ := (ΦL 1)) (κ := κL) rfl rfl rfl (Tab.consF (Tab.nil (by simp [B448, b_len])) (by omega) g447 F447.kp (ok447 F447 g447 b_str) (FunD.bindsN F447 fun _ _ _ _ _ _ us hl => match us, hl with | [_], _ => rfl)) F448 sc448 ck448 ln448 (rd448 rfl)
theorem ok3 {f3 : Addr} {fd3 : FuncData} (F3 : FnL P.K dd3 f3 fd3) (g3 : mg "_law_same" = some (.ref f3)) (b_len : mg "len" = none) (b_int : mg "int" = none) (b_range : mg "range" = none) (b_str : mg "str" = none) (b_isinstance : mg "isinstance" = none) (b_bool : mg "bool" = none) (b_tuple : mg "tuple" = none) (b_list : mg "list" = none) : ∀ d, OkD P.pg P.wl P.K mg base P (0 + d) f3 fd3 ["_law_actual", "_law_expected"] (sp3 d)
  | 0 => OkD.imp OkD.no z3
  | d + 1 => by
    have ih := ok3 F3 g3 b_len b_int b_range b_str b_isinstance b_bool b_tuple b_list d
    have hk : 0 ≤ 0 + d := by omega
    exact okD (Φ := (ΦL d)) (κ := κL) (k := 0 + d) rfl rfl rfl (Tab.consF (Tab.nil (by simp [B3, b_isinstance, b_bool, b_int, b_str, b_tuple, b_list, b_len, b_range])) (by omega) g3 F3.kp ih (FunD.bindsN F3 fun _ _ _ _ _ _ us hl => match us, hl with | [_, _], _ => rfl)) F3 sc3 ck3 (ln3 (d + 1)) (rd3 rfl)
theorem ok449 {f449 : Addr} {fd449 : FuncData} (F449 : FnL P.K dd449 f449 fd449) (g449 : mg "_law_written" = some (.ref f449)) (b_len : mg "len" = none) (b_str : mg "str" = none) (b_isinstance : mg "isinstance" = none) : OkD P.pg P.wl P.K mg base P 1 f449 fd449 ["_law_word_here"] sp449 := okD (Φ := (ΦL 1)) (κ := κL) rfl rfl rfl (Tab.nil (by simp [B449, b_isinstance, b_str, b_len])) F449 sc449 ck449 ln449 (rd449)
theorem ok941 {f941 : Addr} {fd941 : FuncData} (F941 : FnL P.K dd941 f941 fd941) (g941 : mg "SavedReader" = some (.ref (P.cls "SavedReader"))) (mk941 : L2.Mk P.K (P.cls "SavedReader") f941) (fl : ∀ q ∈ FLL, Cls P.K (P.cls q.1) ∧ NoAttr P.K (P.cls q.1) q.2) : OkD P.pg P.wl P.K mg base P 1 f941 fd941 ["self", "text"] sp941 := okDC (Φ := (ΦL 1)) (κ := κL) rfl rfl rfl (Tab.nil (by simp [B941])) F941 sc941 ck941 fl (fun _ h => by cases h) ln941 (rd941)
theorem ok1491 {f1491 : Addr} {fd1491 : FuncData} (F1491 : FnL P.K dd1491 f1491 fd1491) (g1491 : Cls P.K (P.cls "SavedReader")) (m1491 : Meth P.K (P.cls "SavedReader") "number_end" f1491) (fl : ∀ q ∈ FLL, Cls P.K (P.cls q.1) ∧ NoAttr P.K (P.cls q.1) q.2) (xo : ∀ k, 2 ≤ k → XOk P.pg P.wl P.K mg base P xcL k) (hc42 : ∃ u v, mg "DIGITS" = some u ∧ RelV v u ∧ ∀ w, RelD P w (k42) v) (hc45 : ∃ u v, mg "MOST_DIGITS" = some u ∧ RelV v u ∧ ∀ w, RelD P w (k45) v) (b_len : mg "len" = none) : OkD P.pg P.wl P.K mg base P 3 f1491 fd1491 ["self"] sp1491 := okDX (Φ := (ΦL 1)) (κ := κL) rfl rfl rfl (Tab.consC (Tab.consC (Tab.nil (by simp [B1491, b_len])) hc45) hc42) F1491 sc1491 (xo _ (by omega)) (.of ck1491) fl (fun _ h => by cases h) (fun _ h => by cases h) (fun _ h => by cases h) (fun _ h => by cases h) (fun _ h => by cases h) ln1491 (rd1491 rfl rfl)
theorem ok1282 {f1491 : Addr} {fd1491 : FuncData} (F1491 : FnL P.K dd1491 f1491 fd1491) (g1491 : Cls P.K (P.cls "SavedReader")) (m1491 : Meth P.K (P.cls "SavedReader") "number_end" f1491) {f1282 : Addr} {fd1282 : FuncData} (F1282 : FnL P.K dd1282 f1282 fd1282) (g1282 : Cls P.K (P.cls "SavedReader")) (m1282 : Meth P.K (P.cls "SavedReader") "take_number" f1282) (fl : ∀ q ∈ FLL, Cls P.K (P.cls q.1) ∧ NoAttr P.K (P.cls q.1) q.2) (xo : ∀ k, 2 ≤ k → XOk P.pg P.wl P.K mg base P xcL k) (hc42 : ∃ u v, mg "DIGITS" = some u ∧ RelV v u ∧ ∀ w, RelD P w (k42) v) (hc45 : ∃ u v, mg "MOST_DIGITS" = some u ∧ RelV v u ∧ ∀ w, RelD P w (k45) v) (b_len : mg "len" = none) (b_int : mg "int" = none) : OkD P.pg P.wl P.K mg base P 4 f1282 fd1282 ["self"] sp1282 := okDM (Φ := (ΦL 1)) (κ := κL) rfl rfl rfl (Tab.nil (by simp [B1282, b_int])) F1282 sc1282 ck1282 fl (fun _ h => by cases h) (by intro q hq; simp only [List.mem_cons, List.not_mem_nil, or_false] at hq; rcases hq with rfl; exact ⟨_, _, _, _, by omega, g1491, m1491, (ok1491 F1491 g1491 m1491 fl xo hc42 hc45 b_len), (FunD.bindsN F1491 fun _ _ _ _ _ _ us hl => match us, hl with | [_], _ => rfl)⟩) ln1282 (rd1282 rfl)
theorem ok1283 {f1491 : Addr} {fd1491 : FuncData} (F1491 : FnL P.K dd1491 f1491 fd1491) (g1491 : Cls P.K (P.cls "SavedReader")) (m1491 : Meth P.K (P.cls "SavedReader") "number_end" f1491) {f1283 : Addr} {fd1283 : FuncData} (F1283 : FnL P.K dd1283 f1283 fd1283) (g1283 : Cls P.K (P.cls "SavedReader")) (m1283 : Meth P.K (P.cls "SavedReader") "take_text" f1283) (fl : ∀ q ∈ FLL, Cls P.K (P.cls q.1) ∧ NoAttr P.K (P.cls q.1) q.2) (xo : ∀ k, 2 ≤ k → XOk P.pg P.wl P.K mg base P xcL k) (hc42 : ∃ u v, mg "DIGITS" = some u ∧ RelV v u ∧ ∀ w, RelD P w (k42) v) (hc45 : ∃ u v, mg "MOST_DIGITS" = some u ∧ RelV v u ∧ ∀ w, RelD P w (k45) v) (b_len : mg "len" = none) (b_int : mg "int" = none) : OkD P.pg P.wl P.K mg base P 4 f1283 fd1283 ["self"] sp1283 := okDX (Φ := (ΦL 1)) (κ := κL) rfl rfl rfl (Tab.nil (by simp [B1283, b_int, b_len])) F1283 sc1283 (xo _ (by omega)) (.of ck1283) fl (fun _ h => by cases h) (by intro q hq; simp only [List.mem_cons, List.not_mem_nil, or_false] at hq; rcases hq with rfl; exact ⟨_, _, _, _, by omega, g1491, m1491, (ok1491 F1491 g1491 m1491 fl xo hc42 hc45 b_len), (FunD.bindsN F1491 fun _ _ _ _ _ _ us hl => match us, hl with | [_], _ => rfl)⟩) (fun _ h => by cases h) (fun _ h => by cases h) (fun _ h => by cases h) ln1283 (rd1283 rfl)
theorem ok1280 {f1280 : Addr} {fd1280 : FuncData} (F1280 : FnL P.K dd1280 f1280 fd1280) (g1280 : Cls P.K (P.cls "SavedReader")) (m1280 : Meth P.K (P.cls "SavedReader") "take_head" f1280) (fl : ∀ q ∈ FLL, Cls P.K (P.cls q.1) ∧ NoAttr P.K (P.cls q.1) q.2) (xo : ∀ k, 2 ≤ k → XOk P.pg P.wl P.K mg base P xcL k) (b_len : mg "len" = none) : OkD P.pg P.wl P.K mg base P 3 f1280 fd1280 ["self", "head"] sp1280 := okDX (Φ := (ΦL 1)) (κ := κL) rfl rfl rfl (Tab.nil (by simp [B1280, b_len])) F1280 sc1280 (xo _ (by omega)) (.of ck1280) fl (fun _ h => by cases h) (fun _ h => by cases h) (fun _ h => by cases h) (fun _ h => by cases h) (fun _ h => by cases h) ln1280 (rd1280)
theorem ok1553 {f1491 : Addr} {fd1491 : FuncData} (F1491 : FnL P.K dd1491 f1491 fd1491) (g1491 : Cls P.K (P.cls "SavedReader")) (m1491 : Meth P.K (P.cls "SavedReader") "number_end" f1491) {f1282 : Addr} {fd1282 : FuncData} (F1282 : FnL P.K dd1282 f1282 fd1282) (g1282 : Cls P.K (P.cls "SavedReader")) (m1282 : Meth P.K (P.cls "SavedReader") "take_number" f1282) {f1283 : Addr} {fd1283 : FuncData} (F1283 : FnL P.K dd1283 f1283 fd1283) (g1283 : Cls P.K (P.cls "SavedReader")) (m1283 : Meth P.K (P.cls "SavedReader") "take_text" f1283) {f1280 : Addr} {fd1280 : FuncData} (F1280 : FnL P.K dd1280 f1280 fd1280) (g1280 : Cls P.K (P.cls "SavedReader")) (m1280 : Meth P.K (P.cls "SavedReader") "take_head" f1280) {f1553 : Addr} {fd1553 : FuncData} (F1553 : FnL P.K dd1553 f1553 fd1553) (g1553 : mg "_law_refused" = some (.ref f1553)) (fl : ∀ q ∈ FLL, Cls P.K (P.cls q.1) ∧ NoAttr P.K (P.cls q.1) q.2) (xo : ∀ k, 2 ≤ k → XOk P.pg P.wl P.K mg base P xcL k) (hc42 : ∃ u v, mg "DIGITS" = some u ∧ RelV v u ∧ ∀ w, RelD P w (k42) v) (hc45 : ∃ u v, mg "MOST_DIGITS" = some u ∧ RelV v u ∧ ∀ w, RelD P w (k45) v) (b_len : mg "len" = none) (b_int : mg "int" = none) (b_isinstance : mg "isinstance" = none) (b_ValueError : mg "ValueError" = none) : OkD P.pg P.wl P.K mg base P 5 f1553 fd1553 ["_law_reader", "_law_kind", "_law_head"] sp1553 := okDX (Φ := (ΦL 1)) (κ := κL) rfl rfl rfl (Tab.nil (by simp [B1553, b_isinstance, b_ValueError])) F1553 sc1553 (xo _ (by omega)) (.blocks ck1553) (fun _ h => by cases h) (fun _ h => by cases h) (by intro q hq; simp only [List.mem_cons, List.not_mem_nil, or_false] at hq; rcases hq with rfl | rfl | rfl; exact ⟨_, _, _, _, by omega, g1282, m1282, (ok1282 F1491 g1491 m1491 F1282 g1282 m1282 fl xo hc42 hc45 b_len b_int), (FunD.bindsN F1282 fun _ _ _ _ _ _ us hl => match us, hl with | [_], _ => rfl)⟩; exact ⟨_, _, _, _, by omega, g1283, m1283, (ok1283 F1491 g1491 m1491 F1283 g1283 m1283 fl xo hc42 hc45 b_len b_int), (FunD.bindsN F1283 fun _ _ _ _ _ _ us hl => match us, hl with | [_], _ => rfl)⟩; exact ⟨_, _, _, _, by omega, g1280, m1280, (ok1280 F1280 g1280 m1280 fl xo b_len), (FunD.bindsN F1280 fun _ _ _ _ _ _ us hl => match us, hl with | [_, _], _ => rfl)⟩) (fun _ h => by cases h) (fun _ h => by cases h) (fun _ h => by cases h) ln1553 (rd1553 rfl rfl rfl)
theorem ok1281 {f1281 : Addr} {fd1281 : FuncData} (F1281 : FnL P.K dd1281 f1281 fd1281) (g1281 : Cls P.K (P.cls "SavedReader")) (m1281 : Meth P.K (P.cls "SavedReader") "at_end" f1281) (fl : ∀ q ∈ FLL, Cls P.K (P.cls q.1) ∧ NoAttr P.K (P.cls q.1) q.2) (b_len : mg "len" = none) : OkD P.pg P.wl P.K mg base P 1 f1281 fd1281 ["self"] sp1281 := okDC (Φ := (ΦL 1)) (κ := κL) rfl rfl rfl (Tab.nil (by simp [B1281, b_len])) F1281 sc1281 ck1281 fl (fun _ h => by cases h) ln1281 (rd1281)
theorem ok1284 {f941 : Addr} {fd941 : FuncData} (F941 : FnL P.K dd941 f941 fd941) (g941 : mg "SavedReader" = some (.ref (P.cls "SavedReader"))) (mk941 : L2.Mk P.K (P.cls "SavedReader") f941) {f1280 : Addr} {fd1280 : FuncData} (F1280 : FnL P.K dd1280 f1280 fd1280) (g1280 : Cls P.K (P.cls "SavedReader")) (m1280 : Meth P.K (P.cls "SavedReader") "take_head" f1280) {f1491 : Addr} {fd1491 : FuncData} (F1491 : FnL P.K dd1491 f1491 fd1491) (g1491 : Cls P.K (P.cls "SavedReader")) (m1491 : Meth P.K (P.cls "SavedReader") "number_end" f1491) {f1282 : Addr} {fd1282 : FuncData} (F1282 : FnL P.K dd1282 f1282 fd1282) (g1282 : Cls P.K (P.cls "SavedReader")) (m1282 : Meth P.K (P.cls "SavedReader") "take_number" f1282) {f1283 : Addr} {fd1283 : FuncData} (F1283 : FnL P.K dd1283 f1283 fd1283) (g1283 : Cls P.K (P.cls "SavedReader")) (m1283 : Meth P.K (P.cls "SavedReader") "take_text" f1283) {f1553 : Addr} {fd1553 : FuncData} (F1553 : FnL P.K dd1553 f1553 fd1553) (g1553 : mg "_law_refused" = some (.ref f1553)) {f1281 : Addr} {fd1281 : FuncData} (F1281 : FnL P.K dd1281 f1281 fd1281) (g1281 : Cls P.K (P.cls "SavedReader")) (m1281 : Meth P.K (P.cls "SavedReader") "at_end" f1281) {f1 : Addr} {fd1 : FuncData} (F1 : FnL P.K dd1 f1 fd1) (g1 : mg "_law_row" = some (.ref f1)) {f2 : Addr} {fd2 : FuncData} (F2 : FnL P.K dd2 f2 fd2) (g2 : mg "_law_digit" = some (.ref f2)) {f3 : Addr} {fd3 : FuncData} (F3 : FnL P.K dd3 f3 fd3) (g3 : mg "_law_same" = some (.ref f3)) {f1284 : Addr} {fd1284 : FuncData} (F1284 : FnL P.K dd1284 f1284 fd1284) (g1284 : mg "_law_wrong" = some (.ref f1284)) (fl : ∀ q ∈ FLL, Cls P.K (P.cls q.1) ∧ NoAttr P.K (P.cls q.1) q.2) (xo : ∀ k, 2 ≤ k → XOk P.pg P.wl P.K mg base P xcL k) (hc42 : ∃ u v, mg "DIGITS" = some u ∧ RelV v u ∧ ∀ w, RelD P w (k42) v) (hc45 : ∃ u v, mg "MOST_DIGITS" = some u ∧ RelV v u ∧ ∀ w, RelD P w (k45) v) (b_len : mg "len" = none) (b_int : mg "int" = none) (b_range : mg "range" = none) (b_str : mg "str" = none) (b_isinstance : mg "isinstance" = none) (b_bool : mg "bool" = none) (b_tuple : mg "tuple" = none) (b_list : mg "list" = none) (b_ValueError : mg "ValueError" = none) : OkD P.pg P.wl P.K mg base P 6 f1284 fd1284 ["_law_script", "_law_state"] sp1284 := okDM (Φ := (ΦL 1)) (κ := κL) rfl rfl rfl (Tab.consF (Tab.consF (Tab.consF (Tab.nil (by simp [B1284, b_range, b_str])) (by omega) g3 F3.kp ((ok3 F3 g3 b_len b_int b_range b_str b_isinstance b_bool b_tuple b_list) 1) (FunD.bindsN F3 fun _ _ _ _ _ _ us hl => match us, hl with | [_, _], _ => rfl)) (by omega) g2 F2.kp (ok2 F1 g1 F2 g2 b_len b_int) (FunD.bindsN F2 fun _ _ _ _ _ _ us hl => match us, hl with | [_, _, _], _ => rfl)) (by omega) g1553 F1553.kp (ok1553 F1491 g1491 m1491 F1282 g1282 m1282 F1283 g1283 m1283 F1280 g1280 m1280 F1553 g1553 fl xo hc42 hc45 b_len b_int b_isinstance b_ValueError) (FunD.bindsN F1553 fun _ _ _ _ _ _ us hl => match us, hl with | [_, _, _], _ => rfl)) F1284 sc1284 ck1284 (fun _ h => by cases h) (by intro q hq; simp only [List.mem_cons, List.not_mem_nil, or_false] at hq; rcases hq with rfl; exact ⟨_, _, _, _, by omega, g941, mk941, (ok941 F941 g941 mk941 fl), (FunD.bindsN F941 fun _ _ _ _ _ _ us hl => match us, hl with | [_, _], _ => rfl)⟩) (by intro q hq; simp only [List.mem_cons, List.not_mem_nil, or_false] at hq; rcases hq with rfl | rfl | rfl; exact ⟨_, _, _, _, by omega, g1280, m1280, (ok1280 F1280 g1280 m1280 fl xo b_len), (FunD.bindsN F1280 fun _ _ _ _ _ _ us hl => match us, hl with | [_, _], _ => rfl)⟩; exact ⟨_, _, _, _, by omega, g1281, m1281, (ok1281 F1281 g1281 m1281 fl b_len), (FunD.bindsN F1281 fun _ _ _ _ _ _ us hl => match us, hl with | [_], _ => rfl)⟩; exact ⟨_, _, _, _, by omega, g1282, m1282, (ok1282 F1491 g1491 m1491 F1282 g1282 m1282 fl xo hc42 hc45 b_len b_int), (FunD.bindsN F1282 fun _ _ _ _ _ _ us hl => match us, hl with | [_], _ => rfl)⟩) ln1284 (rd1284 rfl rfl rfl rfl rfl rfl rfl)
theorem ok1492 {f1 : Addr} {fd1 : FuncData} (F1 : FnL P.K dd1 f1 fd1) (g1 : mg "_law_row" = some (.ref f1)) {f2 : Addr} {fd2 : FuncData} (F2 : FnL P.K dd2 f2 fd2) (g2 : mg "_law_digit" = some (.ref f2)) {f47 : Addr} {fd47 : FuncData} (F47 : FnL P.K dd47 f47 fd47) (g47 : mg "_law_text" = some (.ref f47)) {f446 : Addr} {fd446 : FuncData} (F446 : FnL P.K dd446 f446 fd446) (g446 : mg "_law_word" = some (.ref f446)) {f447 : Addr} {fd447 : FuncData} (F447 : FnL P.K dd447 f447 fd447) (g447 : mg "write_number" = some (.ref f447)) {f448 : Addr} {fd448 : FuncData} (F448 : FnL P.K dd448 f448 fd448) (g448 : mg "write_text" = some (.ref f448)) {f3 : Addr} {fd3 : FuncData} (F3 : FnL P.K dd3 f3 fd3) (g3 : mg "_law_same" = some (.ref f3)) {f449 : Addr} {fd449 : FuncData} (F449 : FnL P.K dd449 f449 fd449) (g449 : mg "_law_written" = some (.ref f449)) {f941 : Addr} {fd941 : FuncData} (F941 : FnL P.K dd941 f941 fd941) (g941 : mg "SavedReader" = some (.ref (P.cls "SavedReader"))) (mk941 : L2.Mk P.K (P.cls "SavedReader") f941) {f1491 : Addr} {fd1491 : FuncData} (F1491 : FnL P.K dd1491 f1491 fd1491) (g1491 : Cls P.K (P.cls "SavedReader")) (m1491 : Meth P.K (P.cls "SavedReader") "number_end" f1491) {f1282 : Addr} {fd1282 : FuncData} (F1282 : FnL P.K dd1282 f1282 fd1282) (g1282 : Cls P.K (P.cls "SavedReader")) (m1282 : Meth P.K (P.cls "SavedReader") "take_number" f1282) {f1283 : Addr} {fd1283 : FuncData} (F1283 : FnL P.K dd1283 f1283 fd1283) (g1283 : Cls P.K (P.cls "SavedReader")) (m1283 : Meth P.K (P.cls "SavedReader") "take_text" f1283) {f1280 : Addr} {fd1280 : FuncData} (F1280 : FnL P.K dd1280 f1280 fd1280) (g1280 : Cls P.K (P.cls "SavedReader")) (m1280 : Meth P.K (P.cls "SavedReader") "take_head" f1280) {f1553 : Addr} {fd1553 : FuncData} (F1553 : FnL P.K dd1553 f1553 fd1553) (g1553 : mg "_law_refused" = some (.ref f1553)) {f1281 : Addr} {fd1281 : FuncData} (F1281 : FnL P.K dd1281 f1281 fd1281) (g1281 : Cls P.K (P.cls "SavedReader")) (m1281 : Meth P.K (P.cls "SavedReader") "at_end" f1281) {f1284 : Addr} {fd1284 : FuncData} (F1284 : FnL P.K dd1284 f1284 fd1284) (g1284 : mg "_law_wrong" = some (.ref f1284)) {f1492 : Addr} {fd1492 : FuncData} (F1492 : FnL P.K dd1492 f1492 fd1492) (g1492 : mg "law" = some (.ref f1492)) (fl : ∀ q ∈ FLL, Cls P.K (P.cls q.1) ∧ NoAttr P.K (P.cls q.1) q.2) (xo : ∀ k, 2 ≤ k → XOk P.pg P.wl P.K mg base P xcL k) (hc42 : ∃ u v, mg "DIGITS" = some u ∧ RelV v u ∧ ∀ w, RelD P w (k42) v) (hc45 : ∃ u v, mg "MOST_DIGITS" = some u ∧ RelV v u ∧ ∀ w, RelD P w (k45) v) (b_len : mg "len" = none) (b_int : mg "int" = none) (b_max : mg "max" = none) (b_range : mg "range" = none) (b_str : mg "str" = none) (b_isinstance : mg "isinstance" = none) (b_bool : mg "bool" = none) (b_tuple : mg "tuple" = none) (b_list : mg "list" = none) (b_ValueError : mg "ValueError" = none) : OkD P.pg P.wl P.K mg base P 7 f1492 fd1492 ["_law_script"] (spLaw 63) := okDM (Φ := (ΦL 1)) (κ := κL) rfl rfl rfl (Tab.consF (Tab.consF (Tab.consF (Tab.consF (Tab.consF (Tab.consF (Tab.consF (Tab.consF (Tab.consF (Tab.nil (by simp [B1492, b_range, b_isinstance, b_str])) (by omega) g1284 F1284.kp (ok1284 F941 g941 mk941 F1280 g1280 m1280 F1491 g1491 m1491 F1282 g1282 m1282 F1283 g1283 m1283 F1553 g1553 F1281 g1281 m1281 F1 g1 F2 g2 F3 g3 F1284 g1284 fl xo hc42 hc45 b_len b_int b_range b_str b_isinstance b_bool b_tuple b_list b_ValueError) (FunD.bindsN F1284 fun _ _ _ _ _ _ us hl => match us, hl with | [_, _], _ => rfl)) (by omega) g1553 F1553.kp (ok1553 F1491 g1491 m1491 F1282 g1282 m1282 F1283 g1283 m1283 F1280 g1280 m1280 F1553 g1553 fl xo hc42 hc45 b_len b_int b_isinstance b_ValueError) (FunD.bindsN F1553 fun _ _ _ _ _ _ us hl => match us, hl with | [_, _, _], _ => rfl)) (by omega) g449 F449.kp (ok449 F449 g449 b_len b_str b_isinstance) (FunD.bindsN F449 fun _ _ _ _ _ _ us hl => match us, hl with | [_], _ => rfl)) (by omega) g3 F3.kp ((ok3 F3 g3 b_len b_int b_range b_str b_isinstance b_bool b_tuple b_list) 1) (FunD.bindsN F3 fun _ _ _ _ _ _ us hl => match us, hl with | [_, _], _ => rfl)) (by omega) g448 F448.kp (ok448 F447 g447 F448 g448 b_len b_str) (FunD.bindsN F448 fun _ _ _ _ _ _ us hl => match us, hl with | [_], _ => rfl)) (by omega) g447 F447.kp (ok447 F447 g447 b_str) (FunD.bindsN F447 fun _ _ _ _ _ _ us hl => match us, hl with | [_], _ => rfl)) (by omega) g2 F2.kp (ok2 F1 g1 F2 g2 b_len b_int) (FunD.bindsN F2 fun _ _ _ _ _ _ us hl => match us, hl with | [_, _, _], _ => rfl)) (by omega) g446 F446.kp (ok446 F1 g1 F2 g2 F47 g47 F446 g446 b_len b_int b_max b_range) (FunD.bindsN F446 fun _ _ _ _ _ _ us hl => match us, hl with | [_, _], _ => rfl)) (by omega) g47 F47.kp (ok47 F1 g1 F2 g2 F47 g47 b_len b_int b_max b_range) (FunD.bindsN F47 fun _ _ _ _ _ _ us hl => match us, hl with | [_, _, _], _ => rfl)) F1492 sc1492 ck1492 (fun _ h => by cases h) (by intro q hq; simp only [List.mem_cons, List.not_mem_nil, or_false] at hq; rcases hq with rfl; exact ⟨_, _, _, _, by omega, g941, mk941, (ok941 F941 g941 mk941 fl), (FunD.bindsN F941 fun _ _ _ _ _ _ us hl => match us, hl with | [_, _], _ => rfl)⟩) (by intro q hq; simp only [List.mem_cons, List.not_mem_nil, or_false] at hq; rcases hq with rfl | rfl | rfl | rfl; exact ⟨_, _, _, _, by omega, g1280, m1280, (ok1280 F1280 g1280 m1280 fl xo b_len), (FunD.bindsN F1280 fun _ _ _ _ _ _ us hl => match us, hl with | [_, _], _ => rfl)⟩; exact ⟨_, _, _, _, by omega, g1281, m1281, (ok1281 F1281 g1281 m1281 fl b_len), (FunD.bindsN F1281 fun _ _ _ _ _ _ us hl => match us, hl with | [_], _ => rfl)⟩; exact ⟨_, _, _, _, by omega, g1283, m1283, (ok1283 F1491 g1491 m1491 F1283 g1283 m1283 fl xo hc42 hc45 b_len b_int), (FunD.bindsN F1283 fun _ _ _ _ _ _ us hl => match us, hl with | [_], _ => rfl)⟩; exact ⟨_, _, _, _, by omega, g1282, m1282, (ok1282 F1491 g1491 m1491 F1282 g1282 m1282 fl xo hc42 hc45 b_len b_int), (FunD.bindsN F1282 fun _ _ _ _ _ _ us hl => match us, hl with | [_], _ => rfl)⟩) lnLaw (rd1492 rfl rfl rfl rfl rfl rfl rfl rfl rfl rfl rfl rfl rfl rfl)
end
theorem factsL {Pg : Program} {w : World} {K : PySem.W.Frag} {h : Heap} {mg : Str → Option Value} {f : Addr} (X : K.In h) (G : h.Ns mainGlobals mg) (hfa : mg ("law" : Str) = some (.ref f)) (c0 : SaysC faL fnL csL K) :
    ∃ fd : FuncData, (∀ (s : Shared) (v : Value), BindsTo s fd ⟨[v], []⟩ [("_law_script", v)]) ∧ ∀ base : Heap, OkD Pg w K mg base ⟨Pg, w, K, clsL K, []⟩ 7 f fd ["_law_script"] (spLaw 63) := by
  obtain ⟨c, cc⟩ := c0.two
  obtain ⟨fd1, F1⟩ := c.def_ 0 (d := dd1) rfl
  obtain ⟨fd2, F2⟩ := c.def_ 1 (d := dd2) rfl
  obtain ⟨fd47, F47⟩ := c.def_ 2 (d := dd47) rfl
  obtain ⟨fd446, F446⟩ := c.def_ 3 (d := dd446) rfl
  obtain ⟨fd447, F447⟩ := c.def_ 4 (d := dd447) rfl
  obtain ⟨fd448, F448⟩ := c.def_ 5 (d := dd448) rfl
  obtain ⟨fd3, F3⟩ := c.def_ 6 (d := dd3) rfl
  obtain ⟨fd449, F449⟩ := c.def_ 7 (d := dd449) rfl
  obtain ⟨fd941, F941⟩ := c.def_ 8 (d := dd941) rfl
  obtain ⟨fd1491, F1491⟩ := c.def_ 9 (d := dd1491) rfl
  obtain ⟨fd1282, F1282⟩ := c.def_ 10 (d := dd1282) rfl
  obtain ⟨fd1283, F1283⟩ := c.def_ 11 (d := dd1283) rfl
  obtain ⟨fd1280, F1280⟩ := c.def_ 12 (d := dd1280) rfl
  obtain ⟨fd1553, F1553⟩ := c.def_ 13 (d := dd1553) rfl
  obtain ⟨fd1281, F1281⟩ := c.def_ 14 (d := dd1281) rfl
  obtain ⟨fd1284, F1284⟩ := c.def_ 15 (d := dd1284) rfl
  obtain ⟨fd1492, F1492⟩ := c.def_ 16 (d := dd1492) rfl
  cases hfa.symm.trans (He.glo_ok X G (c.fact 10 (f := .glo "law") rfl))
  have b := FunD.bindsA (ps := ["_law_script"]) F1492 fun _ _ _ _ _ _ us hl => match us, hl with | [_], _ => rfl
  exact ⟨fd1492, fun s v => b s [v] rfl, fun base => ok1492 (P := ⟨Pg, w, K, clsL K, []⟩) F1 (He.glo_ok X G (c.fact 0 (f := .glo "_law_row") rfl)) F2 (He.glo_ok X G (c.fact 1 (f := .glo "_law_digit") rfl)) F47 (He.glo_ok X G (c.fact 2 (f := .glo "_law_text") rfl)) F446 (He.glo_ok X G (c.fact 3 (f := .glo "_law_word") rfl)) F447 (He.glo_ok X G (c.fact 4 (f := .glo "write_number") rfl)) F448 (He.glo_ok X G (c.fact 5 (f := .glo "write_text") rfl)) F3 (He.glo_ok X G (c.fact 6 (f := .glo "_law_same") rfl)) F449 (He.glo_ok X G (c.fact 7 (f := .glo "_law_written") rfl)) F941 (He.glo_ok X G (c.fact 16 (f := .glo "SavedReader") rfl)) (He.mkr_ok (c.fact 20 (f := .mkr "SavedReader") rfl)) F1491 (He.cls_ok (c.fact 17 (f := .cls "SavedReader") rfl)) (He.meth_ok (c.fact 11 (f := .meth "SavedReader" "number_end") rfl)) F1282 (He.cls_ok (c.fact 17 (f := .cls "SavedReader") rfl)) (He.meth_ok (c.fact 12 (f := .meth "SavedReader" "take_number") rfl)) F1283 (He.cls_ok (c.fact 17 (f := .cls "SavedReader") rfl)) (He.meth_ok (c.fact 13 (f := .meth "SavedReader" "take_text") rfl)) F1280 (He.cls_ok (c.fact 17 (f := .cls "SavedReader") rfl)) (He.meth_ok (c.fact 14 (f := .meth "SavedReader" "take_head") rfl)) F1553 (He.glo_ok X G (c.fact 8 (f := .glo "_law_refused") rfl)) F1281 (He.cls_ok (c.fact 17 (f := .cls "SavedReader") rfl)) (He.meth_ok (c.fact 15 (f := .meth "SavedReader" "at_end") rfl)) F1284 (He.glo_ok X G (c.fact 9 (f := .glo "_law_wrong") rfl)) F1492 (He.glo_ok X G (c.fact 10 (f := .glo "law") rfl)) (by intro q hq; simp only [FLL, List.mem_cons, List.not_mem_nil, or_false] at hq; rcases hq with rfl | rfl <;> first | exact ⟨(He.cls_ok (c.fact 17 (f := .cls "SavedReader") rfl)), (He.noat_ok (c.fact 18 (f := .noat "SavedReader" "text") rfl))⟩ | exact ⟨(He.cls_ok (c.fact 17 (f := .cls "SavedReader") rfl)), (He.noat_ok (c.fact 19 (f := .noat "SavedReader" "position") rfl))⟩) (fun k hk => xok_of hk (fun _ => rfl) rfl (by intro q hq; simp only [xcL, List.mem_cons, List.not_mem_nil, or_false] at hq; rcases hq with rfl | rfl | rfl; exact ⟨(He.glo_ok X G (c.fact 21 (f := .glo "FirstwayError") rfl)), (cc ("FirstwayError", D.exc 0 none "s" ["FirstwayError", "CountError", "SavedTextError"] []) (by simp [csL]))⟩; exact ⟨(He.glo_ok X G (c.fact 22 (f := .glo "CountError") rfl)), (cc ("CountError", D.exc 0 none "s" ["FirstwayError", "CountError", "SavedTextError"] []) (by simp [csL]))⟩; exact ⟨(He.glo_ok X G (c.fact 23 (f := .glo "SavedTextError") rfl)), (cc ("SavedTextError", D.exc 0 none "s" ["FirstwayError", "CountError", "SavedTextError"] []) (by simp [csL]))⟩) (by intro q hq; simp only [xcL, List.mem_cons, List.not_mem_nil, or_false] at hq; rcases hq with rfl; exact ⟨(He.glo_ok X G (c.fact 23 (f := .glo "SavedTextError") rfl)), (cc ("SavedTextError", D.exc 0 none "r" [] []) (by simp [csL]))⟩) (fun _ h => by cases h) (fun _ h => by cases h) (fun _ h => by cases h)) (hcStr (He.str_ok X G (c.fact 34 (f := .str "DIGITS" "0123456789") rfl))) (hcInt (He.int_ok X G (c.fact 35 (f := .int "MOST_DIGITS" 9) rfl))) (He.free_ok X G (c.fact 24 (f := .free "len") rfl)) (He.free_ok X G (c.fact 25 (f := .free "int") rfl)) (He.free_ok X G (c.fact 26 (f := .free "max") rfl)) (He.free_ok X G (c.fact 27 (f := .free "range") rfl)) (He.free_ok X G (c.fact 28 (f := .free "str") rfl)) (He.free_ok X G (c.fact 29 (f := .free "isinstance") rfl)) (He.free_ok X G (c.fact 30 (f := .free "bool") rfl)) (He.free_ok X G (c.fact 31 (f := .free "tuple") rfl)) (He.free_ok X G (c.fact 32 (f := .free "list") rfl)) (He.free_ok X G (c.fact 33 (f := .free "ValueError") rfl))⟩
end DL
open PySem PySem.W PySem.Calls PyProof.Rows
theorem PySem.Challenge.cw_firstway_k89_saved_words_holds : PySem.Challenge.rw_firstway_k89_saved_words.Holds := by
  w_on; o_law
  refine HandSHeadRun.head_any (r := DL.rowL) (q := view DL.rowL.prog [19]) (H := DL.hkL) (ob := DL.obL) (M := 4000) (loose := ["FirstwayError", "CountError", "SavedTextError", "DIGITS", "MOST_DIGITS", "write_number", "write_text", "SavedReader", "_law_row", "_law_digit", "_law_text", "_law_same", "_law_word", "_law_written", "_law_refused", "_law_wrong"]) (d := HandSHeadRun.topDef DL.rowL.prog 19) (kwd := []) DL.obL_eq
    (by kernel_rfl) (fun s => by kernel_rfl) DL.runL (by kernel_rfl) (by kernel_rfl) (by kernel_rfl) (by rfl) (by first | assumption | decide +kernel) (by decide +kernel) ⟨rfl, rfl, rfl, rfl, rfl, by decide +kernel⟩ ?hw ?hc
  case hw => w_witness2
  case hc =>
    refine DL.walk_ofX (l := PySem.Challenge.rw_firstway_k89_saved_words) (n := 63) (k := 7) (x := "_law_script") rfl (by decide) (by kernel_rfl) ⟨rfl, by decide, by decide⟩ ?F
    intro w mg fa h Y G hmg0
    obtain ⟨K, KX, c⟩ := Y
    have hmg : mg ("law" : PySem.Str) = some (.ref fa) := hmg0
    obtain ⟨fd, hb, hF⟩ := DL.factsL (Pg := (PySem.Challenge.rw_firstway_k89_saved_words).prog) (w := w) KX G hmg c
    exact ⟨⟨(PySem.Challenge.rw_firstway_k89_saved_words).prog, w, K, DL.clsL K, []⟩, fd, rfl, KX, hb, fun base _ _ => hF base⟩
